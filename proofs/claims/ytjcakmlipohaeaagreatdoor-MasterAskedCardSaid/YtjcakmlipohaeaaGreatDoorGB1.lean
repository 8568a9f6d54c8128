/-
  Part of proofs about a town's master: a calculus for walks beside goroutines that are only leaving, and the walks. No condition.
-/
import Derived.Test.YtjcakmlipohaeaaGreatDoorGA
import Derived.KernelRfl
import Derived.Lib.UnsafeStr
namespace Go.X
open Go.Conc
abbrev Env:=List (Nat×Option Bool×Value)
def cv:Option Bool->Value->Value
 |none,v=>v
 |some c,v=>bif c then v else undef
def lk:Env->Nat->Option (Option Bool×Value)
 |[],_=>none
 |(j,x)::l,i=>bif Nat.beq j i then some x else lk l i
def EnvOk(tm:List Value)(l:Env):Prop:=∀i g v,lk l i=some (g,v)->tm[i]?=some (cv g v)
theorem EnvOk.set{tm:List Value}{l:Env}{d:Nat}{g:Option Bool}{v:Value}(E:EnvOk tm l)(hd:d<tm.length):EnvOk (tm.set d (cv g v)) ((d,g,v)::l):=by
 intro i g' v' h
 unfold lk at h
 by_cases e:d=i
 ·subst e
  rw[show Nat.beq d d=true from Nat.beq_refl d]at h
  cases h
  rw[List.getElem?_set_self hd]
 ·rw[show Nat.beq d i=false from by rw[Bool.eq_false_iff];intro z;exact e (Nat.eq_of_beq_eq_true z)]at h
  rw[List.getElem?_set_ne e]
  exact E i g' v' h
def AllP:List Prop->Prop
 |[]=>True
 |p::ps=>p/\AllP ps
theorem xdb{a b:List Prop}(h:AllP (a++b)):AllP a/\AllP b:=by
 induction a with
 |nil=>exact⟨trivial,h⟩
 |cons x a ih=>exact⟨⟨h.1,(ih h.2).1⟩,(ih h.2).2⟩
def evS(l:Env):Operand->Option (List Prop×Value)
 |.tmp t=>match lk l t with
   |some (none,v)=>some ([],v)
   |some (some c,v)=>some ([c=true],v)
   |none=>none
 |.const v=>some ([],v)
 |.global g=>some ([],.pointer (some ⟨g,0,none⟩))
 |.func f=>some ([],.func (.func f) #[] #[])
theorem xdq{tm:List Value}{l:Env}{x:Operand}{ss:List Prop}{v:Value}(E:EnvOk tm l)(h:evS l x=some (ss,v))(hs:AllP ss):evl tm x=v:=by
 cases x with
 |tmp t=>
   simp only[evS]at h
   cases e:lk l t with
   |none=>rw[e]at h;cases h
   |some q=>
     obtain⟨g,u⟩:=q
     have hk:=E t g u e
     rw[e]at h
     cases g with
     |none=>
       cases h
       simp[evl,List.getD_eq_getElem?_getD,hk,cv]
     |some c=>
       cases h
       have hc:c=true:=hs.1
       subst hc
       simp[evl,List.getD_eq_getElem?_getD,hk,cv]
 |const u=>simp[evS]at h;simp[evl,h.2]
 |global g=>simp[evS]at h;simp[evl,h.2]
 |func g=>simp[evS]at h;simp[evl,h.2]
def evsS(l:Env):List Operand->Option (List Prop×List Value)
 |[]=>some ([],[])
 |x::xs=>match evS l x with
   |some (s,v)=>match evsS l xs with
     |some (ss,vs)=>some (s++ss,v::vs)
     |none=>none
   |none=>none
theorem xlx{tm:List Value}{l:Env}(E:EnvOk tm l):∀{xs:List Operand}{ss:List Prop}{vs:List Value},evsS l xs=some (ss,vs)->AllP ss->xs.map (evl tm)=vs
 |[],ss,vs,h,_=>by simp[evsS]at h;simp[h.2]
 |x::xs,ss,vs,h,hs=>by
   unfold evsS at h
   split at h
   ·rename_i s v e1
    split at h
    ·rename_i ss' vs' e2
     cases h
     have a:=xdb hs
     rw[List.map_cons,xdq E e1 a.1,xlx E e2 a.2]
    ·cases h
   ·cases h
def pvI(k:IntKind)(a b:Int):BinOp->Option (List Prop×Value)
 |.add=>some ([k.wrap (a+b)=a+b],.int k (a+b))
 |.sub=>some ([k.wrap (a-b)=a-b],.int k (a-b))
 |.mul=>some ([k.wrap (a*b)=a*b],.int k (a*b))
 |.lss=>some ([],.bool (decide (a<b)))
 |.leq=>some ([],.bool (decide (a<=b)))
 |.gtr=>some ([],.bool (decide (b<a)))
 |.geq=>some ([],.bool (decide (b<=a)))
 |.eql=>some ([],.bool (decide (a=b)))
 |.neq=>some ([],.bool (decide (a≠b)))
 |_=>none
def kSame(k k':IntKind):Bool:=decide (k=k')
def pvB(op:BinOp)(s s':List Prop):Value->Value->Option (List Prop×Value)
 |.int k a,.int k' b=>match kSame k k' with
   |true=>match pvI k a b op with
     |some (ss,v)=>some (s++(s'++ss),v)
     |none=>none
   |false=>none
 |_,_=>none
def pvP(l:Env)(a b:Operand)(s:List Prop)(x:Bool):Option (List Prop×Value):=
 match a,b with
 |.const (.bool true),y=>match evS l y with
   |some (s',.bool y)=>some (s++[x=false->AllP s'],.bool (x||y))
   |_=>none
 |y,.const (.bool false)=>match evS l y with
   |some (s',.bool y)=>some (s++[x=true->AllP s'],.bool (x&&y))
   |_=>none
 |_,_=>none
def pv(l:Env):Op->Option (List Prop×Value)
 |.move x=>evS l x
 |.assign x=>evS l x
 |.binOp op _ x y _=>match evS l x with
   |some (s,a)=>match evS l y with
     |some (s',b)=>pvB op s s' a b
     |none=>none
   |none=>none
 |.unOp .not _ x=>match evS l x with
   |some (s,.bool b)=>some (s,.bool (!b))
   |_=>none
 |.unOp .neg _ x=>match evS l x with
   |some (s,.int k a)=>some (s++[k.wrap (0-a)= -a],.int k (-a))
   |_=>none
 |.extract x i=>match evS l x with
   |some (s,.tuple vs)=>match vs[i]? with
     |some v=>some (s,v)
     |none=>none
   |_=>none
 |.pick c a b=>match evS l c with
   |some (s,.bool x)=>pvP l a b s x
   |_=>none
 |_=>none
section
variable{P:Program}{tm:List Value}{h:Heap}{d:Option Tmp}{ty:TypeId}{pos:String}{aft:Array Edge}{gd:Option (Nat×Bool)}{l:Env}
theorem yar{op:BinOp}{T T':TypeId}{x y:Operand}{k:IntKind}{a b:Int}{ss:List Prop}{v:Value}(hv:pvI k a b op=some (ss,v))(hs:AllP ss)(hx:evl tm x=.int k a)(hy:evl tm y=.int k b):
 Exd P tm ⟨d,.binOp op T x y T',ty,pos,aft,gd⟩ h v:=by
 cases op<;>simp only[pvI,Option.some.injEq,Prod.mk.injEq,reduceCtorEq]at hv<;>obtain⟨rfl,rfl⟩:=hv
 ·exact yxj hx hy hs.1
 ·exact yoj hx hy hs.1
 ·exact ypj hx hy hs.1
 ·exact yim hx hy
 ·exact yam hx hy
 ·exact yem hx hy
 ·exact yfm hx hy
 ·exact ygm hx hy
 ·exact yhm hx hy
theorem yzp{op:Op}{ss:List Prop}{v:Value}(E:EnvOk tm l)(hv:pv l op=some (ss,v))(hs:AllP ss):Exd P tm ⟨d,op,ty,pos,aft,gd⟩ h v:=by
 cases op<;>simp only[pv,reduceCtorEq]at hv
 case move x=>exact yoc (xdq E hv hs)
 case assign x=>exact xq8 (xdq E hv hs)
 case binOp op T x y T'=>
  split at hv
  ·rename_i s a e1
   split at hv
   ·rename_i s' b e2
    unfold pvB at hv
    split at hv
    ·rename_i k a k' b
     split at hv
     ·rename_i hk
      obtain rfl:k=k':=of_decide_eq_true hk
      split at hv
      ·rename_i ss' v' e3
       cases hv
       have z:=xdb hs
       have z2:=xdb z.2
       exact yar e3 z2.2 (xdq E e1 z.1) (xdq E e2 z2.1)
      ·cases hv
     ·cases hv
    ·cases hv
   ·cases hv
  ·cases hv
 case unOp op T x=>
  cases op<;>simp only[reduceCtorEq]at hv
  ·split at hv
   ·rename_i s k a e1
    cases hv
    have z:=xdb hs
    exact xs2 (xdq E e1 z.1) z.2.1
   ·cases hv
  ·split at hv
   ·rename_i s b e1
    cases hv
    exact yzl (xdq E e1 hs)
   ·cases hv
 case extract x i=>
  split at hv
  ·rename_i s vs e1
   split at hv
   ·rename_i u e2
    cases hv
    exact xv2 (xdq E e1 hs) e2
   ·cases hv
  ·cases hv
 case pick c a b=>
  split at hv
  ·rename_i s x e1
   unfold pvP at hv
   split at hv
   ·split at hv
    ·rename_i s' y e2
     cases hv
     have z:=xdb hs
     cases x with
     |true=>exact xlp (xdq E e1 z.1) rfl rfl
     |false=>exact xmp (xdq E e1 z.1) rfl (xdq E e2 (z.2.1 rfl))
    ·cases hv
   ·split at hv
    ·rename_i s' y e2
     cases hv
     have z:=xdb hs
     cases x with
     |true=>exact xlp (xdq E e1 z.1) rfl ((xdq E e2 (z.2.1 rfl)).trans (by simp))
     |false=>exact xmp (xdq E e1 z.1) rfl rfl
    ·cases hv
   ·cases hv
  ·cases hv
end
structure Cx where
 P:Program
 md:Md
 f:FuncId
 r:Rd
 n:Nat
 df:List Deferred
 cs:List Frame
 Stop:Goroutine->Heap->Prop
 h₀:Heap
 B₀:List Nat
structure RE(X:Cx)(k:List Item)(l:Env)(p:PHeap)(LL:List Pcs):Prop where
 run:∀tm:List Value,tm.length=X.n->EnvOk tm l->RS X.P X.md (G (FL X.f X.r tm X.df k) X.cs) (fun h=>St X.h₀ X.B₀ p h LL.flatten) X.Stop
def okD(n:Nat):List Oper->Bool
 |[]=>true
 |o::os=>match o.dst with
   |some d=>Nat.blt d n&&okD n os
   |none=>okD n os
structure RO(X:Cx)(k:List Item)(ops rest:List Oper)(l:Env)(p:PHeap)(LL:List Pcs):Prop where
 run:okD X.n rest=true-> ∀tm:List Value,tm.length=X.n->EnvOk tm l->RL X.P X.md X.f X.r X.df k X.cs X.Stop ops rest tm (fun h=>St X.h₀ X.B₀ p h LL.flatten)
def gdc(ops:List Oper)(l:Env):Option (Nat×Bool)->Option (Option Bool)
 |none=>some none
 |some (j,w)=>match ops[j]? with
   |some o=>match o.dst with
     |some d=>match lk l d with
       |some (none,.bool b)=>match w with
         |true=>some (some b)
         |false=>some (some (!b))
       |some (some c,.bool b)=>match w with
         |true=>some (some (c&&b))
         |false=>some (some (c&&!b))
       |_=>none
     |none=>none
   |none=>none
def cimp:Option Bool->Prop->Prop
 |none,p=>p
 |some c,p=>c=true->p
def ent:Option Tmp->Option Bool->Value->Env->Env
 |some d,g,v,l=>(d,g,v)::l
 |none,_,_,l=>l
theorem xhq{n:Nat}{o:Oper}{os:List Oper}(h:okD n (o::os)=true):okD n os=true/\ ∀d,o.dst=some d->d<n:=by
 unfold okD at h
 split at h
 ·rename_i d e
  simp only[Bool.and_eq_true]at h
  exact⟨h.2,fun d' e'=>by rw[e]at e';cases e';exact Nat.le_of_ble_eq_true h.1⟩
 ·rename_i e
  exact⟨h,fun d' e'=>by rw[e]at e';cases e'⟩
theorem EnvOk.ent{tm:List Value}{l:Env}{d:Option Tmp}{g:Option Bool}{v:Value}{n:Nat}(E:EnvOk tm l)(hn:tm.length=n)(hd:∀i,d=some i->i<n):EnvOk (putl tm d (cv g v)) (ent d g v l):=by
 cases d with
 |none=>exact E
 |some d=>exact E.set (by rw[hn];exact hd d rfl)
theorem putl_len{tm:List Value}{d:Option Tmp}{v:Value}:(putl tm d v).length=tm.length:=by cases d<;>simp[putl]
theorem xnv{ops:List Oper}{tm:List Value}{l:Env}{o:Oper}{g:Option Bool}(E:EnvOk tm l)(h:gdc ops l o.guard=some g):
 (g=none/\Met ops tm o true)\/ ∃c,g=some c/\Met ops tm o c:=by
 cases hg:o.guard with
 |none=>
   rw[hg]at h
   simp only[gdc]at h
   cases h
   exact .inl ⟨rfl,xoq hg⟩
 |some q=>
   obtain⟨j,w⟩:=q
   rw[hg]at h
   simp only[gdc]at h
   right
   split at h
   ·rename_i o' ho
    split at h
    ·rename_i d hd
     split at h
     ·rename_i b hl
      have ht:=E _ _ _ hl
      have hy:yieldl ops tm j=some b:=by unfold yieldl;simp[ho,hd,ht,cv]
      cases w<;>exact⟨_,(Option.some.inj h).symm,by cases b<;>simp[Met,hg,hy]⟩
     ·rename_i c b hl
      have ht:=E _ _ _ hl
      cases c with
      |true=>
        have hy:yieldl ops tm j=some b:=by unfold yieldl;simp[ho,hd,ht,cv]
        cases w<;>exact⟨_,(Option.some.inj h).symm,by cases b<;>simp[Met,hg,hy]⟩
      |false=>
        have hy:yieldl ops tm j=none:=by unfold yieldl;simp[ho,hd,ht,cv,undef]
        cases w<;>exact⟨_,(Option.some.inj h).symm,by simp[Met,hg,hy]⟩
     ·cases h
    ·cases h
   ·cases h
section
variable{X:Cx}{k:List Item}{ops rest:List Oper}{l:Env}{p:PHeap}{LL:List Pcs}{g:Option Bool}{v:Value}{d:Option Tmp}{op:Op}{ty:TypeId}{pos:String}{aft:Array Edge}{gd:Option (Nat×Bool)}
theorem xdx(hg:gdc ops l gd=some g)(hd:noDefer op=true)(hx:cimp g (∀tm h,EnvOk tm l->St X.h₀ X.B₀ p h LL.flatten->Exd X.P tm ⟨d,op,ty,pos,aft,gd⟩ h v))
 (n:RO X k ops rest (ent d g v l) p LL):RO X k ops (⟨d,op,ty,pos,aft,gd⟩::rest) l p LL:=by
 constructor
 intro ok tm ht E
 have ok':=xhq ok
 have go:∀u,u=cv g v->RL X.P X.md X.f X.r X.df k X.cs X.Stop ops rest (putl tm d u) (fun h=>St X.h₀ X.B₀ p h LL.flatten):=fun u e=>by
  subst e;exact n.run ok'.1 _ (putl_len.trans ht) (E.ent ht ok'.2)
 rcases xnv (o:=⟨d,op,ty,pos,aft,gd⟩) E hg with⟨rfl,hm⟩|⟨c,rfl,hm⟩
 ·exact ymf hm (fun h s=>hx tm h E s) rfl (go _ rfl) hd
 ·cases c with
  |true=>exact ymf hm (fun h s=>hx rfl tm h E s) rfl (go _ rfl) hd
  |false=>exact xid hm rfl (go _ rfl)
theorem xsq{g:Option Bool}{p q:Prop}(h:cimp g p)(i:p->q):cimp g q:=by
 cases g with
 |none=>exact i h
 |some c=>exact fun hc=>i (h hc)
theorem xdp{op:Op}{q:List Prop×Value}(h:pv l op=some q):noDefer op=true:=by cases op<;>first|rfl|(simp[pv]at h)
theorem xyv{ss:List Prop}(hg:gdc ops l gd=some g)(hv:pv l op=some (ss,v))(hs:cimp g (AllP ss))(n:RO X k ops rest (ent d g v l) p LL):RO X k ops (⟨d,op,ty,pos,aft,gd⟩::rest) l p LL:=
 xdx hg (xdp hv) (xsq hs fun a _ _ E _=>yzp E hv a) n
theorem xor{id:Nat}{os:List Oper}(n:RO X k os os l p LL)(ok:okD X.n os=true):RE X (.code (.region id os.toArray false)::k) l p LL:=
 ⟨fun tm ht E=>yrw (n.run ok tm ht E)⟩
theorem yrq(n:RE X k l p LL):RO X k ops [] l p LL:=⟨fun _ tm ht E=>ytp (n.run tm ht E)⟩
theorem yix{x y:Code}(n:RE X (.code x::.code y::k) l p LL):RE X (.code (.seq x y)::k) l p LL:=⟨fun tm ht E=>yur (n.run tm ht E)⟩
theorem xf2(n:RE X k l p LL):RE X (.code .skip::k) l p LL:=⟨fun tm ht E=>yml (n.run tm ht E)⟩
theorem xmg{id:Nat}(n:RE X k l p LL):RE X (.inBlock id::k) l p LL:=⟨fun tm ht E=>xh8 (n.run tm ht E)⟩
theorem xqr{id:Nat}{c:Code}(n:RE X (.code c::.inBlock id::k) l p LL):RE X (.code (.block id c)::k) l p LL:=⟨fun tm ht E=>yec (n.run tm ht E)⟩
theorem xh2{id:Nat}{k':List Item}(hk:exitTo id k=some k')(n:RE X k' l p LL):RE X (.code (.exit id)::k) l p LL:=⟨fun tm ht E=>ysl hk (n.run tm ht E)⟩
class BP(x:Bool)(q:outParam Prop):Prop where
 iff:x=true<->q
instance{q:Prop}[Decidable q]:BP (decide q) q:=⟨by simp⟩
instance:BP true True:=⟨by simp⟩
instance:BP false False:=⟨by simp⟩
instance{x y:Bool}{a b:Prop}[i:BP x a][j:BP y b]:BP (x||y) (a\/b):=⟨by rw[<- i.iff,<- j.iff];simp⟩
instance{x y:Bool}{a b:Prop}[i:BP x a][j:BP y b]:BP (x&&y) (a/\b):=⟨by rw[<- i.iff,<- j.iff];simp⟩
instance{x:Bool}{a:Prop}[i:BP x a]:BP (!x) (¬ a):=⟨by rw[<- i.iff];simp⟩
instance(priority:=low){x:Bool}:BP x (x=true):=⟨Iff.rfl⟩
theorem xiq{c:Operand}{a b:Code}{x:Bool}{q:Prop}(hc:evS l c=some ([],.bool x))[i:BP x q](h1:q->RE X (.code a::k) l p LL)(h2:¬ q->RE X (.code b::k) l p LL):RE X (.code (.cond c a b)::k) l p LL:=
 ⟨fun tm ht E=>yqt (xdq E hc trivial) (fun e=>(h1 (i.iff.1 e)).run tm ht E) (fun e=>(h2 (fun z=>by rw[i.iff.2 z]at e;cases e)).run tm ht E)⟩
def SubE(l l':Env):Prop:=match l' with
 |[]=>True
 |(i,x)::l'=>lk l i=some x/\SubE l l'
theorem SubE.ok{tm:List Value}{l:Env}:∀{l':Env},SubE l l'->EnvOk tm l->EnvOk tm l'
 |[],_,_=>fun i g v h=>by cases h
 |(j,x)::l',s,E=>fun i g v h=>by
   unfold lk at h
   cases e:Nat.beq j i with
   |true=>
     rw[e]at h
     obtain rfl:=Nat.eq_of_beq_eq_true e
     cases h
     exact E _ _ _ s.1
   |false=>rw[e]at h;exact s.2.ok E i g v h
theorem xih{l':Env}(n:RE X k l' p LL)(s:SubE l l'):RE X k l p LL:=⟨fun tm ht E=>n.run tm ht (s.ok E)⟩
theorem xhw{p':PHeap}{LL':List Pcs}(n:RE X k l p' LL')(h:∀h,St X.h₀ X.B₀ p h LL.flatten->St X.h₀ X.B₀ p' h LL'.flatten):RE X k l p LL:=⟨fun tm ht E=>xjg (n.run tm ht E) h⟩
theorem xpq{c:Code}{m₀:Nat}(I:Nat->Env->PHeap->List Pcs->Prop){l':Env}(start:I m₀ l' p LL)(s:SubE l l')
 (round:∀m l p LL,(∀{m'}l' p' LL',m'<m->I m' l' p' LL'->RE X (.inLoop c::k) l' p' LL')->I m l p LL->RE X (.code c::.inLoop c::k) l p LL):RE X (.code (.loop c)::k) l p LL:=by
 constructor
 intro tm ht E
 refine yql (m₀:=m₀) (fun m tm' h=>∃l p LL,(tm'.length=X.n/\EnvOk tm' l/\I m l p LL)/\St X.h₀ X.B₀ p h LL.flatten) (fun h y=>⟨l',p,LL,⟨ht,s.ok E,start⟩,y⟩) ?_
 intro m tm' ih
 refine xl7 fun l1=>xl7 fun p1=>xl7 fun L1=>yaf fun⟨h1,h2,h3⟩=>?_
 exact(round m l1 p1 L1 (fun{m'}l' p' LL' lt i=>⟨fun tm2 ht2 E2 h y=>ih m' tm2 lt h ⟨l',p',LL',⟨ht2,E2,i⟩,y⟩⟩) h3).run tm' h1 h2
theorem xbz{c:Code}{m₀:Nat}(I:Nat->Env->Prop){l':Env}(start:I m₀ l')(s:SubE l l')
 (round:∀m l,(∀{m'}l',m'<m->I m' l'->RE X (.inLoop c::k) l' p LL)->I m l->RE X (.code c::.inLoop c::k) l p LL):RE X (.code (.loop c)::k) l p LL:=
 xpq (fun m l p' L'=>I m l/\p'=p/\L'=LL) ⟨start,rfl,rfl⟩ s fun m l _ _ ih⟨i,e1,e2⟩=>by subst e1;subst e2;exact round m l (fun l' lt i=>ih l' _ _ lt ⟨i,rfl,rfl⟩) i
structure Hid(K:Prop):Prop where
 out:K
theorem sb{p:Prop}(h:p:=by repeat (first|exact trivial|refine⟨rfl,?_⟩)):p:=h
theorem gd2{c:Bool}{q p:Prop}[i:BP c q](h:c=true->q->p):cimp (some c) p:=fun e=>h e (i.iff.1 e)
theorem andL{a b:Bool}(h:(a&&b)=true):a=true:=by cases a<;>simp_all
theorem andR{a b:Bool}(h:(a&&b)=true):b=true:=by cases a<;>simp_all
def nth:List Value->Nat->Option Value
 |[],_=>none
 |v::_,0=>some v
 |_::l,i+1=>nth l i
theorem xhm:∀{l:List Value}{i:Nat}{v:Value},nth l i=some v->l[i]?=some v
 |[],_,_,h=>by cases h
 |_::_,0,_,h=>h
 |_::l,_+1,_,h=>xhm (l:=l) h
end
class Bx(LL:List Pcs)(b:Nat)(o:outParam Obj)(LR:outParam (List Pcs)):Prop where h:LL.flatten.Perm ((b,o)::LR.flatten)
instance(priority:=high){LL:List Pcs}{b:Nat}{o:Obj}:Bx ([(b,o)]::LL) b o LL:=⟨List.Perm.refl _⟩
instance{LL LR:List Pcs}{X:Pcs}{b:Nat}{o:Obj}[i:Bx LL b o LR]:Bx (X::LL) b o (X::LR):=
 ⟨(List.Perm.append_left X i.h).trans (by simp)⟩
class Rm(LL:List Pcs)(Y:Pcs)(LR:outParam (List Pcs)):Prop where h:LL.flatten.Perm (Y++LR.flatten)
instance(priority:=high){LL:List Pcs}{Y:Pcs}:Rm (Y::LL) Y LL:=⟨List.Perm.refl _⟩
instance{LL LR:List Pcs}{X Y:Pcs}[i:Rm LL Y LR]:Rm (X::LL) Y (X::LR):=
 ⟨(List.Perm.append_left X i.h).trans (by simpa[<- List.append_assoc]using List.Perm.append_right LR.flatten (List.perm_append_comm (l₁:=X) (l₂:=Y)))⟩
inductive RmI:List Pcs->Pcs->List Pcs->Prop
 |head {LL:List Pcs} {Y Y':Pcs} (e:Y=Y'):RmI (Y::LL) Y' LL
 |tail {LL LR:List Pcs} {X Y:Pcs} (i:RmI LL Y LR):RmI (X::LL) Y (X::LR)
theorem RmI.ok{LL LR:List Pcs}{Y:Pcs}(i:RmI LL Y LR):LL.flatten.Perm (Y++LR.flatten):=by
 induction i with
 |head e=>subst e;exact List.Perm.refl _
 |@tail LL LR X Y i ih=>exact(List.Perm.append_left X ih).trans (by simpa[<- List.append_assoc]using List.Perm.append_right LR.flatten (List.perm_append_comm (l₁:=X) (l₂:=Y)))
inductive SubL:List Pcs->List Pcs->Prop
 |nil {LL:List Pcs}:SubL LL []
 |cons {LL LR LL':List Pcs} {Y:Pcs} (i:RmI LL Y LR) (s:SubL LR LL'):SubL LL (Y::LL')
theorem SubL.ok{LL LL':List Pcs}(s:SubL LL LL'):∃R,LL.flatten.Perm (LL'.flatten++R):=by
 induction s with
 |@nil LL=>exact⟨LL.flatten,List.Perm.refl _⟩
 |@cons LL LR LL' Y i s ih=>
   obtain⟨R,h⟩:=ih
   exact⟨R,i.ok.trans (by rw[List.flatten_cons,List.append_assoc];exact List.Perm.append_left Y h)⟩
theorem sl{p:Prop}(h:p:=by repeat (first|exact SubL.nil|apply SubL.cons|exact RmI.head rfl|apply RmI.tail)):p:=h
section
variable{h₀ h:Heap}{B₀:List Nat}{p:PHeap}{LL LR:List Pcs}{b:Nat}{o:Obj}{Y:Pcs}
theorem St.bx(i:Bx LL b o LR)(s:St h₀ B₀ p h LL.flatten):St h₀ B₀ p h ((b,o)::LR.flatten):=s.perm i.h
theorem St.rm(i:Rm LL Y LR)(s:St h₀ B₀ p h LL.flatten):St h₀ B₀ p h (Y++LR.flatten):=s.perm i.h
end
theorem xnq{X:Cx}{k:List Item}{l l':Env}{p:PHeap}{LL LL':List Pcs}(n:RE X k l' p LL')(s:SubE l l':=by repeat (first|exact trivial|refine⟨rfl,?_⟩))(i:SubL LL LL':=by repeat (first|exact SubL.nil|apply SubL.cons|exact RmI.head rfl|apply RmI.tail)):RE X k l p LL:=
 xih (xhw n fun _ y=>by
  obtain⟨R,e⟩:=i.ok
  exact(y.perm e).sub (List.sublist_append_left _ _)) s
section
variable{X:Cx}{k:List Item}{ops rest:List Oper}{l:Env}{p:PHeap}{LL LR:List Pcs}{g:Option Bool}{d:Option Tmp}{ty:TypeId}{pos:String}{aft:Array Edge}{gd:Option (Nat×Bool)}{ss ss':List Prop}{x y:Operand}
theorem xoz{g:Option Bool}{p q r:Prop}(h:cimp g p)(h':cimp g q)(i:p->q->r):cimp g r:=by
 cases g with
 |none=>exact i h h'
 |some c=>exact fun hc=>i (h hc) (h' hc)
theorem xb2{t:TypeId}{b off:Nat}{cs:Array Value}{T:TypeId}{z:Nat×Nat}{u:Value}(hg:gdc ops l gd=some g)(hx:evS l x=some (ss,.pointer (some ⟨b,off,none⟩)))(hs:cimp g (AllP ss))[a:AggC X.P t false][m:Bx LL b (.cells cs T z) LR]
 (n:RO X k ops rest (ent d g u l) p LL)(hv:nth cs.toList off=some u:=by rfl):RO X k ops (⟨d,.load t x,ty,pos,aft,gd⟩::rest) l p LL:=
 xdx hg rfl (xsq hs fun hs _ _ E s=>xzb (i:=0) (s.bx m) a.h (xdq E hx hs) rfl (by rw[<- Array.getElem?_toList];exact xhm hv)) n
theorem ykq{t:TypeId}{b off nn:Nat}{cs:Array Value}{T:TypeId}{z:Nat×Nat}(hg:gdc ops l gd=some g)(hx:evS l x=some (ss,.pointer (some ⟨b,off,none⟩)))(hs:cimp g (AllP ss))[a:AggC X.P t true][sz:SizeC X.P t nn][m:Bx LL b (.cells cs T z) LR]
 (n:RO X k ops rest (ent d g (.agg ((cs.toList.drop off).take nn).toArray) l) p LL)(hn:((cs.toList.drop off).take nn).length=nn:=by rfl):RO X k ops (⟨d,.load t x,ty,pos,aft,gd⟩::rest) l p LL:=
 xdx hg rfl (xsq hs fun hs _ _ E s=>xzw (i:=0) (s.bx m) a.h sz.h (xdq E hx hs) rfl rfl hn) n
theorem xgw{t:TypeId}{a:Addr}{u:Value}(hg:gdc ops l gd=some g)(hx:evS l x=some (ss,.pointer (some a)))(hs:cimp g (AllP ss))(hv:cimp g (pcell p a=some u))[ag:AggC X.P t false]
 (n:RO X k ops rest (ent d g u l) p LL):RO X k ops (⟨d,.load t x,ty,pos,aft,gd⟩::rest) l p LL:=
 xdx hg rfl (xoz hs hv fun hs hv _ _ E s=>xyb s ag.h (xdq E hx hs) hv) n
theorem xhd{t:TypeId}{a:Addr}{nn:Nat}{vs:List Value}(hg:gdc ops l gd=some g)(hx:evS l x=some (ss,.pointer (some a)))(hs:cimp g (AllP ss))(hv:cimp g (∀j v,vs[j]?=some v->pcell p (a.add j)=some v))[ag:AggC X.P t true][sz:SizeC X.P t nn]
 (n:RO X k ops rest (ent d g (.agg vs.toArray) l) p LL)(hn:vs.length=nn:=by rfl):RO X k ops (⟨d,.load t x,ty,pos,aft,gd⟩::rest) l p LL:=
 xdx hg rfl (xoz hs hv fun hs hv _ _ E s=>xyw s ag.h sz.h (xdq E hx hs) hn hv) n
theorem yph{s:TypeId}{i oo nn:Nat}{a:Addr}(hg:gdc ops l gd=some g)(hx:evS l x=some (ss,.pointer (some a)))(hs:cimp g (AllP ss))[f:FldC X.P s i oo nn](n:RO X k ops rest (ent d g (.pointer (some (a.add oo))) l) p LL):
 RO X k ops (⟨d,.fieldAddr s x i,ty,pos,aft,gd⟩::rest) l p LL:=
 xdx hg rfl (xsq hs fun hs _ _ E _=>xxk f.h (xdq E hx hs) rfl) n
theorem yjq{t e:TypeId}{a:Option Addr}{m c:Nat}(hg:gdc ops l gd=some g)(hx:evS l x=some (ss,.slice a m c))(hs:cimp g (AllP ss))[f:SlcC X.P t e](n:RO X k ops rest (ent d g (.int .i64 m) l) p LL):
 RO X k ops (⟨d,.call ⟨.builtin .len,#[x],#[t]⟩,ty,pos,aft,gd⟩::rest) l p LL:=
 xdx hg rfl (xsq hs fun hs _ _ E _=>xt2 f.h (xdq E hx hs)) n
theorem ygf{t e:TypeId}{a:Option Addr}{m c w i:Nat}{kk:IntKind}(hg:gdc ops l gd=some g)(hx:evS l x=some (ss,.slice a m c))(hy:evS l y=some (ss',.int kk (i:Nat)))(hs:cimp g (AllP ss))(hs':cimp g (AllP ss'))(hi:cimp g (i<m/\a=some (adr a)))
 [f:SlcC X.P t e][sz:SizeC X.P e w](n:RO X k ops rest (ent d g (.pointer (some ((adr a).add (i*w)))) l) p LL):RO X k ops (⟨d,.indexAddr t x y,ty,pos,aft,gd⟩::rest) l p LL:=
 xdx hg rfl (xoz hi (xoz hs hs' And.intro) fun hi hs _ _ E _=>xlk f.h sz.h ((xdq E hx hs.1).trans (xu1 a m c hi.2)) (xdq E hy hs.2) hi.1) n
theorem xm7{t e:TypeId}{a:Option Addr}{m c w i:Nat}{kk:IntKind}(hx:evS l x=some ([],.slice a m c))(hy:evS l y=some ([],.int kk (i:Nat)))(hi:i<m)(ha:a=some (adr a))
 [f:SlcC X.P t e][sz:SizeC X.P e w](n:RO X k ops rest (ent d none (.pointer (some ((adr a).add (i*w)))) l) p LL):RO X k ops (⟨d,.indexAddr t x y,ty,pos,aft,none⟩::rest) l p LL:=
 ygf (g:=none) rfl hx hy trivial trivial ⟨hi,ha⟩ n
theorem xvk{t:TypeId}{a:Addr}{u:Value}(hx:evS l x=some ([],.pointer (some a)))(hv:pcell p a=some u)[ag:AggC X.P t false](n:RO X k ops rest (ent d none u l) p LL):RO X k ops (⟨d,.load t x,ty,pos,aft,none⟩::rest) l p LL:=
 xgw (g:=none) rfl hx trivial hv n
theorem xqk{t:TypeId}{a:Addr}{nn:Nat}{vs:List Value}(hx:evS l x=some ([],.pointer (some a)))(hv:∀j v,vs[j]?=some v->pcell p (a.add j)=some v)[ag:AggC X.P t true][sz:SizeC X.P t nn]
 (n:RO X k ops rest (ent d none (.agg vs.toArray) l) p LL)(hn:vs.length=nn:=by rfl):RO X k ops (⟨d,.load t x,ty,pos,aft,none⟩::rest) l p LL:=
 xhd (g:=none) rfl hx trivial hv n hn
theorem xjq{dd:Nat}{T:TypeId}{v:Value}(hx:evS l x=some ([],v))(n:∀b,RO X k ops rest ((dd,none,.pointer (some ⟨b,0,none⟩))::l) p ([(b,.cells v.cells T (0,0))]::LL)):
 RO X k ops (⟨some dd,.box T x,ty,pos,aft,none⟩::rest) l p LL:=⟨fun ok tm ht E=>
 yup (xoq rfl) (xdq E hx trivial) fun b=>(n b).run (xhq ok).1 _ (by simp[ht]) (E.set (g:=none) (ht ▸ (xhq ok).2 dd rfl))⟩
theorem xtq{dd:Nat}{T:TypeId}{z:Value}[i:ZeroC X.P T z](n:∀b,RO X k ops rest ((dd,none,.pointer (some ⟨b,0,none⟩))::l) p ([(b,.cells z.cells T (0,0))]::LL)):
 RO X k ops (⟨some dd,.alloc T,ty,pos,aft,none⟩::rest) l p LL:=⟨fun ok tm ht E=>
 yvw (xoq rfl) i.h rfl fun b=>(n b).run (xhq ok).1 _ (by simp[ht]) (E.set (g:=none) (ht ▸ (xhq ok).2 dd rfl))⟩
theorem xtc{T T':TypeId}{b off nsz:Nat}{cs:List Value}{v:Value}(hx:evS l x=some ([],.pointer (some ⟨b,off,none⟩)))(hy:evS l y=some ([],v))[sz:SizeC X.P T nsz][m:Bx LL b (.cells cs.toArray T' (0,0)) LR]
 (n:RO X k ops rest l p ([(b,.cells (setl cs off v.cells.toList).toArray T' (0,0))]::LR))(hv:v.cells.size=nsz:=by rfl)(h1:v.cells.toList.all isOne=true:=by rfl)(hlen:off+v.cells.size<=cs.length:=by exact Nat.le_of_ble_eq_true rfl):
 RO X k ops (⟨none,.store T x y,ty,pos,aft,none⟩::rest) l p LL:=⟨fun ok tm ht E=>
 xc2 (xk4 (i:=0) (xoq rfl) sz.h (xdq E hx trivial) (xdq E hy trivial) rfl hv h1 hlen rfl (n.run (xhq ok).1 tm ht E)) fun _ s=>s.bx m⟩
theorem xvq{args:List Operand}{ats:Array TypeId}{ff:FuncId}{first cap vs:List Value}{v:Value}(hg:gdc ops l gd=some g)
 (hx:evS l x=some ([],.func (.func ff) first.toArray cap.toArray))(hvs:evsS l args=some (ss,vs))(hs:cimp g (AllP ss))(hc:cimp g (∀h,Per p h->CallsX X.P X.md ff (first++(vs++cap)).toArray h fun v' h'=>v'=v/\Keep h h'))(n:RO X k ops rest (ent d g v l) p LL)(hf:callable X.P ff=true:=by kernel_rfl):
 RO X k ops (⟨d,.call ⟨.value x,args.toArray,ats⟩,ty,pos,aft,gd⟩::rest) l p LL:=by
 constructor
 intro ok tm ht E
 have ok':=xhq ok
 have go:∀u,u=cv g v->RL X.P X.md X.f X.r X.df k X.cs X.Stop ops rest (putl tm d u) (fun h=>St X.h₀ X.B₀ p h LL.flatten):=fun u e=>by
  subst e;exact n.run ok'.1 _ (putl_len.trans ht) (E.ent ht ok'.2)
 have cal:Met ops tm ⟨d,.call ⟨.value x,args.toArray,ats⟩,ty,pos,aft,gd⟩ true->AllP ss->(∀h,Per p h->CallsX X.P X.md ff (first++(vs++cap)).toArray h fun v' h'=>v'=v/\Keep h h')->v=cv g v->
  RL X.P X.md X.f X.r X.df k X.cs X.Stop ops (⟨d,.call ⟨.value x,args.toArray,ats⟩,ty,pos,aft,gd⟩::rest) tm (fun h=>St X.h₀ X.B₀ p h LL.flatten):=fun hm hs hc e=>
  xl4 hm (xdq E hx trivial) (by rw[xlx E hvs hs]) hf (fun h s=>hc h fun b o e=>s.per b o e) rfl (go _ e)
 rcases xnv (o:=⟨d,.call ⟨.value x,args.toArray,ats⟩,ty,pos,aft,gd⟩) E hg with⟨rfl,hm⟩|⟨c,rfl,hm⟩
 ·exact cal hm hs hc rfl
 ·cases c with
  |true=>exact cal hm (hs rfl) (hc rfl) rfl
  |false=>exact xid hm rfl (go _ rfl)
theorem xlq{args:List Operand}{ats:Array TypeId}{ff:FuncId}{first cap vs:List Value}{v:Value}(hx:evS l x=some ([],.func (.func ff) first.toArray cap.toArray))(hvs:evsS l args=some ([],vs))
 (hc:∀h,Per p h->CallsX X.P X.md ff (first++(vs++cap)).toArray h fun v' h'=>v'=v/\Keep h h')(n:RO X k ops rest (ent d none v l) p LL)(hf:callable X.P ff=true:=by kernel_rfl):
 RO X k ops (⟨d,.call ⟨.value x,args.toArray,ats⟩,ty,pos,aft,none⟩::rest) l p LL:=xvq (g:=none) rfl hx hvs trivial hc n hf
def envOf:Nat->List Value->Env
 |_,[]=>[]
 |i,v::vs=>(i,none,v)::envOf (i+1) vs
theorem xnc:∀{vs:List Value}{i j:Nat}{g:Option Bool}{v:Value},lk (envOf i vs) j=some (g,v)->g=none/\ ∃m,j=i+m/\vs[m]?=some v
 |[],i,j,g,v,h=>by cases h
 |u::vs,i,j,g,v,h=>by
   unfold envOf lk at h
   cases e:Nat.beq i j with
   |true=>rw[e]at h;cases h;exact⟨rfl,0,(Nat.eq_of_beq_eq_true e).symm,rfl⟩
   |false=>
     rw[e]at h
     obtain⟨rfl,m,rfl,hm⟩:=xnc h
     exact⟨rfl,m+1,om,hm⟩
theorem xez{P:Program}{md:Md}{f:FuncId}{fn:Func}{c:Code}{args:List Value}{R:Value->Heap->Prop}{h:Heap}{p:PHeap}(hp:Per p h)(hf:P.funcs[f]?=some fn)
 (x:∀(c₀:Frame)(cs:List Frame)(Stop:Goroutine->Heap->Prop),(∀v h',R v h'->Reach P md (G (c₀.finish v) cs) h' Stop)->RE ⟨P,md,f,.none,fn.ntmps,[],c₀::cs,Stop,h,[]⟩ [.code c] (envOf 0 args) p [])
 (hb:fn.body=some c:=by rfl)(hn:Nat.ble args.length fn.ntmps=true:=by rfl):CallsX P md f args.toArray h R:=
 xqd (Φ:=fun h'=>St h [] p h' []) hf hb rfl (fun c₀ cs Stop K=>(x c₀ cs Stop K).run _ (by have:=Nat.le_of_ble_eq_true hn;simp;omega) fun i g v hl=>by
  obtain⟨rfl,m,rfl,hm⟩:=xnc hl
  rw[Nat.zero_add,List.getElem?_append_left (by simpa using(List.getElem?_eq_some_iff.1 hm).1)]
  simpa[cv]using hm) (St.start h p hp)
def resv(l:Env):List ResultVar->Option (List Value)
 |[]=>some []
 |.tmp t::rs=>match lk l t with
   |some (none,v)=>match resv l rs with
     |some vs=>some (v::vs)
     |none=>none
   |_=>none
 |_::_=>none
theorem xd2{P:Program}{tm:List Value}{l:Env}{h:Heap}(E:EnvOk tm l):∀{rs:List ResultVar}{vs:List Value},resv l rs=some vs->Res P h tm rs vs
 |[],vs,e=>by cases e;exact rfl
 |.tmp t::rs,vs,e=>by
   unfold resv at e
   split at e
   ·rename_i v h1
    split at e
    ·rename_i vs' h2
     cases e
     exact⟨v,vs',rfl,by simp[List.getD_eq_getElem?_getD,E _ _ _ h1,cv],xd2 E h2⟩
    ·cases e
   ·cases e
 |.cell _ _::rs,vs,e=>by cases e
theorem xqq{P:Program}{md:Md}{f:FuncId}{nn:Nat}{c₀:Frame}{cs:List Frame}{Stop:Goroutine->Heap->Prop}{h₀:Heap}{B₀:List Nat}{fn:Func}{rs:List ResultVar}{vs:List Value}(hf:P.funcs[f]?=some fn)(hr:fn.results=rs.toArray)(hv:resv l rs=some vs)
 (x:∀h,St h₀ B₀ p h LL.flatten->Reach P md (G (c₀.finish (packs vs)) cs) h Stop):RE ⟨P,md,f,.none,nn,[],c₀::cs,Stop,h₀,B₀⟩ (.code .ret::k) l p LL:=
 ⟨fun _ _ E=>yvf hf hr (fun _ _=>xd2 E hv) rfl x⟩
end
section
variable{X:Cx}{k:List Item}{ops rest:List Oper}{l:Env}{p:PHeap}{LL LR LR2:List Pcs}{g:Option Bool}{d:Option Tmp}{dd:Nat}{ty:TypeId}{pos:String}{aft:Array Edge}{gd:Option (Nat×Bool)}{ss ss':List Prop}{x y:Operand}{T:TypeId}{w:Nat}{v:Value}{es news:List (List Value)}{Y Z:Pcs}
theorem xmr{p':PHeap}{LL':List Pcs}(n:RO X k ops rest l p' LL')(h:∀h,St X.h₀ X.B₀ p h LL.flatten->St X.h₀ X.B₀ p' h LL'.flatten):RO X k ops rest l p LL:=⟨fun ok tm ht E=>xc2 (n.run ok tm ht E) h⟩
theorem xvv{o:Oper}{n:Nat}(ok:okD n (o::rest)=true)(h:o.dst=some dd):dd<n:=(xhq ok).2 dd h
theorem xck{args:List Operand}{ats:Array TypeId}{ff:FuncId}{first cap vs:List Value}{Q:Value->Pcs->Prop}(hx:evS l x=some ([],.func (.func ff) first.toArray cap.toArray))(hvs:evsS l args=some ([],vs))
 (hc:∀h,Per p h->CallsX X.P X.md ff (first++(vs++cap)).toArray h fun v' h'=>∃Y,Q v' Y/\New h h' Y)(n:∀v Y,Q v Y->RO X k ops rest (ent d none v l) p (Y::LL))(hf:callable X.P ff=true:=by kernel_rfl):
 RO X k ops (⟨d,.call ⟨.value x,args.toArray,ats⟩,ty,pos,aft,none⟩::rest) l p LL:=⟨fun ok tm ht E=>
 xvw (R:=fun v h=>∃Y,Q v Y/\St X.h₀ X.B₀ p h (Y++LL.flatten)) (xoq rfl) (xdq E hx trivial) (by rw[xlx E hvs trivial]) hf (fun h s=>(hc h fun b o e=>s.per b o e).mono fun _ _⟨Y,q,nn⟩=>⟨Y,q,s.callN nn⟩)
  fun v=>xwj fun Y=>xgz fun q=>(n v Y q).run (xhq ok).1 _ (putl_len.trans ht) (E.ent (g:=none) ht (xhq ok).2)⟩
theorem xrb{m:Nat}(o:OwnS T w v es Y)(hn:es.length=m)[i:Rm LL Y LR](n:∀p' a cap,PLe p p'->v=.slice a m cap->Sl p' a m w es->RO X k ops rest l p' LR):RO X k ops rest l p LL:=⟨fun ok tm ht E=>
 xc2 (ytw (A:=[]) o hn fun p' a cap e1 e2 e3=>(n p' a cap e1 e2 e3).run ok tm ht E) fun _ s=>s.rm i⟩
theorem yyh{m:Nat}(o:OwnS T w v es Y)(hn:es.length=m)[i:Rm LL Y LR](n:∀p' a cap,PLe p p'->v=.slice a m cap->Sl p' a m w es->RE X k l p' LR):RE X k l p LL:=⟨fun tm ht E=>by
 subst hn;exact xjg (ykw (A:=[]) o fun p' a cap e1 e2 e3=>(n p' a cap e1 e2 e3).run tm ht E) fun _ s=>s.rm i⟩
theorem xfw{b:Nat}{ob:Obj}[i:Bx LL b ob LR](n:∀p',PLe p p'->p' b=some ob->RO X k ops rest l p' LR):RO X k ops rest l p LL:=⟨fun ok tm ht E pre e h s=>by
 have s':=(s.bx i).last
 exact(n (padd p b ob) s'.1 xrk).run ok tm ht E pre e h s'.2⟩
def evpS(l:Env):List (Nat×Operand)->Option (List (Nat×Value))
 |[]=>some []
 |(i,x)::xs=>match evS l x with
   |some ([],v)=>match evpS l xs with
     |some vs=>some ((i,v)::vs)
     |none=>none
   |_=>none
theorem xvm{tm:List Value}(E:EnvOk tm l):∀{xs:List (Nat×Operand)}{vs:List (Nat×Value)},evpS l xs=some vs->(xs.map fun(i,x)=>(i,evl tm x))=vs
 |[],vs,h=>by cases h;rfl
 |(i,x)::xs,vs,h=>by
   unfold evpS at h
   split at h
   ·rename_i v e1
    split at h
    ·rename_i vs' e2
     cases h
     rw[List.map_cons,xvm E e2];simp only[xdq E e1 trivial]
    ·cases h
   ·cases h
def chs(w:Nat):Nat->List Value->List (List Value)
 |0,_=>[]
 |n+1,l=>l.take w::chs w n (l.drop w)
theorem xdz{sT eT:TypeId}{n:Nat}{parts:List (Nat×Operand)}{vs:List (Nat×Value)}{z:Value}{cells:Array Value}(hvs:evpS l parts=some vs)[hT:SlcC X.P sT eT][hs:SizeC X.P eT w][hz:ZeroC X.P eT z]
 (nx:∀v Y,OwnS eT w v (chs w n cells.toList) Y->RO X k ops rest ((dd,none,v)::l) p (Y::LL))
 (hf:Instr.fill (fun i=>some (i*w,w)) ((List.range (n*w)).map (z.cells[· % z.cells.size]!)).toArray vs=some cells:=by rfl)(hc:cells=(chs w n cells.toList).flatten.toArray:=by rfl)(hw:((chs w n cells.toList).all fun e=>e.length==w)=true:=by rfl)
 (hn:(chs w n cells.toList).length=n:=by rfl)(hsm:n*w<=2^24:=by exact Nat.le_of_ble_eq_true rfl):RO X k ops (⟨some dd,.buildSlice sT n parts.toArray,ty,pos,aft,none⟩::rest) l p LL:=⟨fun ok tm ht E=>
 xa0 (A:=[]) (C:=LL.flatten) (xoq rfl) hT.h hs.h hz.h hsm (xvm E hvs) hf hc hw hn fun v Y o=>(nx v Y o).run (xhq ok).1 _ (by simp[ht]) (E.set (g:=none) (ht ▸ xvv ok rfl))⟩
theorem xcf{sT xT eT eX:TypeId}{by':Nat}{x' z:Value}(hx:evS l x=some ([],v))(hy:evS l y=some ([],x'))(o1:OwnS eT w v es Y)(o2:OwnS eT w x' news Z)(h1:∀u∈news.flatten,isOne u=true)(room:(es.length+news.length)*by'<=2^40)
 [i1:Rm LL Y LR][i2:Rm LR Z LR2][hT:SlcC X.P sT eT][hs:SizeC X.P eT w][hz:ZeroC X.P eT z][hb:ByC X.P eT by'][hX:SlcC X.P xT eX](nx:∀v' Y',OwnS eT w v' (es++news) Y'->RO X k ops rest ((dd,none,v')::l) p (Y'::LR2))
 (hzs:z.cells.size=w:=by rfl)(hb2:0<by'/\by'<=2^20:=by decide):RO X k ops (⟨some dd,.call ⟨.builtin .append,#[x,y],#[sT,xT]⟩,ty,pos,aft,none⟩::rest) l p LL:=⟨fun ok tm ht E=>
 xc2 (xp7 [] Y Z (C:=LR2.flatten) (xoq rfl) hT.h hs.h hz.h hzs hb.h hX.h (xdq E hx trivial) (xdq E hy trivial) o1 o2 h1 room hb2 fun v' Y' o=>(nx v' Y' o).run (xhq ok).1 _ (by simp[ht]) (E.set (g:=none) (ht ▸ xvv ok rfl)))
  fun _ s=>(s.rm i1).perm (List.Perm.append_left Y i2.h)⟩
theorem xhh{sT xT eT eX:TypeId}{by' n cap:Nat}{a:Option Addr}{z:Value}(hx:evS l x=some ([],v))(hy:evS l y=some ([],.slice a n cap))(o1:OwnS eT w v es Y)(o2:Sl p a n w news)(h1:∀u∈news.flatten,isOne u=true)(room:(es.length+n)*by'<=2^40)
 [i1:Rm LL Y LR][hT:SlcC X.P sT eT][hs:SizeC X.P eT w][hz:ZeroC X.P eT z][hb:ByC X.P eT by'][hX:SlcC X.P xT eX](nx:∀v' Y',OwnS eT w v' (es++news) Y'->RO X k ops rest ((dd,none,v')::l) p (Y'::LR))
 (hzs:z.cells.size=w:=by rfl)(hb2:0<by'/\by'<=2^20:=by decide)(hw0:0<w:=by decide):RO X k ops (⟨some dd,.call ⟨.builtin .append,#[x,y],#[sT,xT]⟩,ty,pos,aft,none⟩::rest) l p LL:=⟨fun ok tm ht E=>
 xc2 (xo7 [] Y (C:=LR.flatten) (xoq rfl) hT.h hs.h hz.h hzs hb.h hX.h (xdq E hx trivial) (xdq E hy trivial) o1 o2 h1 room hb2 hw0 fun v' Y' o=>(nx v' Y' o).run (xhq ok).1 _ (by simp[ht]) (E.set (g:=none) (ht ▸ xvv ok rfl))) fun _ s=>s.rm i1⟩
theorem ybp(T w:Nat)(n:OwnS T w (.slice none 0 0) [] []->RO X k ops rest l p ([]::LL)):RO X k ops rest l p LL:=xmr (n (OwnS.empty T w)) fun _ s=>s
theorem xfb(T w:Nat)(n:OwnS T w (.slice none 0 0) [] []->RE X k l p ([]::LL)):RE X k l p LL:=xhw (n (OwnS.empty T w)) fun _ s=>s
theorem xul{t e:TypeId}{m:Nat}(hg:gdc ops l gd=some g)(hx:evS l x=some (ss,v))(hs:cimp g (AllP ss))(o:OwnS T w v es Y)(hn:es.length=m)[f:SlcC X.P t e](n:RO X k ops rest (ent d g (.int .i64 m) l) p LL):RO X k ops (⟨d,.call ⟨.builtin .len,#[x],#[t]⟩,ty,pos,aft,gd⟩::rest) l p LL:=
 xdx hg rfl (xsq hs fun hs _ _ E _=>ytc o hn f.h (xdq E hx hs)) n
theorem xuk{t e:TypeId}{i:Nat}(hx:evS l x=some ([],v))(hy:evS l y=some ([],.int .i64 (i:Nat)))(o:OwnS T w v es Y)(hi:i<es.length)[f:SlcC X.P t e][sz:SizeC X.P e w](n:RO X k ops rest (ent d none (.pointer (some ((adrV v).add (i*w)))) l) p LL):
 RO X k ops (⟨d,.indexAddr t x y,ty,pos,aft,none⟩::rest) l p LL:=xdx (g:=none) rfl rfl (fun _ _ E _=>xmc o f.h sz.h (xdq E hx trivial) (xdq E hy trivial) hi) n
theorem xgh{t:TypeId}{i j:Nat}{e:List Value}{u:Value}{a:Addr}(hx:evS l x=some ([],.pointer (some a)))(o:OwnS T w v es Y)(ha:((adrV v).add (i*w)).add j=a)(hi:es[i]?=some e)(hj:e[j]?=some u)[ag:AggC X.P t false][ii:Rm LL Y LR]
 (n:RO X k ops rest (ent d none u l) p LL):RO X k ops (⟨d,.load t x,ty,pos,aft,none⟩::rest) l p LL:=xdx (g:=none) rfl rfl (fun _ _ E s=>yrj (A:=[]) o (s.rm ii) ag.h (xdq E hx trivial) ha hi hj) n
theorem xjv{T':TypeId}{i j nsz:Nat}{e vs:List Value}{u:Value}{a:Addr}(hx:evS l x=some ([],.pointer (some a)))(hy:evS l y=some ([],u))(o:OwnS T w v es Y)(ha:((adrV v).add (i*w)).add j=a)(hu:u.cells=vs.toArray)(hn:vs.length=nsz)(h1:vs.all isOne=true)(hi:es[i]?=some e)(hj:j+vs.length<=e.length)
 [sz:SizeC X.P T' nsz][ii:Rm LL Y LR](n:∀Y',OwnS T w v (es.set i (setl e j vs)) Y'->RO X k ops rest l p (Y'::LR)):RO X k ops (⟨none,.store T' x y,ty,pos,aft,none⟩::rest) l p LL:=⟨fun ok tm ht E=>
 xc2 (xn7 (A:=[]) o (xoq rfl) sz.h (xdq E hx trivial) ha (xdq E hy trivial) hu hn h1 hi hj fun Y' o'=>(n Y' o').run (xhq ok).1 tm ht E) fun _ s=>s.rm ii⟩
theorem yjh{fn:Fn}{first cap:List Operand}{a b:List Value}(ha:evsS l first=some ([],a))(hb:evsS l cap=some ([],b))(n:RO X k ops rest (ent d none (.func fn a.toArray b.toArray) l) p LL):RO X k ops (⟨d,.makeFunc fn first.toArray cap.toArray,ty,pos,aft,none⟩::rest) l p LL:=
 xdx (g:=none) rfl rfl (fun _ _ E _=>xnh (xlx E ha trivial) (xlx E hb trivial)) n
end
def TurnD(P:Program)(md:Md)(ops:List Oper)(h₀:Heap)(B₀:List Nat)(p:PHeap)(LF:Pcs)(o:Oper)(tm:List Value)(u:Value):Prop:=
 noDefer o.op=true/\((Met ops tm o true/\ ∀C:Pcs,OpTo P md tm o (fun h=>St h₀ B₀ p h (LF++C)) u)\/(Met ops tm o false/\u=undef))
def TurnA(P:Program)(md:Md)(ops:List Oper)(h₀:Heap)(B₀:List Nat)(p:PHeap)(LF C:Pcs)(o:Oper)(tm:List Value)(u:Value):Prop:=
 noDefer o.op=true/\((Met ops tm o true/\OpTo P md tm o (fun h=>St h₀ B₀ p h (LF++C)) u)\/(Met ops tm o false/\u=undef))
theorem TurnD.a{P:Program}{md:Md}{ops:List Oper}{h₀:Heap}{B₀:List Nat}{p:PHeap}{LF C:Pcs}{o:Oper}{tm:List Value}{u:Value}(x:TurnD P md ops h₀ B₀ p LF o tm u):TurnA P md ops h₀ B₀ p LF C o tm u:=
 ⟨x.1,x.2.imp (fun a=>⟨a.1,a.2 C⟩) id⟩
inductive Bhd (ops:List Oper):Nat->Nat->Prop
 |one {e i:Nat} {o:Oper} (ho:ops[e]?=some o) (h:i∈preds o):Bhd ops e i
 |step {e k i:Nat} {o:Oper} (ho:ops[e]?=some o) (h:k∈preds o) (b:Bhd ops k i):Bhd ops e i
def bhdB(ops:List Oper)(i:Nat):Nat->Nat->Bool
 |0,_=>false
 |f+1,e=>match ops[e]? with
   |some o=>(preds o).contains i||(preds o).any fun k=>bhdB ops i f k
   |none=>false
theorem ycv{ops:List Oper}{i:Nat}:∀{f e:Nat},bhdB ops i f e=true->Bhd ops e i
 |0,_,h=>by cases h
 |f+1,e,h=>by
   unfold bhdB at h
   split at h
   ·rename_i o ho
    simp only[Bool.or_eq_true,List.contains_eq_mem,decide_eq_true_eq,List.any_eq_true]at h
    rcases h with h|⟨k,hk,h⟩
    ·exact .one ho h
    ·exact .step ho hk (ycv h)
   ·cases h
def pinB(ops:List Oper)(effs todo:List Nat)(i:Nat):Bool:=todo.all fun e=>!effs.contains e||bhdB ops i 3 e
theorem yal{ops:List Oper}{effs todo:List Nat}{i:Nat}(h:pinB ops effs todo i=true):∀e∈todo,e∈effs->Bhd ops e i:=fun e he hf=>by
 have:=List.all_eq_true.1 h e he
 simp only[Bool.or_eq_true,Bool.not_eq_true',List.contains_eq_mem,decide_eq_false_iff_not]at this
 exact ycv (this.resolve_left fun z=>z hf)
def TurnX(P:Program)(md:Md)(ops:List Oper)(h₀:Heap)(B₀:List Nat)(p:PHeap)(LF:Pcs)(effs:List Nat)(C:Pcs)(todo:List Nat)(j:Nat)(o:Oper)(tm:List Value)(u:Value):Prop:=
 TurnD P md ops h₀ B₀ p LF o tm u\/(TurnA P md ops h₀ B₀ p LF C o tm u/\ ∀e∈todo,e∈effs->Bhd ops e j)
def EffTo(P:Program)(md:Md)(tm:List Value)(o:Oper)(h:Heap)(R:Value->Heap->Prop):Prop:=
 Exv P tm o h R\/(∃g args,(wpS P (execOp (evl tm) o) h fun n h'=>n=.enter g args/\h'=h)/\CallsX P md g args h R)\/
  ∀(c:Frame)(cs:List Frame)(Stop:Goroutine->Heap->Prop),(∀v h',R v h'->Reach P md (G (c.finish v) cs) h' Stop)->wpS P (execOp (evl tm) o) h (Upon P md c cs Stop)
inductive DR (P:Program) (md:Md) (ops:List Oper) (n:Nat) (h₀:Heap) (B₀:List Nat) (p:PHeap) (LF:Pcs) (effs:List Nat) (K:Env->List Pcs->Prop):List Nat->Env->List Pcs->Prop
 |nil {l:Env} {LL:List Pcs} (k:K l LL):DR P md ops n h₀ B₀ p LF effs K [] l LL
 |det {i:Nat} {todo:List Nat} {o:Oper} {l:Env} {LL:List Pcs} {g:Option Bool} {v:Value} (ho:ops[i]?=some o) (h:∀tm,tm.length=n->EnvOk tm l->TurnD P md ops h₀ B₀ p LF o tm (cv g v))
  (nx:DR P md ops n h₀ B₀ p LF effs K todo (ent o.dst g v l) LL):DR P md ops n h₀ B₀ p LF effs K (i::todo) l LL
 |pin {i:Nat} {todo:List Nat} {o:Oper} {l:Env} {LL:List Pcs} {g:Option Bool} {v:Value} (ho:ops[i]?=some o) (hb:∀e∈todo,e∈effs->Bhd ops e i) (h:∀tm,tm.length=n->EnvOk tm l-> ∀C,TurnA P md ops h₀ B₀ p LF (LL.flatten++C) o tm (cv g v))
  (nx:DR P md ops n h₀ B₀ p LF effs K todo (ent o.dst g v l) LL):DR P md ops n h₀ B₀ p LF effs K (i::todo) l LL
 |effG {i:Nat} {todo:List Nat} {o:Oper} {l:Env} {LL LR:List Pcs} {U:Pcs} {g:Option Bool} {Q:Value->Pcs->Prop} (ho:ops[i]?=some o) (he:i∈effs) (hr:LL.flatten.Perm (U++LR.flatten))
  (h:∀tm,tm.length=n->EnvOk tm l->noDefer o.op=true/\((Met ops tm o true/\ ∀(C:Pcs)h,St h₀ B₀ p h (U++(LF++C))->EffTo P md tm o h fun v h'=>∃u x,v=cv g u/\Q u x/\St h₀ B₀ p h' (x++(LF++C)))\/(Met ops tm o false/\ ∃u,cv g u=undef/\Q u U)))
  (nx:∀v x,Q v x->DR P md ops n h₀ B₀ p LF effs K todo (ent o.dst g v l) (x::LR)):DR P md ops n h₀ B₀ p LF effs K (i::todo) l LL
theorem EffTo.mono{P:Program}{md:Md}{tm:List Value}{o:Oper}{h:Heap}{R R':Value->Heap->Prop}(x:EffTo P md tm o h R)(y:∀v h,R v h->R' v h):EffTo P md tm o h R':=
 x.imp (fun a=>xfx a fun _ _⟨v,e,r⟩=>⟨v,e,y _ _ r⟩) (·.imp (fun⟨g,args,a,b⟩=>⟨g,args,a,b.mono y⟩) fun a c cs Stop z=>a c cs Stop fun v h' r=>z v h' (y v h' r))
theorem DR.eff{P:Program}{md:Md}{ops:List Oper}{n:Nat}{h₀:Heap}{B₀:List Nat}{p:PHeap}{LF:Pcs}{effs:List Nat}{K:Env->List Pcs->Prop}{i:Nat}{todo:List Nat}{o:Oper}{l:Env}{LL LR:List Pcs}{U:Pcs}{Q:Value->Pcs->Prop}(ho:ops[i]?=some o)(he:i∈effs)(hr:LL.flatten.Perm (U++LR.flatten))
 (h:∀tm,tm.length=n->EnvOk tm l->noDefer o.op=true/\Met ops tm o true/\ ∀(C:Pcs)h,St h₀ B₀ p h (U++(LF++C))->EffTo P md tm o h fun v h'=>∃x,Q v x/\St h₀ B₀ p h' (x++(LF++C)))
 (nx:∀v x,Q v x->DR P md ops n h₀ B₀ p LF effs K todo (ent o.dst none v l) (x::LR)):DR P md ops n h₀ B₀ p LF effs K (i::todo) l LL:=
 .effG (g:=none) ho he hr (fun tm ht E=>⟨(h tm ht E).1,.inl ⟨(h tm ht E).2.1,fun C hp s=>((h tm ht E).2.2 C hp s).mono fun v _⟨x,q,s⟩=>⟨v,x,rfl,q,s⟩⟩⟩) nx
def ordOk(ops:List Oper)(cl:List (List Nat))(effs:List Nat):List Nat->List Nat->Bool
 |_,[]=>true
 |done,i::todo=>(match ops[i]? with
   |some o=>(preds o).all (fun x=>done.contains x)&&done.all (fun e=>!effs.contains e||behind cl o e)
   |none=>false)&&!done.contains i&&ordOk ops cl effs (i::done) todo
theorem xqn{P:Program}{md:Md}{ops:List Oper}{h₀:Heap}{B₀:List Nat}{p:PHeap}{LF:Pcs}{o:Oper}{tm tm':List Value}{u:Value}(hs:noSel o.op=true)(h:∀t∈looks ops o,tm'[t]?=tm[t]?)(x:TurnD P md ops h₀ B₀ p LF o tm u):
 TurnD P md ops h₀ B₀ p LF o tm' u:=by
 obtain⟨nd,a|a⟩:=x
 ·refine⟨nd,.inl ⟨xkh h a.1,fun C=>?_⟩⟩
  have:=a.2 C
  unfold OpTo Ex at this⊢
  rw[xns hs h];exact this
 ·exact⟨nd,.inr ⟨xkh h a.1,a.2⟩⟩
theorem xp1{P:Program}{md:Md}{ops:List Oper}{h₀:Heap}{B₀:List Nat}{p:PHeap}{LF C:Pcs}{o:Oper}{tm tm':List Value}{u:Value}(hs:noSel o.op=true)(h:∀t∈looks ops o,tm'[t]?=tm[t]?)(x:TurnA P md ops h₀ B₀ p LF C o tm u):
 TurnA P md ops h₀ B₀ p LF C o tm' u:=by
 obtain⟨nd,a|a⟩:=x
 ·refine⟨nd,.inl ⟨xkh h a.1,?_⟩⟩
  have:=a.2
  unfold OpTo Ex at this⊢
  rw[xns hs h];exact this
 ·exact⟨nd,.inr ⟨xkh h a.1,a.2⟩⟩
theorem xfd{P:Program}{md:Md}{ops:List Oper}{h₀:Heap}{B₀:List Nat}{p:PHeap}{LF:Pcs}{effs:List Nat}{C:Pcs}{todo:List Nat}{j:Nat}{o:Oper}{tm tm':List Value}{u:Value}(hs:noSel o.op=true)(h:∀t∈looks ops o,tm'[t]?=tm[t]?)(x:TurnX P md ops h₀ B₀ p LF effs C todo j o tm u):
 TurnX P md ops h₀ B₀ p LF effs C todo j o tm' u:=x.imp (xqn hs h) fun y=>⟨xp1 hs h y.1,y.2⟩
theorem xh9{P:Program}{md:Md}{ops:List Oper}{h₀:Heap}{B₀:List Nat}{p:PHeap}{LF:Pcs}{effs:List Nat}{C:Pcs}{todo:List Nat}{i j:Nat}{o:Oper}{tm:List Value}{u:Value}(x:TurnX P md ops h₀ B₀ p LF effs C (i::todo) j o tm u):
 TurnX P md ops h₀ B₀ p LF effs C todo j o tm u:=x.imp id fun y=>⟨y.1,fun e he=>y.2 e (by simp[he])⟩
theorem TurnX.a{P:Program}{md:Md}{ops:List Oper}{h₀:Heap}{B₀:List Nat}{p:PHeap}{LF:Pcs}{effs:List Nat}{C:Pcs}{todo:List Nat}{j:Nat}{o:Oper}{tm:List Value}{u:Value}(x:TurnX P md ops h₀ B₀ p LF effs C todo j o tm u):TurnA P md ops h₀ B₀ p LF C o tm u:=x.elim TurnD.a fun y=>y.1
theorem xzh{tm:List Value}{d:Nat}{v:Value}{x:Option Tmp}(hx:x=some d)(hd:d<tm.length):(putl tm x v)[d]?=some v:=by subst hx;exact List.getElem?_set_self hd
section
variable{P:Program}{md:Md}{ops:List Oper}{m:Nat}{n:Nat}{h₀:Heap}{B₀:List Nat}{p:PHeap}{LF:Pcs}{effs:List Nat}{f:FuncId}{r:Rd}{df:List Deferred}{k:List Item}{cs:List Frame}{Stop:Goroutine->Heap->Prop}{cl:List (List Nat)}
structure Way(P:Program)(md:Md)(ops:List Oper)(m n:Nat)(h₀:Heap)(B₀:List Nat)(p:PHeap)(LF:Pcs)(effs:List Nat)(C:Pcs)(lex:Array Bool)(tmc tmv:List Value)(done todo:List Nat):Prop where
 size:lex.size=ops.length
 lc:tmc.length=n
 lv:tmv.length=n
 pend:∀j<m,lex.getD j false=false->j∉todo-> ∃o,ops[j]?=some o/\ ∃u,TurnX P md ops h₀ B₀ p LF effs C todo j o tmv u/\ ∀d,o.dst=some d->tmv[d]?=some u
 open':∀j∈todo,lex.getD j false=false
 same:∀t,(∀(j:Nat)(o:Oper),j<m->ops[j]?=some o->o.dst=some t->lex.getD j false=true)->tmc[t]?=tmv[t]?
 back:∀j<m,j∉todo-> ∀o,ops[j]?=some o-> ∀x∈preds o,x∉todo
 all:∀j<m,j∈done\/j∈todo
 ndone:∀j∈todo,j∉done
 clos:∀(j:Nat)(o:Oper),lex.getD j false=true->ops[j]?=some o-> ∀x∈preds o,lex.getD x false=true
theorem ykz(hst:stable ops m cl=true){i:Nat}{o:Oper}{d:Nat}(hi:i<m)(ho:ops[i]?=some o)(hd:o.dst=some d):d∉looks ops o:=fun hl=>
 Nat.lt_irrefl i ((xyq hst ho).1 i (((xyq hst ho).2.2 hi).2 i o d hi ho hd |>.2 hl))
theorem Way.agree{C:Pcs}(hst:stable ops m cl=true){lex:Array Bool}{tmc tmv:List Value}{done todo:List Nat}(W:Way P md ops m n h₀ B₀ p LF effs C lex tmc tmv done todo){i:Nat}{o:Oper}(hi:i<m)(ho:ops[i]?=some o)(hp:∀j∈preds o,lex.getD j false=true):
 ∀t∈looks ops o,tmc[t]?=tmv[t]?:=fun t ht=>W.same t fun j o' hj ho' hd=>hp j (((xyq hst ho).2.2 hi).2 j o' t hj ho' hd |>.2 ht)
theorem Way.adv{C:Pcs}(hst:stable ops m cl=true){lex:Array Bool}{tmc tmv:List Value}{done todo:List Nat}{i:Nat}{o:Oper}{u:Value}(hi:i<m)(ho:ops[i]?=some o)(hd:∀d,o.dst=some d->d<n)(hnd:i∉todo)(hpr:∀x∈preds o,x∉todo)
 (W:Way P md ops m n h₀ B₀ p LF effs C lex tmc tmv done (i::todo))(hT:TurnX P md ops h₀ B₀ p LF effs C todo i o tmv u):Way P md ops m n h₀ B₀ p LF effs C lex tmc (putl tmv o.dst u) (i::done) todo:=by
 have hlooks:=fun{j:Nat}{oj:Oper}(hj:j<m)(hoj:ops[j]?=some oj)(hjt:j∉i::todo)(t:Nat)(ht:t∈looks ops oj)=>show(putl tmv o.dst u)[t]?=tmv[t]? from by
  by_cases e:o.dst=some t
  ·have:i∈preds oj:=((xyq hst hoj).2.2 hj).2 i o t hi ho e |>.2 ht
   exact absurd List.mem_cons_self (W.back j hj hjt oj hoj i this)
  ·exact xik e
 refine⟨W.size,W.lc,by rw[xjk];exact W.lv,fun j hj hl hjt=>?_,fun j hj=>W.open' j (by simp[hj]),fun t ht=>?_,fun j hj hjt oj hoj x hx=>?_,fun j hj=>?_,fun j hj=>?_,W.clos⟩
 ·by_cases e:j=i
  ·subst e
   refine⟨o,ho,u,xfd ((xyq hst ho).2.2 hi).1 (fun t ht=>?_) hT,fun d e=>xzh e (by rw[W.lv];exact hd d e)⟩
   exact xik fun e=>ykz hst hi ho e ht
  ·obtain⟨oj,hoj,uj,h1,h2⟩:=W.pend j hj hl (by simp[e,hjt])
   refine⟨oj,hoj,uj,xfd ((xyq hst hoj).2.2 hj).1 (hlooks hj hoj (by simp[e,hjt])) (xh9 h1),fun d hdj=>?_⟩
   rw[xik fun e'=>((((xyq hst hoj).2.2 hj).2 i o d hi ho e').1.resolve_right fun z=>z hdj).symm ▸ e <| rfl]
   exact h2 d hdj
 ·have hne:o.dst≠some t:=fun e=>by
   have:=W.open' i List.mem_cons_self
   rw[ht i o hi ho e]at this;cases this
  rw[xik hne];exact W.same t ht
 ·by_cases e:j=i
  ·subst e;rw[ho]at hoj;cases hoj;exact hpr x hx
  ·exact fun hxt=>W.back j hj (by simp[e,hjt]) oj hoj x hx (by simp[hxt])
 ·rcases W.all j hj with a|a
  ·exact .inl (by simp[a])
  ·rcases List.mem_cons.1 a with rfl|a
   ·exact .inl (by simp)
   ·exact .inr a
 ·intro h
  rcases List.mem_cons.1 h with rfl|h
  ·exact hnd hj
  ·exact W.ndone j (by simp[hj]) h
theorem ygw{i:Nat}{rest:List Nat}{o:Oper}{tmc:List Value}{u:Value}{C:Pcs}(ho:ops[i]?=some o)(hT:TurnA P md ops h₀ B₀ p LF C o tmc u)
 (next:RS P md (G (FL f r (putl tmc o.dst u) df (.inRegion ops.toArray rest::k)) cs) (fun h=>St h₀ B₀ p h (LF++C)) Stop):RS P md (G (FL f r tmc df (.inRegion ops.toArray (i::rest)::k)) cs) (fun h=>St h₀ B₀ p h (LF++C)) Stop:=by
 have ho2:ops.toArray[i]?=some o:=by simpa using ho
 obtain⟨hnd,⟨hm,hop⟩|⟨hm,rfl⟩⟩:=hT
 ·refine xir ho2 (xxq hm) xpw (.inr (by revert hnd;cases o.op<;>simp[noDefer])) fun h hb=>?_
  rw[xfz]
  rcases hop h hb with hx|⟨g,args,hx,hc⟩|hx
  ·refine xfx hx fun n' h'⟨v',e',e2,hb'⟩=>?_
   subst e';subst e2
   show Reach P md (G ((F (B f r) tmc.toArray df _).finish v') cs) h' Stop
   rw[xcx ho2,xzq]
   exact next h' hb'
  ·refine xfx hx fun n' h'⟨e',e2⟩=>?_
   subst e';subst e2
   refine hc _ _ _ fun v' h'⟨e2,hb'⟩=>?_
   subst e2
   rw[xcx ho2,xzq]
   exact next h' hb'
  ·refine hx _ _ _ fun v' h'⟨e2,hb'⟩=>?_
   subst e2
   rw[xcx ho2,xzq]
   exact next h' hb'
 ·refine xhr ho2 (xxq hm) ?_
  rw[xzq]
  exact next
theorem yvg{i:Nat}{rest:List Nat}{o:Oper}{tmc:List Value}{U C:Pcs}{Q:Value->Pcs->Prop}(ho:ops[i]?=some o)(hnd:noDefer o.op=true)(hm:Met ops tmc o true)
 (he:∀h,St h₀ B₀ p h (U++(LF++C))->EffTo P md tmc o h fun v h'=>∃x,Q v x/\St h₀ B₀ p h' (x++(LF++C)))
 (next:∀v x,Q v x->RS P md (G (FL f r (putl tmc o.dst v) df (.inRegion ops.toArray rest::k)) cs) (fun h=>St h₀ B₀ p h (x++(LF++C))) Stop):RS P md (G (FL f r tmc df (.inRegion ops.toArray (i::rest)::k)) cs) (fun h=>St h₀ B₀ p h (U++(LF++C))) Stop:=by
 have ho2:ops.toArray[i]?=some o:=by simpa using ho
 refine xir ho2 (xxq hm) xpw (.inr (by revert hnd;cases o.op<;>simp[noDefer])) fun h hb=>?_
 rw[xfz]
 rcases he h hb with hx|⟨g,args,hx,hc⟩|hx
 ·refine xfx hx fun n' h'⟨v',e',x,hq,hb'⟩=>?_
  rcases e' with rfl|⟨rfl,rfl⟩
  ·show Reach P md (G ((F (B f r) tmc.toArray df _).finish v') cs) h' Stop
   rw[xcx ho2,xzq]
   exact next v' x hq h' hb'
  ·show Reach P md (G ((F (B f r) tmc.toArray df _).finish undef) cs) h' Stop
   rw[xcx ho2,xzq]
   exact next undef x hq h' hb'
 ·refine xfx hx fun n' h'⟨e',e2⟩=>?_
  subst e';subst e2
  refine hc _ _ _ fun v' h'⟨x,hq,hb'⟩=>?_
  rw[xcx ho2,xzq]
  exact next v' x hq h' hb'
 ·refine hx _ _ _ fun v' h'⟨x,hq,hb'⟩=>?_
  rw[xcx ho2,xzq]
  exact next v' x hq h' hb'
theorem xom{l:Array Bool}{i:Nat}(h:i<l.size):(l.setIfInBounds i true).getD i false=true:=by simp[Array.getD,h]
theorem xs6{lex:Array Bool}{i:Nat}{o:Oper}(hil:i<lex.size)(ho:ops[i]?=some o)(hp:∀x∈preds o,lex.getD x false=true)(c:∀(j:Nat)(o:Oper),lex.getD j false=true->ops[j]?=some o-> ∀x∈preds o,lex.getD x false=true):
 ∀(j:Nat)(oj:Oper),(lex.setIfInBounds i true).getD j false=true->ops[j]?=some oj-> ∀x∈preds oj,(lex.setIfInBounds i true).getD x false=true:=fun j oj hj hoj x hx=>by
 have:lex.getD x false=true:=by
  by_cases e:i=j
  ·subst e;rw[ho]at hoj;cases hoj;exact hp x hx
  ·rw[getD_set_ne false e]at hj;exact c j oj hj hoj x hx
 by_cases e:i=x
 ·subst e;exact xom hil
 ·rwa[getD_set_ne false e]
theorem Way.step{C:Pcs}{lex:Array Bool}{tmc tmv:List Value}{done todo:List Nat}{i:Nat}{o:Oper}{u:Value}(ho:ops[i]?=some o)(hd:∀d,o.dst=some d->d<n)(hit:i∉todo)(hp:∀x∈preds o,lex.getD x false=true)
 (hu:∀d,o.dst=some d->tmv[d]?=some u)(W:Way P md ops m n h₀ B₀ p LF effs C lex tmc tmv done todo):Way P md ops m n h₀ B₀ p LF effs C (lex.setIfInBounds i true) (putl tmc o.dst u) tmv done todo:=by
 have hil:i<lex.size:=by rw[W.size];exact(List.getElem?_eq_some_iff.1 ho).1
 refine⟨by simpa using W.size,by rw[xjk];exact W.lc,W.lv,fun j hj hl hjt=>?_,fun j hj=>?_,fun t ht=>?_,W.back,W.all,W.ndone,xs6 hil ho hp W.clos⟩
 ·by_cases e:i=j
  ·subst e;rw[xom hil]at hl;cases hl
  ·rw[getD_set_ne false e]at hl;exact W.pend j hj hl hjt
 ·rw[getD_set_ne false (show i≠j from fun e=>hit (by rw[e];exact hj))];exact W.open' j hj
 ·by_cases e:o.dst=some t
  ·rw[xzh e (by rw[W.lc];exact hd t e),hu t e]
  ·rw[xik e]
   refine W.same t fun j oj hj hoj hdj=>?_
   have:=ht j oj hj hoj hdj
   by_cases e':i=j
   ·subst e';rw[ho]at hoj;cases hoj;exact absurd hdj e
   ·rwa[getD_set_ne false e']at this
theorem ybn{lex:Array Bool}(clos:∀(j:Nat)(o:Oper),lex.getD j false=true->ops[j]?=some o-> ∀x∈preds o,lex.getD x false=true){e j:Nat}(b:Bhd ops e j):(∀o,ops[e]?=some o-> ∀x∈preds o,lex.getD x false=true)->lex.getD j false=true:=by
 induction b with
 |one ho h=>exact fun c=>c _ ho _ h
 |step ho h _ ih=>exact fun c=>ih fun o' ho' x hx=>clos _ o' (c _ ho _ h) ho' x hx
theorem Way.act{C:Pcs}(C':Pcs)(hst:stable ops m cl=true){lex:Array Bool}{tmc tmv:List Value}{done todo:List Nat}{i:Nat}{o:Oper}{v:Value}(he:i∈effs)(hi:i<m)(ho:ops[i]?=some o)(hd:∀d,o.dst=some d->d<n)(hnd:i∉todo)(hpr:∀x∈preds o,x∉todo)(hp:∀x∈preds o,lex.getD x false=true)
 (W:Way P md ops m n h₀ B₀ p LF effs C lex tmc tmv done (i::todo)):Way P md ops m n h₀ B₀ p LF effs C' (lex.setIfInBounds i true) (putl tmc o.dst v) (putl tmv o.dst v) (i::done) todo:=by
 have hil:i<lex.size:=by rw[W.size];exact(List.getElem?_eq_some_iff.1 ho).1
 have hne:∀{j:Nat}{oj:Oper},j<m->ops[j]?=some oj->j∉i::todo-> ∀t∈looks ops oj,(putl tmv o.dst v)[t]?=tmv[t]?:=fun{j oj}hj hoj hjt t ht=>by
  by_cases e:o.dst=some t
  ·exact absurd List.mem_cons_self (W.back j hj hjt oj hoj i (((xyq hst hoj).2.2 hj).2 i o t hi ho e |>.2 ht))
  ·exact xik e
 refine⟨by simpa using W.size,by rw[xjk];exact W.lc,by rw[xjk];exact W.lv,fun j hj hl hjt=>?_,fun j hj=>?_,fun t ht=>?_,fun j hj hjt oj hoj x hx=>?_,fun j hj=>?_,fun j hj=>?_,xs6 hil ho hp W.clos⟩
 ·have e:i≠j:=fun e=>by subst e;rw[xom hil]at hl;cases hl
  rw[getD_set_ne false e]at hl
  obtain⟨oj,hoj,uj,h1,h2⟩:=W.pend j hj hl (by simp[Ne.symm e,hjt])
  have h1:=h1.resolve_right fun y=>by
   have:=ybn W.clos (y.2 i (by simp) he) fun o' ho' x hx=>by rw[ho]at ho';cases ho';exact hp x hx
   rw[hl]at this;cases this
  refine⟨oj,hoj,uj,.inl (xqn ((xyq hst hoj).2.2 hj).1 (hne hj hoj (by simp[Ne.symm e,hjt])) h1),fun d hdj=>?_⟩
  rw[xik fun e'=>e (((((xyq hst hoj).2.2 hj).2 i o d hi ho e').1.resolve_right fun z=>z hdj)).symm]
  exact h2 d hdj
 ·rw[getD_set_ne false (show i≠j from fun e=>hnd (by rw[e];exact hj))];exact W.open' j (by simp[hj])
 ·by_cases e:o.dst=some t
  ·rw[xzh e (by rw[W.lc];exact hd t e),xzh e (by rw[W.lv];exact hd t e)]
  ·rw[xik e,xik e]
   refine W.same t fun j oj hj hoj hdj=>?_
   have:=ht j oj hj hoj hdj
   by_cases e':i=j
   ·subst e';rw[ho]at hoj;cases hoj;exact absurd hdj e
   ·rwa[getD_set_ne false e']at this
 ·by_cases e:j=i
  ·subst e;rw[ho]at hoj;cases hoj;exact hpr x hx
  ·exact fun hxt=>W.back j hj (by simp[e,hjt]) oj hoj x hx (by simp[hxt])
 ·rcases W.all j hj with a|a
  ·exact .inl (by simp[a])
  ·rcases List.mem_cons.1 a with rfl|a
   ·exact .inl (by simp)
   ·exact .inr a
 ·intro h
  rcases List.mem_cons.1 h with rfl|h
  ·exact hnd hj
  ·exact W.ndone j (by simp[hj]) h
theorem xiw{done todo:List Nat}{i:Nat}(h:ordOk ops cl effs done (i::todo)=true):∃o,ops[i]?=some o/\(∀x∈preds o,x∈done)/\(∀e∈done,e∈effs->behind cl o e=true)/\i∉done/\ordOk ops cl effs (i::done) todo=true:=by
 unfold ordOk at h
 simp only[Bool.and_eq_true]at h
 obtain⟨⟨h1,h2⟩,h3⟩:=h
 split at h1
 ·rename_i o ho
  simp only[Bool.and_eq_true,List.all_eq_true,Bool.or_eq_true,Bool.not_eq_true',List.contains_eq_mem,decide_eq_true_eq,decide_eq_false_iff_not]at h1 h2
  exact⟨o,ho,h1.1,fun e he hf=>(h1.2 e he).resolve_left fun z=>z hf,by simpa using h2,h3⟩
 ·cases h1
theorem xfm:∀{todo done:List Nat}{e:Nat},ordOk ops cl effs done todo=true->e∈done->e∈effs-> ∀j∈todo,∀o,ops[j]?=some o->behind cl o e=true
 |[],_,_,_,_,_,j,hj,_,_=>by simp at hj
 |i::todo,done,e,h,he,hf,j,hj,o,ho=>by
   obtain⟨o',ho',_,h2,_,h4⟩:=xiw h
   rcases List.mem_cons.1 hj with rfl|hj
   ·rw[ho]at ho';cases ho';exact h2 e he hf
   ·exact xfm h4 (by simp[he]) hf j hj o ho
theorem xrj:∀{todo done:List Nat},ordOk ops cl effs done todo=true-> ∀j∈todo,j∉done
 |[],_,_,j,hj=>by simp at hj
 |i::todo,done,h,j,hj=>by
   obtain⟨_,_,_,_,h3,h4⟩:=xiw h
   rcases List.mem_cons.1 hj with rfl|hj
   ·exact h3
   ·exact fun z=>xrj h4 j hj (by simp[z])
theorem xs8(hst:stable ops m cl=true)(hdl:∀(i:Nat)(o:Oper)(d:Nat),ops[i]?=some o->o.dst=some d->d<n){K:Env->List Pcs->Prop}
 (hK:∀l LL tm,K l LL->tm.length=n->EnvOk tm l->RS P md (G (FL f r tm df (.inRegion ops.toArray (List.range' m (ops.length-m))::k)) cs) (fun h=>St h₀ B₀ p h (LF++LL.flatten)) Stop)
 {todo:List Nat}{l:Env}{LL:List Pcs}(D:DR P md ops n h₀ B₀ p LF effs K todo l LL):∀(s:List Nat)(lex:Array Bool)(tmc tmv:List Value)(done:List Nat),Ord ops m lex s->Way P md ops m n h₀ B₀ p LF effs LL.flatten lex tmc tmv done todo->EnvOk tmv l->ordOk ops cl effs done todo=true->(∀i∈todo,i<m)->
  RS P md (G (FL f r tmc df (.inRegion ops.toArray (s++List.range' m (ops.length-m))::k)) cs) (fun h=>St h₀ B₀ p h (LF++LL.flatten)) Stop:=by
 have pend:∀{i:Nat}{s:List Nat}{o:Oper}{lex:Array Bool}{tmc tmv:List Value}{done todo:List Nat}{C:Pcs},i<m->ops[i]?=some o->lex.getD i true=false->(∀x∈preds o,lex.getD x false=true)->i∉todo->Way P md ops m n h₀ B₀ p LF effs C lex tmc tmv done todo->
  (∀tmc',Way P md ops m n h₀ B₀ p LF effs C (lex.setIfInBounds i true) tmc' tmv done todo->RS P md (G (FL f r tmc' df (.inRegion ops.toArray (s++List.range' m (ops.length-m))::k)) cs) (fun h=>St h₀ B₀ p h (LF++C)) Stop)->
  RS P md (G (FL f r tmc df (.inRegion ops.toArray (i::s++List.range' m (ops.length-m))::k)) cs) (fun h=>St h₀ B₀ p h (LF++C)) Stop:=fun{i s o lex tmc tmv done todo C}hi ho hn hp hit W nx=>by
  have hni:lex.getD i false=false:=by rw[<- xod (by rw[W.size];exact(List.getElem?_eq_some_iff.1 ho).1)];exact hn
  obtain⟨o',ho',u,hT,hu⟩:=W.pend i hi hni hit
  rw[ho]at ho';cases ho'
  exact ygw ho (xfd ((xyq hst ho).2.2 hi).1 (W.agree hst hi ho hp) hT).a (nx _ (W.step ho (fun d=>hdl i o d ho) hit hp hu))
 induction D with
 |@nil l LL kk=>
   intro s
   induction s with
   |nil=>
     intro lex tmc tmv done hord W E _ _
     cases hord with
     |nil hall=>
     have:tmc=tmv:=List.ext_getElem? fun t=>W.same t fun j _ hj _ _=>hall j hj
     subst this
     exact hK l LL tmc kk W.lc E
   |cons i s ih=>
     intro lex tmc tmv done hord W E ok lt
     cases hord with
     |@cons _ _ _ o hi ho hn hp hs=>exact pend hi ho hn hp (by simp) W fun tmc' W'=>ih _ tmc' tmv done hs W' E ok lt
 |@det i todo o l LL g v ho h nx ih=>
   intro s lex tmc tmv done hord W E ok lt
   obtain⟨o',ho',h1,h2,h3,h4⟩:=xiw ok
   rw[ho]at ho';cases ho'
   have hi:=lt i (by simp)
   have hnd:i∉todo:=fun z=>xrj h4 i z (by simp)
   exact ih s lex tmc (putl tmv o.dst (cv g v)) (i::done) hord (W.adv hst hi ho (fun d=>hdl i o d ho) hnd (fun x hx z=>xrj h4 x z (by simp[h1 x hx])) (.inl (h tmv W.lv E))) (E.ent W.lv fun d=>hdl i o d ho) h4 fun j hj=>lt j (by simp[hj])
 |@pin i todo o l LL g v ho hb h nx ih=>
   intro s lex tmc tmv done hord W E ok lt
   obtain⟨o',ho',h1,h2,h3,h4⟩:=xiw ok
   rw[ho]at ho';cases ho'
   have hi:=lt i (by simp)
   have hnd:i∉todo:=fun z=>xrj h4 i z (by simp)
   exact ih s lex tmc (putl tmv o.dst (cv g v)) (i::done) hord (W.adv hst hi ho (fun d=>hdl i o d ho) hnd (fun x hx z=>xrj h4 x z (by simp[h1 x hx])) (.inr ⟨by have:=h tmv W.lv E [];rwa[List.append_nil]at this,hb⟩)) (E.ent W.lv fun d=>hdl i o d ho) h4 fun j hj=>lt j (by simp[hj])
 |@effG e todo o l LL LR U g Q ho he hr h nx ih=>
   intro s
   induction s with
   |nil=>
     intro lex tmc tmv done hord W E ok lt
     cases hord with
     |nil hall=>exact absurd ((W.open' e (by simp)).symm.trans (hall e (lt e (by simp)))) (by simp)
   |cons i s ihs=>
     intro lex tmc tmv done hord W E ok lt
     cases hord with
     |@cons _ _ _ oi hi hoi hn hp hs=>
     obtain⟨o',ho',h1,h2,h3,h4⟩:=xiw ok
     rw[ho]at ho';cases ho'
     have hnd:e∉todo:=fun z=>xrj h4 e z (by simp)
     by_cases ie:i=e
     ·subst ie
      rw[ho]at hoi;cases hoi
      obtain⟨a1,hh⟩:=h tmv W.lv E
      have hag:=W.agree hst hi ho hp
      have hns:=((xyq hst ho).2.2 hi).1
      have key:∀u x,Q u x->RS P md (G (FL f r (putl tmc o.dst (cv g u)) df (.inRegion ops.toArray (s++List.range' m (ops.length-m))::k)) cs) (fun h=>St h₀ B₀ p h (x++(LF++LR.flatten))) Stop:=fun u x hq=>by
       refine xjg (ih u x hq s _ _ (putl tmv o.dst (cv g u)) (i::done) hs (W.act _ hst he hi ho (fun d=>hdl i o d ho) hnd (fun x hx z=>xrj h4 x z (by simp[h1 x hx])) hp) (E.ent (g:=g) W.lv fun d=>hdl i o d ho) h4 fun j hj=>lt j (by simp[hj])) fun h y=>y.perm ?_
       rw[List.flatten_cons,<- List.append_assoc,<- List.append_assoc]
       exact List.Perm.append_right _ List.perm_append_comm
      have per:(LF++LL.flatten).Perm (U++(LF++LR.flatten)):=by
       refine(List.Perm.append_left LF hr).trans ?_
       rw[<- List.append_assoc,<- List.append_assoc]
       exact List.Perm.append_right _ List.perm_append_comm
      rcases hh with⟨a2,a3⟩|⟨a2,u,hu,hq⟩
      ·refine xjg (yvg (LF:=LF) (U:=U) (C:=LR.flatten) (Q:=fun v x=>∃u,v=cv g u/\Q u x) ho a1 (xkh hag a2) (fun h y=>?_) fun v x⟨u,e,hq⟩=>by subst e;exact key u x hq) fun h y=>y.perm per
       have:=(a3 LR.flatten h y).mono fun v h'(⟨u,x,e,q,z⟩:∃ u x,v=cv g u/\Q u x/\St h₀ B₀ p h' (x++(LF++LR.flatten)))=>(⟨x,⟨u,e,q⟩,z⟩:∃x,(∃u,v=cv g u/\Q u x)/\St h₀ B₀ p h' (x++(LF++LR.flatten)))
       unfold EffTo Exv at this⊢
       rw[xns hns hag];exact this
      ·have ho2:ops.toArray[i]?=some o:=by simpa using ho
       refine xjg (xhr ho2 (xxq (xkh hag a2)) ?_) fun h y=>y.perm per
       rw[xzq,<- hu]
       exact key u U hq
     ·by_cases it:i∈todo
      ·have hb:=xfm h4 (e:=e) (by simp) he i it oi hoi
       have:=xyk hst W.size W.clos ops.length oi e (fun x hx=>⟨Nat.lt_trans ((xyq hst hoi).1 x hx) (List.getElem?_eq_some_iff.1 hoi).1,hp x hx⟩) hb
       rw[W.open' e (by simp)]at this;cases this
      ·exact pend hi hoi hn hp (by simp[ie,it]) W fun tmc' W'=>ihs _ tmc' tmv done hs W' E ok lt
theorem xgf{X:Cx}{id:Nat}{l:Env}{LL L0 L1:List Pcs}(hL:L1.flatten.Perm (LL.flatten++L0.flatten))(m:Nat)(cl:List (List Nat))(effs order:List Nat)(hmix:X.P.follows .mixedOrders=true)(ok:okD X.n ops=true)
 (D:DR X.P X.md ops X.n X.h₀ X.B₀ p LL.flatten effs (fun l' LL'=>RO X k ops (ops.drop m) l' p (LL++LL')) order l L0)
 (hst:stable ops m cl=true:=by rfl)(hm:Nat.ble m ops.length=true:=by rfl)(hord:ordOk ops cl effs [] order=true:=by rfl)(hall:((List.range m).all fun i=>order.contains i)=true:=by rfl)(hlt:(order.all fun i=>Nat.blt i m)=true:=by rfl):
 RE X (.code (.region id ops.toArray true)::k) l p L1:=by
 constructor
 intro tm ht E
 have okd:∀{os:List Oper},okD X.n os=true-> ∀o∈os,∀d,o.dst=some d->d<X.n:=fun{os}=>by
  induction os with
  |nil=>intro _ o ho;simp at ho
  |cons o os ih=>
    intro h o' ho' d hd
    rcases List.mem_cons.1 ho' with rfl|ho'
    ·exact(xhq h).2 d hd
    ·exact ih (xhq h).1 o' ho' d hd
 have okdrop:∀{os:List Oper}(j:Nat),okD X.n os=true->okD X.n (os.drop j)=true:=fun{os}=>by
  induction os with
  |nil=>intro j h;cases j<;>exact h
  |cons o os ih=>
    intro j h
    cases j with
    |zero=>exact h
    |succ j=>exact ih j (xhq h).1
 have hm:=Nat.le_of_ble_eq_true hm
 refine xb4 fun t=>?_
 unfold Region.schedule
 rw[hmix]
 simp only[Bool.true_or,if_true]
 obtain⟨s,e,hor⟩:=xh0 hst hm t
 rw[e]
 have hall':∀j<m,j∈order:=fun j hj=>by
  have:=List.all_eq_true.1 hall j (List.mem_range.2 hj)
  simpa using this
 have:=xs8 (f:=X.f) (r:=X.r) (df:=X.df) (k:=k) (cs:=X.cs) (Stop:=X.Stop) (m:=m) hst (fun i o d ho hd=>okd ok o (List.mem_of_getElem? ho) d hd) (fun l' LL' tm' K ht' E'=>by
  have z:=K.run (okdrop m ok) tm' ht' E' (ops.take m) (List.take_append_drop m ops).symm
  rw[List.length_take,Nat.min_eq_left hm,List.length_drop,List.flatten_append]at z
  exact z) D s _ tm tm [] hor ⟨by simp,ht,ht,fun j hj _ hjt=>absurd (hall' j hj) hjt,fun j _=>by simp[Array.getD],fun _ _=>rfl,fun j hj hjt=>absurd (hall' j hj) hjt,fun j hj=>.inr (hall' j hj),fun j _=>by simp,fun j o h=>by simp[Array.getD]at h⟩ E hord (fun i hi=>Nat.lt_of_lt_of_le (Nat.le_of_ble_eq_true (List.all_eq_true.1 hlt i hi)) (Nat.le_refl _))
 intro h y
 exact this h (y.perm hL)
theorem xn4{X:Cx}{id:Nat}{l:Env}{LL:List Pcs}(m:Nat)(cl:List (List Nat))(effs order:List Nat)(hmix:X.P.follows .mixedOrders=true)(ok:okD X.n ops=true)
 (D:DR X.P X.md ops X.n X.h₀ X.B₀ p LL.flatten effs (fun l' LL'=>RO X k ops (ops.drop m) l' p (LL++LL')) order l [])
 (hst:stable ops m cl=true:=by rfl)(hm:Nat.ble m ops.length=true:=by rfl)(hord:ordOk ops cl effs [] order=true:=by rfl)(hall:((List.range m).all fun i=>order.contains i)=true:=by rfl)(hlt:(order.all fun i=>Nat.blt i m)=true:=by rfl):
 RE X (.code (.region id ops.toArray true)::k) l p LL:=xgf (by simp) m cl effs order hmix ok D hst hm hord hall hlt
end
inductive Ks where
 |drop (m:Nat)
 |to (K:Env->List Pcs->Prop)
def Ks.k(X:Cx)(k:List Item)(ops:List Oper)(p:PHeap)(LF:List Pcs):Ks->Env->List Pcs->Prop
 |.drop m=>fun l' LL'=>RO X k ops (ops.drop m) l' p (LF++LL')
 |.to K=>K
structure DE(X:Cx)(k:List Item)(ops:List Oper)(m:Ks)(p:PHeap)(LF:List Pcs)(effs:List Nat)(todo:List Nat)(l:Env)(LL:List Pcs):Prop where
 run:DR X.P X.md ops X.n X.h₀ X.B₀ p LF.flatten effs (m.k X k ops p LF) todo l LL
class AppC(A B:List Pcs)(C:outParam (List Pcs)):Prop where h:A++B=C
instance{B:List Pcs}:AppC [] B B:=⟨rfl⟩
instance{A B C:List Pcs}{X:Pcs}[i:AppC A B C]:AppC (X::A) B (X::C):=⟨by rw[List.cons_append,i.h]⟩
section
variable{X:Cx}{k:List Item}{ops:List Oper}{m:Ks}{l:Env}{p:PHeap}{LF LL LR L3:List Pcs}{effs todo:List Nat}{g:Option Bool}{d:Option Tmp}{op:Op}{ty:TypeId}{pos:String}{aft:Array Edge}{gd:Option (Nat×Bool)}{ss ss':List Prop}{x y:Operand}{i:Nat}{v:Value}
theorem xaw{id:Nat}(m:Nat)(cl:List (List Nat))(effs order:List Nat)(D:DE X k ops (.drop m) p LL effs order l [])(hmix:X.P.follows .mixedOrders=true:=by kernel_rfl)(ok:okD X.n ops=true:=by rfl)
 (hst:stable ops m cl=true:=by rfl)(hm:Nat.ble m ops.length=true:=by rfl)(hord:ordOk ops cl effs [] order=true:=by rfl)(hall:((List.range m).all fun i=>order.contains i)=true:=by rfl)(hlt:(order.all fun i=>Nat.blt i m)=true:=by rfl):
 RE X (.code (.region id ops.toArray true)::k) l p LL:=xn4 m cl effs order hmix ok D.run hst hm hord hall hlt
theorem ylk{mm:Nat}{os:List Oper}[a:AppC LF LL L3](n:RO X k ops os l p L3)(ho:ops.drop mm=os:=by rfl):DE X k ops (.drop mm) p LF effs [] l LL:=⟨.nil (show RO X k ops (ops.drop mm) l p (LF++LL) from by rw[a.h,ho];exact n)⟩
theorem xmx{K:Env->List Pcs->Prop}(n:K l LL):DE X k ops (.to K) p LF effs [] l LL:=⟨.nil n⟩
theorem xbl{P:Program}{md:Md}{tm:List Value}{o:Oper}{B:Heap->Prop}{v:Value}(h:∀h,B h->Exd P tm o h v):OpTo P md tm o B v:=fun hp hb=>.inl (xfx (h hp hb) fun _ _⟨v',e1,e2,e3⟩=>⟨v',e1,e2,by rw[e3];exact hb⟩)
theorem xwz(ho:ops[i]?=some ⟨d,op,ty,pos,aft,gd⟩)(hg:gdc ops l gd=some g)(hd:noDefer op=true)(hx:cimp g (∀tm h C,EnvOk tm l->St X.h₀ X.B₀ p h (LF.flatten++C)->Exd X.P tm ⟨d,op,ty,pos,aft,gd⟩ h v))
 (n:DE X k ops m p LF effs todo (ent d g v l) LL):DE X k ops m p LF effs (i::todo) l LL:=⟨.det ho (fun tm _ E=>⟨hd,by
  rcases xnv (o:=⟨d,op,ty,pos,aft,gd⟩) E hg with⟨rfl,hm⟩|⟨c,rfl,hm⟩
  ·exact .inl ⟨hm,fun C=>xbl fun h y=>hx tm h C E y⟩
  ·cases c with
   |true=>exact .inl ⟨hm,fun C=>xbl fun h y=>hx rfl tm h C E y⟩
   |false=>exact .inr ⟨hm,rfl⟩⟩) n.run⟩
theorem xvc(ho:ops[i]?=some ⟨d,op,ty,pos,aft,gd⟩)(hg:gdc ops l gd=some g)(hv:pv l op=some (ss,v))(hs:cimp g (AllP ss))(n:DE X k ops m p LF effs todo (ent d g v l) LL):DE X k ops m p LF effs (i::todo) l LL:=
 xwz ho hg (xdp hv) (xsq hs fun a _ _ _ E _=>yzp E hv a) n
theorem xal{LF LR:List Pcs}{b:Nat}{o:Obj}{C:Pcs}(i:Bx LF b o LR):(LF.flatten++C).Perm ((b,o)::(LR.flatten++C)):=List.Perm.append_right C i.h
theorem xwc{t:TypeId}{b off:Nat}{cs:Array Value}{T:TypeId}{z:Nat×Nat}{u:Value}(ho:ops[i]?=some ⟨d,.load t x,ty,pos,aft,gd⟩)(hg:gdc ops l gd=some g)(hx:evS l x=some (ss,.pointer (some ⟨b,off,none⟩)))(hs:cimp g (AllP ss))[a:AggC X.P t false][mm:Bx LF b (.cells cs T z) LR]
 (n:DE X k ops m p LF effs todo (ent d g u l) LL)(hv:nth cs.toList off=some u:=by rfl):DE X k ops m p LF effs (i::todo) l LL:=
 xwz ho hg rfl (xsq hs fun hs _ _ _ E s=>xzb (i:=0) (s.perm (xal mm)) a.h (xdq E hx hs) rfl (by rw[<- Array.getElem?_toList];exact xhm hv)) n
theorem xu0{t:TypeId}{b off nn:Nat}{cs:Array Value}{T:TypeId}{z:Nat×Nat}(ho:ops[i]?=some ⟨d,.load t x,ty,pos,aft,gd⟩)(hg:gdc ops l gd=some g)(hx:evS l x=some (ss,.pointer (some ⟨b,off,none⟩)))(hs:cimp g (AllP ss))[a:AggC X.P t true][sz:SizeC X.P t nn][mm:Bx LF b (.cells cs T z) LR]
 (n:DE X k ops m p LF effs todo (ent d g (.agg ((cs.toList.drop off).take nn).toArray) l) LL)(hn:((cs.toList.drop off).take nn).length=nn:=by rfl):DE X k ops m p LF effs (i::todo) l LL:=
 xwz ho hg rfl (xsq hs fun hs _ _ _ E s=>xzw (i:=0) (s.perm (xal mm)) a.h sz.h (xdq E hx hs) rfl rfl hn) n
theorem xag{t:TypeId}{a:Addr}{u:Value}(ho:ops[i]?=some ⟨d,.load t x,ty,pos,aft,none⟩)(hx:evS l x=some ([],.pointer (some a)))(hv:pcell p a=some u)[ag:AggC X.P t false](n:DE X k ops m p LF effs todo (ent d none u l) LL):DE X k ops m p LF effs (i::todo) l LL:=
 xwz (g:=none) ho rfl rfl (fun _ _ _ E s=>xyb s ag.h (xdq E hx trivial) hv) n
theorem yum{s:TypeId}{j oo nn:Nat}{a:Addr}(ho:ops[i]?=some ⟨d,.fieldAddr s x j,ty,pos,aft,gd⟩)(hg:gdc ops l gd=some g)(hx:evS l x=some (ss,.pointer (some a)))(hs:cimp g (AllP ss))[f:FldC X.P s j oo nn](n:DE X k ops m p LF effs todo (ent d g (.pointer (some (a.add oo))) l) LL):DE X k ops m p LF effs (i::todo) l LL:=
 xwz ho hg rfl (xsq hs fun hs _ _ _ E _=>xxk f.h (xdq E hx hs) rfl) n
theorem yok{t e:TypeId}{a:Option Addr}{q c:Nat}(ho:ops[i]?=some ⟨d,.call ⟨.builtin .len,#[x],#[t]⟩,ty,pos,aft,gd⟩)(hg:gdc ops l gd=some g)(hx:evS l x=some (ss,.slice a q c))(hs:cimp g (AllP ss))[f:SlcC X.P t e](n:DE X k ops m p LF effs todo (ent d g (.int .i64 q) l) LL):DE X k ops m p LF effs (i::todo) l LL:=
 xwz ho hg rfl (xsq hs fun hs _ _ _ E _=>xt2 f.h (xdq E hx hs)) n
theorem ysm{t e:TypeId}{a:Option Addr}{q c w j:Nat}{kk:IntKind}(ho:ops[i]?=some ⟨d,.indexAddr t x y,ty,pos,aft,none⟩)(hx:evS l x=some ([],.slice a q c))(hy:evS l y=some ([],.int kk (j:Nat)))(hi:j<q)(ha:a=some (adr a))
 [f:SlcC X.P t e][sz:SizeC X.P e w](n:DE X k ops m p LF effs todo (ent d none (.pointer (some ((adr a).add (j*w)))) l) LL):DE X k ops m p LF effs (i::todo) l LL:=
 xwz (g:=none) ho rfl rfl (fun _ _ _ E _=>xlk f.h sz.h ((xdq E hx trivial).trans (xu1 a q c ha)) (xdq E hy trivial) hi) n
theorem xak{args:List Operand}{ats:Array TypeId}{ff:FuncId}{first cap vs:List Value}(ho:ops[i]?=some ⟨d,.call ⟨.value x,args.toArray,ats⟩,ty,pos,aft,gd⟩)(hg:gdc ops l gd=some g)
 (hx:evS l x=some ([],.func (.func ff) first.toArray cap.toArray))(hvs:evsS l args=some (ss,vs))(hs:cimp g (AllP ss))(hc:cimp g (∀h,Per p h->CallsX X.P X.md ff (first++(vs++cap)).toArray h fun v' h'=>v'=v/\Keep h h'))(n:DE X k ops m p LF effs todo (ent d g v l) LL)(hf:callable X.P ff=true:=by kernel_rfl):
 DE X k ops m p LF effs (i::todo) l LL:=⟨.det ho (fun tm _ E=>⟨rfl,by
  have cal:AllP ss->(∀h,Per p h->CallsX X.P X.md ff (first++(vs++cap)).toArray h fun v' h'=>v'=v/\Keep h h')-> ∀C:Pcs,OpTo X.P X.md tm ⟨d,.call ⟨.value x,args.toArray,ats⟩,ty,pos,aft,gd⟩ (fun h=>St X.h₀ X.B₀ p h (LF.flatten++C)) v:=fun hs hc C h s=>
   .inr (.inl ⟨ff,_,xrv (xdq E hx trivial) (by rw[xlx E hvs hs]) hf,(hc h fun b o e=>s.per b o e).mono fun _ _⟨e,kk⟩=>⟨e,s.call kk⟩⟩)
  rcases xnv (o:=⟨d,.call ⟨.value x,args.toArray,ats⟩,ty,pos,aft,gd⟩) E hg with⟨rfl,hm⟩|⟨c,rfl,hm⟩
  ·exact .inl ⟨hm,cal hs hc⟩
  ·cases c with
   |true=>exact .inl ⟨hm,cal (hs rfl) (hc rfl)⟩
   |false=>exact .inr ⟨hm,rfl⟩⟩) n.run⟩
theorem xiz{args:List Operand}{ats:Array TypeId}{ff:FuncId}{first cap vs:List Value}(ho:ops[i]?=some ⟨d,.call ⟨.value x,args.toArray,ats⟩,ty,pos,aft,none⟩)
 (hx:evS l x=some ([],.func (.func ff) first.toArray cap.toArray))(hvs:evsS l args=some ([],vs))(hc:∀h,Per p h->CallsX X.P X.md ff (first++(vs++cap)).toArray h fun v' h'=>v'=v/\Keep h h')(n:DE X k ops m p LF effs todo (ent d none v l) LL)(hf:callable X.P ff=true:=by kernel_rfl):
 DE X k ops m p LF effs (i::todo) l LL:=xak (g:=none) ho rfl hx hvs trivial hc n hf
theorem xqv{args:List Operand}{ats:Array TypeId}{ff:FuncId}{first cap vs:List Value}{Q:Value->Pcs->Prop}(ho:ops[i]?=some ⟨d,.call ⟨.value x,args.toArray,ats⟩,ty,pos,aft,none⟩)
 (hx:evS l x=some ([],.func (.func ff) first.toArray cap.toArray))(hvs:evsS l args=some ([],vs))(hc:∀h,Per p h->CallsX X.P X.md ff (first++(vs++cap)).toArray h fun v' h'=>∃Y,Q v' Y/\New h h' Y)(n:∀v Y,Q v Y->DE X k ops m p LF effs todo (ent d none v l) (Y::LL))
 (he:effs.contains i=true:=by rfl)(hf:callable X.P ff=true:=by kernel_rfl):DE X k ops m p LF effs (i::todo) l LL:=
 ⟨.eff (U:=[]) (LR:=LL) (Q:=Q) ho (by simpa using he) (List.Perm.refl _) (fun _ _ E=>⟨rfl,xoq rfl,fun C h s=>.inr <| .inl ⟨ff,_,xrv (xdq E hx trivial) (by rw[xlx E hvs trivial]) hf,(hc h fun b o e=>s.per b o e).mono fun _ _⟨Y,q,nn⟩=>⟨Y,q,s.callN nn⟩⟩⟩) fun v Y q=>(n v Y q).run⟩
end
section
variable{X:Cx}{k:List Item}{ops rest:List Oper}{l:Env}{p:PHeap}{LL LR:List Pcs}{g:Option Bool}{d:Option Tmp}{ty:TypeId}{pos:String}{aft:Array Edge}{gd:Option (Nat×Bool)}{ss:List Prop}{x:Operand}{v fv:Value}
theorem yjp{args:List Operand}{ats:Array TypeId}{vs:List Value}(hg:gdc ops l gd=some g)(hx:evS l x=some ([],fv))(hvs:evsS l args=some (ss,vs))(hs:cimp g (AllP ss))(hc:cimp g (∀h,Per p h->CallV X.P X.md fv vs h fun v' h'=>v'=v/\Keep h h'))(n:RO X k ops rest (ent d g v l) p LL):
 RO X k ops (⟨d,.call ⟨.value x,args.toArray,ats⟩,ty,pos,aft,gd⟩::rest) l p LL:=by
 constructor
 intro ok tm ht E
 have ok':=xhq ok
 have go:∀u,u=cv g v->RL X.P X.md X.f X.r X.df k X.cs X.Stop ops rest (putl tm d u) (fun h=>St X.h₀ X.B₀ p h LL.flatten):=fun u e=>by
  subst e;exact n.run ok'.1 _ (putl_len.trans ht) (E.ent ht ok'.2)
 have cal:Met ops tm ⟨d,.call ⟨.value x,args.toArray,ats⟩,ty,pos,aft,gd⟩ true->AllP ss->(∀h,Per p h->CallV X.P X.md fv vs h fun v' h'=>v'=v/\Keep h h')->v=cv g v->
  RL X.P X.md X.f X.r X.df k X.cs X.Stop ops (⟨d,.call ⟨.value x,args.toArray,ats⟩,ty,pos,aft,gd⟩::rest) tm (fun h=>St X.h₀ X.B₀ p h LL.flatten):=fun hm hs hc e=>
  xzt hm (xdq E hx trivial) (xlx E hvs hs) (fun h s=>hc h fun b o e=>s.per b o e) rfl (go _ e)
 rcases xnv (o:=⟨d,.call ⟨.value x,args.toArray,ats⟩,ty,pos,aft,gd⟩) E hg with⟨rfl,hm⟩|⟨c,rfl,hm⟩
 ·exact cal hm hs hc rfl
 ·cases c with
  |true=>exact cal hm (hs rfl) (hc rfl) rfl
  |false=>exact xid hm rfl (go _ rfl)
theorem xhn{args:List Operand}{ats:Array TypeId}{vs:List Value}(hx:evS l x=some ([],fv))(hvs:evsS l args=some ([],vs))(hc:∀h,Per p h->CallV X.P X.md fv vs h fun v' h'=>v'=v/\Keep h h')(n:RO X k ops rest (ent d none v l) p LL):
 RO X k ops (⟨d,.call ⟨.value x,args.toArray,ats⟩,ty,pos,aft,none⟩::rest) l p LL:=yjp (g:=none) rfl hx hvs trivial hc n
end
inductive ResE (P:Program) (l:Env) (LL:List Pcs):List ResultVar->List Value->Prop
 |nil:ResE P l LL [] []
 |tmp {t:Tmp} {v:Value} {rs:List ResultVar} {vs:List Value} (h:lk l t=some (none,v)) (r:ResE P l LL rs vs):ResE P l LL (.tmp t::rs) (v::vs)
 |cell1 {a:Tmp} {T:TypeId} {b off:Nat} {cs:Array Value} {T':TypeId} {z:Nat×Nat} {LR:List Pcs} {v:Value} {rs:List ResultVar} {vs:List Value} (h:lk l a=some (none,.pointer (some ⟨b,off,none⟩))) (i:AggC P T false) (m:Bx LL b (.cells cs T' z) LR) (hv:nth cs.toList off=some v) (r:ResE P l LL rs vs):
  ResE P l LL (.cell a T::rs) (v::vs)
 |cellN {a:Tmp} {T:TypeId} {b off n:Nat} {cs:Array Value} {T':TypeId} {z:Nat×Nat} {LR:List Pcs} {rs:List ResultVar} {vs:List Value} (h:lk l a=some (none,.pointer (some ⟨b,off,none⟩))) (i:AggC P T true) (s:SizeC P T n) (m:Bx LL b (.cells cs T' z) LR) (hn:((cs.toList.drop off).take n).length=n)
  (r:ResE P l LL rs vs):ResE P l LL (.cell a T::rs) (.agg ((cs.toList.drop off).take n).toArray::vs)
theorem xjs{tm:List Value}{l:Env}{t:Nat}{v:Value}(E:EnvOk tm l)(h:lk l t=some (none,v)):tm.getD t undef=v:=by simp[List.getD_eq_getElem?_getD,E _ _ _ h,cv]
theorem ybx{P:Program}{tm:List Value}{l:Env}{LL:List Pcs}{h₀ h:Heap}{B₀:List Nat}{p:PHeap}{rs:List ResultVar}{vs:List Value}(E:EnvOk tm l)(s:St h₀ B₀ p h LL.flatten)(r:ResE P l LL rs vs):Res P h tm rs vs:=by
 induction r with
 |nil=>exact rfl
 |tmp h1 _ ih=>exact⟨_,_,rfl,xjs E h1,ih⟩
 |cell1 h1 i m hv _ ih=>
   refine⟨_,_,rfl,?_,ih⟩
   rw[xjs E h1]
   exact xbq (xcq (xbh i.h ((s.bx m).ocell (i:=0) rfl (by rw[<- Array.getElem?_toList];exact xhm hv)) ⟨rfl,rfl⟩))
 |cellN h1 i sz m hn _ ih=>
   refine⟨_,_,rfl,?_,ih⟩
   rw[xjs E h1]
   refine xbq (xcq (xah i.h sz.h hn (fun j u hj=>?_) ⟨rfl,rfl⟩))
   rw[xrx]
   refine(s.bx m).ocell (i:=0) rfl ?_
   rw[List.getElem?_take]at hj
   split at hj
   ·rw[List.getElem?_drop]at hj;simpa using hj
   ·cases hj
theorem xnz{P:Program}{md:Md}{f:FuncId}{nn:Nat}{c₀:Frame}{cs:List Frame}{Stop:Goroutine->Heap->Prop}{h₀:Heap}{B₀:List Nat}{p:PHeap}{LL:List Pcs}{l:Env}{k:List Item}{fn:Func}{rs:List ResultVar}{vs:List Value}(hf:P.funcs[f]?=some fn)(hr:fn.results=rs.toArray)
 (hv:ResE P l LL rs vs)(x:∀h,St h₀ B₀ p h LL.flatten->Reach P md (G (c₀.finish (packs vs)) cs) h Stop):RE ⟨P,md,f,.none,nn,[],c₀::cs,Stop,h₀,B₀⟩ (.code .ret::k) l p LL:=
 ⟨fun _ _ E=>yvf hf hr (fun _ s=>ybx E s hv) rfl x⟩
theorem xb0{P:Program}{l:Env}{LL LR:List Pcs}{a:Tmp}{T:TypeId}{b off:Nat}{cs:Array Value}{T':TypeId}{z:Nat×Nat}{v:Value}{rs:List ResultVar}{vs:List Value}(h:lk l a=some (none,.pointer (some ⟨b,off,none⟩)))(r:ResE P l LL rs vs)[i:AggC P T false][m:Bx LL b (.cells cs T' z) LR]
 (hv:nth cs.toList off=some v:=by rfl):ResE P l LL (.cell a T::rs) (v::vs):=.cell1 h i m hv r
theorem xqx{P:Program}{l:Env}{LL LR:List Pcs}{a:Tmp}{T:TypeId}{b off n:Nat}{cs:Array Value}{T':TypeId}{z:Nat×Nat}{rs:List ResultVar}{vs:List Value}(h:lk l a=some (none,.pointer (some ⟨b,off,none⟩)))(r:ResE P l LL rs vs)[i:AggC P T true][s:SizeC P T n][m:Bx LL b (.cells cs T' z) LR]
 (hn:((cs.toList.drop off).take n).length=n:=by rfl):ResE P l LL (.cell a T::rs) (.agg ((cs.toList.drop off).take n).toArray::vs):=.cellN h i s m hn r
theorem rsv{p:Prop}(h:p:=by repeat (first|exact ResE.nil|refine ResE.tmp rfl ?_|refine xb0 rfl ?_|refine xqx rfl ?_)):p:=h
def nthP:List (Nat×Nat)->Nat->Option (Nat×Nat)
 |[],_=>none
 |x::_,0=>some x
 |_::xs,i+1=>nthP xs i
theorem ydz:∀{l:List (Nat×Nat)}{i:Nat}{x:Nat×Nat},nthP l i=some x->l[i]?=some x
 |[],_,_,h=>by cases h
 |_::_,0,_,h=>h
 |_::xs,i+1,_,h=>ydz (l:=xs) h
def fillT(pl:List (Nat×Nat)):List Value->List (Nat×Value)->Option (List Value)
 |cs,[]=>some cs
 |cs,x::rest=>
   match nthP pl x.1 with
   |none=>none
   |some q=>match Nat.beq x.2.cells.toList.length q.2&&Nat.ble (q.1+q.2) cs.length with
     |true=>fillT pl (setl cs q.1 x.2.cells.toList) rest
     |false=>none
theorem xh3{off:Nat}:∀{l:List Value}{k:Nat}{cs:Array Value},((l.zipIdx k).foldl (fun cs(c,j)=>cs.setIfInBounds (off+j) c) cs).toList=setl cs.toList (off+k) l
 |[],_,_=>rfl
 |c::l,k,cs=>by
   rw[List.zipIdx_cons,List.foldl_cons,xh3,Array.toList_setIfInBounds];rfl
theorem xlc{pl:List (Nat×Nat)}:∀{vs:List (Nat×Value)}{cs r:List Value},fillT pl cs vs=some r->Instr.fill (fun i=>pl[i]?) cs.toArray vs=some r.toArray
 |[],cs,r,h=>by unfold fillT at h;cases h;rfl
 |(i,v)::vs,cs,r,h=>by
   rw[fillT]at h
   cases hp:nthP pl i with
   |none=>simp only[hp]at h;cases h
   |some q=>
     obtain⟨off,size⟩:=q
     simp only[hp]at h
     cases hb:Nat.beq v.cells.toList.length size&&Nat.ble (off+size) cs.length with
     |false=>rw[hb]at h;cases h
     |true=>
       rw[hb]at h
       simp only[Bool.and_eq_true,Nat.beq_eq,Nat.ble_eq,Array.length_toList]at hb
       have hp':pl[i]?=some (off,size):=ydz hp
       have e:v.cells.zipIdx.foldl (fun cs(c,j)=>cs.setIfInBounds (off+j) c) cs.toArray=(setl cs off v.cells.toList).toArray:=by
        apply Array.toList_inj.1
        rw[<- Array.foldl_toList,Array.toList_zipIdx,xh3];rfl
       unfold Instr.fill
       simp only[hp']
       rw[if_neg (by simp[hb.1];omega),e]
       exact xlc h
section
variable{X:Cx}{k:List Item}{ops rest:List Oper}{m:Ks}{l:Env}{p:PHeap}{LF LL LR:List Pcs}{effs todo:List Nat}{g:Option Bool}{d:Option Tmp}{ty:TypeId}{pos:String}{aft:Array Edge}{gd:Option (Nat×Bool)}{ss ss':List Prop}{x y:Operand}{i:Nat}{v:Value}
theorem ywf{P:Program}{tm:List Value}{h:Heap}{t:TypeId}{j o:Nat}{cs:Array Value}[f:FiC P t j o](hx:evl tm x=.agg cs)(hv:nth cs.toList o=some v):Exd P tm ⟨d,.field t x j,ty,pos,aft,gd⟩ h v:=by
 obtain⟨fs,fd,h1,h2,h3,h4⟩:=f.h
 exact ytj h1 h2 rfl h3 h4 hx (by rw[<- Array.getElem?_toList];exact xhm hv)
theorem ynh{t:TypeId}{j o:Nat}{cs:Array Value}(hg:gdc ops l gd=some g)(hx:evS l x=some (ss,.agg cs))(hs:cimp g (AllP ss))[f:FiC X.P t j o](n:RO X k ops rest (ent d g v l) p LL)(hv:nth cs.toList o=some v:=by rfl):RO X k ops (⟨d,.field t x j,ty,pos,aft,gd⟩::rest) l p LL:=
 xdx hg rfl (xsq hs fun hs _ _ E _=>ywf (xdq E hx hs) hv) n
theorem ytm{t:TypeId}{j o:Nat}{cs:Array Value}(ho:ops[i]?=some ⟨d,.field t x j,ty,pos,aft,gd⟩)(hg:gdc ops l gd=some g)(hx:evS l x=some (ss,.agg cs))(hs:cimp g (AllP ss))[f:FiC X.P t j o](n:DE X k ops m p LF effs todo (ent d g v l) LL)(hv:nth cs.toList o=some v:=by rfl):DE X k ops m p LF effs (i::todo) l LL:=
 xwz ho hg rfl (xsq hs fun hs _ _ _ E _=>ywf (xdq E hx hs) hv) n
theorem yoh{s:TypeId}{j oo nn b off:Nat}(hg:gdc ops l gd=some g)(hx:evS l x=some (ss,.pointer (some ⟨b,off,none⟩)))(hs:cimp g (AllP ss))[f:FldC X.P s j oo nn](n:RO X k ops rest (ent d g (.pointer (some ⟨b,off+oo,none⟩)) l) p LL):
 RO X k ops (⟨d,.fieldAddr s x j,ty,pos,aft,gd⟩::rest) l p LL:=xdx hg rfl (xsq hs fun hs _ _ E _=>xxk f.h (xdq E hx hs) (xrx _ _ _)) n
theorem yqk{s:TypeId}{j oo nn b off:Nat}(ho:ops[i]?=some ⟨d,.fieldAddr s x j,ty,pos,aft,gd⟩)(hg:gdc ops l gd=some g)(hx:evS l x=some (ss,.pointer (some ⟨b,off,none⟩)))(hs:cimp g (AllP ss))[f:FldC X.P s j oo nn](n:DE X k ops m p LF effs todo (ent d g (.pointer (some ⟨b,off+oo,none⟩)) l) LL):
 DE X k ops m p LF effs (i::todo) l LL:=xwz ho hg rfl (xsq hs fun hs _ _ _ E _=>xxk f.h (xdq E hx hs) (xrx _ _ _)) n
theorem ygq{ats:Array TypeId}{kk k':IntKind}{a b:Int}(hg:gdc ops l gd=some g)(hx:evS l x=some (ss,.int kk a))(hy:evS l y=some (ss',.int k' b))(hs:cimp g (AllP ss))(hs':cimp g (AllP ss'))(n:RO X k ops rest (ent d g (.int kk (min a b)) l) p LL):RO X k ops (⟨d,.call ⟨.builtin .min,#[x,y],ats⟩,ty,pos,aft,gd⟩::rest) l p LL:=
 xdx hg rfl (xoz hs hs' fun hs hs' _ _ E _=>yqj (xdq E hx hs) (xdq E hy hs')) n
theorem yhq{ats:Array TypeId}{kk k':IntKind}{a b:Int}(hg:gdc ops l gd=some g)(hx:evS l x=some (ss,.int kk a))(hy:evS l y=some (ss',.int k' b))(hs:cimp g (AllP ss))(hs':cimp g (AllP ss'))(n:RO X k ops rest (ent d g (.int kk (max a b)) l) p LL):RO X k ops (⟨d,.call ⟨.builtin .max,#[x,y],ats⟩,ty,pos,aft,gd⟩::rest) l p LL:=
 xdx hg rfl (xoz hs hs' fun hs hs' _ _ E _=>ydm (xdq E hx hs) (xdq E hy hs')) n
theorem ymk{ats:Array TypeId}{kk k':IntKind}{a b:Int}(ho:ops[i]?=some ⟨d,.call ⟨.builtin .min,#[x,y],ats⟩,ty,pos,aft,gd⟩)(hg:gdc ops l gd=some g)(hx:evS l x=some (ss,.int kk a))(hy:evS l y=some (ss',.int k' b))(hs:cimp g (AllP ss))(hs':cimp g (AllP ss'))
 (n:DE X k ops m p LF effs todo (ent d g (.int kk (min a b)) l) LL):DE X k ops m p LF effs (i::todo) l LL:=xwz ho hg rfl (xoz hs hs' fun hs hs' _ _ _ E _=>yqj (xdq E hx hs) (xdq E hy hs')) n
theorem xh4{t e:TypeId}{a:Option Addr}{q c w:Nat}{j:Int}{kk:IntKind}(hx:evS l x=some ([],.slice a q c))(hy:evS l y=some ([],.int kk j))(h0:0<=j)(hi:j<q)(ha:a=some (adr a))[f:SlcC X.P t e][sz:SizeC X.P e w]
 (n:RO X k ops rest (ent d none (.pointer (some ((adr a).add (j.toNat*w)))) l) p LL):RO X k ops (⟨d,.indexAddr t x y,ty,pos,aft,none⟩::rest) l p LL:=
 xdx (g:=none) rfl rfl (fun _ _ E _=>xzj f.h sz.h ((xdq E hx trivial).trans (xu1 a q c ha)) (xdq E hy trivial) h0 hi rfl) n
theorem xrp{t e:TypeId}{a:Option Addr}{q c w:Nat}{j:Int}{kk:IntKind}(ho:ops[i]?=some ⟨d,.indexAddr t x y,ty,pos,aft,none⟩)(hx:evS l x=some ([],.slice a q c))(hy:evS l y=some ([],.int kk j))(h0:0<=j)(hi:j<q)(ha:a=some (adr a))[f:SlcC X.P t e][sz:SizeC X.P e w]
 (n:DE X k ops m p LF effs todo (ent d none (.pointer (some ((adr a).add (j.toNat*w)))) l) LL):DE X k ops m p LF effs (i::todo) l LL:=
 xwz (g:=none) ho rfl rfl (fun _ _ _ E _=>xzj f.h sz.h ((xdq E hx trivial).trans (xu1 a q c ha)) (xdq E hy trivial) h0 hi rfl) n
theorem xhb{t:TypeId}{a:Addr}{nn:Nat}{vs:List Value}(ho:ops[i]?=some ⟨d,.load t x,ty,pos,aft,none⟩)(hx:evS l x=some ([],.pointer (some a)))(hv:∀j v,vs[j]?=some v->pcell p (a.add j)=some v)[ag:AggC X.P t true][sz:SizeC X.P t nn](n:DE X k ops m p LF effs todo (ent d none (.agg vs.toArray) l) LL)(hn:vs.length=nn:=by rfl):DE X k ops m p LF effs (i::todo) l LL:=
 xwz (g:=none) ho rfl rfl (fun _ _ _ E s=>xyw s ag.h sz.h (xdq E hx trivial) hn hv) n
theorem yvq{t:TypeId}{parts:List (Nat×Operand)}{z:Value}{pl:List (Nat×Nat)}{cells:List Value}{vs:List (Nat×Value)}(hvs:evpS l parts=some vs)[hz:ZeroC X.P t z][hp:PlC X.P t pl](n:RO X k ops rest (ent d none (.agg cells.toArray) l) p LL)
 (hf:fillT pl z.cells.toList vs=some cells:=by rfl):RO X k ops (⟨d,.build t parts.toArray,ty,pos,aft,none⟩::rest) l p LL:=xdx (g:=none) rfl rfl (fun _ _ E _=>xwf hz.h hp.h (xvm E hvs) (xlc hf)) n
theorem xr6{t:TypeId}{parts:List (Nat×Operand)}{z:Value}{pl:List (Nat×Nat)}{cells:List Value}{vs:List (Nat×Value)}(ho:ops[i]?=some ⟨d,.build t parts.toArray,ty,pos,aft,none⟩)(hvs:evpS l parts=some vs)[hz:ZeroC X.P t z][hp:PlC X.P t pl](n:DE X k ops m p LF effs todo (ent d none (.agg cells.toArray) l) LL)
 (hf:fillT pl z.cells.toList vs=some cells:=by rfl):DE X k ops m p LF effs (i::todo) l LL:=xwz (g:=none) ho rfl rfl (fun _ _ _ E _=>xwf hz.h hp.h (xvm E hvs) (xlc hf)) n
theorem yrm{fn:Fn}{first cap:List Operand}{a b:List Value}(ho:ops[i]?=some ⟨d,.makeFunc fn first.toArray cap.toArray,ty,pos,aft,none⟩)(ha:evsS l first=some ([],a))(hb:evsS l cap=some ([],b))(n:DE X k ops m p LF effs todo (ent d none (.func fn a.toArray b.toArray) l) LL):DE X k ops m p LF effs (i::todo) l LL:=
 xwz (g:=none) ho rfl rfl (fun _ _ _ E _=>xnh (xlx E ha trivial) (xlx E hb trivial)) n
end
theorem wrU0{n:Int}(h:0<=n/\n<=18446744073709551615):IntKind.u64.wrap n=n:=by
 obtain⟨h1,h2⟩:=h
 unfold IntKind.wrap
 simp[IntKind.signed,IntKind.bits]
 omega
theorem bpe{x:Bool}{q P:Prop}[i:BP x q][Decidable P](h:q<->P):x=decide P:=by
 cases x
 ·exact(decide_eq_false fun z=>by have:=i.iff.2 (h.2 z);cases this).symm
 ·exact(decide_eq_true (h.1 (i.iff.1 rfl))).symm
theorem bpn{x:Bool}{q P:Prop}[i:BP x q][Decidable P](h:q<-> ¬ P):x= !decide P:=(bpe (P:=¬ P) h).trans (by simp)
theorem xpx{g:Option Bool}{q:Prop}(h:q):cimp g q:=by
 cases g with
 |none=>exact h
 |some c=>exact fun _=>h
theorem xem{p:PHeap}{b off:Nat}{cs:Array Value}{T:TypeId}{z:Nat×Nat}{v:Value}(h:p b=some (.cells cs T z))(hv:nth cs.toList off=some v):pcell p ⟨b,off,none⟩=some v:=by
 unfold pcell;rw[h];simp only[Option.isSome_none,Bool.false_eq_true,if_false];rw[<- Array.getElem?_toList];exact xhm hv
theorem xsz{p:PHeap}{b off n:Nat}{cs:Array Value}{T:TypeId}{z:Nat×Nat}(h:p b=some (.cells cs T z)):∀j v,((cs.toList.drop off).take n)[j]?=some v->pcell p ((⟨b,off,none⟩:Addr).add j)=some v:=fun j v hj=>by
 rw[xrx];unfold pcell;rw[h];simp only[Option.isSome_none,Bool.false_eq_true,if_false];rw[<- Array.getElem?_toList]
 rw[List.getElem?_take]at hj
 split at hj
 ·rw[List.getElem?_drop]at hj;exact hj
 ·cases hj
theorem sdt{p:Prop}(h:p:=by
 first
  |exact trivial
  |exact⟨wrZ om,trivial⟩
  |exact⟨fun e=>⟨yjt e,trivial⟩,trivial⟩
  |exact⟨fun e=>⟨e,trivial⟩,trivial⟩
  |exact⟨fun _=>trivial,trivial⟩
  |exact⟨wrU0 om,trivial⟩
  |exact gd2 fun h q=>by first
    |exact trivial
    |exact⟨h,trivial⟩
    |exact⟨h,h,trivial⟩
    |exact⟨wrZ om,trivial⟩
    |exact⟨h,wrZ om,trivial⟩
    |exact⟨h,h,wrZ om,trivial⟩
    |exact⟨andL h,trivial⟩
    |exact⟨andL h,andL h,trivial⟩
    |exact⟨andL (andL h),trivial⟩
    |exact⟨h,fun e=>⟨by rw[h,e];rfl,trivial⟩,trivial⟩
    |exact⟨h,fun _=>trivial,trivial⟩
    |exact⟨h,fun _=>⟨h,trivial⟩,trivial⟩
    |exact⟨fun e=>⟨by rw[h,e];rfl,trivial⟩,trivial⟩
    |(refine⟨?_,?_⟩<;>simp_all[AllP])):p:=h
theorem au{Q K:Prop}(k:K)(h:Hid K->Q:=by
 intro k
 repeat (first
  |refine xyv rfl rfl sdt ?_
  |refine yrq ?_
  |refine yix ?_
  |refine xor ?_ rfl
  |refine xb2 rfl rfl sdt ?_
  |refine yoh rfl rfl sdt ?_
  |refine yph rfl rfl sdt ?_
  |refine xgw rfl rfl sdt (xpx (xem ‹_› rfl)) ?_
  |refine yjq rfl rfl sdt ?_
  |refine xm7 rfl rfl (by omega) (Sl.ne ‹_› (by omega)) ?_
  |refine xvk rfl (Ints.get ‹_› (by omega)) ?_
  |refine xf2 ?_
  |refine xqr ?_
  |refine xmg ?_
  |refine xh2 rfl ?_
  |refine ykq rfl rfl sdt ?_
  |refine xhd rfl rfl sdt (xpx (xsz ‹_›)) ?_
  |refine xtc rfl rfl ?_
  |refine ynh rfl rfl sdt ?_
  |refine ygq rfl rfl rfl sdt sdt ?_
  |refine yhq rfl rfl rfl sdt sdt ?_
  |refine yjh rfl rfl ?_
  |refine yvq rfl ?_)
 exact k.out):Q:=h ⟨k⟩
theorem ad{Q K:Prop}(k:K)(h:Hid K->Q:=by
 intro k
 repeat (first
  |refine xvc rfl rfl rfl sdt ?_
  |refine ylk ?_
  |refine xwc rfl rfl rfl sdt ?_
  |refine yqk rfl rfl rfl sdt ?_
  |refine yum rfl rfl rfl sdt ?_
  |refine yok rfl rfl rfl sdt ?_
  |refine ysm rfl rfl rfl (by omega) (Sl.ne ‹_› (by omega)) ?_
  |refine xag rfl rfl (Ints.get ‹_› (by omega)) ?_
  |refine xu0 rfl rfl rfl sdt ?_
  |refine ytm rfl rfl rfl sdt ?_
  |refine xr6 rfl rfl ?_
  |refine yrm rfl rfl rfl ?_
  |refine ymk rfl rfl rfl rfl sdt sdt ?_)
 exact k.out):Q:=h ⟨k⟩
section
variable{X:Cx}{k:List Item}{ops rest:List Oper}{m:Ks}{l:Env}{p:PHeap}{LF LL LR:List Pcs}{effs todo:List Nat}{g:Option Bool}{d:Option Tmp}{ty:TypeId}{pos:String}{aft:Array Edge}{gd:Option (Nat×Bool)}{ss ss':List Prop}{x y:Operand}{i:Nat}{v:Value}
theorem xut{T T' e:TypeId}{a:Option Addr}{n c:Nat}(hx:evS l x=some ([],.slice a n c))[f:SlcC X.P T e](nx:RO X k ops rest (ent d none (.bool (decide (a=none))) l) p LL):
 RO X k ops (⟨d,.binOp .eql T x (.const (.slice none 0 0)) T',ty,pos,aft,none⟩::rest) l p LL:=
 xdx (g:=none) rfl rfl (fun _ _ E _=>show Exd _ _ _ _ (.bool (decide (a=none))) from(show a.isNone=decide (a=none) by cases a<;>simp) ▸ xq0 f.h (xdq E hx trivial)) nx
theorem xdk{src dst:TypeId}{k1 k':IntKind}{a:Int}(hs:∃t,X.P.underlying src=some t)(hd:X.P.underlying dst=some (.int k'))(hx:evS l x=some ([],.int k1 a))(hn:k'.wrap a=a)(n:RO X k ops rest (ent d none (.int k' a) l) p LL):
 RO X k ops (⟨d,.convert src dst x,ty,pos,aft,none⟩::rest) l p LL:=xdx (g:=none) rfl rfl (fun _ _ E _=>xf6 hs hd (xdq E hx trivial) hn) n
theorem ylh{T T':TypeId}{a:Int}(hx:evS l x=some ([],.int .u64 a))(h:0<=a/\a<4294967296)(n:RO X k ops rest (ent d none (.int .u64 a) l) p LL):
 RO X k ops (⟨d,.binOp .and T x (.const (.int .u64 4294967295)) T',ty,pos,aft,none⟩::rest) l p LL:=xdx (g:=none) rfl rfl (fun tm h' E _=>by
 have e:a=((a.toNat:Nat):Int):=om
 have e2:a.toNat &&& 4294967295=a.toNat:=by
  rw[show(4294967295:Nat)=2^32-1 from rfl,Nat.and_two_pow_sub_one_eq_mod];omega
 have z:=xh6 (d:=d) (T:=T) (T':=T') (ty:=ty) (pos:=pos) (aft:=aft) (gd:=none) (P:=X.P) (h:=h') (tm:=tm) ((xdq E hx trivial).trans (by rw[<- e])) (show evl _ (.const (.int .u64 4294967295))=.int .u64 ((4294967295:Nat):Int) from rfl) om (by decide)
 rw[e2,<- e]at z
 exact z) n
theorem ynq{T T':TypeId}{k1 k2:IntKind}{a:Int}(hx:evS l x=some ([],.int k1 a))(h:0<=a/\a<4294967296)(n:RO X k ops rest (ent d none (.int k1 0) l) p LL)(hb:32<=k1.bits:=by decide):
 RO X k ops (⟨d,.binOp .shr T x (.const (.int k2 32)) T',ty,pos,aft,none⟩::rest) l p LL:=xdx (g:=none) rfl rfl (fun tm h' E _=>by
 have e:a=((a.toNat:Nat):Int):=om
 have e2:a.toNat / 2^32=0:=Nat.div_eq_of_lt om
 have z:=xa6 (d:=d) (T:=T) (T':=T') (ty:=ty) (pos:=pos) (aft:=aft) (gd:=none) (P:=X.P) (h:=h') (tm:=tm) ((xdq E hx trivial).trans (by rw[<- e])) (show evl _ (.const (.int k2 32))=.int k2 ((32:Nat):Int) from rfl) hb
 rw[e2]at z
 exact z) n
theorem yhh{dd:Nat}{sT eT:TypeId}{n w by':Nat}{z:Value}{zc:List Value}(hx:evS l x=some ([],.int .i64 ((n:Nat):Int)))(hy:evS l y=some ([],.int .i64 ((n:Nat):Int)))(hn:n<=1000)[hT:SlcC X.P sT eT][hs:SizeC X.P eT w][hz:ZeroC X.P eT z][hb:ByC X.P eT by']
 (nx:∀v Y,OwnS eT w v (List.replicate n zc) Y->RO X k ops rest ((dd,none,v)::l) p (Y::LL))(hzs:z.cells=zc.toArray:=by rfl)(hzl:zc.length=w:=by rfl)(hw:0<w/\w<=100:=by decide)(hb2:by'<=2^20:=by decide):
 RO X k ops (⟨some dd,.makeSlice sT x y,ty,pos,aft,none⟩::rest) l p LL:=⟨fun ok tm ht E=>
 xfj (K:=fun v h'=>∃Y,OwnS eT w v (List.replicate n zc) Y/\St X.h₀ X.B₀ p h' (Y++LL.flatten)) (xoq rfl) rfl (fun h s=>xi6 hT.h hs.h hz.h hzs hzl hw.1 hw.2 hb.h (xdq E hx trivial) (xdq E hy trivial) hn hb2 s)
  fun v=>xwj fun Y=>xgz fun o=>(nx v Y o).run (xhq ok).1 _ (by simp[putl,ht]) (E.set (g:=none) (ht ▸ xvv ok rfl))⟩
theorem newR{h₀ h:Heap}{Y:Pcs}[i:Rm LL Y LR](s:St h₀ [] p h LL.flatten):New h₀ h Y:=((s.rm i).sub (List.sublist_append_left _ _)).new
end
section
variable{P:Program}{h₀ h:Heap}{B₀:List Nat}{p:PHeap}{C:Pcs}
theorem xmb{dT xT eT T ty:TypeId}{w off n m dl dc:Nat}{v x:Value}{es news:List (List Value)}{Y:Pcs}{K:Value->Heap->Prop}(hT:P.underlying dT=some (.slice eT))(hs:sizeT P eT=some w)(o:OwnS T w v es Y)(s:St h₀ B₀ p h (Y++C))(hpos:0<es.length)
 (hn:Nat.min m dl=n)(hlen:∀K:Nat->Heap->Prop,K m h->wpS P (Builtin.lenOf x) h K)(hc:∀K:Array Value->Heap->Prop,K news.flatten.toArray h->wpS P (Builtin.firstCells w n x) h K)(hl:news.length=n)(hw:∀e∈news,e.length=w)(h1:∀u∈news.flatten,isOne u=true)(ho:off+n<=es.length)
 (k:∀h' Y',OwnS T w v (es.take off++(news++es.drop (off+n))) Y'->St h₀ B₀ p h' (Y'++C)->K (.int .i64 ((n:Nat):Int)) h'):
 wpS P (Builtin.copy_ #[dT,xT] ty #[.slice (some ((adrV v).add (off*w))) dl dc,x]) h K:=by
 obtain⟨hes,⟨rfl,rfl,rfl⟩|⟨b,cs,cap,rest,rfl,rfl,hcs,hcl,hcap⟩⟩:=o
 ·exact absurd hpos (by simp)
 unfold Builtin.copy_
 simp only[List.getElem?_toArray,List.getElem?_cons_zero,List.getElem?_cons_succ]
 refine xbq (xeq hT ?_)
 simp only
 refine xbq (hlen _ ?_)
 refine xbq (xwq hs ?_)
 rw[hn]
 refine xbq (hc _ ?_)
 simp only
 refine xbq ?_
 have hfl:news.flatten.length=n*w:=by rw[xmq hw,hl]
 have hel:es.flatten.length=es.length*w:=xmq hes
 have htl:(es.take off).flatten.length=off*w:=by rw[xmq fun e he=>hes e (List.mem_of_mem_take he),List.length_take,Nat.min_eq_left om]
 have hmul:off*w+n*w<=es.length*w:=by rw[<- Nat.add_mul];exact Nat.mul_le_mul_right _ ho
 have hlc:off*w+news.flatten.length<=cs.length:=by rw[hcs,List.length_append,hel,hfl];omega
 have hst:((adrV (.slice (some ⟨b,0,none⟩) es.length cap)).add (off*w))=⟨b,off*w,none⟩:=by
  show(⟨b,0,none⟩:Addr).add (off*w)=_
  rw[xrx,Nat.zero_add]
 rw[hst]
 refine xmz (i:=0) (cs:=cs) s rfl (by simpa using hlc) (fun u hu=>h1 u (by simpa using hu)) fun h' s'=>?_
 simp only[goInt]
 refine xcq ?_
 have hk:es.drop (off+n)=(es.drop off).drop n:=by rw[List.drop_drop]
 have hdl:((es.drop off).take n).flatten.length=n*w:=by
  rw[xmq fun e he=>hes e (List.mem_of_mem_drop (List.mem_of_mem_take he)),List.length_take,List.length_drop,Nat.min_eq_left om]
 have e1:cs=(es.take off).flatten++((es.drop off).flatten++rest):=by
  rw[<- List.append_assoc,<- List.flatten_append,List.take_append_drop,hcs]
 have e2:setl cs (off*w) news.flatten=(es.take off++(news++es.drop (off+n))).flatten++rest:=by
  rw[e1,<- htl,xiv (by rw[hfl,List.length_append,xmq fun e he=>hes e (List.mem_of_mem_drop he),List.length_drop];have:n*w<=(es.length-off)*w:=Nat.mul_le_mul_right _ om;omega)]
  have e3:((es.drop off).flatten++rest).drop news.flatten.length=(es.drop (off+n)).flatten++rest:=by
   have e4:(es.drop off).flatten=((es.drop off).take n).flatten++(es.drop (off+n)).flatten:=by rw[<- List.flatten_append,hk,List.take_append_drop]
   rw[e4,List.append_assoc,hfl,<- hdl,List.drop_left]
  rw[e3];simp
 have hlen':(es.take off++(news++es.drop (off+n))).length=es.length:=by simp;omega
 refine k h' [(b,.cells (setl cs (off*w) news.flatten).toArray T (0,0))] ⟨fun e he=>?_,.inr ⟨b,_,cap,rest,by rw[hlen'],rfl,e2,by rw[xyx];exact hcl,hcap⟩⟩ (by simpa using s')
 simp only[List.mem_append]at he
 rcases he with he|he|he
 ·exact hes e (List.mem_of_mem_take he)
 ·exact hw e he
 ·exact hes e (List.mem_of_mem_drop he)
end
section
variable{X:Cx}{k:List Item}{ops rest:List Oper}{m:Ks}{l:Env}{p:PHeap}{LF LL LR L3:List Pcs}{effs todo:List Nat}{g:Option Bool}{d:Option Tmp}{dd:Nat}{ty:TypeId}{pos:String}{aft:Array Edge}{gd:Option (Nat×Bool)}{ss ss':List Prop}{x y:Operand}{i:Nat}{v:Value}{T:TypeId}{w:Nat}{es news:List (List Value)}{Y:Pcs}
theorem OwnS.at0(o:OwnS T w v es Y)(h:0<es.length)(hw0:0<w):∃b cap,v=.slice (some ⟨b,0,none⟩) es.length cap/\es.length<=cap/\ ∀n,n<=es.length->OwnS T w (.slice (some ⟨b,0,none⟩) n cap) (es.take n) Y:=by
 obtain⟨hes,⟨rfl,rfl,rfl⟩|⟨b,cs,cap,rest,rfl,rfl,hcs,hcl,hcap⟩⟩:=o
 ·exact absurd h (by simp)
 refine⟨b,cap,rfl,?_,fun n hn=>⟨fun e he=>hes e (List.mem_of_mem_take he),.inr ⟨b,cs,cap,(es.drop n).flatten++rest,by rw[List.length_take,Nat.min_eq_left hn],rfl,by rw[hcs,<- List.append_assoc,<- List.flatten_append,List.take_append_drop],hcl,hcap⟩⟩⟩
 have:=congrArg List.length hcs
 rw[List.length_append,xmq hes,hcl]at this
 exact Nat.le_of_mul_le_mul_right om hw0
theorem ykp{dT xT eT:TypeId}{n c:Nat}{a:Option Addr}(hx:evS l x=some ([],v))(hy:evS l y=some ([],.slice a n c))(o:OwnS T w v es Y)(S:Sl p a n w news)(hpos:0<es.length)(hn:n<=es.length)(h1:∀u∈news.flatten,isOne u=true)[i1:Rm LL Y LR][hT:SlcC X.P dT eT][hs:SizeC X.P eT w]
 (nx:∀Y',OwnS T w v (news++es.drop n) Y'->RO X k ops rest ((dd,none,.int .i64 ((n:Nat):Int))::l) p (Y'::LR))(hw0:0<w:=by decide):RO X k ops (⟨some dd,.call ⟨.builtin .copy,#[x,y],#[dT,xT]⟩,ty,pos,aft,none⟩::rest) l p LL:=⟨fun ok tm ht E=>by
 obtain⟨b,cap,hv,hcap,_⟩:=o.at0 hpos hw0
 refine xfj (K:=fun v' h'=>v'=.int .i64 ((n:Nat):Int)/\ ∃Y',OwnS T w v (news++es.drop n) Y'/\St X.h₀ X.B₀ p h' (Y'++LR.flatten)) (xoq rfl) rfl (fun h s=>?_) fun v'=>xgz fun e=>by
  subst e
  exact xwj fun Y'=>xgz fun o'=>(nx Y' o').run (xhq ok).1 _ (by simp[putl,ht]) (E.set (g:=none) (ht ▸ xvv ok rfl))
 unfold Ex
 simp only[execOp,resolve]
 refine xbq (xcq ?_)
 simp only[invoke,builtin]
 refine xbq ?_
 have ev2:=xdq E hy trivial
 have ev1:=xdq E hx trivial
 have e:(#[x,y]:Array Operand).map (evl tm)=#[.slice (some ((adrV v).add (0*w))) es.length cap,.slice a n c]:=by
  simp only[List.map_toArray,List.map_cons,List.map_nil,ev1,ev2]
  rw[hv];show _=#[Value.slice (some ((⟨b,0,none⟩:Addr).add (0*w))) es.length cap,_]
  rw[xrx,Nat.zero_mul]
 rw[e]
 have src:=xeg (P:=X.P) (cap:=c) (s.rm i1) hw0 S
 refine xmb hT.h hs.h o (s.rm i1) hpos (Nat.min_eq_left hn) src.lenOf src.cells src.len src.wid h1 om fun h' Y' o' s'=>?_
 exact xcq ⟨_,rfl,rfl,Y',by simpa using o',s'⟩⟩
theorem xzc{a:Addr}{c j w:Nat}(h:j<c):cutA (some a) c j w=some (a.add (j*w)):=by unfold cutA;rw[if_neg om];rfl
theorem add_z{a:Addr}{w:Nat}:a.add (0*w)=a:=by rw[Nat.zero_mul];cases a;rfl
theorem yls{t e:TypeId}{q c j:Nat}{a:Addr}{kk:IntKind}(ho:ops[i]?=some ⟨d,.slice t x (some y) none none,ty,pos,aft,none⟩)(hx:evS l x=some ([],.slice (some a) q c))(hy:evS l y=some ([],.int kk (j:Nat)))(hj:j<c/\j<=q/\q<=c)[f:SlcC X.P t e][sz:SizeC X.P e w]
 (n:DE X k ops m p LF effs todo (ent d none (.slice (some (a.add (j*w))) (q-j) (c-j)) l) LL):DE X k ops m p LF effs (i::todo) l LL:=
 xwz (g:=none) ho rfl rfl (fun _ _ _ E _=>xzc hj.1 ▸ xlw f.h sz.h (xdq E hx trivial) (.nat 0 (xdq E hy trivial)) (.none q) hj.2.1 hj.2.2) n
theorem yks{t e:TypeId}{q c j:Nat}{a:Addr}{kk:IntKind}(ho:ops[i]?=some ⟨d,.slice t x none (some y) none,ty,pos,aft,none⟩)(hx:evS l x=some ([],.slice (some a) q c))(hy:evS l y=some ([],.int kk (j:Nat)))(hj:0<c/\j<=c)[f:SlcC X.P t e][sz:SizeC X.P e w]
 (n:DE X k ops m p LF effs todo (ent d none (.slice (some a) j c) l) LL):DE X k ops m p LF effs (i::todo) l LL:=
 xwz (g:=none) ho rfl rfl (fun tm h' _ E _=>by
  have z:=xlw (tm:=tm) (h:=h') (d:=d) (ty:=ty) (pos:=pos) (aft:=aft) (gd:=none) f.h sz.h (xdq E hx trivial) (.none 0) (.nat q (xdq E hy trivial)) (Nat.zero_le j) hj.2
  rw[xzc hj.1,add_z]at z
  exact z) n
theorem xo4{id:Nat}(m:Nat)(cl:List (List Nat))(effs order:List Nat)(Y:Pcs)[i:Rm LL Y LR](D:DE X k ops (.drop m) p LR effs order l [Y])(hmix:X.P.follows .mixedOrders=true:=by kernel_rfl)(ok:okD X.n ops=true:=by rfl)
 (hst:stable ops m cl=true:=by rfl)(hm:Nat.ble m ops.length=true:=by rfl)(hord:ordOk ops cl effs [] order=true:=by rfl)(hall:((List.range m).all fun i=>order.contains i)=true:=by rfl)(hlt:(order.all fun i=>Nat.blt i m)=true:=by rfl):
 RE X (.code (.region id ops.toArray true)::k) l p LL:=xgf (by simpa using i.h.trans List.perm_append_comm) m cl effs order hmix ok D.run hst hm hord hall hlt
theorem yps{dT xT eT:TypeId}{off n m' dl dc c' b cap N:Nat}(hN:es.length=N)(ho:ops[i]?=some ⟨d,.call ⟨.builtin .copy,#[x,y],#[dT,xT]⟩,ty,pos,aft,none⟩)(o:OwnS T w (.slice (some ⟨b,0,none⟩) N cap) es Y)(hx:evS l x=some ([],.slice (some ((⟨b,0,none⟩:Addr).add (off*w))) dl dc))
 (hy:evS l y=some ([],.slice (some ⟨b,0,none⟩) m' c'))(hpos:0<N)(hw0:0<w)(hn:Nat.min m' dl=n)(hm':n<=N)(hoff:off+n<=N)(h1:∀u∈es.flatten,isOne u=true)[i1:Rm LL Y LR][hT:SlcC X.P dT eT][hs:SizeC X.P eT w]
 (nx:∀Y',OwnS T w (.slice (some ⟨b,0,none⟩) N cap) (es.take off++(es.take n++es.drop (off+n))) Y'->DE X k ops m p LF effs todo (ent d none (.int .i64 ((n:Nat):Int)) l) (Y'::LR))(he:effs.contains i=true:=by rfl):DE X k ops m p LF effs (i::todo) l LL:=by
 subst hN
 exact⟨.eff (U:=Y) (LR:=LR) (Q:=fun v' Y'=>v'=.int .i64 ((n:Nat):Int)/\OwnS T w (.slice (some ⟨b,0,none⟩) es.length cap) (es.take off++(es.take n++es.drop (off+n))) Y') ho (by simpa using he) i1.h (fun tm ht E=>⟨rfl,xoq rfl,fun C h s=>.inl (by
  unfold Exv
  simp only[execOp,resolve]
  refine xbq (xcq ?_)
  simp only[invoke,builtin]
  refine xbq ?_
  have ev2:=xdq E hy trivial
  have ev1:=xdq E hx trivial
  have e:(#[x,y]:Array Operand).map (evl tm)=#[.slice (some ((adrV (.slice (some ⟨b,0,none⟩) es.length cap)).add (off*w))) dl dc,.slice (some ⟨b,0,none⟩) m' c']:=by
   simp only[List.map_toArray,List.map_cons,List.map_nil,ev1,ev2];rfl
  rw[e]
  obtain⟨b',cap',hv,_,hpre⟩:=o.at0 hpos hw0
  cases hv
  have src:=xvh (P:=X.P) (L₁:=[]) (L₂:=LF.flatten++C) (hpre n hm') s
  refine xmb (m:=m') (news:=es.take n) hT.h hs.h o s hpos hn (fun K hK=>xcq hK) (fun K hK=>?_) (by simp;omega) (fun e he=>o.1 e (List.mem_of_mem_take he)) (fun u hu=>h1 u ?_) hoff fun h' Y' o' s'=>?_
  ·have:=src.cells K hK
   rw[List.length_take,Nat.min_eq_left hm']at this
   exact this
  ·obtain⟨e,h2,h3⟩:=List.mem_flatten.1 hu
   exact List.mem_flatten.2 ⟨e,List.mem_of_mem_take h2,h3⟩
  ·exact xcq ⟨_,.inl rfl,Y',⟨rfl,o'⟩,s'⟩)⟩) fun v' Y'⟨e,o'⟩=>by subst e;exact(nx Y' o').run⟩
end
section
variable{X:Cx}{k:List Item}{ops rest:List Oper}{m:Ks}{l:Env}{p:PHeap}{LF LL LR L3:List Pcs}{effs todo:List Nat}{g:Option Bool}{d:Option Tmp}{dd:Nat}{ty:TypeId}{pos:String}{aft:Array Edge}{gd:Option (Nat×Bool)}{ss ss':List Prop}{x y:Operand}{i:Nat}{v:Value}{T T':TypeId}{xs ys:Array Value}{q:Bool}
theorem ysk(ho:ops[i]?=some ⟨d,.binOp .eql T x y T',ty,pos,aft,none⟩)(hx:evS l x=some ([],.agg xs))(hy:evS l y=some ([],.agg ys))(e:∀h(K:Bool->Heap->Prop),K q h->wpS X.P (Op.equalIn (9999+1) T (.agg xs) (.agg ys)) h K)(n:DE X k ops m p LF effs todo (ent d none (.bool q) l) LL)
 (hg:X.P.eqGuardType X.P.depth T=false:=by kernel_rfl):DE X k ops m p LF effs (i::todo) l LL:=xwz (g:=none) ho rfl rfl (fun _ _ _ E _=>yvj hg e (xdq E hx trivial) (xdq E hy trivial)) n
theorem yrt{P:Program}{dd:Nat}{f1 f2 f3:Field}{a b c a' b' c':Int}(h1:P.underlying f1.type=some (.int .i64))(h2:P.underlying f2.type=some (.int .i64))(h3:P.underlying f3.type=some (.int .i64))(o1:f1.offset=0)(o2:f2.offset=1)(o3:f3.offset=2)
 (m1 : f1.name ≠ "_")(m2 : f2.name ≠ "_")(m3 : f3.name ≠ "_")(g1 : aggT P f1.type = some false)(g2 : aggT P f2.type = some false)(g3 : aggT P f3.type = some false):
 EqOk P (dd+1) #[.int .i64 a,.int .i64 b,.int .i64 c] #[.int .i64 a',.int .i64 b',.int .i64 c'] [f1,f2,f3] (decide (a=a'/\b=b'/\c=c')):=by
 refine⟨m1,_,_,decide (a=a'),fun h K k=>xhj g1 (by rw[o1];rfl) k,fun h K k=>xhj g1 (by rw[o1];rfl) k,fun h K k=>xlb h1 k,?_⟩
 by_cases e1:a=a'
 ·refine .inr ⟨decide_eq_true e1,m2,_,_,decide (b=b'),fun h K k=>xhj g2 (by rw[o2];rfl) k,fun h K k=>xhj g2 (by rw[o2];rfl) k,fun h K k=>xlb h2 k,?_⟩
  by_cases e2:b=b'
  ·refine .inr ⟨decide_eq_true e2,m3,_,_,decide (c=c'),fun h K k=>xhj g3 (by rw[o3];rfl) k,fun h K k=>xhj g3 (by rw[o3];rfl) k,fun h K k=>xlb h3 k,?_⟩
   by_cases e3:c=c'
   ·exact .inr ⟨decide_eq_true e3,decide_eq_true ⟨e1,e2,e3⟩⟩
   ·exact .inl ⟨decide_eq_false e3,decide_eq_false fun x=>e3 x.2.2⟩
  ·exact .inl ⟨decide_eq_false e2,decide_eq_false fun x=>e2 x.2.1⟩
 ·exact .inl ⟨decide_eq_false e1,decide_eq_false fun x=>e1 x.1⟩
end
section
variable{X:Cx}{k:List Item}{ops rest:List Oper}{m:Ks}{l:Env}{p:PHeap}{LF LL LR L3:List Pcs}{effs todo:List Nat}{g:Option Bool}{d:Option Tmp}{dd:Nat}{ty:TypeId}{pos:String}{aft:Array Edge}{gd:Option (Nat×Bool)}{ss ss':List Prop}{x y:Operand}{i:Nat}{v:Value}{T T' t:TypeId}{a b:List UInt8}
theorem yiq(hg:gdc ops l gd=some g)(hx:evS l x=some (ss,sv a))(hs:cimp g (AllP ss))(n:RO X k ops rest (ent d g (.int .i64 ((a.length:Nat):Int)) l) p LL)(ht:X.P.underlying t=some .string:=by kernel_rfl):
 RO X k ops (⟨d,.call ⟨.builtin .len,#[x],#[t]⟩,ty,pos,aft,gd⟩::rest) l p LL:=xdx hg rfl (xsq hs fun hs _ _ E _=>xd6 ht (xdq E hx hs)) n
theorem yhf(hg:gdc ops l gd=some g)(hx:evS l x=some (ss,sv a))(hy:evS l y=some (ss',sv b))(hs:cimp g (AllP ss))(hs':cimp g (AllP ss'))(n:RO X k ops rest (ent d g (.bool (decide (a=b))) l) p LL):
 RO X k ops (⟨d,.binOp .eql T x y T',ty,pos,aft,gd⟩::rest) l p LL:=xdx hg rfl (xoz hs hs' fun h1 h2 _ _ E _=>xe6 (xdq E hx h1) (xdq E hy h2)) n
theorem ydq(hg:gdc ops l gd=some g)(hx:evS l x=some (ss,sv a))(hy:evS l y=some (ss',sv b))(hs:cimp g (AllP ss))(hs':cimp g (AllP ss'))(n:RO X k ops rest (ent d g (.bool (!decide (a=b))) l) p LL):
 RO X k ops (⟨d,.binOp .neq T x y T',ty,pos,aft,gd⟩::rest) l p LL:=xdx hg rfl (xoz hs hs' fun h1 h2 _ _ E _=>xc6 (xdq E hx h1) (xdq E hy h2)) n
theorem xeb(hx:evS l x=some ([],sv a))(hy:evS l y=some ([],sv b))(hb:a.length+b.length<=1000000)(n:RO X k ops rest (ent d none (sv (a++b)) l) p LL):
 RO X k ops (⟨d,.binOp .add T x y T',ty,pos,aft,none⟩::rest) l p LL:=xdx (g:=none) rfl rfl (fun _ _ E _=>xg6 (xdq E hx trivial) (xdq E hy trivial) om) n
theorem xxc{kk:IntKind}{j:Int}(hg:gdc ops l gd=some g)(hx:evS l x=some (ss,sv a))(hy:evS l y=some (ss',.int kk j))(hs:cimp g (AllP ss))(hs':cimp g (AllP ss'))(h1:cimp g (0<=j/\j<a.length))(n:RO X k ops rest (ent d g (.int .u8 ((a.getD j.toNat 0).toNat:Nat)) l) p LL)
 (ht:X.P.underlying t=some .string:=by kernel_rfl):RO X k ops (⟨d,.index t x y,ty,pos,aft,gd⟩::rest) l p LL:=
 xdx hg rfl (xoz h1 (xoz hs hs' And.intro) fun h1 hs _ _ E _=>xnp ht (xdq E hx hs.1) (xdq E hy hs.2) h1.1 h1.2) n
theorem xbf{kk:IntKind}{j:Nat}(hg:gdc ops l gd=some g)(hx:evS l x=some (ss,sv a))(hy:evS l y=some (ss',.int kk ((j:Nat):Int)))(hs:cimp g (AllP ss))(hs':cimp g (AllP ss'))(h1:cimp g (j<=a.length))(n:RO X k ops rest (ent d g (sv (a.drop j)) l) p LL)
 (ht:X.P.underlying t=some .string:=by kernel_rfl):RO X k ops (⟨d,.slice t x (some y) none none,ty,pos,aft,gd⟩::rest) l p LL:=
 xdx hg rfl (xoz h1 (xoz hs hs' And.intro) fun h1 hs _ _ E _=>ywj ht (xdq E hx hs.1) (.nat _ (xdq E hy hs.2)) h1) n
theorem xe4{kk:IntKind}{j:Nat}(hg:gdc ops l gd=some g)(hx:evS l x=some (ss,sv a))(hy:evS l y=some (ss',.int kk ((j:Nat):Int)))(hs:cimp g (AllP ss))(hs':cimp g (AllP ss'))(h1:cimp g (j<=a.length))(n:RO X k ops rest (ent d g (sv (a.take j)) l) p LL)
 (ht:X.P.underlying t=some .string:=by kernel_rfl):RO X k ops (⟨d,.slice t x none (some y) none,ty,pos,aft,gd⟩::rest) l p LL:=
 xdx hg rfl (xoz h1 (xoz hs hs' And.intro) fun h1 hs _ _ E _=>ynj ht (xdq E hx hs.1) (.nat _ (xdq E hy hs.2)) h1) n
theorem ynk(ho:ops[i]?=some ⟨d,.call ⟨.builtin .len,#[x],#[t]⟩,ty,pos,aft,gd⟩)(hg:gdc ops l gd=some g)(hx:evS l x=some (ss,sv a))(hs:cimp g (AllP ss))(n:DE X k ops m p LF effs todo (ent d g (.int .i64 ((a.length:Nat):Int)) l) LL)(ht:X.P.underlying t=some .string:=by kernel_rfl):
 DE X k ops m p LF effs (i::todo) l LL:=xwz ho hg rfl (xsq hs fun hs _ _ _ E _=>xd6 ht (xdq E hx hs)) n
theorem ydg(ho:ops[i]?=some ⟨d,.binOp .eql T x y T',ty,pos,aft,gd⟩)(hg:gdc ops l gd=some g)(hx:evS l x=some (ss,sv a))(hy:evS l y=some (ss',sv b))(hs:cimp g (AllP ss))(hs':cimp g (AllP ss'))(n:DE X k ops m p LF effs todo (ent d g (.bool (decide (a=b))) l) LL):
 DE X k ops m p LF effs (i::todo) l LL:=xwz ho hg rfl (xoz hs hs' fun h1 h2 _ _ _ E _=>xe6 (xdq E hx h1) (xdq E hy h2)) n
theorem yuk(ho:ops[i]?=some ⟨d,.binOp .add T x y T',ty,pos,aft,none⟩)(hx:evS l x=some ([],sv a))(hy:evS l y=some ([],sv b))(hb:a.length+b.length<=1000000)(n:DE X k ops m p LF effs todo (ent d none (sv (a++b)) l) LL):
 DE X k ops m p LF effs (i::todo) l LL:=xwz (g:=none) ho rfl rfl (fun _ _ _ E _=>xg6 (xdq E hx trivial) (xdq E hy trivial) om) n
theorem xek{kk:IntKind}{j:Int}(ho:ops[i]?=some ⟨d,.index t x y,ty,pos,aft,gd⟩)(hg:gdc ops l gd=some g)(hx:evS l x=some (ss,sv a))(hy:evS l y=some (ss',.int kk j))(hs:cimp g (AllP ss))(hs':cimp g (AllP ss'))(h1:cimp g (0<=j/\j<a.length))
 (n:DE X k ops m p LF effs todo (ent d g (.int .u8 ((a.getD j.toNat 0).toNat:Nat)) l) LL)(ht:X.P.underlying t=some .string:=by kernel_rfl):DE X k ops m p LF effs (i::todo) l LL:=
 xwz ho hg rfl (xoz h1 (xoz hs hs' And.intro) fun h1 hs _ _ _ E _=>xnp ht (xdq E hx hs.1) (xdq E hy hs.2) h1.1 h1.2) n
end
structure PG(N:Nat)(B:List Nat)(p p':PHeap):Prop where
 le:PLe p p'
 old:∀c,c<N->c∉B->p' c=p c
theorem PG.refl(N:Nat)(B:List Nat)(p:PHeap):PG N B p p:=⟨.refl p,fun _ _ _=>rfl⟩
theorem PG.trans{N:Nat}{B:List Nat}{p q r:PHeap}(x:PG N B p q)(y:PG N B q r):PG N B p r:=⟨x.le.trans y.le,fun c h n=>(y.old c h n).trans (x.old c h n)⟩
def LastR(p:PHeap)(h:Heap)(Q:Value->PHeap->Prop)(v:Value)(h':Heap):Prop:=∃p',PG h.size [] p p'/\Q v p'/\Keep h h'/\Per p' h'
def TurnR(p:PHeap)(h:Heap)(b:Nat)(Q:Value->PHeap->Obj->Prop)(v:Value)(h':Heap):Prop:=∃p' o',PG h.size [b] p p'/\Q v p' o'/\St h [b] p' h' [(b,o')]
section
variable{h₀ h h':Heap}{B₀:List Nat}{p p':PHeap}{L:Pcs}
theorem St.pg(s:St h₀ B₀ p h L){b:Nat}{o:Obj}(hm:(b,o)∈L):PG h₀.size B₀ p (padd p b o):=by
 have ho:=s.own _ hm
 refine⟨xvr ho.2.1,fun c hc hn=>?_⟩
 unfold padd
 rw[if_neg]
 intro e
 subst e
 rcases ho.2.2 with z|z
 ·simp only at z;omega
 ·exact hn z
theorem St.callP(s:St h₀ B₀ p h L)(g:PG h.size [] p p')(k:Keep h h')(q:Per p' h'):St h₀ B₀ p' h' L/\PG h₀.size B₀ p p':=
 ⟨(s.call k).grow g.le q fun x hx=>(g.old x.1 (xix (s.own x hx).1) (by simp)).trans (s.own x hx).2.1,g.le,fun c hc _=>g.old c (Nat.lt_of_lt_of_le hc s.size) (by simp)⟩
theorem St.callB{b:Nat}{o o':Obj}(s:St h₀ B₀ p h ((b,o)::L))(g:PG h.size [b] p p')(t:St h [b] p' h' [(b,o')]):St h₀ B₀ p' h' ((b,o')::L)/\PG h₀.size B₀ p p':=by
 have hb:=s.own (b,o) (by simp)
 have hb':=t.own (b,o') (by simp)
 have hnb:∀c,c<h₀.size->c∉B₀->c≠b:=fun c hc hn e=>by
  subst e
  rcases hb.2.2 with z|z
  ·simp only at z;omega
  ·exact hn z
 have hne:∀x∈L,x.1≠b:=fun x hx e=>by
  have:=s.nod
  simp only[List.map_cons,List.nodup_cons]at this
  exact this.1 (e ▸ List.mem_map_of_mem hx)
 have lt:∀{c:Nat}{q:Obj},h[c]?=some q->c<h.size:=fun e=>xix e
 refine⟨⟨fun c hc hn=>?_,Nat.le_trans s.size t.size,t.per,fun x hx=>?_,by simpa using s.nod⟩,g.le,fun c hc hn=>g.old c (Nat.lt_of_lt_of_le hc s.size) (by simpa using hnb c hc hn)⟩
 ·exact(t.keep c (Nat.lt_of_lt_of_le hc s.size) (by simpa using hnb c hc hn)).trans (s.keep c hc hn)
 ·rcases List.mem_cons.1 hx with rfl|hx
  ·exact⟨hb'.1,hb'.2.1,hb.2.2⟩
  ·have hx':=s.own x (List.mem_cons_of_mem _ hx)
   have n1:x.1∉[b]:=by simpa using hne x hx
   exact⟨(t.keep x.1 (lt hx'.1) n1).trans hx'.1,(g.old x.1 (lt hx'.1) n1).trans hx'.2.1,hx'.2.2⟩
theorem OwnS.lastG{T:TypeId}{w:Nat}{v:Value}{es:List (List Value)}{Y:Pcs}(o:OwnS T w v es Y)(hw:0<w)(s:St h₀ B₀ p h (Y++L)):
 ∃p' a cap,PG h₀.size B₀ p p'/\v=.slice a es.length cap/\es.length<=cap/\Sl p' a es.length w es/\St h₀ B₀ p' h L:=by
 have oo:=o
 have rm:=fun{a:Option Addr}{m cap:Nat}(e:v=.slice a m cap)=>o.room hw e
 obtain⟨hes,⟨rfl,rfl,rfl⟩|⟨b,cs,cap,rest,rfl,rfl,hcs,hlen,hcap⟩⟩:=o
 ·exact⟨p,none,0,.refl _ _ _,rfl,Nat.le_refl _,.nil _ _ _,s⟩
 ·have s':St h₀ B₀ p h ((b,.cells (List.toArray cs) T (0,0))::L):=s
  obtain⟨a,cap',e,sl⟩:=oo.inP (p:=padd p b (.cells (List.toArray cs) T (0,0))) (fun x hx=>by rw[List.mem_singleton.1 hx];exact xrk)
  exact⟨_,a,cap',s'.pg (by simp),e,rm e,sl,s'.last.2⟩
end
section
variable{X:Cx}{k:List Item}{ops rest:List Oper}{l:Env}{p:PHeap}{LL LR:List Pcs}{d:Option Tmp}{ty:TypeId}{pos:String}{aft:Array Edge}{x:Operand}{T:TypeId}{w:Nat}{v:Value}{es:List (List Value)}{Y:Pcs}{b:Nat}{o:Obj}
theorem xbx{m:Nat}(o:OwnS T w v es Y)(hn:es.length=m)(hw:0<w)[i:Rm LL Y LR](n:∀p' a cap,PG X.h₀.size X.B₀ p p'->v=.slice a m cap->m<=cap->Sl p' a m w es->RO X k ops rest l p' LR):RO X k ops rest l p LL:=⟨fun ok tm ht E pre e h s=>by
 subst hn
 obtain⟨p',a,cap,g,e1,e2,sl,s'⟩:=o.lastG hw (s.rm i)
 exact(n p' a cap g e1 e2 sl).run ok tm ht E pre e h s'⟩
theorem xtx{m:Nat}(o:OwnS T w v es Y)(hn:es.length=m)(hw:0<w)[i:Rm LL Y LR](n:∀p' a cap,PG X.h₀.size X.B₀ p p'->v=.slice a m cap->m<=cap->Sl p' a m w es->RE X k l p' LR):RE X k l p LL:=⟨fun tm ht E h s=>by
 subst hn
 obtain⟨p',a,cap,g,e1,e2,sl,s'⟩:=o.lastG hw (s.rm i)
 exact(n p' a cap g e1 e2 sl).run tm ht E h s'⟩
theorem xz1{b:Nat}{ob:Obj}[i:Bx LL b ob LR](n:∀p',PG X.h₀.size X.B₀ p p'->p' b=some ob->RO X k ops rest l p' LR):RO X k ops rest l p LL:=⟨fun ok tm ht E pre e h s=>
 (n (padd p b ob) ((s.bx i).pg (by simp)) xrk).run ok tm ht E pre e h (s.bx i).last.2⟩
theorem xg2{b:Nat}{ob:Obj}[i:Bx LL b ob LR](n:∀p',PG X.h₀.size X.B₀ p p'->p' b=some ob->RE X k l p' LR):RE X k l p LL:=⟨fun tm ht E h s=>
 (n (padd p b ob) ((s.bx i).pg (by simp)) xrk).run tm ht E h (s.bx i).last.2⟩
theorem xrz{args:List Operand}{ats:Array TypeId}{ff:FuncId}{first cap vs:List Value}{Q:Value->PHeap->Prop}(hx:evS l x=some ([],.func (.func ff) first.toArray cap.toArray))(hvs:evsS l args=some ([],vs))
 (hc:∀h,Per p h->CallsX X.P X.md ff (first++(vs++cap)).toArray h (LastR p h Q))(n:∀v p',PG X.h₀.size X.B₀ p p'->Q v p'->RO X k ops rest (ent d none v l) p' LL)(hf:callable X.P ff=true:=by kernel_rfl):
 RO X k ops (⟨d,.call ⟨.value x,args.toArray,ats⟩,ty,pos,aft,none⟩::rest) l p LL:=⟨fun ok tm ht E=>
 xvw (R:=fun v h=>∃p',(PG X.h₀.size X.B₀ p p'/\Q v p')/\St X.h₀ X.B₀ p' h LL.flatten) (xoq rfl) (xdq E hx trivial) (by rw[xlx E hvs trivial]) hf
  (fun h s=>(hc h fun b o e=>s.per b o e).mono fun _ _⟨p',g,q,kk,pp⟩=>⟨p',⟨(s.callP g kk pp).2,q⟩,(s.callP g kk pp).1⟩)
  fun v=>xwj fun p'=>xgz fun q=>(n v p' q.1 q.2).run (xhq ok).1 _ (putl_len.trans ht) (E.ent (g:=none) ht (xhq ok).2)⟩
theorem xvt{args:List Operand}{ats:Array TypeId}{ff:FuncId}{first cap vs:List Value}{Q:Value->PHeap->Obj->Prop}[i:Bx LL b o LR](hx:evS l x=some ([],.func (.func ff) first.toArray cap.toArray))(hvs:evsS l args=some ([],vs))
 (hc:∀h,Per p h->h[b]?=some o->p b=none->CallsX X.P X.md ff (first++(vs++cap)).toArray h (TurnR p h b Q))(n:∀v p' o',PG X.h₀.size X.B₀ p p'->Q v p' o'->RO X k ops rest (ent d none v l) p' ([(b,o')]::LR))(hf:callable X.P ff=true:=by kernel_rfl):
 RO X k ops (⟨d,.call ⟨.value x,args.toArray,ats⟩,ty,pos,aft,none⟩::rest) l p LL:=⟨fun ok tm ht E=>
 xvw (R:=fun v h=>∃p' o',(PG X.h₀.size X.B₀ p p'/\Q v p' o')/\St X.h₀ X.B₀ p' h ((b,o')::LR.flatten)) (xoq rfl) (xdq E hx trivial) (by rw[xlx E hvs trivial]) hf
  (fun h s=>(hc h (fun b o e=>s.per b o e) ((s.bx i).own (b,o) (by simp)).1 ((s.bx i).own (b,o) (by simp)).2.1).mono fun _ _⟨p',o',g,q,t⟩=>⟨p',o',⟨((s.bx i).callB g t).2,q⟩,((s.bx i).callB g t).1⟩)
  fun v=>xwj fun p'=>xwj fun o'=>xgz fun q=>(n v p' o' q.1 q.2).run (xhq ok).1 _ (putl_len.trans ht) (E.ent (g:=none) ht (xhq ok).2)⟩
theorem yip{args:List Operand}{ats:Array TypeId}{vs:List Value}{fv:Value}{Q:Value->PHeap->Obj->Prop}[i:Bx LL b o LR](hx:evS l x=some ([],fv))(hvs:evsS l args=some ([],vs))
 (hc:∀h,Per p h->h[b]?=some o->p b=none->CallV X.P X.md fv vs h (TurnR p h b Q))(n:∀v p' o',PG X.h₀.size X.B₀ p p'->Q v p' o'->RO X k ops rest (ent d none v l) p' ([(b,o')]::LR)):
 RO X k ops (⟨d,.call ⟨.value x,args.toArray,ats⟩,ty,pos,aft,none⟩::rest) l p LL:=⟨fun ok _ ht E=>
 xdf (R:=fun v h=>∃p' o',(PG X.h₀.size X.B₀ p p'/\Q v p' o')/\St X.h₀ X.B₀ p' h ((b,o')::LR.flatten)) (xoq rfl) (xdq E hx trivial) (xlx E hvs trivial)
  (fun h s=>(hc h (fun b o e=>s.per b o e) ((s.bx i).own (b,o) (by simp)).1 ((s.bx i).own (b,o) (by simp)).2.1).mono fun _ _⟨p',o',g,q,t⟩=>⟨p',o',⟨((s.bx i).callB g t).2,q⟩,((s.bx i).callB g t).1⟩)
  fun v=>xwj fun p'=>xwj fun o'=>xgz fun q=>(n v p' o' q.1 q.2).run (xhq ok).1 _ (putl_len.trans ht) (E.ent (g:=none) ht (xhq ok).2)⟩
theorem xj4{args:List Operand}{ats:Array TypeId}{vs:List Value}{fv:Value}{Q:Value->PHeap->Prop}(hx:evS l x=some ([],fv))(hvs:evsS l args=some ([],vs))
 (hc:∀h,Per p h->CallV X.P X.md fv vs h (LastR p h Q))(n:∀v p',PG X.h₀.size X.B₀ p p'->Q v p'->RO X k ops rest (ent d none v l) p' LL):
 RO X k ops (⟨d,.call ⟨.value x,args.toArray,ats⟩,ty,pos,aft,none⟩::rest) l p LL:=⟨fun ok _ ht E=>
 xdf (R:=fun v h=>∃p',(PG X.h₀.size X.B₀ p p'/\Q v p')/\St X.h₀ X.B₀ p' h LL.flatten) (xoq rfl) (xdq E hx trivial) (xlx E hvs trivial)
  (fun h s=>(hc h fun b o e=>s.per b o e).mono fun _ _⟨p',g,q,kk,pp⟩=>⟨p',⟨(s.callP g kk pp).2,q⟩,(s.callP g kk pp).1⟩)
  fun v=>xwj fun p'=>xgz fun q=>(n v p' q.1 q.2).run (xhq ok).1 _ (putl_len.trans ht) (E.ent (g:=none) ht (xhq ok).2)⟩
end
theorem xlz{P:Program}{md:Md}{f:FuncId}{fn:Func}{c:Code}{args:List Value}{R:Value->Heap->Prop}{h:Heap}{p:PHeap}{b:Nat}{o:Obj}(hp:Per p h)(hb:h[b]?=some o)(hnb:p b=none)(hf:P.funcs[f]?=some fn)
 (x:∀(c₀:Frame)(cs:List Frame)(Stop:Goroutine->Heap->Prop),(∀v h',R v h'->Reach P md (G (c₀.finish v) cs) h' Stop)->RE ⟨P,md,f,.none,fn.ntmps,[],c₀::cs,Stop,h,[b]⟩ [.code c] (envOf 0 args) p [[(b,o)]])
 (hbd:fn.body=some c:=by rfl)(hn:Nat.ble args.length fn.ntmps=true:=by rfl):CallsX P md f args.toArray h R:=
 xqd (Φ:=fun h'=>St h [b] p h' [(b,o)]) hf hbd rfl (fun c₀ cs Stop K=>(x c₀ cs Stop K).run _ (by have:=Nat.le_of_ble_eq_true hn;simp;omega) fun i g v hl=>by
  obtain⟨rfl,m,rfl,hm⟩:=xnc hl
  rw[Nat.zero_add,List.getElem?_append_left (by simpa using(List.getElem?_eq_some_iff.1 hm).1)]
  simpa[cv]using hm) ⟨fun _ _ _=>rfl,Nat.le_refl _,hp,fun x hx=>by obtain rfl:=List.mem_singleton.1 hx;exact⟨hb,hnb,.inr (by simp)⟩,by simp⟩
theorem xej{h₀ h:Heap}{b:Nat}{p p':PHeap}{LL LR:List Pcs}{o:Obj}{Q:Value->PHeap->Obj->Prop}{v:Value}[i:Bx LL b o LR](s:St h₀ [b] p' h LL.flatten)(g:PG h₀.size [b] p p')(q:Q v p' o):TurnR p h₀ b Q v h:=
 ⟨p',o,g,q,(s.bx i).sub (by simp)⟩
theorem xzx{h₀ h:Heap}{p p':PHeap}{L:Pcs}{Q:Value->PHeap->Prop}{v:Value}(s:St h₀ [] p' h L)(g:PG h₀.size [] p p')(q:Q v p'):LastR p h₀ Q v h:=⟨p',g,q,s.kept,s.per⟩
section
variable{X:Cx}{k:List Item}{ops rest:List Oper}{m:Ks}{l:Env}{p:PHeap}{LF LL LR L3:List Pcs}{effs todo:List Nat}{g:Option Bool}{d:Option Tmp}{dd:Nat}{ty:TypeId}{pos:String}{aft:Array Edge}{gd:Option (Nat×Bool)}{ss ss':List Prop}{x y:Operand}{i:Nat}{v fv:Value}{T T' t:TypeId}
theorem xus{z:Value}(ho:ops[i]?=some ⟨some dd,.alloc T,ty,pos,aft,none⟩)[iz:ZeroC X.P T z](n:∀b,DE X k ops m p LF effs todo ((dd,none,.pointer (some ⟨b,0,none⟩))::l) ([(b,.cells z.cells T (0,0))]::LL))(he:effs.contains i=true:=by rfl):DE X k ops m p LF effs (i::todo) l LL:=
 ⟨.eff (U:=[]) (LR:=LL) (Q:=fun v x=>∃b,v=.pointer (some ⟨b,0,none⟩)/\x=[(b,.cells z.cells T (0,0))]) ho (by simpa using he) (List.Perm.refl _) (fun _ _ E=>⟨rfl,xoq rfl,fun C h s=>.inl (by
  unfold Exv
  simp only[execOp]
  refine xbq ?_
  unfold Instr.alloc
  refine xbq (xaz iz.h ?_)
  simp only
  unfold newVar
  refine xbq (xpz ?_)
  refine xcq ?_
  exact xcq ⟨_,.inl rfl,_,⟨_,rfl,rfl⟩,s.push _⟩)⟩) fun v x⟨b,e1,e2⟩=>by subst e1;subst e2;exact(n b).run⟩
theorem xq6{args:List Operand}{ats:Array TypeId}{vs:List Value}(ho:ops[i]?=some ⟨d,.call ⟨.value x,args.toArray,ats⟩,ty,pos,aft,gd⟩)(hg:gdc ops l gd=some g)(hx:evS l x=some (ss',fv))(hx':cimp g (AllP ss'))(hvs:evsS l args=some (ss,vs))(hs:cimp g (AllP ss))
 (hc:cimp g (∀h,Per p h->CallV X.P X.md fv vs h fun v' h'=>v'=v/\Keep h h'))(n:DE X k ops m p LF effs todo (ent d g v l) LL):DE X k ops m p LF effs (i::todo) l LL:=⟨.det ho (fun tm _ E=>⟨rfl,by
  have cal:AllP ss'->AllP ss->(∀h,Per p h->CallV X.P X.md fv vs h fun v' h'=>v'=v/\Keep h h')-> ∀C:Pcs,OpTo X.P X.md tm ⟨d,.call ⟨.value x,args.toArray,ats⟩,ty,pos,aft,gd⟩ (fun h=>St X.h₀ X.B₀ p h (LF.flatten++C)) v:=fun hx' hs hc C h s=>
   .inr (.inr (fun c cs Stop z=>by
    simp only[execOp,resolve,xdq E hx hx',List.map_toArray,xlx E hvs hs]
    exact hc h (fun b o e=>s.per b o e) c cs Stop fun v' h'⟨e,kk⟩=>z v' h' ⟨e,s.call kk⟩))
  rcases xnv (o:=⟨d,.call ⟨.value x,args.toArray,ats⟩,ty,pos,aft,gd⟩) E hg with⟨rfl,hm⟩|⟨c,rfl,hm⟩
  ·exact .inl ⟨hm,cal hx' hs hc⟩
  ·cases c with
   |true=>exact .inl ⟨hm,cal (hx' rfl) (hs rfl) (hc rfl)⟩
   |false=>exact .inr ⟨hm,rfl⟩⟩) n.run⟩
theorem xbb{a:Addr}{nn:Nat}{vs:List Value}(ho:ops[i]?=some ⟨d,.load t x,ty,pos,aft,gd⟩)(hg:gdc ops l gd=some g)(hx:evS l x=some (ss,.pointer (some a)))(hs:cimp g (AllP ss))(hv:cimp g (∀j v,vs[j]?=some v->pcell p (a.add j)=some v))[ag:AggC X.P t true][sz:SizeC X.P t nn]
 (n:DE X k ops m p LF effs todo (ent d g (.agg vs.toArray) l) LL)(hn:vs.length=nn:=by rfl):DE X k ops m p LF effs (i::todo) l LL:=
 xwz ho hg rfl (xoz hs hv fun hs hv _ _ _ E s=>xyw s ag.h sz.h (xdq E hx hs) hn hv) n
theorem xdj{a:Addr}{u:Value}(ho:ops[i]?=some ⟨d,.load t x,ty,pos,aft,gd⟩)(hg:gdc ops l gd=some g)(hx:evS l x=some (ss,.pointer (some a)))(hs:cimp g (AllP ss))(hv:cimp g (pcell p a=some u))[ag:AggC X.P t false]
 (n:DE X k ops m p LF effs todo (ent d g u l) LL):DE X k ops m p LF effs (i::todo) l LL:=
 xwz ho hg rfl (xoz hs hv fun hs hv _ _ _ E s=>xyb s ag.h (xdq E hx hs) hv) n
theorem yns{e:TypeId}{a:Option Addr}{q c w j:Nat}{kk:IntKind}(ho:ops[i]?=some ⟨d,.indexAddr t x y,ty,pos,aft,gd⟩)(hg:gdc ops l gd=some g)(hx:evS l x=some (ss,.slice a q c))(hy:evS l y=some (ss',.int kk (j:Nat)))(hs:cimp g (AllP ss))(hs':cimp g (AllP ss'))(hi:cimp g (j<q/\a=some (adr a)))
 [f:SlcC X.P t e][sz:SizeC X.P e w](n:DE X k ops m p LF effs todo (ent d g (.pointer (some ((adr a).add (j*w)))) l) LL):DE X k ops m p LF effs (i::todo) l LL:=
 xwz ho hg rfl (xoz hi (xoz hs hs' And.intro) fun hi hs _ _ _ E _=>xlk f.h sz.h ((xdq E hx hs.1).trans (xu1 a q c hi.2)) (xdq E hy hs.2) hi.1) n
theorem xkk{e:TypeId}{w j:Nat}{es:List (List Value)}{Y:Pcs}(ho:ops[i]?=some ⟨d,.indexAddr t x y,ty,pos,aft,gd⟩)(hg:gdc ops l gd=some g)(hx:evS l x=some (ss,v))(hy:evS l y=some (ss',.int .i64 (j:Nat)))(hs:cimp g (AllP ss))(hs':cimp g (AllP ss'))(o:OwnS T w v es Y)(hj:j<es.length)
 [f:SlcC X.P t e][sz:SizeC X.P e w](n:DE X k ops m p LF effs todo (ent d g (.pointer (some ((adrV v).add (j*w)))) l) LL):DE X k ops m p LF effs (i::todo) l LL:=
 xwz ho hg rfl (xoz hs hs' fun hs hs' _ _ _ E _=>xmc o f.h sz.h (xdq E hx hs) (xdq E hy hs') hj) n
theorem xhf{h₀ h:Heap}{B₀:List Nat}{w j:Nat}{es:List (List Value)}{Y L:Pcs}(o:OwnS T w v es Y)(s:St h₀ B₀ p h (Y++L)){e:List Value}{q:Nat}{u:Value}(hj:es[j]?=some e)(hq:e[q]?=some u):cell? h (((adrV v).add (j*w)).add q)=some u:=by
 obtain⟨hw,⟨rfl,rfl,rfl⟩|⟨b,cs,cap,rest,rfl,rfl,hcs,hlen,hcap⟩⟩:=o
 ·cases hj
 ·show cell? h (((⟨b,0,none⟩:Addr).add (j*w)).add q)=_
  rw[xrx,xrx]
  refine s.ocell (i:=0) rfl ?_
  have:=xzz hw hj hq
  rw[List.getElem?_toArray,hcs,Nat.zero_add,List.getElem?_append_left (List.getElem?_eq_some_iff.1 this).1]
  exact this
theorem xp6{w j nn:Nat}{es:List (List Value)}{e:List Value}{Y:Pcs}{a:Addr}(ho:ops[i]?=some ⟨d,.load t x,ty,pos,aft,gd⟩)(hg:gdc ops l gd=some g)(hx:evS l x=some (ss,.pointer (some a)))(hs:cimp g (AllP ss))(o:OwnS T w v es Y)(ha:((adrV v).add (j*w))=a)(hj:es[j]?=some e)
 [ag:AggC X.P t true][sz:SizeC X.P t nn][ii:Rm LF Y LR](n:DE X k ops m p LF effs todo (ent d g (.agg e.toArray) l) LL)(hn:e.length=nn:=by rfl):DE X k ops m p LF effs (i::todo) l LL:=
 xwz ho hg rfl (xsq hs fun hs _ h C E s=>xuf ag.h sz.h hn (xdq E hx hs) fun q u hq=>by
  subst ha
  exact xhf o ((s.perm (List.Perm.append_right C ii.h)).perm (by rw[List.append_assoc])) hj hq) n
theorem xcw{w j q:Nat}{es:List (List Value)}{e:List Value}{u:Value}{Y:Pcs}{a:Addr}(ho:ops[i]?=some ⟨d,.load t x,ty,pos,aft,gd⟩)(hg:gdc ops l gd=some g)(hx:evS l x=some (ss,.pointer (some a)))(hs:cimp g (AllP ss))(o:OwnS T w v es Y)(ha:((adrV v).add (j*w)).add q=a)(hj:es[j]?=some e)(hq:e[q]?=some u)
 [ag:AggC X.P t false][ii:Rm LF Y LR](n:DE X k ops m p LF effs todo (ent d g u l) LL):DE X k ops m p LF effs (i::todo) l LL:=
 xwz ho hg rfl (xsq hs fun hs _ h C E s=>xvf ag.h (xdq E hx hs) (by
  subst ha
  exact xhf o ((s.perm (List.Perm.append_right C ii.h)).perm (by rw[List.append_assoc])) hj hq)) n
theorem ymh{w j nn:Nat}{es:List (List Value)}{e:List Value}{Y:Pcs}{a:Addr}(hx:evS l x=some ([],.pointer (some a)))(o:OwnS T w v es Y)(ha:((adrV v).add (j*w))=a)(hj:es[j]?=some e)
 [ag:AggC X.P t true][sz:SizeC X.P t nn][ii:Rm LL Y LR](n:RO X k ops rest (ent d none (.agg e.toArray) l) p LL)(hn:e.length=nn:=by rfl):RO X k ops (⟨d,.load t x,ty,pos,aft,none⟩::rest) l p LL:=
 xdx (g:=none) rfl rfl (fun _ h E s=>xuf ag.h sz.h hn (xdq E hx trivial) fun q u hq=>by
  subst ha
  exact xhf o (s.rm ii) hj hq) n
end
section
variable{P:Program}{h:Heap}{h₀:Heap}{B₀:List Nat}{p:PHeap}{C A:Pcs}
theorem xj1{sT xT eT eX ty:TypeId}{w m n by':Nat}{a:Option Addr}{x z:Value}{es news:List (List Value)}{K:Value->Heap->Prop}(hT:P.underlying sT=some (.slice eT))(hs:sizeT P eT=some w)(hz:zeroT P eT=some z)(hzs:z.cells.size=w)(hw0:0<w)
 (hby:bytesT P eT=some by')(hx:P.underlying xT=some (.slice eX))(d:Sl p a n w es)(s:St h₀ B₀ p h C)
 (hlen:∀K:Nat->Heap->Prop,K m h->wpS P (Builtin.lenOf x) h K)(hsrc:∀K:Array Value->Heap->Prop,K news.flatten.toArray h->wpS P (Builtin.firstCells w m x) h K)
 (hm:news.length=m)(hm0:0<m)(hw:∀e∈news,e.length=w)(room:(n+m)*by'<=2^40)(hb2:0<by'/\by'<=2^20)
 (nx:∀v' X' h',OwnS eT w v' (es++news) X'->St h₀ B₀ p h' (X'++C)->K v' h'):wpS P (Builtin.append_ #[sT,xT] ty #[.slice a n n,x]) h K:=by
 obtain⟨i,hi,hib⟩:∃i,P.info? eT=some i/\i.bytes=by':=by
  unfold bytesT at hby
  cases hi:P.info? eT with
  |none=>rw[hi]at hby;cases hby
  |some i=>rw[hi]at hby;exact⟨i,rfl,by simpa using hby⟩
 have hn:=d.len
 have hwe:=d.wid
 have hnf:=xmq hw
 have hwall:∀e∈es++news,e.length=w:=fun e he=>(List.mem_append.1 he).elim (hwe e) (hw e)
 have hneed:n+m<=2^40:=Nat.le_trans (Nat.le_mul_of_pos_right _ hb2.1) room
 have hold:=(xeg (P:=P) (cap:=n) s hw0 d).cells
 unfold Builtin.append_
 simp only[List.getElem?_toArray,List.getElem?_cons_zero,List.getElem?_cons_succ]
 refine xbq (xeq hT ?_)
 simp only
 refine xbq (xwq hs ?_)
 refine xbq (xeq hx ?_)
 refine xbq (xfx (K:=fun zr h'=>zr=false/\h'=h) (xcq ⟨rfl,rfl⟩) fun zr h'⟨ez,eh⟩=>?_)
 subst ez
 have eh:=eh.symm
 subst eh
 simp only[Bool.false_eq_true,if_false,Bool.not_false,if_true]
 refine xbq (hlen _ ?_)
 rw[if_neg (show ¬ n+m<=n by omega)]
 refine xbq (xkx hi ?_)
 rw[if_neg (by
  intro hh
  have:(IntKind.i64.max:Int)=9223372036854775807:=by decide
  rw[this]at hh
  omega)]
 refine xbq (xkx hi ?_)
 rw[hib,if_neg (by have:=xn2 (by':=by') (by omega:n<n+m) room hb2.2;omega)]
 refine xbq ?_
 show wpS P (choose _) h _
 simp only[choose,wpS,Question.forced,Bool.false_eq_true,if_false,Question.cut]
 intro t
 generalize hnc:n+m+t%(2^63-(n+m))=nc
 have hnc':n+m<=nc:=om
 have hncu:nc<=9223372036854775807:=by
  have:=Nat.mod_lt t (show 0<2^63-(n+m) by omega)
  omega
 refine xbq (xkx hi ?_)
 refine xbq ?_
 have ask:∀(b:Nat)(K:Unit->Heap->Prop),K () h->wpS P (askRoom b) h K:=by
  intro b K hK
  unfold askRoom
  split
  ·exact⟨rfl,hK⟩
  ·exact xcq hK
 refine ask _ _ ?_
 refine xbq (hold _ ?_)
 refine xbq (hsrc _ ?_)
 refine xbq (xaz hz ?_)
 refine xbq (xpz ?_)
 refine xcq (nx _ [(h.size,.cells (List.toArray (es.flatten++news.flatten++(Builtin.zeroCells z.cells (nc-(n+m))).toList)) eT (0,0))] _ ⟨hwall,.inr ⟨h.size,_,nc,(Builtin.zeroCells z.cells (nc-(n+m))).toList,?_,rfl,by simp,?_,fun _=>hncu⟩⟩ ?_)
 ·simp[hm,hn]
 ·simp only[List.length_append,xmq hwe,hnf,hm,hn,xmj,hzs]
  rw[<- Nat.add_mul,<- Nat.add_mul];congr 1;omega
 ·have s1:=s.push (.cells (List.toArray (es.flatten++news.flatten++(Builtin.zeroCells z.cells (nc-(n+m))).toList)) eT (0,0))
  have e1:(List.toArray es.flatten++List.toArray news.flatten++Builtin.zeroCells z.cells (nc-(n+m)))=List.toArray (es.flatten++news.flatten++(Builtin.zeroCells z.cells (nc-(n+m))).toList):=by
   apply Array.ext';simp
  rw[e1];exact s1
end
section
variable{X:Cx}{k:List Item}{ops rest:List Oper}{m:Ks}{l:Env}{p:PHeap}{LF LL LR L3:List Pcs}{effs todo:List Nat}{d:Option Tmp}{dd:Nat}{ty:TypeId}{pos:String}{aft:Array Edge}{gd:Option (Nat×Bool)}{g:Option Bool}{ss ss':List Prop}{x y y2:Operand}{i:Nat}{v:Value}{T T' t:TypeId}{w:Nat}{es news:List (List Value)}{Y Z:Pcs}
theorem yef{e:TypeId}{n c:Nat}{a:Option Addr}(hx:evS l x=some ([],.slice a n c))(hy:evS l y=some ([],.int .i64 ((n:Nat):Int)))(hz:evS l y2=some ([],.int .i64 ((n:Nat):Int)))(hc:n<=c)[f:SlcC X.P t e][sz:SizeC X.P e w]
 (nx:RO X k ops rest (ent d none (.slice a n n) l) p LL):RO X k ops (⟨d,.slice t x none (some y) (some y2),ty,pos,aft,none⟩::rest) l p LL:=
 xdx (g:=none) rfl rfl (fun _ _ E _=>xkp f.h sz.h (xdq E hx trivial) (xdq E hy trivial) (xdq E hz trivial) hc) nx
theorem ykk{e:TypeId}{n c:Nat}{a:Option Addr}(ho:ops[i]?=some ⟨d,.slice t x none (some y) (some y2),ty,pos,aft,none⟩)(hx:evS l x=some ([],.slice a n c))(hy:evS l y=some ([],.int .i64 ((n:Nat):Int)))(hz:evS l y2=some ([],.int .i64 ((n:Nat):Int)))(hc:n<=c)[f:SlcC X.P t e][sz:SizeC X.P e w]
 (nx:DE X k ops m p LF effs todo (ent d none (.slice a n n) l) LL):DE X k ops m p LF effs (i::todo) l LL:=
 xwz (g:=none) ho rfl rfl (fun _ _ _ E _=>xkp f.h sz.h (xdq E hx trivial) (xdq E hy trivial) (xdq E hz trivial) hc) nx
theorem xxn{e:TypeId}{q c j:Nat}{a:Option Addr}{kk:IntKind}(hx:evS l x=some ([],.slice a q c))(hy:evS l y=some ([],.int kk ((j:Nat):Int)))(hj:j<=c)[f:SlcC X.P t e][sz:SizeC X.P e w]
 (nx:RO X k ops rest (ent d none (.slice a j c) l) p LL):RO X k ops (⟨d,.slice t x none (some y) none,ty,pos,aft,none⟩::rest) l p LL:=
 xdx (g:=none) rfl rfl (fun tm h' E _=>by
  have z:=xlw (tm:=tm) (h:=h') (d:=d) (ty:=ty) (pos:=pos) (aft:=aft) (gd:=none) f.h sz.h (xdq E hx trivial) (.none 0) (.nat q (xdq E hy trivial)) (Nat.zero_le j) hj
  rw[ycd,Nat.sub_zero,Nat.sub_zero]at z
  exact z) nx
theorem xf4{e:TypeId}{q c j:Nat}{a:Option Addr}{kk:IntKind}(hx:evS l x=some ([],.slice a q c))(hy:evS l y=some ([],.int kk ((j:Nat):Int)))(hj:j<=q/\q<=c)[f:SlcC X.P t e][sz:SizeC X.P e w]
 (nx:RO X k ops rest (ent d none (.slice (cutA a c j w) (q-j) (c-j)) l) p LL):RO X k ops (⟨d,.slice t x (some y) none none,ty,pos,aft,none⟩::rest) l p LL:=
 xdx (g:=none) rfl rfl (fun _ _ E _=>xlw f.h sz.h (xdq E hx trivial) (.nat 0 (xdq E hy trivial)) (.none q) hj.1 hj.2) nx
theorem xpp{e:TypeId}{q c j:Nat}{a:Option Addr}{kk:IntKind}(ho:ops[i]?=some ⟨d,.slice t x (some y) none none,ty,pos,aft,none⟩)(hx:evS l x=some ([],.slice a q c))(hy:evS l y=some ([],.int kk ((j:Nat):Int)))(hj:j<=q/\q<=c)[f:SlcC X.P t e][sz:SizeC X.P e w]
 (nx:DE X k ops m p LF effs todo (ent d none (.slice (cutA a c j w) (q-j) (c-j)) l) LL):DE X k ops m p LF effs (i::todo) l LL:=
 xwz (g:=none) ho rfl rfl (fun _ _ _ E _=>xlw f.h sz.h (xdq E hx trivial) (.nat 0 (xdq E hy trivial)) (.none q) hj.1 hj.2) nx
theorem xxt{sT xT eT eX:TypeId}{by' n:Nat}{a:Option Addr}{x' z:Value}(hx:evS l x=some ([],.slice a n n))(hy:evS l y=some ([],x'))(S:Sl p a n w es)(o2:OwnS eT w x' news Z)(hm0:0<news.length)(room:(n+news.length)*by'<=2^40)
 [i2:Rm LL Z LR][hT:SlcC X.P sT eT][hs:SizeC X.P eT w][hz:ZeroC X.P eT z][hb:ByC X.P eT by'][hX:SlcC X.P xT eX](nx:∀v' Y',OwnS eT w v' (es++news) Y'->RO X k ops rest ((dd,none,v')::l) p (Y'::LR))
 (hzs:z.cells.size=w:=by rfl)(hb2:0<by'/\by'<=2^20:=by decide)(hw0:0<w:=by decide):RO X k ops (⟨some dd,.call ⟨.builtin .append,#[x,y],#[sT,xT]⟩,ty,pos,aft,none⟩::rest) l p LL:=⟨fun ok tm ht E=>
 xfj (K:=fun v' h'=>∃Y',OwnS eT w v' (es++news) Y'/\St X.h₀ X.B₀ p h' (Y'++LR.flatten)) (xoq rfl) rfl (fun h s=>by
  have s2:=s.rm i2
  have src:=xvh (P:=X.P) (L₁:=[]) (L₂:=LR.flatten) o2 s2
  unfold Ex
  simp only[execOp,resolve]
  refine xbq (xcq ?_)
  simp only[invoke,builtin]
  refine xbq ?_
  have e:(#[x,y]:Array Operand).map (evl tm)=#[.slice a n n,x']:=by simp[xdq E hx trivial,xdq E hy trivial]
  rw[e]
  refine xj1 hT.h hs.h hz.h hzs hw0 hb.h hX.h S s2 src.lenOf src.cells src.len hm0 src.wid room hb2 fun v' X' h' o' s'=>?_
  exact xcq ⟨v',rfl,X',o',s'.sub (List.Sublist.append_left (List.sublist_append_right _ _) _)⟩) fun v'=>xwj fun Y'=>xgz fun o'=>(nx v' Y' o').run (xhq ok).1 _ (by simp[putl,ht]) (E.set (g:=none) (ht ▸ xvv ok rfl))⟩
theorem xjb{sT eT:TypeId}{n:Nat}{parts:List (Nat×Operand)}{vs:List (Nat×Value)}{z:Value}{cells:Array Value}(ho:ops[i]?=some ⟨some dd,.buildSlice sT n parts.toArray,ty,pos,aft,none⟩)(hvs:evpS l parts=some vs)[hT:SlcC X.P sT eT][hs:SizeC X.P eT w][hz:ZeroC X.P eT z]
 (nx:∀v Y,OwnS eT w v (chs w n cells.toList) Y->DE X k ops m p LF effs todo ((dd,none,v)::l) (Y::LL))(he:effs.contains i=true:=by rfl)
 (hf:Instr.fill (fun i=>some (i*w,w)) ((List.range (n*w)).map (z.cells[· % z.cells.size]!)).toArray vs=some cells:=by rfl)(hc:cells=(chs w n cells.toList).flatten.toArray:=by rfl)(hw:((chs w n cells.toList).all fun e=>e.length==w)=true:=by rfl)
 (hn:(chs w n cells.toList).length=n:=by rfl)(hsm:n*w<=2^24:=by exact Nat.le_of_ble_eq_true rfl):DE X k ops m p LF effs (i::todo) l LL:=
 ⟨.eff (U:=[]) (LR:=LL) (Q:=fun v Y=>OwnS eT w v (chs w n cells.toList) Y) ho (by simpa using he) (List.Perm.refl _) (fun _ _ E=>⟨rfl,xoq rfl,fun C h s=>.inl
  (Ex.exv (xj6 hT.h hs.h hz.h hsm (xvm E hvs) hf hc hw hn (show St _ _ _ _ (LF.flatten++C) from s) fun _ Y _ o s'=>⟨Y,o,s'⟩))⟩) fun v Y o=>(nx v Y o).run⟩
end
section
variable{X:Cx}{k:List Item}{ops rest:List Oper}{m:Ks}{l:Env}{p:PHeap}{LF LL LR L3:List Pcs}{effs todo:List Nat}{d:Option Tmp}{dd:Nat}{ty:TypeId}{pos:String}{aft:Array Edge}{gd:Option (Nat×Bool)}{g:Option Bool}{ss ss':List Prop}{x y:Operand}{i:Nat}{v:Value}{T T' t:TypeId}
theorem yep{a:Addr}(hg:gdc ops l gd=some g)(hx:evS l x=some (ss,.pointer (some a)))(hs:cimp g (AllP ss))(n:RO X k ops rest (ent d g (.pointer (some a)) l) p LL):RO X k ops (⟨d,.nilCheck x,ty,pos,aft,gd⟩::rest) l p LL:=
 xdx hg rfl (xsq hs fun hs _ _ E _=>xmh (xdq E hx hs)) n
theorem ypm{a:Addr}(ho:ops[i]?=some ⟨d,.nilCheck x,ty,pos,aft,gd⟩)(hg:gdc ops l gd=some g)(hx:evS l x=some (ss,.pointer (some a)))(hs:cimp g (AllP ss))(n:DE X k ops m p LF effs todo (ent d g (.pointer (some a)) l) LL):DE X k ops m p LF effs (i::todo) l LL:=
 xwz ho hg rfl (xsq hs fun hs _ _ _ E _=>xmh (xdq E hx hs)) n
theorem xuh{b off nsz:Nat}{cs:List Value}(ho:ops[i]?=some ⟨none,.store T x y,ty,pos,aft,none⟩)(hx:evS l x=some ([],.pointer (some ⟨b,off,none⟩)))(hy:evS l y=some ([],v))[sz:SizeC X.P T nsz][mm:Bx LL b (.cells cs.toArray T' (0,0)) LR]
 (n:DE X k ops m p LF effs todo l ([(b,.cells (setl cs off v.cells.toList).toArray T' (0,0))]::LR))(he:effs.contains i=true:=by rfl)(hv:v.cells.size=nsz:=by rfl)(h1:v.cells.toList.all isOne=true:=by rfl)(hlen:off+v.cells.size<=cs.length:=by exact Nat.le_of_ble_eq_true rfl):DE X k ops m p LF effs (i::todo) l LL:=
 ⟨.eff (U:=[(b,.cells cs.toArray T' (0,0))]) (LR:=LR) (Q:=fun _ x=>x=[(b,.cells (setl cs off v.cells.toList).toArray T' (0,0))]) ho (by simpa using he) (by simpa using mm.h) (fun tm _ E=>⟨rfl,xoq rfl,fun C h s=>.inl (by
  unfold Exv
  simp only[execOp,xdq E hx trivial,xdq E hy trivial]
  refine xbq ?_
  unfold Instr.storeAt
  refine xbq (xcq ?_)
  unfold storeVar
  refine xbq (xwq sz.h ?_)
  rw[if_neg (by simpa using hv)]
  refine xmz (i:=0) s rfl (by simpa using hlen) (fun u hu=>List.all_eq_true.1 h1 u hu) fun h' s'=>?_
  refine xcq ⟨_,.inr ⟨rfl,rfl⟩,_,rfl,?_⟩
  rw[Nat.add_zero]at s'
  exact s')⟩) fun v x e=>by subst e;exact n.run⟩
theorem yzw{id:Nat}(m:Nat)(cl:List (List Nat))(effs order:List Nat)(b:Nat){o:Obj}[i:Bx LL b o LR](D:DE X k ops (.drop m) p LR effs order l [[(b,o)]])(hmix:X.P.follows .mixedOrders=true:=by kernel_rfl)(ok:okD X.n ops=true:=by rfl)
 (hst:stable ops m cl=true:=by rfl)(hm:Nat.ble m ops.length=true:=by rfl)(hord:ordOk ops cl effs [] order=true:=by rfl)(hall:((List.range m).all fun i=>order.contains i)=true:=by rfl)(hlt:(order.all fun i=>Nat.blt i m)=true:=by rfl):
 RE X (.code (.region id ops.toArray true)::k) l p LL:=xgf (L0:=[[(b,o)]]) (i.h.trans (by simpa using(List.perm_append_comm (l₁:=[(b,o)]) (l₂:=LR.flatten)))) m cl effs order hmix ok D.run hst hm hord hall hlt
theorem xdm{id:Nat}(m:Nat)(cl:List (List Nat))(effs order:List Nat)(b b':Nat){o o':Obj}[i:Bx LL b o LR][j:Bx LR b' o' L3](D:DE X k ops (.drop m) p L3 effs order l [[(b,o)],[(b',o')]])(hmix:X.P.follows .mixedOrders=true:=by kernel_rfl)(ok:okD X.n ops=true:=by rfl)
 (hst:stable ops m cl=true:=by rfl)(hm:Nat.ble m ops.length=true:=by rfl)(hord:ordOk ops cl effs [] order=true:=by rfl)(hall:((List.range m).all fun i=>order.contains i)=true:=by rfl)(hlt:(order.all fun i=>Nat.blt i m)=true:=by rfl):
 RE X (.code (.region id ops.toArray true)::k) l p LL:=xgf (L0:=[[(b,o)],[(b',o')]]) ((i.h.trans (List.Perm.cons _ j.h)).trans (by simpa using(List.perm_append_comm (l₁:=[(b,o),(b',o')]) (l₂:=L3.flatten)))) m cl effs order hmix ok D.run hst hm hord hall hlt
end
theorem aw{Q K:Prop}(k:K)(h:Hid K->Q:=by
 intro k
 repeat (first
  |refine xyv rfl rfl sdt ?_
  |refine yrq ?_
  |refine yix ?_
  |refine xor ?_ rfl
  |refine xb2 rfl rfl sdt ?_
  |refine yoh rfl rfl sdt ?_
  |refine yph rfl rfl sdt ?_
  |refine xgw rfl rfl sdt (xpx (xem ‹_› rfl)) ?_
  |refine yjq rfl rfl sdt ?_
  |refine xm7 rfl rfl (by omega) (Sl.ne ‹_› (by omega)) ?_
  |refine xvk rfl (Ints.get ‹_› (by omega)) ?_
  |refine xf2 ?_
  |refine xqr ?_
  |refine xmg ?_
  |refine xh2 rfl ?_
  |refine ykq rfl rfl sdt ?_
  |refine xhd rfl rfl sdt (xpx (xsz ‹_›)) ?_
  |refine xtc rfl rfl ?_
  |refine ynh rfl rfl sdt ?_
  |refine ygq rfl rfl rfl sdt sdt ?_
  |refine yhq rfl rfl rfl sdt sdt ?_
  |refine yjh rfl rfl ?_
  |refine yvq rfl ?_
  |refine yep rfl rfl sdt ?_
  |refine xh4 rfl rfl (by decide) (by omega) (Sl.ne ‹_› (by omega)) ?_
  |refine yhf rfl rfl rfl sdt sdt ?_
  |refine ydq rfl rfl rfl sdt sdt ?_
  |refine yiq rfl rfl sdt ?_)
 exact k.out):Q:=h ⟨k⟩
theorem ae{Q K:Prop}(k:K)(h:Hid K->Q:=by
 intro k
 repeat (first
  |refine xvc rfl rfl rfl sdt ?_
  |refine ylk ?_
  |refine xwc rfl rfl rfl sdt ?_
  |refine yqk rfl rfl rfl sdt ?_
  |refine yum rfl rfl rfl sdt ?_
  |refine yok rfl rfl rfl sdt ?_
  |refine ysm rfl rfl rfl (by omega) (Sl.ne ‹_› (by omega)) ?_
  |refine xag rfl rfl (Ints.get ‹_› (by omega)) ?_
  |refine xu0 rfl rfl rfl sdt ?_
  |refine ytm rfl rfl rfl sdt ?_
  |refine xr6 rfl rfl ?_
  |refine yrm rfl rfl rfl ?_
  |refine ymk rfl rfl rfl rfl sdt sdt ?_
  |refine ypm rfl rfl rfl sdt ?_
  |refine xrp rfl rfl rfl (by decide) (by omega) (Sl.ne ‹_› (by omega)) ?_
  |refine xdj rfl rfl rfl sdt (xpx (xem ‹_› rfl)) ?_
  |refine xbb rfl rfl rfl sdt (xpx (xsz ‹_›)) ?_
  |refine ydg rfl rfl rfl rfl sdt sdt ?_
  |refine ynk rfl rfl rfl sdt ?_
  |refine xuh rfl rfl rfl ?_)
 exact k.out):Q:=h ⟨k⟩
section
variable{X:Cx}{k:List Item}{ops rest:List Oper}{m:Ks}{l:Env}{p:PHeap}{LF LL LR L3:List Pcs}{effs todo:List Nat}{d:Option Tmp}{dd:Nat}{ty:TypeId}{pos:String}{aft:Array Edge}{gd:Option (Nat×Bool)}{g:Option Bool}{ss ss':List Prop}{x y:Operand}{i:Nat}{v:Value}{T T' t:TypeId}{w:Nat}{es:List (List Value)}{Y:Pcs}
theorem xsj{e:TypeId}{a:Option Addr}{q c:Nat}{j:Int}{kk:IntKind}(ho:ops[i]?=some ⟨d,.indexAddr t x y,ty,pos,aft,gd⟩)(hg:gdc ops l gd=some g)(hx:evS l x=some (ss,.slice a q c))(hy:evS l y=some (ss',.int kk j))(hs:cimp g (AllP ss))(hs':cimp g (AllP ss'))(hi:cimp g ((0<=j/\j<q)/\a=some (adr a)))
 [f:SlcC X.P t e][sz:SizeC X.P e w](n:DE X k ops m p LF effs todo (ent d g (.pointer (some ((adr a).add (j.toNat*w)))) l) LL):DE X k ops m p LF effs (i::todo) l LL:=
 xwz ho hg rfl (xoz hi (xoz hs hs' And.intro) fun hi hs _ _ _ E _=>xzj f.h sz.h ((xdq E hx hs.1).trans (xu1 a q c hi.2)) (xdq E hy hs.2) hi.1.1 hi.1.2 rfl) n
theorem xsb{e:TypeId}{a:Option Addr}{q c:Nat}{j:Int}{kk:IntKind}(hg:gdc ops l gd=some g)(hx:evS l x=some (ss,.slice a q c))(hy:evS l y=some (ss',.int kk j))(hs:cimp g (AllP ss))(hs':cimp g (AllP ss'))(hi:cimp g ((0<=j/\j<q)/\a=some (adr a)))
 [f:SlcC X.P t e][sz:SizeC X.P e w](n:RO X k ops rest (ent d g (.pointer (some ((adr a).add (j.toNat*w)))) l) p LL):RO X k ops (⟨d,.indexAddr t x y,ty,pos,aft,gd⟩::rest) l p LL:=
 xdx hg rfl (xoz hi (xoz hs hs' And.intro) fun hi hs _ _ E _=>xzj f.h sz.h ((xdq E hx hs.1).trans (xu1 a q c hi.2)) (xdq E hy hs.2) hi.1.1 hi.1.2 rfl) n
theorem xuw{e:TypeId}{j:Int}(hx:evS l x=some ([],v))(hy:evS l y=some ([],.int .i64 j))(o:OwnS T w v es Y)(h0:0<=j)(hj:j.toNat<es.length)[f:SlcC X.P t e][sz:SizeC X.P e w](n:RO X k ops rest (ent d none (.pointer (some ((adrV v).add (j.toNat*w)))) l) p LL):
 RO X k ops (⟨d,.indexAddr t x y,ty,pos,aft,none⟩::rest) l p LL:=by
 have e:j=((j.toNat:Nat):Int):=om
 exact xdx (g:=none) rfl rfl (fun _ _ E _=>xmc o f.h sz.h (xdq E hx trivial) ((xdq E hy trivial).trans (by rw[<- e])) hj) n
end
def clo(ops:List Oper):List (List Nat):=ops.foldl (fun acc o=>acc++[(preds o++(preds o).flatMap fun k=>acc.getD k []).eraseDups]) []
section
variable{X:Cx}{k:List Item}{ops rest:List Oper}{m:Ks}{l:Env}{p:PHeap}{LF LL LR L3:List Pcs}{effs todo:List Nat}
theorem xjx{id:Nat}(effs order:List Nat)(D:DE X k ops (.drop order.length) p LL effs order l [])(hmix:X.P.follows .mixedOrders=true:=by kernel_rfl)(ok:okD X.n ops=true:=by rfl)
 (hst:stable ops order.length (clo ops)=true:=by kernel_rfl)(hm:Nat.ble order.length ops.length=true:=by kernel_rfl)(hord:ordOk ops (clo ops) effs [] order=true:=by kernel_rfl)(hall:((List.range order.length).all fun i=>order.contains i)=true:=by kernel_rfl)(hlt:(order.all fun i=>Nat.blt i order.length)=true:=by kernel_rfl):
 RE X (.code (.region id ops.toArray true)::k) l p LL:=xn4 order.length (clo ops) effs order hmix ok D.run hst hm hord hall hlt
theorem xgb{id:Nat}(effs order:List Nat)(b:Nat){o:Obj}[i:Bx LL b o LR](D:DE X k ops (.drop order.length) p LR effs order l [[(b,o)]])(hmix:X.P.follows .mixedOrders=true:=by kernel_rfl)(ok:okD X.n ops=true:=by rfl)
 (hst:stable ops order.length (clo ops)=true:=by kernel_rfl)(hm:Nat.ble order.length ops.length=true:=by kernel_rfl)(hord:ordOk ops (clo ops) effs [] order=true:=by kernel_rfl)(hall:((List.range order.length).all fun i=>order.contains i)=true:=by kernel_rfl)(hlt:(order.all fun i=>Nat.blt i order.length)=true:=by kernel_rfl):
 RE X (.code (.region id ops.toArray true)::k) l p LL:=yzw order.length (clo ops) effs order b D hmix ok hst hm hord hall hlt
theorem xp4{id:Nat}(effs order:List Nat)(Y:Pcs)[i:Rm LL Y LR](D:DE X k ops (.drop order.length) p LR effs order l [Y])(hmix:X.P.follows .mixedOrders=true:=by kernel_rfl)(ok:okD X.n ops=true:=by rfl)
 (hst:stable ops order.length (clo ops)=true:=by kernel_rfl)(hm:Nat.ble order.length ops.length=true:=by kernel_rfl)(hord:ordOk ops (clo ops) effs [] order=true:=by kernel_rfl)(hall:((List.range order.length).all fun i=>order.contains i)=true:=by kernel_rfl)(hlt:(order.all fun i=>Nat.blt i order.length)=true:=by kernel_rfl):
 RE X (.code (.region id ops.toArray true)::k) l p LL:=xo4 order.length (clo ops) effs order Y D hmix ok hst hm hord hall hlt
end
abbrev R4:List Nat:=[0,1,2,3]
abbrev R5:List Nat:=[0,1,2,3,4]
abbrev R6:List Nat:=[0,1,2,3,4,5]
abbrev R7:List Nat:=[0,1,2,3,4,5,6]
abbrev R8:List Nat:=[0,1,2,3,4,5,6,7]
abbrev R9:List Nat:=[0,1,2,3,4,5,6,7,8]
abbrev R10:List Nat:=[0,1,2,3,4,5,6,7,8,9]
abbrev R11:List Nat:=[0,1,2,3,4,5,6,7,8,9,10]
abbrev R12:List Nat:=[0,1,2,3,4,5,6,7,8,9,10,11]
abbrev R13:List Nat:=[0,1,2,3,4,5,6,7,8,9,10,11,12]
abbrev R14:List Nat:=[0,1,2,3,4,5,6,7,8,9,10,11,12,13]
abbrev R15:List Nat:=[0,1,2,3,4,5,6,7,8,9,10,11,12,13,14]
abbrev R16:List Nat:=[0,1,2,3,4,5,6,7,8,9,10,11,12,13,14,15]
abbrev R17:List Nat:=[0,1,2,3,4,5,6,7,8,9,10,11,12,13,14,15,16]
abbrev R18:List Nat:=[0,1,2,3,4,5,6,7,8,9,10,11,12,13,14,15,16,17]
abbrev R19:List Nat:=[0,1,2,3,4,5,6,7,8,9,10,11,12,13,14,15,16,17,18]
abbrev R20:List Nat:=[0,1,2,3,4,5,6,7,8,9,10,11,12,13,14,15,16,17,18,19]
abbrev R21:List Nat:=[0,1,2,3,4,5,6,7,8,9,10,11,12,13,14,15,16,17,18,19,20]
abbrev R23:List Nat:=[0,1,2,3,4,5,6,7,8,9,10,11,12,13,14,15,16,17,18,19,20,21,22]
theorem OwnS.stN{T:TypeId}{w:Nat}{v:Value}{es:List (List Value)}{X:Pcs}{i j:Nat}{e vs:List Value}(o:OwnS T w v es X)(hi:es[i]?=some e)(hj:j+vs.length<=e.length):
 ∃b cs off,X=[(b,.cells (List.toArray cs) T (0,0))]/\((adrV v).add (i*w)).add j=⟨b,off,none⟩/\off+vs.length<=cs.length/\OwnS T w v (es.set i (setl e j vs)) [(b,.cells (setl cs off vs).toArray T (0,0))]:=by
 have hil:=(List.getElem?_eq_some_iff.1 hi).1
 obtain⟨b,cs',cap,rs,e1,e2,e3,e4,ec⟩:=o.has hil
 have he:e.length=w:=o.1 e (List.mem_of_getElem? hi)
 have hfl:es.flatten.length=es.length*w:=xmq o.1
 have hmul:(i+1)*w<=es.length*w:=Nat.mul_le_mul_right _ hil
 rw[Nat.add_mul,Nat.one_mul]at hmul
 subst e1;subst e2
 have e5:setl cs' (i*w+j) vs=(es.set i (setl e j vs)).flatten++rs:=by
  rw[e3,<- xxb o.1 hi hj]
  have:∀(vs l:List Value)(m:Nat),m+vs.length<=l.length->setl (l++rs) m vs=setl l m vs++rs:=by
   intro vs
   induction vs with
   |nil=>intro l m _;rfl
   |cons v vs ih=>
     intro l m hl
     simp only[List.length_cons]at hl
     simp only[setl]
     rw[List.set_append_left _ _ om,ih _ _ (by simp;omega)]
  exact this vs _ _ om
 refine⟨b,cs',i*w+j,rfl,by simp only[adrV];rw[xrx,xrx,Nat.zero_add],by rw[e3,List.length_append];omega,fun z hz=>?_,.inr ⟨b,setl cs' (i*w+j) vs,cap,rs,by simp,rfl,e5,by rw[xyx];exact e4,ec⟩⟩
 rcases List.mem_or_eq_of_mem_set hz with h|h
 ·exact o.1 z h
 ·subst h;rw[xyx];exact he
section
variable{X:Cx}{k:List Item}{ops rest:List Oper}{m:Ks}{l:Env}{p:PHeap}{LF LL LR L3:List Pcs}{effs todo:List Nat}{d:Option Tmp}{op:Op}{ty:TypeId}{pos:String}{aft:Array Edge}{gd:Option (Nat×Bool)}{g:Option Bool}{ss ss':List Prop}{x y:Operand}{i:Nat}{v:Value}{T T' t:TypeId}{w:Nat}{es:List (List Value)}{Y:Pcs}
theorem yrk(ho:ops[i]?=some ⟨d,op,ty,pos,aft,gd⟩)(hg:gdc ops l gd=some g)(hd:noDefer op=true)(hx:cimp g (∀tm h,EnvOk tm l->St X.h₀ X.B₀ p h (LF.flatten++LL.flatten)->Exd X.P tm ⟨d,op,ty,pos,aft,gd⟩ h v))
 (n:DE X k ops m p LF effs todo (ent d g v l) LL)(hb:pinB ops effs todo i=true):DE X k ops m p LF effs (i::todo) l LL:=⟨.pin ho (yal hb) (fun tm _ E C=>⟨hd,by
  have sb:∀{h},St X.h₀ X.B₀ p h (LF.flatten++(LL.flatten++C))->St X.h₀ X.B₀ p h (LF.flatten++LL.flatten):=fun y=>y.sub (List.Sublist.append_left (List.sublist_append_left _ _) _)
  rcases xnv (o:=⟨d,op,ty,pos,aft,gd⟩) E hg with⟨rfl,hm⟩|⟨c,rfl,hm⟩
  ·exact .inl ⟨hm,xbl fun h y=>hx tm h E (sb y)⟩
  ·cases c with
   |true=>exact .inl ⟨hm,xbl fun h y=>hx rfl tm h E (sb y)⟩
   |false=>exact .inr ⟨hm,rfl⟩⟩) n.run⟩
theorem xb3{j q:Nat}{e:List Value}{u:Value}{a:Addr}(ho:ops[i]?=some ⟨d,.load t x,ty,pos,aft,gd⟩)(hg:gdc ops l gd=some g)(hx:evS l x=some (ss,.pointer (some a)))(hs:cimp g (AllP ss))(o:OwnS T w v es Y)(ha:((adrV v).add (j*w)).add q=a)(hj:es[j]?=some e)(hq:e[q]?=some u)
 [ag:AggC X.P t false][ii:Rm LL Y LR](n:DE X k ops m p LF effs todo (ent d g u l) LL)(hb:pinB ops effs todo i=true:=by kernel_rfl):DE X k ops m p LF effs (i::todo) l LL:=
 yrk ho hg rfl (xsq hs fun hs _ h E s=>xvf ag.h (xdq E hx hs) (by
  subst ha
  exact xhf (L:=LR.flatten++LF.flatten) o (s.perm ((List.perm_append_comm.trans (List.Perm.append_right _ ii.h)).trans (by rw[List.append_assoc]))) hj hq)) n hb
theorem ybg{i' j nsz:Nat}{e vs:List Value}{u:Value}{a:Addr}(ho:ops[i]?=some ⟨none,.store T' x y,ty,pos,aft,none⟩)(hx:evS l x=some ([],.pointer (some a)))(hy:evS l y=some ([],u))(o:OwnS T w v es Y)(ha:((adrV v).add (i'*w)).add j=a)(hu:u.cells=vs.toArray)(hn:vs.length=nsz)(h1:vs.all isOne=true)(hi:es[i']?=some e)(hj:j+vs.length<=e.length)
 [sz:SizeC X.P T' nsz][ii:Rm LL Y LR](nx:∀Y',OwnS T w v (es.set i' (setl e j vs)) Y'->DE X k ops m p LF effs todo l (Y'::LR))(he:effs.contains i=true:=by rfl):DE X k ops m p LF effs (i::todo) l LL:=
 ⟨.eff (U:=Y) (LR:=LR) (Q:=fun _ Y'=>OwnS T w v (es.set i' (setl e j vs)) Y') ho (by simpa using he) ii.h (fun tm _ E=>⟨rfl,xoq rfl,fun C h s=>.inl (by
  obtain⟨b,cs,off,e1,e2,e3,o'⟩:=o.stN hi hj
  subst e1
  unfold Exv
  simp only[execOp,xdq E hx trivial,xdq E hy trivial]
  rw[<- ha,e2]
  refine xbq ?_
  unfold Instr.storeAt
  refine xbq (xcq ?_)
  unfold storeVar
  refine xbq (xwq sz.h ?_)
  rw[if_neg (by rw[hu];simpa using hn),hu]
  refine xmz (i:=0) s rfl (by simpa using e3) (fun z hz=>List.all_eq_true.1 h1 z hz) fun h' s'=>?_
  refine xcq ⟨_,.inr ⟨rfl,rfl⟩,_,o',?_⟩
  rw[Nat.add_zero]at s'
  exact s')⟩) fun v' Y' o'=>(nx Y' o').run⟩
end
section
variable{X:Cx}{k:List Item}{ops rest:List Oper}{l:Env}{p:PHeap}{LL LR L3:List Pcs}{d:Option Tmp}{ty:TypeId}{pos:String}{aft:Array Edge}{x:Operand}{fv:Value}{Y Z:Pcs}
theorem xyl{args:List Operand}{ats:Array TypeId}{ff:FuncId}{first cap vs:List Value}{Q:Value->Pcs->Prop}(Y:Pcs)[i:Rm LL Y LR](hx:evS l x=some ([],.func (.func ff) first.toArray cap.toArray))(hvs:evsS l args=some ([],vs))
 (hc:∀h C,St X.h₀ X.B₀ p h (Y++C)->CallsX X.P X.md ff (first++(vs++cap)).toArray h fun v h'=>∃Y',Q v Y'/\St X.h₀ X.B₀ p h' (Y'++C))(n:∀v Y',Q v Y'->RO X k ops rest (ent d none v l) p (Y'::LR))(hf:callable X.P ff=true:=by kernel_rfl):
 RO X k ops (⟨d,.call ⟨.value x,args.toArray,ats⟩,ty,pos,aft,none⟩::rest) l p LL:=⟨fun ok tm ht E=>
 xvw (R:=fun v h=>∃Y',Q v Y'/\St X.h₀ X.B₀ p h (Y'++LR.flatten)) (xoq rfl) (xdq E hx trivial) (by rw[xlx E hvs trivial]) hf (fun h s=>hc h _ (s.rm i))
  fun v=>xwj fun Y'=>xgz fun q=>(n v Y' q).run (xhq ok).1 _ (putl_len.trans ht) (E.ent (g:=none) ht (xhq ok).2)⟩
theorem yjf{args:List Operand}{ats:Array TypeId}{vs:List Value}{Q:Value->Pcs->Prop}(Y:Pcs)[i:Rm LL Y LR](hx:evS l x=some ([],fv))(hvs:evsS l args=some ([],vs))
 (hc:∀h C,St X.h₀ X.B₀ p h (Y++C)->CallV X.P X.md fv vs h fun v h'=>∃Y',Q v Y'/\St X.h₀ X.B₀ p h' (Y'++C))(n:∀v Y',Q v Y'->RO X k ops rest (ent d none v l) p (Y'::LR)):
 RO X k ops (⟨d,.call ⟨.value x,args.toArray,ats⟩,ty,pos,aft,none⟩::rest) l p LL:=⟨fun ok _ ht E=>
 xdf (R:=fun v h=>∃Y',Q v Y'/\St X.h₀ X.B₀ p h (Y'++LR.flatten)) (xoq rfl) (xdq E hx trivial) (xlx E hvs trivial) (fun h s=>hc h _ (s.rm i))
  fun v=>xwj fun Y'=>xgz fun q=>(n v Y' q).run (xhq ok).1 _ (putl_len.trans ht) (E.ent (g:=none) ht (xhq ok).2)⟩
theorem ymr{h₀ h:Heap}[i:Rm LL Y LR][j:Rm LR Z L3](s:St h₀ [] p h LL.flatten):New h₀ h (Y++Z):=
 (((s.rm i).perm (List.Perm.append_left Y j.h)).sub (by rw[<- List.append_assoc];exact List.sublist_append_left _ _)).new
end
theorem xcj{P:Program}{md:Md}{f:FuncId}{fn:Func}{c:Code}{args:List Value}{R:Value->Heap->Prop}{h h₀:Heap}{B₀:List Nat}{p:PHeap}{Y C:Pcs}(s:St h₀ B₀ p h (Y++C))(hf:P.funcs[f]?=some fn)
 (x:∀(c₀:Frame)(cs:List Frame)(Stop:Goroutine->Heap->Prop),(∀v h',R v h'->Reach P md (G (c₀.finish v) cs) h' Stop)->RE ⟨P,md,f,.none,fn.ntmps,[],c₀::cs,Stop,h₀,B₀⟩ [.code c] (envOf 0 args) p [Y,C])
 (hbd:fn.body=some c:=by rfl)(hn:Nat.ble args.length fn.ntmps=true:=by rfl):CallsX P md f args.toArray h R:=
 xqd (Φ:=fun h'=>St h₀ B₀ p h' [Y,C].flatten) hf hbd rfl (fun c₀ cs Stop K=>(x c₀ cs Stop K).run _ (by have:=Nat.le_of_ble_eq_true hn;simp;omega) fun i g v hl=>by
  obtain⟨rfl,m,rfl,hm⟩:=xnc hl
  rw[Nat.zero_add,List.getElem?_append_left (by simpa using(List.getElem?_eq_some_iff.1 hm).1)]
  simpa[cv]using hm) (by simpa using s)
theorem xwg{h₀ h:Heap}{B₀:List Nat}{p:PHeap}{LL LR L3:List Pcs}{Y C:Pcs}[i:Rm LL Y LR][j:Rm LR C L3](s:St h₀ B₀ p h LL.flatten):St h₀ B₀ p h (Y++C):=
 ((s.rm i).perm (List.Perm.append_left Y j.h)).sub (by rw[<- List.append_assoc];exact List.sublist_append_left _ _)
theorem xox{a:Addr}{j w:Nat}:(a.add (j*w)).add 0=a.add (j*w):=by unfold Addr.add;cases a.spot<;>rfl
theorem xtb{P:Program}{md:Md}{f:FuncId}{nn:Nat}{c₀:Frame}{cs:List Frame}{Stop:Goroutine->Heap->Prop}{h₀:Heap}{B₀:List Nat}{fn:Func}{p:PHeap}{LL:List Pcs}{l:Env}(hf:P.funcs[f]?=some fn)(hr:fn.results=#[])
 (x:∀h,St h₀ B₀ p h LL.flatten->Reach P md (G (c₀.finish (.tuple #[])) cs) h Stop):RE ⟨P,md,f,.none,nn,[],c₀::cs,Stop,h₀,B₀⟩ [] l p LL:=
 ⟨fun _ _ _=>yrl (rs:=[]) (vs:=[]) hf hr (fun _ _=>rfl) rfl x⟩
section
variable{X:Cx}{k:List Item}{ops rest:List Oper}{m:Ks}{l:Env}{p:PHeap}{LF LL LR L3:List Pcs}{effs todo:List Nat}{d:Option Tmp}{op:Op}{ty:TypeId}{pos:String}{aft:Array Edge}{gd:Option (Nat×Bool)}{g:Option Bool}{ss ss':List Prop}{x y:Operand}{i:Nat}{v fv:Value}{T T' t:TypeId}{w:Nat}{es:List (List Value)}{Y:Pcs}
theorem xel{e:TypeId}{z:Int}(ho:ops[i]?=some ⟨d,.indexAddr t x y,ty,pos,aft,gd⟩)(hg:gdc ops l gd=some g)(hx:evS l x=some (ss,v))(hy:evS l y=some (ss',.int .i64 z))(hs:cimp g (AllP ss))(hs':cimp g (AllP ss'))(o:OwnS T w v es Y)(hj:cimp g (0<=z/\z.toNat<es.length))
 [f:SlcC X.P t e][sz:SizeC X.P e w](n:DE X k ops m p LF effs todo (ent d g (.pointer (some ((adrV v).add (z.toNat*w)))) l) LL):DE X k ops m p LF effs (i::todo) l LL:=
 xwz ho hg rfl (xoz hj (xoz hs hs' And.intro) fun hj hs _ _ _ E _=>xu2 o f.h sz.h (xdq E hx hs.1) (xdq E hy hs.2) hj.1 hj.2) n
theorem ysq{args:List Operand}{ats:Array TypeId}{vs:List Value}(hg:gdc ops l gd=some g)(hx:evS l x=some (ss',fv))(hx':cimp g (AllP ss'))(hvs:evsS l args=some (ss,vs))(hs:cimp g (AllP ss))(hc:cimp g (∀h,Per p h->CallV X.P X.md fv vs h fun v' h'=>v'=v/\Keep h h'))(n:RO X k ops rest (ent d g v l) p LL):
 RO X k ops (⟨d,.call ⟨.value x,args.toArray,ats⟩,ty,pos,aft,gd⟩::rest) l p LL:=by
 constructor
 intro ok tm ht E
 have ok':=xhq ok
 have go:∀u,u=cv g v->RL X.P X.md X.f X.r X.df k X.cs X.Stop ops rest (putl tm d u) (fun h=>St X.h₀ X.B₀ p h LL.flatten):=fun u e=>by
  subst e;exact n.run ok'.1 _ (putl_len.trans ht) (E.ent ht ok'.2)
 have cal:Met ops tm ⟨d,.call ⟨.value x,args.toArray,ats⟩,ty,pos,aft,gd⟩ true->AllP ss'->AllP ss->(∀h,Per p h->CallV X.P X.md fv vs h fun v' h'=>v'=v/\Keep h h')->v=cv g v->
  RL X.P X.md X.f X.r X.df k X.cs X.Stop ops (⟨d,.call ⟨.value x,args.toArray,ats⟩,ty,pos,aft,gd⟩::rest) tm (fun h=>St X.h₀ X.B₀ p h LL.flatten):=fun hm hx' hs hc e=>
  xzt hm (xdq E hx hx') (xlx E hvs hs) (fun h s=>hc h fun b o e=>s.per b o e) rfl (go _ e)
 rcases xnv (o:=⟨d,.call ⟨.value x,args.toArray,ats⟩,ty,pos,aft,gd⟩) E hg with⟨rfl,hm⟩|⟨c,rfl,hm⟩
 ·exact cal hm hx' hs hc rfl
 ·cases c with
  |true=>exact cal hm (hx' rfl) (hs rfl) (hc rfl) rfl
  |false=>exact xid hm rfl (go _ rfl)
end
section
variable{X:Cx}{k:List Item}{ops rest:List Oper}{m:Ks}{l:Env}{p:PHeap}{LF LL LR L3:List Pcs}{effs todo:List Nat}{d:Option Tmp}{ty:TypeId}{pos:String}{aft:Array Edge}{gd:Option (Nat×Bool)}{ss ss':List Prop}{x:Operand}{i:Nat}{v fv:Value}
theorem xlr{args:List Operand}{ats:Array TypeId}{vs:List Value}{c:Bool}{Q:Pcs->Prop}(Y:Pcs)[i:Rm LL Y LR](hg:gdc ops l gd=some (some c))(hx:evS l x=some (ss',fv))(hx':cimp (some c) (AllP ss'))(hvs:evsS l args=some (ss,vs))(hs:cimp (some c) (AllP ss))
 (hc:c=true-> ∀h C,St X.h₀ X.B₀ p h (Y++C)->CallV X.P X.md fv vs h fun v' h'=>∃Y',(v'=v/\Q Y')/\St X.h₀ X.B₀ p h' (Y'++C))(n:∀Y',(c=true->Q Y')->(c=false->Y'=Y)->RO X k ops rest (ent d (some c) v l) p (Y'::LR)):
 RO X k ops (⟨d,.call ⟨.value x,args.toArray,ats⟩,ty,pos,aft,gd⟩::rest) l p LL:=by
 constructor
 intro ok tm ht E
 have ok':=xhq ok
 rcases xnv (o:=⟨d,.call ⟨.value x,args.toArray,ats⟩,ty,pos,aft,gd⟩) E hg with⟨e,_⟩|⟨c',e,hm⟩
 ·cases e
 ·cases e
  cases c with
  |true=>
    refine xdf (R:=fun v' h=>∃Y',(v'=v/\Q Y')/\St X.h₀ X.B₀ p h (Y'++LR.flatten)) hm (xdq E hx (hx' rfl)) (xlx E hvs (hs rfl)) (fun h s=>hc rfl h _ (s.rm i)) fun v'=>xwj fun Y'=>xgz fun⟨e,q⟩=>?_
    subst e
    exact(n Y' (fun _=>q) (fun z=>by cases z)).run ok'.1 _ (putl_len.trans ht) (E.ent (g:=some true) ht ok'.2)
  |false=>
    refine xc2 (xid hm rfl ((n Y (fun z=>by cases z) (fun _=>rfl)).run ok'.1 _ (putl_len.trans ht) (E.ent (g:=some false) (v:=v) ht ok'.2))) fun _ s=>s.rm i
theorem yvm{args:List Operand}{ats:Array TypeId}{vs:List Value}{c:Bool}{Q:Pcs->Prop}(Y:Pcs)[ii:Rm LL Y LR](ho:ops[i]?=some ⟨d,.call ⟨.value x,args.toArray,ats⟩,ty,pos,aft,gd⟩)(hg:gdc ops l gd=some (some c))(hx:evS l x=some (ss',fv))(hx':cimp (some c) (AllP ss'))(hvs:evsS l args=some (ss,vs))(hs:cimp (some c) (AllP ss))
 (hc:c=true-> ∀h C,St X.h₀ X.B₀ p h (Y++C)->CallV X.P X.md fv vs h fun v' h'=>∃Y',(v'=v/\Q Y')/\St X.h₀ X.B₀ p h' (Y'++C))(n:∀Y',(c=true->Q Y')->(c=false->Y'=Y)->DE X k ops m p LF effs todo (ent d (some c) v l) (Y'::LR))(he:effs.contains i=true:=by rfl):
 DE X k ops m p LF effs (i::todo) l LL:=
 ⟨.effG (U:=Y) (g:=some c) (Q:=fun u x=>u=v/\(c=true->Q x)/\(c=false->x=Y)) ho (by simpa using he) ii.h (fun tm _ E=>⟨rfl,by
  rcases xnv (o:=⟨d,.call ⟨.value x,args.toArray,ats⟩,ty,pos,aft,gd⟩) E hg with⟨e,_⟩|⟨c',e,hm⟩
  ·cases e
  ·cases e
   cases c with
   |true=>
     refine .inl ⟨hm,fun C h s=>.inr (.inr fun c cs Stop z=>?_)⟩
     simp only[execOp,resolve,xdq E hx (hx' rfl),List.map_toArray,xlx E hvs (hs rfl)]
     exact hc rfl h _ s c cs Stop fun v' h'⟨Y',⟨e,q⟩,s'⟩=>z v' h' ⟨v,Y',e,⟨rfl,fun _=>q,fun z=>by cases z⟩,s'⟩
   |false=>exact .inr ⟨hm,v,rfl,rfl,(fun z=>by cases z),fun _=>rfl⟩⟩) fun u x⟨e,q1,q2⟩=>by subst e;exact(n x q1 q2).run⟩
end
def envF(ops:List Oper)(val:Nat->Value):Nat->Env->Env
 |0,l=>l
 |m+1,l=>ent ((ops[m]?).bind (·.dst)) none (val m) (envF ops val m l)
theorem xx2{ops:List Oper}{val:Nat->Value}{tm:List Value}{l:Env}{n:Nat}(E:EnvOk tm l)(hn:tm.length=n)(hd:okD n ops=true):∀m,EnvOk (fills ops val m tm) (envF ops val m l)
 |0=>E
 |m+1=>by
   refine(xx2 E hn hd m).ent (g:=none) (n:=n) (by rw[xsk,hn]) fun i hi=>?_
   cases ho:ops[m]? with
   |none=>rw[ho]at hi;cases hi
   |some o=>
     rw[ho]at hi
     have:∀{os:List Oper},okD n os=true-> ∀o∈os,∀d,o.dst=some d->d<n:=fun{os}=>by
      induction os with
      |nil=>intro _ o ho;simp at ho
      |cons o os ih=>
        intro h o' ho' d hd
        rcases List.mem_cons.1 ho' with rfl|ho'
        ·exact(xhq h).2 d hd
        ·exact ih (xhq h).1 o' ho' d hd
     exact this hd o (List.mem_of_getElem? ho) i hi
def MixO(X:Cx)(k:List Item)(ops:List Oper)(M:Nat)(l:Env)(p:PHeap)(LL:List Pcs)(effs:List Nat)(use anc:Nat->List Nat)(Q:Nat->(Nat->Value)->(Nat->Pcs)->Value->Pcs->Prop)(i:Nat):Prop:=
 ∀val piece,(∀j,(anc i).contains j=true->Qr anc Q val piece j (val j) (piece j))->
  DE X k ops (.to fun l' LL'=>(∃v,l'=ent ((ops[i]?).bind (·.dst)) none v (envF ops val M l))/\ ∀v,l'=ent ((ops[i]?).bind (·.dst)) none v (envF ops val M l)->Qr anc Q val piece i v LL'.flatten) p LL effs [i] (envF ops val M l) ((use i).map piece)
theorem yck{d:Tmp}{g:Option Bool}{u v:Value}{l:Env}(h:ent (some d) g u l=ent (some d) none v l):g=none/\u=v:=by
 simp only[ent,List.cons.injEq,Prod.mk.injEq,true_and,and_true]at h
 exact h
def noGd(ops:List Oper)(m:Nat):Bool:=(ops.take m).all fun o=>o.guard.isNone&&noDefer o.op
theorem yes{P:Program}{md:Md}{ops:List Oper}{n:Nat}{h₀:Heap}{B₀:List Nat}{p:PHeap}{LF:Pcs}{effs:List Nat}{i:Nat}{l:Env}{L0:List Pcs}{o:Oper}{R:Value->Pcs->Prop}(ho:ops[i]?=some o)(hg:o.guard=none)
 (D:DR P md ops n h₀ B₀ p LF effs (fun l' LL'=>(∃v,l'=ent o.dst none v l)/\ ∀v,l'=ent o.dst none v l->R v LL'.flatten) [i] l L0){tm:List Value}(ht:tm.length=n)(E:EnvOk tm l)(C:Pcs)(h:Heap)(s:St h₀ B₀ p h (L0.flatten++(LF++C))):
 EffTo P md tm o h fun v h'=>∃x,R v x/\St h₀ B₀ p h' (x++(LF++C)):=by
 have mt:∀{tm},¬ Met ops tm o false:=fun z=>by unfold Met at z;rw[hg]at z;cases z
 have inj:∀{g u}{LL':List Pcs},((∃v,ent o.dst g u l=ent o.dst none v l)/\ ∀v,ent o.dst g u l=ent o.dst none v l->R v LL'.flatten)->R (cv g u) LL'.flatten:=fun{g u LL'}⟨⟨v,e⟩,k⟩=>by
  cases hd:o.dst with
  |none=>rw[hd]at k;exact k _ rfl
  |some d=>rw[hd]at e k;obtain⟨rfl,rfl⟩:=yck e;exact k _ rfl
 have val:∀{u},R u L0.flatten->OpTo P md tm o (fun h=>St h₀ B₀ p h (LF++(L0.flatten++C))) u->EffTo P md tm o h fun v h'=>∃x,R v x/\St h₀ B₀ p h' (x++(LF++C)):=fun{u}hR hop=>by
  have back:∀{h'},St h₀ B₀ p h' (LF++(L0.flatten++C))->St h₀ B₀ p h' (L0.flatten++(LF++C)):=fun y=>y.perm (List.perm_append_comm_assoc _ _ _)
  rcases hop h (s.perm (List.perm_append_comm_assoc _ _ _))with y|⟨g,args,y,z⟩|y
  ·exact .inl (xfx y fun _ _⟨v',e,e2,s'⟩=>⟨v',.inl e,_,e2 ▸ hR,back s'⟩)
  ·exact .inr (.inl ⟨g,args,y,z.mono fun v' h'⟨e,s'⟩=>⟨_,e ▸ hR,back s'⟩⟩)
  ·exact .inr (.inr fun c cs Stop z=>y c cs Stop fun v' h'⟨e,s'⟩=>z v' h' ⟨_,e ▸ hR,back s'⟩)
 cases D with
 |det ho' hh nx=>
   rw[ho]at ho';cases ho'
   cases nx with
   |nil kk=>
     obtain⟨_,⟨_,hop⟩|⟨hm,_⟩⟩:=hh tm ht E
     ·exact val (inj kk) (hop _)
     ·exact absurd hm mt
 |pin ho' _ hh nx=>
   rw[ho]at ho';cases ho'
   cases nx with
   |nil kk=>
     obtain⟨_,⟨_,hop⟩|⟨hm,_⟩⟩:=hh tm ht E C
     ·exact val (inj kk) hop
     ·exact absurd hm mt
 |@effG _ _ _ _ _ LR U g Q ho' _ hr hh nx=>
   rw[ho]at ho';cases ho'
   obtain⟨_,⟨_,he⟩|⟨hm,_⟩⟩:=hh tm ht E
   ·have per:(L0.flatten++(LF++C)).Perm (U++(LF++(LR.flatten++C))):=by
     refine(List.Perm.append_right _ hr).trans ?_
     rw[List.append_assoc]
     exact List.Perm.append_left U (List.perm_append_comm_assoc _ _ _)
    refine(he (LR.flatten++C) h (s.perm per)).mono fun v h'⟨u,x,e,q,s'⟩=>⟨(x::LR).flatten,?_,s'.perm ?_⟩
    ·subst e
     cases nx u x q with
     |nil kk=>exact inj kk
    ·rw[List.flatten_cons,List.append_assoc]
     exact List.Perm.append_left x (List.perm_append_comm_assoc _ _ _)
   ·exact absurd hm mt
theorem xf5{F:Nat->Oper->Prop}:∀{l:List Oper}{b:Nat},(∀i o,l[i]?=some o->noDefer o.op=true/\F (b+i) o)->Mixes F b l
 |[],_,_=>trivial
 |o::l,b,h=>⟨h 0 o rfl,xf5 fun i o' ho=>by have:=h (i+1) o' (by simpa using ho);rwa[Nat.add_assoc,Nat.add_comm 1 i]⟩
theorem yxf{Q:Nat->Value->Pcs->Prop}:∀{l:List Nat},(∀j∈l,∀v x,Q j v x->x=[])->Emp Q l
 |[],_=>trivial
 |j::l,h=>⟨h j (by simp),yxf fun i hi=>h i (by simp[hi])⟩
theorem xip{piece:Nat->Pcs}:∀{l:List Nat},l.flatMap piece=(l.map piece).flatten
 |[]=>rfl
 |j::l=>by simp[List.flatMap]
theorem xap{X:Cx}{k:List Item}{ops:List Oper}{l:Env}{p:PHeap}{LL:List Pcs}{id:Nat}(M:Nat)(fin emp effs:List Nat)(use anc:Nat->List Nat)(Q:Nat->(Nat->Value)->(Nat->Pcs)->Value->Pcs->Prop)
 (x:∀i,i<M->MixO X k ops M l p LL effs use anc Q i)(hemp:∀val piece,∀j∈emp,∀v x,Qr anc Q val piece j v x->x=[])(n:∀val piece,(∀j<M,Qr anc Q val piece j (val j) (piece j))->RO X k ops (ops.drop M) (envF ops val M l) p (fin.map piece++LL))
 (hmix:X.P.follows .mixedOrders=true:=by kernel_rfl)(ok:okD X.n ops=true:=by rfl)(hst:stable ops M (clo ops)=true:=by kernel_rfl)(hm:Nat.ble M ops.length=true:=by kernel_rfl)(hk:mixok ops M [] use (fin++emp)=true:=by kernel_rfl)(hemp2:(emp.all fun j=>decide (j<M))=true:=by kernel_rfl)(hanc:ancok ops M (clo ops) anc=true:=by kernel_rfl)(hng:noGd ops M=true:=by kernel_rfl):
 RE X (.code (.region id ops.toArray true)::k) l p LL:=by
 constructor
 intro tm ht E
 have hm':=Nat.le_of_ble_eq_true hm
 have okdrop:∀{os:List Oper}(j:Nat),okD X.n os=true->okD X.n (os.drop j)=true:=fun{os}=>by
  induction os with
  |nil=>intro j h;cases j<;>exact h
  |cons o os ih=>
    intro j h
    cases j with
    |zero=>exact h
    |succ j=>exact ih j (xhq h).1
 have okd:∀{os:List Oper},okD X.n os=true->(os.all fun o=>match o.dst with|some d=>decide (d<tm.length)|none=>true)=true:=fun{os}=>by
  induction os with
  |nil=>intro _;rfl
  |cons o os ih=>
    intro h
    rw[List.all_cons,ih (xhq h).1,Bool.and_true]
    split
    ·rename_i d hd
     exact decide_eq_true (ht ▸ (xhq h).2 d hd)
    ·rfl
 have:=ygj (P:=X.P) (md:=X.md) (ops:=ops) (f:=X.f) (r:=X.r) (df:=X.df) (k:=k) (cs:=X.cs) (Stop:=X.Stop) (tm:=tm) (h₀:=X.h₀) (B₀:=X.B₀) (p:=p) (A:=LL.flatten) (C:=[]) (rid:=id) M (clo ops) [] fin emp (fun _=>[]) use anc Q (fun val=>fills ops val M tm) hmix hst hm' hk hemp2 hanc (fun val piece=>yxf (hemp val piece)) (fun _=>rfl) (okd ok)
  (xf5 fun i o ho=>by
   rw[List.getElem?_take]at ho
   split at ho
   ·rename_i hi
    have hg:=List.all_eq_true.1 hng o (List.mem_of_getElem? (by rw[List.getElem?_take,if_pos hi];exact ho))
    simp only[Bool.and_eq_true,Option.isNone_iff_eq_none]at hg
    rw[Nat.zero_add]
    refine⟨hg.2,fun val piece hQ _=>.inl ⟨xoq hg.1,fun C h s=>?_⟩⟩
    have D:=(x i hi val piece hQ).run
    have hd1:(ops[i]?).bind (·.dst)=o.dst:=by rw[ho];rfl
    rw[hd1]at D
    exact yes (R:=Qr anc Q val piece i) ho hg.1 D ((xsk ops val tm M).trans ht) (xx2 E ht ok M) C h (by rw[<- xip];exact s)
   ·cases ho)
  (fun val piece hQ _=>by
   have z:=(n val piece hQ).run (okdrop M ok) _ ((xsk ops val tm M).trans ht) (xx2 E ht ok M)
   rw[List.flatten_append,<- xip]at z
   intro pre e h s
   exact z pre e h (by simpa using s))
 intro h s
 exact this h (by simpa using s)
def IterC(P:Program)(md:Md)(p:PHeap)(fv:Value)(xs:List (List Value)):Prop:=∀(h h₀:Heap)(B₀:List Nat)(p':PHeap)(X₀ C₀:Pcs)(yv:Value)(I:Nat->Pcs->Prop),PLe p p'->I 0 X₀->
 (∀i,i<xs.length-> ∀(p'':PHeap)h X C,PLe p' p''->I i X->St h₀ B₀ p'' h (X++C)->CallV P md yv (xs.getD i []) h fun v h'=>∃X',(v=.bool true/\I (i+1) X')/\St h₀ B₀ p'' h' (X'++C))->
 St h₀ B₀ p' h (X₀++C₀)->CallV P md fv [yv] h fun _ h'=>∃X',I xs.length X'/\St h₀ B₀ p' h' (X'++C₀)
def IterX(P:Program)(md:Md)(p:PHeap)(fv:Value)(xs:List (List Value)):Prop:=∀(h h₀:Heap)(B₀:List Nat)(p':PHeap)(X₀ C₀:Pcs)(yv:Value)(I:Nat->Pcs->Prop)(Ex:Pcs->Prop),PLe p p'->I 0 X₀->
 (∀i,i<xs.length-> ∀(p'':PHeap)h X C,PLe p' p''->I i X->St h₀ B₀ p'' h (X++C)->CallV P md yv (xs.getD i []) h fun v h'=>∃X',((v=.bool true/\I (i+1) X')\/(v=.bool false/\Ex X'))/\St h₀ B₀ p'' h' (X'++C))->
 St h₀ B₀ p' h (X₀++C₀)->CallV P md fv [yv] h fun _ h'=>∃X',(I xs.length X'\/Ex X')/\St h₀ B₀ p' h' (X'++C₀)
theorem IterX.c{P:Program}{md:Md}{p:PHeap}{fv:Value}{xs:List (List Value)}(x:IterX P md p fv xs):IterC P md p fv xs:=fun h h₀ B₀ p' X₀ C₀ yv I le h0 hy s=>
 (x h h₀ B₀ p' X₀ C₀ yv I (fun _=>False) le h0 (fun i hi p'' h X C le hI s=>(hy i hi p'' h X C le hI s).mono fun _ _⟨X',q,s'⟩=>⟨X',.inl q,s'⟩) s).mono fun _ _⟨X',q,s'⟩=>⟨X',q.elim id fun z=>z.elim,s'⟩
def zipE:List Tmp->List Value->Env->Env
 |q::qs,v::vs,l=>zipE qs vs ((q,none,v)::l)
 |_,_,l=>l
theorem xh1:∀{qs:List Tmp}{vs:List Value}{tm:List Value}{l:Env},EnvOk tm l->(∀q∈qs,q<tm.length)->EnvOk ((qs.zip vs).foldl (fun tm q=>tm.set q.1 q.2) tm) (zipE qs vs l)
 |[],vs,tm,l,E,_=>by simpa[zipE]using E
 |q::qs,[],tm,l,E,_=>by simpa[zipE]using E
 |q::qs,v::vs,tm,l,E,h=>by
   rw[List.zip_cons_cons,List.foldl_cons,zipE]
   exact xh1 (E.set (g:=none) (h q (by simp))) fun r hr=>by rw[List.length_set];exact h r (by simp[hr])
theorem xg1:∀{l:List (Nat×Value)}{tm:List Value},(l.foldl (fun tm q=>tm.set q.1 q.2) tm).length=tm.length
 |[],_=>rfl
 |q::l,tm=>by rw[List.foldl_cons,xg1,List.length_set]
section
variable{X:Cx}{k:List Item}{l:Env}{p:PHeap}{LL LR L3:List Pcs}{P:Program}{md:Md}{f:FuncId}{n:Nat}{c:Frame}{cs:List Frame}{Stop:Goroutine->Heap->Prop}{h₀:Heap}{B₀:List Nat}{lo:Nat}{lp:Loop}
theorem xrr[i:Bx LL lo (.loop lp) LR](hr:lp.state=.ready)(x:RE ⟨P,md,f,.some lo,n,[],cs,Stop,h₀,B₀⟩ k l p ([(lo,.loop {lp with state:=.busy})]::LR)):RE ⟨P,md,f,.some lo,n,[],cs,Stop,h₀,B₀⟩ (.beginRound::k) l p LL:=
 ⟨fun tm ht E=>xjg (yfc (i:=0) (L:=(lo,.loop lp)::LR.flatten) rfl hr (by have:=x.run tm ht E;simpa using this)) fun _ s=>s.bx i⟩
theorem yjx[i:Bx LL lo (.loop lp) LR](x:∀h,St h₀ B₀ p h ((lo,.loop {lp with state:=.ready,pending:=none})::LR.flatten)->Reach P md (G (c.finish (.bool true)) cs) h Stop):RE ⟨P,md,f,.some lo,n,[],c::cs,Stop,h₀,B₀⟩ [] l p LL:=
 ⟨fun _ _ _=>xjg (ypl (i:=0) (L:=(lo,.loop lp)::LR.flatten) rfl rfl (by intro h s;exact x h (by simpa using s))) fun _ s=>s.bx i⟩
theorem ywh[i:Bx LL lo (.loop lp) LR](x:∀h,St h₀ B₀ p h ((lo,.loop {lp with state:=.done,pending:=some .ret})::LR.flatten)->Reach P md (G (c.finish (.bool false)) cs) h Stop):RE ⟨P,md,f,.some lo,n,[],c::cs,Stop,h₀,B₀⟩ (.code .ret::k) l p LL:=
 ⟨fun _ _ _=>xjg (ynl (i:=0) (L:=(lo,.loop lp)::LR.flatten) rfl rfl (by intro h s;exact x h (by simpa using s))) fun _ s=>s.bx i⟩
theorem xm4{fop:Operand}{fv:Value}{params:List Tmp}{assign body:Code}{xs:List (List Value)}(J:Nat->List Pcs->Prop)(hx:evS l fop=some ([],fv))(hit:IterC X.P X.md p fv xs)(start:J 0 LL)
 (round:∀(lo:Nat)(lp:Loop)(i:Nat)(LL':List Pcs)(p':PHeap)(C:Pcs)(c:Frame)(cs:List Frame)(Stop:Goroutine->Heap->Prop),i<xs.length->PLe p p'->J i LL'->lp.state=.ready->
  (∀l'' LL'',J (i+1) LL''->RE ⟨X.P,X.md,X.f,.some lo,X.n,[],c::cs,Stop,X.h₀,X.B₀⟩ [] l'' p' ([(lo,.loop {lp with state:=.busy})]::C::LL''))->
  RE ⟨X.P,X.md,X.f,.some lo,X.n,[],c::cs,Stop,X.h₀,X.B₀⟩ [.code assign,.beginRound,.code body] (zipE params (xs.getD i []) l) p' ([(lo,.loop lp)]::C::LL'))
 (nx:∀(r:Nat)(LL':List Pcs),J xs.length LL'->RE {X with df:=mark r::X.df} k l p ([(r,.deferred (some []))]::LL'))
 (hr:X.r.round=none:=by rfl)(hlen:∀i,i<xs.length->(xs.getD i []).length=params.length)(hpl:(params.all fun q=>decide (q<X.n))=true:=by rfl):RE X (.code (.rangeFunc fop params.toArray assign body)::k) l p LL:=by
 constructor
 intro tm ht E
 have hpl':∀q∈params,q<tm.length:=fun q hq=>by have:=List.all_eq_true.1 hpl q hq;rw[ht];simpa using this
 refine xw5 (R:=fun r lo lp _ h'=>lp=loopOf X.f tm params.toArray assign body r/\ ∃LL',J xs.length LL'/\St X.h₀ X.B₀ p h' ((lo,.loop lp)::(r,.deferred (some []))::LL'.flatten)) (fun r lo lp h e s=>?_) (fun r lo lp v e=>?_) hr
 ·rw[xdq E hx trivial]
  refine(hit h X.h₀ X.B₀ p ((lo,.loop lp)::LL.flatten) [(r,.deferred (some []))] (.func (.yield lo) #[] #[]) (fun i Z=>∃LL',Z=(lo,.loop lp)::LL'.flatten/\J i LL') (.refl p) ⟨LL,rfl,start⟩ (fun i hi p'' h' Z C le⟨LL',e2,hJ⟩s'=>?_) (s.perm (by simpa using(List.perm_append_singleton (r,Obj.deferred (some [])) LL.flatten).symm))).mono fun v h'⟨Z,⟨LL',e2,hJ⟩,s'⟩=>⟨e,LL',hJ,?_⟩
  ·subst e2
   refine xan (tm':=(params.zip (xs.getD i [])).foldl (fun tm q=>tm.set q.1 q.2) tm) ((s'.own (lo,.loop lp) (by simp)).1) e (hlen i hi) rfl (Φ:=fun h=>St X.h₀ X.B₀ p'' h ([(lo,.loop lp)]::C::LL').flatten) (fun c cs Stop K=>?_) (s'.perm (by simpa using List.Perm.cons (lo,Obj.loop lp) (List.perm_append_comm (l₁:=LL'.flatten) (l₂:=C))))
   refine(round lo lp i LL' p'' C c cs Stop hi le hJ (by rw[e];rfl) fun l'' LL'' hJ'=>?_).run _ (by rw[xg1];exact ht) (xh1 E hpl')
   refine yjx (lp:={lp with state:=.busy}) fun h1 s1=>K _ _ ⟨_,⟨rfl,LL'',rfl,hJ'⟩,s1.perm ?_⟩
   have e3:({ {lp with state:=.busy}with state:=.ready,pending:=none}:Loop)=lp:=by rw[e];rfl
   rw[e3]
   simpa using List.Perm.cons (lo,Obj.loop lp) (List.perm_append_comm (l₁:=C) (l₂:=LL''.flatten))
  ·subst e2
   exact s'.perm (by simp)
 ·intro h ⟨_,LL',hJ,s⟩
  have hst:lp.state=.ready/\lp.pending=none:=by rw[e];exact⟨rfl,rfl⟩
  refine xjp (i:=0) (L:=(lo,.loop lp)::(r,.deferred (some []))::LL'.flatten) rfl (by rw[hst.1];exact fun z=>by cases z) hst.2 (xjg ((nx r LL' hJ).run tm ht E) fun h s=>?_) h s
  have:=s.sub (List.sublist_cons_self _ _)
  simpa using this
theorem yww{c:Code}{m₀:Nat}{rs₀:List Nat}(hdf:X.df=marksL rs₀)(I:Nat->List Nat->Env->PHeap->List Pcs->Prop){l':Env}(start:I m₀ rs₀ l' p LL)(s:SubE l l')
 (round:∀m rs l p LL,(∀{m'}rs' l' p' LL',m'<m->I m' rs' l' p' LL'->RE {X with df:=marksL rs' } (.inLoop c::k) l' p' LL')->I m rs l p LL->RE {X with df:=marksL rs} (.code c::.inLoop c::k) l p LL):RE X (.code (.loop c)::k) l p LL:=by
 constructor
 intro tm ht E
 rw[hdf]
 refine ybc (m₀:=m₀) (fun m rs tm' h=>∃l p LL,(tm'.length=X.n/\EnvOk tm' l/\I m rs l p LL)/\St X.h₀ X.B₀ p h LL.flatten) (fun h y=>⟨l',p,LL,⟨ht,s.ok E,start⟩,y⟩) ?_
 intro m rs tm' ih
 refine xl7 fun l1=>xl7 fun p1=>xl7 fun L1=>yaf fun⟨h1,h2,h3⟩=>?_
 exact(round m rs l1 p1 L1 (fun{m'}rs' l' p' LL' lt i=>⟨fun tm2 ht2 E2 h y=>ih m' rs' tm2 lt h ⟨l',p',LL',⟨ht2,E2,i⟩,y⟩⟩) h3).run tm' h1 h2
theorem yxh{r:Nat}{rs:List Nat}[i:Rm LL (marksP rs) LR](n:RE X k l p (marksP (r::rs)::LR)):RE X k l p ([(r,.deferred (some []))]::LL):=xhw n fun _ s=>s.perm (by simpa[marksP]using i.h)
theorem xpr{rs:List Nat}{fn:Func}{rv:List ResultVar}{vs:List Value}[i:Rm LL (marksP rs) LR](hf:P.funcs[f]?=some fn)(hr:fn.results=rv.toArray)(hv:ResE P l LR rv vs)
 (x:∀h,St h₀ B₀ p h LR.flatten->Reach P md (G (c.finish (packs vs)) cs) h Stop):RE ⟨P,md,f,.none,n,marksL rs,c::cs,Stop,h₀,B₀⟩ (.code .ret::k) l p LL:=
 ⟨fun _ _ E=>xjg (yac hf hr (fun _ s=>ybx E s hv) rfl x) fun _ s=>s.rm i⟩
end
def evqS(l:Env):List (Nat×Operand)->Option (List Prop×List (Nat×Value))
 |[]=>some ([],[])
 |(i,x)::xs=>match evS l x with
   |some (s,v)=>match evqS l xs with
     |some (ss,vs)=>some (s++ss,(i,v)::vs)
     |none=>none
   |none=>none
theorem xps{l:Env}{tm:List Value}(E:EnvOk tm l):∀{xs:List (Nat×Operand)}{ss:List Prop}{vs:List (Nat×Value)},evqS l xs=some (ss,vs)->AllP ss->(xs.map fun(i,x)=>(i,evl tm x))=vs
 |[],ss,vs,h,_=>by cases h;rfl
 |(i,x)::xs,ss,vs,h,hs=>by
   unfold evqS at h
   split at h
   ·rename_i s v e1
    split at h
    ·rename_i ss' vs' e2
     cases h
     have a:=xdb hs
     rw[List.map_cons,xps E e2 a.2];simp only[xdq E e1 a.1]
    ·cases h
   ·cases h
section
variable{X:Cx}{k:List Item}{ops rest:List Oper}{m:Ks}{l:Env}{p:PHeap}{LF LL LR L3:List Pcs}{effs todo:List Nat}{d:Option Tmp}{ty:TypeId}{pos:String}{aft:Array Edge}{gd:Option (Nat×Bool)}{g:Option Bool}{ss ss':List Prop}{x:Operand}{i:Nat}{t:TypeId}{Y Z:Pcs}
theorem ypp{parts:List (Nat×Operand)}{z:Value}{pl:List (Nat×Nat)}{cells:List Value}{vs:List (Nat×Value)}(hg:gdc ops l gd=some g)(hvs:evqS l parts=some (ss,vs))(hs:cimp g (AllP ss))[hz:ZeroC X.P t z][hp:PlC X.P t pl](n:RO X k ops rest (ent d g (.agg cells.toArray) l) p LL)
 (hf:fillT pl z.cells.toList vs=some cells:=by rfl):RO X k ops (⟨d,.build t parts.toArray,ty,pos,aft,gd⟩::rest) l p LL:=xdx hg rfl (xsq hs fun hs _ _ E _=>xwf hz.h hp.h (xps E hvs hs) (xlc hf)) n
theorem yus{parts:List (Nat×Operand)}{z:Value}{pl:List (Nat×Nat)}{cells:List Value}{vs:List (Nat×Value)}(ho:ops[i]?=some ⟨d,.build t parts.toArray,ty,pos,aft,gd⟩)(hg:gdc ops l gd=some g)(hvs:evqS l parts=some (ss,vs))(hs:cimp g (AllP ss))[hz:ZeroC X.P t z][hp:PlC X.P t pl](n:DE X k ops m p LF effs todo (ent d g (.agg cells.toArray) l) LL)
 (hf:fillT pl z.cells.toList vs=some cells:=by rfl):DE X k ops m p LF effs (i::todo) l LL:=xwz ho hg rfl (xsq hs fun hs _ _ _ E _=>xwf hz.h hp.h (xps E hvs hs) (xlc hf)) n
theorem xaf(Y Z:Pcs)[ii:Rm LL (Y++Z) LR](n:RO X k ops rest l p (Y::Z::LR)):RO X k ops rest l p LL:=xmr n fun _ s=>by have:=s.rm ii;simpa using this
theorem xwk(Y Z:Pcs)[ii:Rm LL (Y++Z) LR](n:RE X k l p (Y::Z::LR)):RE X k l p LL:=xhw n fun _ s=>by have:=s.rm ii;simpa using this
end
theorem sdu{p:Prop}(h:p:=by
 first
  |exact sdt
  |exact fun h=>⟨h,trivial⟩
  |exact fun h=>⟨h,h,trivial⟩
  |exact fun h=>⟨h,h,h,trivial⟩
  |exact fun h=>⟨h,h,h,h,trivial⟩
  |exact fun h=>⟨h,h,h,h,h,trivial⟩
  |exact fun h=>⟨h,h,h,h,h,h,trivial⟩
  |exact fun h=>by simp_all[AllP]):p:=h
section
variable{X:Cx}{k:List Item}{ops rest:List Oper}{m:Ks}{l:Env}{p:PHeap}{LF LL LR L3:List Pcs}{effs todo:List Nat}{d:Option Tmp}{ty:TypeId}{pos:String}{aft:Array Edge}{gd:Option (Nat×Bool)}{g:Option Bool}{ss:List Prop}{x:Operand}{i:Nat}{t T:TypeId}{b off nn:Nat}{cs:Array Value}{z:Nat×Nat}
theorem ygp(hg:gdc ops l gd=some g)(hx:evS l x=some (ss,.pointer (some ⟨b,off,none⟩)))(hs:cimp g (AllP ss))(hb:p b=some (.cells cs T z))[ag:AggC X.P t true][sz:SizeC X.P t nn](n:RO X k ops rest (ent d g (.agg ((cs.toList.drop off).take nn).toArray) l) p LL)
 (hn:((cs.toList.drop off).take nn).length=nn:=by rfl):RO X k ops (⟨d,.load t x,ty,pos,aft,gd⟩::rest) l p LL:=xhd hg hx hs (xpx (xsz hb)) n hn
theorem yms(ho:ops[i]?=some ⟨d,.load t x,ty,pos,aft,gd⟩)(hg:gdc ops l gd=some g)(hx:evS l x=some (ss,.pointer (some ⟨b,off,none⟩)))(hs:cimp g (AllP ss))(hb:p b=some (.cells cs T z))[ag:AggC X.P t true][sz:SizeC X.P t nn](n:DE X k ops m p LF effs todo (ent d g (.agg ((cs.toList.drop off).take nn).toArray) l) LL)
 (hn:((cs.toList.drop off).take nn).length=nn:=by rfl):DE X k ops m p LF effs (i::todo) l LL:=xbb ho hg hx hs (xpx (xsz hb)) n hn
end
theorem ax{Q K:Prop}(k:K)(h:Hid K->Q:=by
 intro k
 repeat (first
  |refine xyv rfl rfl sdt ?_
  |refine yrq ?_
  |refine yix ?_
  |refine xor ?_ rfl
  |refine xb2 rfl rfl sdt ?_
  |refine yoh rfl rfl sdt ?_
  |refine yph rfl rfl sdt ?_
  |refine xgw rfl rfl sdt (xpx (xem ‹_› rfl)) ?_
  |refine yjq rfl rfl sdt ?_
  |refine xm7 rfl rfl (by omega) (Sl.ne ‹_› (by omega)) ?_
  |refine xvk rfl (Ints.get ‹_› (by omega)) ?_
  |refine xf2 ?_
  |refine xqr ?_
  |refine xmg ?_
  |refine xh2 rfl ?_
  |refine ykq rfl rfl sdt ?_
  |refine xhd rfl rfl sdt (xpx (xsz ‹_›)) ?_
  |refine xtc rfl rfl ?_
  |refine ynh rfl rfl sdt ?_
  |refine ygq rfl rfl rfl sdt sdt ?_
  |refine yhq rfl rfl rfl sdt sdt ?_
  |refine yjh rfl rfl ?_
  |refine yvq rfl ?_
  |refine yep rfl rfl sdt ?_
  |refine xh4 rfl rfl (by decide) (by omega) (Sl.ne ‹_› (by omega)) ?_
  |refine yhf rfl rfl rfl sdt sdt ?_
  |refine ydq rfl rfl rfl sdt sdt ?_
  |refine yiq rfl rfl sdt ?_
  |refine ygp rfl rfl sdt ‹_› ?_
  |refine ypp rfl rfl sdu ?_
  |refine ygf rfl rfl rfl sdu sdu (xpx ⟨by omega,Sl.ne ‹_› (by omega)⟩) ?_
  |refine xgw rfl rfl sdt (xpx (Ints.get ‹_› (by omega))) ?_)
 exact k.out):Q:=h ⟨k⟩
theorem ex{Q K:Prop}(k:K)(h:Hid K->Q:=by
 intro k
 repeat (first
  |refine xvc rfl rfl rfl sdt ?_
  |refine ylk ?_
  |refine xwc rfl rfl rfl sdt ?_
  |refine yqk rfl rfl rfl sdt ?_
  |refine yum rfl rfl rfl sdt ?_
  |refine yok rfl rfl rfl sdt ?_
  |refine ysm rfl rfl rfl (by omega) (Sl.ne ‹_› (by omega)) ?_
  |refine xag rfl rfl (Ints.get ‹_› (by omega)) ?_
  |refine xu0 rfl rfl rfl sdt ?_
  |refine ytm rfl rfl rfl sdt ?_
  |refine xr6 rfl rfl ?_
  |refine yrm rfl rfl rfl ?_
  |refine ymk rfl rfl rfl rfl sdt sdt ?_
  |refine ypm rfl rfl rfl sdt ?_
  |refine xrp rfl rfl rfl (by decide) (by omega) (Sl.ne ‹_› (by omega)) ?_
  |refine xdj rfl rfl rfl sdt (xpx (xem ‹_› rfl)) ?_
  |refine xbb rfl rfl rfl sdt (xpx (xsz ‹_›)) ?_
  |refine ydg rfl rfl rfl rfl sdt sdt ?_
  |refine ynk rfl rfl rfl sdt ?_
  |refine yms rfl rfl rfl sdt ‹_› ?_
  |refine yus rfl rfl rfl sdu ?_
  |refine yns rfl rfl rfl rfl sdu sdu (xpx ⟨by omega,Sl.ne ‹_› (by omega)⟩) ?_
  |refine xdj rfl rfl rfl sdt (xpx (Ints.get ‹_› (by omega))) ?_
  |refine xuh rfl rfl rfl ?_)
 exact k.out):Q:=h ⟨k⟩
section
variable{X:Cx}{k:List Item}{ops rest:List Oper}{m:Ks}{l:Env}{p:PHeap}{LF LL LR L3:List Pcs}{effs todo:List Nat}{ty:TypeId}{pos:String}{aft:Array Edge}{x y:Operand}{i:Nat}
theorem yqm{dd:Nat}{sT eT:TypeId}{n w by':Nat}{z:Value}{zc:List Value}(ho:ops[i]?=some ⟨some dd,.makeSlice sT x y,ty,pos,aft,none⟩)(hx:evS l x=some ([],.int .i64 ((n:Nat):Int)))(hy:evS l y=some ([],.int .i64 ((n:Nat):Int)))(hn:n<=1000)[hT:SlcC X.P sT eT][hs:SizeC X.P eT w][hz:ZeroC X.P eT z][hb:ByC X.P eT by']
 (nx:∀v Y,OwnS eT w v (List.replicate n zc) Y->DE X k ops m p LF effs todo ((dd,none,v)::l) (Y::LL))(he:effs.contains i=true:=by rfl)(hzs:z.cells=zc.toArray:=by rfl)(hzl:zc.length=w:=by rfl)(hw:0<w/\w<=100:=by decide)(hb2:by'<=2^20:=by decide):DE X k ops m p LF effs (i::todo) l LL:=
 ⟨.eff (U:=[]) (LR:=LL) (Q:=fun v Y=>OwnS eT w v (List.replicate n zc) Y) ho (by simpa using he) (List.Perm.refl _) (fun _ _ E=>⟨rfl,xoq rfl,fun C h s=>.inl (xfx (xi6 (dd:=some dd) (ty:=ty) (pos:=pos) (aft:=aft) (gd:=none) hT.h hs.h hz.h hzs hzl hw.1 hw.2 hb.h (xdq E hx trivial) (xdq E hy trivial) hn hb2 s) fun _ _⟨v,e,z⟩=>⟨v,.inl e,z⟩)⟩) fun v Y o=>(nx v Y o).run⟩
theorem xzd{l':Env}(n:RO X k ops rest l' p LL)(s:SubE l l'):RO X k ops rest l p LL:=⟨fun ok tm ht E=>n.run ok tm ht (s.ok E)⟩
theorem xrq{d:Tmp}{u v:Value}{l:Env}(h:(d,none,u)::l=ent (some d) none v l):v=u:=((yck (g:=none) h).2).symm
theorem xwl{args:List Operand}{ats:Array TypeId}{ff:FuncId}{first cap vs:List Value}{d:Option Tmp}{Q:Value->Pcs->Prop}(hx:evS l x=some ([],.func (.func ff) first.toArray cap.toArray))(hvs:evsS l args=some ([],vs))
 (hc:∀h,St X.h₀ X.B₀ p h LL.flatten->CallsX X.P X.md ff (first++(vs++cap)).toArray h fun v' h'=>∃Y,Q v' Y/\New h h' Y)(n:∀v Y,Q v Y->RO X k ops rest (ent d none v l) p (Y::LL))(hf:callable X.P ff=true:=by kernel_rfl):
 RO X k ops (⟨d,.call ⟨.value x,args.toArray,ats⟩,ty,pos,aft,none⟩::rest) l p LL:=⟨fun ok tm ht E=>
 xvw (R:=fun v h=>∃Y,Q v Y/\St X.h₀ X.B₀ p h (Y++LL.flatten)) (xoq rfl) (xdq E hx trivial) (by rw[xlx E hvs trivial]) hf (fun h s=>(hc h s).mono fun _ _⟨Y,q,nn⟩=>⟨Y,q,s.callN nn⟩)
  fun v=>xwj fun Y=>xgz fun q=>(n v Y q).run (xhq ok).1 _ (putl_len.trans ht) (E.ent (g:=none) ht (xhq ok).2)⟩
theorem xbg{args:List Operand}{ats:Array TypeId}{ff:FuncId}{first cap vs:List Value}{d:Option Tmp}{Q:Value->Pcs->Prop}(Y:Pcs)[ii:Rm LL Y LR](ho:ops[i]?=some ⟨d,.call ⟨.value x,args.toArray,ats⟩,ty,pos,aft,none⟩)
 (hx:evS l x=some ([],.func (.func ff) first.toArray cap.toArray))(hvs:evsS l args=some ([],vs))(hc:∀h L,St X.h₀ X.B₀ p h (Y++L)->CallsX X.P X.md ff (first++(vs++cap)).toArray h fun v' h'=>∃Z,Q v' Z/\New h h' Z)(n:∀v Z,Q v Z->DE X k ops m p LF effs todo (ent d none v l) (Z::LR))
 (he:effs.contains i=true:=by rfl)(hf:callable X.P ff=true:=by kernel_rfl):DE X k ops m p LF effs (i::todo) l LL:=
 ⟨.eff (U:=Y) (LR:=LR) (Q:=Q) ho (by simpa using he) ii.h (fun _ _ E=>⟨rfl,xoq rfl,fun C h s=>.inr <| .inl ⟨ff,_,xrv (xdq E hx trivial) (by rw[xlx E hvs trivial]) hf,(hc h _ s).mono fun _ _⟨Z,q,nn⟩=>⟨Z,q,(s.callN nn).sub (List.Sublist.append_left (List.sublist_append_right _ _) _)⟩⟩⟩) fun v Z q=>(n v Z q).run⟩
theorem xkv{p₀:PHeap}(le:PLe p₀ p)(n:RE X k l p₀ LL):RE X k l p LL:=xhw n fun _ s=>s.forget le
end
section
variable{X:Cx}{k:List Item}{ops rest:List Oper}{l:Env}{p:PHeap}{LL:List Pcs}{ty:TypeId}{pos:String}{aft:Array Edge}{gd:Option (Nat×Bool)}{g:Option Bool}{d:Option Tmp}{ss ss':List Prop}{x y:Operand}{T T':TypeId}{a b s:Nat}{k1 k2:IntKind}
theorem ywq(hg:gdc ops l gd=some g)(hx:evS l x=some (ss,.int .u64 ((a:Nat):Int)))(hy:evS l y=some (ss',.int .u64 ((b:Nat):Int)))(hs:cimp g (AllP ss))(hs':cimp g (AllP ss'))(h:a<18446744073709551616/\b<18446744073709551616)(n:RO X k ops rest (ent d g (.int .u64 ((a &&& b:Nat):Int)) l) p LL):
 RO X k ops (⟨d,.binOp .and T x y T',ty,pos,aft,gd⟩::rest) l p LL:=xdx hg rfl (xoz hs hs' fun hs hs' _ _ E _=>xh6 (xdq E hx hs) (xdq E hy hs') h.1 h.2) n
theorem xyn(hg:gdc ops l gd=some g)(hx:evS l x=some (ss,.int k1 ((a:Nat):Int)))(hy:evS l y=some (ss',.int k2 ((s:Nat):Int)))(hs:cimp g (AllP ss))(hs':cimp g (AllP ss'))(h:s<=k1.bits)(n:RO X k ops rest (ent d g (.int k1 ((a / 2^s:Nat):Int)) l) p LL):
 RO X k ops (⟨d,.binOp .shr T x y T',ty,pos,aft,gd⟩::rest) l p LL:=xdx hg rfl (xoz hs hs' fun hs hs' _ _ E _=>xa6 (xdq E hx hs) (xdq E hy hs') h) n
theorem yxn(hx:evS l x=some ([],.int .u64 1))(hy:evS l y=some ([],.int k2 ((s:Nat):Int)))(h:s<=63)(n:RO X k ops rest (ent d none (.int .u64 ((2^s:Nat):Int)) l) p LL):
 RO X k ops (⟨d,.binOp .shl T x y T',ty,pos,aft,none⟩::rest) l p LL:=xdx (g:=none) rfl rfl (fun _ _ E _=>yic (xdq E hx trivial) (xdq E hy trivial) h) n
theorem yfp(hx:evS l x=some ([],.int .u64 ((a:Nat):Int)))(hy:evS l y=some ([],.int .u64 ((b:Nat):Int)))(n:RO X k ops rest (ent d none (.int .u64 ((a*b%18446744073709551616:Nat):Int)) l) p LL):
 RO X k ops (⟨d,.binOp .mul T x y T',ty,pos,aft,none⟩::rest) l p LL:=xdx (g:=none) rfl rfl (fun _ _ E _=>ync (xdq E hx trivial) (xdq E hy trivial)) n
theorem yff(hx:evS l x=some ([],.int .u64 ((a:Nat):Int)))(h:0<a/\a<18446744073709551616)(n:RO X k ops rest (ent d none (.int .u64 ((18446744073709551616-a:Nat):Int)) l) p LL):
 RO X k ops (⟨d,.unOp .neg T x,ty,pos,aft,none⟩::rest) l p LL:=xdx (g:=none) rfl rfl (fun _ _ E _=>ykc (xdq E hx trivial) h.1 h.2) n
theorem ymq{t e:TypeId}{w len i:Nat}{c:Addr}(ht:X.P.underlying t=some (.array len e))(hx:evS l x=some ([],.pointer (some c)))(hy:evS l y=some ([],.int k1 ((i:Nat):Int)))(h:i<len)[sz:SizeC X.P e w](n:RO X k ops rest (ent d none (.pointer (some (c.add (i*w)))) l) p LL):
 RO X k ops (⟨d,.indexAddr t x y,ty,pos,aft,none⟩::rest) l p LL:=xdx (g:=none) rfl rfl (fun _ _ E _=>xoh ht sz.h (xdq E hx trivial) (xdq E hy trivial) h) n
end
section
variable{X:Cx}{k:List Item}{ops rest:List Oper}{l:Env}{p:PHeap}{LL LR:List Pcs}{ty:TypeId}{pos:String}{aft:Array Edge}{gd:Option (Nat×Bool)}{g:Option Bool}{d:Option Tmp}{dd:Nat}{ss ss':List Prop}{x y:Operand}{w:Nat}
theorem xkg{op:Op}(v:Value)(hg:gdc ops l gd=some (some false))(n:RO X k ops rest (ent d (some false) v l) p LL):RO X k ops (⟨d,op,ty,pos,aft,gd⟩::rest) l p LL:=by
 constructor
 intro ok tm ht E
 have ok':=xhq ok
 rcases xnv (o:=⟨d,op,ty,pos,aft,gd⟩) E hg with⟨e,_⟩|⟨c',e,hm⟩
 ·cases e
 ·cases e
  exact xid hm rfl (n.run ok'.1 _ (putl_len.trans ht) (E.ent (g:=some false) ht ok'.2))
theorem xwt{sT eT:TypeId}{n:Nat}{parts:List (Nat×Operand)}{vs:List (Nat×Value)}{z:Value}{cells:Array Value}(hg:gdc ops l gd=some (some true))(hvs:evqS l parts=some (ss,vs))(hss:AllP ss)[hT:SlcC X.P sT eT][hs:SizeC X.P eT w][hz:ZeroC X.P eT z]
 (nx:∀v Y,OwnS eT w v (chs w n cells.toList) Y->RO X k ops rest ((dd,none,v)::l) p (Y::LL))
 (hf:Instr.fill (fun i=>some (i*w,w)) ((List.range (n*w)).map (z.cells[· % z.cells.size]!)).toArray vs=some cells:=by rfl)(hc:cells=(chs w n cells.toList).flatten.toArray:=by rfl)(hw:((chs w n cells.toList).all fun e=>e.length==w)=true:=by rfl)
 (hn:(chs w n cells.toList).length=n:=by rfl)(hsm:n*w<=2^24:=by exact Nat.le_of_ble_eq_true rfl):RO X k ops (⟨some dd,.buildSlice sT n parts.toArray,ty,pos,aft,gd⟩::rest) l p LL:=by
 constructor
 intro ok tm ht E
 rcases xnv (o:=⟨some dd,.buildSlice sT n parts.toArray,ty,pos,aft,gd⟩) E hg with⟨e,_⟩|⟨c',e,hm⟩
 ·cases e
 ·cases e
  exact xa0 (A:=[]) (C:=LL.flatten) hm hT.h hs.h hz.h hsm (xps E hvs hss) hf hc hw hn fun v Y o=>(nx v Y o).run (xhq ok).1 _ (by simp[ht]) (E.set (g:=none) (ht ▸ xvv ok rfl))
theorem ymp{args:List Operand}{ats:Array TypeId}{ff:FuncId}{first cap vs:List Value}{v:Value}(hg:gdc ops l gd=some (some true))
 (hx:evS l x=some (ss',.func (.func ff) first.toArray cap.toArray))(hx':AllP ss')(hvs:evsS l args=some (ss,vs))(hs:AllP ss)(hc:∀h,St X.h₀ X.B₀ p h LL.flatten->CallsX X.P X.md ff (first++(vs++cap)).toArray h fun v' h'=>v'=v/\Keep h h')(n:RO X k ops rest (ent d none v l) p LL)(hf:callable X.P ff=true:=by kernel_rfl):
 RO X k ops (⟨d,.call ⟨.value x,args.toArray,ats⟩,ty,pos,aft,gd⟩::rest) l p LL:=by
 constructor
 intro ok tm ht E
 have ok':=xhq ok
 rcases xnv (o:=⟨d,.call ⟨.value x,args.toArray,ats⟩,ty,pos,aft,gd⟩) E hg with⟨e,_⟩|⟨c',e,hm⟩
 ·cases e
 ·cases e
  exact xl4 hm (xdq E hx hx') (by rw[xlx E hvs hs]) hf hc rfl (n.run ok'.1 _ (putl_len.trans ht) (E.ent (g:=none) ht ok'.2))
theorem xvl{T T' e:TypeId}{a:Option Addr}{n c:Nat}(hg:gdc ops l gd=some g)(hx:evS l x=some (ss,.slice a n c))(hs:cimp g (AllP ss))[f:SlcC X.P T e](nx:RO X k ops rest (ent d g (.bool a.isNone) l) p LL):
 RO X k ops (⟨d,.binOp .eql T x (.const (.slice none 0 0)) T',ty,pos,aft,gd⟩::rest) l p LL:=
 xdx hg rfl (xsq hs fun hs _ _ E _=>xq0 f.h (xdq E hx hs)) nx
end
section
variable{X:Cx}{k:List Item}{l:Env}{p:PHeap}{LL LR L3:List Pcs}
theorem ykx{fop:Operand}{fv:Value}{params:List Tmp}{assign body:Code}{xs:List (List Value)}(J:Nat->List Pcs->Prop)(Jx:List Pcs->Prop)(hx:evS l fop=some ([],fv))(hit:IterX X.P X.md p fv xs)(start:J 0 LL)
 (round:∀(lo:Nat)(lp:Loop)(i:Nat)(LL':List Pcs)(p':PHeap)(C:Pcs)(c:Frame)(cs:List Frame)(Stop:Goroutine->Heap->Prop),i<xs.length->PLe p p'->J i LL'->lp.state=.ready->
  (∀l'' LL'',J (i+1) LL''->RE ⟨X.P,X.md,X.f,.some lo,X.n,[],c::cs,Stop,X.h₀,X.B₀⟩ [] l'' p' ([(lo,.loop {lp with state:=.busy})]::C::LL''))->
  (∀k' l'' LL'',Jx LL''->RE ⟨X.P,X.md,X.f,.some lo,X.n,[],c::cs,Stop,X.h₀,X.B₀⟩ (.code .ret::k') l'' p' ([(lo,.loop {lp with state:=.busy})]::C::LL''))->
  RE ⟨X.P,X.md,X.f,.some lo,X.n,[],c::cs,Stop,X.h₀,X.B₀⟩ [.code assign,.beginRound,.code body] (zipE params (xs.getD i []) l) p' ([(lo,.loop lp)]::C::LL'))
 (nx:∀(r:Nat)(LL':List Pcs),J xs.length LL'->RE {X with df:=mark r::X.df} k l p ([(r,.deferred (some []))]::LL'))
 (nr:∀(r:Nat)(LL':List Pcs),Jx LL'->RE {X with df:=mark r::X.df} (.code .ret::k) l p ([(r,.deferred (some []))]::LL'))
 (hr:X.r.round=none:=by rfl)(hlen:∀i,i<xs.length->(xs.getD i []).length=params.length)(hpl:(params.all fun q=>decide (q<X.n))=true:=by rfl):RE X (.code (.rangeFunc fop params.toArray assign body)::k) l p LL:=by
 constructor
 intro tm ht E
 have hpl':∀q∈params,q<tm.length:=fun q hq=>by have:=List.all_eq_true.1 hpl q hq;rw[ht];simpa using this
 refine xw5 (R:=fun r lo lp _ h'=>(lp=loopOf X.f tm params.toArray assign body r/\ ∃LL',J xs.length LL'/\St X.h₀ X.B₀ p h' ((lo,.loop lp)::(r,.deferred (some []))::LL'.flatten))\/
  (lp=loopOf X.f tm params.toArray assign body r/\ ∃LL',Jx LL'/\St X.h₀ X.B₀ p h' ((lo,.loop {lp with state:=.done,pending:=some .ret})::(r,.deferred (some []))::LL'.flatten))) (fun r lo lp h e s=>?_) (fun r lo lp v e=>?_) hr
 ·rw[xdq E hx trivial]
  refine(hit h X.h₀ X.B₀ p ((lo,.loop lp)::LL.flatten) [(r,.deferred (some []))] (.func (.yield lo) #[] #[]) (fun i Z=>∃LL',Z=(lo,.loop lp)::LL'.flatten/\J i LL') (fun Z=>∃LL',Z=(lo,.loop {lp with state:=.done,pending:=some .ret})::LL'.flatten/\Jx LL') (.refl p) ⟨LL,rfl,start⟩ (fun i hi p'' h' Z C le⟨LL',e2,hJ⟩s'=>?_) (s.perm (by simpa using(List.perm_append_singleton (r,Obj.deferred (some [])) LL.flatten).symm))).mono fun v h'⟨Z,q,s'⟩=>?_
  ·subst e2
   refine xan (tm':=(params.zip (xs.getD i [])).foldl (fun tm q=>tm.set q.1 q.2) tm) ((s'.own (lo,.loop lp) (by simp)).1) e (hlen i hi) rfl (Φ:=fun h=>St X.h₀ X.B₀ p'' h ([(lo,.loop lp)]::C::LL').flatten) (fun c cs Stop K=>?_) (s'.perm (by simpa using List.Perm.cons (lo,Obj.loop lp) (List.perm_append_comm (l₁:=LL'.flatten) (l₂:=C))))
   refine(round lo lp i LL' p'' C c cs Stop hi le hJ (by rw[e];rfl) (fun l'' LL'' hJ'=>?_) (fun k' l'' LL'' hJ'=>?_)).run _ (by rw[xg1];exact ht) (xh1 E hpl')
   ·refine yjx (lp:={lp with state:=.busy}) fun h1 s1=>K _ _ ⟨_,.inl ⟨rfl,LL'',rfl,hJ'⟩,s1.perm ?_⟩
    have e3:({ {lp with state:=.busy}with state:=.ready,pending:=none}:Loop)=lp:=by rw[e];rfl
    rw[e3]
    simpa using List.Perm.cons (lo,Obj.loop lp) (List.perm_append_comm (l₁:=C) (l₂:=LL''.flatten))
   ·refine ywh (lp:={lp with state:=.busy}) fun h1 s1=>K _ _ ⟨_,.inr ⟨rfl,LL'',rfl,hJ'⟩,s1.perm ?_⟩
    simpa using List.Perm.cons (lo,Obj.loop {lp with state:=.done,pending:=some .ret}) (List.perm_append_comm (l₁:=C) (l₂:=LL''.flatten))
  ·rcases q with⟨LL',e2,hJ⟩|⟨LL',e2,hJ⟩
   ·subst e2;exact .inl ⟨e,LL',hJ,s'.perm (by simp)⟩
   ·subst e2;exact .inr ⟨e,LL',hJ,s'.perm (by simp)⟩
 ·intro h q
  rcases q with⟨_,LL',hJ,s⟩|⟨_,LL',hJ,s⟩
  ·have hst:lp.state=.ready/\lp.pending=none:=by rw[e];exact⟨rfl,rfl⟩
   refine xjp (i:=0) (L:=(lo,.loop lp)::(r,.deferred (some []))::LL'.flatten) rfl (by rw[hst.1];exact fun z=>by cases z) hst.2 (xjg ((nx r LL' hJ).run tm ht E) fun h s=>?_) h s
   have:=s.sub (List.sublist_cons_self _ _)
   simpa using this
  ·refine xi8 (lp:={lp with state:=.done,pending:=some .ret}) (i:=0) (L:=(lo,.loop {lp with state:=.done,pending:=some .ret})::(r,.deferred (some []))::LL'.flatten) rfl (fun z=>by cases z) rfl (xjg ((nr r LL' hJ).run tm ht E) fun h s=>?_) h s
   have:=s.sub (List.sublist_cons_self _ _)
   simpa using this
end
theorem xxp{P:Program}{h:Heap}{need old:Nat}{e:TypeId}{K:Nat->Heap->Prop}(x:∀c,need<=c->K c h):wpS P (choose (.appendCap need old e)) h K:=by
 simp only[choose,wpS,Question.forced,Bool.false_eq_true,if_false,Question.cut]
 exact fun t=>x _ om
theorem xlj(l:List UInt8):(bcs l).flatten=l.map fun b=>Value.int .u8 ((b.toNat:Nat):Int):=by
 induction l with
 |nil=>rfl
 |cons a l ih=>simp only[bcs]at ih⊢;simp[ih]
section
variable{P:Program}{md:Md}{f:FuncId}{r:Rd}{df:List Deferred}{k:List Item}{cs:List Frame}{Stop:Goroutine->Heap->Prop}{ops rest:List Oper}{tm:List Value}
 {h₀:Heap}{B₀:List Nat}{p:PHeap}{L:Pcs}{ty:TypeId}{pos:String}{aft:Array Edge}{gd:Option (Nat×Bool)}
theorem yax{dd:Nat}{src dst e:TypeId}{x:Operand}{l:List UInt8}(hm:Met ops tm ⟨some dd,.convert src dst x,ty,pos,aft,gd⟩ true)(hs:P.underlying src=some .string)(hd:P.underlying dst=some (.slice e))(he:P.underlying e=some (.int .u8))(hx:evl tm x=sv l)(h0:0<l.length)
 (n:∀b cap rest' z,((bcs l).flatten++rest').length=cap->RL P md f r df k cs Stop ops rest (tm.set dd (.slice (some ⟨b,0,none⟩) l.length cap)) (fun h=>St h₀ B₀ p h ((b,.cells ((bcs l).flatten++rest').toArray e z)::L))):
 RL P md f r df k cs Stop ops (⟨some dd,.convert src dst x,ty,pos,aft,gd⟩::rest) tm (fun h=>St h₀ B₀ p h L):=by
 refine xfj (K:=fun v h=>∃b cap rest' z,((bcs l).flatten++rest').length=cap/\v=.slice (some ⟨b,0,none⟩) l.length cap/\St h₀ B₀ p h ((b,.cells ((bcs l).flatten++rest').toArray e z)::L)) hm rfl (fun h s=>?_)
  fun v=>xwj fun b=>xwj fun cap=>xwj fun rest'=>xwj fun z=>xgz fun h1=>xgz fun h2=>by subst h2;exact n b cap rest' z h1
 unfold Ex
 simp only[execOp,hx,sv]
 refine xbq ?_
 unfold convert
 refine xbq (xeq hs ?_)
 refine xbq (xeq hd ?_)
 simp only
 refine xbq (xeq he ?_)
 simp only[Conv.stringToBytes]
 refine xbq (xxp fun cap hcap=>?_)
 rw[xpv]at hcap
 have ec:(bs l).data.map (fun b=>Value.int .u8 ((b.toNat:Nat):Int))++Array.replicate (cap-(bs l).size) (Value.int .u8 0)=((bcs l).flatten++List.replicate (cap-l.length) (Value.int .u8 0)).toArray:=by
  apply Array.ext'
  rw[xlj,xpv]
  simp[bs]
 rw[ec]
 have el:((bcs l).flatten++List.replicate (cap-l.length) (Value.int .u8 0)).length=cap:=by
  rw[xlj,List.length_append,List.length_map,List.length_replicate];omega
 generalize hcs:(bcs l).flatten++List.replicate (cap-l.length) (Value.int .u8 0)=cs at el⊢
 refine xbq (xpz ?_)
 have hget:(h.push (.cells cs.toArray e))[h.size]?=some (.cells cs.toArray e (0,0)):=by simp
 have hpos:0<cs.toArray.size:=by simp only[List.size_toArray];omega
 refine xbq ?_
 unfold markStringish
 refine xbq ?_
 simp only[shape,wpS,hget]
 refine⟨hpos,?_⟩
 simp only[freeze,wpS]
 refine⟨⟨_,_,_,hget,hpos,?_⟩,?_⟩
 ·intro z
  have:=(Prod.mk.inj z).2
  omega
 refine⟨_,rfl,h.size,cap,List.replicate (cap-l.length) (Value.int .u8 0),(cap,cap+1),by rw[hcs];exact el,by rw[xpv],?_⟩
 rw[hcs]
 have nw:New h (freezeH (h.push (.cells cs.toArray e)) ⟨h.size,cs.toArray.size,none⟩ 1) [(h.size,.cells cs.toArray e (cap,cap+1))]:=by
  refine⟨⟨by simp[freezeH],fun b hb=>?_⟩,fun x hx=>?_,by simp⟩
  ·simp only[freezeH]
   rw[if_neg (by decide),Array.getElem?_modify,if_neg om,Array.getElem?_push,if_neg om]
  ·rw[List.mem_singleton.1 hx]
   refine⟨?_,Nat.le_refl _⟩
   simp only[freezeH]
   rw[if_neg (by decide),Array.getElem?_modify,if_pos rfl,hget]
   simp[el]
 exact s.callN nw
end
section
variable{X:Cx}{k:List Item}{ops rest:List Oper}{m:Ks}{l:Env}{p:PHeap}{LF LL LR L3:List Pcs}{effs todo:List Nat}{g:Option Bool}{d:Option Tmp}{dd:Nat}{ty:TypeId}{pos:String}{aft:Array Edge}{gd:Option (Nat×Bool)}{ss ss':List Prop}{x y:Operand}{i:Nat}{v:Value}{T T' t:TypeId}{a:List UInt8}
theorem yop{src dst e:TypeId}(hx:evS l x=some ([],sv a))(h0:0<a.length)(hs:X.P.underlying src=some .string)[hd:SlcC X.P dst e](he:X.P.underlying e=some (.int .u8))
 (n:∀p' c cap,PG X.h₀.size X.B₀ p p'->Byts p' c a.length a->a.length<=cap->RO X k ops rest ((dd,none,.slice c a.length cap)::l) p' LL):RO X k ops (⟨some dd,.convert src dst x,ty,pos,aft,none⟩::rest) l p LL:=⟨fun ok tm ht E=>
 yax (xoq rfl) hs hd.h he (xdq E hx trivial) h0 fun b cap rest' z hcap=>fun pre e1 h s=>by
  have hw:∀e∈bcs a,e.length=1:=fun e he=>by
   obtain⟨x,_,rfl⟩:=List.mem_map.1 he
   rfl
  have hfl:=xmq hw
  refine(n _ (some ⟨b,0,none⟩) cap (s.pg (by simp)) ⟨by simp[bcs],hw,fun _=>rfl,fun i e' hi j x hj=>?_⟩ (by rw[<- hcap,List.length_append,hfl,xuj];omega)).run (xhq ok).1 _ (by simp[ht]) (E.set (g:=none) (ht ▸ xvv ok rfl)) pre e1 h s.last.2
  show pcell _ (((⟨b,0,none⟩:Addr).add (i*1)).add j)=_
  rw[xrx,xrx]
  unfold pcell
  simp only[xrk,Option.isSome_none,Bool.false_eq_true,if_false,List.getElem?_toArray,Nat.zero_add]
  have:=xzz hw hi hj
  rw[List.getElem?_append_left (List.getElem?_eq_some_iff.1 this).1]
  exact this⟩
theorem xm8{P:Program}{h h₀:Heap}{B₀:List Nat}{L:Pcs}{tm:List Value}{src dst e:TypeId}{q b off c:Nat}{cs:Array Value}{z:Nat×Nat}(s:St h₀ B₀ p h L)(hL:L[q]?=some (b,.cells cs T z))(hs:P.underlying src=some (.slice e))(hd:P.underlying dst=some .string)(he:P.underlying e=some (.int .u8))(hx:evl tm x=.slice (some ⟨b,off,none⟩) a.length c)
 (hc:∀j v,(bcs a).flatten[j]?=some v->cs[off+j]?=some v):Exd P tm ⟨d,.convert src dst x,ty,pos,aft,gd⟩ h (sv a):=by
 refine xuz (s:=convert src dst (.slice (some ⟨b,off,none⟩) a.length c)) (by simp only[execOp,hx]) ?_
 unfold convert
 refine xbq (xeq hs ?_)
 refine xbq (xeq hd ?_)
 simp only
 refine xbq (xeq he ?_)
 simp only[Conv.bytesToString]
 refine xbq (xqz (vs:=(bcs a).flatten) (by rw[xlj];simp) (fun j u hj=>?_) ?_)
 ·rw[xrx]
  exact s.ocell hL (hc j u hj)
 ·rw[xlj]
  simp only[List.forIn_toArray]
  refine xbq ?_
  exact xdt _ (fun n r K k=>xcq k) a [] _ (xcq ⟨rfl,rfl⟩)
theorem xy1{src dst e:TypeId}{b off c:Nat}{cs:Array Value}{z:Nat×Nat}(hx:evS l x=some ([],.slice (some ⟨b,off,none⟩) a.length c))(hc:∀j v,(bcs a).flatten[j]?=some v->cs[off+j]?=some v)[hs:SlcC X.P src e][ii:Bx LL b (.cells cs T z) LR](n:RO X k ops rest (ent d none (sv a) l) p LL)
 (hd:X.P.underlying dst=some .string:=by kernel_rfl)(he:X.P.underlying e=some (.int .u8):=by kernel_rfl):RO X k ops (⟨d,.convert src dst x,ty,pos,aft,none⟩::rest) l p LL:=
 xdx (g:=none) rfl rfl (fun _ _ E s=>xm8 (q:=0) (s.bx ii) rfl hs.h hd he (xdq E hx trivial) hc) n
theorem xfh{k1:IntKind}{c:Int}{u:Nat}(b:Nat)(hx:evS l x=some ([],.int k1 ((u:Nat):Int)))(hy:evS l y=some ([],.int k1 c))(hc:c=((b:Nat):Int))(hb:0<b)(hw:k1.wrap ((u / b:Nat):Int)=((u / b:Nat):Int))(n:RO X k ops rest (ent d none (.int k1 ((u / b:Nat):Int)) l) p LL):
 RO X k ops (⟨d,.binOp .quo T x y T',ty,pos,aft,none⟩::rest) l p LL:=by
 subst hc
 refine xdx (g:=none) rfl rfl (fun _ _ E _=>yyl (xdq E hx trivial) (xdq E hy trivial) om ?_) n
 rw[show((u:Nat):Int).tdiv ((b:Nat):Int)=((u / b:Nat):Int) from rfl];exact hw
theorem xeh{k1:IntKind}{c:Int}{u:Nat}(b:Nat)(hx:evS l x=some ([],.int k1 ((u:Nat):Int)))(hy:evS l y=some ([],.int k1 c))(hc:c=((b:Nat):Int))(hb:0<b)(n:RO X k ops rest (ent d none (.int k1 ((u%b:Nat):Int)) l) p LL):
 RO X k ops (⟨d,.binOp .rem T x y T',ty,pos,aft,none⟩::rest) l p LL:=by
 subst hc
 exact xdx (g:=none) rfl rfl (fun _ _ E _=>yxl (xdq E hx trivial) (xdq E hy trivial) om rfl) n
theorem xzn{src dst:TypeId}{k1 k':IntKind}{z:Int}(w:Int)(hx:evS l x=some ([],.int k1 z))(hn:k'.wrap z=w)(n:RO X k ops rest (ent d none (.int k' w) l) p LL)(hd:X.P.underlying dst=some (.int k'):=by kernel_rfl)(hs:∃t,X.P.underlying src=some t:=by exact⟨_,by kernel_rfl⟩):
 RO X k ops (⟨d,.convert src dst x,ty,pos,aft,none⟩::rest) l p LL:=xdx (g:=none) rfl rfl (fun _ _ E _=>xf6 hs hd (xdq E hx trivial) hn) n
theorem yuj{P : Program}{h : Heap}{tm : List Value}{gf : FuncId}{fn : Func}{e : Array Value -> Sem Value}{args : List Operand}{ats : Array TypeId}{vs : List Value}(hf : P.funcs[gf]? = some fn)(hname : (fn.name == "runtime.NumGoroutine") = false)(hb : fn.body.isNone = true)(hn : Extern.findNext fn = none)(he : Extern.find fn = some e)
 (hx:evl tm x=.func (.func gf) #[] #[])(hvs:args.map (evl tm)=vs)(hv:wpS P (e vs.toArray) h fun v' h'=>v'=v/\h'=h):Exd P tm ⟨d,.call ⟨.value x,args.toArray,ats⟩,ty,pos,aft,gd⟩ h v:=by
 unfold Exd Ex
 simp only[execOp]
 refine xbq ?_
 unfold resolve
 simp only[hx,Deferred.ofValue]
 refine xcq ?_
 simp only[invoke]
 unfold callFunc
 refine xbq ?_
 show wpS P program h _
 simp only[program,wpS]
 rw[hf]
 simp only[hname,hb,Bool.false_eq_true,if_false,if_true]
 refine xbq ?_
 refine⟨rfl,?_⟩
 simp only[wpS,hn,he]
 refine xbq (xfx (K:=fun v' h'=>v'=v/\h'=h) ?_ fun v' h'⟨e1,e2⟩=>xcq ⟨v',rfl,e1,e2⟩)
 have ea:((#[]:Array Value)++args.toArray.map (evl tm)++#[])=vs.toArray:=by rw[<- hvs];simp
 rw[ea];exact hv
theorem yoq{gf:FuncId}{fn:Func}{e:Array Value->Sem Value}{args:List Operand}{ats:Array TypeId}{vs:List Value}(hf:X.P.funcs[gf]?=some fn)(he:Extern.find fn=some e)(hx:evS l x=some ([],.func (.func gf) #[] #[]))(hvs:evsS l args=some ([],vs))(hv:∀h,wpS X.P (e vs.toArray) h fun v' h'=>v'=v/\h'=h)(n:RO X k ops rest (ent d none v l) p LL)
 (hname : (fn.name == "runtime.NumGoroutine") = false := by kernel_rfl)(hb : fn.body.isNone = true := by kernel_rfl)(hn : Extern.findNext fn = none := by kernel_rfl): RO X k ops (⟨d, .call ⟨.value x, args.toArray, ats⟩, ty, pos, aft, none⟩ :: rest) l p LL :=
 xdx (g:=none) rfl rfl (fun _ h' E _=>yuj hf hname hb hn he (xdq E hx trivial) (xlx E hvs trivial) (hv h')) n
def isIfc:TypeDesc->Bool
 |.interface _=>true
 |_=>false
theorem yzr{P:Program}{h:Heap}{tm:List Value}{D:TypeDesc}(hT:P.underlying T=some D)(hD:isIfc D=false)(hx:evl tm x=v):Exd P tm ⟨d,.makeInterface T x,ty,pos,aft,gd⟩ h (.iface T v):=by
 refine xuz (s:=Instr.makeInterface T v) (by simp only[execOp,hx]) ?_
 unfold Instr.makeInterface
 refine xbq (xeq hT ?_)
 split
 ·cases hD
 ·exact xcq ⟨rfl,rfl⟩
theorem xib{D:TypeDesc}(hg:gdc ops l gd=some g)(hx:evS l x=some (ss,v))(hs:cimp g (AllP ss))(hT:X.P.underlying T=some D)(n:RO X k ops rest (ent d g (.iface T v) l) p LL)(hD:isIfc D=false:=by rfl):RO X k ops (⟨d,.makeInterface T x,ty,pos,aft,gd⟩::rest) l p LL:=
 xdx hg rfl (xsq hs fun hs _ _ E _=>yzr hT hD (xdq E hx hs)) n
end
section
variable{P:Program}{h h₀:Heap}{B₀:List Nat}{p:PHeap}{L:Pcs}{tm:List Value}{d:Option Tmp}{ty:TypeId}{pos:String}{aft:Array Edge}{gd:Option (Nat×Bool)}{x y:Operand}{T T':TypeId}
def isNilI:Value->Bool
 |.nilIface=>true
 |_=>false
theorem ywc{ms:Array (String×TypeId)}{v:Value}(hT:P.underlying T=some (.interface ms))(hx:evl tm x=v)(hv:v=.nilIface\/ ∃t u,v=.iface t u):Exd P tm ⟨d,.binOp .eql T x (.const .nilIface) T',ty,pos,aft,gd⟩ h (.bool (isNilI v)):=by
 refine xux hx rfl (fun K z=>?_) ?_
 ·unfold eqGuard
  rw[if_neg (by decide)]
  rcases hv with rfl|⟨t,u,rfl⟩
  ·simp only[evl,Bool.or_true,if_true]
   exact xcq z
  ·exact xcq z
 ·simp only[evl]
  have e:binOp .eql T v .nilIface=(do pure (.bool (<- Op.equal T v .nilIface))):=by rcases hv with rfl|⟨t,u,rfl⟩<;>rfl
  rw[e]
  simp only[Op.equal,Op.maxDepth]
  refine xbq ?_
  rw[show(10000:Nat)=9999+1 from rfl]
  unfold Op.equalIn
  refine xbq (xeq hT ?_)
  rcases hv with rfl|⟨t,u,rfl⟩<;>exact xcq (xcq ⟨rfl,rfl⟩)
theorem ymc{ms:Array (String×TypeId)}{v:Value}(hT:P.underlying T=some (.interface ms))(hx:evl tm x=v)(hv:v=.nilIface\/ ∃t u,v=.iface t u):Exd P tm ⟨d,.binOp .neq T x (.const .nilIface) T',ty,pos,aft,gd⟩ h (.bool (!isNilI v)):=by
 refine xux hx rfl (fun K z=>?_) ?_
 ·unfold eqGuard
  rw[if_neg (by decide)]
  rcases hv with rfl|⟨t,u,rfl⟩
  ·simp only[evl,Bool.or_true,if_true]
   exact xcq z
  ·exact xcq z
 ·simp only[evl]
  have e:binOp .neq T v .nilIface=(do pure (.bool (!(<- Op.equal T v .nilIface)))):=by rcases hv with rfl|⟨t,u,rfl⟩<;>rfl
  rw[e]
  simp only[Op.equal,Op.maxDepth]
  refine xbq ?_
  rw[show(10000:Nat)=9999+1 from rfl]
  unfold Op.equalIn
  refine xbq (xeq hT ?_)
  rcases hv with rfl|⟨t,u,rfl⟩<;>exact xcq (xcq ⟨rfl,rfl⟩)
theorem xnn{ms:Array (String×TypeId)}{te:TypeId}{k:IntKind}{a b:Int}(hT:P.underlying T=some (.interface ms))(hi:(P.info? te).map TypeInfo.comparable=some true)(he:P.underlying te=some (.int k)):
 wpS P (Op.equal T (.iface te (.int k a)) (.iface te (.int k b))) h fun v h'=>v=decide (a=b)/\h'=h:=by
 obtain⟨inf,hi,hc⟩:=Option.map_eq_some_iff.1 hi
 simp only[Op.equal,Op.maxDepth]
 rw[show(10000:Nat)=9998+1+1 from rfl]
 unfold Op.equalIn
 refine xbq (xeq hT ?_)
 simp only[ne_eq,not_true_eq_false,if_false]
 refine xbq (xkx hi ?_)
 simp only[hc,Bool.not_true,Bool.false_eq_true,if_false]
 unfold Op.equalIn
 refine xbq (xeq he ?_)
 simp only[if_true]
 exact xcq ⟨ibeq a b,rfl⟩
theorem yvc{ms:Array (String×TypeId)}{te:TypeId}{k:IntKind}{a b:Int}(hT:P.underlying T=some (.interface ms))(hi:(P.info? te).map TypeInfo.comparable=some true)(he:P.underlying te=some (.int k))(hx:evl tm x=.iface te (.int k a))(hy:evl tm y=.iface te (.int k b)):
 Exd P tm ⟨d,.binOp .eql T x y T',ty,pos,aft,gd⟩ h (.bool (decide (a=b))):=by
 refine xux hx hy (fun K z=>?_) ?_
 ·unfold eqGuard
  rw[if_neg (by decide)]
  exact xcq z
 ·show wpS P (do pure (Value.bool (<- Op.equal T (.iface te (.int k a)) (.iface te (.int k b))))) h _
  exact xbq (xfx (xnn hT hi he) fun v h'⟨e1,e2⟩=>xcq ⟨by rw[e1],e2⟩)
theorem ylc{ms:Array (String×TypeId)}{te:TypeId}{k:IntKind}{a b:Int}(hT:P.underlying T=some (.interface ms))(hi:(P.info? te).map TypeInfo.comparable=some true)(he:P.underlying te=some (.int k))(hx:evl tm x=.iface te (.int k a))(hy:evl tm y=.iface te (.int k b)):
 Exd P tm ⟨d,.binOp .neq T x y T',ty,pos,aft,gd⟩ h (.bool (!decide (a=b))):=by
 refine xux hx hy (fun K z=>?_) ?_
 ·unfold eqGuard
  rw[if_neg (by decide)]
  exact xcq z
 ·show wpS P (do pure (Value.bool (!(<- Op.equal T (.iface te (.int k a)) (.iface te (.int k b)))))) h _
  exact xbq (xfx (xnn hT hi he) fun v h'⟨e1,e2⟩=>xcq ⟨by rw[e1],e2⟩)
def isNilF:Value->Bool
 |.nilFunc=>true
 |_=>false
theorem yjm{F1 F2 F3}{v:Value}(hT:P.underlying T=some (.func F1 F2 F3))(hx:evl tm x=v)(hv:v=.nilFunc\/ ∃f a b,v=.func f a b):Exd P tm ⟨d,.binOp .eql T x (.const .nilFunc) T',ty,pos,aft,gd⟩ h (.bool (isNilF v)):=by
 refine xux hx rfl (fun K z=>?_) ?_
 ·unfold eqGuard
  rw[if_neg (by decide)]
  rcases hv with rfl|⟨f,a,b,rfl⟩<;>exact xcq z
 ·simp only[evl]
  have e:binOp .eql T v .nilFunc=(do pure (.bool (<- Op.equal T v .nilFunc))):=by rcases hv with rfl|⟨f,a,b,rfl⟩<;>rfl
  rw[e]
  simp only[Op.equal,Op.maxDepth]
  refine xbq ?_
  rw[show(10000:Nat)=9999+1 from rfl]
  unfold Op.equalIn
  refine xbq (xeq hT ?_)
  rcases hv with rfl|⟨f,a,b,rfl⟩<;>exact xcq (xcq ⟨rfl,rfl⟩)
theorem ycm{F1 F2 F3}{v:Value}(hT:P.underlying T=some (.func F1 F2 F3))(hx:evl tm x=v)(hv:v=.nilFunc\/ ∃f a b,v=.func f a b):Exd P tm ⟨d,.binOp .neq T x (.const .nilFunc) T',ty,pos,aft,gd⟩ h (.bool (!isNilF v)):=by
 refine xux hx rfl (fun K z=>?_) ?_
 ·unfold eqGuard
  rw[if_neg (by decide)]
  rcases hv with rfl|⟨f,a,b,rfl⟩<;>exact xcq z
 ·simp only[evl]
  have e:binOp .neq T v .nilFunc=(do pure (.bool (!(<- Op.equal T v .nilFunc)))):=by rcases hv with rfl|⟨f,a,b,rfl⟩<;>rfl
  rw[e]
  simp only[Op.equal,Op.maxDepth]
  refine xbq ?_
  rw[show(10000:Nat)=9999+1 from rfl]
  unfold Op.equalIn
  refine xbq (xeq hT ?_)
  rcases hv with rfl|⟨f,a,b,rfl⟩<;>exact xcq (xcq ⟨rfl,rfl⟩)
theorem yjc{a b:Nat}(hx:evl tm x=.int .u8 ((a:Nat):Int))(hy:evl tm y=.int .u8 ((b:Nat):Int))(ha:a<256)(hb:b<256):Exd P tm ⟨d,.binOp .or T x y T',ty,pos,aft,gd⟩ h (.int .u8 ((a ||| b:Nat):Int)):=
 xux hx hy (fun K z=>xex rfl z) (by
  simp only[binOp,ne_eq,not_true_eq_false,if_false,Op.intBits]
  refine xcq ⟨?_,rfl⟩
  have e:((BitVec.ofInt IntKind.u8.bits ((a:Nat):Int)) ||| (BitVec.ofInt IntKind.u8.bits ((b:Nat):Int))).toNat=a ||| b:=by
   rw[BitVec.toNat_or,BitVec.ofInt_natCast,BitVec.ofInt_natCast,BitVec.toNat_ofNat,BitVec.toNat_ofNat,Nat.mod_eq_of_lt (show a<2^IntKind.u8.bits from ha),Nat.mod_eq_of_lt (show b<2^IntKind.u8.bits from hb)]
  have lt:a ||| b<2^8:=Nat.or_lt_two_pow ha hb
  rw[e,wr8 ⟨om,om⟩])
theorem yhc{k k':IntKind}{a w:Int}{s:Nat}(hx:evl tm x=.int k a)(hy:evl tm y=.int k' ((s:Nat):Int))(hn:k.wrap (a*2^min s k.bits)=w):Exd P tm ⟨d,.binOp .shl T x y T',ty,pos,aft,gd⟩ h (.int k w):=
 xux hx hy (fun K z=>xex rfl z) (by
  simp only[binOp,Op.shift]
  rw[if_neg om]
  exact xcq ⟨by rw[Int.toNat_natCast,hn],rfl⟩)
theorem St.frz{i b n:Nat}{c:Array Value}{e:TypeId}(s:St h₀ B₀ p h L)(hL:L[i]?=some (b,.cells c e (0,0)))(hn:0<n):St h₀ B₀ p (freezeH h ⟨b,0,none⟩ n) (L.set i (b,.cells c e (0,n))):=by
 have hb:=s.at hL
 refine s.turn hL ?_ ?_ fun c hc=>?_
 ·unfold freezeH
  rw[if_neg om,Array.getElem?_modify,if_pos rfl,hb]
  simp
 ·unfold freezeH
  rw[if_neg om];simp
 ·unfold freezeH
  rw[if_neg om,Array.getElem?_modify,if_neg (Ne.symm hc)]
theorem xrd:∀(l:List UInt8)(a:Addr)(acc:List UInt8){K:ByteArray->Heap->Prop},(∀j v,(bcs l).flatten[j]?=some v->cell? h (a.add j)=some v)->K (bs (acc++l)) h->wpS P (loadBytes a (bs acc) l.length) h K
 |[],a,acc,K,_,k=>by rw[List.append_nil]at k;exact xcq k
 |b::l,a,acc,K,hc,k=>by
   have h0:=hc 0 (.int .u8 ((b.toNat:Nat):Int)) rfl
   have e0:a.add 0=a:=by unfold Addr.add;cases a with|mk bl o sp=>cases sp<;>rfl
   rw[e0]at h0
   rw[List.length_cons]
   unfold loadBytes
   refine xbq ⟨rfl,_,h0,?_⟩
   have e:(bs acc).push (((b.toNat:Nat):Int)).toNat.toUInt8=bs (acc++[b]):=by
    apply ByteArray.ext
    simp[bs]
   simp only[wpS,e]
   refine xrd l (a.add 1) (acc++[b]) (fun j v hj=>?_) (by rw[List.append_assoc];exact k)
   have e1:(a.add 1).add j=a.add (j+1):=by
    cases a with|mk bl o sp=>cases sp<;>simp[Addr.add,Nat.add_comm,Nat.add_left_comm]
   rw[e1]
   exact hc (j+1) v hj
theorem yxr{b i:Nat}{cs:Array Value}{e pt t2:TypeId}{l:List UInt8}{K:Value->Heap->Prop}(s:St h₀ B₀ p h L)(hL:L[i]?=some (b,.cells cs e (0,0)))(hp:P.underlying pt=some (.pointer e))(hc1:P.cellsOf e=1)(h0:0<l.length)(hl:l.length<=1000000)
 (hx:evl tm x=.pointer (some ⟨b,0,none⟩))(hy:evl tm y=.int .i64 ((l.length:Nat):Int))(hcs:∀(j:Nat)(v:Value),(bcs l).flatten[j]?=some v->cs[j]?=some v)(n:∀h',St h₀ B₀ p h' (L.set i (b,.cells cs e (0,l.length)))->K (sv l) h'):
 Ex P tm ⟨d,.call ⟨.builtin .unsafeString,#[x,y],#[pt,t2]⟩,ty,pos,aft,gd⟩ h K:=by
 have hlen:(bcs l).flatten.length=l.length:=by rw[xlj];simp
 have hsz:l.length<=cs.size:=by
  have:=hcs (l.length-1) ((bcs l).flatten[l.length-1]'om) (List.getElem?_eq_getElem om)
  have:=(Array.getElem?_eq_some_iff.1 this).1
  omega
 have hb:=s.at hL
 unfold Ex
 simp only[execOp,resolve]
 refine xbq (xcq ?_)
 simp only[invoke,builtin]
 refine xbq ?_
 have ea:(#[x,y]:Array Operand).map (evl tm)=#[.pointer (some ⟨b,0,none⟩),.int .i64 ((l.length:Nat):Int)]:=by simp[hx,hy]
 rw[ea]
 show wpS P (do
  let n <- asInt (.int .i64 ((l.length:Nat):Int))
  let some pt := (#[pt, t2] : Array TypeId)[0]? | stuck "unsafe.String: no argument types"
  if n < 0 then runtimePanic (.error "unsafe.String: len out of range")
  if n > IntKind.i64.max then unsupported (.unsafePointer "String: a length above the largest int")
  if n=0 then pure (Value.string .empty)
  else if <- variablesAt ⟨b,0,none⟩ (<- elemOf pt) n.toNat then do
   let s <- loadBytes ⟨b,0,none⟩ .empty n.toNat
   freeze ⟨b,0,none⟩ n.toNat
   pure (Value.string s)
  else unsupported (.unsafePointer "String: not so many bytes at ptr")) h _
 refine xbq (xcq ?_)
 simp only[List.getElem?_toArray,List.getElem?_cons_zero]
 rw[if_neg (show ¬ ((l.length:Nat):Int)<0 by omega)]
 rw[if_neg (show ¬ ((l.length:Nat):Int)>IntKind.i64.max by show ¬ ((l.length:Nat):Int)>9223372036854775807;omega)]
 rw[if_neg (show ¬ ((l.length:Nat):Int)=0 by omega),Int.toNat_natCast]
 refine xbq ?_
 unfold elemOf
 refine xbq (xeq hp (xcq ?_))
 unfold variablesAt
 refine xbq ?_
 refine xbq ?_
 show wpS P program h _
 simp only[program,wpS]
 refine xbq ?_
 simp only[shape,wpS,hb]
 refine⟨om,?_⟩
 rw[Lib.liesAt_bytes hc1 _ _ (by rw[hc1,Nat.div_one];exact hsz)]
 refine xcq ?_
 simp only[if_true]
 refine xbq ?_
 have eb:ByteArray.empty=bs []:=rfl
 rw[eb]
 refine xrd l _ [] (fun j v hj=>?_) ?_
 ·rw[xrx,Nat.zero_add]
  exact s.ocell hL (hcs j v hj)
 refine xbq ?_
 simp only[freeze,wpS]
 refine⟨⟨_,_,_,hb,om,fun z=>?_⟩,?_⟩
 ·have:=(Prod.mk.inj z).2
  omega
 exact⟨_,rfl,n _ (s.frz hL h0)⟩
end
section
variable{X:Cx}{k:List Item}{ops rest:List Oper}{l:Env}{p:PHeap}{LL LR:List Pcs}{g:Option Bool}{d:Option Tmp}{dd:Nat}{ty:TypeId}{pos:String}{aft:Array Edge}{gd:Option (Nat×Bool)}{ss ss':List Prop}{x y:Operand}{v:Value}{T T' t:TypeId}{a:List UInt8}{Y:Pcs}
theorem yqh{ms:Array (String×TypeId)}(hg:gdc ops l gd=some g)(hx:evS l x=some (ss,v))(hs:cimp g (AllP ss))(hv:v=.nilIface\/ ∃t u,v=.iface t u)(hT:X.P.underlying T=some (.interface ms))(n:RO X k ops rest (ent d g (.bool (isNilI v)) l) p LL):RO X k ops (⟨d,.binOp .eql T x (.const .nilIface) T',ty,pos,aft,gd⟩::rest) l p LL:=
 xdx hg rfl (xsq hs fun hs _ _ E _=>ywc hT (xdq E hx hs) hv) n
theorem xa2{ms:Array (String×TypeId)}(hg:gdc ops l gd=some g)(hx:evS l x=some (ss,v))(hs:cimp g (AllP ss))(hv:v=.nilIface\/ ∃t u,v=.iface t u)(hT:X.P.underlying T=some (.interface ms))(n:RO X k ops rest (ent d g (.bool (!isNilI v)) l) p LL):RO X k ops (⟨d,.binOp .neq T x (.const .nilIface) T',ty,pos,aft,gd⟩::rest) l p LL:=
 xdx hg rfl (xsq hs fun hs _ _ E _=>ymc hT (xdq E hx hs) hv) n
theorem yqq{ms:Array (String×TypeId)}{te:TypeId}{k1:IntKind}{b c:Int}(hg:gdc ops l gd=some g)(hx:evS l x=some (ss,.iface te (.int k1 b)))(hy:evS l y=some (ss',.iface te (.int k1 c)))(hs:cimp g (AllP ss))(hs':cimp g (AllP ss'))(hT:X.P.underlying T=some (.interface ms))(hi:(X.P.info? te).map TypeInfo.comparable=some true)(he:X.P.underlying te=some (.int k1))
 (n:RO X k ops rest (ent d g (.bool (decide (b=c))) l) p LL):RO X k ops (⟨d,.binOp .eql T x y T',ty,pos,aft,gd⟩::rest) l p LL:=xdx hg rfl (xoz hs hs' fun hs hs' _ _ E _=>yvc hT hi he (xdq E hx hs) (xdq E hy hs')) n
theorem ygh{ms:Array (String×TypeId)}{te:TypeId}{k1:IntKind}{b c:Int}(hg:gdc ops l gd=some g)(hx:evS l x=some (ss,.iface te (.int k1 b)))(hy:evS l y=some (ss',.iface te (.int k1 c)))(hs:cimp g (AllP ss))(hs':cimp g (AllP ss'))(hT:X.P.underlying T=some (.interface ms))(hi:(X.P.info? te).map TypeInfo.comparable=some true)(he:X.P.underlying te=some (.int k1))
 (n:RO X k ops rest (ent d g (.bool (!decide (b=c))) l) p LL):RO X k ops (⟨d,.binOp .neq T x y T',ty,pos,aft,gd⟩::rest) l p LL:=xdx hg rfl (xoz hs hs' fun hs hs' _ _ E _=>ylc hT hi he (xdq E hx hs) (xdq E hy hs')) n
theorem yif{F1 F2 F3}(hg:gdc ops l gd=some g)(hx:evS l x=some (ss,v))(hs:cimp g (AllP ss))(hv:v=.nilFunc\/ ∃f a b,v=.func f a b)(hT:X.P.underlying T=some (.func F1 F2 F3))(n:RO X k ops rest (ent d g (.bool (isNilF v)) l) p LL):RO X k ops (⟨d,.binOp .eql T x (.const .nilFunc) T',ty,pos,aft,gd⟩::rest) l p LL:=
 xdx hg rfl (xsq hs fun hs _ _ E _=>yjm hT (xdq E hx hs) hv) n
theorem ydp{F1 F2 F3}(hg:gdc ops l gd=some g)(hx:evS l x=some (ss,v))(hs:cimp g (AllP ss))(hv:v=.nilFunc\/ ∃f a b,v=.func f a b)(hT:X.P.underlying T=some (.func F1 F2 F3))(n:RO X k ops rest (ent d g (.bool (!isNilF v)) l) p LL):RO X k ops (⟨d,.binOp .neq T x (.const .nilFunc) T',ty,pos,aft,gd⟩::rest) l p LL:=
 xdx hg rfl (xsq hs fun hs _ _ E _=>ycm hT (xdq E hx hs) hv) n
theorem yrp{k1:IntKind}{a b:Int}(w:Int)(hx:evS l x=some ([],.int k1 a))(hy:evS l y=some ([],.int k1 b))(hn:k1.wrap (a+b)=w)(n:RO X k ops rest (ent d none (.int k1 w) l) p LL):RO X k ops (⟨d,.binOp .add T x y T',ty,pos,aft,none⟩::rest) l p LL:=
 xdx (g:=none) rfl rfl (fun _ _ E _=>yxj (xdq E hx trivial) (xdq E hy trivial) hn) n
theorem ycf{k1:IntKind}{a b:Int}(w:Int)(hx:evS l x=some ([],.int k1 a))(hy:evS l y=some ([],.int k1 b))(hn:k1.wrap (a-b)=w)(n:RO X k ops rest (ent d none (.int k1 w) l) p LL):RO X k ops (⟨d,.binOp .sub T x y T',ty,pos,aft,none⟩::rest) l p LL:=
 xdx (g:=none) rfl rfl (fun _ _ E _=>yoj (xdq E hx trivial) (xdq E hy trivial) hn) n
theorem xg4{k1:IntKind}{a:Int}(w:Int)(hx:evS l x=some ([],.int k1 a))(hn:k1.wrap (0-a)=w)(n:RO X k ops rest (ent d none (.int k1 w) l) p LL):RO X k ops (⟨d,.unOp .neg T x,ty,pos,aft,none⟩::rest) l p LL:=
 xdx (g:=none) rfl rfl (fun _ _ E _=>xs2 (xdq E hx trivial) hn) n
theorem ydf{k1 k2:IntKind}{a w:Int}{s:Nat}(hx:evS l x=some ([],.int k1 a))(hy:evS l y=some ([],.int k2 ((s:Nat):Int)))(hn:k1.wrap (a*2^min s k1.bits)=w)(n:RO X k ops rest (ent d none (.int k1 w) l) p LL):RO X k ops (⟨d,.binOp .shl T x y T',ty,pos,aft,none⟩::rest) l p LL:=
 xdx (g:=none) rfl rfl (fun _ _ E _=>yhc (xdq E hx trivial) (xdq E hy trivial) hn) n
theorem yap{a b:Nat}(hx:evS l x=some ([],.int .u8 ((a:Nat):Int)))(hy:evS l y=some ([],.int .u8 ((b:Nat):Int)))(ha:a<256)(hb:b<256)(n:RO X k ops rest (ent d none (.int .u8 ((a ||| b:Nat):Int)) l) p LL):RO X k ops (⟨d,.binOp .or T x y T',ty,pos,aft,none⟩::rest) l p LL:=
 xdx (g:=none) rfl rfl (fun _ _ E _=>yjc (xdq E hx trivial) (xdq E hy trivial) ha hb) n
theorem xxl{args:List Operand}{ats:Array TypeId}{ff:FuncId}{first cap vs:List Value}{Q:Value->Prop}(hx:evS l x=some ([],.func (.func ff) first.toArray cap.toArray))(hvs:evsS l args=some ([],vs))
 (hc:∀h,Per p h->CallsX X.P X.md ff (first++(vs++cap)).toArray h fun v' h'=>Q v'/\Keep h h')(n:∀v,Q v->RO X k ops rest (ent d none v l) p LL)(hf:callable X.P ff=true:=by kernel_rfl):
 RO X k ops (⟨d,.call ⟨.value x,args.toArray,ats⟩,ty,pos,aft,none⟩::rest) l p LL:=⟨fun ok tm ht E=>
 xvw (R:=fun v h=>Q v/\St X.h₀ X.B₀ p h LL.flatten) (xoq rfl) (xdq E hx trivial) (by rw[xlx E hvs trivial]) hf
  (fun h s=>(hc h fun b o e=>s.per b o e).mono fun _ _⟨q,kk⟩=>⟨q,s.call kk⟩)
  fun v=>xgz fun q=>(n v q).run (xhq ok).1 _ (putl_len.trans ht) (E.ent (g:=none) ht (xhq ok).2)⟩
theorem LastR.keep{p:PHeap}{h h':Heap}{Q:Value->PHeap->Prop}{v:Value}(x:LastR p h Q v h'):(∃p',Q v p')/\Keep h h':=by
 obtain⟨p',_,q,kk,_⟩:=x
 exact⟨⟨p',q⟩,kk⟩
theorem ypw{dT xT eT:TypeId}{es:List (List Value)}(hx:evS l x=some ([],v))(hy:evS l y=some ([],sv a))(o:OwnS eT 1 v es Y)(hn:es.length=a.length)(hpos:0<a.length)[i1:Rm LL Y LR][hT:SlcC X.P dT eT][hs:SizeC X.P eT 1]
 (nx:∀Y',OwnS eT 1 v (bcs a) Y'->RO X k ops rest ((dd,none,.int .i64 ((a.length:Nat):Int))::l) p (Y'::LR)):RO X k ops (⟨some dd,.call ⟨.builtin .copy,#[x,y],#[dT,xT]⟩,ty,pos,aft,none⟩::rest) l p LL:=⟨fun ok tm ht E=>by
 obtain⟨b,cap,hv,hcap,_⟩:=o.at0 om (by decide)
 refine xfj (K:=fun v' h'=>v'=.int .i64 ((a.length:Nat):Int)/\ ∃Y',OwnS eT 1 v (bcs a) Y'/\St X.h₀ X.B₀ p h' (Y'++LR.flatten)) (xoq rfl) rfl (fun h s=>?_) fun v'=>xgz fun e=>by
  subst e
  exact xwj fun Y'=>xgz fun o'=>(nx Y' o').run (xhq ok).1 _ (by simp[putl,ht]) (E.set (g:=none) (ht ▸ xvv ok rfl))
 unfold Ex
 simp only[execOp,resolve]
 refine xbq (xcq ?_)
 simp only[invoke,builtin]
 refine xbq ?_
 have ev2:=xdq E hy trivial
 have ev1:=xdq E hx trivial
 have e:(#[x,y]:Array Operand).map (evl tm)=#[.slice (some ((adrV v).add (0*1))) es.length cap,.string (bs a)]:=by
  simp only[List.map_toArray,List.map_cons,List.map_nil,ev1,ev2]
  rw[hv];show _=#[Value.slice (some ((⟨b,0,none⟩:Addr).add (0*1))) es.length cap,_]
  rw[xrx,Nat.zero_mul];rfl
 rw[e]
 have hf:∀K:Array Value->Heap->Prop,K (bcs a).flatten.toArray h->wpS X.P (Builtin.firstCells 1 a.length (.string (bs a))) h K:=fun K k=>by
  have e2:(((bs a).extract 0 a.length).data.map fun b=>Value.int .u8 ((b.toNat:Nat):Int))=(bcs a).flatten.toArray:=by
   rw[xlj,xug]
   apply Array.ext'
   simp[bs]
  show wpS X.P (pure _) h K
  rw[e2]
  exact xcq k
 have hl:∀K:Nat->Heap->Prop,K a.length h->wpS X.P (Builtin.lenOf (.string (bs a))) h K:=fun K k=>by
  show wpS X.P (pure _) h K
  rw[xpv];exact xcq k
 have h1:∀u∈(bcs a).flatten,isOne u=true:=fun u hu=>by
  rw[xlj]at hu
  obtain⟨b,_,rfl⟩:=List.mem_map.1 hu
  rfl
 refine xmb hT.h hs.h o (s.rm i1) om (show Nat.min a.length es.length=a.length from by rw[hn];exact Nat.min_self _) hl hf (xuj a) (fun e he=>by obtain⟨_,_,rfl⟩:=List.mem_map.1 he;rfl) h1 om fun h' Y' o' s'=>?_
 exact xcq ⟨_,rfl,rfl,Y',by have o2:=o'.as (es':=bcs a) (by simp[hn,List.drop_of_length_le]);exact o2,s'⟩⟩
theorem yvn{pt t2 eT:TypeId}(o:OwnS eT 1 v (bcs a) Y)(h0:0<a.length)(hl:a.length<=1000000)(hx:evS l x=some ([],.pointer (some (adrV v))))(hy:evS l y=some ([],.int .i64 ((a.length:Nat):Int)))(hp:X.P.underlying pt=some (.pointer eT))(hc1:X.P.cellsOf eT=1)[i1:Rm LL Y LR]
 (n:RO X k ops rest ((dd,none,sv a)::l) p LR):RO X k ops (⟨some dd,.call ⟨.builtin .unsafeString,#[x,y],#[pt,t2]⟩,ty,pos,aft,none⟩::rest) l p LL:=⟨fun ok tm ht E=>by
 obtain⟨hw,⟨_,h00,_⟩|⟨b,cs,cap,rest',rfl,rfl,hcs,_,_⟩⟩:=o
 ·rw[<- xuj,h00]at h0;cases h0
 refine xfj (K:=fun v' h'=>v'=sv a/\St X.h₀ X.B₀ p h' LR.flatten) (xoq rfl) rfl (fun h s=>?_) fun v'=>xgz fun e=>by
  subst e
  exact n.run (xhq ok).1 _ (by simp[putl,ht]) (E.set (g:=none) (ht ▸ xvv ok rfl))
 refine yxr (i:=0) (s.rm i1) rfl hp hc1 h0 hl (xdq E hx trivial) (xdq E hy trivial) (fun j u hj=>?_) fun h' s'=>⟨rfl,s'.sub (List.sublist_cons_self _ _)⟩
 rw[List.getElem?_toArray,hcs,List.getElem?_append_left (List.getElem?_eq_some_iff.1 hj).1]
 exact hj⟩
end
theorem yeg{w:Nat}:∀(m:Nat)(l:List Value),l.length=m*w-> ∃zs:List (List Value),zs.length=m/\(∀e∈zs,e.length=w)/\zs.flatten=l
 |0,l,h=>⟨[],rfl,by simp,(List.eq_nil_of_length_eq_zero (by simpa using h)).symm⟩
 |m+1,l,h=>by
   rw[Nat.succ_mul]at h
   obtain⟨zs,h1,h2,h3⟩:=yeg (w:=w) m (l.drop w) (by rw[List.length_drop];omega)
   refine⟨l.take w::zs,by simp[h1],fun e he=>?_,by simp[h3]⟩
   rcases List.mem_cons.1 he with rfl|he
   ·rw[List.length_take];omega
   ·exact h2 e he
section
variable{P:Program}{h:Heap}{h₀:Heap}{B₀:List Nat}{p:PHeap}{C A:Pcs}
theorem xi1{sT xT eT ty:TypeId}{w m n c by':Nat}{a:Option Addr}{z:Value}{es:List (List Value)}{K:Value->Heap->Prop}(hT:P.underlying sT=some (.slice eT))(hs:sizeT P eT=some w)(hz:zeroT P eT=some z)(hzs:z.cells.size=w)(hw0:0<w)
 (hby:bytesT P eT=some by')(hx:P.underlying xT=some (.int .i64))(d:Sl p a n w es)(s:St h₀ B₀ p h C)(hc:c<n+m)
 (hm0:0<m)(room:(n+m)*by'<=2^40)(hb2:0<by'/\by'<=2^20)
 (nx:∀v' X' h' zs,zs.length=m->OwnS eT w v' (es++zs) X'->St h₀ B₀ p h' (X'++C)->K v' h'):wpS P (Builtin.append_ #[sT,xT] ty #[.slice a n c,.int .i64 ((m:Nat):Int)]) h K:=by
 obtain⟨i,hi,hib⟩:∃i,P.info? eT=some i/\i.bytes=by':=by
  unfold bytesT at hby
  cases hi:P.info? eT with
  |none=>rw[hi]at hby;cases hby
  |some i=>rw[hi]at hby;exact⟨i,rfl,by simpa using hby⟩
 have hn:=d.len
 have hwe:=d.wid
 have hneed:n+m<=2^40:=Nat.le_trans (Nat.le_mul_of_pos_right _ hb2.1) room
 have hmb:m*by'<=2^40:=Nat.le_trans (Nat.mul_le_mul_right _ (Nat.le_add_left m n)) room
 have hold:=(xeg (P:=P) (cap:=c) s hw0 d).cells
 unfold Builtin.append_
 simp only[List.getElem?_toArray,List.getElem?_cons_zero,List.getElem?_cons_succ]
 refine xbq (xeq hT ?_)
 simp only
 refine xbq (xwq hs ?_)
 refine xbq (xeq hx ?_)
 refine xbq (xfx (K:=fun zr h'=>zr=true/\h'=h) (xcq ⟨rfl,rfl⟩) fun zr h'⟨ez,eh⟩=>?_)
 subst ez
 have eh:=eh.symm
 subst eh
 simp only[if_true,Bool.not_true,Bool.false_eq_true,if_false,asInt]
 refine xbq (xcq ?_)
 rw[wrZ om,if_neg om]
 refine xbq (xkx hi ?_)
 have hmi:((m:Nat):Int)*(i.bytes:Int)=((m*by':Nat):Int):=by rw[hib];exact(Int.natCast_mul _ _).symm
 rw[hmi,if_neg om]
 refine xbq (xcq ?_)
 rw[Int.toNat_natCast,if_neg (show ¬ n+m<=c by omega)]
 refine xbq (xkx hi ?_)
 rw[if_neg (by
  intro hh
  have:(IntKind.i64.max:Int)=9223372036854775807:=by decide
  rw[this]at hh
  omega)]
 refine xbq (xkx hi ?_)
 rw[hib,if_neg (by have:=xn2 (by':=by') hc room hb2.2;omega)]
 refine xbq ?_
 show wpS P (choose _) h _
 simp only[choose,wpS,Question.forced,Bool.false_eq_true,if_false,Question.cut]
 intro t
 generalize hnc:n+m+t%(2^63-(n+m))=nc
 have hnc':n+m<=nc:=om
 have hncu:nc<=9223372036854775807:=by
  have:=Nat.mod_lt t (show 0<2^63-(n+m) by omega)
  omega
 refine xbq (xkx hi ?_)
 refine xbq ?_
 have ask:∀(b:Nat)(K:Unit->Heap->Prop),K () h->wpS P (askRoom b) h K:=by
  intro b K hK
  unfold askRoom
  split
  ·exact⟨rfl,hK⟩
  ·exact xcq hK
 refine ask _ _ ?_
 refine xbq (hold _ ?_)
 rw[if_neg (Nat.ne_of_gt (Nat.mul_pos hm0 hw0))]
 refine xbq (xbq (xaz hz (xcq ?_)))
 refine xbq (xaz hz ?_)
 refine xbq (xpz ?_)
 obtain⟨zs,z1,z2,z3⟩:=yeg (w:=w) m (Builtin.zeroCells z.cells m).toList (by rw[xmj,hzs])
 have hwall:∀e∈es++zs,e.length=w:=fun e he=>(List.mem_append.1 he).elim (hwe e) (z2 e)
 refine xcq (nx _ [(h.size,.cells (List.toArray (es.flatten++zs.flatten++(Builtin.zeroCells z.cells (nc-(n+m))).toList)) eT (0,0))] _ zs z1 ⟨hwall,.inr ⟨h.size,_,nc,(Builtin.zeroCells z.cells (nc-(n+m))).toList,?_,rfl,by simp,?_,fun _=>hncu⟩⟩ ?_)
 ·simp[z1,hn]
 ·simp only[List.length_append,xmq hwe,xmq z2,z1,hn,xmj,hzs]
  rw[<- Nat.add_mul,<- Nat.add_mul];congr 1;omega
 ·have s1:=s.push (.cells (List.toArray (es.flatten++zs.flatten++(Builtin.zeroCells z.cells (nc-(n+m))).toList)) eT (0,0))
  have e1:(List.toArray es.flatten++Builtin.zeroCells z.cells m++Builtin.zeroCells z.cells (nc-(n+m)))=List.toArray (es.flatten++zs.flatten++(Builtin.zeroCells z.cells (nc-(n+m))).toList):=by
   apply Array.ext';simp[z3]
  rw[e1];exact s1
theorem yrg{w j n c c2:Nat}{T:TypeId}{b N cap:Nat}{es:List (List Value)}{Y L₁ L₂:Pcs}(o:OwnS T w (.slice (some ⟨b,0,none⟩) N cap) es Y)(s:St h₀ B₀ p h (L₁++(Y++L₂)))(hj:j+n<=es.length):∀K:Array Value->Heap->Prop,K ((es.drop j).take n).flatten.toArray h->wpS P (Builtin.firstCells w n (.slice (some ⟨b,j*w,none⟩) c c2)) h K:=by
 obtain⟨hw,⟨e,-,-⟩|⟨b,cs,cap,rest,e,rfl,hcs,hlen,hcap⟩⟩:=o
 ·cases e
 injection e with e1 e2 e3
 cases e1
 intro K hK
 show wpS P (loadCells ⟨b,j*w,none⟩ (n*w)) h K
 have hwt:∀e∈(es.drop j).take n,e.length=w:=fun e he=>hw e (List.mem_of_mem_drop (List.mem_of_mem_take he))
 have hnl:((es.drop j).take n).length=n:=by rw[List.length_take,List.length_drop];omega
 refine xqz (by rw[xmq hwt,hnl]) (fun q u hq=>?_) hK
 rw[xrx]
 refine s.ocell (i:=L₁.length) (cs:=cs.toArray) (T:=T) (z:=(0,0)) ?_ ?_
 ·rw[List.getElem?_append_right (Nat.le_refl _)];simp
 have et:(es.take j).flatten.length=j*w:=by rw[xmq fun e he=>hw e (List.mem_of_mem_take he),List.length_take,Nat.min_eq_left om]
 have ec:cs=(es.take j).flatten++(((es.drop j).take n).flatten++(((es.drop j).drop n).flatten++rest)):=by
  rw[hcs]
  simp only[<- List.append_assoc,<- List.flatten_append]
  congr 1
  rw[List.append_assoc,List.take_append_drop,List.take_append_drop]
 rw[List.getElem?_toArray,ec,List.getElem?_append_right om,et,Nat.add_sub_cancel_left,List.getElem?_append_left (List.getElem?_eq_some_iff.1 hq).1]
 exact hq
theorem OwnS.more{T:TypeId}{w b n cap:Nat}{es:List (List Value)}{Y:Pcs}(o:OwnS T w (.slice (some ⟨b,0,none⟩) n cap) es Y)(hc:n<cap):∃e,OwnS T w (.slice (some ⟨b,0,none⟩) (n+1) cap) (es++[e]) Y:=by
 obtain⟨hw,⟨e,-,-⟩|⟨b,cs,cap,rest,e,rfl,hcs,hlen,hcap⟩⟩:=o
 ·cases e
 injection e with e1 e2 e3
 cases e1
 subst e2 e3
 have hl:=congrArg List.length hcs
 rw[List.length_append,xmq hw,hlen]at hl
 have h2:(es.length+1)*w<=cap*w:=Nat.mul_le_mul_right _ hc
 rw[Nat.succ_mul]at h2
 refine⟨rest.take w,fun e he=>?_,.inr ⟨b,cs,cap,rest.drop w,by simp,rfl,by rw[hcs];simp[List.append_assoc],hlen,hcap⟩⟩
 rcases List.mem_append.1 he with he|he
 ·exact hw e he
 ·rw[List.mem_singleton.1 he,List.length_take];omega
end
section
variable{P:Program}{h:Heap}{a b:Addr}{c1 c2:Array Value}{e1 e2:TypeId}
theorem xsd{c:Array Value}{e:TypeId}{K:Bool->Heap->Prop}(hb:h[a.block]?=some (.cells c e (0,0)))(hc:0<c.size)(k:K false h):wpS P (frozen a) h K:=
 ⟨⟨c,e,_,hb,hc⟩,fun _=>k,fun n=>absurd (.inr ⟨c,e,hb,hc⟩) n⟩
theorem xfk{c:Array Value}{e:TypeId}{z:Nat×Nat}{r:Nat}{K:Option (TypeId×Nat)->Heap->Prop}(hb:h[r]?=some (.cells c e z))(hc:0<c.size)(k:K (some (e,c.size)) h):wpS P (shape r) h K:=by
 show wpS P (.shape r .pure) h K
 rw[wpS,hb]
 exact⟨hc,k⟩
theorem xln{c:Array Value}{e:TypeId}{z:Nat×Nat}{K:Unit->Heap->Prop}(hb:h[a.block]?=some (.cells c e z))(hc:0<c.size)(k:K () h):wpS P (noView a) h K:=by
 unfold noView
 refine xbq ?_
 unfold viewAt
 refine xbq (xfk hb hc ?_)
 simp only[Option.isSome_some,if_true]
 exact xcq k
theorem xi3{c:Array Value}{e:TypeId}{K:Bool->Heap->Prop}(hb:h[a.block]?=some (.cells c e (0,0)))(hc:0<c.size)(k:K false h):wpS P (stringish a) h K:=by
 unfold stringish
 refine xbq (xsd hb hc ?_)
 simp only[Bool.false_eq_true,if_false]
 refine xbq (xfk hb hc ?_)
 exact xsd hb hc k
theorem xbt{tS tR eT:TypeId}{w la ca lb cb:Nat}{K:Value->Heap->Prop}(ht:P.underlying tS=some (.slice eT))(hs:sizeT P eT=some w)(hne:a.block≠b.block)(ha:h[a.block]?=some (.cells c1 e1 (0,0)))(h1:0<c1.size)(hb:h[b.block]?=some (.cells c2 e2 (0,0)))(h2:0<c2.size)(k:K (.bool false) h):
 wpS P (Extern.SlicesOverlaps.overlaps #[tS,tS] #[tR] #[.slice (some a) la ca,.slice (some b) lb cb]) h K:=by
 show wpS P (underlying tS >>= _) h K
 refine xbq (xeq ht ?_)
 show wpS P (sizeOf eT >>= _) h K
 refine xbq (xwq hs ?_)
 dsimp only
 by_cases h0:la=0\/lb=0\/w=0
 ·rw[if_pos h0];exact xcq k
 rw[if_neg h0]
 refine xbq (xsd ha h1 ?_)
 refine xbq (xsd hb h2 ?_)
 simp only[Bool.and_false,Bool.false_eq_true,if_false]
 rw[if_pos (by simpa using hne)]
 refine xbq (xln ha h1 ?_)
 refine xbq (xln hb h2 ?_)
 unfold mayBeOne
 refine xbq (xbq (xi3 ha h1 (xbq (xi3 hb h2 ?_))))
 refine xbq (xbq (xfk ha h1 (xcq ?_)))
 refine xbq (xbq (xfk hb h2 (xcq (xcq ?_))))
 simp only[Bool.false_and,Bool.or_self,Bool.false_eq_true,if_false]
 have e:(a.block==b.block)=false:=by simpa using hne
 rw[e]
 exact xcq k
end
section
variable{X:Cx}{k:List Item}{ops rest:List Oper}{m:Ks}{l:Env}{p:PHeap}{LF LL LR L3:List Pcs}{effs todo:List Nat}{d:Option Tmp}{dd:Nat}{ty:TypeId}{pos:String}{aft:Array Edge}{gd:Option (Nat×Bool)}{g:Option Bool}{ss ss':List Prop}{x y y2:Operand}{i:Nat}{v:Value}{T T' t:TypeId}{w:Nat}{es news:List (List Value)}{Y Z:Pcs}
theorem yzn{gf:FuncId}{fn:Func}{tS tR eT:TypeId}{ats:Array TypeId}{la ca lb cb i j b1 b2 o1 o2:Nat}{cs1 cs2:Array Value}{e1 e2:TypeId}{sp1 sp2:Option Nat}(hf:X.P.funcs[gf]?=some fn)(he:Extern.find fn=some (Extern.SlicesOverlaps.overlaps #[tS,tS] #[tR]))(hx:evS l x=some ([],.func (.func gf) #[] #[]))
 (hy:evS l y=some ([],.slice (some ⟨b1,o1,sp1⟩) la ca))(hy2:evS l y2=some ([],.slice (some ⟨b2,o2,sp2⟩) lb cb))(hL1:LL.flatten[i]?=some (b1,.cells cs1 e1 (0,0)))(h1:0<cs1.size)(hL2:LL.flatten[j]?=some (b2,.cells cs2 e2 (0,0)))(h2:0<cs2.size)(hne:i≠j)[hT:SlcC X.P tS eT][hs:SizeC X.P eT w](n:RO X k ops rest (ent d none (.bool false) l) p LL)
 (hname : (fn.name == "runtime.NumGoroutine") = false := by kernel_rfl)(hb : fn.body.isNone = true := by kernel_rfl)(hn : Extern.findNext fn = none := by kernel_rfl): RO X k ops (⟨d, .call ⟨.value x, #[y, y2], ats⟩, ty, pos, aft, none⟩ :: rest) l p LL :=
 xdx (g:=none) rfl rfl (fun _ h' E s=>yuj (args:=[y,y2]) hf hname hb hn he (xdq E hx trivial) (by simp only[List.map_cons,List.map_nil,xdq E hy trivial,xdq E hy2 trivial];rfl) (xbt hT.h hs.h (fun e=>hne (by
  obtain⟨l1,q1⟩:=List.getElem?_eq_some_iff.1 hL1
  obtain⟨l2,q2⟩:=List.getElem?_eq_some_iff.1 hL2
  have nd:=List.pairwise_iff_getElem.1 s.nod
  have e:b1=b2:=e
  refine Classical.byContradiction fun q=>?_
  rcases Nat.lt_or_gt_of_ne q with q|q
  ·exact nd i j (by rw[List.length_map];exact l1) (by rw[List.length_map];exact l2) q (by rw[List.getElem_map,List.getElem_map,q1,q2];exact e)
  ·exact nd j i (by rw[List.length_map];exact l2) (by rw[List.length_map];exact l1) q (by rw[List.getElem_map,List.getElem_map,q1,q2];exact e.symm))) (s.at hL1) h1 (s.at hL2) h2 ⟨rfl,rfl⟩)) n
theorem yqp{sT xT eT:TypeId}{by' q m c:Nat}{a:Option Addr}{z:Value}(hx:evS l x=some ([],.slice a q c))(hy:evS l y=some ([],.int .i64 ((m:Nat):Int)))(S:Sl p a q w es)(hc:c<q+m)(hm0:0<m)(room:(q+m)*by'<=2^40)
 [hT:SlcC X.P sT eT][hs:SizeC X.P eT w][hz:ZeroC X.P eT z][hb:ByC X.P eT by'](nx:∀v' Y' zs,zs.length=m->OwnS eT w v' (es++zs) Y'->RO X k ops rest ((dd,none,v')::l) p (Y'::LL))
 (hzs:z.cells.size=w:=by rfl)(hb2:0<by'/\by'<=2^20:=by decide)(hw0:0<w:=by decide)(hX:X.P.underlying xT=some (.int .i64):=by kernel_rfl):RO X k ops (⟨some dd,.call ⟨.builtin .append,#[x,y],#[sT,xT]⟩,ty,pos,aft,none⟩::rest) l p LL:=⟨fun ok tm ht E=>
 xfj (K:=fun v' h'=>∃Y' zs,(zs.length=m/\OwnS eT w v' (es++zs) Y')/\St X.h₀ X.B₀ p h' (Y'++LL.flatten)) (xoq rfl) rfl (fun h s=>by
  unfold Ex
  simp only[execOp,resolve]
  refine xbq (xcq ?_)
  simp only[invoke,builtin]
  refine xbq ?_
  have e:(#[x,y]:Array Operand).map (evl tm)=#[.slice a q c,.int .i64 ((m:Nat):Int)]:=by
   simp only[List.map_toArray,List.map_cons,List.map_nil,xdq E hx trivial,xdq E hy trivial]
  rw[e]
  refine xi1 hT.h hs.h hz.h hzs hw0 hb.h hX S s hc hm0 room hb2 fun v' Y' h' zs hz' o' s'=>?_
  exact xcq ⟨v',rfl,Y',zs,⟨hz',o'⟩,s'⟩) fun v'=>xwj fun Y'=>xwj fun zs=>xgz fun o'=>(nx v' Y' zs o'.1 o'.2).run (xhq ok).1 _ (by simp[putl,ht]) (E.set (g:=none) (ht ▸ xvv ok rfl))⟩
theorem yuq{dT xT eT:TypeId}{q c off dl dc N cap b:Nat}{a:Option Addr}(hx:evS l x=some ([],.slice (some ⟨b,off*w,none⟩) dl dc))(hy:evS l y=some ([],.slice a q c))(o:OwnS T w (.slice (some ⟨b,0,none⟩) N cap) es Y)(S:Sl p a q w news)(hN:es.length=N)(hpos:0<N)(hq:q<=dl)(hoff:off+q<=N)(h1:∀u∈news.flatten,isOne u=true)[i1:Rm LL Y LR][hT:SlcC X.P dT eT][hs:SizeC X.P eT w]
 (nx:∀Y',OwnS T w (.slice (some ⟨b,0,none⟩) N cap) (es.take off++(news++es.drop (off+q))) Y'->RO X k ops rest ((dd,none,.int .i64 ((q:Nat):Int))::l) p (Y'::LR))(hw0:0<w:=by decide):RO X k ops (⟨some dd,.call ⟨.builtin .copy,#[x,y],#[dT,xT]⟩,ty,pos,aft,none⟩::rest) l p LL:=⟨fun ok tm ht E=>by
 subst hN
 refine xfj (K:=fun v' h'=>v'=.int .i64 ((q:Nat):Int)/\ ∃Y',OwnS T w (.slice (some ⟨b,0,none⟩) es.length cap) (es.take off++(news++es.drop (off+q))) Y'/\St X.h₀ X.B₀ p h' (Y'++LR.flatten)) (xoq rfl) rfl (fun h s=>?_) fun v'=>xgz fun e=>by
  subst e
  exact xwj fun Y'=>xgz fun o'=>(nx Y' o').run (xhq ok).1 _ (by simp[putl,ht]) (E.set (g:=none) (ht ▸ xvv ok rfl))
 unfold Ex
 simp only[execOp,resolve]
 refine xbq (xcq ?_)
 simp only[invoke,builtin]
 refine xbq ?_
 have e:(#[x,y]:Array Operand).map (evl tm)=#[.slice (some ((adrV (.slice (some ⟨b,0,none⟩) es.length cap)).add (off*w))) dl dc,.slice a q c]:=by
  simp only[List.map_toArray,List.map_cons,List.map_nil,xdq E hx trivial,xdq E hy trivial]
  show _=#[Value.slice (some ((⟨b,0,none⟩:Addr).add (off*w))) dl dc,_]
  rw[xrx,Nat.zero_add]
 rw[e]
 have src:=xeg (P:=X.P) (cap:=c) (s.rm i1) hw0 S
 refine xmb hT.h hs.h o (s.rm i1) hpos (Nat.min_eq_left hq) src.lenOf src.cells src.len src.wid h1 hoff fun h' Y' o' s'=>?_
 exact xcq ⟨_,rfl,rfl,Y',o',s'⟩⟩
theorem ylp{dT xT eT:TypeId}{q off j dl dc sl sc N cap b:Nat}(hx:evS l x=some ([],.slice (some ⟨b,off*w,none⟩) dl dc))(hy:evS l y=some ([],.slice (some ⟨b,j*w,none⟩) sl sc))(o:OwnS T w (.slice (some ⟨b,0,none⟩) N cap) es Y)(hN:es.length=N)(hpos:0<N)(hq:Nat.min sl dl=q)(hoff:off+q<=N)(hj:j+q<=N)(h1:∀u∈((es.drop j).take q).flatten,isOne u=true)[i1:Rm LL Y LR][hT:SlcC X.P dT eT][hs:SizeC X.P eT w]
 (nx:∀Y',OwnS T w (.slice (some ⟨b,0,none⟩) N cap) (es.take off++((es.drop j).take q++es.drop (off+q))) Y'->RO X k ops rest ((dd,none,.int .i64 ((q:Nat):Int))::l) p (Y'::LR)):RO X k ops (⟨some dd,.call ⟨.builtin .copy,#[x,y],#[dT,xT]⟩,ty,pos,aft,none⟩::rest) l p LL:=⟨fun ok tm ht E=>by
 subst hN
 refine xfj (K:=fun v' h'=>v'=.int .i64 ((q:Nat):Int)/\ ∃Y',OwnS T w (.slice (some ⟨b,0,none⟩) es.length cap) (es.take off++((es.drop j).take q++es.drop (off+q))) Y'/\St X.h₀ X.B₀ p h' (Y'++LR.flatten)) (xoq rfl) rfl (fun h s=>?_) fun v'=>xgz fun e=>by
  subst e
  exact xwj fun Y'=>xgz fun o'=>(nx Y' o').run (xhq ok).1 _ (by simp[putl,ht]) (E.set (g:=none) (ht ▸ xvv ok rfl))
 unfold Ex
 simp only[execOp,resolve]
 refine xbq (xcq ?_)
 simp only[invoke,builtin]
 refine xbq ?_
 have e:(#[x,y]:Array Operand).map (evl tm)=#[.slice (some ((adrV (.slice (some ⟨b,0,none⟩) es.length cap)).add (off*w))) dl dc,.slice (some ⟨b,j*w,none⟩) sl sc]:=by
  simp only[List.map_toArray,List.map_cons,List.map_nil,xdq E hx trivial,xdq E hy trivial]
  show _=#[Value.slice (some ((⟨b,0,none⟩:Addr).add (off*w))) dl dc,_]
  rw[xrx,Nat.zero_add]
 rw[e]
 have hwt:∀e∈(es.drop j).take q,e.length=w:=fun e he=>o.1 e (List.mem_of_mem_drop (List.mem_of_mem_take he))
 refine xmb (m:=sl) hT.h hs.h o (s.rm i1) hpos hq (fun K hK=>xcq hK) (yrg (L₁:=[]) o (s.rm i1) hj) (by rw[List.length_take,List.length_drop];omega) hwt h1 hoff fun h' Y' o' s'=>?_
 exact xcq ⟨_,rfl,rfl,Y',o',s'⟩⟩
end
section
variable{X:Cx}{k:List Item}{ops rest:List Oper}{m:Ks}{l:Env}{p:PHeap}{LF LL LR L3:List Pcs}{effs todo:List Nat}{d:Option Tmp}{dd:Nat}{ty:TypeId}{pos:String}{aft:Array Edge}{gd:Option (Nat×Bool)}{x y y2:Operand}{i:Nat}{v:Value}{t:TypeId}{Y Z:Pcs}
theorem ykm{P:Program}{h:Heap}{tm:List Value}{e:TypeId}{a:Option Addr}{n c:Nat}(ht:P.underlying t=some (.slice e))(hx:evl tm x=.slice a n c):
 Exd P tm ⟨d,.call {callee:=.builtin .cap,args:=#[x],argTypes:=#[t]},ty,pos,aft,gd⟩ h (.int .i64 c):=by
 refine xaj (s:=Builtin.cap_ #[t] ty #[.slice a n c]) (fun cs=>by simp only[builtin,List.map_toArray,List.map_cons,List.map_nil,hx]) ?_
 simp only[Builtin.cap_]
 refine xbq (xeq ht ?_)
 exact xcq ⟨rfl,rfl⟩
theorem ynp{e:TypeId}{a:Option Addr}{q c:Nat}(hx:evS l x=some ([],.slice a q c))[f:SlcC X.P t e](n:RO X k ops rest (ent d none (.int .i64 ((c:Nat):Int)) l) p LL):
 RO X k ops (⟨d,.call ⟨.builtin .cap,#[x],#[t]⟩,ty,pos,aft,none⟩::rest) l p LL:=xdx (g:=none) rfl rfl (fun _ _ E _=>ykm f.h (xdq E hx trivial)) n
theorem OwnS.blk{T:TypeId}{w b n cap:Nat}{es:List (List Value)}{Y:Pcs}(o:OwnS T w (.slice (some ⟨b,0,none⟩) n cap) es Y):∃cs:Array Value,Y=[(b,.cells cs T (0,0))]/\cs.size=cap*w:=by
 obtain⟨hw,⟨e,-,-⟩|⟨b,cs,cap,rest,e,rfl,hcs,hlen,hcap⟩⟩:=o
 ·cases e
 injection e with e1 e2 e3
 cases e1
 subst e3
 exact⟨_,rfl,by simpa using hlen⟩
theorem yrs{args:List Operand}{ats:Array TypeId}{ff:FuncId}{first cap vs:List Value}{Q:Value->Pcs->Prop}(Y Z:Pcs)[ii:Rm LL Y L3][jj:Rm L3 Z LR](ho:ops[i]?=some ⟨d,.call ⟨.value x,args.toArray,ats⟩,ty,pos,aft,none⟩)
 (hx:evS l x=some ([],.func (.func ff) first.toArray cap.toArray))(hvs:evsS l args=some ([],vs))(hc:∀h C,St X.h₀ X.B₀ p h ((Y++Z)++C)->CallsX X.P X.md ff (first++(vs++cap)).toArray h fun v' h'=>∃Y',Q v' Y'/\St X.h₀ X.B₀ p h' (Y'++C))(n:∀v Y',Q v Y'->DE X k ops m p LF effs todo (ent d none v l) (Y'::LR))
 (he:effs.contains i=true:=by rfl)(hf:callable X.P ff=true:=by kernel_rfl):DE X k ops m p LF effs (i::todo) l LL:=
 ⟨.eff (U:=Y++Z) (LR:=LR) (Q:=Q) ho (by simpa using he) (by simpa[List.append_assoc]using ii.h.trans (List.Perm.append_left Y jj.h)) (fun _ _ E=>⟨rfl,xoq rfl,fun C h s=>.inr <| .inl ⟨ff,_,xrv (xdq E hx trivial) (by rw[xlx E hvs trivial]) hf,hc h _ s⟩⟩) fun v Y' q=>(n v Y' q).run⟩
end
section
variable{X:Cx}{k:List Item}{ops rest:List Oper}{l:Env}{p:PHeap}{LL:List Pcs}{d:Option Tmp}{ty:TypeId}{pos:String}{aft:Array Edge}{gd:Option (Nat×Bool)}{x y y2:Operand}{t:TypeId}{w:Nat}
theorem xr2{P:Program}{h:Heap}{tm:List Value}{e:TypeId}{z:Operand}{n j c:Nat}{k k':IntKind}{a:Option Addr}(ht:P.underlying t=some (.slice e))(hs:sizeT P e=some w)(hx:evl tm x=.slice a n c)
 (hy:evl tm y=.int k ((j:Nat):Int))(hz:evl tm z=.int k' ((j:Nat):Int))(h2:j<=c):Exd P tm ⟨d,.slice t x none (some y) (some z),ty,pos,aft,gd⟩ h (.slice a j j):=by
 refine xuz (s:=Instr.sliceAt t (.slice a n c) none (some (.int k ((j:Nat):Int))) (some (.int k' ((j:Nat):Int)))) (by simp only[execOp,hx,hy,hz,Option.map_none,Option.map_some]) ?_
 unfold Instr.sliceAt
 refine xbq (xeq ht ?_)
 simp only
 unfold Instr.slice
 refine xbq (xeq ht ?_)
 simp only
 refine xbq (xfx (K:=fun q h'=>q=(0,j,j)/\h'=h) ?_ fun q h'⟨eq,eh⟩=>?_)
 ·unfold Instr.sliceBounds
  refine xbq (xhz (Int.natCast_nonneg _) om ?_)
  rw[Int.toNat_natCast]
  simp only
  refine xbq (xhz (Int.natCast_nonneg _) om ?_)
  rw[Int.toNat_natCast]
  exact xbq (xcq (xcq ⟨rfl,rfl⟩))
 ·subst eq;subst eh
  simp only
  refine xbq (xwq hs ?_)
  refine xcq ⟨?_,rfl⟩
  have:=ycd a j w
  unfold cutA at this
  rw[this,Nat.sub_zero]
theorem yfh{e:TypeId}{n j c:Nat}{a:Option Addr}{k1 k2:IntKind}(hx:evS l x=some ([],.slice a n c))(hy:evS l y=some ([],.int k1 ((j:Nat):Int)))(hz:evS l y2=some ([],.int k2 ((j:Nat):Int)))(hc:j<=c)[f:SlcC X.P t e][sz:SizeC X.P e w]
 (nx:RO X k ops rest (ent d none (.slice a j j) l) p LL):RO X k ops (⟨d,.slice t x none (some y) (some y2),ty,pos,aft,none⟩::rest) l p LL:=
 xdx (g:=none) rfl rfl (fun _ _ E _=>xr2 f.h sz.h (xdq E hx trivial) (xdq E hy trivial) (xdq E hz trivial) hc) nx
end
end Go.X
