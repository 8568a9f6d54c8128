/-
  Part of proofs about a town's master: a calculus for Bc beside goroutines that are only leaving, and the Bc. No condition.
-/
import Derived.Test.YtofhlcococeifaaGreatDoorYA
import Derived.Lib.UnsafeStr
set_option maxHeartbeats 1600000
namespace Go.X
open Go.Conc
variable{ms:Array (String×TypeId)}{lex:Array Bool}{aft:Array Edge}{ats:Array TypeId}{cs:Array Value}{assign body:Code}{zq:Frame}{fn:Func}{f ff gf:FuncId}{h h' z9:Heap}{Φ:Heap->Prop}{k' k1 k2 kk:IntKind}{cl:List (List Nat)}{es news xs:List (List Value)}{pl:List (Nat×Nat)}{parts:List (Nat×Operand)}{df:List Deferred}{done effs rs₀ todo zz:List Nat}{ops os rest:List Oper}{args:List Operand}{L0 L4:List Pcs}{ss ss':List Prop}{rs rv:List ResultVar}{params:List Tmp}{cap first tm tm' tmc tmv vs zc:List Value}{md:Md}{N b by' dc dd i id j m₀ n nn nsz off w:Nat}{piece:Nat->Pcs}{z:Nat×Nat}{o':Obj}{op:Op}{o:Oper}{fop x y y2:Operand}{gd:Option (Nat×Bool)}{g:Option Bool}{d:Option Tmp}{p p' p₀:Ab}{A C U Y Z:Pcs}{P:Program}{name:String}{D:TypeDesc}{E T T' dT dst e1 e2 eT eX pt s sT src t t2 tR tS te ty xT:TypeId}{fv u v x':Value}{K R R':Value->Heap->Prop}{Q:Value->Pcs->Prop}
abbrev Env:=List (Nat×Option Bool×Value)
variable{l l':Env}
def cv:Option Bool->Value->Value
 |none,v=>v
 |some c,v=>bif c then v else undef
def lk:Env->Nat->Option (Option Bool×Value)
 |[],_=>none
 |(j,x)::l,i=>bif Nat.beq j i then some x else lk l i
def B0(tm:List Value)(l:Env):Prop:=∀i g v,lk l i=some (g,v)->tm[i]?=some (cv g v)
theorem B0.set{tm:List Value}{l:Env}{d:Nat}{g:Option Bool}{v:Value}(E:B0 tm l)(H:d<tm.length):B0 (tm.set d (cv g v)) ((d,g,v)::l):=by
 intro i g' v' h;unfold lk at h;by_cases e:d=i
 ·subst e;rw[show Nat.beq d d=true from Nat.beq_refl d]at h;cases h;rw[List.getElem?_set_self H]
 ·rw[show Nat.beq d i=false from by rw[Bool.eq_false_iff];intro z;exact e (Nat.eq_of_beq_eq_true z)]at h;rw[List.getElem?_set_ne e];exact E i g' v' h
def Bl:List Prop->Prop
 |[]=>True
 |p::ps=>p/\Bl ps
theorem xfb{a b:List Prop}(h:Bl (a++b)):Bl a/\Bl b:=by
 induction a with
 |nil=>exact⟨trivial,h⟩
 |cons x a ih=>exact⟨⟨h.1,(ih h.2).1⟩,(ih h.2).2⟩
def evS(l:Env):Operand->Option (List Prop×Value)
 |.tmp t=>match lk l t with
   |some (none,v)=>some ([],v)
   |some (some c,v)=>some ([c=true],v)
   |none=>none
 |.const v=>some ([],v)
 |.global g=>some ([],w_ g 0)
 |.func f=>some ([],.func (.func f) #[] #[])
theorem xdq(E:B0 tm l)(h:evS l x=some (ss,v))(hs:Bl ss):evl tm x=v:=by
 cases x with
 |tmp t=>
   simp only[evS]at h;cases e:lk l t with
   |none=>rw[e]at h;cases h
   |some q=>
     obtain⟨g,u⟩:=q;have H:=E t g u e;rw[e]at h;cases g with
     |none=>
       cases h;simp[evl,List.getD_eq_getElem?_getD,H,cv]
     |some c=>
       cases h;have hc:c=true:=hs.1;subst hc;simp[evl,List.getD_eq_getElem?_getD,H,cv]
 |const u=>simp[evS]at h;simp[evl,h.2]
 |global g=>simp[evS]at h;simp[evl,h.2]
 |func g=>simp[evS]at h;simp[evl,h.2]
def D4(l:Env):List Operand->Option (List Prop×List Value)
 |[]=>some ([],[])
 |x::xs=>match evS l x with
   |some (s,v)=>match D4 l xs with
     |some (ss,vs)=>some (s++ss,v::vs)
     |none=>none
   |none=>none
theorem xlx{tm:List Value}{l:Env}(E:B0 tm l):∀{xs:List Operand}{ss:List Prop}{vs:List Value},D4 l xs=some (ss,vs)->Bl ss->xs.map (evl tm)=vs
 |[],ss,vs,h,_=>by simp[D4]at h;simp[h.2]
 |x::xs,ss,vs,h,hs=>by
   unfold D4 at h;split at h
   ·rename_i s v e1;split at h
    ·rename_i ss' H e2;cases h;have a:=xfb hs;rw[List.map_cons,xdq E e1 a.1,xlx E e2 a.2]
    ·cases h
   ·cases h
def pvI(k:IntKind)(a b:Int):BinOp->Option (List Prop×Value)
 |.add=>some ([k.wrap (a+b)=a+b],.int k (a+b))
 |.sub=>some ([k.wrap (a-b)=a-b],.int k (a-b))
 |.mul=>some ([k.wrap (a*b)=a*b],.int k (a*b))
 |.lss=>some ([],.bool (decide (a<b)))
 |.leq=>some ([],.bool (decide (a<=b)))
 |.gtr=>some ([],.bool (decide (b<a)))
 |.geq=>some ([],.bool (decide (b<=a)))
 |.eql=>some ([],.bool (decide (a=b)))
 |.neq=>some ([],.bool (decide (a≠b)))
 |_=>none
def Pr(k k':IntKind):Bool:=decide (k=k')
def pvB(op:BinOp)(s H:List Prop):Value->Value->Option (List Prop×Value)
 |.int k a,.int k' b=>match Pr k k' with
   |true=>match pvI k a b op with
     |some (ss,v)=>some (s++(H++ss),v)
     |none=>none
   |false=>none
 |_,_=>none
def pvP(l:Env)(a b:Operand)(s:List Prop)(x:Bool):Option (List Prop×Value):=
 match a,b with
 |.const (.bool true),y=>match evS l y with
   |some (s',.bool y)=>some (s++[x=false->Bl s'],.bool (x||y))
   |_=>none
 |y,.const (.bool false)=>match evS l y with
   |some (s',.bool y)=>some (s++[x=true->Bl s'],.bool (x&&y))
   |_=>none
 |_,_=>none
def pv(l:Env):Op->Option (List Prop×Value)
 |.move x=>evS l x
 |.assign x=>evS l x
 |.binOp op _ x y _=>match evS l x with
   |some (s,a)=>match evS l y with
     |some (s',b)=>pvB op s s' a b
     |none=>none
   |none=>none
 |.unOp .not _ x=>match evS l x with
   |some (s,.bool b)=>some (s,.bool (!b))
   |_=>none
 |.unOp .neg _ x=>match evS l x with
   |some (s,.int k a)=>some (s++[k.wrap (0-a)= -a],.int k (-a))
   |_=>none
 |.extract x i=>match evS l x with
   |some (s,.tuple vs)=>match vs[i]? with
     |some v=>some (s,v)
     |none=>none
   |_=>none
 |.pick c a b=>match evS l c with
   |some (s,.bool x)=>pvP l a b s x
   |_=>none
 |_=>none
section
variable{pos:String}
theorem yqt{op:BinOp}{k:IntKind}{a b:Int}(hv:pvI k a b op=some (ss,v))(hs:Bl ss)(H:evl tm x=.int k a)(M:evl tm y=.int k b):
 Exd P tm ⟨d,.binOp op T x y T',ty,pos,aft,gd⟩ h v:=by
 cases op<;>simp only[pvI,Option.some.injEq,Prod.mk.injEq,reduceCtorEq]at hv<;>obtain⟨rfl,rfl⟩:=hv
 ·exact yuv H M hs.1
 ·exact ymv H M hs.1
 ·exact ynv H M hs.1
 ·exact yqp H M
 ·exact yhp H M
 ·exact ymp H M
 ·exact ynp H M
 ·exact yop H M
 ·exact ypp H M
theorem yt3(E:B0 tm l)(hv:pv l op=some (ss,v))(hs:Bl ss):Exd P tm ⟨d,op,ty,pos,aft,gd⟩ h v:=by
 cases op<;>simp only[pv,reduceCtorEq]at hv
 case move x=>exact yrf (xdq E hv hs)
 case assign x=>exact ypq (xdq E hv hs)
 case binOp op T x y T'=>
  split at hv
  ·rename_i s a e1;split at hv
   ·rename_i H b e2;unfold pvB at hv;split at hv
    ·rename_i k a k' b;split at hv
     ·rename_i O;obtain rfl:k=k':=of_decide_eq_true O;split at hv
      ·rename_i ss' v' V;cases hv;have z:=xfb hs;have M:=xfb z.2;exact yqt V M.2 (xdq E e1 z.1) (xdq E e2 M.1)
      ·cases hv
     ·cases hv
    ·cases hv
   ·cases hv
  ·cases hv
 case unOp op T x=>
  cases op<;>simp only[reduceCtorEq]at hv
  ·split at hv
   ·rename_i s k a e1;cases hv;have z:=xfb hs;exact xb4 (xdq E e1 z.1) z.2.1
   ·cases hv
  ·split at hv
   ·rename_i s b e1;cases hv;exact ygp (xdq E e1 hs)
   ·cases hv
 case extract x i=>
  split at hv
  ·rename_i s vs e1;split at hv
   ·rename_i u e2;cases hv;exact xwn (xdq E e1 hs) e2
   ·cases hv
  ·cases hv
 case pick c a b=>
  split at hv
  ·rename_i s x e1;unfold pvP at hv;split at hv
   ·split at hv
    ·rename_i H y e2;cases hv;have z:=xfb hs;cases x with
     |true=>exact xsr (xdq E e1 z.1) rfl rfl
     |false=>exact xtr (xdq E e1 z.1) rfl (xdq E e2 (z.2.1 rfl))
    ·cases hv
   ·split at hv
    ·rename_i H y e2;cases hv;have z:=xfb hs;cases x with
     |true=>exact xsr (xdq E e1 z.1) rfl ((xdq E e2 (z.2.1 rfl)).trans s_)
     |false=>exact xtr (xdq E e1 z.1) rfl rfl
    ·cases hv
   ·cases hv
  ·cases hv
end
structure Cx where
 P:Program
 md:Md
 f:FuncId
 r:Rd
 n:Nat
 df:List Deferred
 cs:List Frame
 Stop:Goroutine->Heap->Prop
 z9:Heap
 zz:List Nat
structure RE(X:Cx)(k:List Item)(l:Env)(p:Ab)(LL:List Pcs):Prop where
 run:∀tm:List Value,tm.length=X.n->B0 tm l->RS X.P X.md (G (FL X.f X.r tm X.df k) X.cs) (fun h=>St X.z9 X.zz p h LL.flatten) X.Stop
def okD(n:Nat):List Oper->Bool
 |[]=>true
 |o::os=>match o.dst with
   |some d=>Nat.blt d n&&okD n os
   |none=>okD n os
structure RO(X:Cx)(k:List Item)(ops rest:List Oper)(l:Env)(p:Ab)(LL:List Pcs):Prop where
 run:okD X.n rest=true-> ∀tm:List Value,tm.length=X.n->B0 tm l->RL X.P X.md X.f X.r X.df k X.cs X.Stop ops rest tm (fun h=>St X.z9 X.zz p h LL.flatten)
def gdc(ops:List Oper)(l:Env):Option (Nat×Bool)->Option (Option Bool)
 |none=>some none
 |some (j,w)=>match ops[j]? with
   |some o=>match o.dst with
     |some d=>match lk l d with
       |some (none,.bool b)=>match w with
         |true=>some (some b)
         |false=>some (some (!b))
       |some (some c,.bool b)=>match w with
         |true=>some (some (c&&b))
         |false=>some (some (c&&!b))
       |_=>none
     |none=>none
   |none=>none
def Bn:Option Bool->Prop->Prop
 |none,p=>p
 |some c,p=>c=true->p
def ent:Option Tmp->Option Bool->Value->Env->Env
 |some d,g,v,l=>(d,g,v)::l
 |none,_,_,l=>l
structure Yl(X:Cx)(p:Ab)(B:List Pcs)(l:Env)(g:Option Bool)(op:Op)(v:Value):Prop where
 n:Bq op=true
 h:Bn g (∀tm h C,B0 tm l->St X.z9 X.zz p h (B.flatten++C)-> ∀{d ty pos aft gd},Exd X.P tm ⟨d,op,ty,pos,aft,gd⟩ h v)
theorem xfq(h:okD n (o::os)=true):okD n os=true/\ ∀d,o.dst=some d->d<n:=by
 unfold okD at h;split at h
 ·rename_i d e;simp only[Bool.and_eq_true]at h;exact⟨h.2,fun M H=>by rw[e]at H;cases H;exact Nat.le_of_ble_eq_true h.1⟩
 ·rename_i e;exact⟨h,fun M H=>by rw[e]at H;cases H⟩
theorem B0.ent(E:B0 tm l)(hn:tm.length=n)(H:∀i,d=some i->i<n):B0 (Cz tm d (cv g v)) (ent d g v l):=by
 cases d with
 |none=>exact E
 |some d=>exact E.set (by rw[hn];exact H d rfl)
theorem A0:(Cz tm d v).length=tm.length:=by cases d<;>simp[Cz]
theorem xgv(E:B0 tm l)(h:gdc ops l o.guard=some g):
 (g=none/\Met ops tm o true)\/ ∃c,g=some c/\Met ops tm o c:=by
 cases H:o.guard with
 |none=>
   rw[H]at h;simp only[gdc]at h;cases h;exact .inl ⟨rfl,xoq H⟩
 |some q=>
   obtain⟨j,w⟩:=q;rw[H]at h;simp only[gdc]at h;right;split at h
   ·rename_i o' ho;split at h
    ·rename_i d V;split at h
     ·rename_i b hl;have O:=E _ _ _ hl;have M:Eh ops tm j=some b:=by unfold Eh;simp[ho,V,O,cv]
      cases w<;>exact⟨_,(Option.some.inj h).symm,by cases b<;>simp[Met,H,M]⟩
     ·rename_i c b hl;have O:=E _ _ _ hl;cases c with
      |true=>
        have M:Eh ops tm j=some b:=by unfold Eh;simp[ho,V,O,cv]
        cases w<;>exact⟨_,(Option.some.inj h).symm,by cases b<;>simp[Met,H,M]⟩
      |false=>
        have M:Eh ops tm j=none:=by unfold Eh;simp[ho,V,O,cv,undef]
        cases w<;>exact⟨_,(Option.some.inj h).symm,by simp[Met,H,M]⟩
     ·cases h
    ·cases h
   ·cases h
section
variable{X:Cx}{k:List Item}{LL:List Pcs}{pos:String}
theorem xtb(hg:gdc ops l gd=some g)(O:Bq op=true)(V:Bn g (∀tm h,B0 tm l->St X.z9 X.zz p h LL.flatten->Exd X.P tm ⟨d,op,ty,pos,aft,gd⟩ h v))
 (n:RO X k ops rest (ent d g v l) p LL):RO X k ops (⟨d,op,ty,pos,aft,gd⟩::rest) l p LL:=by
 constructor;intro ok tm ht E;have H:=xfq ok;have go:∀u,u=cv g v->RL X.P X.md X.f X.r X.df k X.cs X.Stop ops rest (Cz tm d u) (fun h=>St X.z9 X.zz p h LL.flatten):=fun u e=>by
  subst e;exact n.run H.1 _ (A0.trans ht) (E.ent ht H.2)
 rcases xgv (o:=⟨d,op,ty,pos,aft,gd⟩) E hg with⟨rfl,M⟩|⟨c,rfl,M⟩
 ·exact yqh M (fun h s=>V tm h E s) rfl (go _ rfl) O
 ·cases c with
  |true=>exact yqh M (fun h s=>V rfl tm h E s) rfl (go _ rfl) O
  |false=>exact xub M rfl (go _ rfl)
theorem xjx{p q:Prop}(h:Bn g p)(i:p->q):Bn g q:=by
 cases g with
 |none=>exact i h
 |some c=>exact fun hc=>i (h hc)
theorem ro_y(H:gdc ops l gd=some g)(y:Yl X p LL l g op v)(n:RO X k ops rest (ent d g v l) p LL):RO X k ops (⟨d,op,ty,pos,aft,gd⟩::rest) l p LL:=
 xtb H y.n (xjx y.h fun z tm h E s=>z tm h [] E (by simpa using s)) n
theorem xm9{q:List Prop×Value}(h:pv l op=some q):Bq op=true:=by cases op<;>first|rfl|(simp[pv]at h)
theorem y_pv(hv:pv l op=some (ss,v))(hs:Bn g (Bl ss)):Yl X p LL l g op v:=⟨(xm9 hv),(xjx hs fun a _ _ _ E _=>yt3 E hv a)⟩
theorem xb6(n:RO X k os os l p LL)(H:okD X.n os=true):RE X (.code (.region id os.toArray false)::k) l p LL:=
 ⟨fun tm M E=>yoc (n.run H tm M E)⟩
theorem ymh(n:RE X k l p LL):RO X k ops [] l p LL:=⟨fun _ tm H E=>yit (n.run tm H E)⟩
theorem yrh{x y:Code}(n:RE X (.code x::.code y::k) l p LL):RE X (.code (.seq x y)::k) l p LL:=⟨fun tm H E=>yq0 (n.run tm H E)⟩
theorem ycj(n:RE X k l p LL):RE X (.code .skip::k) l p LL:=⟨fun tm H E=>yun (n.run tm H E)⟩
theorem xgr(n:RE X k l p LL):RE X (.inBlock id::k) l p LL:=⟨fun tm H E=>ydq (n.run tm H E)⟩
theorem xg6{c:Code}(n:RE X (.code c::.inBlock id::k) l p LL):RE X (.code (.block id c)::k) l p LL:=⟨fun tm H E=>yff (n.run tm H E)⟩
theorem ydn{k':List Item}(H:exitTo id k=some k')(n:RE X k' l p LL):RE X (.code (.exit id)::k) l p LL:=⟨fun tm M E=>yap H (n.run tm M E)⟩
class BP(x:Bool)(q:outParam Prop):Prop where
 iff:x=true<->q
instance{q:Prop}[Decidable q]:BP (decide q) q:=⟨s_⟩
instance:BP true True:=⟨s_⟩
instance:BP false False:=⟨s_⟩
instance{x y:Bool}{a b:Prop}[i:BP x a][j:BP y b]:BP (x||y) (a\/b):=⟨by rw[<- i.iff,<- j.iff];simp⟩
instance{x y:Bool}{a b:Prop}[i:BP x a][j:BP y b]:BP (x&&y) (a/\b):=⟨by rw[<- i.iff,<- j.iff];simp⟩
instance{x:Bool}{a:Prop}[i:BP x a]:BP (!x) (¬ a):=⟨by rw[<- i.iff];simp⟩
instance(priority:=low){x:Bool}:BP x (x=true):=⟨Iff.rfl⟩
theorem xcx{c:Operand}{a b:Code}{x:Bool}{q:Prop}(hc:evS l c=some ([],.bool x))[i:BP x q](M:q->RE X (.code a::k) l p LL)(O:¬ q->RE X (.code b::k) l p LL):RE X (.code (.cond c a b)::k) l p LL:=
 ⟨fun tm H E=>yd4 (xdq E hc trivial) (fun e=>(M (i.iff.1 e)).run tm H E) (fun e=>(O (fun z=>by rw[i.iff.2 z]at e;cases e)).run tm H E)⟩
def Nd(l l':Env):Prop:=match l' with
 |[]=>True
 |(i,x)::l'=>lk l i=some x/\Nd l l'
theorem Nd.ok{tm:List Value}{l:Env}:∀{l':Env},Nd l l'->B0 tm l->B0 tm l'
 |[],_,_=>fun i g v h=>by cases h
 |(j,x)::l',s,E=>fun i g v h=>by
   unfold lk at h;cases e:Nat.beq j i with
   |true=>
     rw[e]at h;obtain rfl:=Nat.eq_of_beq_eq_true e;cases h;exact E _ _ _ s.1
   |false=>rw[e]at h;exact s.2.ok E i g v h
theorem xbx(n:RE X k l' p LL)(s:Nd l l'):RE X k l p LL:=⟨fun tm H E=>n.run tm H (s.ok E)⟩
theorem xhk{LL':List Pcs}(n:RE X k l p' LL')(h:∀h,St X.z9 X.zz p h LL.flatten->St X.z9 X.zz p' h LL'.flatten):RE X k l p LL:=⟨fun tm H E=>xyg (n.run tm H E) h⟩
theorem xhq{c:Code}(I:Nat->Env->Ab->List Pcs->Prop)(start:I m₀ l' p LL)(s:Nd l l')
 (H:∀m l p LL,(∀{m'}l' p' LL',m'<m->I m' l' p' LL'->RE X (.inLoop c::k) l' p' LL')->I m l p LL->RE X (.code c::.inLoop c::k) l p LL):RE X (.code (.loop c)::k) l p LL:=by
 constructor;intro tm ht E;refine yyn (m₀:=m₀) (fun m tm' h=>∃l p LL,(tm'.length=X.n/\B0 tm' l/\I m l p LL)/\St X.z9 X.zz p h LL.flatten) (fun h y=>⟨l',p,LL,⟨ht,s.ok E,start⟩,y⟩) ?_;intro m tm' ih;refine xf9 fun V=>xf9 fun p1=>xf9 fun L1=>ykh fun⟨h1,h2,h3⟩=>?_;exact(H m V p1 L1 (fun{m'}l' p' LL' lt i=>⟨fun O M E2 h y=>ih m' O lt h ⟨l',p',LL',⟨M,E2,i⟩,y⟩⟩) h3).run tm' h1 h2
theorem xnq{c:Code}(I:Nat->Env->Prop)(start:I m₀ l')(s:Nd l l')
 (H:∀m l,(∀{m'}l',m'<m->I m' l'->RE X (.inLoop c::k) l' p LL)->I m l->RE X (.code c::.inLoop c::k) l p LL):RE X (.code (.loop c)::k) l p LL:=
 xhq (fun m l p' L'=>I m l/\p'=p/\L'=LL) ⟨start,rfl,rfl⟩ s fun m l _ _ M⟨i,e1,e2⟩=>by subst e1;subst e2;exact H m l (fun l' lt i=>M l' _ _ lt ⟨i,rfl,rfl⟩) i
structure Hid(K:Prop):Prop where
 out:K
theorem sb{p:Prop}(h:p:=by repeat (first|exact trivial|refine⟨rfl,?_⟩)):p:=h
theorem gd2{c:Bool}{q p:Prop}[i:BP c q](h:c=true->q->p):Bn (some c) p:=fun e=>h e (i.iff.1 e)
theorem Ox{a b:Bool}(h:(a&&b)=true):a=true:=by cases a<;>simp_all
theorem P5{a b:Bool}(h:(a&&b)=true):b=true:=by cases a<;>simp_all
def nth:List Value->Nat->Option Value
 |[],_=>none
 |v::_,0=>some v
 |_::l,i+1=>nth l i
theorem xlr:∀{l:List Value}{i:Nat}{v:Value},nth l i=some v->l[i]?=some v
 |[],_,_,h=>by cases h
 |_::_,0,_,h=>h
 |_::l,_+1,_,h=>xlr (l:=l) h
end
class Bx(LL:List Pcs)(b:Nat)(o:outParam Obj)(LR:outParam (List Pcs)):Prop where h:LL.flatten.Perm ((b,o)::LR.flatten)
instance(priority:=high){LL:List Pcs}{b:Nat}{o:Obj}:Bx ([(b,o)]::LL) b o LL:=⟨List.Perm.refl _⟩
instance{LL LR:List Pcs}{X:Pcs}{b:Nat}{o:Obj}[i:Bx LL b o LR]:Bx (X::LL) b o (X::LR):=
 ⟨(List.Perm.append_left X i.h).trans s_⟩
class Rm(LL:List Pcs)(Y:Pcs)(LR:outParam (List Pcs)):Prop where h:LL.flatten.Perm (Y++LR.flatten)
instance(priority:=high){LL:List Pcs}{Y:Pcs}:Rm (Y::LL) Y LL:=⟨List.Perm.refl _⟩
instance{LL LR:List Pcs}{X Y:Pcs}[i:Rm LL Y LR]:Rm (X::LL) Y (X::LR):=
 ⟨(List.Perm.append_left X i.h).trans (by simpa[<- List.append_assoc]using List.Perm.append_right LR.flatten (List.perm_append_comm (l₁:=X) (l₂:=Y)))⟩
inductive RmI:List Pcs->Pcs->List Pcs->Prop
 |head {LL:List Pcs} {Y Y':Pcs} (e:Y=Y'):RmI (Y::LL) Y' LL
 |tail {LL LR:List Pcs} {X Y:Pcs} (i:RmI LL Y LR):RmI (X::LL) Y (X::LR)
theorem RmI.ok{LL LR:List Pcs}{Y:Pcs}(i:RmI LL Y LR):LL.flatten.Perm (Y++LR.flatten):=by
 induction i with
 |head e=>subst e;exact List.Perm.refl _
 |@tail LL LR X Y i ih=>exact(List.Perm.append_left X ih).trans (by simpa[<- List.append_assoc]using List.Perm.append_right LR.flatten (List.perm_append_comm (l₁:=X) (l₂:=Y)))
inductive Mx:List Pcs->List Pcs->Prop
 |nil {LL:List Pcs}:Mx LL []
 |cons {LL LR LL':List Pcs} {Y:Pcs} (i:RmI LL Y LR) (s:Mx LR LL'):Mx LL (Y::LL')
theorem Mx.ok{LL LL':List Pcs}(s:Mx LL LL'):∃R,LL.flatten.Perm (LL'.flatten++R):=by
 induction s with
 |@nil LL=>exact⟨LL.flatten,List.Perm.refl _⟩
 |@cons LL LR LL' Y i s ih=>
   obtain⟨R,h⟩:=ih;exact⟨R,i.ok.trans (by rw[List.flatten_cons,List.append_assoc];exact List.Perm.append_left Y h)⟩
theorem sl{p:Prop}(h:p:=by repeat (first|exact Mx.nil|apply Mx.cons|exact RmI.head rfl|apply RmI.tail)):p:=h
section
variable{LL LR:List Pcs}{o:Obj}
theorem St.bx(i:Bx LL b o LR)(s:St z9 zz p h LL.flatten):St z9 zz p h ((b,o)::LR.flatten):=s.perm i.h
theorem St.rm(i:Rm LL Y LR)(s:St z9 zz p h LL.flatten):St z9 zz p h (Y++LR.flatten):=s.perm i.h
end
theorem yot{X:Cx}{k:List Item}{LL LL':List Pcs}(n:RE X k l' p LL')(s:Nd l l':=by repeat (first|exact trivial|refine⟨rfl,?_⟩))(i:Mx LL LL':=by repeat (first|exact Mx.nil|apply Mx.cons|exact RmI.head rfl|apply RmI.tail)):RE X k l p LL:=
 xbx (xhk n fun _ y=>by
  obtain⟨R,e⟩:=i.ok;exact(y.perm e).sub (List.sublist_append_left _ _)) s
section
variable{X:Cx}{k:List Item}{LL LR:List Pcs}{pos:String}
theorem xnk{p q r:Prop}(h:Bn g p)(h':Bn g q)(i:p->q->r):Bn g r:=by
 cases g with
 |none=>exact i h h'
 |some c=>exact fun hc=>i (h hc) (h' hc)
theorem xul{LF LR:List Pcs}{o:Obj}(i:Bx LF b o LR):(LF.flatten++C).Perm ((b,o)::(LR.flatten++C)):=List.Perm.append_right C i.h
theorem y_ld(H:evS l x=some (ss,w_ b off))(hs:Bn g (Bl ss))[a:Cd X.P t false][mm:Bx LL b (.cells cs T z) LR](hv:nth cs.toList off=some u:=by rfl):Yl X p LL l g (.load t x) u:=⟨rfl,(xjx hs fun hs _ _ _ E s=>xel (i:=0) (s.perm (xul mm)) a.h (xdq E H hs) rfl (by rw[<- Array.getElem?_toList];exact xlr hv))⟩
theorem ycx(H:evS l x=some (ss,w_ b off))(hs:Bn g (Bl ss))[a:Cd X.P t true][sz:Ak X.P t nn][mm:Bx LL b (.cells cs T z) LR](hn:((cs.toList.drop off).take nn).length=nn:=by rfl):Yl X p LL l g (.load t x) (.agg ((cs.toList.drop off).take nn).toArray):=⟨rfl,(xjx hs fun hs _ _ _ E s=>xmg (i:=0) (s.perm (xul mm)) a.h sz.h (xdq E H hs) rfl rfl hn)⟩
theorem xdj{a:Addr}(H:evS l x=some (ss,.pointer (some a)))(hs:Bn g (Bl ss))(hv:Bn g (Aw p a=some u))[ag:Cd X.P t false]:Yl X p LL l g (.load t x) u:=⟨rfl,(xnk hs hv fun hs hv _ _ _ E s=>xdl s ag.h (xdq E H hs) hv)⟩
theorem xud{a:Addr}(H:evS l x=some (ss,.pointer (some a)))(hs:Bn g (Bl ss))(hv:Bn g (∀j v,vs[j]?=some v->Aw p (a.add j)=some v))[ag:Cd X.P t true][sz:Ak X.P t nn](hn:vs.length=nn:=by rfl):Yl X p LL l g (.load t x) (.agg vs.toArray):=⟨rfl,(xnk hs hv fun hs hv _ _ _ E s=>xlg s ag.h sz.h (xdq E H hs) hn hv)⟩
theorem y_fa{H:Nat}{a:Addr}(M:evS l x=some (ss,.pointer (some a)))(hs:Bn g (Bl ss))[f:B4 X.P s i H nn]:Yl X p LL l g (.fieldAddr s x i) (.pointer (some (a.add H))):=⟨rfl,(xjx hs fun hs _ _ _ E _=>xpg f.h (xdq E M hs) rfl)⟩
theorem ypl{e:TypeId}{a:Option Addr}{m c:Nat}(H:evS l x=some (ss,.slice a m c))(hs:Bn g (Bl ss))[f:Ca X.P t e]:Yl X p LL l g (.call ⟨.builtin .len,#[x],#[t]⟩) (.J m):=⟨rfl,(xjx hs fun hs _ _ _ E _=>ypv f.h (xdq E H hs))⟩
theorem xs8{e:TypeId}{a:Option Addr}{m c:Nat}(M:evS l x=some (ss,.slice a m c))(O:evS l y=some (ss',.int kk (i:Nat)))(hs:Bn g (Bl ss))(H:Bn g (Bl ss'))(hi:Bn g (i<m/\a=some (adr a)))[f:Ca X.P t e][sz:Ak X.P e w]:Yl X p LL l g (.indexAddr t x y) (.pointer (some ((adr a).add (i*w)))):=⟨rfl,(xnk hi (xnk hs H And.intro) fun hi hs _ _ _ E _=>xnw f.h sz.h ((xdq E M hs.1).trans (ycc m c hi.2)) (xdq E O hs.2) hi.1)⟩
theorem y_ia{e:TypeId}{a:Option Addr}{q c:Nat}(H:evS l x=some ([],.slice a q c))(M:evS l y=some ([],.int kk (j:Nat)))(hi:j<q)(O:a=some (adr a))[f:Ca X.P t e][sz:Ak X.P e w]:Yl X p LL l none (.indexAddr t x y) (.pointer (some ((adr a).add (j*w)))):=⟨rfl,(fun _ _ _ E _=>xnw f.h sz.h ((xdq E H trivial).trans (ycc q c O)) (xdq E M trivial) hi)⟩
theorem y_lp{a:Addr}(H:evS l x=some ([],.pointer (some a)))(hv:Aw p a=some u)[ag:Cd X.P t false]:Yl X p LL l none (.load t x) u:=⟨rfl,(fun _ _ _ E s=>xdl s ag.h (xdq E H trivial) hv)⟩
theorem xmj{a:Addr}(H:evS l x=some ([],.pointer (some a)))(hv:∀j v,vs[j]?=some v->Aw p (a.add j)=some v)[ag:Cd X.P t true][sz:Ak X.P t nn](hn:vs.length=nn:=by rfl):Yl X p LL l none (.load t x) (.agg vs.toArray):=⟨rfl,(fun _ _ _ E s=>xlg s ag.h sz.h (xdq E H trivial) hn hv)⟩
theorem yqz(O:evS l x=some ([],v))(n:∀b,RO X k ops rest ((dd,none,w_ b 0)::l) p ([(b,.cells v.cells T (0,0))]::LL)):
 RO X k ops (⟨some dd,.box T x,ty,pos,aft,none⟩::rest) l p LL:=⟨fun H tm M E=>
 yjt (xoq rfl) (xdq E O trivial) fun b=>(n b).run (xfq H).1 _ (by simp[M]) (E.set (g:=none) (M ▸ (xfq H).2 dd rfl))⟩
theorem xfx{z:Value}[i:Bg X.P T z](n:∀b,RO X k ops rest ((dd,none,w_ b 0)::l) p ([(b,.cells z.cells T (0,0))]::LL)):
 RO X k ops (⟨some dd,.alloc T,ty,pos,aft,none⟩::rest) l p LL:=⟨fun H tm M E=>
 ysc (xoq rfl) i.h rfl fun b=>(n b).run (xfq H).1 _ (by simp[M]) (E.set (g:=none) (M ▸ (xfq H).2 dd rfl))⟩
theorem xdf{cs:List Value}(H:evS l x=some ([],w_ b off))(O:evS l y=some ([],v))[sz:Ak X.P T nsz][m:Bx LL b (.cells cs.toArray T' (0,0)) LR]
 (n:RO X k ops rest l p ([(b,.cells (Ce cs off v.cells.toList).toArray T' (0,0))]::LR))(hv:v.cells.size=nsz:=by rfl)(M:v.cells.toList.all Bj=true:=by rfl)(hlen:off+v.cells.size<=cs.length:=by exact Nat.le_of_ble_eq_true rfl):
 RO X k ops (⟨none,.store T x y,ty,pos,aft,none⟩::rest) l p LL:=⟨fun V tm ht E=>
 xi3 (xy5 (i:=0) (xoq rfl) sz.h (xdq E H trivial) (xdq E O trivial) rfl hv M hlen rfl (n.run (xfq V).1 tm ht E)) fun _ s=>s.bx m⟩
theorem xqz(hg:gdc ops l gd=some g)
 (hx:evS l x=some ([],.func (.func ff) first.toArray cap.toArray))(V:D4 l args=some (ss,vs))(hs:Bn g (Bl ss))(hc:Bn g (∀h,Per p h->Ac X.P X.md ff (first++(vs++cap)).toArray h fun v' h'=>v'=v/\Av h h'))(n:RO X k ops rest (ent d g v l) p LL)(hf:Ao X.P ff=true:=by kernel_rfl):
 RO X k ops (⟨d,.call ⟨.value x,args.toArray,ats⟩,ty,pos,aft,gd⟩::rest) l p LL:=by
 constructor;intro ok tm ht E;have O:=xfq ok;have go:∀u,u=cv g v->RL X.P X.md X.f X.r X.df k X.cs X.Stop ops rest (Cz tm d u) (fun h=>St X.z9 X.zz p h LL.flatten):=fun u e=>by
  subst e;exact n.run O.1 _ (A0.trans ht) (E.ent ht O.2)
 have M:Met ops tm ⟨d,.call ⟨.value x,args.toArray,ats⟩,ty,pos,aft,gd⟩ true->Bl ss->(∀h,Per p h->Ac X.P X.md ff (first++(vs++cap)).toArray h fun v' h'=>v'=v/\Av h h')->v=cv g v->
  RL X.P X.md X.f X.r X.df k X.cs X.Stop ops (⟨d,.call ⟨.value x,args.toArray,ats⟩,ty,pos,aft,gd⟩::rest) tm (fun h=>St X.z9 X.zz p h LL.flatten):=fun H hs hc e=>
  xz5 H (xdq E hx trivial) (by rw[xlx E V hs]) hf (fun h s=>hc h fun b o e=>s.per b o e) rfl (go _ e)
 rcases xgv (o:=⟨d,.call ⟨.value x,args.toArray,ats⟩,ty,pos,aft,gd⟩) E hg with⟨rfl,H⟩|⟨c,rfl,H⟩
 ·exact M H hs hc rfl
 ·cases c with
  |true=>exact M H (hs rfl) (hc rfl) rfl
  |false=>exact xub H rfl (go _ rfl)
theorem xpx(M:evS l x=some ([],.func (.func ff) first.toArray cap.toArray))(H:D4 l args=some ([],vs))
 (hc:∀h,Per p h->Ac X.P X.md ff (first++(vs++cap)).toArray h fun v' h'=>v'=v/\Av h h')(n:RO X k ops rest (ent d none v l) p LL)(hf:Ao X.P ff=true:=by kernel_rfl):
 RO X k ops (⟨d,.call ⟨.value x,args.toArray,ats⟩,ty,pos,aft,none⟩::rest) l p LL:=xqz (g:=none) rfl M H trivial hc n hf
def Fb:Nat->List Value->Env
 |_,[]=>[]
 |i,v::vs=>(i,none,v)::Fb (i+1) vs
theorem xvc:∀{vs:List Value}{i j:Nat}{g:Option Bool}{v:Value},lk (Fb i vs) j=some (g,v)->g=none/\ ∃m,j=i+m/\vs[m]?=some v
 |[],i,j,g,v,h=>by cases h
 |u::vs,i,j,g,v,h=>by
   unfold Fb lk at h;cases e:Nat.beq i j with
   |true=>rw[e]at h;cases h;exact⟨rfl,0,(Nat.eq_of_beq_eq_true e).symm,rfl⟩
   |false=>
     rw[e]at h;obtain⟨rfl,m,rfl,H⟩:=xvc h;exact⟨rfl,m+1,om,H⟩
theorem xhz{c:Code}{args:List Value}(V:Per p h)(hf:P.funcs[f]?=some fn)
 (x:∀(zq:Frame)(cs:List Frame)(Stop:Goroutine->Heap->Prop),(∀v h',R v h'->Reach P md (G (zq.finish v) cs) h' Stop)->RE ⟨P,md,f,.none,fn.ntmps,[],zq::cs,Stop,h,[]⟩ [.code c] (Fb 0 args) p [])
 (M:fn.body=some c:=by rfl)(hn:Nat.ble args.length fn.ntmps=true:=by rfl):Ac P md f args.toArray h R:=
 xtd (Φ:=fun h'=>St h [] p h' []) hf M rfl (fun zq cs Stop K=>(x zq cs Stop K).run _ (by have:=Nat.le_of_ble_eq_true hn;simp;omega) fun i g v O=>by
  obtain⟨rfl,m,rfl,H⟩:=xvc O;rw[Nat.zero_add,List.getElem?_append_left (by simpa using(List.getElem?_eq_some_iff.1 H).1)];simpa[cv]using H) (St.start h p V)
def On(l:Env):List ResultVar->Option (List Value)
 |[]=>some []
 |.tmp t::rs=>match lk l t with
   |some (none,v)=>match On l rs with
     |some vs=>some (v::vs)
     |none=>none
   |_=>none
 |_::_=>none
theorem xj3{P:Program}{tm:List Value}{l:Env}{h:Heap}(E:B0 tm l):∀{rs:List ResultVar}{vs:List Value},On l rs=some vs->Res P h tm rs vs
 |[],vs,e=>by cases e;exact rfl
 |.tmp t::rs,vs,e=>by
   unfold On at e;split at e
   ·rename_i v M;split at e
    ·rename_i H O;cases e;exact⟨v,H,rfl,by simp[List.getD_eq_getElem?_getD,E _ _ _ M,cv],xj3 E O⟩
    ·cases e
   ·cases e
 |.cell _ _::rs,vs,e=>by cases e
theorem xsq{cs:List Frame}{Stop:Goroutine->Heap->Prop}(hf:P.funcs[f]?=some fn)(H:fn.results=rs.toArray)(hv:On l rs=some vs)
 (x:∀h,St z9 zz p h LL.flatten->Reach P md (G (zq.finish (F9 vs)) cs) h Stop):RE ⟨P,md,f,.none,nn,[],zq::cs,Stop,z9,zz⟩ (.code .ret::k) l p LL:=
 ⟨fun _ _ E=>ybl hf H (fun _ _=>xj3 E hv) rfl x⟩
end
section
variable{X:Cx}{k:List Item}{LL LR LR2:List Pcs}{pos:String}
theorem xos{LL':List Pcs}(n:RO X k ops rest l p' LL')(h:∀h,St X.z9 X.zz p h LL.flatten->St X.z9 X.zz p' h LL'.flatten):RO X k ops rest l p LL:=⟨fun M tm H E=>xi3 (n.run M tm H E) h⟩
theorem xkw(H:okD n (o::rest)=true)(h:o.dst=some dd):dd<n:=(xfq H).2 dd h
theorem xjb(V:evS l x=some ([],.func (.func ff) first.toArray cap.toArray))(H:D4 l args=some ([],vs))
 (hc:∀h,Per p h->Ac X.P X.md ff (first++(vs++cap)).toArray h fun v' h'=>∃Y,Q v' Y/\New h h' Y)(n:∀v Y,Q v Y->RO X k ops rest (ent d none v l) p (Y::LL))(hf:Ao X.P ff=true:=by kernel_rfl):
 RO X k ops (⟨d,.call ⟨.value x,args.toArray,ats⟩,ty,pos,aft,none⟩::rest) l p LL:=⟨fun O tm M E=>
 xdv (R:=fun v h=>∃Y,Q v Y/\St X.z9 X.zz p h (Y++LL.flatten)) (xoq rfl) (xdq E V trivial) (by rw[xlx E H trivial]) hf (fun h s=>(hc h fun b o e=>s.per b o e).mono fun _ _⟨Y,q,nn⟩=>⟨Y,q,s.K4 nn⟩)
  fun v=>xgk fun Y=>xyx fun q=>(n v Y q).run (xfq O).1 _ (A0.trans M) (E.ent (g:=none) M (xfq O).2)⟩
theorem xsb{m:Nat}(o:Aa T w v es Y)(hn:es.length=m)[i:Rm LL Y LR](n:∀p' a cap,PLe p p'->v=.slice a m cap->Sl p' a m w es->RO X k ops rest l p' LR):RO X k ops rest l p LL:=⟨fun M tm O E=>
 xi3 (yqc (A:=[]) o hn fun p' a cap e1 e2 H=>(n p' a cap e1 e2 H).run M tm O E) fun _ s=>s.rm i⟩
theorem ycn{m:Nat}(o:Aa T w v es Y)(hn:es.length=m)[i:Rm LL Y LR](n:∀p' a cap,PLe p p'->v=.slice a m cap->Sl p' a m w es->RE X k l p' LR):RE X k l p LL:=⟨fun tm H E=>by
 subst hn;exact xyg (yhc (A:=[]) o fun p' a cap e1 e2 M=>(n p' a cap e1 e2 M).run tm H E) fun _ s=>s.rm i⟩
theorem xqw{ob:Obj}[i:Bx LL b ob LR](n:∀p',PLe p p'->p' b=some ob->RO X k ops rest l p' LR):RO X k ops rest l p LL:=⟨fun O tm V E H e h s=>by
 have M:=(s.bx i).last;exact(n (Hf p b ob) M.1 xyk).run O tm V E H e h M.2⟩
def Nu(l:Env):List (Nat×Operand)->Option (List (Nat×Value))
 |[]=>some []
 |(i,x)::xs=>match evS l x with
   |some ([],v)=>match Nu l xs with
     |some vs=>some ((i,v)::vs)
     |none=>none
   |_=>none
theorem xpt{tm:List Value}(E:B0 tm l):∀{xs:List (Nat×Operand)}{vs:List (Nat×Value)},Nu l xs=some vs->(xs.map fun(i,x)=>(i,evl tm x))=vs
 |[],vs,h=>by cases h;rfl
 |(i,x)::xs,vs,h=>by
   unfold Nu at h;split at h
   ·rename_i v e1;split at h
    ·rename_i H e2;cases h;rw[List.map_cons,xpt E e2];simp only[xdq E e1 trivial]
    ·cases h
   ·cases h
def chs(w:Nat):Nat->List Value->List (List Value)
 |0,_=>[]
 |n+1,l=>l.take w::chs w n (l.drop w)
theorem xxx{vs:List (Nat×Value)}{z:Value}{cells:Array Value}(M:Nu l parts=some vs)[hT:Ca X.P sT eT][hs:Ak X.P eT w][hz:Bg X.P eT z]
 (nx:∀v Y,Aa eT w v (chs w n cells.toList) Y->RO X k ops rest ((dd,none,v)::l) p (Y::LL))
 (hf:Instr.fill (fun i=>some (i*w,w)) ((List.range (n*w)).map (z.cells[· % z.cells.size]!)).toArray vs=some cells:=by rfl)(hc:cells=(chs w n cells.toList).flatten.toArray:=by rfl)(hw:((chs w n cells.toList).all fun e=>e.length==w)=true:=by rfl)
 (hn:(chs w n cells.toList).length=n:=by rfl)(H:n*w<=2^24:=by exact Nat.le_of_ble_eq_true rfl):RO X k ops (⟨some dd,.buildSlice sT n parts.toArray,ty,pos,aft,none⟩::rest) l p LL:=⟨fun O tm V E=>
 xc1 (A:=[]) (C:=LL.flatten) (xoq rfl) hT.h hs.h hz.h H (xpt E M) hf hc hw hn fun v Y o=>(nx v Y o).run (xfq O).1 _ (by simp[V]) (E.set (g:=none) (V ▸ xkw O rfl))⟩
theorem xiv{z:Value}(hx:evS l x=some ([],v))(hy:evS l y=some ([],x'))(o1:Aa eT w v es Y)(o2:Aa eT w x' news Z)(h1:∀u∈news.flatten,Bj u=true)(H:(es.length+news.length)*by'<=2^45)
 [i1:Rm LL Y LR][i2:Rm LR Z LR2][hT:Ca X.P sT eT][hs:Ak X.P eT w][hz:Bg X.P eT z][hb:ByC X.P eT by'][hX:Ca X.P xT eX](nx:∀v' M,Aa eT w v' (es++news) M->RO X k ops rest ((dd,none,v')::l) p (M::LR2))
 (V:z.cells.size=w:=by rfl)(O:0<by'/\by'<=2^20:=by decide):RO X k ops (⟨some dd,.call ⟨.builtin .append,#[x,y],#[sT,xT]⟩,ty,pos,aft,none⟩::rest) l p LL:=⟨fun ok tm ht E=>
 xi3 (xi9 [] Y Z (C:=LR2.flatten) (xoq rfl) hT.h hs.h hz.h V hb.h hX.h (xdq E hx trivial) (xdq E hy trivial) o1 o2 h1 H O fun v' M o=>(nx v' M o).run (xfq ok).1 _ (by simp[ht]) (E.set (g:=none) (ht ▸ xkw ok rfl)))
  fun _ s=>(s.rm i1).perm (List.Perm.append_left Y i2.h)⟩
theorem xiw{cap:Nat}{a:Option Addr}{z:Value}(hx:evS l x=some ([],v))(hy:evS l y=some ([],.slice a n cap))(o1:Aa eT w v es Y)(o2:Sl p a n w news)(h1:∀u∈news.flatten,Bj u=true)(H:(es.length+n)*by'<=2^45)
 [i1:Rm LL Y LR][hT:Ca X.P sT eT][hs:Ak X.P eT w][hz:Bg X.P eT z][hb:ByC X.P eT by'][hX:Ca X.P xT eX](nx:∀v' M,Aa eT w v' (es++news) M->RO X k ops rest ((dd,none,v')::l) p (M::LR))
 (a2:z.cells.size=w:=by rfl)(O:0<by'/\by'<=2^20:=by decide)(V:0<w:=by decide):RO X k ops (⟨some dd,.call ⟨.builtin .append,#[x,y],#[sT,xT]⟩,ty,pos,aft,none⟩::rest) l p LL:=⟨fun ok tm ht E=>
 xi3 (xh9 [] Y (C:=LR.flatten) (xoq rfl) hT.h hs.h hz.h a2 hb.h hX.h (xdq E hx trivial) (xdq E hy trivial) o1 o2 h1 H O V fun v' M o=>(nx v' M o).run (xfq ok).1 _ (by simp[ht]) (E.set (g:=none) (ht ▸ xkw ok rfl))) fun _ s=>s.rm i1⟩
theorem yvs(T w:Nat)(n:Aa T w (.slice none 0 0) [] []->RO X k ops rest l p ([]::LL)):RO X k ops rest l p LL:=xos (n (Aa.empty T w)) fun _ s=>s
theorem xjj(T w:Nat)(n:Aa T w (.slice none 0 0) [] []->RE X k l p ([]::LL)):RE X k l p LL:=xhk (n (Aa.empty T w)) fun _ s=>s
theorem xzt{e:TypeId}{m:Nat}(H:evS l x=some (ss,v))(hs:Bn g (Bl ss))(o:Aa T w v es Y)(hn:es.length=m)[f:Ca X.P t e]:Yl X p LL l g (.call ⟨.builtin .len,#[x],#[t]⟩) (.J m):=⟨rfl,(xjx hs fun hs _ _ _ E _=>yvf o hn f.h (xdq E H hs))⟩
theorem xkb{e:TypeId}(H:evS l x=some ([],v))(M:evS l y=some ([],.J (i:Nat)))(o:Aa T w v es Y)(hi:i<es.length)[f:Ca X.P t e][sz:Ak X.P e w]:Yl X p LL l none (.indexAddr t x y) (.pointer (some ((E4 v).add (i*w)))):=⟨rfl,(fun _ _ _ E _=>xuc o f.h sz.h (xdq E H trivial) (xdq E M trivial) hi)⟩
theorem xyh{e:List Value}{a:Addr}(H:evS l x=some ([],.pointer (some a)))(o:Aa T w v es Y)(O:((E4 v).add (i*w)).add j=a)(hi:es[i]?=some e)(M:e[j]?=some u)[ag:Cd X.P t false][ii:Rm LL Y LR]
 (n:RO X k ops rest (ent d none u l) p LL):RO X k ops (⟨d,.load t x,ty,pos,aft,none⟩::rest) l p LL:=xtb (g:=none) rfl rfl (fun _ _ E s=>yov (A:=[]) o (s.rm ii) ag.h (xdq E H trivial) O hi M) n
theorem xkk{e:List Value}{a:Addr}(M:evS l x=some ([],.pointer (some a)))(hy:evS l y=some ([],u))(o:Aa T w v es Y)(ha:((E4 v).add (i*w)).add j=a)(O:u.cells=vs.toArray)(hn:vs.length=nsz)(V:vs.all Bj=true)(hi:es[i]?=some e)(hj:j+vs.length<=e.length)
 [sz:Ak X.P T' nsz][ii:Rm LL Y LR](n:∀H,Aa T w v (es.set i (Ce e j vs)) H->RO X k ops rest l p (H::LR)):RO X k ops (⟨none,.store T' x y,ty,pos,aft,none⟩::rest) l p LL:=⟨fun ok tm ht E=>
 xi3 (xg9 (A:=[]) o (xoq rfl) sz.h (xdq E M trivial) ha (xdq E hy trivial) O hn V hi hj fun H o'=>(n H o').run (xfq ok).1 tm ht E) fun _ s=>s.rm ii⟩
theorem y_mf{fn:Fn}{first cap:List Operand}{a b:List Value}(H:D4 l first=some ([],a))(M:D4 l cap=some ([],b)):Yl X p LL l none (.makeFunc fn first.toArray cap.toArray) (.func fn a.toArray b.toArray):=⟨rfl,(fun _ _ _ E _=>xy1 (xlx E H trivial) (xlx E M trivial))⟩
end
def Kq(P:Program)(md:Md)(ops:List Oper)(z9:Heap)(zz:List Nat)(p:Ab)(LF:Pcs)(o:Oper)(tm:List Value)(u:Value):Prop:=
 Bq o.op=true/\((Met ops tm o true/\ ∀C:Pcs,Nx P md tm o (fun h=>St z9 zz p h (LF++C)) u)\/(Met ops tm o false/\u=undef))
def Hm(P:Program)(md:Md)(ops:List Oper)(z9:Heap)(zz:List Nat)(p:Ab)(LF C:Pcs)(o:Oper)(tm:List Value)(u:Value):Prop:=
 Bq o.op=true/\((Met ops tm o true/\Nx P md tm o (fun h=>St z9 zz p h (LF++C)) u)\/(Met ops tm o false/\u=undef))
theorem Kq.a{P:Program}{md:Md}{ops:List Oper}{z9:Heap}{zz:List Nat}{p:Ab}{LF C:Pcs}{o:Oper}{tm:List Value}{u:Value}(x:Kq P md ops z9 zz p LF o tm u):Hm P md ops z9 zz p LF C o tm u:=
 ⟨x.1,x.2.imp (fun a=>⟨a.1,a.2 C⟩) id⟩
inductive Bhd (ops:List Oper):Nat->Nat->Prop
 |one {e i:Nat} {o:Oper} (ho:ops[e]?=some o) (h:i∈Bm o):Bhd ops e i
 |step {e k i:Nat} {o:Oper} (ho:ops[e]?=some o) (h:k∈Bm o) (b:Bhd ops k i):Bhd ops e i
def Po(ops:List Oper)(i:Nat):Nat->Nat->Bool
 |0,_=>false
 |f+1,e=>match ops[e]? with
   |some o=>(Bm o).contains i||(Bm o).any fun k=>Po ops i f k
   |none=>false
theorem ytw{ops:List Oper}{i:Nat}:∀{f e:Nat},Po ops i f e=true->Bhd ops e i
 |0,_,h=>by cases h
 |f+1,e,h=>by
   unfold Po at h;split at h
   ·rename_i o H;simp only[Bool.or_eq_true,List.contains_eq_mem,decide_eq_true_eq,List.any_eq_true]at h;rcases h with h|⟨k,hk,h⟩
    ·exact .one H h
    ·exact .step H hk (ytw h)
   ·cases h
def Ot(ops:List Oper)(effs todo:List Nat)(i:Nat):Bool:=todo.all fun e=>!effs.contains e||Po ops i 3 e
theorem yin(h:Ot ops effs todo i=true):∀e∈todo,e∈effs->Bhd ops e i:=fun e he hf=>by
 have:=List.all_eq_true.1 h e he;simp only[Bool.or_eq_true,Bool.not_eq_true',List.contains_eq_mem,decide_eq_false_iff_not]at this;exact ytw (this.resolve_left fun z=>z hf)
def Ki(P:Program)(md:Md)(ops:List Oper)(z9:Heap)(zz:List Nat)(p:Ab)(LF:Pcs)(effs:List Nat)(C:Pcs)(todo:List Nat)(j:Nat)(o:Oper)(tm:List Value)(u:Value):Prop:=
 Kq P md ops z9 zz p LF o tm u\/(Hm P md ops z9 zz p LF C o tm u/\ ∀e∈todo,e∈effs->Bhd ops e j)
def He(P:Program)(md:Md)(tm:List Value)(o:Oper)(h:Heap)(R:Value->Heap->Prop):Prop:=
 Exv P tm o h R\/(∃g args,(wpS P (execOp (evl tm) o) h fun n h'=>n=.enter g args/\h'=h)/\Ac P md g args h R)\/
  ∀(c:Frame)(cs:List Frame)(Stop:Goroutine->Heap->Prop),(∀v h',R v h'->Reach P md (G (c.finish v) cs) h' Stop)->wpS P (execOp (evl tm) o) h (Ou P md c cs Stop)
inductive DR (P:Program) (md:Md) (ops:List Oper) (n:Nat) (z9:Heap) (zz:List Nat) (p:Ab) (LF:Pcs) (effs:List Nat) (K:Env->List Pcs->Prop):List Nat->Env->List Pcs->Prop
 |nil {l:Env} {LL:List Pcs} (k:K l LL):DR P md ops n z9 zz p LF effs K [] l LL
 |det {i:Nat} {todo:List Nat} {o:Oper} {l:Env} {LL:List Pcs} {g:Option Bool} {v:Value} (ho:ops[i]?=some o) (h:∀tm,tm.length=n->B0 tm l->Kq P md ops z9 zz p LF o tm (cv g v))
  (nx:DR P md ops n z9 zz p LF effs K todo (ent o.dst g v l) LL):DR P md ops n z9 zz p LF effs K (i::todo) l LL
 |pin {i:Nat} {todo:List Nat} {o:Oper} {l:Env} {LL:List Pcs} {g:Option Bool} {v:Value} (ho:ops[i]?=some o) (hb:∀e∈todo,e∈effs->Bhd ops e i) (h:∀tm,tm.length=n->B0 tm l-> ∀C,Hm P md ops z9 zz p LF (LL.flatten++C) o tm (cv g v))
  (nx:DR P md ops n z9 zz p LF effs K todo (ent o.dst g v l) LL):DR P md ops n z9 zz p LF effs K (i::todo) l LL
 |N6 {i:Nat} {todo:List Nat} {o:Oper} {l:Env} {LL LR:List Pcs} {U:Pcs} {g:Option Bool} {Q:Value->Pcs->Prop} (ho:ops[i]?=some o) (he:i∈effs) (hr:LL.flatten.Perm (U++LR.flatten))
  (h:∀tm,tm.length=n->B0 tm l->Bq o.op=true/\((Met ops tm o true/\ ∀(C:Pcs)h,St z9 zz p h (U++(LF++C))->He P md tm o h fun v h'=>∃u x,v=cv g u/\Q u x/\St z9 zz p h' (x++(LF++C)))\/(Met ops tm o false/\ ∃u,cv g u=undef/\Q u U)))
  (nx:∀v x,Q v x->DR P md ops n z9 zz p LF effs K todo (ent o.dst g v l) (x::LR)):DR P md ops n z9 zz p LF effs K (i::todo) l LL
theorem He.mono{P:Program}{md:Md}{tm:List Value}{o:Oper}{h:Heap}{R R':Value->Heap->Prop}(x:He P md tm o h R)(y:∀v h,R v h->R' v h):He P md tm o h R':=
 x.imp (fun a=>xex a fun _ _⟨v,e,r⟩=>⟨v,e,y _ _ r⟩) (·.imp (fun⟨g,args,a,b⟩=>⟨g,args,a,b.mono y⟩) fun a c cs Stop z=>a c cs Stop fun v h' r=>z v h' (y v h' r))
theorem DR.eff{P:Program}{md:Md}{ops:List Oper}{n:Nat}{z9:Heap}{zz:List Nat}{p:Ab}{LF:Pcs}{effs:List Nat}{K:Env->List Pcs->Prop}{i:Nat}{todo:List Nat}{o:Oper}{l:Env}{LL LR:List Pcs}{U:Pcs}{Q:Value->Pcs->Prop}(ho:ops[i]?=some o)(he:i∈effs)(O:LL.flatten.Perm (U++LR.flatten))
 (h:∀tm,tm.length=n->B0 tm l->Bq o.op=true/\Met ops tm o true/\ ∀(C:Pcs)h,St z9 zz p h (U++(LF++C))->He P md tm o h fun v h'=>∃x,Q v x/\St z9 zz p h' (x++(LF++C)))
 (V:∀v x,Q v x->DR P md ops n z9 zz p LF effs K todo (ent o.dst none v l) (x::LR)):DR P md ops n z9 zz p LF effs K (i::todo) l LL:=
 .N6 (g:=none) ho he O (fun tm H E=>⟨(h tm H E).1,.inl ⟨(h tm H E).2.1,fun C M s=>((h tm H E).2.2 C M s).mono fun v _⟨x,q,s⟩=>⟨v,x,rfl,q,s⟩⟩⟩) V
def Ef(ops:List Oper)(cl:List (List Nat))(effs:List Nat):List Nat->List Nat->Bool
 |_,[]=>true
 |done,i::todo=>(match ops[i]? with
   |some o=>(Bm o).all (fun x=>done.contains x)&&done.all (fun e=>!effs.contains e||behind cl o e)
   |none=>false)&&!done.contains i&&Ef ops cl effs (i::done) todo
theorem xup{LF:Pcs}(hs:Gv o.op=true)(h:∀t∈looks ops o,tm'[t]?=tm[t]?)(x:Kq P md ops z9 zz p LF o tm u):
 Kq P md ops z9 zz p LF o tm' u:=by
 obtain⟨H,a|a⟩:=x
 ·refine⟨H,.inl ⟨xbl h a.1,fun C=>?_⟩⟩;have:=a.2 C;unfold Nx Ex at this⊢;rw[xnt hs h];exact this
 ·exact⟨H,.inr ⟨xbl h a.1,a.2⟩⟩
theorem xom{LF:Pcs}(hs:Gv o.op=true)(h:∀t∈looks ops o,tm'[t]?=tm[t]?)(x:Hm P md ops z9 zz p LF C o tm u):
 Hm P md ops z9 zz p LF C o tm' u:=by
 obtain⟨H,a|a⟩:=x
 ·refine⟨H,.inl ⟨xbl h a.1,?_⟩⟩;have:=a.2;unfold Nx Ex at this⊢;rw[xnt hs h];exact this
 ·exact⟨H,.inr ⟨xbl h a.1,a.2⟩⟩
theorem xkd{LF:Pcs}(hs:Gv o.op=true)(h:∀t∈looks ops o,tm'[t]?=tm[t]?)(x:Ki P md ops z9 zz p LF effs C todo j o tm u):
 Ki P md ops z9 zz p LF effs C todo j o tm' u:=x.imp (xup hs h) fun y=>⟨xom hs h y.1,y.2⟩
theorem ynx{LF:Pcs}(x:Ki P md ops z9 zz p LF effs C (i::todo) j o tm u):
 Ki P md ops z9 zz p LF effs C todo j o tm u:=x.imp id fun y=>⟨y.1,fun e he=>y.2 e (by simp[he])⟩
theorem Ki.a{P:Program}{md:Md}{ops:List Oper}{z9:Heap}{zz:List Nat}{p:Ab}{LF:Pcs}{effs:List Nat}{C:Pcs}{todo:List Nat}{j:Nat}{o:Oper}{tm:List Value}{u:Value}(x:Ki P md ops z9 zz p LF effs C todo j o tm u):Hm P md ops z9 zz p LF C o tm u:=x.elim Kq.a fun y=>y.1
theorem xrc{d:Nat}{x:Option Tmp}(M:x=some d)(H:d<tm.length):(Cz tm x v)[d]?=some v:=by subst M;exact List.getElem?_set_self H
section
variable{P:Program}{md:Md}{ops:List Oper}{m:Nat}{n:Nat}{z9:Heap}{zz:List Nat}{p:Ab}{LF:Pcs}{effs:List Nat}{f:FuncId}{r:Rd}{df:List Deferred}{k:List Item}{cs:List Frame}{Stop:Goroutine->Heap->Prop}{cl:List (List Nat)}
structure Way(P:Program)(md:Md)(ops:List Oper)(m n:Nat)(z9:Heap)(zz:List Nat)(p:Ab)(LF:Pcs)(effs:List Nat)(C:Pcs)(lex:Array Bool)(tmc tmv:List Value)(done todo:List Nat):Prop where
 size:lex.size=ops.length
 lc:tmc.length=n
 lv:tmv.length=n
 pend:∀j<m,lex.getD j false=false->j∉todo-> ∃o,ops[j]?=some o/\ ∃u,Ki P md ops z9 zz p LF effs C todo j o tmv u/\ ∀d,o.dst=some d->tmv[d]?=some u
 Lp:∀j∈todo,lex.getD j false=false
 same:∀t,(∀(j:Nat)(o:Oper),j<m->ops[j]?=some o->o.dst=some t->lex.getD j false=true)->tmc[t]?=tmv[t]?
 back:∀j<m,j∉todo-> ∀o,ops[j]?=some o-> ∀x∈Bm o,x∉todo
 all:∀j<m,j∈done\/j∈todo
 N7:∀j∈todo,j∉done
 O1:∀(j:Nat)(o:Oper),lex.getD j false=true->ops[j]?=some o-> ∀x∈Bm o,lex.getD x false=true
theorem yhk(H:Bo ops m cl=true){d:Nat}(hi:i<m)(M:ops[i]?=some o)(V:o.dst=some d):d∉looks ops o:=fun O=>
 Nat.lt_irrefl i ((xwq H M).1 i (((xwq H M).2.2 hi).2 i o d hi M V |>.2 O))
theorem Way.Pf{C:Pcs}(M:Bo ops m cl=true){lex:Array Bool}{tmc tmv:List Value}{done todo:List Nat}(W:Way P md ops m n z9 zz p LF effs C lex tmc tmv done todo){i:Nat}{o:Oper}(hi:i<m)(ho:ops[i]?=some o)(hp:∀j∈Bm o,lex.getD j false=true):
 ∀t∈looks ops o,tmc[t]?=tmv[t]?:=fun t ht=>W.same t fun j o' V H O=>hp j (((xwq M ho).2.2 hi).2 j o' t V H O |>.2 ht)
theorem Way.adv{C:Pcs}(V:Bo ops m cl=true){lex:Array Bool}{tmc tmv:List Value}{done todo:List Nat}{i:Nat}{o:Oper}{u:Value}(hi:i<m)(ho:ops[i]?=some o)(hd:∀d,o.dst=some d->d<n)(a7:i∉todo)(a5:∀x∈Bm o,x∉todo)
 (W:Way P md ops m n z9 zz p LF effs C lex tmc tmv done (i::todo))(hT:Ki P md ops z9 zz p LF effs C todo i o tmv u):Way P md ops m n z9 zz p LF effs C lex tmc (Cz tmv o.dst u) (i::done) todo:=by
 have a2:=fun{j:Nat}{oj:Oper}(M:j<m)(H:ops[j]?=some oj)(O:j∉i::todo)(t:Nat)(ht:t∈looks ops oj)=>show(Cz tmv o.dst u)[t]?=tmv[t]? from by
  by_cases e:o.dst=some t
  ·have:i∈Bm oj:=((xwq V H).2.2 M).2 i o t hi ho e |>.2 ht;exact absurd List.mem_cons_self (W.back j M O oj H i this)
  ·exact xxz e
 refine⟨W.size,W.lc,by rw[xkj];exact W.lv,fun j M hl O=>?_,fun j M=>W.Lp j (by simp[M]),fun t ht=>?_,fun j M O oj H x hx=>?_,fun j M=>?_,fun j M=>?_,W.O1⟩
 ·by_cases e:j=i
  ·subst e;refine⟨o,ho,u,xkd ((xwq V ho).2.2 hi).1 (fun t ht=>?_) hT,fun d e=>xrc e (by rw[W.lv];exact hd d e)⟩;exact xxz fun e=>yhk V hi ho e ht
  ·obtain⟨oj,H,uj,h1,h2⟩:=W.pend j M hl (by simp[e,O]);refine⟨oj,H,uj,xkd ((xwq V H).2.2 M).1 (a2 M H (by simp[e,O])) (ynx h1),fun d a3=>?_⟩;rw[xxz fun e'=>((((xwq V H).2.2 M).2 i o d hi ho e').1.resolve_right fun z=>z a3).symm ▸ e <| rfl];exact h2 d a3
 ·have a4:o.dst≠some t:=fun e=>by
   have:=W.Lp i List.mem_cons_self;rw[ht i o hi ho e]at this;cases this
  rw[xxz a4];exact W.same t ht
 ·by_cases e:j=i
  ·subst e;rw[ho]at H;cases H;exact a5 x hx
  ·exact fun a6=>W.back j M (by simp[e,O]) oj H x hx (by simp[a6])
 ·rcases W.all j M with a|a
  ·exact .inl (by simp[a])
  ·rcases List.mem_cons.1 a with rfl|a
   ·exact .inl s_
   ·exact .inr a
 ·intro h;rcases List.mem_cons.1 h with rfl|h
  ·exact a7 M
  ·exact W.N7 j (by simp[M]) h
theorem xo5{rest:List Nat}(ho:ops[i]?=some o)(hT:Hm P md ops z9 zz p LF C o tmc u)
 (next:RS P md (G (FL f r (Cz tmc o.dst u) df (.inRegion ops.toArray rest::k)) cs) (fun h=>St z9 zz p h (LF++C)) Stop):RS P md (G (FL f r tmc df (.inRegion ops.toArray (i::rest)::k)) cs) (fun h=>St z9 zz p h (LF++C)) Stop:=by
 have H:ops.toArray[i]?=some o:=by simpa using ho
 obtain⟨a2,⟨hm,V⟩|⟨hm,rfl⟩⟩:=hT
 ·refine xks H (xxq hm) xtw (.inr (by revert a2;cases o.op<;>simp[Bq])) fun h hb=>?_;rw[xbz];rcases V h hb with hx|⟨g,args,hx,hc⟩|hx
  ·refine xex hx fun n' h'⟨v',O,e2,M⟩=>?_;subst O;subst e2;show Reach P md (G ((F (B f r) tmc.toArray df _).finish v') cs) h' Stop;rw[xax H,xyq];exact next h' M
  ·refine xex hx fun n' h'⟨O,e2⟩=>?_;subst O;subst e2;refine hc _ _ _ fun v' h'⟨e2,M⟩=>?_;subst e2;rw[xax H,xyq];exact next h' M
  ·refine hx _ _ _ fun v' h'⟨e2,M⟩=>?_;subst e2;rw[xax H,xyq];exact next h' M
 ·refine xjs H (xxq hm) ?_;rw[xyq];exact next
theorem ygm{rest:List Nat}(ho:ops[i]?=some o)(a2:Bq o.op=true)(hm:Met ops tmc o true)
 (he:∀h,St z9 zz p h (U++(LF++C))->He P md tmc o h fun v h'=>∃x,Q v x/\St z9 zz p h' (x++(LF++C)))
 (next:∀v x,Q v x->RS P md (G (FL f r (Cz tmc o.dst v) df (.inRegion ops.toArray rest::k)) cs) (fun h=>St z9 zz p h (x++(LF++C))) Stop):RS P md (G (FL f r tmc df (.inRegion ops.toArray (i::rest)::k)) cs) (fun h=>St z9 zz p h (U++(LF++C))) Stop:=by
 have M:ops.toArray[i]?=some o:=by simpa using ho
 refine xks M (xxq hm) xtw (.inr (by revert a2;cases o.op<;>simp[Bq])) fun h hb=>?_;rw[xbz];rcases he h hb with hx|⟨g,args,hx,hc⟩|hx
 ·refine xex hx fun n' h'⟨v',V,x,O,H⟩=>?_;rcases V with rfl|⟨rfl,rfl⟩
  ·show Reach P md (G ((F (B f r) tmc.toArray df _).finish v') cs) h' Stop;rw[xax M,xyq];exact next v' x O h' H
  ·show Reach P md (G ((F (B f r) tmc.toArray df _).finish undef) cs) h' Stop;rw[xax M,xyq];exact next undef x O h' H
 ·refine xex hx fun n' h'⟨V,e2⟩=>?_;subst V;subst e2;refine hc _ _ _ fun v' h'⟨x,O,H⟩=>?_;rw[xax M,xyq];exact next v' x O h' H
 ·refine hx _ _ _ fun v' h'⟨x,O,H⟩=>?_;rw[xax M,xyq];exact next v' x O h' H
theorem xbc{l:Array Bool}(h:i<l.size):(l.setIfInBounds i true).getD i false=true:=by simp[Array.getD,h]
theorem xvt(O:i<lex.size)(ho:ops[i]?=some o)(hp:∀x∈Bm o,lex.getD x false=true)(c:∀(j:Nat)(o:Oper),lex.getD j false=true->ops[j]?=some o-> ∀x∈Bm o,lex.getD x false=true):
 ∀(j:Nat)(M:Oper),(lex.setIfInBounds i true).getD j false=true->ops[j]?=some M-> ∀x∈Bm M,(lex.setIfInBounds i true).getD x false=true:=fun j M hj H x V=>by
 have:lex.getD x false=true:=by
  by_cases e:i=j
  ·subst e;rw[ho]at H;cases H;exact hp x V
  ·rw[getD_set_ne false e]at hj;exact c j M hj H x V
 by_cases e:i=x
 ·subst e;exact xbc O
 ·rwa[getD_set_ne false e]
theorem Way.step{C:Pcs}{lex:Array Bool}{tmc tmv:List Value}{done todo:List Nat}{i:Nat}{o:Oper}{u:Value}(ho:ops[i]?=some o)(hd:∀d,o.dst=some d->d<n)(a3:i∉todo)(hp:∀x∈Bm o,lex.getD x false=true)
 (hu:∀d,o.dst=some d->tmv[d]?=some u)(W:Way P md ops m n z9 zz p LF effs C lex tmc tmv done todo):Way P md ops m n z9 zz p LF effs C (lex.setIfInBounds i true) (Cz tmc o.dst u) tmv done todo:=by
 have O:i<lex.size:=by rw[W.size];exact(List.getElem?_eq_some_iff.1 ho).1
 refine⟨by simpa using W.size,by rw[xkj];exact W.lc,W.lv,fun j M hl a2=>?_,fun j M=>?_,fun t ht=>?_,W.back,W.all,W.N7,xvt O ho hp W.O1⟩
 ·by_cases e:i=j
  ·subst e;rw[xbc O]at hl;cases hl
  ·rw[getD_set_ne false e]at hl;exact W.pend j M hl a2
 ·rw[getD_set_ne false (show i≠j from fun e=>a3 (by rw[e];exact M))];exact W.Lp j M
 ·by_cases e:o.dst=some t
  ·rw[xrc e (by rw[W.lc];exact hd t e),hu t e]
  ·rw[xxz e];refine W.same t fun j oj M H V=>?_;have:=ht j oj M H V;by_cases e':i=j
   ·subst e';rw[ho]at H;cases H;exact absurd V e
   ·rwa[getD_set_ne false e']at this
theorem yqr(H:∀(j:Nat)(o:Oper),lex.getD j false=true->ops[j]?=some o-> ∀x∈Bm o,lex.getD x false=true){e:Nat}(b:Bhd ops e j):(∀o,ops[e]?=some o-> ∀x∈Bm o,lex.getD x false=true)->lex.getD j false=true:=by
 induction b with
 |one ho h=>exact fun c=>c _ ho _ h
 |step ho h _ ih=>exact fun c=>ih fun o' M x O=>H _ o' (c _ ho _ h) M x O
theorem Way.act{C:Pcs}(C':Pcs)(a2:Bo ops m cl=true){lex:Array Bool}{tmc tmv:List Value}{done todo:List Nat}{i:Nat}{o:Oper}{v:Value}(he:i∈effs)(hi:i<m)(ho:ops[i]?=some o)(hd:∀d,o.dst=some d->d<n)(a5:i∉todo)(a7:∀x∈Bm o,x∉todo)(hp:∀x∈Bm o,lex.getD x false=true)
 (W:Way P md ops m n z9 zz p LF effs C lex tmc tmv done (i::todo)):Way P md ops m n z9 zz p LF effs C' (lex.setIfInBounds i true) (Cz tmc o.dst v) (Cz tmv o.dst v) (i::done) todo:=by
 have a4:i<lex.size:=by rw[W.size];exact(List.getElem?_eq_some_iff.1 ho).1
 have a6:∀{j:Nat}{oj:Oper},j<m->ops[j]?=some oj->j∉i::todo-> ∀t∈looks ops oj,(Cz tmv o.dst v)[t]?=tmv[t]?:=fun{j oj}M H O t ht=>by
  by_cases e:o.dst=some t
  ·exact absurd List.mem_cons_self (W.back j M O oj H i (((xwq a2 H).2.2 M).2 i o t hi ho e |>.2 ht))
  ·exact xxz e
 refine⟨by simpa using W.size,by rw[xkj];exact W.lc,by rw[xkj];exact W.lv,fun j M hl O=>?_,fun j M=>?_,fun t ht=>?_,fun j M O oj H x hx=>?_,fun j M=>?_,fun j M=>?_,xvt a4 ho hp W.O1⟩
 ·have e:i≠j:=fun e=>by subst e;rw[xbc a4]at hl;cases hl
  rw[getD_set_ne false e]at hl;obtain⟨oj,H,uj,h1,h2⟩:=W.pend j M hl (by simp[Ne.symm e,O]);have h1:=h1.resolve_right fun y=>by
   have:=yqr W.O1 (y.2 i s_ he) fun o' a3 x hx=>by rw[ho]at a3;cases a3;exact hp x hx
   rw[hl]at this;cases this
  refine⟨oj,H,uj,.inl (xup ((xwq a2 H).2.2 M).1 (a6 M H (by simp[Ne.symm e,O])) h1),fun d V=>?_⟩;rw[xxz fun e'=>e (((((xwq a2 H).2.2 M).2 i o d hi ho e').1.resolve_right fun z=>z V)).symm];exact h2 d V
 ·rw[getD_set_ne false (show i≠j from fun e=>a5 (by rw[e];exact M))];exact W.Lp j (by simp[M])
 ·by_cases e:o.dst=some t
  ·rw[xrc e (by rw[W.lc];exact hd t e),xrc e (by rw[W.lv];exact hd t e)]
  ·rw[xxz e,xxz e];refine W.same t fun j oj M H V=>?_;have:=ht j oj M H V;by_cases e':i=j
   ·subst e';rw[ho]at H;cases H;exact absurd V e
   ·rwa[getD_set_ne false e']at this
 ·by_cases e:j=i
  ·subst e;rw[ho]at H;cases H;exact a7 x hx
  ·exact fun a8=>W.back j M (by simp[e,O]) oj H x hx (by simp[a8])
 ·rcases W.all j M with a|a
  ·exact .inl (by simp[a])
  ·rcases List.mem_cons.1 a with rfl|a
   ·exact .inl s_
   ·exact .inr a
 ·intro h;rcases List.mem_cons.1 h with rfl|h
  ·exact a5 M
  ·exact W.N7 j (by simp[M]) h
theorem xsk(h:Ef ops cl effs done (i::todo)=true):∃o,ops[i]?=some o/\(∀x∈Bm o,x∈done)/\(∀e∈done,e∈effs->behind cl o e=true)/\i∉done/\Ef ops cl effs (i::done) todo=true:=by
 unfold Ef at h;simp only[Bool.and_eq_true]at h;obtain⟨⟨H,M⟩,O⟩:=h;split at H
 ·rename_i o V;simp only[Bool.and_eq_true,List.all_eq_true,Bool.or_eq_true,Bool.not_eq_true',List.contains_eq_mem,decide_eq_true_eq,decide_eq_false_iff_not]at H M;exact⟨o,V,H.1,fun e he hf=>(H.2 e he).resolve_left fun z=>z hf,by simpa using M,O⟩
 ·cases H
theorem xen:∀{todo done:List Nat}{e:Nat},Ef ops cl effs done todo=true->e∈done->e∈effs-> ∀j∈todo,∀o,ops[j]?=some o->behind cl o e=true
 |[],_,_,_,_,_,j,hj,_,_=>by simp at hj
 |i::todo,done,e,h,he,hf,j,hj,o,ho=>by
   obtain⟨o',H,_,O,_,M⟩:=xsk h;rcases List.mem_cons.1 hj with rfl|hj
   ·rw[ho]at H;cases H;exact O e he hf
   ·exact xen M (by simp[he]) hf j hj o ho
theorem xyz:∀{todo done:List Nat},Ef ops cl effs done todo=true-> ∀j∈todo,j∉done
 |[],_,_,j,hj=>by simp at hj
 |i::todo,done,h,j,hj=>by
   obtain⟨_,_,_,_,H,M⟩:=xsk h;rcases List.mem_cons.1 hj with rfl|hj
   ·exact H
   ·exact fun z=>xyz M j hj (by simp[z])
theorem yrq(V:Bo ops m cl=true)(a4:∀(i:Nat)(o:Oper)(d:Nat),ops[i]?=some o->o.dst=some d->d<n){K:Env->List Pcs->Prop}
 (hK:∀l LL tm,K l LL->tm.length=n->B0 tm l->RS P md (G (FL f r tm df (.inRegion ops.toArray (List.range' m (ops.length-m))::k)) cs) (fun h=>St z9 zz p h (LF++LL.flatten)) Stop)
 {LL:List Pcs}(D:DR P md ops n z9 zz p LF effs K todo l LL):∀(s:List Nat)(lex:Array Bool)(tmc tmv:List Value)(done:List Nat),Ord ops m lex s->Way P md ops m n z9 zz p LF effs LL.flatten lex tmc tmv done todo->B0 tmv l->Ef ops cl effs done todo=true->(∀i∈todo,i<m)->
  RS P md (G (FL f r tmc df (.inRegion ops.toArray (s++List.range' m (ops.length-m))::k)) cs) (fun h=>St z9 zz p h (LF++LL.flatten)) Stop:=by
 have pend:∀{i:Nat}{s:List Nat}{o:Oper}{lex:Array Bool}{tmc tmv:List Value}{done todo:List Nat}{C:Pcs},i<m->ops[i]?=some o->lex.getD i true=false->(∀x∈Bm o,lex.getD x false=true)->i∉todo->Way P md ops m n z9 zz p LF effs C lex tmc tmv done todo->
  (∀O,Way P md ops m n z9 zz p LF effs C (lex.setIfInBounds i true) O tmv done todo->RS P md (G (FL f r O df (.inRegion ops.toArray (s++List.range' m (ops.length-m))::k)) cs) (fun h=>St z9 zz p h (LF++C)) Stop)->
  RS P md (G (FL f r tmc df (.inRegion ops.toArray (i::s++List.range' m (ops.length-m))::k)) cs) (fun h=>St z9 zz p h (LF++C)) Stop:=fun{i s o lex tmc tmv done todo C}hi ho hn hp hit W nx=>by
  have a9:lex.getD i false=false:=by rw[<- xcc (by rw[W.size];exact(List.getElem?_eq_some_iff.1 ho).1)];exact hn
  obtain⟨o',M,u,hT,hu⟩:=W.pend i hi a9 hit;rw[ho]at M;cases M;exact xo5 ho (xkd ((xwq V ho).2.2 hi).1 (W.Pf V hi ho hp) hT).a (nx _ (W.step ho (fun d=>a4 i o d ho) hit hp hu))
 induction D with
 |@nil l LL kk=>
   intro s
   induction s with
   |nil=>
     intro lex tmc tmv done H W E _ _;cases H with
     |nil hall=>
     have:tmc=tmv:=List.ext_getElem? fun t=>W.same t fun j _ hj _ _=>hall j hj;subst this;exact hK l LL tmc kk W.lc E
   |cons i s ih=>
     intro lex tmc tmv done H W E ok lt;cases H with
     |@cons _ _ _ o hi ho hn hp hs=>exact pend hi ho hn hp s_ W fun O W'=>ih _ O tmv done hs W' E ok lt
 |@det i todo o l LL g v ho h nx ih=>
   intro s lex tmc tmv done H W E ok lt;obtain⟨o',M,h1,h2,h3,h4⟩:=xsk ok;rw[ho]at M;cases M;have hi:=lt i s_;have a5:i∉todo:=fun z=>xyz h4 i z s_;exact ih s lex tmc (Cz tmv o.dst (cv g v)) (i::done) H (W.adv V hi ho (fun d=>a4 i o d ho) a5 (fun x hx z=>xyz h4 x z (by simp[h1 x hx])) (.inl (h tmv W.lv E))) (E.ent W.lv fun d=>a4 i o d ho) h4 fun j hj=>lt j (by simp[hj])
 |@pin i todo o l LL g v ho hb h nx ih=>
   intro s lex tmc tmv done H W E ok lt;obtain⟨o',M,h1,h2,h3,h4⟩:=xsk ok;rw[ho]at M;cases M;have hi:=lt i s_;have a5:i∉todo:=fun z=>xyz h4 i z s_;exact ih s lex tmc (Cz tmv o.dst (cv g v)) (i::done) H (W.adv V hi ho (fun d=>a4 i o d ho) a5 (fun x hx z=>xyz h4 x z (by simp[h1 x hx])) (.inr ⟨by have:=h tmv W.lv E [];rwa[List.append_nil]at this,hb⟩)) (E.ent W.lv fun d=>a4 i o d ho) h4 fun j hj=>lt j (by simp[hj])
 |@N6 e todo o l LL LR U g Q ho he hr h nx ih=>
   intro s
   induction s with
   |nil=>
     intro lex tmc tmv done H W E ok lt;cases H with
     |nil hall=>exact absurd ((W.Lp e s_).symm.trans (hall e (lt e s_))) s_
   |cons i s ihs=>
     intro lex tmc tmv done H W E ok lt;cases H with
     |@cons _ _ _ oi hi hoi hn hp hs=>
     obtain⟨o',M,h1,h2,h3,h4⟩:=xsk ok;rw[ho]at M;cases M;have a5:e∉todo:=fun z=>xyz h4 e z s_;by_cases ie:i=e
     ·subst ie;rw[ho]at hoi;cases hoi;obtain⟨a1,hh⟩:=h tmv W.lv E;have a6:=W.Pf V hi ho hp;have a8:=((xwq V ho).2.2 hi).1;have key:∀u x,Q u x->RS P md (G (FL f r (Cz tmc o.dst (cv g u)) df (.inRegion ops.toArray (s++List.range' m (ops.length-m))::k)) cs) (fun h=>St z9 zz p h (x++(LF++LR.flatten))) Stop:=fun u x hq=>by
       refine xyg (ih u x hq s _ _ (Cz tmv o.dst (cv g u)) (i::done) hs (W.act _ V he hi ho (fun d=>a4 i o d ho) a5 (fun x hx z=>xyz h4 x z (by simp[h1 x hx])) hp) (E.ent (g:=g) W.lv fun d=>a4 i o d ho) h4 fun j hj=>lt j (by simp[hj])) fun h y=>y.perm ?_;rw[List.flatten_cons,<- List.append_assoc,<- List.append_assoc];exact List.Perm.append_right _ List.perm_append_comm
      have a7:(LF++LL.flatten).Perm (U++(LF++LR.flatten)):=by
       refine(List.Perm.append_left LF hr).trans ?_;rw[<- List.append_assoc,<- List.append_assoc];exact List.Perm.append_right _ List.perm_append_comm
      rcases hh with⟨a2,a3⟩|⟨a2,u,hu,hq⟩
      ·refine xyg (ygm (LF:=LF) (U:=U) (C:=LR.flatten) (Q:=fun v x=>∃u,v=cv g u/\Q u x) ho a1 (xbl a6 a2) (fun h y=>?_) fun v x⟨u,e,hq⟩=>by subst e;exact key u x hq) fun h y=>y.perm a7;have:=(a3 LR.flatten h y).mono fun v h'(⟨u,x,e,q,z⟩:∃ u x,v=cv g u/\Q u x/\St z9 zz p h' (x++(LF++LR.flatten)))=>(⟨x,⟨u,e,q⟩,z⟩:∃x,(∃u,v=cv g u/\Q u x)/\St z9 zz p h' (x++(LF++LR.flatten)))
       unfold He Exv at this⊢;rw[xnt a8 a6];exact this
      ·have b0:ops.toArray[i]?=some o:=by simpa using ho
       refine xyg (xjs b0 (xxq (xbl a6 a2)) ?_) fun h y=>y.perm a7;rw[xyq,<- hu];exact key u U hq
     ·by_cases it:i∈todo
      ·have hb:=xen h4 (e:=e) s_ he i it oi hoi;have:=xjv V W.size W.O1 ops.length oi e (fun x hx=>⟨Nat.lt_trans ((xwq V hoi).1 x hx) (List.getElem?_eq_some_iff.1 hoi).1,hp x hx⟩) hb;rw[W.Lp e s_]at this;cases this
      ·exact pend hi hoi hn hp (by simp[ie,it]) W fun O W'=>ihs _ O tmv done hs W' E ok lt
theorem xjf{X:Cx}{LL L1:List Pcs}(hL:L1.flatten.Perm (LL.flatten++L0.flatten))(m:Nat)(cl:List (List Nat))(effs H:List Nat)(a7:X.P.follows .mixedOrders=true)(ok:okD X.n ops=true)
 (D:DR X.P X.md ops X.n X.z9 X.zz p LL.flatten effs (fun l' LL'=>RO X k ops (ops.drop m) l' p (LL++LL')) H l L0)
 (a5:Bo ops m cl=true:=by rfl)(hm:Nat.ble m ops.length=true:=by rfl)(a4:Ef ops cl effs [] H=true:=by rfl)(a6:((List.range m).all fun i=>H.contains i)=true:=by rfl)(b0:(H.all fun i=>Nat.blt i m)=true:=by rfl):
 RE X (.code (.region id ops.toArray true)::k) l p L1:=by
 constructor;intro tm ht E;have b3:∀{os:List Oper},okD X.n os=true-> ∀o∈os,∀d,o.dst=some d->d<X.n:=fun{os}=>by
  induction os with
  |nil=>intro _ o ho;simp at ho
  |cons o os ih=>
    intro h o' a2 d hd;rcases List.mem_cons.1 a2 with rfl|a2
    ·exact(xfq h).2 d hd
    ·exact ih (xfq h).1 o' a2 d hd
 have O:∀{os:List Oper}(j:Nat),okD X.n os=true->okD X.n (os.drop j)=true:=fun{os}=>by
  induction os with
  |nil=>intro j h;cases j<;>exact h
  |cons o os ih=>
    intro j h;cases j with
    |zero=>exact h
    |succ j=>exact ih j (xfq h).1
 have hm:=Nat.le_of_ble_eq_true hm;refine xls fun t=>?_;unfold Region.schedule;rw[a7];simp only[Bool.true_or,if_true];obtain⟨s,e,a8⟩:=xdn a5 hm t;rw[e];have M:∀j<m,j∈H:=fun j V=>by
  have:=List.all_eq_true.1 a6 j (List.mem_range.2 V);simpa using this
 have:=yrq (f:=X.f) (r:=X.r) (df:=X.df) (k:=k) (cs:=X.cs) (Stop:=X.Stop) (m:=m) a5 (fun i o d ho hd=>b3 ok o (List.mem_of_getElem? ho) d hd) (fun l' LL' tm' K a9 E'=>by
  have z:=K.run (O m ok) tm' a9 E' (ops.take m) (List.take_append_drop m ops).symm;rw[List.length_take,Nat.min_eq_left hm,List.length_drop,List.flatten_append]at z;exact z) D s _ tm tm [] a8 ⟨s_,ht,ht,fun j V _ a3=>absurd (M j V) a3,fun j _=>by simp[Array.getD],fun _ _=>rfl,fun j V a3=>absurd (M j V) a3,fun j V=>.inr (M j V),fun j _=>by simp,fun j o h=>by simp[Array.getD]at h⟩ E a4 (fun i hi=>Nat.lt_of_lt_of_le (Nat.le_of_ble_eq_true (List.all_eq_true.1 b0 i hi)) (Nat.le_refl _))
 intro h y;exact this h (y.perm hL)
theorem xd6{X:Cx}{LL:List Pcs}(m:Nat)(cl:List (List Nat))(effs H:List Nat)(V:X.P.follows .mixedOrders=true)(ok:okD X.n ops=true)
 (D:DR X.P X.md ops X.n X.z9 X.zz p LL.flatten effs (fun l' LL'=>RO X k ops (ops.drop m) l' p (LL++LL')) H l [])
 (a3:Bo ops m cl=true:=by rfl)(hm:Nat.ble m ops.length=true:=by rfl)(O:Ef ops cl effs [] H=true:=by rfl)(M:((List.range m).all fun i=>H.contains i)=true:=by rfl)(a2:(H.all fun i=>Nat.blt i m)=true:=by rfl):
 RE X (.code (.region id ops.toArray true)::k) l p LL:=xjf s_ m cl effs H V ok D a3 hm O M a2
end
inductive Ks where
 |drop (m:Nat)
 |to (K:Env->List Pcs->Prop)
def Ks.k(X:Cx)(k:List Item)(ops:List Oper)(p:Ab)(LF:List Pcs):Ks->Env->List Pcs->Prop
 |.drop m=>fun l' LL'=>RO X k ops (ops.drop m) l' p (LF++LL')
 |.to K=>K
structure DE(X:Cx)(k:List Item)(ops:List Oper)(m:Ks)(p:Ab)(LF:List Pcs)(effs:List Nat)(todo:List Nat)(l:Env)(LL:List Pcs):Prop where
 run:DR X.P X.md ops X.n X.z9 X.zz p LF.flatten effs (m.k X k ops p LF) todo l LL
class Pp(A B:List Pcs)(C:outParam (List Pcs)):Prop where h:A++B=C
instance{B:List Pcs}:Pp [] B B:=⟨rfl⟩
instance{A B C:List Pcs}{X:Pcs}[i:Pp A B C]:Pp (X::A) B (X::C):=⟨by rw[List.cons_append,i.h]⟩
section
variable{X:Cx}{k:List Item}{m:Ks}{LF LL LR L3:List Pcs}{pos:String}
theorem xmw(m:Nat)(cl:List (List Nat))(effs H:List Nat)(D:DE X k ops (.drop m) p LL effs H l [])(V:X.P.follows .mixedOrders=true:=by kernel_rfl)(ok:okD X.n ops=true:=by rfl)
 (a3:Bo ops m cl=true:=by rfl)(hm:Nat.ble m ops.length=true:=by rfl)(O:Ef ops cl effs [] H=true:=by rfl)(M:((List.range m).all fun i=>H.contains i)=true:=by rfl)(a2:(H.all fun i=>Nat.blt i m)=true:=by rfl):
 RE X (.code (.region id ops.toArray true)::k) l p LL:=xd6 m cl effs H V ok D.run a3 hm O M a2
theorem yf1{H:Nat}[a:Pp LF LL L3](n:RO X k ops os l p L3)(M:ops.drop H=os:=by rfl):DE X k ops (.drop H) p LF effs [] l LL:=⟨.nil (show RO X k ops (ops.drop H) l p (LF++LL) from by rw[a.h,M];exact n)⟩
theorem xuq{K:Env->List Pcs->Prop}(n:K l LL):DE X k ops (.to K) p LF effs [] l LL:=⟨.nil n⟩
theorem xvl{B:Heap->Prop}(h:∀h,B h->Exd P tm o h v):Nx P md tm o B v:=fun O H=>.inl (xex (h O H) fun _ _⟨v',e1,e2,M⟩=>⟨v',e1,e2,by rw[M];exact H⟩)
theorem xk4(ho:ops[i]?=some ⟨d,op,ty,pos,aft,gd⟩)(V:gdc ops l gd=some g)(O:Bq op=true)(M:Bn g (∀tm h C,B0 tm l->St X.z9 X.zz p h (LF.flatten++C)->Exd X.P tm ⟨d,op,ty,pos,aft,gd⟩ h v))
 (n:DE X k ops m p LF effs todo (ent d g v l) LL):DE X k ops m p LF effs (i::todo) l LL:=⟨.det ho (fun tm _ E=>⟨O,by
  rcases xgv (o:=⟨d,op,ty,pos,aft,gd⟩) E V with⟨rfl,H⟩|⟨c,rfl,H⟩
  ·exact .inl ⟨H,fun C=>xvl fun h y=>M tm h C E y⟩
  ·cases c with
   |true=>exact .inl ⟨H,fun C=>xvl fun h y=>M rfl tm h C E y⟩
   |false=>exact .inr ⟨H,rfl⟩⟩) n.run⟩
theorem de_y(M:ops[i]?=some ⟨d,op,ty,pos,aft,gd⟩)(H:gdc ops l gd=some g)(y:Yl X p LF l g op v)(n:DE X k ops m p LF effs todo (ent d g v l) LL):DE X k ops m p LF effs (i::todo) l LL:=
 xk4 M H y.n (xjx y.h fun z tm h C E s=>z tm h C E s) n
theorem xhv(ho:ops[i]?=some ⟨d,.call ⟨.value x,args.toArray,ats⟩,ty,pos,aft,gd⟩)(hg:gdc ops l gd=some g)
 (V:evS l x=some ([],.func (.func ff) first.toArray cap.toArray))(O:D4 l args=some (ss,vs))(hs:Bn g (Bl ss))(hc:Bn g (∀h,Per p h->Ac X.P X.md ff (first++(vs++cap)).toArray h fun v' h'=>v'=v/\Av h h'))(n:DE X k ops m p LF effs todo (ent d g v l) LL)(hf:Ao X.P ff=true:=by kernel_rfl):
 DE X k ops m p LF effs (i::todo) l LL:=⟨.det ho (fun tm _ E=>⟨rfl,by
  have H:Bl ss->(∀h,Per p h->Ac X.P X.md ff (first++(vs++cap)).toArray h fun v' h'=>v'=v/\Av h h')-> ∀C:Pcs,Nx X.P X.md tm ⟨d,.call ⟨.value x,args.toArray,ats⟩,ty,pos,aft,gd⟩ (fun h=>St X.z9 X.zz p h (LF.flatten++C)) v:=fun hs hc C h s=>
   .inr (.inl ⟨ff,_,xuw (xdq E V trivial) (by rw[xlx E O hs]) hf,(hc h fun b o e=>s.per b o e).mono fun _ _⟨e,kk⟩=>⟨e,s.call kk⟩⟩)
  rcases xgv (o:=⟨d,.call ⟨.value x,args.toArray,ats⟩,ty,pos,aft,gd⟩) E hg with⟨rfl,M⟩|⟨c,rfl,M⟩
  ·exact .inl ⟨M,H hs hc⟩
  ·cases c with
   |true=>exact .inl ⟨M,H (hs rfl) (hc rfl)⟩
   |false=>exact .inr ⟨M,rfl⟩⟩) n.run⟩
theorem xzz(O:ops[i]?=some ⟨d,.call ⟨.value x,args.toArray,ats⟩,ty,pos,aft,none⟩)
 (M:evS l x=some ([],.func (.func ff) first.toArray cap.toArray))(H:D4 l args=some ([],vs))(hc:∀h,Per p h->Ac X.P X.md ff (first++(vs++cap)).toArray h fun v' h'=>v'=v/\Av h h')(n:DE X k ops m p LF effs todo (ent d none v l) LL)(hf:Ao X.P ff=true:=by kernel_rfl):
 DE X k ops m p LF effs (i::todo) l LL:=xhv (g:=none) O rfl M H trivial hc n hf
theorem xuk(O:ops[i]?=some ⟨d,.call ⟨.value x,args.toArray,ats⟩,ty,pos,aft,none⟩)
 (M:evS l x=some ([],.func (.func ff) first.toArray cap.toArray))(H:D4 l args=some ([],vs))(hc:∀h,Per p h->Ac X.P X.md ff (first++(vs++cap)).toArray h fun v' h'=>∃Y,Q v' Y/\New h h' Y)(n:∀v Y,Q v Y->DE X k ops m p LF effs todo (ent d none v l) (Y::LL))
 (he:effs.contains i=true:=by rfl)(hf:Ao X.P ff=true:=by kernel_rfl):DE X k ops m p LF effs (i::todo) l LL:=
 ⟨.eff (U:=[]) (LR:=LL) (Q:=Q) O (by simpa using he) (List.Perm.refl _) (fun _ _ E=>⟨rfl,xoq rfl,fun C h s=>.inr <| .inl ⟨ff,_,xuw (xdq E M trivial) (by rw[xlx E H trivial]) hf,(hc h fun b o e=>s.per b o e).mono fun _ _⟨Y,q,nn⟩=>⟨Y,q,s.K4 nn⟩⟩⟩) fun v Y q=>(n v Y q).run⟩
end
section
variable{X:Cx}{k:List Item}{LL LR:List Pcs}{pos:String}
theorem yat(hg:gdc ops l gd=some g)(hx:evS l x=some ([],fv))(V:D4 l args=some (ss,vs))(hs:Bn g (Bl ss))(hc:Bn g (∀h,Per p h->Be X.P X.md fv vs h fun v' h'=>v'=v/\Av h h'))(n:RO X k ops rest (ent d g v l) p LL):
 RO X k ops (⟨d,.call ⟨.value x,args.toArray,ats⟩,ty,pos,aft,gd⟩::rest) l p LL:=by
 constructor;intro ok tm ht E;have O:=xfq ok;have go:∀u,u=cv g v->RL X.P X.md X.f X.r X.df k X.cs X.Stop ops rest (Cz tm d u) (fun h=>St X.z9 X.zz p h LL.flatten):=fun u e=>by
  subst e;exact n.run O.1 _ (A0.trans ht) (E.ent ht O.2)
 have M:Met ops tm ⟨d,.call ⟨.value x,args.toArray,ats⟩,ty,pos,aft,gd⟩ true->Bl ss->(∀h,Per p h->Be X.P X.md fv vs h fun v' h'=>v'=v/\Av h h')->v=cv g v->
  RL X.P X.md X.f X.r X.df k X.cs X.Stop ops (⟨d,.call ⟨.value x,args.toArray,ats⟩,ty,pos,aft,gd⟩::rest) tm (fun h=>St X.z9 X.zz p h LL.flatten):=fun H hs hc e=>
  xb1 H (xdq E hx trivial) (xlx E V hs) (fun h s=>hc h fun b o e=>s.per b o e) rfl (go _ e)
 rcases xgv (o:=⟨d,.call ⟨.value x,args.toArray,ats⟩,ty,pos,aft,gd⟩) E hg with⟨rfl,H⟩|⟨c,rfl,H⟩
 ·exact M H hs hc rfl
 ·cases c with
  |true=>exact M H (hs rfl) (hc rfl) rfl
  |false=>exact xub H rfl (go _ rfl)
theorem xjp(M:evS l x=some ([],fv))(H:D4 l args=some ([],vs))(hc:∀h,Per p h->Be X.P X.md fv vs h fun v' h'=>v'=v/\Av h h')(n:RO X k ops rest (ent d none v l) p LL):
 RO X k ops (⟨d,.call ⟨.value x,args.toArray,ats⟩,ty,pos,aft,none⟩::rest) l p LL:=yat (g:=none) rfl M H trivial hc n
end
inductive Ey (P:Program) (l:Env) (LL:List Pcs):List ResultVar->List Value->Prop
 |nil:Ey P l LL [] []
 |tmp {t:Tmp} {v:Value} {rs:List ResultVar} {vs:List Value} (h:lk l t=some (none,v)) (r:Ey P l LL rs vs):Ey P l LL (.tmp t::rs) (v::vs)
 |cell1 {a:Tmp} {T:TypeId} {b off:Nat} {cs:Array Value} {T':TypeId} {z:Nat×Nat} {LR:List Pcs} {v:Value} {rs:List ResultVar} {vs:List Value} (h:lk l a=some (none,w_ b off)) (i:Cd P T false) (m:Bx LL b (.cells cs T' z) LR) (hv:nth cs.toList off=some v) (r:Ey P l LL rs vs):
  Ey P l LL (.cell a T::rs) (v::vs)
 |O8 {a:Tmp} {T:TypeId} {b off n:Nat} {cs:Array Value} {T':TypeId} {z:Nat×Nat} {LR:List Pcs} {rs:List ResultVar} {vs:List Value} (h:lk l a=some (none,w_ b off)) (i:Cd P T true) (s:Ak P T n) (m:Bx LL b (.cells cs T' z) LR) (hn:((cs.toList.drop off).take n).length=n)
  (r:Ey P l LL rs vs):Ey P l LL (.cell a T::rs) (.agg ((cs.toList.drop off).take n).toArray::vs)
theorem xkt{t:Nat}(E:B0 tm l)(h:lk l t=some (none,v)):tm.getD t undef=v:=by simp[List.getD_eq_getElem?_getD,E _ _ _ h,cv]
theorem yvz{LL:List Pcs}(E:B0 tm l)(s:St z9 zz p h LL.flatten)(r:Ey P l LL rs vs):Res P h tm rs vs:=by
 induction r with
 |nil=>exact rfl
 |tmp h1 _ ih=>exact⟨_,_,rfl,xkt E h1,ih⟩
 |cell1 h1 i m hv _ ih=>
   refine⟨_,_,rfl,?_,ih⟩;rw[xkt E h1];exact xaq (xbq (xsh i.h ((s.bx m).Fs (i:=0) rfl (by rw[<- Array.getElem?_toList];exact xlr hv)) ⟨rfl,rfl⟩))
 |O8 h1 i sz m hn _ ih=>
   refine⟨_,_,rfl,?_,ih⟩;rw[xkt E h1];refine xaq (xbq (xrh i.h sz.h hn (fun j u H=>?_) ⟨rfl,rfl⟩));rw[xox];refine(s.bx m).Fs (i:=0) rfl ?_;rw[List.getElem?_take]at H;split at H
   ·rw[List.getElem?_drop]at H;simpa using H
   ·cases H
theorem xez{cs:List Frame}{Stop:Goroutine->Heap->Prop}{LL:List Pcs}{k:List Item}(hf:P.funcs[f]?=some fn)(H:fn.results=rs.toArray)
 (hv:Ey P l LL rs vs)(x:∀h,St z9 zz p h LL.flatten->Reach P md (G (zq.finish (F9 vs)) cs) h Stop):RE ⟨P,md,f,.none,nn,[],zq::cs,Stop,z9,zz⟩ (.code .ret::k) l p LL:=
 ⟨fun _ _ E=>ybl hf H (fun _ s=>yvz E s hv) rfl x⟩
theorem xd1{LL LR:List Pcs}{a:Tmp}(h:lk l a=some (none,w_ b off))(r:Ey P l LL rs vs)[i:Cd P T false][m:Bx LL b (.cells cs T' z) LR]
 (hv:nth cs.toList off=some v:=by rfl):Ey P l LL (.cell a T::rs) (v::vs):=.cell1 h i m hv r
theorem xpq{LL LR:List Pcs}{a:Tmp}(h:lk l a=some (none,w_ b off))(r:Ey P l LL rs vs)[i:Cd P T true][s:Ak P T n][m:Bx LL b (.cells cs T' z) LR]
 (hn:((cs.toList.drop off).take n).length=n:=by rfl):Ey P l LL (.cell a T::rs) (.agg ((cs.toList.drop off).take n).toArray::vs):=.O8 h i s m hn r
theorem rsv{p:Prop}(h:p:=by repeat (first|exact Ey.nil|refine Ey.tmp rfl ?_|refine xd1 rfl ?_|refine xpq rfl ?_)):p:=h
def Oh:List (Nat×Nat)->Nat->Option (Nat×Nat)
 |[],_=>none
 |x::_,0=>some x
 |_::xs,i+1=>Oh xs i
theorem yak:∀{l:List (Nat×Nat)}{i:Nat}{x:Nat×Nat},Oh l i=some x->l[i]?=some x
 |[],_,_,h=>by cases h
 |_::_,0,_,h=>h
 |_::xs,i+1,_,h=>yak (l:=xs) h
def Gl(pl:List (Nat×Nat)):List Value->List (Nat×Value)->Option (List Value)
 |cs,[]=>some cs
 |cs,x::rest=>
   match Oh pl x.1 with
   |none=>none
   |some q=>match Nat.beq x.2.cells.toList.length q.2&&Nat.ble (q.1+q.2) cs.length with
     |true=>Gl pl (Ce cs q.1 x.2.cells.toList) rest
     |false=>none
theorem xr4{off:Nat}:∀{l:List Value}{k:Nat}{cs:Array Value},((l.zipIdx k).foldl (fun cs(c,j)=>cs.setIfInBounds (off+j) c) cs).toList=Ce cs.toList (off+k) l
 |[],_,_=>rfl
 |c::l,k,cs=>by
   rw[List.zipIdx_cons,List.foldl_cons,xr4,Array.toList_setIfInBounds];rfl
theorem xbm{pl:List (Nat×Nat)}:∀{vs:List (Nat×Value)}{cs r:List Value},Gl pl cs vs=some r->Instr.fill (fun i=>pl[i]?) cs.toArray vs=some r.toArray
 |[],cs,r,h=>by unfold Gl at h;cases h;rfl
 |(i,v)::vs,cs,r,h=>by
   rw[Gl]at h;cases O:Oh pl i with
   |none=>simp only[O]at h;cases h
   |some q=>
     obtain⟨off,size⟩:=q;simp only[O]at h;cases H:Nat.beq v.cells.toList.length size&&Nat.ble (off+size) cs.length with
     |false=>rw[H]at h;cases h
     |true=>
       rw[H]at h;simp only[Bool.and_eq_true,Nat.beq_eq,Nat.ble_eq,Array.length_toList]at H;have M:pl[i]?=some (off,size):=yak O;have e:v.cells.zipIdx.foldl (fun cs(c,j)=>cs.setIfInBounds (off+j) c) cs.toArray=(Ce cs off v.cells.toList).toArray:=by
        apply Array.toList_inj.1;rw[<- Array.foldl_toList,Array.toList_zipIdx,xr4];rfl
       unfold Instr.fill;simp only[M];rw[if_neg (by simp[H.1];omega),e];exact xbm h
section
variable{X:Cx}{k:List Item}{m:Ks}{LF LL LR:List Pcs}{pos:String}
theorem yv0{o:Nat}[f:FiC P t j o](O:evl tm x=.agg cs)(hv:nth cs.toList o=some v):Exd P tm ⟨d,.field t x j,ty,pos,aft,gd⟩ h v:=by
 obtain⟨fs,fd,V,h2,H,M⟩:=f.h;exact yrv V h2 rfl H M O (by rw[<- Array.getElem?_toList];exact xlr hv)
theorem y_fi{o:Nat}(H:evS l x=some (ss,.agg cs))(hs:Bn g (Bl ss))[f:FiC X.P t j o](hv:nth cs.toList o=some v:=by rfl):Yl X p LL l g (.field t x j) v:=⟨rfl,(xjx hs fun hs _ _ _ E _=>yv0 (xdq E H hs) hv)⟩
theorem y_fb{H:Nat}(M:evS l x=some (ss,w_ b off))(hs:Bn g (Bl ss))[f:B4 X.P s j H nn]:Yl X p LL l g (.fieldAddr s x j) (.pointer (some ⟨b,off+H,none⟩)):=⟨rfl,(xjx hs fun hs _ _ _ E _=>xpg f.h (xdq E M hs) (xox _ _ _))⟩
theorem yes{a b:Int}(M:evS l x=some (ss,.int kk a))(O:evS l y=some (ss',.int k' b))(hs:Bn g (Bl ss))(H:Bn g (Bl ss')):Yl X p LL l g (.call ⟨.builtin .min,#[x,y],ats⟩) (.int kk (min a b)):=⟨rfl,(xnk hs H fun hs H _ _ _ E _=>ykp (xdq E M hs) (xdq E O H))⟩
theorem yj3{a b:Int}(M:evS l x=some (ss,.int kk a))(O:evS l y=some (ss',.int k' b))(hs:Bn g (Bl ss))(H:Bn g (Bl ss')):Yl X p LL l g (.call ⟨.builtin .max,#[x,y],ats⟩) (.int kk (max a b)):=⟨rfl,(xnk hs H fun hs H _ _ _ E _=>ylp (xdq E M hs) (xdq E O H))⟩
theorem xed{e:TypeId}{a:Option Addr}{q c:Nat}{j:Int}(H:evS l x=some ([],.slice a q c))(M:evS l y=some ([],.int kk j))(V:0<=j)(hi:j<q)(O:a=some (adr a))[f:Ca X.P t e][sz:Ak X.P e w]:Yl X p LL l none (.indexAddr t x y) (.pointer (some ((adr a).add (j.toNat*w)))):=⟨rfl,(fun _ _ _ E _=>xdb f.h sz.h ((xdq E H trivial).trans (ycc q c O)) (xdq E M trivial) V hi rfl)⟩
theorem ysl{z:Value}{cells:List Value}{vs:List (Nat×Value)}(H:Nu l parts=some vs)[hz:Bg X.P t z][hp:PlC X.P t pl](hf:Gl pl z.cells.toList vs=some cells:=by rfl):Yl X p LL l none (.build t parts.toArray) (.agg cells.toArray):=⟨rfl,(fun _ _ _ E _=>xb2 hz.h hp.h (xpt E H) (xbm hf))⟩
end
theorem Om{n:Int}(h:0<=n/\n<=18446744073709551615):IntKind.u64.wrap n=n:=by
 obtain⟨H,M⟩:=h;unfold IntKind.wrap;simp[IntKind.signed,IntKind.bits];omega
theorem bpe{x:Bool}{q P:Prop}[i:BP x q][Decidable P](h:q<->P):x=decide P:=by
 cases x
 ·exact(decide_eq_false fun z=>by have:=i.iff.2 (h.2 z);cases this).symm
 ·exact(decide_eq_true (h.1 (i.iff.1 rfl))).symm
theorem bpn{x:Bool}{q P:Prop}[i:BP x q][Decidable P](h:q<-> ¬ P):x= !decide P:=(bpe (P:=¬ P) h).trans s_
theorem xgz{q:Prop}(h:q):Bn g q:=by
 cases g with
 |none=>exact h
 |some c=>exact fun _=>h
theorem xp3(h:p b=some (.cells cs T z))(hv:nth cs.toList off=some v):Aw p ⟨b,off,none⟩=some v:=by
 unfold Aw;rw[h];simp only[Option.isSome_none,Bool.false_eq_true,if_false];rw[<- Array.getElem?_toList];exact xlr hv
theorem xzw(h:p b=some (.cells cs T z)):∀j v,((cs.toList.drop off).take n)[j]?=some v->Aw p ((⟨b,off,none⟩:Addr).add j)=some v:=fun j v H=>by
 rw[xox];unfold Aw;rw[h];simp only[Option.isSome_none,Bool.false_eq_true,if_false];rw[<- Array.getElem?_toList];rw[List.getElem?_take]at H;split at H
 ·rw[List.getElem?_drop]at H;exact H
 ·cases H
theorem sdt{p:Prop}(h:p:=by
 first
  |exact trivial
  |exact⟨wrZ om,trivial⟩
  |exact⟨fun e=>⟨yw3 e,trivial⟩,trivial⟩
  |exact⟨fun e=>⟨e,trivial⟩,trivial⟩
  |exact⟨fun _=>trivial,trivial⟩
  |exact⟨Om om,trivial⟩
  |exact gd2 fun h q=>by first
    |exact trivial
    |exact⟨h,trivial⟩
    |exact⟨h,h,trivial⟩
    |exact⟨wrZ om,trivial⟩
    |exact⟨h,wrZ om,trivial⟩
    |exact⟨h,h,wrZ om,trivial⟩
    |exact⟨Ox h,trivial⟩
    |exact⟨Ox h,Ox h,trivial⟩
    |exact⟨Ox (Ox h),trivial⟩
    |exact⟨h,fun e=>⟨by rw[h,e];rfl,trivial⟩,trivial⟩
    |exact⟨h,fun _=>trivial,trivial⟩
    |exact⟨h,fun _=>⟨h,trivial⟩,trivial⟩
    |exact⟨fun e=>⟨by rw[h,e];rfl,trivial⟩,trivial⟩
    |(refine⟨?_,?_⟩<;>simp_all[Bl])):p:=h
section
variable{X:Cx}{k:List Item}{m:Ks}{LF LL LR:List Pcs}{pos:String}
theorem ydx{e:TypeId}{a:Option Addr}{c:Nat}(H:evS l x=some ([],.slice a n c))[f:Ca X.P T e]:Yl X p LL l none (.binOp .eql T x (.const (.slice none 0 0)) T') (.bool (decide (a=none))):=⟨rfl,(fun _ _ _ E _=>show Exd _ _ _ _ (.bool (decide (a=none))) from(show a.isNone=decide (a=none) by cases a<;>simp) ▸ xz1 f.h (xdq E H trivial))⟩
theorem xib{a:Int}(hs:∃t,X.P.underlying src=some t)(H:X.P.underlying dst=some (.int k'))(M:evS l x=some ([],.int k1 a))(hn:k'.wrap a=a):Yl X p LL l none (.convert src dst x) (.int k' a):=⟨rfl,(fun _ _ _ E _=>xx7 hs H (xdq E M trivial) hn)⟩
theorem yrm{a:Int}(H:evS l x=some ([],.int .u64 a))(h:0<=a/\a<4294967296)(n:RO X k ops rest (ent d none (.int .u64 a) l) p LL):
 RO X k ops (⟨d,.binOp .and T x (.const (.int .u64 4294967295)) T',ty,pos,aft,none⟩::rest) l p LL:=xtb (g:=none) rfl rfl (fun tm h' E _=>by
 have e:a=((a.toNat:Nat):Int):=om;have e2:a.toNat &&& 4294967295=a.toNat:=by
  rw[show(4294967295:Nat)=2^32-1 from rfl,Nat.and_two_pow_sub_one_eq_mod];omega
 have z:=xy7 (d:=d) (T:=T) (T':=T') (ty:=ty) (pos:=pos) (aft:=aft) (gd:=none) (P:=X.P) (h:=h') (tm:=tm) ((xdq E H trivial).trans (by rw[<- e])) (show evl _ (.const (.int .u64 4294967295))=.int .u64 ((4294967295:Nat):Int) from rfl) om d_;rw[e2,<- e]at z;exact z) n
theorem ynz{a:Int}(H:evS l x=some ([],.int k1 a))(h:0<=a/\a<4294967296)(n:RO X k ops rest (ent d none (.int k1 0) l) p LL)(M:32<=k1.bits:=by decide):
 RO X k ops (⟨d,.binOp .shr T x (.const (.int k2 32)) T',ty,pos,aft,none⟩::rest) l p LL:=xtb (g:=none) rfl rfl (fun tm h' E _=>by
 have e:a=((a.toNat:Nat):Int):=om;have e2:a.toNat / 2^32=0:=Nat.div_eq_of_lt om;have z:=xv7 (d:=d) (T:=T) (T':=T') (ty:=ty) (pos:=pos) (aft:=aft) (gd:=none) (P:=X.P) (h:=h') (tm:=tm) ((xdq E H trivial).trans (by rw[<- e])) (show evl _ (.const (.int k2 32))=.int k2 ((32:Nat):Int) from rfl) M;rw[e2]at z;exact z) n
theorem yqm{z:Value}(hx:evS l x=some ([],.J ((n:Nat):Int)))(hy:evS l y=some ([],.J ((n:Nat):Int)))(hn:n<=1000)[hT:Ca X.P sT eT][hs:Ak X.P eT w][hz:Bg X.P eT z][hb:ByC X.P eT by']
 (nx:∀v Y,Aa eT w v (List.replicate n zc) Y->RO X k ops rest ((dd,none,v)::l) p (Y::LL))(O:z.cells=zc.toArray:=by rfl)(M:zc.length=w:=by rfl)(hw:0<w/\w<=100:=by decide)(H:by'<=2^20:=by decide):
 RO X k ops (⟨some dd,.makeSlice sT x y,ty,pos,aft,none⟩::rest) l p LL:=⟨fun V tm ht E=>
 xrj (K:=fun v h'=>∃Y,Aa eT w v (List.replicate n zc) Y/\St X.z9 X.zz p h' (Y++LL.flatten)) (xoq rfl) rfl (fun h s=>xz7 hT.h hs.h hz.h O M hw.1 hw.2 hb.h (xdq E hx trivial) (xdq E hy trivial) hn H s)
  fun v=>xgk fun Y=>xyx fun o=>(nx v Y o).run (xfq V).1 _ (by simp[Cz,ht]) (E.set (g:=none) (ht ▸ xkw V rfl))⟩
theorem Eu[i:Rm LL Y LR](s:St z9 [] p h LL.flatten):New z9 h Y:=((s.rm i).sub (List.sublist_append_left _ _)).new
end
theorem xmb{m dl:Nat}{x:Value}(hT:P.underlying dT=some (.slice eT))(hs:Bv P eT=some w)(o:Aa T w v es Y)(s:St z9 zz p h (Y++C))(a3:0<es.length)
 (hn:Nat.min m dl=n)(hlen:∀K:Nat->Heap->Prop,K m h->wpS P (Builtin.lenOf x) h K)(hc:∀K:Array Value->Heap->Prop,K news.flatten.toArray h->wpS P (Builtin.firstCells w n x) h K)(hl:news.length=n)(hw:∀e∈news,e.length=w)(h1:∀u∈news.flatten,Bj u=true)(ho:off+n<=es.length)
 (k:∀h' Y',Aa T w v (es.take off++(news++es.drop (off+n))) Y'->St z9 zz p h' (Y'++C)->K (.J ((n:Nat):Int)) h'):
 wpS P (Builtin.copy_ #[dT,xT] ty #[.slice (some ((E4 v).add (off*w))) dl dc,x]) h K:=by
 obtain⟨H,⟨rfl,rfl,rfl⟩|⟨b,cs,cap,rest,rfl,rfl,V,a9,a2⟩⟩:=o
 ·exact absurd a3 s_
 unfold Builtin.copy_;simp only[List.getElem?_toArray,List.getElem?_cons_zero,List.getElem?_cons_succ];refine xaq (xcq hT ?_);simp only;refine xaq (hlen _ ?_);refine xaq (xvq hs ?_);rw[hn];refine xaq (hc _ ?_);simp only;refine xaq ?_;have O:news.flatten.length=n*w:=by rw[xjq hw,hl]
 have a5:es.flatten.length=es.length*w:=xjq H;have a4:(es.take off).flatten.length=off*w:=by rw[xjq fun e he=>H e (List.mem_of_mem_take he),List.length_take,Nat.min_eq_left om]
 have b0:off*w+n*w<=es.length*w:=by rw[<- Nat.add_mul];exact Nat.mul_le_mul_right _ ho
 have a7:off*w+news.flatten.length<=cs.length:=by rw[V,List.length_append,a5,O];omega
 have a8:((E4 (.slice (some ⟨b,0,none⟩) es.length cap)).add (off*w))=⟨b,off*w,none⟩:=by
  show(⟨b,0,none⟩:Addr).add (off*w)=_;rw[xox,Nat.zero_add]
 rw[a8];refine xpz (i:=0) (cs:=cs) s rfl (by simpa using a7) (fun u hu=>h1 u (by simpa using hu)) fun h' s'=>?_;simp only[goInt];refine xbq ?_;have hk:es.drop (off+n)=(es.drop off).drop n:=by rw[List.drop_drop]
 have a6:((es.drop off).take n).flatten.length=n*w:=by
  rw[xjq fun e he=>H e (List.mem_of_mem_drop (List.mem_of_mem_take he)),List.length_take,List.length_drop,Nat.min_eq_left om]
 have e1:cs=(es.take off).flatten++((es.drop off).flatten++rest):=by
  rw[<- List.append_assoc,<- List.flatten_append,List.take_append_drop,V]
 have e2:Ce cs (off*w) news.flatten=(es.take off++(news++es.drop (off+n))).flatten++rest:=by
  rw[e1,<- a4,xsv (by rw[O,List.length_append,xjq fun e he=>H e (List.mem_of_mem_drop he),List.length_drop];have:n*w<=(es.length-off)*w:=Nat.mul_le_mul_right _ om;omega)];have e3:((es.drop off).flatten++rest).drop news.flatten.length=(es.drop (off+n)).flatten++rest:=by
   have e4:(es.drop off).flatten=((es.drop off).take n).flatten++(es.drop (off+n)).flatten:=by rw[<- List.flatten_append,hk,List.take_append_drop]
   rw[e4,List.append_assoc,O,<- a6,List.drop_left]
  rw[e3];simp
 have M:(es.take off++(news++es.drop (off+n))).length=es.length:=by simp;omega
 refine k h' [(b,.cells (Ce cs (off*w) news.flatten).toArray T (0,0))] ⟨fun e he=>?_,.inr ⟨b,_,cap,rest,by rw[M],rfl,e2,by rw[xwx];exact a9,a2⟩⟩ (by simpa using s');simp only[List.mem_append]at he;rcases he with he|he|he
 ·exact H e (List.mem_of_mem_take he)
 ·exact hw e he
 ·exact H e (List.mem_of_mem_drop he)
section
variable{X:Cx}{k:List Item}{m:Ks}{LF LL LR L3:List Pcs}{pos:String}
theorem Aa.at0(o:Aa T w v es Y)(h:0<es.length)(a2:0<w):∃b cap,v=.slice (some ⟨b,0,none⟩) es.length cap/\es.length<=cap/\ ∀n,n<=es.length->Aa T w (.slice (some ⟨b,0,none⟩) n cap) (es.take n) Y:=by
 obtain⟨M,⟨rfl,rfl,rfl⟩|⟨b,cs,cap,rest,rfl,rfl,V,H,O⟩⟩:=o
 ·exact absurd h s_
 refine⟨b,cap,rfl,?_,fun n hn=>⟨fun e he=>M e (List.mem_of_mem_take he),.inr ⟨b,cs,cap,(es.drop n).flatten++rest,by rw[List.length_take,Nat.min_eq_left hn],rfl,by rw[V,<- List.append_assoc,<- List.flatten_append,List.take_append_drop],H,O⟩⟩⟩;have:=congrArg List.length V;rw[List.length_append,xjq M,H]at this;exact Nat.le_of_mul_le_mul_right om a2
theorem ybt{c:Nat}{a:Option Addr}(hx:evS l x=some ([],v))(hy:evS l y=some ([],.slice a n c))(o:Aa T w v es Y)(S:Sl p a n w news)(M:0<es.length)(hn:n<=es.length)(h1:∀u∈news.flatten,Bj u=true)[i1:Rm LL Y LR][hT:Ca X.P dT eT][hs:Ak X.P eT w]
 (nx:∀H,Aa T w v (news++es.drop n) H->RO X k ops rest ((dd,none,.J ((n:Nat):Int))::l) p (H::LR))(O:0<w:=by decide):RO X k ops (⟨some dd,.call ⟨.builtin .copy,#[x,y],#[dT,xT]⟩,ty,pos,aft,none⟩::rest) l p LL:=⟨fun ok tm ht E=>by
 obtain⟨b,cap,hv,a3,_⟩:=o.at0 M O;refine xrj (K:=fun v' h'=>v'=.J ((n:Nat):Int)/\ ∃H,Aa T w v (news++es.drop n) H/\St X.z9 X.zz p h' (H++LR.flatten)) (xoq rfl) rfl (fun h s=>?_) fun v'=>xyx fun e=>by
  subst e;exact xgk fun H=>xyx fun o'=>(nx H o').run (xfq ok).1 _ (by simp[Cz,ht]) (E.set (g:=none) (ht ▸ xkw ok rfl))
 unfold Ex;simp only[execOp,resolve];refine xaq (xbq ?_);simp only[invoke,builtin];refine xaq ?_;have V:=xdq E hy trivial;have a2:=xdq E hx trivial;have e:(#[x,y]:Array Operand).map (evl tm)=#[.slice (some ((E4 v).add (0*w))) es.length cap,.slice a n c]:=by
  simp only[List.map_toArray,List.map_cons,List.map_nil,a2,V];rw[hv];show _=#[Value.slice (some ((⟨b,0,none⟩:Addr).add (0*w))) es.length cap,_];rw[xox,Nat.zero_mul]
 rw[e];have src:=xug (P:=X.P) (cap:=c) (s.rm i1) O S;refine xmb hT.h hs.h o (s.rm i1) M (Nat.min_eq_left hn) src.lenOf src.cells src.len src.wid h1 om fun h' H o' s'=>?_;exact xbq ⟨_,rfl,rfl,H,by simpa using o',s'⟩⟩
theorem xdd{a:Addr}{c:Nat}(h:j<c):Cf (some a) c j w=some (a.add (j*w)):=by unfold Cf;rw[if_neg om];rfl
theorem O9{a:Addr}:a.add (0*w)=a:=by rw[Nat.zero_mul];cases a;rfl
theorem yd1{e:TypeId}{q c:Nat}{a:Addr}(V:ops[i]?=some ⟨d,.slice t x (some y) none none,ty,pos,aft,none⟩)(M:evS l x=some ([],.slice (some a) q c))(O:evS l y=some ([],.int kk (j:Nat)))(H:j<c/\j<=q/\q<=c)[f:Ca X.P t e][sz:Ak X.P e w]
 (n:DE X k ops m p LF effs todo (ent d none (.slice (some (a.add (j*w))) (q-j) (c-j)) l) LL):DE X k ops m p LF effs (i::todo) l LL:=
 xk4 (g:=none) V rfl rfl (fun _ _ _ E _=>xdd H.1 ▸ xzk f.h sz.h (xdq E M trivial) (.nat 0 (xdq E O trivial)) (.none q) H.2.1 H.2.2) n
theorem yc1{e:TypeId}{q c:Nat}{a:Addr}(V:ops[i]?=some ⟨d,.slice t x none (some y) none,ty,pos,aft,none⟩)(M:evS l x=some ([],.slice (some a) q c))(O:evS l y=some ([],.int kk (j:Nat)))(H:0<c/\j<=c)[f:Ca X.P t e][sz:Ak X.P e w]
 (n:DE X k ops m p LF effs todo (ent d none (.slice (some a) j c) l) LL):DE X k ops m p LF effs (i::todo) l LL:=
 xk4 (g:=none) V rfl rfl (fun tm h' _ E _=>by
  have z:=xzk (tm:=tm) (h:=h') (d:=d) (ty:=ty) (pos:=pos) (aft:=aft) (gd:=none) f.h sz.h (xdq E M trivial) (.none 0) (.nat q (xdq E O trivial)) (Nat.zero_le j) H.2;rw[xdd H.1,O9]at z;exact z) n
theorem xe6(m:Nat)(cl:List (List Nat))(effs H:List Nat)(Y:Pcs)[i:Rm LL Y LR](D:DE X k ops (.drop m) p LR effs H l [Y])(V:X.P.follows .mixedOrders=true:=by kernel_rfl)(ok:okD X.n ops=true:=by rfl)
 (a3:Bo ops m cl=true:=by rfl)(hm:Nat.ble m ops.length=true:=by rfl)(O:Ef ops cl effs [] H=true:=by rfl)(M:((List.range m).all fun i=>H.contains i)=true:=by rfl)(a2:(H.all fun i=>Nat.blt i m)=true:=by rfl):
 RE X (.code (.region id ops.toArray true)::k) l p LL:=xjf (by simpa using i.h.trans List.perm_append_comm) m cl effs H V ok D.run a3 hm O M a2
theorem yi1{m' dl c' cap:Nat}(hN:es.length=N)(ho:ops[i]?=some ⟨d,.call ⟨.builtin .copy,#[x,y],#[dT,xT]⟩,ty,pos,aft,none⟩)(o:Aa T w (.slice (some ⟨b,0,none⟩) N cap) es Y)(hx:evS l x=some ([],.slice (some ((⟨b,0,none⟩:Addr).add (off*w))) dl dc))
 (hy:evS l y=some ([],.slice (some ⟨b,0,none⟩) m' c'))(M:0<N)(a4:0<w)(hn:Nat.min m' dl=n)(O:n<=N)(a2:off+n<=N)(h1:∀u∈es.flatten,Bj u=true)[i1:Rm LL Y LR][hT:Ca X.P dT eT][hs:Ak X.P eT w]
 (nx:∀H,Aa T w (.slice (some ⟨b,0,none⟩) N cap) (es.take off++(es.take n++es.drop (off+n))) H->DE X k ops m p LF effs todo (ent d none (.J ((n:Nat):Int)) l) (H::LR))(he:effs.contains i=true:=by rfl):DE X k ops m p LF effs (i::todo) l LL:=by
 subst hN;exact⟨.eff (U:=Y) (LR:=LR) (Q:=fun v' H=>v'=.J ((n:Nat):Int)/\Aa T w (.slice (some ⟨b,0,none⟩) es.length cap) (es.take off++(es.take n++es.drop (off+n))) H) ho (by simpa using he) i1.h (fun tm ht E=>⟨rfl,xoq rfl,fun C h s=>.inl (by
  unfold Exv;simp only[execOp,resolve];refine xaq (xbq ?_);simp only[invoke,builtin];refine xaq ?_;have a3:=xdq E hy trivial;have a5:=xdq E hx trivial;have e:(#[x,y]:Array Operand).map (evl tm)=#[.slice (some ((E4 (.slice (some ⟨b,0,none⟩) es.length cap)).add (off*w))) dl dc,.slice (some ⟨b,0,none⟩) m' c']:=by
   simp only[List.map_toArray,List.map_cons,List.map_nil,a5,a3];rfl
  rw[e];obtain⟨b',a6,hv,_,V⟩:=o.at0 M a4;cases hv;have src:=xql (P:=X.P) (L₁:=[]) (L₂:=LF.flatten++C) (V n O) s;refine xmb (m:=m') (news:=es.take n) hT.h hs.h o s M hn (fun K hK=>xbq hK) (fun K hK=>?_) (by simp;omega) (fun e he=>o.1 e (List.mem_of_mem_take he)) (fun u hu=>h1 u ?_) a2 fun h' H o' s'=>?_
  ·have:=src.cells K hK;rw[List.length_take,Nat.min_eq_left O]at this;exact this
  ·obtain⟨e,h2,h3⟩:=List.mem_flatten.1 hu;exact List.mem_flatten.2 ⟨e,List.mem_of_mem_take h2,h3⟩
  ·exact xbq ⟨_,.inl rfl,H,⟨rfl,o'⟩,s'⟩)⟩) fun v' H⟨e,o'⟩=>by subst e;exact(nx H o').run⟩
end
section
variable{X:Cx}{k:List Item}{m:Ks}{LF LL LR L3:List Pcs}{pos:String}{xs ys:Array Value}{q:Bool}
theorem yys(M:evS l x=some ([],.agg xs))(O:evS l y=some ([],.agg ys))(e:∀h(K:Bool->Heap->Prop),K q h->wpS X.P (Op.equalIn (9999+1) T (.agg xs) (.agg ys)) h K)(n:RO X k ops rest (ent d none (.bool q) l) p LL)(H:X.P.eqGuardType X.P.depth T=false:=by kernel_rfl):
 RO X k ops (⟨d,.binOp .eql T x y T',ty,pos,aft,none⟩::rest) l p LL:=xtb (g:=none) rfl rfl (fun _ _ E _=>xa2 H e (xdq E M trivial) (xdq E O trivial)) n
theorem ykw(V:ops[i]?=some ⟨d,.binOp .eql T x y T',ty,pos,aft,none⟩)(H:evS l x=some ([],.agg xs))(M:evS l y=some ([],.agg ys))(e:∀h(K:Bool->Heap->Prop),K q h->wpS X.P (Op.equalIn (9999+1) T (.agg xs) (.agg ys)) h K)(n:DE X k ops m p LF effs todo (ent d none (.bool q) l) LL)
 (O:X.P.eqGuardType X.P.depth T=false:=by kernel_rfl):DE X k ops m p LF effs (i::todo) l LL:=xk4 (g:=none) V rfl rfl (fun _ _ _ E _=>xa2 O e (xdq E H trivial) (xdq E M trivial)) n
theorem ye4{f1 f2 f3:Field}{a b c a' b' c':Int}(h1:P.underlying f1.type=some (.int .i64))(h2:P.underlying f2.type=some (.int .i64))(h3:P.underlying f3.type=some (.int .i64))(o1:f1.offset=0)(o2:f2.offset=1)(o3:f3.offset=2)
 (m1 : f1.name ≠ "_")(m2 : f2.name ≠ "_")(m3 : f3.name ≠ "_")(g1 : Gs P f1.type = some false)(g2 : Gs P f2.type = some false)(g3 : Gs P f3.type = some false):
 Pa P (dd+1) #[.J a,.J b,.J c] #[.J a',.J b',.J c'] [f1,f2,f3] (decide (a=a'/\b=b'/\c=c')):=by
 refine⟨m1,_,_,decide (a=a'),fun h K k=>xlz g1 (by rw[o1];rfl) k,fun h K k=>xlz g1 (by rw[o1];rfl) k,fun h K k=>xpv h1 k,?_⟩;by_cases e1:a=a'
 ·refine .inr ⟨decide_eq_true e1,m2,_,_,decide (b=b'),fun h K k=>xlz g2 (by rw[o2];rfl) k,fun h K k=>xlz g2 (by rw[o2];rfl) k,fun h K k=>xpv h2 k,?_⟩;by_cases e2:b=b'
  ·refine .inr ⟨decide_eq_true e2,m3,_,_,decide (c=c'),fun h K k=>xlz g3 (by rw[o3];rfl) k,fun h K k=>xlz g3 (by rw[o3];rfl) k,fun h K k=>xpv h3 k,?_⟩;by_cases e3:c=c'
   ·exact .inr ⟨decide_eq_true e3,decide_eq_true ⟨e1,e2,e3⟩⟩
   ·exact .inl ⟨decide_eq_false e3,decide_eq_false fun x=>e3 x.2.2⟩
  ·exact .inl ⟨decide_eq_false e2,decide_eq_false fun x=>e2 x.2.1⟩
 ·exact .inl ⟨decide_eq_false e1,decide_eq_false fun x=>e1 x.1⟩
end
section
variable{X:Cx}{k:List Item}{m:Ks}{LF LL LR L3:List Pcs}{pos:String}{a b:List UInt8}
theorem ych(H:evS l x=some (ss,sv a))(hs:Bn g (Bl ss))(M:X.P.underlying t=some .string:=by kernel_rfl):Yl X p LL l g (.call ⟨.builtin .len,#[x],#[t]⟩) (.J ((a.length:Nat):Int)):=⟨rfl,(xjx hs fun hs _ _ _ E _=>ytf M (xdq E H hs))⟩
theorem yfs(M:evS l x=some (ss,sv a))(V:evS l y=some (ss',sv b))(hs:Bn g (Bl ss))(H:Bn g (Bl ss')):Yl X p LL l g (.binOp .eql T x y T') (.bool (decide (a=b))):=⟨rfl,(xnk hs H fun O h2 _ _ _ E _=>ywf (xdq E M O) (xdq E V h2))⟩
theorem yeb(M:evS l x=some (ss,sv a))(V:evS l y=some (ss',sv b))(hs:Bn g (Bl ss))(H:Bn g (Bl ss')):Yl X p LL l g (.binOp .neq T x y T') (.bool (!decide (a=b))):=⟨rfl,(xnk hs H fun O h2 _ _ _ E _=>ymf (xdq E M O) (xdq E V h2))⟩
theorem xow(H:evS l x=some ([],sv a))(M:evS l y=some ([],sv b))(O:a.length+b.length<=1000000):Yl X p LL l none (.binOp .add T x y T') (sv (a++b)):=⟨rfl,(fun _ _ _ E _=>yag (xdq E H trivial) (xdq E M trivial) om)⟩
theorem xej{j:Int}(O:evS l x=some (ss,sv a))(V:evS l y=some (ss',.int kk j))(hs:Bn g (Bl ss))(M:Bn g (Bl ss'))(H:Bn g (0<=j/\j<a.length))(ht:X.P.underlying t=some .string:=by kernel_rfl):Yl X p LL l g (.index t x y) (.int .u8 ((a.getD j.toNat 0).toNat:Nat)):=⟨rfl,(xnk H (xnk hs M And.intro) fun H hs _ _ _ E _=>yoq ht (xdq E O hs.1) (xdq E V hs.2) H.1 H.2)⟩
theorem xsg(O:evS l x=some (ss,sv a))(V:evS l y=some (ss',.int kk ((j:Nat):Int)))(hs:Bn g (Bl ss))(M:Bn g (Bl ss'))(H:Bn g (j<=a.length))(ht:X.P.underlying t=some .string:=by kernel_rfl):Yl X p LL l g (.slice t x (some y) none none) (sv (a.drop j)):=⟨rfl,(xnk H (xnk hs M And.intro) fun H hs _ _ _ E _=>ytv ht (xdq E O hs.1) (.nat _ (xdq E V hs.2)) H)⟩
theorem yyq(O:evS l x=some (ss,sv a))(V:evS l y=some (ss',.int kk ((j:Nat):Int)))(hs:Bn g (Bl ss))(M:Bn g (Bl ss'))(H:Bn g (j<=a.length))(ht:X.P.underlying t=some .string:=by kernel_rfl):Yl X p LL l g (.slice t x none (some y) none) (sv (a.take j)):=⟨rfl,(xnk H (xnk hs M And.intro) fun H hs _ _ _ E _=>ylv ht (xdq E O hs.1) (.nat _ (xdq E V hs.2)) H)⟩
end
structure PG(N:Nat)(B:List Nat)(p p':Ab):Prop where
 le:PLe p p'
 old:∀c,c<N->c∉B->p' c=p c
theorem PG.refl(N:Nat)(B:List Nat)(p:Ab):PG N B p p:=⟨.refl p,fun _ _ _=>rfl⟩
theorem PG.trans{N:Nat}{B:List Nat}{p q r:Ab}(x:PG N B p q)(y:PG N B q r):PG N B p r:=⟨x.le.trans y.le,fun c h n=>(y.old c h n).trans (x.old c h n)⟩
def Cn(p:Ab)(h:Heap)(Q:Value->Ab->Prop)(v:Value)(h':Heap):Prop:=∃p',PG h.size [] p p'/\Q v p'/\Av h h'/\Per p' h'
def Dm(p:Ab)(h:Heap)(b:Nat)(Q:Value->Ab->Obj->Prop)(v:Value)(h':Heap):Prop:=∃p' o',PG h.size [b] p p'/\Q v p' o'/\St h [b] p' h' [(b,o')]
section
variable{L:Pcs}
theorem St.pg(s:St z9 zz p h L){b:Nat}{o:Obj}(M:(b,o)∈L):PG z9.size zz p (Hf p b o):=by
 have H:=s.own _ M;refine⟨xws H.2.1,fun c hc hn=>?_⟩;unfold Hf;rw[if_neg];intro e;subst e;rcases H.2.2 with z|z
 ·simp only at z;omega
 ·exact hn z
theorem St.Nj(s:St z9 zz p h L)(g:PG h.size [] p p')(k:Av h h')(q:Per p' h'):St z9 zz p' h' L/\PG z9.size zz p p':=
 ⟨(s.call k).grow g.le q fun x H=>(g.old x.1 (xix (s.own x H).1) s_).trans (s.own x H).2.1,g.le,fun c hc _=>g.old c (Nat.lt_of_lt_of_le hc s.size) s_⟩
theorem St.M9{b:Nat}{o o':Obj}(s:St z9 zz p h ((b,o)::L))(g:PG h.size [b] p p')(t:St h [b] p' h' [(b,o')]):St z9 zz p' h' ((b,o')::L)/\PG z9.size zz p p':=by
 have hb:=s.own (b,o) s_;have V:=t.own (b,o') s_;have O:∀c,c<z9.size->c∉zz->c≠b:=fun c hc hn e=>by
  subst e;rcases hb.2.2 with z|z
  ·simp only at z;omega
  ·exact hn z
 have a2:∀x∈L,x.1≠b:=fun x M e=>by
  have:=s.nod;simp only[List.map_cons,List.nodup_cons]at this;exact this.1 (e ▸ List.mem_map_of_mem M)
 have lt:∀{c:Nat}{q:Obj},h[c]?=some q->c<h.size:=fun e=>xix e;refine⟨⟨fun c hc hn=>?_,Nat.le_trans s.size t.size,t.per,fun x M=>?_,by simpa using s.nod⟩,g.le,fun c hc hn=>g.old c (Nat.lt_of_lt_of_le hc s.size) (by simpa using O c hc hn)⟩
 ·exact(t.C3 c (Nat.lt_of_lt_of_le hc s.size) (by simpa using O c hc hn)).trans (s.C3 c hc hn)
 ·rcases List.mem_cons.1 M with rfl|M
  ·exact⟨V.1,V.2.1,hb.2.2⟩
  ·have H:=s.own x (List.mem_cons_of_mem _ M);have n1:x.1∉[b]:=by simpa using a2 x M
   exact⟨(t.C3 x.1 (lt H.1) n1).trans H.1,(g.old x.1 (lt H.1) n1).trans H.2.1,H.2.2⟩
theorem Aa.O5{T:TypeId}{w:Nat}{v:Value}{es:List (List Value)}{Y:Pcs}(o:Aa T w v es Y)(hw:0<w)(s:St z9 zz p h (Y++L)):
 ∃p' a cap,PG z9.size zz p p'/\v=.slice a es.length cap/\es.length<=cap/\Sl p' a es.length w es/\St z9 zz p' h L:=by
 have oo:=o;have rm:=fun{a:Option Addr}{m cap:Nat}(e:v=.slice a m cap)=>o.room hw e;obtain⟨a3,⟨rfl,rfl,rfl⟩|⟨b,cs,cap,rest,rfl,rfl,a2,hlen,O⟩⟩:=o
 ·exact⟨p,none,0,.refl _ _ _,rfl,Nat.le_refl _,.nil _ _ _,s⟩
 ·have M:St z9 zz p h ((b,.cells (List.toArray cs) T (0,0))::L):=s;obtain⟨a,H,e,sl⟩:=oo.inP (p:=Hf p b (.cells (List.toArray cs) T (0,0))) (fun x V=>by rw[List.mem_singleton.1 V];exact xyk);exact⟨_,a,H,M.pg s_,e,rm e,sl,M.last.2⟩
end
section
variable{X:Cx}{k:List Item}{LL LR:List Pcs}{pos:String}{o:Obj}
theorem xzq{m:Nat}(o:Aa T w v es Y)(hn:es.length=m)(hw:0<w)[i:Rm LL Y LR](n:∀p' a cap,PG X.z9.size X.zz p p'->v=.slice a m cap->m<=cap->Sl p' a m w es->RO X k ops rest l p' LR):RO X k ops rest l p LL:=⟨fun O tm V E H e h s=>by
 subst hn;obtain⟨p',a,cap,g,e1,e2,sl,M⟩:=o.O5 hw (s.rm i);exact(n p' a cap g e1 e2 sl).run O tm V E H e h M⟩
theorem xiq{m:Nat}(o:Aa T w v es Y)(hn:es.length=m)(hw:0<w)[i:Rm LL Y LR](n:∀p' a cap,PG X.z9.size X.zz p p'->v=.slice a m cap->m<=cap->Sl p' a m w es->RE X k l p' LR):RE X k l p LL:=⟨fun tm M E h s=>by
 subst hn;obtain⟨p',a,cap,g,e1,e2,sl,H⟩:=o.O5 hw (s.rm i);exact(n p' a cap g e1 e2 sl).run tm M E h H⟩
theorem xh3{ob:Obj}[i:Bx LL b ob LR](n:∀p',PG X.z9.size X.zz p p'->p' b=some ob->RO X k ops rest l p' LR):RO X k ops rest l p LL:=⟨fun M tm O E H e h s=>
 (n (Hf p b ob) ((s.bx i).pg s_) xyk).run M tm O E H e h (s.bx i).last.2⟩
theorem xm3{ob:Obj}[i:Bx LL b ob LR](n:∀p',PG X.z9.size X.zz p p'->p' b=some ob->RE X k l p' LR):RE X k l p LL:=⟨fun tm H E h s=>
 (n (Hf p b ob) ((s.bx i).pg s_) xyk).run tm H E h (s.bx i).last.2⟩
theorem xqk{Q:Value->Ab->Prop}(hx:evS l x=some ([],.func (.func ff) first.toArray cap.toArray))(H:D4 l args=some ([],vs))
 (hc:∀h,Per p h->Ac X.P X.md ff (first++(vs++cap)).toArray h (Cn p h Q))(n:∀v p',PG X.z9.size X.zz p p'->Q v p'->RO X k ops rest (ent d none v l) p' LL)(hf:Ao X.P ff=true:=by kernel_rfl):
 RO X k ops (⟨d,.call ⟨.value x,args.toArray,ats⟩,ty,pos,aft,none⟩::rest) l p LL:=⟨fun O tm M E=>
 xdv (R:=fun v h=>∃p',(PG X.z9.size X.zz p p'/\Q v p')/\St X.z9 X.zz p' h LL.flatten) (xoq rfl) (xdq E hx trivial) (by rw[xlx E H trivial]) hf
  (fun h s=>(hc h fun b o e=>s.per b o e).mono fun _ _⟨p',g,q,kk,V⟩=>⟨p',⟨(s.Nj g kk V).2,q⟩,(s.Nj g kk V).1⟩)
  fun v=>xgk fun p'=>xyx fun q=>(n v p' q.1 q.2).run (xfq O).1 _ (A0.trans M) (E.ent (g:=none) M (xfq O).2)⟩
theorem xx0{Q:Value->Ab->Obj->Prop}[i:Bx LL b o LR](V:evS l x=some ([],.func (.func ff) first.toArray cap.toArray))(H:D4 l args=some ([],vs))
 (hc:∀h,Per p h->h[b]?=some o->p b=none->Ac X.P X.md ff (first++(vs++cap)).toArray h (Dm p h b Q))(n:∀v p' o',PG X.z9.size X.zz p p'->Q v p' o'->RO X k ops rest (ent d none v l) p' ([(b,o')]::LR))(hf:Ao X.P ff=true:=by kernel_rfl):
 RO X k ops (⟨d,.call ⟨.value x,args.toArray,ats⟩,ty,pos,aft,none⟩::rest) l p LL:=⟨fun O tm M E=>
 xdv (R:=fun v h=>∃p' o',(PG X.z9.size X.zz p p'/\Q v p' o')/\St X.z9 X.zz p' h ((b,o')::LR.flatten)) (xoq rfl) (xdq E V trivial) (by rw[xlx E H trivial]) hf
  (fun h s=>(hc h (fun b o e=>s.per b o e) ((s.bx i).own (b,o) s_).1 ((s.bx i).own (b,o) s_).2.1).mono fun _ _⟨p',o',g,q,t⟩=>⟨p',o',⟨((s.bx i).M9 g t).2,q⟩,((s.bx i).M9 g t).1⟩)
  fun v=>xgk fun p'=>xgk fun o'=>xyx fun q=>(n v p' o' q.1 q.2).run (xfq O).1 _ (A0.trans M) (E.ent (g:=none) M (xfq O).2)⟩
theorem yzs{Q:Value->Ab->Obj->Prop}[i:Bx LL b o LR](V:evS l x=some ([],fv))(H:D4 l args=some ([],vs))
 (hc:∀h,Per p h->h[b]?=some o->p b=none->Be X.P X.md fv vs h (Dm p h b Q))(n:∀v p' o',PG X.z9.size X.zz p p'->Q v p' o'->RO X k ops rest (ent d none v l) p' ([(b,o')]::LR)):
 RO X k ops (⟨d,.call ⟨.value x,args.toArray,ats⟩,ty,pos,aft,none⟩::rest) l p LL:=⟨fun O _ M E=>
 xgf (R:=fun v h=>∃p' o',(PG X.z9.size X.zz p p'/\Q v p' o')/\St X.z9 X.zz p' h ((b,o')::LR.flatten)) (xoq rfl) (xdq E V trivial) (xlx E H trivial)
  (fun h s=>(hc h (fun b o e=>s.per b o e) ((s.bx i).own (b,o) s_).1 ((s.bx i).own (b,o) s_).2.1).mono fun _ _⟨p',o',g,q,t⟩=>⟨p',o',⟨((s.bx i).M9 g t).2,q⟩,((s.bx i).M9 g t).1⟩)
  fun v=>xgk fun p'=>xgk fun o'=>xyx fun q=>(n v p' o' q.1 q.2).run (xfq O).1 _ (A0.trans M) (E.ent (g:=none) M (xfq O).2)⟩
theorem xx5{Q:Value->Ab->Prop}(hx:evS l x=some ([],fv))(H:D4 l args=some ([],vs))
 (hc:∀h,Per p h->Be X.P X.md fv vs h (Cn p h Q))(n:∀v p',PG X.z9.size X.zz p p'->Q v p'->RO X k ops rest (ent d none v l) p' LL):
 RO X k ops (⟨d,.call ⟨.value x,args.toArray,ats⟩,ty,pos,aft,none⟩::rest) l p LL:=⟨fun O _ M E=>
 xgf (R:=fun v h=>∃p',(PG X.z9.size X.zz p p'/\Q v p')/\St X.z9 X.zz p' h LL.flatten) (xoq rfl) (xdq E hx trivial) (xlx E H trivial)
  (fun h s=>(hc h fun b o e=>s.per b o e).mono fun _ _⟨p',g,q,kk,V⟩=>⟨p',⟨(s.Nj g kk V).2,q⟩,(s.Nj g kk V).1⟩)
  fun v=>xgk fun p'=>xyx fun q=>(n v p' q.1 q.2).run (xfq O).1 _ (A0.trans M) (E.ent (g:=none) M (xfq O).2)⟩
end
theorem xoz{c:Code}{args:List Value}{o:Obj}(hp:Per p h)(hb:h[b]?=some o)(M:p b=none)(hf:P.funcs[f]?=some fn)
 (x:∀(zq:Frame)(cs:List Frame)(Stop:Goroutine->Heap->Prop),(∀v h',R v h'->Reach P md (G (zq.finish v) cs) h' Stop)->RE ⟨P,md,f,.none,fn.ntmps,[],zq::cs,Stop,h,[b]⟩ [.code c] (Fb 0 args) p [[(b,o)]])
 (H:fn.body=some c:=by rfl)(hn:Nat.ble args.length fn.ntmps=true:=by rfl):Ac P md f args.toArray h R:=
 xtd (Φ:=fun h'=>St h [b] p h' [(b,o)]) hf H rfl (fun zq cs Stop K=>(x zq cs Stop K).run _ (by have:=Nat.le_of_ble_eq_true hn;simp;omega) fun i g v hl=>by
  obtain⟨rfl,m,rfl,O⟩:=xvc hl;rw[Nat.zero_add,List.getElem?_append_left (by simpa using(List.getElem?_eq_some_iff.1 O).1)];simpa[cv]using O) ⟨fun _ _ _=>rfl,Nat.le_refl _,hp,fun x V=>by obtain rfl:=List.mem_singleton.1 V;exact⟨hb,M,.inr s_⟩,s_⟩
theorem xqj{LL LR:List Pcs}{o:Obj}{Q:Value->Ab->Obj->Prop}[i:Bx LL b o LR](s:St z9 [b] p' h LL.flatten)(g:PG z9.size [b] p p')(q:Q v p' o):Dm p z9 b Q v h:=
 ⟨p',o,g,q,(s.bx i).sub s_⟩
theorem xqq{L:Pcs}{Q:Value->Ab->Prop}(s:St z9 [] p' h L)(g:PG z9.size [] p p')(q:Q v p'):Cn p z9 Q v h:=⟨p',g,q,s.kept,s.per⟩
section
variable{X:Cx}{k:List Item}{m:Ks}{LF LL LR L3:List Pcs}{pos:String}
theorem xec{z:Value}(H:ops[i]?=some ⟨some dd,.alloc T,ty,pos,aft,none⟩)[iz:Bg X.P T z](n:∀b,DE X k ops m p LF effs todo ((dd,none,w_ b 0)::l) ([(b,.cells z.cells T (0,0))]::LL))(he:effs.contains i=true:=by rfl):DE X k ops m p LF effs (i::todo) l LL:=
 ⟨.eff (U:=[]) (LR:=LL) (Q:=fun v x=>∃b,v=w_ b 0/\x=[(b,.cells z.cells T (0,0))]) H (by simpa using he) (List.Perm.refl _) (fun _ _ E=>⟨rfl,xoq rfl,fun C h s=>.inl (by
  unfold Exv;simp only[execOp];refine xaq ?_;unfold Instr.alloc;refine xaq (xzx iz.h ?_);simp only;unfold newVar;refine xaq (xtz ?_);refine xbq ?_;exact xbq ⟨_,.inl rfl,_,⟨_,rfl,rfl⟩,s.push _⟩)⟩) fun v x⟨b,e1,e2⟩=>by subst e1;subst e2;exact(n b).run⟩
theorem xk8(ho:ops[i]?=some ⟨d,.call ⟨.value x,args.toArray,ats⟩,ty,pos,aft,gd⟩)(hg:gdc ops l gd=some g)(hx:evS l x=some (ss',fv))(H:Bn g (Bl ss'))(V:D4 l args=some (ss,vs))(hs:Bn g (Bl ss))
 (hc:Bn g (∀h,Per p h->Be X.P X.md fv vs h fun v' h'=>v'=v/\Av h h'))(n:DE X k ops m p LF effs todo (ent d g v l) LL):DE X k ops m p LF effs (i::todo) l LL:=⟨.det ho (fun tm _ E=>⟨rfl,by
  have M:Bl ss'->Bl ss->(∀h,Per p h->Be X.P X.md fv vs h fun v' h'=>v'=v/\Av h h')-> ∀C:Pcs,Nx X.P X.md tm ⟨d,.call ⟨.value x,args.toArray,ats⟩,ty,pos,aft,gd⟩ (fun h=>St X.z9 X.zz p h (LF.flatten++C)) v:=fun H hs hc C h s=>
   .inr (.inr (fun c cs Stop z=>by
    simp only[execOp,resolve,xdq E hx H,List.map_toArray,xlx E V hs];exact hc h (fun b o e=>s.per b o e) c cs Stop fun v' h'⟨e,kk⟩=>z v' h' ⟨e,s.call kk⟩))
  rcases xgv (o:=⟨d,.call ⟨.value x,args.toArray,ats⟩,ty,pos,aft,gd⟩) E hg with⟨rfl,O⟩|⟨c,rfl,O⟩
  ·exact .inl ⟨O,M H hs hc⟩
  ·cases c with
   |true=>exact .inl ⟨O,M (H rfl) (hs rfl) (hc rfl)⟩
   |false=>exact .inr ⟨O,rfl⟩⟩) n.run⟩
theorem xew{e:TypeId}(M:evS l x=some (ss,v))(V:evS l y=some (ss',.J (j:Nat)))(hs:Bn g (Bl ss))(H:Bn g (Bl ss'))(o:Aa T w v es Y)(O:j<es.length)[f:Ca X.P t e][sz:Ak X.P e w]:Yl X p LL l g (.indexAddr t x y) (.pointer (some ((E4 v).add (j*w)))):=⟨rfl,(xnk hs H fun hs H _ _ _ E _=>xuc o f.h sz.h (xdq E M hs) (xdq E V H) O)⟩
theorem xnf{L:Pcs}(o:Aa T w v es Y)(s:St z9 zz p h (Y++L)){e:List Value}{q:Nat}(M:es[j]?=some e)(V:e[q]?=some u):cell? h (((E4 v).add (j*w)).add q)=some u:=by
 obtain⟨hw,⟨rfl,rfl,rfl⟩|⟨b,cs,cap,rest,rfl,rfl,H,hlen,O⟩⟩:=o
 ·cases M
 ·show cell? h (((⟨b,0,none⟩:Addr).add (j*w)).add q)=_;rw[xox,xox];refine s.Fs (i:=0) rfl ?_;have:=xlj hw M V;rw[List.getElem?_toArray,H,Nat.zero_add,List.getElem?_append_left (List.getElem?_eq_some_iff.1 this).1];exact this
theorem ybx{e:List Value}{a:Addr}(H:evS l x=some (ss,.pointer (some a)))(hs:Bn g (Bl ss))(o:Aa T w v es Y)(O:((E4 v).add (j*w))=a)(M:es[j]?=some e)[ag:Cd X.P t true][sz:Ak X.P t nn][ii:Rm LL Y LR](hn:e.length=nn:=by rfl):Yl X p LL l g (.load t x) (.agg e.toArray):=⟨rfl,(xjx hs fun hs _ h C E s=>xng ag.h sz.h hn (xdq E H hs) fun q u V=>by
 subst O;exact xnf o ((s.perm (List.Perm.append_right C ii.h)).perm (by rw[List.append_assoc])) M V)⟩
theorem xgb{q:Nat}{e:List Value}{a:Addr}(H:evS l x=some (ss,.pointer (some a)))(hs:Bn g (Bl ss))(o:Aa T w v es Y)(O:((E4 v).add (j*w)).add q=a)(M:es[j]?=some e)(V:e[q]?=some u)[ag:Cd X.P t false][ii:Rm LL Y LR]:Yl X p LL l g (.load t x) u:=⟨rfl,(xjx hs fun hs _ h C E s=>xog ag.h (xdq E H hs) (by
 subst O;exact xnf o ((s.perm (List.Perm.append_right C ii.h)).perm (by rw[List.append_assoc])) M V))⟩
theorem ysm{e:List Value}{a:Addr}(H:evS l x=some ([],.pointer (some a)))(o:Aa T w v es Y)(O:((E4 v).add (j*w))=a)(M:es[j]?=some e)
 [ag:Cd X.P t true][sz:Ak X.P t nn][ii:Rm LL Y LR](n:RO X k ops rest (ent d none (.agg e.toArray) l) p LL)(hn:e.length=nn:=by rfl):RO X k ops (⟨d,.load t x,ty,pos,aft,none⟩::rest) l p LL:=
 xtb (g:=none) rfl rfl (fun _ h E s=>xng ag.h sz.h hn (xdq E H trivial) fun q u V=>by
  subst O;exact xnf o (s.rm ii) M V) n
end
theorem xw2{m:Nat}{a:Option Addr}{x z:Value}(hT:P.underlying sT=some (.slice eT))(hs:Bv P eT=some w)(hz:Ep P eT=some z)(a8:z.cells.size=w)(b3:0<w)
 (H:D5 P eT=some by')(hx:P.underlying xT=some (.slice eX))(d:Sl p a n w es)(s:St z9 zz p h C)
 (hlen:∀K:Nat->Heap->Prop,K m h->wpS P (Builtin.lenOf x) h K)(a4:∀K:Array Value->Heap->Prop,K news.flatten.toArray h->wpS P (Builtin.firstCells w m x) h K)
 (hm:news.length=m)(b5:0<m)(hw:∀e∈news,e.length=w)(M:(n+m)*by'<=2^45)(V:0<by'/\by'<=2^20)
 (nx:∀v' X' h',Aa eT w v' (es++news) X'->St z9 zz p h' (X'++C)->K v' h'):wpS P (Builtin.append_ #[sT,xT] ty #[.slice a n n,x]) h K:=by
 obtain⟨i,hi,b0⟩:∃i,P.info? eT=some i/\i.bytes=by':=by
  unfold D5 at H;cases hi:P.info? eT with
  |none=>rw[hi]at H;cases H
  |some i=>rw[hi]at H;exact⟨i,rfl,by simpa using H⟩
 have hn:=d.len;have a2:=d.wid;have a7:=xjq hw;have O:∀e∈es++news,e.length=w:=fun e he=>(List.mem_append.1 he).elim (a2 e) (hw e);have a9:n+m<=2^45:=Nat.le_trans (Nat.le_mul_of_pos_right _ V.1) M;have a3:=(xug (P:=P) (cap:=n) s b3 d).cells;unfold Builtin.append_;simp only[List.getElem?_toArray,List.getElem?_cons_zero,List.getElem?_cons_succ];refine xaq (xcq hT ?_);simp only;refine xaq (xvq hs ?_);refine xaq (xcq hx ?_);refine xaq (xex (K:=fun zr h'=>zr=false/\h'=h) (xbq ⟨rfl,rfl⟩) fun zr h'⟨ez,eh⟩=>?_);subst ez;have eh:=eh.symm;subst eh;simp only[Bool.false_eq_true,if_false,Bool.not_false,if_true];refine xaq (hlen _ ?_);rw[if_neg (show ¬ n+m<=n by omega)];refine xaq (xkx hi ?_);rw[if_neg (by
  intro hh;have:(IntKind.i64.max:Int)=9223372036854775807:=by decide
  rw[this]at hh;omega)]
 refine xaq (xkx hi ?_);rw[b0,if_neg (by have:=xv3 (by':=by') (by omega:n<n+m) M V.2;omega)];refine xaq ?_;show wpS P (choose _) h _;simp only[choose,wpS,Question.forced,Bool.false_eq_true,if_false,Question.cut];intro t;generalize b6:n+m+t%(2^63-(n+m))=nc;have b4:n+m<=nc:=om;have a5:nc<=9223372036854775807:=by
  have:=Nat.mod_lt t (show 0<2^63-(n+m) by omega);omega
 refine xaq (xkx hi ?_);refine xaq ?_;have a6:∀(b:Nat)(K:Unit->Heap->Prop),K () h->wpS P (askRoom b) h K:=by
  intro b K hK;unfold askRoom;split
  ·exact⟨rfl,hK⟩
  ·exact xbq hK
 refine a6 _ _ ?_;refine xaq (a3 _ ?_);refine xaq (a4 _ ?_);refine xaq (xzx hz ?_);refine xaq (xtz ?_);refine xbq (nx _ [(h.size,.cells (List.toArray (es.flatten++news.flatten++(Builtin.zeroCells z.cells (nc-(n+m))).toList)) eT (0,0))] _ ⟨O,.inr ⟨h.size,_,nc,(Builtin.zeroCells z.cells (nc-(n+m))).toList,?_,rfl,s_,?_,fun _=>a5⟩⟩ ?_)
 ·simp[hm,hn]
 ·simp only[List.length_append,xjq a2,a7,hm,hn,xwj,a8];rw[<- Nat.add_mul,<- Nat.add_mul];congr 1;omega
 ·have s1:=s.push (.cells (List.toArray (es.flatten++news.flatten++(Builtin.zeroCells z.cells (nc-(n+m))).toList)) eT (0,0));have e1:(List.toArray es.flatten++List.toArray news.flatten++Builtin.zeroCells z.cells (nc-(n+m)))=List.toArray (es.flatten++news.flatten++(Builtin.zeroCells z.cells (nc-(n+m))).toList):=by
   apply Array.ext';simp
  rw[e1];exact s1
section
variable{X:Cx}{k:List Item}{m:Ks}{LF LL LR L3:List Pcs}{pos:String}
theorem yzq{e:TypeId}{c:Nat}{a:Option Addr}(H:evS l x=some ([],.slice a n c))(M:evS l y=some ([],.J ((n:Nat):Int)))(O:evS l y2=some ([],.J ((n:Nat):Int)))(hc:n<=c)[f:Ca X.P t e][sz:Ak X.P e w]:Yl X p LL l none (.slice t x none (some y) (some y2)) (.slice a n n):=⟨rfl,(fun _ _ _ E _=>ylq f.h sz.h (xdq E H trivial) (xdq E M trivial) (xdq E O trivial) hc)⟩
theorem xef{e:TypeId}{q c:Nat}{a:Option Addr}(H:evS l x=some ([],.slice a q c))(O:evS l y=some ([],.int kk ((j:Nat):Int)))(M:j<=c)[f:Ca X.P t e][sz:Ak X.P e w]
 (V:RO X k ops rest (ent d none (.slice a j c) l) p LL):RO X k ops (⟨d,.slice t x none (some y) none,ty,pos,aft,none⟩::rest) l p LL:=
 xtb (g:=none) rfl rfl (fun tm h' E _=>by
  have z:=xzk (tm:=tm) (h:=h') (d:=d) (ty:=ty) (pos:=pos) (aft:=aft) (gd:=none) f.h sz.h (xdq E H trivial) (.none 0) (.nat q (xdq E O trivial)) (Nat.zero_le j) M;rw[xl4,Nat.sub_zero,Nat.sub_zero]at z;exact z) V
theorem xv0{e:TypeId}{q c:Nat}{a:Option Addr}(M:evS l x=some ([],.slice a q c))(O:evS l y=some ([],.int kk ((j:Nat):Int)))(H:j<=q/\q<=c)[f:Ca X.P t e][sz:Ak X.P e w]
 (V:RO X k ops rest (ent d none (.slice (Cf a c j w) (q-j) (c-j)) l) p LL):RO X k ops (⟨d,.slice t x (some y) none none,ty,pos,aft,none⟩::rest) l p LL:=
 xtb (g:=none) rfl rfl (fun _ _ E _=>xzk f.h sz.h (xdq E M trivial) (.nat 0 (xdq E O trivial)) (.none q) H.1 H.2) V
theorem xhl{e:TypeId}{q c:Nat}{a:Option Addr}(M:evS l x=some ([],.slice a q c))(O:evS l y=some ([],.int kk ((j:Nat):Int)))(H:j<=q/\q<=c)[f:Ca X.P t e][sz:Ak X.P e w]:Yl X p LL l none (.slice t x (some y) none none) (.slice (Cf a c j w) (q-j) (c-j)):=⟨rfl,(fun _ _ _ E _=>xzk f.h sz.h (xdq E M trivial) (.nat 0 (xdq E O trivial)) (.none q) H.1 H.2)⟩
theorem xz0{a:Option Addr}{z:Value}(hx:evS l x=some ([],.slice a n n))(hy:evS l y=some ([],x'))(S:Sl p a n w es)(o2:Aa eT w x' news Z)(O:0<news.length)(M:(n+news.length)*by'<=2^45)
 [i2:Rm LL Z LR][hT:Ca X.P sT eT][hs:Ak X.P eT w][hz:Bg X.P eT z][hb:ByC X.P eT by'][hX:Ca X.P xT eX](nx:∀v' H,Aa eT w v' (es++news) H->RO X k ops rest ((dd,none,v')::l) p (H::LR))
 (a3:z.cells.size=w:=by rfl)(V:0<by'/\by'<=2^20:=by decide)(a2:0<w:=by decide):RO X k ops (⟨some dd,.call ⟨.builtin .append,#[x,y],#[sT,xT]⟩,ty,pos,aft,none⟩::rest) l p LL:=⟨fun ok tm ht E=>
 xrj (K:=fun v' h'=>∃H,Aa eT w v' (es++news) H/\St X.z9 X.zz p h' (H++LR.flatten)) (xoq rfl) rfl (fun h s=>by
  have s2:=s.rm i2;have src:=xql (P:=X.P) (L₁:=[]) (L₂:=LR.flatten) o2 s2;unfold Ex;simp only[execOp,resolve];refine xaq (xbq ?_);simp only[invoke,builtin];refine xaq ?_;have e:(#[x,y]:Array Operand).map (evl tm)=#[.slice a n n,x']:=by simp[xdq E hx trivial,xdq E hy trivial]
  rw[e];refine xw2 hT.h hs.h hz.h a3 a2 hb.h hX.h S s2 src.lenOf src.cells src.len O src.wid M V fun v' X' h' o' s'=>?_;exact xbq ⟨v',rfl,X',o',s'.sub (List.Sublist.append_left (List.sublist_append_right _ _) _)⟩) fun v'=>xgk fun H=>xyx fun o'=>(nx v' H o').run (xfq ok).1 _ (by simp[Cz,ht]) (E.set (g:=none) (ht ▸ xkw ok rfl))⟩
theorem xvz{vs:List (Nat×Value)}{z:Value}{cells:Array Value}(ho:ops[i]?=some ⟨some dd,.buildSlice sT n parts.toArray,ty,pos,aft,none⟩)(M:Nu l parts=some vs)[hT:Ca X.P sT eT][hs:Ak X.P eT w][hz:Bg X.P eT z]
 (V:∀v Y,Aa eT w v (chs w n cells.toList) Y->DE X k ops m p LF effs todo ((dd,none,v)::l) (Y::LL))(he:effs.contains i=true:=by rfl)
 (hf:Instr.fill (fun i=>some (i*w,w)) ((List.range (n*w)).map (z.cells[· % z.cells.size]!)).toArray vs=some cells:=by rfl)(hc:cells=(chs w n cells.toList).flatten.toArray:=by rfl)(hw:((chs w n cells.toList).all fun e=>e.length==w)=true:=by rfl)
 (hn:(chs w n cells.toList).length=n:=by rfl)(H:n*w<=2^24:=by exact Nat.le_of_ble_eq_true rfl):DE X k ops m p LF effs (i::todo) l LL:=
 ⟨.eff (U:=[]) (LR:=LL) (Q:=fun v Y=>Aa eT w v (chs w n cells.toList) Y) ho (by simpa using he) (List.Perm.refl _) (fun _ _ E=>⟨rfl,xoq rfl,fun C h s=>.inl
  (Ex.exv (xa8 hT.h hs.h hz.h H (xpt E M) hf hc hw hn (show St _ _ _ _ (LF.flatten++C) from s) fun _ Y _ o O=>⟨Y,o,O⟩))⟩) fun v Y o=>(V v Y o).run⟩
end
section
variable{X:Cx}{k:List Item}{m:Ks}{LF LL LR L3:List Pcs}{pos:String}
theorem y_nc{a:Addr}(H:evS l x=some (ss,.pointer (some a)))(hs:Bn g (Bl ss)):Yl X p LL l g (.nilCheck x) (.pointer (some a)):=⟨rfl,(xjx hs fun hs _ _ _ E _=>xx1 (xdq E H hs))⟩
theorem xbd{cs:List Value}(ho:ops[i]?=some ⟨none,.store T x y,ty,pos,aft,none⟩)(M:evS l x=some ([],w_ b off))(hy:evS l y=some ([],v))[sz:Ak X.P T nsz][mm:Bx LL b (.cells cs.toArray T' (0,0)) LR]
 (n:DE X k ops m p LF effs todo l ([(b,.cells (Ce cs off v.cells.toList).toArray T' (0,0))]::LR))(he:effs.contains i=true:=by rfl)(hv:v.cells.size=nsz:=by rfl)(O:v.cells.toList.all Bj=true:=by rfl)(hlen:off+v.cells.size<=cs.length:=by exact Nat.le_of_ble_eq_true rfl):DE X k ops m p LF effs (i::todo) l LL:=
 ⟨.eff (U:=[(b,.cells cs.toArray T' (0,0))]) (LR:=LR) (Q:=fun _ x=>x=[(b,.cells (Ce cs off v.cells.toList).toArray T' (0,0))]) ho (by simpa using he) (by simpa using mm.h) (fun tm _ E=>⟨rfl,xoq rfl,fun C h s=>.inl (by
  unfold Exv;simp only[execOp,xdq E M trivial,xdq E hy trivial];refine xaq ?_;unfold Instr.storeAt;refine xaq (xbq ?_);unfold storeVar;refine xaq (xvq sz.h ?_);rw[if_neg (by simpa using hv)];refine xpz (i:=0) s rfl (by simpa using hlen) (fun u V=>List.all_eq_true.1 O u V) fun h' H=>?_;refine xbq ⟨_,.inr ⟨rfl,rfl⟩,_,rfl,?_⟩;rw[Nat.add_zero]at H;exact H)⟩) fun v x e=>by subst e;exact n.run⟩
theorem yxc(m:Nat)(cl:List (List Nat))(effs H:List Nat)(b:Nat){o:Obj}[i:Bx LL b o LR](D:DE X k ops (.drop m) p LR effs H l [[(b,o)]])(V:X.P.follows .mixedOrders=true:=by kernel_rfl)(ok:okD X.n ops=true:=by rfl)
 (a3:Bo ops m cl=true:=by rfl)(hm:Nat.ble m ops.length=true:=by rfl)(O:Ef ops cl effs [] H=true:=by rfl)(M:((List.range m).all fun i=>H.contains i)=true:=by rfl)(a2:(H.all fun i=>Nat.blt i m)=true:=by rfl):
 RE X (.code (.region id ops.toArray true)::k) l p LL:=xjf (L0:=[[(b,o)]]) (i.h.trans (by simpa using(List.perm_append_comm (l₁:=[(b,o)]) (l₂:=LR.flatten)))) m cl effs H V ok D.run a3 hm O M a2
theorem xcn(m:Nat)(cl:List (List Nat))(effs H:List Nat)(b b':Nat){o:Obj}[i:Bx LL b o LR][j:Bx LR b' o' L3](D:DE X k ops (.drop m) p L3 effs H l [[(b,o)],[(b',o')]])(V:X.P.follows .mixedOrders=true:=by kernel_rfl)(ok:okD X.n ops=true:=by rfl)
 (a3:Bo ops m cl=true:=by rfl)(hm:Nat.ble m ops.length=true:=by rfl)(O:Ef ops cl effs [] H=true:=by rfl)(M:((List.range m).all fun i=>H.contains i)=true:=by rfl)(a2:(H.all fun i=>Nat.blt i m)=true:=by rfl):
 RE X (.code (.region id ops.toArray true)::k) l p LL:=xjf (L0:=[[(b,o)],[(b',o')]]) ((i.h.trans (List.Perm.cons _ j.h)).trans (by simpa using(List.perm_append_comm (l₁:=[(b,o),(b',o')]) (l₂:=L3.flatten)))) m cl effs H V ok D.run a3 hm O M a2
end
section
variable{X:Cx}{k:List Item}{m:Ks}{LF LL LR L3:List Pcs}{pos:String}
theorem xfv{e:TypeId}{a:Option Addr}{q c:Nat}{j:Int}(M:evS l x=some (ss,.slice a q c))(O:evS l y=some (ss',.int kk j))(hs:Bn g (Bl ss))(H:Bn g (Bl ss'))(hi:Bn g ((0<=j/\j<q)/\a=some (adr a)))[f:Ca X.P t e][sz:Ak X.P e w]:Yl X p LL l g (.indexAddr t x y) (.pointer (some ((adr a).add (j.toNat*w)))):=⟨rfl,(xnk hi (xnk hs H And.intro) fun hi hs _ _ _ E _=>xdb f.h sz.h ((xdq E M hs.1).trans (ycc q c hi.2)) (xdq E O hs.2) hi.1.1 hi.1.2 rfl)⟩
theorem xcv{e:TypeId}{j:Int}(H:evS l x=some ([],v))(O:evS l y=some ([],.J j))(o:Aa T w v es Y)(V:0<=j)(M:j.toNat<es.length)[f:Ca X.P t e][sz:Ak X.P e w](n:RO X k ops rest (ent d none (.pointer (some ((E4 v).add (j.toNat*w)))) l) p LL):
 RO X k ops (⟨d,.indexAddr t x y,ty,pos,aft,none⟩::rest) l p LL:=by
 have e:j=((j.toNat:Nat):Int):=om;exact xtb (g:=none) rfl rfl (fun _ _ E _=>xuc o f.h sz.h (xdq E H trivial) ((xdq E O trivial).trans (by rw[<- e])) M) n
end
def clo(ops:List Oper):List (List Nat):=ops.foldl (fun acc o=>acc++[(Bm o++(Bm o).flatMap fun k=>acc.getD k []).eraseDups]) []
section
variable{X:Cx}{k:List Item}{m:Ks}{LF LL LR L3:List Pcs}
theorem xrs(effs H:List Nat)(D:DE X k ops (.drop H.length) p LL effs H l [])(V:X.P.follows .mixedOrders=true:=by kernel_rfl)(ok:okD X.n ops=true:=by rfl)
 (a3:Bo ops H.length (clo ops)=true:=by kernel_rfl)(hm:Nat.ble H.length ops.length=true:=by kernel_rfl)(O:Ef ops (clo ops) effs [] H=true:=by kernel_rfl)(M:((List.range H.length).all fun i=>H.contains i)=true:=by kernel_rfl)(a2:(H.all fun i=>Nat.blt i H.length)=true:=by kernel_rfl):
 RE X (.code (.region id ops.toArray true)::k) l p LL:=xd6 H.length (clo ops) effs H V ok D.run a3 hm O M a2
theorem xuv(effs H:List Nat)(b:Nat){o:Obj}[i:Bx LL b o LR](D:DE X k ops (.drop H.length) p LR effs H l [[(b,o)]])(V:X.P.follows .mixedOrders=true:=by kernel_rfl)(ok:okD X.n ops=true:=by rfl)
 (a3:Bo ops H.length (clo ops)=true:=by kernel_rfl)(hm:Nat.ble H.length ops.length=true:=by kernel_rfl)(O:Ef ops (clo ops) effs [] H=true:=by kernel_rfl)(M:((List.range H.length).all fun i=>H.contains i)=true:=by kernel_rfl)(a2:(H.all fun i=>Nat.blt i H.length)=true:=by kernel_rfl):
 RE X (.code (.region id ops.toArray true)::k) l p LL:=yxc H.length (clo ops) effs H b D V ok a3 hm O M a2
theorem xf6(effs H:List Nat)(Y:Pcs)[i:Rm LL Y LR](D:DE X k ops (.drop H.length) p LR effs H l [Y])(V:X.P.follows .mixedOrders=true:=by kernel_rfl)(ok:okD X.n ops=true:=by rfl)
 (a3:Bo ops H.length (clo ops)=true:=by kernel_rfl)(hm:Nat.ble H.length ops.length=true:=by kernel_rfl)(O:Ef ops (clo ops) effs [] H=true:=by kernel_rfl)(M:((List.range H.length).all fun i=>H.contains i)=true:=by kernel_rfl)(a2:(H.all fun i=>Nat.blt i H.length)=true:=by kernel_rfl):
 RE X (.code (.region id ops.toArray true)::k) l p LL:=xe6 H.length (clo ops) effs H Y D V ok a3 hm O M a2
end
abbrev R1:List Nat:=[0]
abbrev R2:List Nat:=[0,1]
abbrev R3:List Nat:=[0,1,2]
abbrev R4:List Nat:=[0,1,2,3]
abbrev R5:List Nat:=[0,1,2,3,4]
abbrev R6:List Nat:=[0,1,2,3,4,5]
abbrev R7:List Nat:=[0,1,2,3,4,5,6]
abbrev R8:List Nat:=[0,1,2,3,4,5,6,7]
abbrev R9:List Nat:=[0,1,2,3,4,5,6,7,8]
abbrev R10:List Nat:=[0,1,2,3,4,5,6,7,8,9]
abbrev R11:List Nat:=[0,1,2,3,4,5,6,7,8,9,10]
abbrev R12:List Nat:=[0,1,2,3,4,5,6,7,8,9,10,11]
abbrev R13:List Nat:=[0,1,2,3,4,5,6,7,8,9,10,11,12]
abbrev R14:List Nat:=[0,1,2,3,4,5,6,7,8,9,10,11,12,13]
abbrev R15:List Nat:=[0,1,2,3,4,5,6,7,8,9,10,11,12,13,14]
abbrev R16:List Nat:=[0,1,2,3,4,5,6,7,8,9,10,11,12,13,14,15]
abbrev R17:List Nat:=[0,1,2,3,4,5,6,7,8,9,10,11,12,13,14,15,16]
abbrev R18:List Nat:=[0,1,2,3,4,5,6,7,8,9,10,11,12,13,14,15,16,17]
abbrev R19:List Nat:=[0,1,2,3,4,5,6,7,8,9,10,11,12,13,14,15,16,17,18]
abbrev R20:List Nat:=[0,1,2,3,4,5,6,7,8,9,10,11,12,13,14,15,16,17,18,19]
abbrev R21:List Nat:=[0,1,2,3,4,5,6,7,8,9,10,11,12,13,14,15,16,17,18,19,20]
abbrev R23:List Nat:=[0,1,2,3,4,5,6,7,8,9,10,11,12,13,14,15,16,17,18,19,20,21,22]
abbrev R24:List Nat:=[0,1,2,3,4,5,6,7,8,9,10,11,12,13,14,15,16,17,18,19,20,21,22,23]
abbrev R25:List Nat:=[0,1,2,3,4,5,6,7,8,9,10,11,12,13,14,15,16,17,18,19,20,21,22,23,24]
theorem Aa.stN{T:TypeId}{w:Nat}{v:Value}{es:List (List Value)}{X:Pcs}{i j:Nat}{e vs:List Value}(o:Aa T w v es X)(hi:es[i]?=some e)(V:j+vs.length<=e.length):
 ∃b cs off,X=[(b,.cells (List.toArray cs) T (0,0))]/\((E4 v).add (i*w)).add j=⟨b,off,none⟩/\off+vs.length<=cs.length/\Aa T w v (es.set i (Ce e j vs)) [(b,.cells (Ce cs off vs).toArray T (0,0))]:=by
 have H:=(List.getElem?_eq_some_iff.1 hi).1;obtain⟨b,cs',cap,rs,e1,e2,O,e4,ec⟩:=o.has H;have he:e.length=w:=o.1 e (List.mem_of_getElem? hi);have a2:es.flatten.length=es.length*w:=xjq o.1;have M:(i+1)*w<=es.length*w:=Nat.mul_le_mul_right _ H;rw[Nat.add_mul,Nat.one_mul]at M;subst e1;subst e2;have e5:Ce cs' (i*w+j) vs=(es.set i (Ce e j vs)).flatten++rs:=by
  rw[O,<- xdc o.1 hi V];have:∀(vs l:List Value)(m:Nat),m+vs.length<=l.length->Ce (l++rs) m vs=Ce l m vs++rs:=by
   intro vs
   induction vs with
   |nil=>intro l m _;rfl
   |cons v vs ih=>
     intro l m hl;simp only[List.length_cons]at hl;simp only[Ce];rw[List.set_append_left _ _ om,ih _ _ (by simp;omega)]
  exact this vs _ _ om
 refine⟨b,cs',i*w+j,rfl,by simp only[E4];rw[xox,xox,Nat.zero_add],by rw[O,List.length_append];omega,fun z hz=>?_,.inr ⟨b,Ce cs' (i*w+j) vs,cap,rs,s_,rfl,e5,by rw[xwx];exact e4,ec⟩⟩;rcases List.mem_or_eq_of_mem_set hz with h|h
 ·exact o.1 z h
 ·subst h;rw[xwx];exact he
section
variable{X:Cx}{k:List Item}{m:Ks}{LF LL LR L3:List Pcs}{pos:String}
theorem xj8(ho:ops[i]?=some ⟨d,op,ty,pos,aft,gd⟩)(V:gdc ops l gd=some g)(O:Bq op=true)(M:Bn g (∀tm h,B0 tm l->St X.z9 X.zz p h (LF.flatten++LL.flatten)->Exd X.P tm ⟨d,op,ty,pos,aft,gd⟩ h v))
 (n:DE X k ops m p LF effs todo (ent d g v l) LL)(hb:Ot ops effs todo i=true):DE X k ops m p LF effs (i::todo) l LL:=⟨.pin ho (yin hb) (fun tm _ E C=>⟨O,by
  have sb:∀{h},St X.z9 X.zz p h (LF.flatten++(LL.flatten++C))->St X.z9 X.zz p h (LF.flatten++LL.flatten):=fun y=>y.sub (List.Sublist.append_left (List.sublist_append_left _ _) _);rcases xgv (o:=⟨d,op,ty,pos,aft,gd⟩) E V with⟨rfl,H⟩|⟨c,rfl,H⟩
  ·exact .inl ⟨H,xvl fun h y=>M tm h E (sb y)⟩
  ·cases c with
   |true=>exact .inl ⟨H,xvl fun h y=>M rfl tm h E (sb y)⟩
   |false=>exact .inr ⟨H,rfl⟩⟩) n.run⟩
theorem xi4{q:Nat}{e:List Value}{a:Addr}(ho:ops[i]?=some ⟨d,.load t x,ty,pos,aft,gd⟩)(O:gdc ops l gd=some g)(H:evS l x=some (ss,.pointer (some a)))(hs:Bn g (Bl ss))(o:Aa T w v es Y)(ha:((E4 v).add (j*w)).add q=a)(M:es[j]?=some e)(hq:e[q]?=some u)
 [ag:Cd X.P t false][ii:Rm LL Y LR](n:DE X k ops m p LF effs todo (ent d g u l) LL)(V:Ot ops effs todo i=true:=by kernel_rfl):DE X k ops m p LF effs (i::todo) l LL:=
 xj8 ho O rfl (xjx hs fun hs _ h E s=>xog ag.h (xdq E H hs) (by
  subst ha;exact xnf (L:=LR.flatten++LF.flatten) o (s.perm ((List.perm_append_comm.trans (List.Perm.append_right _ ii.h)).trans (by rw[List.append_assoc]))) M hq)) n V
theorem yfl{M:Nat}{e:List Value}{a:Addr}(ho:ops[i]?=some ⟨none,.store T' x y,ty,pos,aft,none⟩)(hx:evS l x=some ([],.pointer (some a)))(hy:evS l y=some ([],u))(o:Aa T w v es Y)(ha:((E4 v).add (M*w)).add j=a)(V:u.cells=vs.toArray)(hn:vs.length=nsz)(h1:vs.all Bj=true)(hi:es[M]?=some e)(hj:j+vs.length<=e.length)
 [sz:Ak X.P T' nsz][ii:Rm LL Y LR](nx:∀H,Aa T w v (es.set M (Ce e j vs)) H->DE X k ops m p LF effs todo l (H::LR))(he:effs.contains i=true:=by rfl):DE X k ops m p LF effs (i::todo) l LL:=
 ⟨.eff (U:=Y) (LR:=LR) (Q:=fun _ H=>Aa T w v (es.set M (Ce e j vs)) H) ho (by simpa using he) ii.h (fun tm _ E=>⟨rfl,xoq rfl,fun C h s=>.inl (by
  obtain⟨b,cs,off,e1,e2,e3,o'⟩:=o.stN hi hj;subst e1;unfold Exv;simp only[execOp,xdq E hx trivial,xdq E hy trivial];rw[<- ha,e2];refine xaq ?_;unfold Instr.storeAt;refine xaq (xbq ?_);unfold storeVar;refine xaq (xvq sz.h ?_);rw[if_neg (by rw[V];simpa using hn),V];refine xpz (i:=0) s rfl (by simpa using e3) (fun z hz=>List.all_eq_true.1 h1 z hz) fun h' O=>?_;refine xbq ⟨_,.inr ⟨rfl,rfl⟩,_,o',?_⟩;rw[Nat.add_zero]at O;exact O)⟩) fun v' H o'=>(nx H o').run⟩
end
section
variable{X:Cx}{k:List Item}{LL LR L3:List Pcs}{pos:String}
theorem xxm(Y:Pcs)[i:Rm LL Y LR](hx:evS l x=some ([],.func (.func ff) first.toArray cap.toArray))(M:D4 l args=some ([],vs))
 (hc:∀h C,St X.z9 X.zz p h (Y++C)->Ac X.P X.md ff (first++(vs++cap)).toArray h fun v h'=>∃H,Q v H/\St X.z9 X.zz p h' (H++C))(n:∀v H,Q v H->RO X k ops rest (ent d none v l) p (H::LR))(hf:Ao X.P ff=true:=by kernel_rfl):
 RO X k ops (⟨d,.call ⟨.value x,args.toArray,ats⟩,ty,pos,aft,none⟩::rest) l p LL:=⟨fun V tm O E=>
 xdv (R:=fun v h=>∃H,Q v H/\St X.z9 X.zz p h (H++LR.flatten)) (xoq rfl) (xdq E hx trivial) (by rw[xlx E M trivial]) hf (fun h s=>hc h _ (s.rm i))
  fun v=>xgk fun H=>xyx fun q=>(n v H q).run (xfq V).1 _ (A0.trans O) (E.ent (g:=none) O (xfq V).2)⟩
theorem ynh(Y:Pcs)[i:Rm LL Y LR](hx:evS l x=some ([],fv))(M:D4 l args=some ([],vs))
 (hc:∀h C,St X.z9 X.zz p h (Y++C)->Be X.P X.md fv vs h fun v h'=>∃H,Q v H/\St X.z9 X.zz p h' (H++C))(n:∀v H,Q v H->RO X k ops rest (ent d none v l) p (H::LR)):
 RO X k ops (⟨d,.call ⟨.value x,args.toArray,ats⟩,ty,pos,aft,none⟩::rest) l p LL:=⟨fun O _ V E=>
 xgf (R:=fun v h=>∃H,Q v H/\St X.z9 X.zz p h (H++LR.flatten)) (xoq rfl) (xdq E hx trivial) (xlx E M trivial) (fun h s=>hc h _ (s.rm i))
  fun v=>xgk fun H=>xyx fun q=>(n v H q).run (xfq O).1 _ (A0.trans V) (E.ent (g:=none) V (xfq O).2)⟩
theorem ye0[i:Rm LL Y LR][j:Rm LR Z L3](s:St z9 [] p h LL.flatten):New z9 h (Y++Z):=
 (((s.rm i).perm (List.Perm.append_left Y j.h)).sub (by rw[<- List.append_assoc];exact List.sublist_append_left _ _)).new
end
theorem xpj{c:Code}{args:List Value}(s:St z9 zz p h (Y++C))(hf:P.funcs[f]?=some fn)
 (x:∀(zq:Frame)(cs:List Frame)(Stop:Goroutine->Heap->Prop),(∀v h',R v h'->Reach P md (G (zq.finish v) cs) h' Stop)->RE ⟨P,md,f,.none,fn.ntmps,[],zq::cs,Stop,z9,zz⟩ [.code c] (Fb 0 args) p [Y,C])
 (H:fn.body=some c:=by rfl)(hn:Nat.ble args.length fn.ntmps=true:=by rfl):Ac P md f args.toArray h R:=
 xtd (Φ:=fun h'=>St z9 zz p h' [Y,C].flatten) hf H rfl (fun zq cs Stop K=>(x zq cs Stop K).run _ (by have:=Nat.le_of_ble_eq_true hn;simp;omega) fun i g v O=>by
  obtain⟨rfl,m,rfl,M⟩:=xvc O;rw[Nat.zero_add,List.getElem?_append_left (by simpa using(List.getElem?_eq_some_iff.1 M).1)];simpa[cv]using M) (by simpa using s)
theorem xoh{LL LR L3:List Pcs}[i:Rm LL Y LR][j:Rm LR C L3](s:St z9 zz p h LL.flatten):St z9 zz p h (Y++C):=
 ((s.rm i).perm (List.Perm.append_left Y j.h)).sub (by rw[<- List.append_assoc];exact List.sublist_append_left _ _)
theorem xnx{a:Addr}:(a.add (j*w)).add 0=a.add (j*w):=by unfold Addr.add;cases a.spot<;>rfl
theorem xvb{cs:List Frame}{Stop:Goroutine->Heap->Prop}{LL:List Pcs}(hf:P.funcs[f]?=some fn)(H:fn.results=#[])
 (x:∀h,St z9 zz p h LL.flatten->Reach P md (G (zq.finish (.tuple #[])) cs) h Stop):RE ⟨P,md,f,.none,nn,[],zq::cs,Stop,z9,zz⟩ [] l p LL:=
 ⟨fun _ _ _=>yzn (rs:=[]) (vs:=[]) hf H (fun _ _=>rfl) rfl x⟩
section
variable{X:Cx}{k:List Item}{m:Ks}{LF LL LR L3:List Pcs}{pos:String}
theorem xgm{e:TypeId}{z:Int}(O:evS l x=some (ss,v))(V:evS l y=some (ss',.J z))(hs:Bn g (Bl ss))(M:Bn g (Bl ss'))(o:Aa T w v es Y)(H:Bn g (0<=z/\z.toNat<es.length))[f:Ca X.P t e][sz:Ak X.P e w]:Yl X p LL l g (.indexAddr t x y) (.pointer (some ((E4 v).add (z.toNat*w)))):=⟨rfl,(xnk H (xnk hs M And.intro) fun H hs _ _ _ E _=>xc4 o f.h sz.h (xdq E O hs.1) (xdq E V hs.2) H.1 H.2)⟩
theorem yoz(hg:gdc ops l gd=some g)(hx:evS l x=some (ss',fv))(H:Bn g (Bl ss'))(a2:D4 l args=some (ss,vs))(hs:Bn g (Bl ss))(hc:Bn g (∀h,Per p h->Be X.P X.md fv vs h fun v' h'=>v'=v/\Av h h'))(n:RO X k ops rest (ent d g v l) p LL):
 RO X k ops (⟨d,.call ⟨.value x,args.toArray,ats⟩,ty,pos,aft,gd⟩::rest) l p LL:=by
 constructor;intro ok tm ht E;have V:=xfq ok;have go:∀u,u=cv g v->RL X.P X.md X.f X.r X.df k X.cs X.Stop ops rest (Cz tm d u) (fun h=>St X.z9 X.zz p h LL.flatten):=fun u e=>by
  subst e;exact n.run V.1 _ (A0.trans ht) (E.ent ht V.2)
 have O:Met ops tm ⟨d,.call ⟨.value x,args.toArray,ats⟩,ty,pos,aft,gd⟩ true->Bl ss'->Bl ss->(∀h,Per p h->Be X.P X.md fv vs h fun v' h'=>v'=v/\Av h h')->v=cv g v->
  RL X.P X.md X.f X.r X.df k X.cs X.Stop ops (⟨d,.call ⟨.value x,args.toArray,ats⟩,ty,pos,aft,gd⟩::rest) tm (fun h=>St X.z9 X.zz p h LL.flatten):=fun M H hs hc e=>
  xb1 M (xdq E hx H) (xlx E a2 hs) (fun h s=>hc h fun b o e=>s.per b o e) rfl (go _ e)
 rcases xgv (o:=⟨d,.call ⟨.value x,args.toArray,ats⟩,ty,pos,aft,gd⟩) E hg with⟨rfl,M⟩|⟨c,rfl,M⟩
 ·exact O M H hs hc rfl
 ·cases c with
  |true=>exact O M (H rfl) (hs rfl) (hc rfl) rfl
  |false=>exact xub M rfl (go _ rfl)
end
section
variable{X:Cx}{k:List Item}{m:Ks}{LF LL LR L3:List Pcs}{pos:String}
theorem xns{c:Bool}{Q:Pcs->Prop}(Y:Pcs)[i:Rm LL Y LR](hg:gdc ops l gd=some (some c))(hx:evS l x=some (ss',fv))(V:Bn (some c) (Bl ss'))(a2:D4 l args=some (ss,vs))(hs:Bn (some c) (Bl ss))
 (hc:c=true-> ∀h C,St X.z9 X.zz p h (Y++C)->Be X.P X.md fv vs h fun v' h'=>∃H,(v'=v/\Q H)/\St X.z9 X.zz p h' (H++C))(n:∀H,(c=true->Q H)->(c=false->H=Y)->RO X k ops rest (ent d (some c) v l) p (H::LR)):
 RO X k ops (⟨d,.call ⟨.value x,args.toArray,ats⟩,ty,pos,aft,gd⟩::rest) l p LL:=by
 constructor;intro ok tm O E;have M:=xfq ok;rcases xgv (o:=⟨d,.call ⟨.value x,args.toArray,ats⟩,ty,pos,aft,gd⟩) E hg with⟨e,_⟩|⟨c',e,hm⟩
 ·cases e
 ·cases e;cases c with
  |true=>
    refine xgf (R:=fun v' h=>∃H,(v'=v/\Q H)/\St X.z9 X.zz p h (H++LR.flatten)) hm (xdq E hx (V rfl)) (xlx E a2 (hs rfl)) (fun h s=>hc rfl h _ (s.rm i)) fun v'=>xgk fun H=>xyx fun⟨e,q⟩=>?_;subst e;exact(n H (fun _=>q) (fun z=>by cases z)).run M.1 _ (A0.trans O) (E.ent (g:=some true) O M.2)
  |false=>
    refine xi3 (xub hm rfl ((n Y (fun z=>by cases z) (fun _=>rfl)).run M.1 _ (A0.trans O) (E.ent (g:=some false) (v:=v) O M.2))) fun _ s=>s.rm i
theorem ydr{c:Bool}{Q:Pcs->Prop}(Y:Pcs)[ii:Rm LL Y LR](ho:ops[i]?=some ⟨d,.call ⟨.value x,args.toArray,ats⟩,ty,pos,aft,gd⟩)(hg:gdc ops l gd=some (some c))(hx:evS l x=some (ss',fv))(M:Bn (some c) (Bl ss'))(O:D4 l args=some (ss,vs))(hs:Bn (some c) (Bl ss))
 (hc:c=true-> ∀h C,St X.z9 X.zz p h (Y++C)->Be X.P X.md fv vs h fun v' h'=>∃H,(v'=v/\Q H)/\St X.z9 X.zz p h' (H++C))(n:∀H,(c=true->Q H)->(c=false->H=Y)->DE X k ops m p LF effs todo (ent d (some c) v l) (H::LR))(he:effs.contains i=true:=by rfl):
 DE X k ops m p LF effs (i::todo) l LL:=
 ⟨.N6 (U:=Y) (g:=some c) (Q:=fun u x=>u=v/\(c=true->Q x)/\(c=false->x=Y)) ho (by simpa using he) ii.h (fun tm _ E=>⟨rfl,by
  rcases xgv (o:=⟨d,.call ⟨.value x,args.toArray,ats⟩,ty,pos,aft,gd⟩) E hg with⟨e,_⟩|⟨c',e,V⟩
  ·cases e
  ·cases e;cases c with
   |true=>
     refine .inl ⟨V,fun C h s=>.inr (.inr fun c cs Stop z=>?_)⟩;simp only[execOp,resolve,xdq E hx (M rfl),List.map_toArray,xlx E O (hs rfl)];exact hc rfl h _ s c cs Stop fun v' h'⟨H,⟨e,q⟩,s'⟩=>z v' h' ⟨v,H,e,⟨rfl,fun _=>q,fun z=>by cases z⟩,s'⟩
   |false=>exact .inr ⟨V,v,rfl,rfl,(fun z=>by cases z),fun _=>rfl⟩⟩) fun u x⟨e,q1,q2⟩=>by subst e;exact(n x q1 q2).run⟩
end
def Gz(ops:List Oper)(val:Nat->Value):Nat->Env->Env
 |0,l=>l
 |m+1,l=>ent ((ops[m]?).bind (·.dst)) none (val m) (Gz ops val m l)
theorem xyn{ops:List Oper}{val:Nat->Value}{tm:List Value}{l:Env}{n:Nat}(E:B0 tm l)(hn:tm.length=n)(M:okD n ops=true):∀m,B0 (E9 ops val m tm) (Gz ops val m l)
 |0=>E
 |m+1=>by
   refine(xyn E hn M m).ent (g:=none) (n:=n) (by rw[xnz,hn]) fun i hi=>?_;cases O:ops[m]? with
   |none=>rw[O]at hi;cases hi
   |some o=>
     rw[O]at hi;have:∀{os:List Oper},okD n os=true-> ∀o∈os,∀d,o.dst=some d->d<n:=fun{os}=>by
      induction os with
      |nil=>intro _ o O;simp at O
      |cons o os ih=>
        intro h o' H d M;rcases List.mem_cons.1 H with rfl|H
        ·exact(xfq h).2 d M
        ·exact ih (xfq h).1 o' H d M
     exact this M o (List.mem_of_getElem? O) i hi
def Qo(X:Cx)(k:List Item)(ops:List Oper)(M:Nat)(l:Env)(p:Ab)(LL:List Pcs)(effs:List Nat)(H anc:Nat->List Nat)(Q:Nat->(Nat->Value)->(Nat->Pcs)->Value->Pcs->Prop)(i:Nat):Prop:=
 ∀val piece,(∀j,(anc i).contains j=true->Qr anc Q val piece j (val j) (piece j))->
  DE X k ops (.to fun l' LL'=>(∃v,l'=ent ((ops[i]?).bind (·.dst)) none v (Gz ops val M l))/\ ∀v,l'=ent ((ops[i]?).bind (·.dst)) none v (Gz ops val M l)->Qr anc Q val piece i v LL'.flatten) p LL effs [i] (Gz ops val M l) ((H i).map piece)
theorem yzv{d:Tmp}(h:ent (some d) g u l=ent (some d) none v l):g=none/\u=v:=by
 simp only[ent,List.cons.injEq,Prod.mk.injEq,true_and,and_true]at h;exact h
def P3(ops:List Oper)(m:Nat):Bool:=(ops.take m).all fun o=>o.guard.isNone&&Bq o.op
theorem yfw{LF:Pcs}{R:Value->Pcs->Prop}(ho:ops[i]?=some o)(hg:o.guard=none)
 (D:DR P md ops n z9 zz p LF effs (fun l' LL'=>(∃v,l'=ent o.dst none v l)/\ ∀v,l'=ent o.dst none v l->R v LL'.flatten) [i] l L0)(ht:tm.length=n)(E:B0 tm l)(C:Pcs)(h:Heap)(s:St z9 zz p h (L0.flatten++(LF++C))):
 He P md tm o h fun v h'=>∃x,R v x/\St z9 zz p h' (x++(LF++C)):=by
 have mt:∀{tm},¬ Met ops tm o false:=fun z=>by unfold Met at z;rw[hg]at z;cases z
 have V:∀{g u}{LL':List Pcs},((∃v,ent o.dst g u l=ent o.dst none v l)/\ ∀v,ent o.dst g u l=ent o.dst none v l->R v LL'.flatten)->R (cv g u) LL'.flatten:=fun{g u LL'}⟨⟨v,e⟩,k⟩=>by
  cases hd:o.dst with
  |none=>rw[hd]at k;exact k _ rfl
  |some d=>rw[hd]at e k;obtain⟨rfl,rfl⟩:=yzv e;exact k _ rfl
 have val:∀{u},R u L0.flatten->Nx P md tm o (fun h=>St z9 zz p h (LF++(L0.flatten++C))) u->He P md tm o h fun v h'=>∃x,R v x/\St z9 zz p h' (x++(LF++C)):=fun{u}hR M=>by
  have H:∀{h'},St z9 zz p h' (LF++(L0.flatten++C))->St z9 zz p h' (L0.flatten++(LF++C)):=fun y=>y.perm (List.perm_append_comm_assoc _ _ _);rcases M h (s.perm (List.perm_append_comm_assoc _ _ _))with y|⟨g,args,y,z⟩|y
  ·exact .inl (xex y fun _ _⟨v',e,e2,O⟩=>⟨v',.inl e,_,e2 ▸ hR,H O⟩)
  ·exact .inr (.inl ⟨g,args,y,z.mono fun v' h'⟨e,O⟩=>⟨_,e ▸ hR,H O⟩⟩)
  ·exact .inr (.inr fun c cs Stop z=>y c cs Stop fun v' h'⟨e,O⟩=>z v' h' ⟨_,e ▸ hR,H O⟩)
 cases D with
 |det ho' hh nx=>
   rw[ho]at ho';cases ho';cases nx with
   |nil kk=>
     obtain⟨_,⟨_,M⟩|⟨hm,_⟩⟩:=hh tm ht E
     ·exact val (V kk) (M _)
     ·exact absurd hm mt
 |pin ho' _ hh nx=>
   rw[ho]at ho';cases ho';cases nx with
   |nil kk=>
     obtain⟨_,⟨_,M⟩|⟨hm,_⟩⟩:=hh tm ht E C
     ·exact val (V kk) M
     ·exact absurd hm mt
 |@N6 _ _ _ _ _ LR U g Q ho' _ hr hh nx=>
   rw[ho]at ho';cases ho';obtain⟨_,⟨_,he⟩|⟨hm,_⟩⟩:=hh tm ht E
   ·have a2:(L0.flatten++(LF++C)).Perm (U++(LF++(LR.flatten++C))):=by
     refine(List.Perm.append_right _ hr).trans ?_;rw[List.append_assoc];exact List.Perm.append_left U (List.perm_append_comm_assoc _ _ _)
    refine(he (LR.flatten++C) h (s.perm a2)).mono fun v h'⟨u,x,e,q,O⟩=>⟨(x::LR).flatten,?_,O.perm ?_⟩
    ·subst e;cases nx u x q with
     |nil kk=>exact V kk
    ·rw[List.flatten_cons,List.append_assoc];exact List.Perm.append_left x (List.perm_append_comm_assoc _ _ _)
   ·exact absurd hm mt
theorem xxl{F:Nat->Oper->Prop}:∀{l:List Oper}{b:Nat},(∀i o,l[i]?=some o->Bq o.op=true/\F (b+i) o)->Ky F b l
 |[],_,_=>trivial
 |o::l,b,h=>⟨h 0 o rfl,xxl fun i o' H=>by have:=h (i+1) o' (by simpa using H);rwa[Nat.add_assoc,Nat.add_comm 1 i]⟩
theorem xb8{Q:Nat->Value->Pcs->Prop}:∀{l:List Nat},(∀j∈l,∀v x,Q j v x->x=[])->Emp Q l
 |[],_=>trivial
 |j::l,h=>⟨h j s_,xb8 fun i hi=>h i (by simp[hi])⟩
theorem xlv:∀{l:List Nat},l.flatMap piece=(l.map piece).flatten
 |[]=>rfl
 |j::l=>by simp[List.flatMap]
theorem xzh{X:Cx}{k:List Item}{LL:List Pcs}(M:Nat)(fin O effs:List Nat)(V anc:Nat->List Nat)(Q:Nat->(Nat->Value)->(Nat->Pcs)->Value->Pcs->Prop)
 (x:∀i,i<M->Qo X k ops M l p LL effs V anc Q i)(a3:∀val piece,∀j∈O,∀v x,Qr anc Q val piece j v x->x=[])(n:∀val piece,(∀j<M,Qr anc Q val piece j (val j) (piece j))->RO X k ops (ops.drop M) (Gz ops val M l) p (fin.map piece++LL))
 (a5:X.P.follows .mixedOrders=true:=by kernel_rfl)(ok:okD X.n ops=true:=by rfl)(a7:Bo ops M (clo ops)=true:=by kernel_rfl)(hm:Nat.ble M ops.length=true:=by kernel_rfl)(hk:H2 ops M [] V (fin++O)=true:=by kernel_rfl)(a2:(O.all fun j=>decide (j<M))=true:=by kernel_rfl)(a4:Ke ops M (clo ops) anc=true:=by kernel_rfl)(a9:P3 ops M=true:=by kernel_rfl):
 RE X (.code (.region id ops.toArray true)::k) l p LL:=by
 constructor;intro tm ht E;have a6:=Nat.le_of_ble_eq_true hm;have H:∀{os:List Oper}(j:Nat),okD X.n os=true->okD X.n (os.drop j)=true:=fun{os}=>by
  induction os with
  |nil=>intro j h;cases j<;>exact h
  |cons o os ih=>
    intro j h;cases j with
    |zero=>exact h
    |succ j=>exact ih j (xfq h).1
 have b3:∀{os:List Oper},okD X.n os=true->(os.all fun o=>match o.dst with|some d=>decide (d<tm.length)|none=>true)=true:=fun{os}=>by
  induction os with
  |nil=>intro _;rfl
  |cons o os ih=>
    intro h;rw[List.all_cons,ih (xfq h).1,Bool.and_true];split
    ·rename_i d hd;exact decide_eq_true (ht ▸ (xfq h).2 d hd)
    ·rfl
 have:=xrn (P:=X.P) (md:=X.md) (ops:=ops) (f:=X.f) (r:=X.r) (df:=X.df) (k:=k) (cs:=X.cs) (Stop:=X.Stop) (tm:=tm) (z9:=X.z9) (zz:=X.zz) (p:=p) (A:=LL.flatten) (C:=[]) (rid:=id) M (clo ops) [] fin O (fun _=>[]) V anc Q (fun val=>E9 ops val M tm) a5 a7 a6 hk a2 a4 (fun val piece=>xb8 (a3 val piece)) (fun _=>rfl) (b3 ok)
  (xxl fun i o ho=>by
   rw[List.getElem?_take]at ho;split at ho
   ·rename_i hi;have hg:=List.all_eq_true.1 a9 o (List.mem_of_getElem? (by rw[List.getElem?_take,if_pos hi];exact ho));simp only[Bool.and_eq_true,Option.isNone_iff_eq_none]at hg;rw[Nat.zero_add];refine⟨hg.2,fun val piece hQ _=>.inl ⟨xoq hg.1,fun C h s=>?_⟩⟩;have D:=(x i hi val piece hQ).run;have a8:(ops[i]?).bind (·.dst)=o.dst:=by rw[ho];rfl
    rw[a8]at D;exact yfw (R:=Qr anc Q val piece i) ho hg.1 D ((xnz ops val tm M).trans ht) (xyn E ht ok M) C h (by rw[<- xlv];exact s)
   ·cases ho)
  (fun val piece hQ _=>by
   have z:=(n val piece hQ).run (H M ok) _ ((xnz ops val tm M).trans ht) (xyn E ht ok M);rw[List.flatten_append,<- xlv]at z;intro b0 e h s;exact z b0 e h (by simpa using s))
 intro h s;exact this h (by simpa using s)
def Oi(P:Program)(md:Md)(p:Ab)(fv:Value)(xs:List (List Value)):Prop:=∀(h z9:Heap)(zz:List Nat)(p':Ab)(q7 O:Pcs)(V:Value)(I:Nat->Pcs->Prop),PLe p p'->I 0 q7->
 (∀i,i<xs.length-> ∀(H:Ab)h X C,PLe p' H->I i X->St z9 zz H h (X++C)->Be P md V (xs.getD i []) h fun v h'=>∃M,(v=.bool true/\I (i+1) M)/\St z9 zz H h' (M++C))->
 St z9 zz p' h (q7++O)->Be P md fv [V] h fun _ h'=>∃M,I xs.length M/\St z9 zz p' h' (M++O)
def Nm(P:Program)(md:Md)(p:Ab)(fv:Value)(xs:List (List Value)):Prop:=∀(h z9:Heap)(zz:List Nat)(p':Ab)(q7 O:Pcs)(V:Value)(I:Nat->Pcs->Prop)(Ex:Pcs->Prop),PLe p p'->I 0 q7->
 (∀i,i<xs.length-> ∀(M:Ab)h X C,PLe p' M->I i X->St z9 zz M h (X++C)->Be P md V (xs.getD i []) h fun v h'=>∃H,((v=.bool true/\I (i+1) H)\/(v=.bool false/\Ex H))/\St z9 zz M h' (H++C))->
 St z9 zz p' h (q7++O)->Be P md fv [V] h fun _ h'=>∃H,(I xs.length H\/Ex H)/\St z9 zz p' h' (H++O)
theorem Nm.c{P:Program}{md:Md}{p:Ab}{fv:Value}{xs:List (List Value)}(x:Nm P md p fv xs):Oi P md p fv xs:=fun h z9 zz p' q7 zx yv I V h0 hy s=>
 (x h z9 zz p' q7 zx yv I (fun _=>False) V h0 (fun i hi O h X C V hI s=>(hy i hi O h X C V hI s).mono fun _ _⟨H,q,M⟩=>⟨H,.inl q,M⟩) s).mono fun _ _⟨H,q,M⟩=>⟨H,q.elim id fun z=>z.elim,M⟩
def Of:List Tmp->List Value->Env->Env
 |q::qs,v::vs,l=>Of qs vs ((q,none,v)::l)
 |_,_,l=>l
theorem xt2:∀{H:List Tmp}{vs:List Value}{tm:List Value}{l:Env},B0 tm l->(∀q∈H,q<tm.length)->B0 ((H.zip vs).foldl (fun tm q=>tm.set q.1 q.2) tm) (Of H vs l)
 |[],vs,tm,l,E,_=>by simpa[Of]using E
 |q::H,[],tm,l,E,_=>by simpa[Of]using E
 |q::H,v::vs,tm,l,E,h=>by
   rw[List.zip_cons_cons,List.foldl_cons,Of];exact xt2 (E.set (g:=none) (h q s_)) fun r M=>by rw[List.length_set];exact h r (by simp[M])
theorem xs2:∀{l:List (Nat×Value)}{tm:List Value},(l.foldl (fun tm q=>tm.set q.1 q.2) tm).length=tm.length
 |[],_=>rfl
 |q::l,tm=>by rw[List.foldl_cons,xs2,List.length_set]
section
variable{X:Cx}{k:List Item}{LL LR L3:List Pcs}{c:Frame}{cs:List Frame}{Stop:Goroutine->Heap->Prop}{lo:Nat}{lp:Loop}
theorem xts[i:Bx LL lo (.loop lp) LR](M:lp.state=.ready)(x:RE ⟨P,md,f,.some lo,n,[],cs,Stop,z9,zz⟩ k l p ([(lo,.loop {lp with state:=.busy})]::LR)):RE ⟨P,md,f,.some lo,n,[],cs,Stop,z9,zz⟩ (.beginRound::k) l p LL:=
 ⟨fun tm H E=>xyg (ygf (i:=0) (L:=(lo,.loop lp)::LR.flatten) rfl M (by have:=x.run tm H E;simpa using this)) fun _ s=>s.bx i⟩
theorem ydj[i:Bx LL lo (.loop lp) LR](x:∀h,St z9 zz p h ((lo,.loop {lp with state:=.ready,pending:=none})::LR.flatten)->Reach P md (G (c.finish (.bool true)) cs) h Stop):RE ⟨P,md,f,.some lo,n,[],c::cs,Stop,z9,zz⟩ [] l p LL:=
 ⟨fun _ _ _=>xyg (yxn (i:=0) (L:=(lo,.loop lp)::LR.flatten) rfl rfl (by intro h s;exact x h (by simpa using s))) fun _ s=>s.bx i⟩
theorem yzm[i:Bx LL lo (.loop lp) LR](x:∀h,St z9 zz p h ((lo,.loop {lp with state:=.done,pending:=some .ret})::LR.flatten)->Reach P md (G (c.finish (.bool false)) cs) h Stop):RE ⟨P,md,f,.some lo,n,[],c::cs,Stop,z9,zz⟩ (.code .ret::k) l p LL:=
 ⟨fun _ _ _=>xyg (yvn (i:=0) (L:=(lo,.loop lp)::LR.flatten) rfl rfl (by intro h s;exact x h (by simpa using s))) fun _ s=>s.bx i⟩
theorem xc6(J:Nat->List Pcs->Prop)(hx:evS l fop=some ([],fv))(a5:Oi X.P X.md p fv xs)(start:J 0 LL)
 (round:∀(lo:Nat)(lp:Loop)(i:Nat)(LL':List Pcs)(p':Ab)(C:Pcs)(c:Frame)(cs:List Frame)(Stop:Goroutine->Heap->Prop),i<xs.length->PLe p p'->J i LL'->lp.state=.ready->
  (∀M H,J (i+1) H->RE ⟨X.P,X.md,X.f,.some lo,X.n,[],c::cs,Stop,X.z9,X.zz⟩ [] M p' ([(lo,.loop {lp with state:=.busy})]::C::H))->
  RE ⟨X.P,X.md,X.f,.some lo,X.n,[],c::cs,Stop,X.z9,X.zz⟩ [.code assign,.beginRound,.code body] (Of params (xs.getD i []) l) p' ([(lo,.loop lp)]::C::LL'))
 (nx:∀(r:Nat)(LL':List Pcs),J xs.length LL'->RE {X with df:=mark r::X.df} k l p ([(r,.deferred (some []))]::LL'))
 (hr:X.r.round=none:=by rfl)(hlen:∀i,i<xs.length->(xs.getD i []).length=params.length)(a4:(params.all fun q=>decide (q<X.n))=true:=by rfl):RE X (.code (.rangeFunc fop params.toArray assign body)::k) l p LL:=by
 constructor;intro tm ht E;have a3:∀q∈params,q<tm.length:=fun q hq=>by have:=List.all_eq_true.1 a4 q hq;rw[ht];simpa using this
 refine xp7 (R:=fun r lo lp _ h'=>lp=Fy X.f tm params.toArray assign body r/\ ∃LL',J xs.length LL'/\St X.z9 X.zz p h' ((lo,.loop lp)::(r,.deferred (some []))::LL'.flatten)) (fun r lo lp h e s=>?_) (fun r lo lp v e=>?_) hr
 ·rw[xdq E hx trivial];refine(a5 h X.z9 X.zz p ((lo,.loop lp)::LL.flatten) [(r,.deferred (some []))] (.func (.yield lo) #[] #[]) (fun i Z=>∃LL',Z=(lo,.loop lp)::LL'.flatten/\J i LL') (.refl p) ⟨LL,rfl,start⟩ (fun i hi a2 h' Z C le⟨LL',e2,O⟩s'=>?_) (s.perm (by simpa using(List.perm_append_singleton (r,Obj.deferred (some [])) LL.flatten).symm))).mono fun v h'⟨Z,⟨LL',e2,O⟩,s'⟩=>⟨e,LL',O,?_⟩
  ·subst e2;refine xbp (tm':=(params.zip (xs.getD i [])).foldl (fun tm q=>tm.set q.1 q.2) tm) ((s'.own (lo,.loop lp) s_).1) e (hlen i hi) rfl (Φ:=fun h=>St X.z9 X.zz a2 h ([(lo,.loop lp)]::C::LL').flatten) (fun c cs Stop K=>?_) (s'.perm (by simpa using List.Perm.cons (lo,Obj.loop lp) (List.perm_append_comm (l₁:=LL'.flatten) (l₂:=C))));refine(round lo lp i LL' a2 C c cs Stop hi le O (by rw[e];rfl) fun M H a6=>?_).run _ (by rw[xs2];exact ht) (xt2 E a3);refine ydj (lp:={lp with state:=.busy}) fun h1 s1=>K _ _ ⟨_,⟨rfl,H,rfl,a6⟩,s1.perm ?_⟩;have e3:({ {lp with state:=.busy}with state:=.ready,pending:=none}:Loop)=lp:=by rw[e];rfl
   rw[e3];simpa using List.Perm.cons (lo,Obj.loop lp) (List.perm_append_comm (l₁:=C) (l₂:=H.flatten))
  ·subst e2;exact s'.perm s_
 ·intro h ⟨_,LL',O,s⟩;have V:lp.state=.ready/\lp.pending=none:=by rw[e];exact⟨rfl,rfl⟩
  refine xrr (i:=0) (L:=(lo,.loop lp)::(r,.deferred (some []))::LL'.flatten) rfl (by rw[V.1];exact fun z=>by cases z) V.2 (xyg ((nx r LL' O).run tm ht E) fun h s=>?_) h s;have:=s.sub (List.sublist_cons_self _ _);simpa using this
theorem yuc{c:Code}(M:X.df=E1 rs₀)(I:Nat->List Nat->Env->Ab->List Pcs->Prop)(start:I m₀ rs₀ l' p LL)(s:Nd l l')
 (H:∀m rs l p LL,(∀{m'}rs' l' p' LL',m'<m->I m' rs' l' p' LL'->RE {X with df:=E1 rs' } (.inLoop c::k) l' p' LL')->I m rs l p LL->RE {X with df:=E1 rs} (.code c::.inLoop c::k) l p LL):RE X (.code (.loop c)::k) l p LL:=by
 constructor;intro tm ht E;rw[M];refine ycf (m₀:=m₀) (fun m rs tm' h=>∃l p LL,(tm'.length=X.n/\B0 tm' l/\I m rs l p LL)/\St X.z9 X.zz p h LL.flatten) (fun h y=>⟨l',p,LL,⟨ht,s.ok E,start⟩,y⟩) ?_;intro m rs tm' ih;refine xf9 fun l1=>xf9 fun p1=>xf9 fun L1=>ykh fun⟨h1,h2,h3⟩=>?_;exact(H m rs l1 p1 L1 (fun{m'}rs' l' p' LL' lt i=>⟨fun V O E2 h y=>ih m' rs' V lt h ⟨l',p',LL',⟨O,E2,i⟩,y⟩⟩) h3).run tm' h1 h2
theorem ybn{r:Nat}{rs:List Nat}[i:Rm LL (Dg rs) LR](n:RE X k l p (Dg (r::rs)::LR)):RE X k l p ([(r,.deferred (some []))]::LL):=xhk n fun _ s=>s.perm (by simpa[Dg]using i.h)
theorem xqs{rs:List Nat}[i:Rm LL (Dg rs) LR](hf:P.funcs[f]?=some fn)(H:fn.results=rv.toArray)(hv:Ey P l LR rv vs)
 (x:∀h,St z9 zz p h LR.flatten->Reach P md (G (c.finish (F9 vs)) cs) h Stop):RE ⟨P,md,f,.none,n,E1 rs,c::cs,Stop,z9,zz⟩ (.code .ret::k) l p LL:=
 ⟨fun _ _ E=>xyg (ybf hf H (fun _ s=>yvz E s hv) rfl x) fun _ s=>s.rm i⟩
end
def O0(l:Env):List (Nat×Operand)->Option (List Prop×List (Nat×Value))
 |[]=>some ([],[])
 |(i,x)::xs=>match evS l x with
   |some (s,v)=>match O0 l xs with
     |some (ss,vs)=>some (s++ss,(i,v)::vs)
     |none=>none
   |none=>none
theorem xd4{l:Env}{tm:List Value}(E:B0 tm l):∀{xs:List (Nat×Operand)}{ss:List Prop}{vs:List (Nat×Value)},O0 l xs=some (ss,vs)->Bl ss->(xs.map fun(i,x)=>(i,evl tm x))=vs
 |[],ss,vs,h,_=>by cases h;rfl
 |(i,x)::xs,ss,vs,h,hs=>by
   unfold O0 at h;split at h
   ·rename_i s v e1;split at h
    ·rename_i ss' H e2;cases h;have a:=xfb hs;rw[List.map_cons,xd4 E e2 a.2];simp only[xdq E e1 a.1]
    ·cases h
   ·cases h
section
variable{X:Cx}{k:List Item}{m:Ks}{LF LL LR L3:List Pcs}{pos:String}
theorem yis{z:Value}{cells:List Value}{vs:List (Nat×Value)}(H:O0 l parts=some (ss,vs))(hs:Bn g (Bl ss))[hz:Bg X.P t z][hp:PlC X.P t pl](hf:Gl pl z.cells.toList vs=some cells:=by rfl):Yl X p LL l g (.build t parts.toArray) (.agg cells.toArray):=⟨rfl,(xjx hs fun hs _ _ _ E _=>xb2 hz.h hp.h (xd4 E H hs) (xbm hf))⟩
theorem xqc(Y Z:Pcs)[ii:Rm LL (Y++Z) LR](n:RO X k ops rest l p (Y::Z::LR)):RO X k ops rest l p LL:=xos n fun _ s=>by have:=s.rm ii;simpa using this
theorem xrz(Y Z:Pcs)[ii:Rm LL (Y++Z) LR](n:RE X k l p (Y::Z::LR)):RE X k l p LL:=xhk n fun _ s=>by have:=s.rm ii;simpa using this
end
theorem sdu{p:Prop}(h:p:=by
 first
  |exact sdt
  |exact fun h=>⟨h,trivial⟩
  |exact fun h=>⟨h,h,trivial⟩
  |exact fun h=>⟨h,h,h,trivial⟩
  |exact fun h=>⟨h,h,h,h,trivial⟩
  |exact fun h=>⟨h,h,h,h,h,trivial⟩
  |exact fun h=>⟨h,h,h,h,h,h,trivial⟩
  |exact fun h=>by simp_all[Bl]):p:=h
section
variable{X:Cx}{k:List Item}{m:Ks}{LF LL LR L3:List Pcs}{pos:String}
theorem yws(H:gdc ops l gd=some g)(O:evS l x=some (ss,w_ b off))(hs:Bn g (Bl ss))(M:p b=some (.cells cs T z))[ag:Cd X.P t true][sz:Ak X.P t nn](n:RO X k ops rest (ent d g (.agg ((cs.toList.drop off).take nn).toArray) l) p LL)
 (hn:((cs.toList.drop off).take nn).length=nn:=by rfl):RO X k ops (⟨d,.load t x,ty,pos,aft,gd⟩::rest) l p LL:=ro_y H (xud O hs (xgz (xzw M)) hn) n
theorem yg1(V:ops[i]?=some ⟨d,.load t x,ty,pos,aft,gd⟩)(H:gdc ops l gd=some g)(O:evS l x=some (ss,w_ b off))(hs:Bn g (Bl ss))(M:p b=some (.cells cs T z))[ag:Cd X.P t true][sz:Ak X.P t nn](n:DE X k ops m p LF effs todo (ent d g (.agg ((cs.toList.drop off).take nn).toArray) l) LL)
 (hn:((cs.toList.drop off).take nn).length=nn:=by rfl):DE X k ops m p LF effs (i::todo) l LL:=de_y V H (xud O hs (xgz (xzw M)) hn) n
end
theorem ax{Q K:Prop}(k:K)(h:Hid K->Q:=by
 intro k
 repeat (first
  |refine ro_y rfl (y_pv rfl sdt) ?_
  |refine ymh ?_
  |refine yrh ?_
  |refine xb6 ?_ rfl
  |refine ro_y rfl (y_ld rfl sdt) ?_
  |refine ro_y rfl (y_fb rfl sdt) ?_
  |refine ro_y rfl (y_fa rfl sdt) ?_
  |refine ro_y rfl (xdj rfl sdt (xgz (xp3 ‹_› rfl))) ?_
  |refine ro_y rfl (ypl rfl sdt) ?_
  |refine ro_y rfl (y_ia rfl rfl (by omega) (Sl.ne ‹_› (by omega))) ?_
  |refine ro_y rfl (y_lp rfl (Ax.get ‹_› (by omega))) ?_
  |refine ycj ?_
  |refine xg6 ?_
  |refine xgr ?_
  |refine ydn rfl ?_
  |refine ro_y rfl (ycx rfl sdt) ?_
  |refine ro_y rfl (xud rfl sdt (xgz (xzw ‹_›))) ?_
  |refine xdf rfl rfl ?_
  |refine ro_y rfl (y_fi rfl sdt) ?_
  |refine ro_y rfl (yes rfl rfl sdt sdt) ?_
  |refine ro_y rfl (yj3 rfl rfl sdt sdt) ?_
  |refine ro_y rfl (y_mf rfl rfl) ?_
  |refine ro_y rfl (ysl rfl) ?_
  |refine ro_y rfl (y_nc rfl sdt) ?_
  |refine ro_y rfl (xed rfl rfl (by decide) (by omega) (Sl.ne ‹_› (by omega))) ?_
  |refine ro_y rfl (yfs rfl rfl sdt sdt) ?_
  |refine ro_y rfl (yeb rfl rfl sdt sdt) ?_
  |refine ro_y rfl (ych rfl sdt) ?_
  |refine yws rfl rfl sdt ‹_› ?_
  |refine ro_y rfl (yis rfl sdu) ?_
  |refine ro_y rfl (xs8 rfl rfl sdu sdu (xgz ⟨by omega,Sl.ne ‹_› (by omega)⟩)) ?_
  |refine ro_y rfl (xdj rfl sdt (xgz (Ax.get ‹_› (by omega)))) ?_)
 exact k.out):Q:=h ⟨k⟩
theorem ex{Q K:Prop}(k:K)(h:Hid K->Q:=by
 intro k
 repeat (first
  |refine de_y rfl rfl (y_pv rfl sdt) ?_
  |refine yf1 ?_
  |refine de_y rfl rfl (y_ld rfl sdt) ?_
  |refine de_y rfl rfl (y_fb rfl sdt) ?_
  |refine de_y rfl rfl (y_fa rfl sdt) ?_
  |refine de_y rfl rfl (ypl rfl sdt) ?_
  |refine de_y rfl rfl (y_ia rfl rfl (by omega) (Sl.ne ‹_› (by omega))) ?_
  |refine de_y rfl rfl (y_lp rfl (Ax.get ‹_› (by omega))) ?_
  |refine de_y rfl rfl (ycx rfl sdt) ?_
  |refine de_y rfl rfl (y_fi rfl sdt) ?_
  |refine de_y rfl rfl (ysl rfl) ?_
  |refine de_y rfl rfl (y_mf rfl rfl) ?_
  |refine de_y rfl rfl (yes rfl rfl sdt sdt) ?_
  |refine de_y rfl rfl (y_nc rfl sdt) ?_
  |refine de_y rfl rfl (xed rfl rfl (by decide) (by omega) (Sl.ne ‹_› (by omega))) ?_
  |refine de_y rfl rfl (xdj rfl sdt (xgz (xp3 ‹_› rfl))) ?_
  |refine de_y rfl rfl (xud rfl sdt (xgz (xzw ‹_›))) ?_
  |refine de_y rfl rfl (yfs rfl rfl sdt sdt) ?_
  |refine de_y rfl rfl (ych rfl sdt) ?_
  |refine yg1 rfl rfl rfl sdt ‹_› ?_
  |refine de_y rfl rfl (yis rfl sdu) ?_
  |refine de_y rfl rfl (xs8 rfl rfl sdu sdu (xgz ⟨by omega,Sl.ne ‹_› (by omega)⟩)) ?_
  |refine de_y rfl rfl (xdj rfl sdt (xgz (Ax.get ‹_› (by omega)))) ?_
  |refine xbd rfl rfl rfl ?_)
 exact k.out):Q:=h ⟨k⟩
section
variable{X:Cx}{k:List Item}{m:Ks}{LF LL LR L3:List Pcs}{pos:String}
theorem ycr{z:Value}(ho:ops[i]?=some ⟨some dd,.makeSlice sT x y,ty,pos,aft,none⟩)(V:evS l x=some ([],.J ((n:Nat):Int)))(hy:evS l y=some ([],.J ((n:Nat):Int)))(hn:n<=1000)[hT:Ca X.P sT eT][hs:Ak X.P eT w][hz:Bg X.P eT z][hb:ByC X.P eT by']
 (nx:∀v Y,Aa eT w v (List.replicate n zc) Y->DE X k ops m p LF effs todo ((dd,none,v)::l) (Y::LL))(he:effs.contains i=true:=by rfl)(O:z.cells=zc.toArray:=by rfl)(M:zc.length=w:=by rfl)(hw:0<w/\w<=100:=by decide)(H:by'<=2^20:=by decide):DE X k ops m p LF effs (i::todo) l LL:=
 ⟨.eff (U:=[]) (LR:=LL) (Q:=fun v Y=>Aa eT w v (List.replicate n zc) Y) ho (by simpa using he) (List.Perm.refl _) (fun _ _ E=>⟨rfl,xoq rfl,fun C h s=>.inl (xex (xz7 (dd:=some dd) (ty:=ty) (pos:=pos) (aft:=aft) (gd:=none) hT.h hs.h hz.h O M hw.1 hw.2 hb.h (xdq E V trivial) (xdq E hy trivial) hn H s) fun _ _⟨v,e,z⟩=>⟨v,.inl e,z⟩)⟩) fun v Y o=>(nx v Y o).run⟩
theorem xdk(n:RO X k ops rest l' p LL)(s:Nd l l'):RO X k ops rest l p LL:=⟨fun ok tm H E=>n.run ok tm H (s.ok E)⟩
theorem xmq{d:Tmp}(h:(d,none,u)::l=ent (some d) none v l):v=u:=((yzv (g:=none) h).2).symm
theorem ytm(V:evS l x=some ([],.func (.func ff) first.toArray cap.toArray))(H:D4 l args=some ([],vs))
 (hc:∀h,St X.z9 X.zz p h LL.flatten->Ac X.P X.md ff (first++(vs++cap)).toArray h fun v' h'=>∃Y,Q v' Y/\New h h' Y)(n:∀v Y,Q v Y->RO X k ops rest (ent d none v l) p (Y::LL))(hf:Ao X.P ff=true:=by kernel_rfl):
 RO X k ops (⟨d,.call ⟨.value x,args.toArray,ats⟩,ty,pos,aft,none⟩::rest) l p LL:=⟨fun O tm M E=>
 xdv (R:=fun v h=>∃Y,Q v Y/\St X.z9 X.zz p h (Y++LL.flatten)) (xoq rfl) (xdq E V trivial) (by rw[xlx E H trivial]) hf (fun h s=>(hc h s).mono fun _ _⟨Y,q,nn⟩=>⟨Y,q,s.K4 nn⟩)
  fun v=>xgk fun Y=>xyx fun q=>(n v Y q).run (xfq O).1 _ (A0.trans M) (E.ent (g:=none) M (xfq O).2)⟩
theorem ylw(Y:Pcs)[ii:Rm LL Y LR](O:ops[i]?=some ⟨d,.call ⟨.value x,args.toArray,ats⟩,ty,pos,aft,none⟩)
 (M:evS l x=some ([],.func (.func ff) first.toArray cap.toArray))(H:D4 l args=some ([],vs))(hc:∀h L,St X.z9 X.zz p h (Y++L)->Ac X.P X.md ff (first++(vs++cap)).toArray h fun v' h'=>∃Z,Q v' Z/\New h h' Z)(n:∀v Z,Q v Z->DE X k ops m p LF effs todo (ent d none v l) (Z::LR))
 (he:effs.contains i=true:=by rfl)(hf:Ao X.P ff=true:=by kernel_rfl):DE X k ops m p LF effs (i::todo) l LL:=
 ⟨.eff (U:=Y) (LR:=LR) (Q:=Q) O (by simpa using he) ii.h (fun _ _ E=>⟨rfl,xoq rfl,fun C h s=>.inr <| .inl ⟨ff,_,xuw (xdq E M trivial) (by rw[xlx E H trivial]) hf,(hc h _ s).mono fun _ _⟨Z,q,nn⟩=>⟨Z,q,(s.K4 nn).sub (List.Sublist.append_left (List.sublist_append_right _ _) _)⟩⟩⟩) fun v Z q=>(n v Z q).run⟩
theorem xtv(H:PLe p₀ p)(n:RE X k l p₀ LL):RE X k l p LL:=xhk n fun _ s=>s.forget H
end
section
variable{X:Cx}{k:List Item}{LL:List Pcs}{pos:String}{a s:Nat}
theorem ytl(M:evS l x=some (ss,.int .u64 ((a:Nat):Int)))(O:evS l y=some (ss',.int .u64 ((b:Nat):Int)))(hs:Bn g (Bl ss))(H:Bn g (Bl ss'))(h:a<18446744073709551616/\b<18446744073709551616):Yl X p LL l g (.binOp .and T x y T') (.int .u64 ((a &&& b:Nat):Int)):=⟨rfl,(xnk hs H fun hs H _ _ _ E _=>xy7 (xdq E M hs) (xdq E O H) h.1 h.2)⟩
theorem xr8(M:evS l x=some (ss,.int k1 ((a:Nat):Int)))(O:evS l y=some (ss',.int k2 ((s:Nat):Int)))(hs:Bn g (Bl ss))(H:Bn g (Bl ss'))(h:s<=k1.bits):Yl X p LL l g (.binOp .shr T x y T') (.int k1 ((a / 2^s:Nat):Int)):=⟨rfl,(xnk hs H fun hs H _ _ _ E _=>xv7 (xdq E M hs) (xdq E O H) h)⟩
theorem yd3(H:evS l x=some ([],.int .u64 1))(M:evS l y=some ([],.int k2 ((s:Nat):Int)))(h:s<=63):Yl X p LL l none (.binOp .shl T x y T') (.int .u64 ((2^s:Nat):Int)):=⟨rfl,(fun _ _ _ E _=>ykf (xdq E H trivial) (xdq E M trivial) h)⟩
theorem yi3(H:evS l x=some ([],.int .u64 ((a:Nat):Int)))(M:evS l y=some ([],.int .u64 ((b:Nat):Int))):Yl X p LL l none (.binOp .mul T x y T') (.int .u64 ((a*b%18446744073709551616:Nat):Int)):=⟨rfl,(fun _ _ _ E _=>yqf (xdq E H trivial) (xdq E M trivial))⟩
theorem ycs(H:evS l x=some ([],.int .u64 ((a:Nat):Int)))(h:0<a/\a<18446744073709551616):Yl X p LL l none (.unOp .neg T x) (.int .u64 ((18446744073709551616-a:Nat):Int)):=⟨rfl,(fun _ _ _ E _=>ynf (xdq E H trivial) h.1 h.2)⟩
theorem yql{e:TypeId}{len:Nat}{c:Addr}(H:X.P.underlying t=some (.array len e))(M:evS l x=some ([],.pointer (some c)))(O:evS l y=some ([],.int k1 ((i:Nat):Int)))(h:i<len)[sz:Ak X.P e w]:Yl X p LL l none (.indexAddr t x y) (.pointer (some (c.add (i*w)))):=⟨rfl,(fun _ _ _ E _=>xfl H sz.h (xdq E M trivial) (xdq E O trivial) h)⟩
end
section
variable{X:Cx}{k:List Item}{LL LR:List Pcs}{pos:String}
theorem xff(v:Value)(V:gdc ops l gd=some (some false))(n:RO X k ops rest (ent d (some false) v l) p LL):RO X k ops (⟨d,op,ty,pos,aft,gd⟩::rest) l p LL:=by
 constructor;intro O tm M E;have H:=xfq O;rcases xgv (o:=⟨d,op,ty,pos,aft,gd⟩) E V with⟨e,_⟩|⟨c',e,hm⟩
 ·cases e
 ·cases e;exact xub hm rfl (n.run H.1 _ (A0.trans M) (E.ent (g:=some false) M H.2))
theorem xy0{vs:List (Nat×Value)}{z:Value}{cells:Array Value}(hg:gdc ops l gd=some (some true))(O:O0 l parts=some (ss,vs))(H:Bl ss)[hT:Ca X.P sT eT][hs:Ak X.P eT w][hz:Bg X.P eT z]
 (nx:∀v Y,Aa eT w v (chs w n cells.toList) Y->RO X k ops rest ((dd,none,v)::l) p (Y::LL))
 (hf:Instr.fill (fun i=>some (i*w,w)) ((List.range (n*w)).map (z.cells[· % z.cells.size]!)).toArray vs=some cells:=by rfl)(hc:cells=(chs w n cells.toList).flatten.toArray:=by rfl)(hw:((chs w n cells.toList).all fun e=>e.length==w)=true:=by rfl)
 (hn:(chs w n cells.toList).length=n:=by rfl)(M:n*w<=2^24:=by exact Nat.le_of_ble_eq_true rfl):RO X k ops (⟨some dd,.buildSlice sT n parts.toArray,ty,pos,aft,gd⟩::rest) l p LL:=by
 constructor;intro V tm ht E;rcases xgv (o:=⟨some dd,.buildSlice sT n parts.toArray,ty,pos,aft,gd⟩) E hg with⟨e,_⟩|⟨c',e,hm⟩
 ·cases e
 ·cases e;exact xc1 (A:=[]) (C:=LL.flatten) hm hT.h hs.h hz.h M (xd4 E O H) hf hc hw hn fun v Y o=>(nx v Y o).run (xfq V).1 _ (by simp[ht]) (E.set (g:=none) (ht ▸ xkw V rfl))
theorem yet(hg:gdc ops l gd=some (some true))
 (hx:evS l x=some (ss',.func (.func ff) first.toArray cap.toArray))(M:Bl ss')(O:D4 l args=some (ss,vs))(hs:Bl ss)(hc:∀h,St X.z9 X.zz p h LL.flatten->Ac X.P X.md ff (first++(vs++cap)).toArray h fun v' h'=>v'=v/\Av h h')(n:RO X k ops rest (ent d none v l) p LL)(hf:Ao X.P ff=true:=by kernel_rfl):
 RO X k ops (⟨d,.call ⟨.value x,args.toArray,ats⟩,ty,pos,aft,gd⟩::rest) l p LL:=by
 constructor;intro ok tm V E;have H:=xfq ok;rcases xgv (o:=⟨d,.call ⟨.value x,args.toArray,ats⟩,ty,pos,aft,gd⟩) E hg with⟨e,_⟩|⟨c',e,hm⟩
 ·cases e
 ·cases e;exact xz5 hm (xdq E hx M) (by rw[xlx E O hs]) hf hc rfl (n.run H.1 _ (A0.trans V) (E.ent (g:=none) V H.2))
theorem xa0{e:TypeId}{a:Option Addr}{c:Nat}(H:evS l x=some (ss,.slice a n c))(hs:Bn g (Bl ss))[f:Ca X.P T e]:Yl X p LL l g (.binOp .eql T x (.const (.slice none 0 0)) T') (.bool a.isNone):=⟨rfl,(xjx hs fun hs _ _ _ E _=>xz1 f.h (xdq E H hs))⟩
end
section
variable{X:Cx}{k:List Item}{LL LR L3:List Pcs}
theorem yej(J:Nat->List Pcs->Prop)(Jx:List Pcs->Prop)(hx:evS l fop=some ([],fv))(a6:Nm X.P X.md p fv xs)(start:J 0 LL)
 (round:∀(lo:Nat)(lp:Loop)(i:Nat)(LL':List Pcs)(p':Ab)(C:Pcs)(c:Frame)(cs:List Frame)(Stop:Goroutine->Heap->Prop),i<xs.length->PLe p p'->J i LL'->lp.state=.ready->
  (∀M H,J (i+1) H->RE ⟨X.P,X.md,X.f,.some lo,X.n,[],c::cs,Stop,X.z9,X.zz⟩ [] M p' ([(lo,.loop {lp with state:=.busy})]::C::H))->
  (∀k' M H,Jx H->RE ⟨X.P,X.md,X.f,.some lo,X.n,[],c::cs,Stop,X.z9,X.zz⟩ (.code .ret::k') M p' ([(lo,.loop {lp with state:=.busy})]::C::H))->
  RE ⟨X.P,X.md,X.f,.some lo,X.n,[],c::cs,Stop,X.z9,X.zz⟩ [.code assign,.beginRound,.code body] (Of params (xs.getD i []) l) p' ([(lo,.loop lp)]::C::LL'))
 (nx:∀(r:Nat)(LL':List Pcs),J xs.length LL'->RE {X with df:=mark r::X.df} k l p ([(r,.deferred (some []))]::LL'))
 (nr:∀(r:Nat)(LL':List Pcs),Jx LL'->RE {X with df:=mark r::X.df} (.code .ret::k) l p ([(r,.deferred (some []))]::LL'))
 (hr:X.r.round=none:=by rfl)(hlen:∀i,i<xs.length->(xs.getD i []).length=params.length)(a5:(params.all fun q=>decide (q<X.n))=true:=by rfl):RE X (.code (.rangeFunc fop params.toArray assign body)::k) l p LL:=by
 constructor;intro tm ht E;have a4:∀q∈params,q<tm.length:=fun q hq=>by have:=List.all_eq_true.1 a5 q hq;rw[ht];simpa using this
 refine xp7 (R:=fun r lo lp _ h'=>(lp=Fy X.f tm params.toArray assign body r/\ ∃LL',J xs.length LL'/\St X.z9 X.zz p h' ((lo,.loop lp)::(r,.deferred (some []))::LL'.flatten))\/
  (lp=Fy X.f tm params.toArray assign body r/\ ∃LL',Jx LL'/\St X.z9 X.zz p h' ((lo,.loop {lp with state:=.done,pending:=some .ret})::(r,.deferred (some []))::LL'.flatten))) (fun r lo lp h e s=>?_) (fun r lo lp v e=>?_) hr
 ·rw[xdq E hx trivial];refine(a6 h X.z9 X.zz p ((lo,.loop lp)::LL.flatten) [(r,.deferred (some []))] (.func (.yield lo) #[] #[]) (fun i Z=>∃LL',Z=(lo,.loop lp)::LL'.flatten/\J i LL') (fun Z=>∃LL',Z=(lo,.loop {lp with state:=.done,pending:=some .ret})::LL'.flatten/\Jx LL') (.refl p) ⟨LL,rfl,start⟩ (fun i hi a3 h' Z C le⟨LL',e2,O⟩s'=>?_) (s.perm (by simpa using(List.perm_append_singleton (r,Obj.deferred (some [])) LL.flatten).symm))).mono fun v h'⟨Z,q,s'⟩=>?_
  ·subst e2;refine xbp (tm':=(params.zip (xs.getD i [])).foldl (fun tm q=>tm.set q.1 q.2) tm) ((s'.own (lo,.loop lp) s_).1) e (hlen i hi) rfl (Φ:=fun h=>St X.z9 X.zz a3 h ([(lo,.loop lp)]::C::LL').flatten) (fun c cs Stop K=>?_) (s'.perm (by simpa using List.Perm.cons (lo,Obj.loop lp) (List.perm_append_comm (l₁:=LL'.flatten) (l₂:=C))));refine(round lo lp i LL' a3 C c cs Stop hi le O (by rw[e];rfl) (fun M H V=>?_) (fun k' M H V=>?_)).run _ (by rw[xs2];exact ht) (xt2 E a4)
   ·refine ydj (lp:={lp with state:=.busy}) fun h1 s1=>K _ _ ⟨_,.inl ⟨rfl,H,rfl,V⟩,s1.perm ?_⟩;have e3:({ {lp with state:=.busy}with state:=.ready,pending:=none}:Loop)=lp:=by rw[e];rfl
    rw[e3];simpa using List.Perm.cons (lo,Obj.loop lp) (List.perm_append_comm (l₁:=C) (l₂:=H.flatten))
   ·refine yzm (lp:={lp with state:=.busy}) fun h1 s1=>K _ _ ⟨_,.inr ⟨rfl,H,rfl,V⟩,s1.perm ?_⟩;simpa using List.Perm.cons (lo,Obj.loop {lp with state:=.done,pending:=some .ret}) (List.perm_append_comm (l₁:=C) (l₂:=H.flatten))
  ·rcases q with⟨LL',e2,O⟩|⟨LL',e2,O⟩
   ·subst e2;exact .inl ⟨e,LL',O,s'.perm s_⟩
   ·subst e2;exact .inr ⟨e,LL',O,s'.perm s_⟩
 ·intro h q;rcases q with⟨_,LL',O,s⟩|⟨_,LL',O,s⟩
  ·have a2:lp.state=.ready/\lp.pending=none:=by rw[e];exact⟨rfl,rfl⟩
   refine xrr (i:=0) (L:=(lo,.loop lp)::(r,.deferred (some []))::LL'.flatten) rfl (by rw[a2.1];exact fun z=>by cases z) a2.2 (xyg ((nx r LL' O).run tm ht E) fun h s=>?_) h s;have:=s.sub (List.sublist_cons_self _ _);simpa using this
  ·refine yeq (lp:={lp with state:=.done,pending:=some .ret}) (i:=0) (L:=(lo,.loop {lp with state:=.done,pending:=some .ret})::(r,.deferred (some []))::LL'.flatten) rfl (fun z=>by cases z) rfl (xyg ((nr r LL' O).run tm ht E) fun h s=>?_) h s;have:=s.sub (List.sublist_cons_self _ _);simpa using this
end
theorem xxr{H old:Nat}{e:TypeId}{K:Nat->Heap->Prop}(x:∀c,H<=c->K c h):wpS P (choose (.appendCap H old e)) h K:=by
 simp only[choose,wpS,Question.forced,Bool.false_eq_true,if_false,Question.cut];exact fun t=>x _ om
theorem xvj(l:List UInt8):(bcs l).flatten=l.map fun b=>Value.int .u8 ((b.toNat:Nat):Int):=by
 induction l with
 |nil=>rfl
 |cons a l ih=>simp only[bcs]at ih⊢;simp[ih]
section
variable{r:Rd}{k:List Item}{cs:List Frame}{Stop:Goroutine->Heap->Prop}{L:Pcs}{pos:String}
theorem yuz{e:TypeId}{l:List UInt8}(hm:Met ops tm ⟨some dd,.convert src dst x,ty,pos,aft,gd⟩ true)(hs:P.underlying src=some .string)(hd:P.underlying dst=some (.slice e))(he:P.underlying e=some (.int .u8))(hx:evl tm x=sv l)(h0:0<l.length)
 (n:∀b cap H z,((bcs l).flatten++H).length=cap->RL P md f r df k cs Stop ops rest (tm.set dd (.slice (some ⟨b,0,none⟩) l.length cap)) (fun h=>St z9 zz p h ((b,.cells ((bcs l).flatten++H).toArray e z)::L))):
 RL P md f r df k cs Stop ops (⟨some dd,.convert src dst x,ty,pos,aft,gd⟩::rest) tm (fun h=>St z9 zz p h L):=by
 refine xrj (K:=fun v h=>∃b cap H z,((bcs l).flatten++H).length=cap/\v=.slice (some ⟨b,0,none⟩) l.length cap/\St z9 zz p h ((b,.cells ((bcs l).flatten++H).toArray e z)::L)) hm rfl (fun h s=>?_)
  fun v=>xgk fun b=>xgk fun cap=>xgk fun H=>xgk fun z=>xyx fun h1=>xyx fun h2=>by subst h2;exact n b cap H z h1
 unfold Ex;simp only[execOp,hx,sv];refine xaq ?_;unfold convert;refine xaq (xcq hs ?_);refine xaq (xcq hd ?_);simp only;refine xaq (xcq he ?_);simp only[Conv.stringToBytes];refine xaq (xxr fun cap V=>?_);rw[xdw]at V;have ec:(bs l).data.map (fun b=>Value.int .u8 ((b.toNat:Nat):Int))++Array.replicate (cap-(bs l).size) (Value.int .u8 0)=((bcs l).flatten++List.replicate (cap-l.length) (Value.int .u8 0)).toArray:=by
  apply Array.ext';rw[xvj,xdw];simp[bs]
 rw[ec];have el:((bcs l).flatten++List.replicate (cap-l.length) (Value.int .u8 0)).length=cap:=by
  rw[xvj,List.length_append,List.length_map,List.length_replicate];omega
 generalize a2:(bcs l).flatten++List.replicate (cap-l.length) (Value.int .u8 0)=cs at el⊢;refine xaq (xtz ?_);have M:(h.push (.cells cs.toArray e))[h.size]?=some (.cells cs.toArray e (0,0)):=by simp
 have O:0<cs.toArray.size:=by simp only[List.size_toArray];omega
 refine xaq ?_;unfold markStringish;refine xaq ?_;simp only[shape,wpS,M];refine⟨O,?_⟩;simp only[freeze,wpS];refine⟨⟨_,_,_,M,O,?_⟩,?_⟩
 ·intro z;have:=(Prod.mk.inj z).2;omega
 refine⟨_,rfl,h.size,cap,List.replicate (cap-l.length) (Value.int .u8 0),(cap,cap+1),by rw[a2];exact el,by rw[xdw],?_⟩;rw[a2];have nw:New h (B6 (h.push (.cells cs.toArray e)) ⟨h.size,cs.toArray.size,none⟩ 1) [(h.size,.cells cs.toArray e (cap,cap+1))]:=by
  refine⟨⟨by simp[B6],fun b hb=>?_⟩,fun x hx=>?_,s_⟩
  ·simp only[B6];rw[if_neg d_,Array.getElem?_modify,if_neg om,Array.getElem?_push,if_neg om]
  ·rw[List.mem_singleton.1 hx];refine⟨?_,Nat.le_refl _⟩;simp only[B6];rw[if_neg d_,Array.getElem?_modify,if_pos rfl,M];simp[el]
 exact s.K4 nw
end
section
variable{X:Cx}{k:List Item}{m:Ks}{LF LL LR L3:List Pcs}{pos:String}{a:List UInt8}
theorem yft{e:TypeId}(hx:evS l x=some ([],sv a))(h0:0<a.length)(hs:X.P.underlying src=some .string)[hd:Ca X.P dst e](he:X.P.underlying e=some (.int .u8))
 (n:∀p' c cap,PG X.z9.size X.zz p p'->Lu p' c a.length a->a.length<=cap->RO X k ops rest ((dd,none,.slice c a.length cap)::l) p' LL):RO X k ops (⟨some dd,.convert src dst x,ty,pos,aft,none⟩::rest) l p LL:=⟨fun ok tm ht E=>
 yuz (xoq rfl) hs hd.h he (xdq E hx trivial) h0 fun b cap M z H=>fun O e1 h s=>by
  have hw:∀e∈bcs a,e.length=1:=fun e he=>by
   obtain⟨x,_,rfl⟩:=List.mem_map.1 he;rfl
  have V:=xjq hw;refine(n _ (some ⟨b,0,none⟩) cap (s.pg s_) ⟨by simp[bcs],hw,fun _=>rfl,fun i e' hi j x hj=>?_⟩ (by rw[<- H,List.length_append,V,xfk];omega)).run (xfq ok).1 _ (by simp[ht]) (E.set (g:=none) (ht ▸ xkw ok rfl)) O e1 h s.last.2;show Aw _ (((⟨b,0,none⟩:Addr).add (i*1)).add j)=_;rw[xox,xox];unfold Aw;simp only[xyk,Option.isSome_none,Bool.false_eq_true,if_false,List.getElem?_toArray,Nat.zero_add];have:=xlj hw hi hj;rw[List.getElem?_append_left (List.getElem?_eq_some_iff.1 this).1];exact this⟩
theorem yjq{L:Pcs}{e:TypeId}{q c:Nat}(s:St z9 zz p h L)(V:L[q]?=some (b,.cells cs T z))(hs:P.underlying src=some (.slice e))(H:P.underlying dst=some .string)(he:P.underlying e=some (.int .u8))(M:evl tm x=.slice (some ⟨b,off,none⟩) a.length c)
 (hc:∀j v,(bcs a).flatten[j]?=some v->cs[off+j]?=some v):Exd P tm ⟨d,.convert src dst x,ty,pos,aft,gd⟩ h (sv a):=by
 refine xbj (s:=convert src dst (.slice (some ⟨b,off,none⟩) a.length c)) (by simp only[execOp,M]) ?_;unfold convert;refine xaq (xcq hs ?_);refine xaq (xcq H ?_);simp only;refine xaq (xcq he ?_);simp only[Conv.bytesToString];refine xaq (xmz (vs:=(bcs a).flatten) (by rw[xvj];simp) (fun j u O=>?_) ?_)
 ·rw[xox];exact s.Fs V (hc j u O)
 ·rw[xvj];simp only[List.forIn_toArray];refine xaq ?_;exact xth (fun n r K k=>xbq k) a [] _ (xbq ⟨rfl,rfl⟩)
theorem xg3{e:TypeId}{c:Nat}(M:evS l x=some ([],.slice (some ⟨b,off,none⟩) a.length c))(hc:∀j v,(bcs a).flatten[j]?=some v->cs[off+j]?=some v)[hs:Ca X.P src e][ii:Bx LL b (.cells cs T z) LR](n:RO X k ops rest (ent d none (sv a) l) p LL)
 (H:X.P.underlying dst=some .string:=by kernel_rfl)(he:X.P.underlying e=some (.int .u8):=by kernel_rfl):RO X k ops (⟨d,.convert src dst x,ty,pos,aft,none⟩::rest) l p LL:=
 xtb (g:=none) rfl rfl (fun _ _ E s=>yjq (q:=0) (s.bx ii) rfl hs.h H he (xdq E M trivial) hc) n
theorem xxh{c:Int}{u:Nat}(b:Nat)(H:evS l x=some ([],.int k1 ((u:Nat):Int)))(M:evS l y=some ([],.int k1 c))(hc:c=((b:Nat):Int))(O:0<b)(hw:k1.wrap ((u / b:Nat):Int)=((u / b:Nat):Int))(n:RO X k ops rest (ent d none (.int k1 ((u / b:Nat):Int)) l) p LL):
 RO X k ops (⟨d,.binOp .quo T x y T',ty,pos,aft,none⟩::rest) l p LL:=by
 subst hc;refine xtb (g:=none) rfl rfl (fun _ _ E _=>yfp (xdq E H trivial) (xdq E M trivial) om ?_) n;rw[show((u:Nat):Int).tdiv ((b:Nat):Int)=((u / b:Nat):Int) from rfl];exact hw
theorem xwh{c:Int}{u:Nat}(b:Nat)(H:evS l x=some ([],.int k1 ((u:Nat):Int)))(M:evS l y=some ([],.int k1 c))(hc:c=((b:Nat):Int))(O:0<b)(n:RO X k ops rest (ent d none (.int k1 ((u%b:Nat):Int)) l) p LL):
 RO X k ops (⟨d,.binOp .rem T x y T',ty,pos,aft,none⟩::rest) l p LL:=by
 subst hc;exact xtb (g:=none) rfl rfl (fun _ _ E _=>yep (xdq E H trivial) (xdq E M trivial) om rfl) n
theorem xu2{z:Int}(w:Int)(M:evS l x=some ([],.int k1 z))(hn:k'.wrap z=w)(H:X.P.underlying dst=some (.int k'):=by kernel_rfl)(hs:∃t,X.P.underlying src=some t:=by exact⟨_,by kernel_rfl⟩):Yl X p LL l none (.convert src dst x) (.int k' w):=⟨rfl,(fun _ _ _ E _=>xx7 hs H (xdq E M trivial) hn)⟩
theorem ysv{e:Array Value -> Sem Value}(hf : P.funcs[gf]? = some fn)(hname : (fn.name == "runtime.NumGoroutine") = false)(hb : fn.body.isNone = true)(hn : Extern.findNext fn = none)(he : Extern.find fn = some e)
 (hx:evl tm x=.func (.func gf) #[] #[])(hvs:args.map (evl tm)=vs)(hv:wpS P (e vs.toArray) h fun v' h'=>v'=v/\h'=h):Exd P tm ⟨d,.call ⟨.value x,args.toArray,ats⟩,ty,pos,aft,gd⟩ h v:=by
 unfold Exd Ex;simp only[execOp];refine xaq ?_;unfold resolve;simp only[hx,Deferred.ofValue];refine xbq ?_;simp only[invoke];unfold callFunc;refine xaq ?_;show wpS P program h _;simp only[program,wpS];rw[hf];simp only[hname,hb,Bool.false_eq_true,if_false,if_true];refine xaq ?_;refine⟨rfl,?_⟩;simp only[wpS,hn,he];refine xaq (xex (K:=fun v' h'=>v'=v/\h'=h) ?_ fun v' h'⟨e1,e2⟩=>xbq ⟨v',rfl,e1,e2⟩);have ea:((#[]:Array Value)++args.toArray.map (evl tm)++#[])=vs.toArray:=by rw[<- hvs];simp
 rw[ea];exact hv
theorem yrl{e:Array Value -> Sem Value}(hf : X.P.funcs[gf]? = some fn)(he : Extern.find fn = some e)(hx : evS l x = some ([], .func (.func gf) #[] #[]))(hvs : D4 l args = some ([], vs))(hv : ∀h, wpS X.P (e vs.toArray) h fun v' h' => v' = v /\ h' = h)(hname : (fn.name == "runtime.NumGoroutine") = false := by kernel_rfl)(hb : fn.body.isNone = true := by kernel_rfl)(hn : Extern.findNext fn = none := by kernel_rfl): Yl X p LL l none (.call ⟨.value x, args.toArray, ats⟩) v := ⟨rfl, (fun _ h' _ E _ => ysv hf hname hb hn he (xdq E hx trivial) (xlx E hvs trivial) (hv h'))⟩
def M6:TypeDesc->Bool
 |.interface _=>true
 |_=>false
theorem yu0(H:P.underlying T=some D)(O:M6 D=false)(M:evl tm x=v):Exd P tm ⟨d,.makeInterface T x,ty,pos,aft,gd⟩ h (.iface T v):=by
 refine xbj (s:=Instr.makeInterface T v) (by simp only[execOp,M]) ?_;unfold Instr.makeInterface;refine xaq (xcq H ?_);split
 ·cases O
 ·exact xbq ⟨rfl,rfl⟩
theorem y_mi(H:evS l x=some (ss,v))(hs:Bn g (Bl ss))(M:X.P.underlying T=some D)(O:M6 D=false:=by rfl):Yl X p LL l g (.makeInterface T x) (.iface T v):=⟨rfl,(xjx hs fun hs _ _ _ E _=>yu0 M O (xdq E H hs))⟩
end
section
variable{L:Pcs}{pos:String}
def Fk:Value->Bool
 |.nilIface=>true
 |_=>false
theorem yzf(M:P.underlying T=some (.interface ms))(H:evl tm x=v)(hv:v=.nilIface\/ ∃t u,v=.iface t u):Exd P tm ⟨d,.binOp .eql T x (.const .nilIface) T',ty,pos,aft,gd⟩ h (.bool (Fk v)):=by
 refine xrx H rfl (fun K z=>?_) ?_
 ·unfold eqGuard;rw[if_neg d_];rcases hv with rfl|⟨t,u,rfl⟩
  ·simp only[evl,Bool.or_true,if_true];exact xbq z
  ·exact xbq z
 ·simp only[evl];have e:binOp .eql T v .nilIface=(do pure (.bool (<- Op.equal T v .nilIface))):=by rcases hv with rfl|⟨t,u,rfl⟩<;>rfl
  rw[e];simp only[Op.equal,Op.maxDepth];refine xaq ?_;rw[show(10000:Nat)=9999+1 from rfl];unfold Op.equalIn;refine xaq (xcq M ?_);rcases hv with rfl|⟨t,u,rfl⟩<;>exact xbq (xbq ⟨rfl,rfl⟩)
theorem ypf(M:P.underlying T=some (.interface ms))(H:evl tm x=v)(hv:v=.nilIface\/ ∃t u,v=.iface t u):Exd P tm ⟨d,.binOp .neq T x (.const .nilIface) T',ty,pos,aft,gd⟩ h (.bool (!Fk v)):=by
 refine xrx H rfl (fun K z=>?_) ?_
 ·unfold eqGuard;rw[if_neg d_];rcases hv with rfl|⟨t,u,rfl⟩
  ·simp only[evl,Bool.or_true,if_true];exact xbq z
  ·exact xbq z
 ·simp only[evl];have e:binOp .neq T v .nilIface=(do pure (.bool (!(<- Op.equal T v .nilIface)))):=by rcases hv with rfl|⟨t,u,rfl⟩<;>rfl
  rw[e];simp only[Op.equal,Op.maxDepth];refine xaq ?_;rw[show(10000:Nat)=9999+1 from rfl];unfold Op.equalIn;refine xaq (xcq M ?_);rcases hv with rfl|⟨t,u,rfl⟩<;>exact xbq (xbq ⟨rfl,rfl⟩)
theorem xrp{k:IntKind}{a b:Int}(H:P.underlying T=some (.interface ms))(hi:(P.info? te).map TypeInfo.comparable=some true)(he:P.underlying te=some (.int k)):
 wpS P (Op.equal T (.iface te (.int k a)) (.iface te (.int k b))) h fun v h'=>v=decide (a=b)/\h'=h:=by
 obtain⟨M,hi,hc⟩:=Option.map_eq_some_iff.1 hi;simp only[Op.equal,Op.maxDepth];rw[show(10000:Nat)=9998+1+1 from rfl];unfold Op.equalIn;refine xaq (xcq H ?_);simp only[ne_eq,not_true_eq_false,if_false];refine xaq (xkx hi ?_);simp only[hc,Bool.not_true,Bool.false_eq_true,if_false];unfold Op.equalIn;refine xaq (xcq he ?_);simp only[if_true];exact xbq ⟨Pj a b,rfl⟩
theorem yyf{k:IntKind}{a b:Int}(M:P.underlying T=some (.interface ms))(hi:(P.info? te).map TypeInfo.comparable=some true)(he:P.underlying te=some (.int k))(H:evl tm x=.iface te (.int k a))(O:evl tm y=.iface te (.int k b)):
 Exd P tm ⟨d,.binOp .eql T x y T',ty,pos,aft,gd⟩ h (.bool (decide (a=b))):=by
 refine xrx H O (fun K z=>?_) ?_
 ·unfold eqGuard;rw[if_neg d_];exact xbq z
 ·show wpS P (do pure (Value.bool (<- Op.equal T (.iface te (.int k a)) (.iface te (.int k b))))) h _;exact xaq (xex (xrp M hi he) fun v h'⟨e1,e2⟩=>xbq ⟨by rw[e1],e2⟩)
theorem yof{k:IntKind}{a b:Int}(M:P.underlying T=some (.interface ms))(hi:(P.info? te).map TypeInfo.comparable=some true)(he:P.underlying te=some (.int k))(H:evl tm x=.iface te (.int k a))(O:evl tm y=.iface te (.int k b)):
 Exd P tm ⟨d,.binOp .neq T x y T',ty,pos,aft,gd⟩ h (.bool (!decide (a=b))):=by
 refine xrx H O (fun K z=>?_) ?_
 ·unfold eqGuard;rw[if_neg d_];exact xbq z
 ·show wpS P (do pure (Value.bool (!(<- Op.equal T (.iface te (.int k a)) (.iface te (.int k b)))))) h _;exact xaq (xex (xrp M hi he) fun v h'⟨e1,e2⟩=>xbq ⟨by rw[e1],e2⟩)
def Ha:Value->Bool
 |.nilFunc=>true
 |_=>false
theorem yrp{F1 F2 F3}(M:P.underlying T=some (.func F1 F2 F3))(H:evl tm x=v)(hv:v=.nilFunc\/ ∃f a b,v=.func f a b):Exd P tm ⟨d,.binOp .eql T x (.const .nilFunc) T',ty,pos,aft,gd⟩ h (.bool (Ha v)):=by
 refine xrx H rfl (fun K z=>?_) ?_
 ·unfold eqGuard;rw[if_neg d_];rcases hv with rfl|⟨f,a,b,rfl⟩<;>exact xbq z
 ·simp only[evl];have e:binOp .eql T v .nilFunc=(do pure (.bool (<- Op.equal T v .nilFunc))):=by rcases hv with rfl|⟨f,a,b,rfl⟩<;>rfl
  rw[e];simp only[Op.equal,Op.maxDepth];refine xaq ?_;rw[show(10000:Nat)=9999+1 from rfl];unfold Op.equalIn;refine xaq (xcq M ?_);rcases hv with rfl|⟨f,a,b,rfl⟩<;>exact xbq (xbq ⟨rfl,rfl⟩)
theorem yjp{F1 F2 F3}(M:P.underlying T=some (.func F1 F2 F3))(H:evl tm x=v)(hv:v=.nilFunc\/ ∃f a b,v=.func f a b):Exd P tm ⟨d,.binOp .neq T x (.const .nilFunc) T',ty,pos,aft,gd⟩ h (.bool (!Ha v)):=by
 refine xrx H rfl (fun K z=>?_) ?_
 ·unfold eqGuard;rw[if_neg d_];rcases hv with rfl|⟨f,a,b,rfl⟩<;>exact xbq z
 ·simp only[evl];have e:binOp .neq T v .nilFunc=(do pure (.bool (!(<- Op.equal T v .nilFunc)))):=by rcases hv with rfl|⟨f,a,b,rfl⟩<;>rfl
  rw[e];simp only[Op.equal,Op.maxDepth];refine xaq ?_;rw[show(10000:Nat)=9999+1 from rfl];unfold Op.equalIn;refine xaq (xcq M ?_);rcases hv with rfl|⟨f,a,b,rfl⟩<;>exact xbq (xbq ⟨rfl,rfl⟩)
theorem ylf{a:Nat}(O:evl tm x=.int .u8 ((a:Nat):Int))(V:evl tm y=.int .u8 ((b:Nat):Int))(M:a<256)(H:b<256):Exd P tm ⟨d,.binOp .or T x y T',ty,pos,aft,gd⟩ h (.int .u8 ((a ||| b:Nat):Int)):=
 xrx O V (fun K z=>xdx rfl z) (by
  simp only[binOp,ne_eq,not_true_eq_false,if_false,Op.intBits];refine xbq ⟨?_,rfl⟩;have e:((BitVec.ofInt IntKind.u8.bits ((a:Nat):Int)) ||| (BitVec.ofInt IntKind.u8.bits ((b:Nat):Int))).toNat=a ||| b:=by
   rw[BitVec.toNat_or,BitVec.ofInt_natCast,BitVec.ofInt_natCast,BitVec.toNat_ofNat,BitVec.toNat_ofNat,Nat.mod_eq_of_lt (show a<2^IntKind.u8.bits from M),Nat.mod_eq_of_lt (show b<2^IntKind.u8.bits from H)]
  have lt:a ||| b<2^8:=Nat.or_lt_two_pow M H;rw[e,wr8 ⟨om,om⟩])
theorem yjf{k:IntKind}{a w:Int}{s:Nat}(H:evl tm x=.int k a)(M:evl tm y=.int k' ((s:Nat):Int))(hn:k.wrap (a*2^min s k.bits)=w):Exd P tm ⟨d,.binOp .shl T x y T',ty,pos,aft,gd⟩ h (.int k w):=
 xrx H M (fun K z=>xdx rfl z) (by
  simp only[binOp,Op.shift];rw[if_neg om];exact xbq ⟨by rw[Int.toNat_natCast,hn],rfl⟩)
theorem St.frz{i b n:Nat}{c:Array Value}{e:TypeId}(s:St z9 zz p h L)(H:L[i]?=some (b,.cells c e (0,0)))(hn:0<n):St z9 zz p (B6 h ⟨b,0,none⟩ n) (L.set i (b,.cells c e (0,n))):=by
 have M:=s.at H;refine s.Ow H ?_ ?_ fun c hc=>?_
 ·unfold B6;rw[if_neg om,Array.getElem?_modify,if_pos rfl,M];simp
 ·unfold B6;rw[if_neg om];simp
 ·unfold B6;rw[if_neg om,Array.getElem?_modify,if_neg (Ne.symm hc)]
theorem xvd:∀(l:List UInt8)(a:Addr)(acc:List UInt8){K:ByteArray->Heap->Prop},(∀j v,(bcs l).flatten[j]?=some v->cell? h (a.add j)=some v)->K (bs (acc++l)) h->wpS P (loadBytes a (bs acc) l.length) h K
 |[],a,acc,K,_,k=>by rw[List.append_nil]at k;exact xbq k
 |b::l,a,acc,K,hc,k=>by
   have H:=hc 0 (.int .u8 ((b.toNat:Nat):Int)) rfl;have O:a.add 0=a:=by unfold Addr.add;cases a with|mk bl o sp=>cases sp<;>rfl
   rw[O]at H;rw[List.length_cons];unfold loadBytes;refine xaq ⟨rfl,_,H,?_⟩;have e:(bs acc).push (((b.toNat:Nat):Int)).toNat.toUInt8=bs (acc++[b]):=by
    apply ByteArray.ext;simp[bs]
   simp only[wpS,e];refine xvd l (a.add 1) (acc++[b]) (fun j v M=>?_) (by rw[List.append_assoc];exact k);have e1:(a.add 1).add j=a.add (j+1):=by
    cases a with|mk bl o sp=>cases sp<;>simp[Addr.add,Nat.add_comm,Nat.add_left_comm]
   rw[e1];exact hc (j+1) v M
theorem ys0{e:TypeId}{l:List UInt8}(s:St z9 zz p h L)(hL:L[i]?=some (b,.cells cs e (0,0)))(hp:P.underlying pt=some (.pointer e))(hc1:P.cellsOf e=1)(h0:0<l.length)(hl:l.length<=1000000)
 (hx:evl tm x=w_ b 0)(hy:evl tm y=.J ((l.length:Nat):Int))(hcs:∀(j:Nat)(v:Value),(bcs l).flatten[j]?=some v->cs[j]?=some v)(n:∀h',St z9 zz p h' (L.set i (b,.cells cs e (0,l.length)))->K (sv l) h'):
 Ex P tm ⟨d,.call ⟨.builtin .unsafeString,#[x,y],#[pt,t2]⟩,ty,pos,aft,gd⟩ h K:=by
 have hlen:(bcs l).flatten.length=l.length:=by rw[xvj];simp
 have hsz:l.length<=cs.size:=by
  have:=hcs (l.length-1) ((bcs l).flatten[l.length-1]'om) (List.getElem?_eq_getElem om);have:=(Array.getElem?_eq_some_iff.1 this).1;omega
 have hb:=s.at hL;unfold Ex;simp only[execOp,resolve];refine xaq (xbq ?_);simp only[invoke,builtin];refine xaq ?_;have ea:(#[x,y]:Array Operand).map (evl tm)=#[w_ b 0,.J ((l.length:Nat):Int)]:=by simp[hx,hy]
 rw[ea];show wpS P (do
  let n <- asInt (.J ((l.length:Nat):Int))
  let some pt := (#[pt, t2] : Array TypeId)[0]? | stuck "unsafe.String: no argument types"
  if n < 0 then runtimePanic (.error "unsafe.String: len out of range")
  if n > IntKind.i64.max then unsupported (.unsafePointer "String: a length above the largest int")
  if n=0 then pure (Value.string .empty)
  else if <- variablesAt ⟨b,0,none⟩ (<- elemOf pt) n.toNat then do
   let s <- loadBytes ⟨b,0,none⟩ .empty n.toNat
   freeze ⟨b,0,none⟩ n.toNat
   pure (Value.string s)
  else unsupported (.unsafePointer "String: not so many bytes at ptr")) h _
 refine xaq (xbq ?_);simp only[List.getElem?_toArray,List.getElem?_cons_zero];rw[if_neg (show ¬ ((l.length:Nat):Int)<0 by omega)];rw[if_neg (show ¬ ((l.length:Nat):Int)>IntKind.i64.max by show ¬ ((l.length:Nat):Int)>9223372036854775807;omega)];rw[if_neg (show ¬ ((l.length:Nat):Int)=0 by omega),Int.toNat_natCast];refine xaq ?_;unfold elemOf;refine xaq (xcq hp (xbq ?_));unfold variablesAt;refine xaq ?_;refine xaq ?_;show wpS P program h _;simp only[program,wpS];refine xaq ?_;simp only[shape,wpS,hb];refine⟨om,?_⟩;rw[Lib.liesAt_bytes hc1 _ _ (by rw[hc1,Nat.div_one];exact hsz)];refine xbq ?_;simp only[if_true];refine xaq ?_;have eb:ByteArray.empty=bs []:=rfl;rw[eb];refine xvd l _ [] (fun j v hj=>?_) ?_
 ·rw[xox,Nat.zero_add];exact s.Fs hL (hcs j v hj)
 refine xaq ?_;simp only[freeze,wpS];refine⟨⟨_,_,_,hb,om,fun z=>?_⟩,?_⟩
 ·have:=(Prod.mk.inj z).2;omega
 exact⟨_,rfl,n _ (s.frz hL h0)⟩
end
section
variable{X:Cx}{k:List Item}{LL LR:List Pcs}{pos:String}{a:List UInt8}
theorem ygs(H:evS l x=some (ss,v))(hs:Bn g (Bl ss))(hv:v=.nilIface\/ ∃t u,v=.iface t u)(M:X.P.underlying T=some (.interface ms)):Yl X p LL l g (.binOp .eql T x (.const .nilIface) T') (.bool (Fk v)):=⟨rfl,(xjx hs fun hs _ _ _ E _=>yzf M (xdq E H hs) hv)⟩
theorem yax(H:evS l x=some (ss,v))(hs:Bn g (Bl ss))(hv:v=.nilIface\/ ∃t u,v=.iface t u)(M:X.P.underlying T=some (.interface ms)):Yl X p LL l g (.binOp .neq T x (.const .nilIface) T') (.bool (!Fk v)):=⟨rfl,(xjx hs fun hs _ _ _ E _=>ypf M (xdq E H hs) hv)⟩
theorem yeh{b c:Int}(M:evS l x=some (ss,.iface te (.int k1 b)))(V:evS l y=some (ss',.iface te (.int k1 c)))(hs:Bn g (Bl ss))(H:Bn g (Bl ss'))(O:X.P.underlying T=some (.interface ms))(hi:(X.P.info? te).map TypeInfo.comparable=some true)(he:X.P.underlying te=some (.int k1)):Yl X p LL l g (.binOp .eql T x y T') (.bool (decide (b=c))):=⟨rfl,(xnk hs H fun hs H _ _ _ E _=>yyf O hi he (xdq E M hs) (xdq E V H))⟩
theorem yds{b c:Int}(M:evS l x=some (ss,.iface te (.int k1 b)))(V:evS l y=some (ss',.iface te (.int k1 c)))(hs:Bn g (Bl ss))(H:Bn g (Bl ss'))(O:X.P.underlying T=some (.interface ms))(hi:(X.P.info? te).map TypeInfo.comparable=some true)(he:X.P.underlying te=some (.int k1)):Yl X p LL l g (.binOp .neq T x y T') (.bool (!decide (b=c))):=⟨rfl,(xnk hs H fun hs H _ _ _ E _=>yof O hi he (xdq E M hs) (xdq E V H))⟩
theorem yhs{F1 F2 F3}(H:evS l x=some (ss,v))(hs:Bn g (Bl ss))(hv:v=.nilFunc\/ ∃f a b,v=.func f a b)(M:X.P.underlying T=some (.func F1 F2 F3)):Yl X p LL l g (.binOp .eql T x (.const .nilFunc) T') (.bool (Ha v)):=⟨rfl,(xjx hs fun hs _ _ _ E _=>yrp M (xdq E H hs) hv)⟩
theorem yg3{F1 F2 F3}(H:evS l x=some (ss,v))(hs:Bn g (Bl ss))(hv:v=.nilFunc\/ ∃f a b,v=.func f a b)(M:X.P.underlying T=some (.func F1 F2 F3)):Yl X p LL l g (.binOp .neq T x (.const .nilFunc) T') (.bool (!Ha v)):=⟨rfl,(xjx hs fun hs _ _ _ E _=>yjp M (xdq E H hs) hv)⟩
theorem yl3{a b:Int}(w:Int)(H:evS l x=some ([],.int k1 a))(M:evS l y=some ([],.int k1 b))(hn:k1.wrap (a+b)=w):Yl X p LL l none (.binOp .add T x y T') (.int k1 w):=⟨rfl,(fun _ _ _ E _=>yuv (xdq E H trivial) (xdq E M trivial) hn)⟩
theorem yzr{a b:Int}(w:Int)(H:evS l x=some ([],.int k1 a))(M:evS l y=some ([],.int k1 b))(hn:k1.wrap (a-b)=w):Yl X p LL l none (.binOp .sub T x y T') (.int k1 w):=⟨rfl,(fun _ _ _ E _=>ymv (xdq E H trivial) (xdq E M trivial) hn)⟩
theorem ydb{a:Int}(w:Int)(H:evS l x=some ([],.int k1 a))(hn:k1.wrap (0-a)=w):Yl X p LL l none (.unOp .neg T x) (.int k1 w):=⟨rfl,(fun _ _ _ E _=>xb4 (xdq E H trivial) hn)⟩
theorem yas{a w:Int}{s:Nat}(H:evS l x=some ([],.int k1 a))(M:evS l y=some ([],.int k2 ((s:Nat):Int)))(hn:k1.wrap (a*2^min s k1.bits)=w):Yl X p LL l none (.binOp .shl T x y T') (.int k1 w):=⟨rfl,(fun _ _ _ E _=>yjf (xdq E H trivial) (xdq E M trivial) hn)⟩
theorem ye3{a:Nat}(M:evS l x=some ([],.int .u8 ((a:Nat):Int)))(O:evS l y=some ([],.int .u8 ((b:Nat):Int)))(V:a<256)(H:b<256):Yl X p LL l none (.binOp .or T x y T') (.int .u8 ((a ||| b:Nat):Int)):=⟨rfl,(fun _ _ _ E _=>ylf (xdq E M trivial) (xdq E O trivial) V H)⟩
theorem xzg{Q:Value->Prop}(V:evS l x=some ([],.func (.func ff) first.toArray cap.toArray))(H:D4 l args=some ([],vs))
 (hc:∀h,Per p h->Ac X.P X.md ff (first++(vs++cap)).toArray h fun v' h'=>Q v'/\Av h h')(n:∀v,Q v->RO X k ops rest (ent d none v l) p LL)(hf:Ao X.P ff=true:=by kernel_rfl):
 RO X k ops (⟨d,.call ⟨.value x,args.toArray,ats⟩,ty,pos,aft,none⟩::rest) l p LL:=⟨fun O tm M E=>
 xdv (R:=fun v h=>Q v/\St X.z9 X.zz p h LL.flatten) (xoq rfl) (xdq E V trivial) (by rw[xlx E H trivial]) hf
  (fun h s=>(hc h fun b o e=>s.per b o e).mono fun _ _⟨q,kk⟩=>⟨q,s.call kk⟩)
  fun v=>xyx fun q=>(n v q).run (xfq O).1 _ (A0.trans M) (E.ent (g:=none) M (xfq O).2)⟩
theorem Cn.C3{p:Ab}{h h':Heap}{Q:Value->Ab->Prop}{v:Value}(x:Cn p h Q v h'):(∃p',Q v p')/\Av h h':=by
 obtain⟨p',_,q,kk,_⟩:=x;exact⟨⟨p',q⟩,kk⟩
theorem ymc(hx:evS l x=some ([],v))(hy:evS l y=some ([],sv a))(o:Aa eT 1 v es Y)(hn:es.length=a.length)(a3:0<a.length)[i1:Rm LL Y LR][hT:Ca X.P dT eT][hs:Ak X.P eT 1]
 (nx:∀H,Aa eT 1 v (bcs a) H->RO X k ops rest ((dd,none,.J ((a.length:Nat):Int))::l) p (H::LR)):RO X k ops (⟨some dd,.call ⟨.builtin .copy,#[x,y],#[dT,xT]⟩,ty,pos,aft,none⟩::rest) l p LL:=⟨fun ok tm ht E=>by
 obtain⟨b,cap,hv,a2,_⟩:=o.at0 om d_;refine xrj (K:=fun v' h'=>v'=.J ((a.length:Nat):Int)/\ ∃H,Aa eT 1 v (bcs a) H/\St X.z9 X.zz p h' (H++LR.flatten)) (xoq rfl) rfl (fun h s=>?_) fun v'=>xyx fun e=>by
  subst e;exact xgk fun H=>xyx fun o'=>(nx H o').run (xfq ok).1 _ (by simp[Cz,ht]) (E.set (g:=none) (ht ▸ xkw ok rfl))
 unfold Ex;simp only[execOp,resolve];refine xaq (xbq ?_);simp only[invoke,builtin];refine xaq ?_;have M:=xdq E hy trivial;have O:=xdq E hx trivial;have e:(#[x,y]:Array Operand).map (evl tm)=#[.slice (some ((E4 v).add (0*1))) es.length cap,.string (bs a)]:=by
  simp only[List.map_toArray,List.map_cons,List.map_nil,O,M];rw[hv];show _=#[Value.slice (some ((⟨b,0,none⟩:Addr).add (0*1))) es.length cap,_];rw[xox,Nat.zero_mul];rfl
 rw[e];have hf:∀K:Array Value->Heap->Prop,K (bcs a).flatten.toArray h->wpS X.P (Builtin.firstCells 1 a.length (.string (bs a))) h K:=fun K k=>by
  have e2:(((bs a).extract 0 a.length).data.map fun b=>Value.int .u8 ((b.toNat:Nat):Int))=(bcs a).flatten.toArray:=by
   rw[xvj,xmh];apply Array.ext';simp[bs]
  show wpS X.P (pure _) h K;rw[e2];exact xbq k
 have hl:∀K:Nat->Heap->Prop,K a.length h->wpS X.P (Builtin.lenOf (.string (bs a))) h K:=fun K k=>by
  show wpS X.P (pure _) h K;rw[xdw];exact xbq k
 have h1:∀u∈(bcs a).flatten,Bj u=true:=fun u V=>by
  rw[xvj]at V;obtain⟨b,_,rfl⟩:=List.mem_map.1 V;rfl
 refine xmb hT.h hs.h o (s.rm i1) om (show Nat.min a.length es.length=a.length from by rw[hn];exact Nat.min_self _) hl hf (xfk a) (fun e he=>by obtain⟨_,_,rfl⟩:=List.mem_map.1 he;rfl) h1 om fun h' H o' s'=>?_;exact xbq ⟨_,rfl,rfl,H,by have o2:=o'.as (es':=bcs a) (by simp[hn,List.drop_of_length_le]);exact o2,s'⟩⟩
theorem yrs(o:Aa eT 1 v (bcs a) Y)(M:0<a.length)(hl:a.length<=1000000)(hx:evS l x=some ([],.pointer (some (E4 v))))(hy:evS l y=some ([],.J ((a.length:Nat):Int)))(hp:X.P.underlying pt=some (.pointer eT))(a2:X.P.cellsOf eT=1)[i1:Rm LL Y LR]
 (n:RO X k ops rest ((dd,none,sv a)::l) p LR):RO X k ops (⟨some dd,.call ⟨.builtin .unsafeString,#[x,y],#[pt,t2]⟩,ty,pos,aft,none⟩::rest) l p LL:=⟨fun ok tm ht E=>by
 obtain⟨hw,⟨_,V,_⟩|⟨b,cs,cap,H,rfl,rfl,O,_,_⟩⟩:=o
 ·rw[<- xfk,V]at M;cases M
 refine xrj (K:=fun v' h'=>v'=sv a/\St X.z9 X.zz p h' LR.flatten) (xoq rfl) rfl (fun h s=>?_) fun v'=>xyx fun e=>by
  subst e;exact n.run (xfq ok).1 _ (by simp[Cz,ht]) (E.set (g:=none) (ht ▸ xkw ok rfl))
 refine ys0 (i:=0) (s.rm i1) rfl hp a2 M hl (xdq E hx trivial) (xdq E hy trivial) (fun j u hj=>?_) fun h' s'=>⟨rfl,s'.sub (List.sublist_cons_self _ _)⟩
 rw[List.getElem?_toArray,O,List.getElem?_append_left (List.getElem?_eq_some_iff.1 hj).1];exact hj⟩
end
theorem yhl{w:Nat}:∀(m:Nat)(l:List Value),l.length=m*w-> ∃zs:List (List Value),zs.length=m/\(∀e∈zs,e.length=w)/\zs.flatten=l
 |0,l,h=>⟨[],rfl,s_,(List.eq_nil_of_length_eq_zero (by simpa using h)).symm⟩
 |m+1,l,h=>by
   rw[Nat.succ_mul]at h;obtain⟨zs,M,O,H⟩:=yhl (w:=w) m (l.drop w) (by rw[List.length_drop];omega);refine⟨l.take w::zs,by simp[M],fun e he=>?_,by simp[H]⟩;rcases List.mem_cons.1 he with rfl|he
   ·rw[List.length_take];omega
   ·exact O e he
theorem xv2{m c:Nat}{a:Option Addr}{z:Value}(hT:P.underlying sT=some (.slice eT))(hs:Bv P eT=some w)(hz:Ep P eT=some z)(a4:z.cells.size=w)(a6:0<w)
 (M:D5 P eT=some by')(hx:P.underlying xT=some (.int .i64))(d:Sl p a n w es)(s:St z9 zz p h C)(hc:c<n+m)
 (a8:0<m)(H:(n+m)*by'<=2^45)(V:0<by'/\by'<=2^20)
 (nx:∀v' X' h' zs,zs.length=m->Aa eT w v' (es++zs) X'->St z9 zz p h' (X'++C)->K v' h'):wpS P (Builtin.append_ #[sT,xT] ty #[.slice a n c,.J ((m:Nat):Int)]) h K:=by
 obtain⟨i,hi,a5⟩:∃i,P.info? eT=some i/\i.bytes=by':=by
  unfold D5 at M;cases hi:P.info? eT with
  |none=>rw[hi]at M;cases M
  |some i=>rw[hi]at M;exact⟨i,rfl,by simpa using M⟩
 have hn:=d.len;have a2:=d.wid;have b3:n+m<=2^45:=Nat.le_trans (Nat.le_mul_of_pos_right _ V.1) H;have b6:m*by'<=2^45:=Nat.le_trans (Nat.mul_le_mul_right _ (Nat.le_add_left m n)) H;have a3:=(xug (P:=P) (cap:=c) s a6 d).cells;unfold Builtin.append_;simp only[List.getElem?_toArray,List.getElem?_cons_zero,List.getElem?_cons_succ];refine xaq (xcq hT ?_);simp only;refine xaq (xvq hs ?_);refine xaq (xcq hx ?_);refine xaq (xex (K:=fun zr h'=>zr=true/\h'=h) (xbq ⟨rfl,rfl⟩) fun zr h'⟨ez,eh⟩=>?_);subst ez;have eh:=eh.symm;subst eh;simp only[if_true,Bool.not_true,Bool.false_eq_true,if_false,asInt];refine xaq (xbq ?_);rw[wrZ om,if_neg om];refine xaq (xkx hi ?_);have b0:((m:Nat):Int)*(i.bytes:Int)=((m*by':Nat):Int):=by rw[a5];exact(Int.natCast_mul _ _).symm
 rw[b0,if_neg om];refine xaq (xbq ?_);rw[Int.toNat_natCast,if_neg (show ¬ n+m<=c by omega)];refine xaq (xkx hi ?_);rw[if_neg (by
  intro hh;have:(IntKind.i64.max:Int)=9223372036854775807:=by decide
  rw[this]at hh;omega)]
 refine xaq (xkx hi ?_);rw[a5,if_neg (by have:=xv3 (by':=by') hc H V.2;omega)];refine xaq ?_;show wpS P (choose _) h _;simp only[choose,wpS,Question.forced,Bool.false_eq_true,if_false,Question.cut];intro t;generalize b5:n+m+t%(2^63-(n+m))=nc;have b4:n+m<=nc:=om;have a7:nc<=9223372036854775807:=by
  have:=Nat.mod_lt t (show 0<2^63-(n+m) by omega);omega
 refine xaq (xkx hi ?_);refine xaq ?_;have a9:∀(b:Nat)(K:Unit->Heap->Prop),K () h->wpS P (askRoom b) h K:=by
  intro b K hK;unfold askRoom;split
  ·exact⟨rfl,hK⟩
  ·exact xbq hK
 refine a9 _ _ ?_;refine xaq (a3 _ ?_);rw[if_neg (Nat.ne_of_gt (Nat.mul_pos a8 a6))];refine xaq (xaq (xzx hz (xbq ?_)));refine xaq (xzx hz ?_);refine xaq (xtz ?_);obtain⟨zs,z1,z2,z3⟩:=yhl (w:=w) m (Builtin.zeroCells z.cells m).toList (by rw[xwj,a4]);have O:∀e∈es++zs,e.length=w:=fun e he=>(List.mem_append.1 he).elim (a2 e) (z2 e);refine xbq (nx _ [(h.size,.cells (List.toArray (es.flatten++zs.flatten++(Builtin.zeroCells z.cells (nc-(n+m))).toList)) eT (0,0))] _ zs z1 ⟨O,.inr ⟨h.size,_,nc,(Builtin.zeroCells z.cells (nc-(n+m))).toList,?_,rfl,s_,?_,fun _=>a7⟩⟩ ?_)
 ·simp[z1,hn]
 ·simp only[List.length_append,xjq a2,xjq z2,z1,hn,xwj,a4];rw[<- Nat.add_mul,<- Nat.add_mul];congr 1;omega
 ·have s1:=s.push (.cells (List.toArray (es.flatten++zs.flatten++(Builtin.zeroCells z.cells (nc-(n+m))).toList)) eT (0,0));have e1:(List.toArray es.flatten++Builtin.zeroCells z.cells m++Builtin.zeroCells z.cells (nc-(n+m)))=List.toArray (es.flatten++zs.flatten++(Builtin.zeroCells z.cells (nc-(n+m))).toList):=by
   apply Array.ext';simp[z3]
  rw[e1];exact s1
theorem ydm{c c2:Nat}{cap:Nat}{L₁ L₂:Pcs}(o:Aa T w (.slice (some ⟨b,0,none⟩) N cap) es Y)(s:St z9 zz p h (L₁++(Y++L₂)))(hj:j+n<=es.length):∀K:Array Value->Heap->Prop,K ((es.drop j).take n).flatten.toArray h->wpS P (Builtin.firstCells w n (.slice (some ⟨b,j*w,none⟩) c c2)) h K:=by
 obtain⟨hw,⟨e,-,-⟩|⟨b,cs,cap,rest,e,rfl,M,hlen,V⟩⟩:=o
 ·cases e
 injection e with e1 e2 e3;cases e1;intro K hK;show wpS P (loadCells ⟨b,j*w,none⟩ (n*w)) h K;have H:∀e∈(es.drop j).take n,e.length=w:=fun e he=>hw e (List.mem_of_mem_drop (List.mem_of_mem_take he));have O:((es.drop j).take n).length=n:=by rw[List.length_take,List.length_drop];omega
 refine xmz (by rw[xjq H,O]) (fun q u hq=>?_) hK;rw[xox];refine s.Fs (i:=L₁.length) (cs:=cs.toArray) (T:=T) (z:=(0,0)) ?_ ?_
 ·rw[List.getElem?_append_right (Nat.le_refl _)];simp
 have et:(es.take j).flatten.length=j*w:=by rw[xjq fun e he=>hw e (List.mem_of_mem_take he),List.length_take,Nat.min_eq_left om]
 have ec:cs=(es.take j).flatten++(((es.drop j).take n).flatten++(((es.drop j).drop n).flatten++rest)):=by
  rw[M];simp only[<- List.append_assoc,<- List.flatten_append];congr 1;rw[List.append_assoc,List.take_append_drop,List.take_append_drop]
 rw[List.getElem?_toArray,ec,List.getElem?_append_right om,et,Nat.add_sub_cancel_left,List.getElem?_append_left (List.getElem?_eq_some_iff.1 hq).1];exact hq
theorem Aa.more{T:TypeId}{w b n cap:Nat}{es:List (List Value)}{Y:Pcs}(o:Aa T w (.slice (some ⟨b,0,none⟩) n cap) es Y)(hc:n<cap):∃e,Aa T w (.slice (some ⟨b,0,none⟩) (n+1) cap) (es++[e]) Y:=by
 obtain⟨hw,⟨e,-,-⟩|⟨b,cs,cap,rest,e,rfl,M,hlen,H⟩⟩:=o
 ·cases e
 injection e with e1 e2 e3;cases e1;subst e2 e3;have O:=congrArg List.length M;rw[List.length_append,xjq hw,hlen]at O;have V:(es.length+1)*w<=cap*w:=Nat.mul_le_mul_right _ hc;rw[Nat.succ_mul]at V;refine⟨rest.take w,fun e he=>?_,.inr ⟨b,cs,cap,rest.drop w,s_,rfl,by rw[M];simp[List.append_assoc],hlen,H⟩⟩;rcases List.mem_append.1 he with he|he
 ·exact hw e he
 ·rw[List.mem_singleton.1 he,List.length_take];omega
section
variable{a b:Addr}{c1 c2:Array Value}
theorem xwd{c:Array Value}{e:TypeId}{K:Bool->Heap->Prop}(H:h[a.block]?=some (.cells c e (0,0)))(hc:0<c.size)(k:K false h):wpS P (frozen a) h K:=
 ⟨⟨c,e,_,H,hc⟩,fun _=>k,fun n=>absurd (.inr ⟨c,e,H,hc⟩) n⟩
theorem xok{c:Array Value}{e:TypeId}{r:Nat}{K:Option (TypeId×Nat)->Heap->Prop}(H:h[r]?=some (.cells c e z))(hc:0<c.size)(k:K (some (e,c.size)) h):wpS P (shape r) h K:=by
 show wpS P (.shape r .pure) h K;rw[wpS,H];exact⟨hc,k⟩
theorem xpp{c:Array Value}{e:TypeId}{K:Unit->Heap->Prop}(H:h[a.block]?=some (.cells c e z))(hc:0<c.size)(k:K () h):wpS P (noView a) h K:=by
 unfold noView;refine xaq ?_;unfold viewAt;refine xaq (xok H hc ?_);simp only[Option.isSome_some,if_true];exact xbq k
theorem xs4{c:Array Value}{e:TypeId}{K:Bool->Heap->Prop}(H:h[a.block]?=some (.cells c e (0,0)))(hc:0<c.size)(k:K false h):wpS P (stringish a) h K:=by
 unfold stringish;refine xaq (xwd H hc ?_);simp only[Bool.false_eq_true,if_false];refine xaq (xok H hc ?_);exact xwd H hc k
theorem xd0{la ca lb cb:Nat}(ht:P.underlying tS=some (.slice eT))(hs:Bv P eT=some w)(H:a.block≠b.block)(V:h[a.block]?=some (.cells c1 e1 (0,0)))(M:0<c1.size)(hb:h[b.block]?=some (.cells c2 e2 (0,0)))(O:0<c2.size)(k:K (.bool false) h):
 wpS P (Extern.SlicesOverlaps.overlaps #[tS,tS] #[tR] #[.slice (some a) la ca,.slice (some b) lb cb]) h K:=by
 show wpS P (underlying tS >>= _) h K;refine xaq (xcq ht ?_);show wpS P (sizeOf eT >>= _) h K;refine xaq (xvq hs ?_);dsimp only;by_cases h0:la=0\/lb=0\/w=0
 ·rw[if_pos h0];exact xbq k
 rw[if_neg h0];refine xaq (xwd V M ?_);refine xaq (xwd hb O ?_);simp only[Bool.and_false,Bool.false_eq_true,if_false];rw[if_pos (by simpa using H)];refine xaq (xpp V M ?_);refine xaq (xpp hb O ?_);unfold mayBeOne;refine xaq (xaq (xs4 V M (xaq (xs4 hb O ?_))));refine xaq (xaq (xok V M (xbq ?_)));refine xaq (xaq (xok hb O (xbq (xbq ?_))));simp only[Bool.false_and,Bool.or_self,Bool.false_eq_true,if_false];have e:(a.block==b.block)=false:=by simpa using H
 rw[e];exact xbq k
end
section
variable{X:Cx}{k:List Item}{m:Ks}{LF LL LR L3:List Pcs}{pos:String}
theorem yus{la ca lb cb b1 b2 o1 o2:Nat}{cs1 cs2:Array Value}{sp1 sp2:Option Nat}(hf:X.P.funcs[gf]?=some fn)(he:Extern.find fn=some (Extern.SlicesOverlaps.overlaps #[tS,tS] #[tR]))(hx:evS l x=some ([],.func (.func gf) #[] #[]))
 (hy:evS l y=some ([],.slice (some ⟨b1,o1,sp1⟩) la ca))(hy2:evS l y2=some ([],.slice (some ⟨b2,o2,sp2⟩) lb cb))(hL1:LL.flatten[i]?=some (b1,.cells cs1 e1 (0,0)))(h1:0<cs1.size)(hL2:LL.flatten[j]?=some (b2,.cells cs2 e2 (0,0)))(h2:0<cs2.size)(hne:i≠j)[hT:Ca X.P tS eT][hs:Ak X.P eT w](n:RO X k ops rest (ent d none (.bool false) l) p LL)
 (hname : (fn.name == "runtime.NumGoroutine") = false := by kernel_rfl)(hb : fn.body.isNone = true := by kernel_rfl)(hn : Extern.findNext fn = none := by kernel_rfl): RO X k ops (⟨d, .call ⟨.value x, #[y, y2], ats⟩, ty, pos, aft, none⟩ :: rest) l p LL :=
 xtb (g:=none) rfl rfl (fun _ h' E s=>ysv (args:=[y,y2]) hf hname hb hn he (xdq E hx trivial) (by simp only[List.map_cons,List.map_nil,xdq E hy trivial,xdq E hy2 trivial];rfl) (xd0 hT.h hs.h (fun e=>hne (by
  obtain⟨l1,q1⟩:=List.getElem?_eq_some_iff.1 hL1;obtain⟨l2,q2⟩:=List.getElem?_eq_some_iff.1 hL2;have nd:=List.pairwise_iff_getElem.1 s.nod;have e:b1=b2:=e;refine Classical.byContradiction fun q=>?_;rcases Nat.lt_or_gt_of_ne q with q|q
  ·exact nd i j (by rw[List.length_map];exact l1) (by rw[List.length_map];exact l2) q (by rw[List.getElem_map,List.getElem_map,q1,q2];exact e)
  ·exact nd j i (by rw[List.length_map];exact l2) (by rw[List.length_map];exact l1) q (by rw[List.getElem_map,List.getElem_map,q1,q2];exact e.symm))) (s.at hL1) h1 (s.at hL2) h2 ⟨rfl,rfl⟩)) n
theorem ygt{q m c:Nat}{a:Option Addr}{z:Value}(hx:evS l x=some ([],.slice a q c))(hy:evS l y=some ([],.J ((m:Nat):Int)))(S:Sl p a q w es)(hc:c<q+m)(O:0<m)(M:(q+m)*by'<=2^45)
 [hT:Ca X.P sT eT][hs:Ak X.P eT w][hz:Bg X.P eT z][hb:ByC X.P eT by'](nx:∀v' H zs,zs.length=m->Aa eT w v' (es++zs) H->RO X k ops rest ((dd,none,v')::l) p (H::LL))
 (a3:z.cells.size=w:=by rfl)(V:0<by'/\by'<=2^20:=by decide)(a4:0<w:=by decide)(hX:X.P.underlying xT=some (.int .i64):=by kernel_rfl):RO X k ops (⟨some dd,.call ⟨.builtin .append,#[x,y],#[sT,xT]⟩,ty,pos,aft,none⟩::rest) l p LL:=⟨fun ok tm ht E=>
 xrj (K:=fun v' h'=>∃H zs,(zs.length=m/\Aa eT w v' (es++zs) H)/\St X.z9 X.zz p h' (H++LL.flatten)) (xoq rfl) rfl (fun h s=>by
  unfold Ex;simp only[execOp,resolve];refine xaq (xbq ?_);simp only[invoke,builtin];refine xaq ?_;have e:(#[x,y]:Array Operand).map (evl tm)=#[.slice a q c,.J ((m:Nat):Int)]:=by
   simp only[List.map_toArray,List.map_cons,List.map_nil,xdq E hx trivial,xdq E hy trivial]
  rw[e];refine xv2 hT.h hs.h hz.h a3 a4 hb.h hX S s hc O M V fun v' H h' zs a2 o' s'=>?_;exact xbq ⟨v',rfl,H,zs,⟨a2,o'⟩,s'⟩) fun v'=>xgk fun H=>xgk fun zs=>xyx fun o'=>(nx v' H zs o'.1 o'.2).run (xfq ok).1 _ (by simp[Cz,ht]) (E.set (g:=none) (ht ▸ xkw ok rfl))⟩
theorem ypz{q c dl cap:Nat}{a:Option Addr}(hx:evS l x=some ([],.slice (some ⟨b,off*w,none⟩) dl dc))(hy:evS l y=some ([],.slice a q c))(o:Aa T w (.slice (some ⟨b,0,none⟩) N cap) es Y)(S:Sl p a q w news)(hN:es.length=N)(M:0<N)(hq:q<=dl)(O:off+q<=N)(h1:∀u∈news.flatten,Bj u=true)[i1:Rm LL Y LR][hT:Ca X.P dT eT][hs:Ak X.P eT w]
 (nx:∀H,Aa T w (.slice (some ⟨b,0,none⟩) N cap) (es.take off++(news++es.drop (off+q))) H->RO X k ops rest ((dd,none,.J ((q:Nat):Int))::l) p (H::LR))(V:0<w:=by decide):RO X k ops (⟨some dd,.call ⟨.builtin .copy,#[x,y],#[dT,xT]⟩,ty,pos,aft,none⟩::rest) l p LL:=⟨fun ok tm ht E=>by
 subst hN;refine xrj (K:=fun v' h'=>v'=.J ((q:Nat):Int)/\ ∃H,Aa T w (.slice (some ⟨b,0,none⟩) es.length cap) (es.take off++(news++es.drop (off+q))) H/\St X.z9 X.zz p h' (H++LR.flatten)) (xoq rfl) rfl (fun h s=>?_) fun v'=>xyx fun e=>by
  subst e;exact xgk fun H=>xyx fun o'=>(nx H o').run (xfq ok).1 _ (by simp[Cz,ht]) (E.set (g:=none) (ht ▸ xkw ok rfl))
 unfold Ex;simp only[execOp,resolve];refine xaq (xbq ?_);simp only[invoke,builtin];refine xaq ?_;have e:(#[x,y]:Array Operand).map (evl tm)=#[.slice (some ((E4 (.slice (some ⟨b,0,none⟩) es.length cap)).add (off*w))) dl dc,.slice a q c]:=by
  simp only[List.map_toArray,List.map_cons,List.map_nil,xdq E hx trivial,xdq E hy trivial];show _=#[Value.slice (some ((⟨b,0,none⟩:Addr).add (off*w))) dl dc,_];rw[xox,Nat.zero_add]
 rw[e];have src:=xug (P:=X.P) (cap:=c) (s.rm i1) V S;refine xmb hT.h hs.h o (s.rm i1) M (Nat.min_eq_left hq) src.lenOf src.cells src.len src.wid h1 O fun h' H o' s'=>?_;exact xbq ⟨_,rfl,rfl,H,o',s'⟩⟩
theorem yct{q dl sl sc cap:Nat}(hx:evS l x=some ([],.slice (some ⟨b,off*w,none⟩) dl dc))(hy:evS l y=some ([],.slice (some ⟨b,j*w,none⟩) sl sc))(o:Aa T w (.slice (some ⟨b,0,none⟩) N cap) es Y)(hN:es.length=N)(M:0<N)(hq:Nat.min sl dl=q)(O:off+q<=N)(hj:j+q<=N)(h1:∀u∈((es.drop j).take q).flatten,Bj u=true)[i1:Rm LL Y LR][hT:Ca X.P dT eT][hs:Ak X.P eT w]
 (nx:∀H,Aa T w (.slice (some ⟨b,0,none⟩) N cap) (es.take off++((es.drop j).take q++es.drop (off+q))) H->RO X k ops rest ((dd,none,.J ((q:Nat):Int))::l) p (H::LR)):RO X k ops (⟨some dd,.call ⟨.builtin .copy,#[x,y],#[dT,xT]⟩,ty,pos,aft,none⟩::rest) l p LL:=⟨fun ok tm ht E=>by
 subst hN;refine xrj (K:=fun v' h'=>v'=.J ((q:Nat):Int)/\ ∃H,Aa T w (.slice (some ⟨b,0,none⟩) es.length cap) (es.take off++((es.drop j).take q++es.drop (off+q))) H/\St X.z9 X.zz p h' (H++LR.flatten)) (xoq rfl) rfl (fun h s=>?_) fun v'=>xyx fun e=>by
  subst e;exact xgk fun H=>xyx fun o'=>(nx H o').run (xfq ok).1 _ (by simp[Cz,ht]) (E.set (g:=none) (ht ▸ xkw ok rfl))
 unfold Ex;simp only[execOp,resolve];refine xaq (xbq ?_);simp only[invoke,builtin];refine xaq ?_;have e:(#[x,y]:Array Operand).map (evl tm)=#[.slice (some ((E4 (.slice (some ⟨b,0,none⟩) es.length cap)).add (off*w))) dl dc,.slice (some ⟨b,j*w,none⟩) sl sc]:=by
  simp only[List.map_toArray,List.map_cons,List.map_nil,xdq E hx trivial,xdq E hy trivial];show _=#[Value.slice (some ((⟨b,0,none⟩:Addr).add (off*w))) dl dc,_];rw[xox,Nat.zero_add]
 rw[e];have V:∀e∈(es.drop j).take q,e.length=w:=fun e he=>o.1 e (List.mem_of_mem_drop (List.mem_of_mem_take he));refine xmb (m:=sl) hT.h hs.h o (s.rm i1) M hq (fun K hK=>xbq hK) (ydm (L₁:=[]) o (s.rm i1) hj) (by rw[List.length_take,List.length_drop];omega) V h1 O fun h' H o' s'=>?_;exact xbq ⟨_,rfl,rfl,H,o',s'⟩⟩
end
section
variable{X:Cx}{k:List Item}{m:Ks}{LF LL LR L3:List Pcs}{pos:String}
theorem ysp{e:TypeId}{a:Option Addr}{c:Nat}(M:P.underlying t=some (.slice e))(H:evl tm x=.slice a n c):
 Exd P tm ⟨d,.call {callee:=.builtin .cap,args:=#[x],argTypes:=#[t]},ty,pos,aft,gd⟩ h (.J c):=by
 refine xtk (s:=Builtin.cap_ #[t] ty #[.slice a n c]) (fun cs=>by simp only[builtin,List.map_toArray,List.map_cons,List.map_nil,H]) ?_;simp only[Builtin.cap_];refine xaq (xcq M ?_);exact xbq ⟨rfl,rfl⟩
theorem yk3{e:TypeId}{a:Option Addr}{q c:Nat}(H:evS l x=some ([],.slice a q c))[f:Ca X.P t e]:Yl X p LL l none (.call ⟨.builtin .cap,#[x],#[t]⟩) (.J ((c:Nat):Int)):=⟨rfl,(fun _ _ _ E _=>ysp f.h (xdq E H trivial))⟩
theorem Aa.blk{T:TypeId}{w b n cap:Nat}{es:List (List Value)}{Y:Pcs}(o:Aa T w (.slice (some ⟨b,0,none⟩) n cap) es Y):∃cs:Array Value,Y=[(b,.cells cs T (0,0))]/\cs.size=cap*w:=by
 obtain⟨hw,⟨e,-,-⟩|⟨b,cs,cap,rest,e,rfl,M,hlen,H⟩⟩:=o
 ·cases e
 injection e with e1 e2 e3;cases e1;subst e3;exact⟨_,rfl,by simpa using hlen⟩
theorem yj1(Y Z:Pcs)[ii:Rm LL Y L3][jj:Rm L3 Z LR](V:ops[i]?=some ⟨d,.call ⟨.value x,args.toArray,ats⟩,ty,pos,aft,none⟩)
 (O:evS l x=some ([],.func (.func ff) first.toArray cap.toArray))(M:D4 l args=some ([],vs))(hc:∀h C,St X.z9 X.zz p h ((Y++Z)++C)->Ac X.P X.md ff (first++(vs++cap)).toArray h fun v' h'=>∃H,Q v' H/\St X.z9 X.zz p h' (H++C))(n:∀v H,Q v H->DE X k ops m p LF effs todo (ent d none v l) (H::LR))
 (he:effs.contains i=true:=by rfl)(hf:Ao X.P ff=true:=by kernel_rfl):DE X k ops m p LF effs (i::todo) l LL:=
 ⟨.eff (U:=Y++Z) (LR:=LR) (Q:=Q) V (by simpa using he) (by simpa[List.append_assoc]using ii.h.trans (List.Perm.append_left Y jj.h)) (fun _ _ E=>⟨rfl,xoq rfl,fun C h s=>.inr <| .inl ⟨ff,_,xuw (xdq E O trivial) (by rw[xlx E M trivial]) hf,hc h _ s⟩⟩) fun v H q=>(n v H q).run⟩
end
section
variable{X:Cx}{k:List Item}{LL:List Pcs}{pos:String}
theorem xa4{e:TypeId}{z:Operand}{c:Nat}{k:IntKind}{a:Option Addr}(H:P.underlying t=some (.slice e))(hs:Bv P e=some w)(O:evl tm x=.slice a n c)
 (hy:evl tm y=.int k ((j:Nat):Int))(hz:evl tm z=.int k' ((j:Nat):Int))(h2:j<=c):Exd P tm ⟨d,.slice t x none (some y) (some z),ty,pos,aft,gd⟩ h (.slice a j j):=by
 refine xbj (s:=Instr.sliceAt t (.slice a n c) none (some (.int k ((j:Nat):Int))) (some (.int k' ((j:Nat):Int)))) (by simp only[execOp,O,hy,hz,Option.map_none,Option.map_some]) ?_;unfold Instr.sliceAt;refine xaq (xcq H ?_);simp only;unfold Instr.slice;refine xaq (xcq H ?_);simp only;refine xaq (xex (K:=fun q h'=>q=(0,j,j)/\h'=h) ?_ fun q h'⟨V,M⟩=>?_)
 ·unfold Instr.sliceBounds;refine xaq (xiz (Int.natCast_nonneg _) om ?_);rw[Int.toNat_natCast];simp only;refine xaq (xiz (Int.natCast_nonneg _) om ?_);rw[Int.toNat_natCast];exact xaq (xbq (xbq ⟨rfl,rfl⟩))
 ·subst V;subst M;simp only;refine xaq (xvq hs ?_);refine xbq ⟨?_,rfl⟩;have:=xl4 a j w;unfold Cf at this;rw[this,Nat.sub_zero]
theorem ybs{e:TypeId}{c:Nat}{a:Option Addr}(H:evS l x=some ([],.slice a n c))(M:evS l y=some ([],.int k1 ((j:Nat):Int)))(O:evS l y2=some ([],.int k2 ((j:Nat):Int)))(hc:j<=c)[f:Ca X.P t e][sz:Ak X.P e w]:Yl X p LL l none (.slice t x none (some y) (some y2)) (.slice a j j):=⟨rfl,(fun _ _ _ E _=>xa4 f.h sz.h (xdq E H trivial) (xdq E M trivial) (xdq E O trivial) hc)⟩
end
section
variable{L:Pcs}{pos:String}
theorem xqp{q:Bool}{K:Bool->Heap->Prop}(H:P.underlying T=some (.pointer E))(n:K q h)
 (M:(∃o,v=.pointer o/\u=.pointer none/\q=o.isNone)\/ ∃a w,v=.pointer (some a)/\u=.pointer (some a)/\q=true/\Bv P E=some (w+1)):wpS P (Op.equal T v u) h K:=by
 simp only[Op.equal,Op.maxDepth];rw[show(10000:Nat)=9999+1 from rfl];unfold Op.equalIn;refine xaq (xcq H ?_);rcases M with⟨o,rfl,rfl,rfl⟩|⟨a,w,rfl,rfl,rfl,hs⟩
 ·cases o with
  |none=>exact xbq n
  |some a=>exact xbq n
 ·refine xaq (xvq hs ?_);rw[if_pos om];unfold sameAddr;rw[if_pos s_];simpa using xbq (P:=P) n
theorem yxf{o:Option Addr}(M:P.underlying T=some (.pointer E))(H:evl tm x=.pointer o)(O:evl tm y=.pointer none):Exd P tm ⟨d,.binOp .eql T x y T',ty,pos,aft,gd⟩ h (.bool o.isNone):=by
 refine xrx H O (fun K z=>?_) ?_
 ·unfold eqGuard;rw[if_neg d_];exact xbq z
 ·have e:binOp .eql T (.pointer o) (.pointer none)=(do pure (.bool (<- Op.equal T (.pointer o) (.pointer none)))):=rfl;rw[e];exact xaq (xqp M (xbq ⟨rfl,rfl⟩) (.inl ⟨o,rfl,rfl,rfl⟩))
theorem yip{w:TypeId}{a:Addr}(M:P.underlying T=some (.pointer E))(hs:Bv P E=some (w+1))(H:evl tm x=.pointer (some a))(O:evl tm y=.pointer (some a)):Exd P tm ⟨d,.binOp .neq T x y T',ty,pos,aft,gd⟩ h (.bool false):=by
 refine xrx H O (fun K z=>?_) ?_
 ·unfold eqGuard;rw[if_neg d_];exact xbq z
 ·have e:binOp .neq T (.pointer (some a)) (.pointer (some a))=(do pure (.bool (!(<- Op.equal T (.pointer (some a)) (.pointer (some a)))))):=rfl;rw[e];exact xaq (xqp M (xbq ⟨rfl,rfl⟩) (.inr ⟨a,w,rfl,rfl,rfl,hs⟩))
theorem xb0{r:Nat}{c:Array Value}{e:TypeId}{K:Option (Addr×TypeId)->Heap->Prop}(H:h[r]?=some (.cells c e z))(hc:0<c.size)(k:K none h):wpS P (viewAt r) h K:=by
 unfold viewAt;refine xaq (xok H hc ?_);simp only[Option.isSome_some,if_true];exact xbq k
theorem xt4{a:Addr}{c:Array Value}{e:TypeId}{K:Addr->Heap->Prop}(H:h[a.block]?=some (.cells c e z))(hc:0<c.size)(k:K a h):wpS P (Conv.seenAt a) h K:=by
 unfold Conv.seenAt;refine xaq (xb0 H hc ?_);exact xbq k
theorem ydp{w:TypeId}{c:Array Value}{e:TypeId}(hs:P.underlying src=some (.pointer E))(H:P.underlying dst=some .unsafePointer)(hz:Bv P E=some (w+1))(s:St z9 zz p h L)(V:L[i]?=some (b,.cells c e z))(ho:off<c.size)(O:evl tm x=w_ b off):
 Exd P tm ⟨d,.convert src dst x,ty,pos,aft,gd⟩ h (w_ b off):=by
 have M:=s.at V;refine xbj (s:=convert src dst (w_ b off)) (by simp only[execOp,O]) ?_;unfold convert;refine xaq (xcq hs ?_);refine xaq (xcq H ?_);simp only;unfold Conv.unsafePointer;refine xaq (xcq hs ?_);refine xaq (xcq H ?_);simp only;refine xaq (xt4 M om ?_);unfold cellsIn;refine xaq (xaq (xok M om ?_));refine xbq ?_;refine xaq (xvq hz ?_);rw[if_neg (by simp;omega)];exact xbq ⟨rfl,rfl⟩
theorem yqv{w:TypeId}{c:Array Value}{e:TypeId}(hs:P.underlying src=some .unsafePointer)(H:P.underlying dst=some (.pointer E))(hz:Bv P E=some (w+1))(s:St z9 zz p h L)(V:L[i]?=some (b,.cells c e z))(hc:0<c.size)(hv:liesAt P P.depth e (c.size / P.cellsOf e) off E 1=true)(O:evl tm x=w_ b off):
 Exd P tm ⟨d,.convert src dst x,ty,pos,aft,gd⟩ h (w_ b off):=by
 have M:=s.at V;refine xbj (s:=convert src dst (w_ b off)) (by simp only[execOp,O]) ?_;unfold convert;refine xaq (xcq hs ?_);refine xaq (xcq H ?_);simp only;unfold Conv.unsafePointer;refine xaq (xcq hs ?_);refine xaq (xcq H ?_);simp only;refine xaq (xt4 M hc ?_);refine xaq (xvq hz ?_);unfold variablesAt;refine xaq (xaq (xov ?_));refine xaq (xok M hc ?_);refine xbq ?_;rw[if_pos (by simp[hv])];exact xbq ⟨rfl,rfl⟩
theorem ycp{a:Addr}{c:Nat}(H:evl tm x=.slice (some a) n c)(hc:0<c):Exd P tm ⟨d,.call ⟨.builtin .unsafeSliceData,#[x],ats⟩,ty,pos,aft,gd⟩ h (.pointer (some a)):=by
 refine xtk (s:=Builtin.unsafeSliceData_ ats ty #[.slice (some a) n c]) (fun cs=>by simp only[builtin,List.map_toArray,List.map_cons,List.map_nil,H]) ?_;show wpS P (if c≠0 then(pure (Value.pointer (some a)):Sem Value)else _) h _;rw[if_pos om];exact xbq ⟨rfl,rfl⟩
end
section
variable{X:Cx}{k:List Item}{m:Ks}{LF LL LR L3:List Pcs}{pos:String}{a:List UInt8}
theorem ydh{o:Option Addr}(q:Bool)(H:o.isNone=q)(M:evS l x=some ([],.pointer o))(V:evS l y=some ([],.pointer none))(O:X.P.underlying T=some (.pointer E)):Yl X p LL l none (.binOp .eql T x y T') (.bool q):=⟨rfl,(fun _ _ _ E _=>H ▸ yxf O (xdq E M trivial) (xdq E V trivial))⟩
theorem yf3{w:TypeId}{a:Addr}(H:evS l x=some ([],.pointer (some a)))(O:evS l y=some ([],.pointer (some a)))(M:X.P.underlying T=some (.pointer E))(hs:Bv X.P E=some (w+1)):Yl X p LL l none (.binOp .neq T x y T') (.bool false):=⟨rfl,(fun _ _ _ E _=>yip M hs (xdq E H trivial) (xdq E O trivial))⟩
theorem yts{w:TypeId}{c:Array Value}{e:TypeId}(hs:X.P.underlying src=some (.pointer E))(H:X.P.underlying dst=some .unsafePointer)(hz:Bv X.P E=some (w+1))(O:LL.flatten[i]?=some (b,.cells c e z))(V:off<c.size)(M:evS l x=some ([],w_ b off))
 (n:RO X k ops rest (ent d none (w_ b off) l) p LL):RO X k ops (⟨d,.convert src dst x,ty,pos,aft,none⟩::rest) l p LL:=
 xtb (g:=none) rfl rfl (fun _ _ E s=>ydp hs H hz s O V (xdq E M trivial)) n
theorem ykc{w:TypeId}{c:Array Value}{e:TypeId}(hs:X.P.underlying src=some .unsafePointer)(H:X.P.underlying dst=some (.pointer E))(V:Bv X.P E=some (w+1))(O:LL.flatten[i]?=some (b,.cells c e z))(hc:0<c.size)(hv:liesAt X.P X.P.depth e (c.size / X.P.cellsOf e) off E 1=true)(M:evS l x=some ([],w_ b off))
 (n:RO X k ops rest (ent d none (w_ b off) l) p LL):RO X k ops (⟨d,.convert src dst x,ty,pos,aft,none⟩::rest) l p LL:=
 xtb (g:=none) rfl rfl (fun _ _ E s=>yqv hs H V s O hc hv (xdq E M trivial)) n
theorem yc3{a:Addr}{q c:Nat}(H:evS l x=some ([],.slice (some a) q c))(hc:0<c):Yl X p LL l none (.call ⟨.builtin .unsafeSliceData,#[x],ats⟩) (.pointer (some a)):=⟨rfl,(fun _ _ _ E _=>ycp (xdq E H trivial) hc)⟩
theorem ync{z:Value}{b:List UInt8}(hx:evS l x=some ([],v))(hy:evS l y=some ([],sv b))(o:Aa eT 1 v (bcs a) Y)(a2:a.length+b.length<=2^30)[i1:Rm LL Y LR][hT:Ca X.P sT eT][hs:Ak X.P eT 1][hz:Bg X.P eT z][hb:ByC X.P eT 1](nx:∀v' H,Aa eT 1 v' (bcs (a++b)) H->RO X k ops rest ((dd,none,v')::l) p (H::LR))
 (hX:X.P.underlying xT=some .string:=by kernel_rfl)(M:z.cells.size=1:=by rfl):RO X k ops (⟨some dd,.call ⟨.builtin .append,#[x,y],#[sT,xT]⟩,ty,pos,aft,none⟩::rest) l p LL:=by
 exact⟨fun ok tm V E=>xrj (K:=fun v' h'=>∃H,Aa eT 1 v' (bcs (a++b)) H/\St X.z9 X.zz p h' (H++LR.flatten)) (xoq rfl) rfl (fun h s=>by
  unfold Ex;simp only[execOp,resolve];refine xaq (xbq ?_);simp only[invoke,builtin];refine xaq ?_;have e:(#[x,y]:Array Operand).map (evl tm)=#[v,.string (bs b)]:=by
   simp only[List.map_toArray,List.map_cons,List.map_nil,xdq E hx trivial,xdq E hy trivial];rfl
  rw[e];have hf:∀K:Array Value->Heap->Prop,K (bcs b).flatten.toArray h->wpS X.P (Builtin.firstCells 1 b.length (.string (bs b))) h K:=fun K k=>by
   have e2:(((bs b).extract 0 b.length).data.map fun b=>Value.int .u8 ((b.toNat:Nat):Int))=(bcs b).flatten.toArray:=by
    rw[xvj,xmh];apply Array.ext';simp[bs]
   show wpS X.P (pure _) h K;rw[e2];exact xbq k
  have hl:∀K:Nat->Heap->Prop,K b.length h->wpS X.P (Builtin.lenOf (.string (bs b))) h K:=fun K k=>by
   show wpS X.P (pure _) h K;rw[xdw];exact xbq k
  have h1:∀u∈(bcs b).flatten,Bj u=true:=fun u O=>by
   rw[xvj]at O;obtain⟨b,_,rfl⟩:=List.mem_map.1 O;rfl
  refine xim (A:=[]) hT.h hs.h hz.h M hb.h hX (fun _ e=>by cases e) o (s.rm i1) hl hf (xfk b) (fun e he=>by obtain⟨_,_,rfl⟩:=List.mem_map.1 he;rfl) h1 (by rw[xfk];omega) d_ fun v' X' h' o' s'=>?_;exact xbq ⟨v',rfl,X',o'.as (by simp[bcs]),s'⟩) fun v'=>xgk fun H=>xyx fun o'=>(nx v' H o').run (xfq ok).1 _ (by simp[Cz,V]) (E.set (g:=none) (V ▸ xkw ok rfl))⟩
theorem xn8[i:Rm LL Y LR][j:Rm LR Z L3][q:Rm L3 C L4](s:St z9 zz p h LL.flatten):St z9 zz p h ((Y++Z)++C):=
 ((s.rm i).perm (List.Perm.append_left Y (j.h.trans (List.Perm.append_left Z q.h)))).sub (by
   rw[<- List.append_assoc,<- List.append_assoc];exact List.sublist_append_left _ _)
end
def Nz:TypeDesc->Bool
 |.pointer _=>true
 |_=>false
def Pe(P:Program)(T:TypeId)(name:String):Option FuncId:=
 match P.info? T,P.underlying T with
 |some i,some D=>match i.methods.find? (·.name==name)with
   |some m=>match m.func with
     |some (g,false)=>if m.path.isEmpty&&!(Nz D)then some g else none
     |_=>none
   |none=>none
 |_,_=>none
theorem xhp{g:FuncId}{args:Array Value}{K:Next->Heap->Prop}(H:Pe P T name=some g)(hg:Ao P g=true)(k:K (.enter g (#[v]++args)) h):wpS P (callMethod (.iface T v) name args) h K:=by
 unfold Pe at H;split at H
 ·rename_i i D hi hD;split at H
  ·rename_i m hf;split at H
   ·rename_i g' M;split at H
    ·rename_i hc;cases H;rw[Bool.and_eq_true]at hc;have V:m.path=#[]:=by simpa using hc.1
     unfold callMethod;refine xaq (xov ?_);rw[show Made.depth=(Made.depth-1)+1 from rfl,<- Nat.add_assoc];refine xaq ?_;unfold method;refine xaq (xkx hi ?_);rw[hf];simp only;rw[V];refine xaq (xbq ?_);rw[M];simp only;refine xaq ?_;unfold receiverAt;refine xaq (xcq hD ?_);have O:Nz D=false:=by simpa using hc.2
     cases D with
     |pointer e=>cases O
     |_=>exact xbq (xbq (xnb hg k))
    ·cases H
   ·cases H
  ·cases H
 ·cases H
theorem yul{pos:String}{g:FuncId}
 (M:evl tm x=.iface T v)(H:v::args.map (evl tm)=vs)(V:Pe P T name=some g)(O:Ao P g=true):
 wpS P (execOp (evl tm) ⟨d,.call ⟨.invoke x name,args.toArray,ats⟩,ty,pos,aft,gd⟩) h fun n h'=>n=.enter g vs.toArray/\h'=h:=by
 simp only[execOp];refine xaq ?_;unfold resolve;simp only[M];refine xbq ?_;simp only[invoke];have e0:(#[Value.iface T v]++args.toArray.map (evl tm))[0]?=some (.iface T v):=by simp
 rw[e0];simp only;refine xhp V O ⟨?_,rfl⟩;rw[<- H];simp;exact List.take_of_length_le s_
section
variable{r:Rd}{k:List Item}{cs:List Frame}{Stop:Goroutine->Heap->Prop}
theorem yht[Stb Φ]{pos:String}{g:FuncId}
 (hm:Met ops tm ⟨d,.call ⟨.invoke x name,args.toArray,ats⟩,ty,pos,aft,gd⟩ true)(V:evl tm x=.iface T v)(O:v::args.map (evl tm)=vs)(H:Pe P T name=some g)(hg:Ao P g=true)
 (hc:∀h,Φ h->Ac P md g vs.toArray h R)(n:∀v,RL P md f r df k cs Stop ops rest (Cz tm d v) (R v)):
 RL P md f r df k cs Stop ops (⟨d,.call ⟨.invoke x name,args.toArray,ats⟩,ty,pos,aft,gd⟩::rest) tm Φ:=by
 intro M e;rw[xlw];refine ylz (xhf e) (xxq hm) xtw rfl (fun h y=>by rw[xbz];exact yul V O H hg) hc fun v h' hR=>?_;have:=n v (M++[⟨d,.call ⟨.invoke x name,args.toArray,ats⟩,ty,pos,aft,gd⟩]) (by simp[e]) h' hR;rw[xyq];simpa[FL]using this
end
section
variable{X:Cx}{k:List Item}{LL:List Pcs}{pos:String}{A S:TypeId}
theorem ymz{g:FuncId}(V:evS l x=some ([],.iface T v))(H:D4 l args=some ([],vs))(hm:Pe X.P T name=some g)
 (hc:∀h,Per p h->Ac X.P X.md g (v::vs).toArray h fun v' h'=>v'=u/\Av h h')(n:RO X k ops rest (ent d none u l) p LL)(hf:Ao X.P g=true:=by kernel_rfl):
 RO X k ops (⟨d,.call ⟨.invoke x name,args.toArray,ats⟩,ty,pos,aft,none⟩::rest) l p LL:=⟨fun O tm M E=>
 yht (R:=fun v h=>v=u/\St X.z9 X.zz p h LL.flatten) (xoq rfl) (xdq E V trivial) (by rw[xlx E H trivial]) hm hf
  (fun h s=>(hc h fun b o e=>s.per b o e).mono fun _ _⟨q,kk⟩=>⟨q,s.call kk⟩)
  fun v=>xyx fun q=>by subst q;exact n.run (xfq O).1 _ (A0.trans M) (E.ent (g:=none) M (xfq O).2)⟩
theorem yt0{z:Value}(M:P.underlying A=some D)(V:M6 D=false)(O:Ep P A=some z)(H:evl tm x=.iface T v):Exd P tm ⟨d,.typeAssert x S A true,ty,pos,aft,none⟩ h (if T=A then .tuple #[v,.bool true]else .tuple #[z,.bool false]):=by
 refine xbj (s:=Instr.typeAssert (.iface T v) S A true) (by simp only[execOp,H]) ?_;unfold Instr.typeAssert;refine xaq (xcq M ?_);cases D with
 |interface _=>cases V
 |_=>
   simp only;split
   ·exact xbq ⟨rfl,rfl⟩
   ·exact xaq (xzx O (xbq ⟨rfl,rfl⟩))
theorem yom{z:Value}(H:evS l x=some ([],.iface T v))(hA:X.P.underlying A=some D)(O:Ep X.P A=some z)(M:(if T=A then Value.tuple #[v,.bool true]else .tuple #[z,.bool false])=u)(n:RO X k ops rest (ent d none u l) p LL)(V:M6 D=false:=by rfl):RO X k ops (⟨d,.typeAssert x S A true,ty,pos,aft,none⟩::rest) l p LL:=
 xtb (g:=none) rfl rfl (fun _ _ E _=>M ▸ yt0 hA V O (xdq E H trivial)) n
end
end Go.X
