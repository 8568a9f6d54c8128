/-
  Part of proofs about a town's master: a calculus for Bc beside goroutines that are only leaving, and the Bc. No condition.
-/
import Derived.Test.YtofhlcococeifaaGreatDoorYJ
import Derived.Test.YtofhlcococeifaaGreatDoorYB
namespace Go.X
open Go.Conc Go.Conc.Lib
open Go.ConcR (DC0)
open Go.ConcN (WgLive)
variable{aft:Array Edge}{ats:Array TypeId}{xs:Array Value}{b:Bool}{l:Env}{zq:Frame}{fn:Func}{f:FuncId}{h h' z9:Heap}{cl:List (List Nat)}{es news:List (List Value)}{df:List Deferred}{cs:List Frame}{effs s todo zz:List Nat}{ops rest:List Oper}{args:List Operand}{ss:List Prop}{cap first tm vs:List Value}{md:Md}{by' dd i id j n nn off w:Nat}{x y:Operand}{gd:Option (Nat×Bool)}{g:Option Bool}{p:Ab}{Y:Pcs}{P:Program}{T T' eT eX sT t ty xT:TypeId}{u v z:Value}{R:Value->Heap->Prop}
section
variable{X:Cx}{k:List Item}{LL LR:List Pcs}{pos:String}
theorem ylc{g:FuncId}(H:D4 l args=some ([],vs))(n:RO {X with df:=dcall g vs.toArray::X.df} k ops rest l p LL)(V:X.r.round=none:=by rfl):
 RO X k ops (⟨none,.defer ⟨.value (.func g),args.toArray,ats⟩,ty,pos,aft,none⟩::rest) l p LL:=
 ⟨fun M tm O E=>yrc (xoq rfl) (xlx E H trivial) V (n.run (xfq M).1 tm O E)⟩
theorem Qf{c:Code}{args:List Value}{Stop:Goroutine->Heap->Prop}{LL:List Pcs}(s:St z9 zz p h LL.flatten)(hf:P.funcs[f]?=some fn)
 (x:RE ⟨P,md,f,.dfd,fn.ntmps,[],cs,Stop,z9,zz⟩ [.code c] (Fb 0 args) p LL)(M:fn.body=some c:=by rfl)(hn:Nat.ble args.length fn.ntmps=true:=by rfl):Reach P md (G (Frame.enter P f args.toArray .deferred) cs) h Stop:=
 yzd (Φ:=fun h'=>St z9 zz p h' LL.flatten) hf M rfl (x.run _ (by have:=Nat.le_of_ble_eq_true hn;simp;omega) fun i g v O=>by
  obtain⟨rfl,m,rfl,H⟩:=xvc O;rw[Nat.zero_add,List.getElem?_append_left (by simpa using(List.getElem?_eq_some_iff.1 H).1)];simpa[cv]using H) s
theorem ywc{r:Nat}{Stop:Goroutine->Heap->Prop}[i:Bx LL r (.deferred (some [])) LR]
 (x:∀tm td h,St z9 zz p h ((r,.deferred none)::LR.flatten)->Reach P md (G (FR (B f .dfd) tm df td) (zq::cs)) h Stop):RE ⟨P,md,f,.dfd,n,mark r::df,zq::cs,Stop,z9,zz⟩ [] l p LL:=
 ⟨fun _ _ _=>xyg (yef (i:=0) (L:=(r,.deferred (some []))::LR.flatten) rfl fun td h s=>x _ td h s) fun _ s=>s.bx i⟩
def Qc(X:Cx)(k:List Item)(ops rest:List Oper)(l:Env)(gb:Goroutine):Prop:=
 ∀(V:Md)(H:Goroutine->Heap->Prop)(O:Heap)(M:List Nat)(p':Ab)(LL':List Pcs)(h':Heap),RO {X with md:=V,Stop:=H,z9:=O,zz:=M } k ops rest l p' LL'->St O M p' h' LL'.flatten->Reach X.P V gb h' H
variable{L:WgLink}{Wg:Nat}
theorem yph(H:WgLib X.P L)(a6:D4 l args=some ([],[w_ Wg 0,.J 1]))(hc:Ao X.P L.add=true)
 (x:∀V O,(∀w,WgLive L.tWg Wg w-> ∃m,Goes X.P true (RLv L.tWg Wg) DC0 (AtKdS X.P L.tWg Wg O) m V w)->Qc X k ops rest ((dd,none,.tuple #[])::l) O-> ∀h,St X.z9 X.zz p h LL.flatten->Reach X.P X.md V h X.Stop)(hr:X.r.round=none:=by rfl):
 RO X k ops (⟨some dd,.call ⟨.value (.func L.add),args.toArray,ats⟩,ty,pos,aft,none⟩::rest) l p LL:=⟨fun ok tm ht E=>
 ykt H (xoq rfl) (xlx E a6 trivial) hr hc rfl fun V O a5 a2 h s=>x V O a5 (fun a4 M a7 a3 p' LL' h' n s'=>
  a2 a4 _ M h' (n.run (xfq ok).1 _ (by simp[ht]) (E.set (g:=none) (ht ▸ (xfq ok).2 dd rfl))) s') h s⟩
theorem yxs{g:FuncId}(hx:evS l x=some ([],.func (.func g) first.toArray cap.toArray))(a2:D4 l args=some ([],vs))
 (n:∀M gn,M.status=.running->(∀w,stepG X.P true M w=.spawn gn (born X.P {target:=.fn (.func g) cap.toArray,args:=(first++vs).toArray}) w #[])->Qc X k ops rest l gn-> ∀h,St X.z9 X.zz p h LL.flatten->Reach X.P X.md M h X.Stop)(hr:X.r.round=none:=by rfl):
 RO X k ops (⟨none,.go ⟨.value x,args.toArray,ats⟩,ty,pos,aft,none⟩::rest) l p LL:=⟨fun ok _ ht E=>
 ys3 (xoq rfl) (xdq E hx trivial) (xlx E a2 trivial) hr fun M gn h1 h2 O h s=>n M gn h1 h2 (fun V H _ _ _ _ h' n s'=>O V _ H h' (n.run (xfq ok).1 _ ht E) s') h s⟩
theorem ynm(H:WgLib X.P L)(a5:D4 l args=some ([],[w_ Wg 0]))(hc:Ao X.P L.wait=true)
 (x:∀ge gb(An:Goroutine->World->Prop),(∀g w,An g w->g.status=.running)->(∀g w,An g w-> ∃m,Goes X.P true (RLv L.tWg Wg) DC0 (AtW1 X.P L.tWg Wg gb An) m g w)->(∀w,WgLive L.tWg Wg w-> ∃m,Goes X.P true (RLv L.tWg Wg) DC0 (AtKd X.P L.tWg Wg An) m ge w)->
  gb.status=.running->(∀(a4:Md)(M:Goroutine->Heap->Prop)(V:Heap)(O:List Nat)(p':Ab)(LL':List Pcs)(h':Heap),RE {X with md:=a4,Stop:=M,z9:=V,zz:=O } k ((dd,none,.tuple #[])::l) p' LL'->St V O p' h' LL'.flatten->Reach X.P a4 gb h' M)->
  ∀h,St X.z9 X.zz p h LL.flatten->Reach X.P X.md ge h X.Stop)(hr:X.r.round=none:=by rfl):
 RO X k ops [⟨some dd,.call ⟨.value (.func L.wait),args.toArray,ats⟩,ty,pos,aft,none⟩] l p LL:=⟨fun ok tm ht E=>
 yum H (xoq rfl) (xlx E a5 trivial) hr hc rfl fun ge gb An a1 a2 a3⟨q,e,e2⟩h s=>x ge gb An a1 a2 a3 (by rw[e];rfl) (fun a4 M V O p' LL' h' n s'=>by
  have e3:q=[]:=by rw[e2];simp
  subst e3;rw[e];exact xcf (n.run _ (by simp[ht]) (E.set (g:=none) (ht ▸ (xfq ok).2 dd rfl))) h' s') h s⟩
theorem yvc{c:Code}(n:RE X (.code c::.inLoop c::k) l p LL):RE X (.code (.loop c)::k) l p LL:=⟨fun tm H E=>ydf (n.run tm H E)⟩
theorem xfr{c:Code}(n:RE X (.code c::.inLoop c::k) l p LL):RE X (.inLoop c::k) l p LL:=⟨fun tm H E=>ycq (n.run tm H E)⟩
end
section
variable{X:Cx}{k:List Item}{m:Ks}{LF LL LR LR2:List Pcs}{pos:String}{Z:Pcs}
theorem xj2{x':Value}(ho:ops[i]?=some ⟨some dd,.call ⟨.builtin .append,#[x,y],#[sT,xT]⟩,ty,pos,aft,none⟩)(hx:evS l x=some ([],v))(hy:evS l y=some ([],x'))(o1:Aa eT w v es Y)(o2:Aa eT w x' news Z)(h1:∀u∈news.flatten,Bj u=true)(M:(es.length+news.length)*by'<=2^45)
 [i1:Rm LL Y LR][i2:Rm LR Z LR2][hT:Ca X.P sT eT][hs:Ak X.P eT w][hz:Bg X.P eT z][hb:ByC X.P eT by'][hX:Ca X.P xT eX](nx:∀v' H,Aa eT w v' (es++news) H->DE X k ops m p LF effs todo ((dd,none,v')::l) (H::LR2))
 (he:effs.contains i=true:=by rfl)(a2:z.cells.size=w:=by rfl)(V:0<by'/\by'<=2^20:=by decide):DE X k ops m p LF effs (i::todo) l LL:=
 ⟨.eff (U:=Y++Z) (LR:=LR2) (Q:=fun v' H=>Aa eT w v' (es++news) H) ho (by simpa using he) (i1.h.trans (by rw[List.append_assoc];exact List.Perm.append_left Y i2.h)) (fun tm _ E=>⟨rfl,xoq rfl,fun C h s=>.inl (by
  rw[List.append_assoc]at s;exact Ex.exv (xqg [] hT.h hs.h hz.h a2 hb.h hX.h (xdq E hx trivial) (xdq E hy trivial) o1 s (xql (L₁:=Y) o2 s) h1 M V fun v' X' h' O s'=>⟨X',O,s'.sub (by
   simp only[List.nil_append];exact(List.Sublist.refl X').append (List.sublist_append_right Z (LF.flatten++C)))⟩))⟩) fun v' H O=>(nx v' H O).run⟩
end
open Go.Conc
variable{K:Env->List Pcs->Prop}{ff:FuncId}{kk:IntKind}{o:Oper}{d:Option Tmp}{Q:Value->Pcs->Prop}
section
variable{X:Cx}{k:List Item}{m:Ks}{LF LL LR:List Pcs}{pos:String}
theorem xgl{cap:Nat}{a:Option Addr}(ho:ops[i]?=some ⟨some dd,.call ⟨.builtin .append,#[x,y],#[sT,xT]⟩,ty,pos,aft,none⟩)(hx:evS l x=some ([],v))(hy:evS l y=some ([],.slice a n cap))(o1:Aa eT w v es Y)(o2:Sl p a n w news)(h1:∀u∈news.flatten,Bj u=true)(M:(es.length+n)*by'<=2^45)
 [i1:Rm LL Y LR][hT:Ca X.P sT eT][hs:Ak X.P eT w][hz:Bg X.P eT z][hb:ByC X.P eT by'][hX:Ca X.P xT eX](nx:∀v' H,Aa eT w v' (es++news) H->DE X k ops m p LF effs todo ((dd,none,v')::l) (H::LR))
 (he:effs.contains i=true:=by rfl)(a2:z.cells.size=w:=by rfl)(V:0<by'/\by'<=2^20:=by decide)(a3:0<w:=by decide):DE X k ops m p LF effs (i::todo) l LL:=
 ⟨.eff (U:=Y) (LR:=LR) (Q:=fun v' H=>Aa eT w v' (es++news) H) ho (by simpa using he) i1.h (fun tm _ E=>⟨rfl,xoq rfl,fun C h s=>.inl (
  Ex.exv (xqg [] hT.h hs.h hz.h a2 hb.h hX.h (xdq E hx trivial) (xdq E hy trivial) o1 s (xug s a3 o2) h1 M V fun v' X' h' O s'=>⟨X',O,s'⟩))⟩) fun v' H O=>(nx v' H O).run⟩
theorem xdr{LL:List Pcs}{Q:Bool->Prop}(hg:gdc ops l gd=some g)(hx:evS l x=some ([],.func (.func ff) first.toArray cap.toArray))(O:D4 l args=some (ss,vs))(hs:Bn g (Bl ss))
 (hc:∀h,Per p h->Ac X.P X.md ff (first++(vs++cap)).toArray h fun v' h'=>(∃q,v'=.bool q/\Q q)/\Av h h')(n:∀q:Bool,Bn g (Q q)->RO X k ops rest (ent d g (.bool q) l) p LL)(hf:Ao X.P ff=true:=by kernel_rfl):
 RO X k ops (⟨d,.call ⟨.value x,args.toArray,ats⟩,ty,pos,aft,gd⟩::rest) l p LL:=by
 constructor;intro ok tm M E;have H:=xfq ok;rcases xgv (o:=⟨d,.call ⟨.value x,args.toArray,ats⟩,ty,pos,aft,gd⟩) E hg with⟨e,V⟩|⟨c',e,V⟩
 ·subst e
  exact xdv (R:=fun v h=>(∃q,v=.bool q/\Q q)/\St X.z9 X.zz p h LL.flatten) V (xdq E hx trivial) (by rw[xlx E O hs]) hf
   (fun h s=>(hc h fun b o e=>s.per b o e).mono fun _ _⟨q,kk⟩=>⟨q,s.call kk⟩)
   fun v=>xyx fun⟨q,e,hq⟩=>by subst e;exact(n q hq).run H.1 _ (A0.trans M) (E.ent (g:=none) M H.2)
 ·subst e;cases c' with
  |true=>
    exact xdv (R:=fun v h=>(∃q,v=.bool q/\Q q)/\St X.z9 X.zz p h LL.flatten) V (xdq E hx trivial) (by rw[xlx E O (hs rfl)]) hf
     (fun h s=>(hc h fun b o e=>s.per b o e).mono fun _ _⟨q,kk⟩=>⟨q,s.call kk⟩)
     fun v=>xyx fun⟨q,e,hq⟩=>by subst e;exact(n q fun _=>hq).run H.1 _ (A0.trans M) (E.ent (g:=some true) M H.2)
  |false=>exact xub V rfl ((n false fun e=>by cases e).run H.1 _ (A0.trans M) (E.ent (g:=some false) M H.2))
end
def Fe(n m:Nat)(p:Ab):Pcs:=(List.range m).filterMap fun c=>if n<=c then(p c).map fun o=>(c,o)else none
theorem xal{m:Nat}{x:Nat×Obj}:x∈Fe n m p<->x.1<m/\n<=x.1/\p x.1=some x.2:=by
 unfold Fe;rw[List.mem_filterMap];constructor
 ·rintro⟨c,hc,e⟩;split at e
  ·rename_i h;obtain⟨o,H,rfl⟩:=Option.map_eq_some_iff.1 e;exact⟨List.mem_range.1 hc,h,H⟩
  ·cases e
 ·rintro⟨h1,h2,h3⟩;exact⟨x.1,List.mem_range.2 h1,by rw[if_pos h2,h3];rfl⟩
theorem xcb{f:Nat->Option (Nat×Obj)}(h:∀c x,f c=some x->x.1=c):∀l:List Nat,(l.filterMap f).map (·.1)=l.filter fun c=>(f c).isSome
 |[]=>rfl
 |c::l=>by
   cases e:f c with
   |none=>rw[List.filterMap_cons_none e,List.filter_cons_of_neg (by rw[e];simp),xcb h l]
   |some x=>rw[List.filterMap_cons_some e,List.filter_cons_of_pos (by rw[e];rfl),List.map_cons,xcb h l,h c x e]
theorem xi1{m:Nat}:((Fe n m p).map (·.1)).Nodup:=by
 unfold Fe;rw[xcb]
 ·exact List.Nodup.sublist List.filter_sublist List.nodup_range
 ·intro c x e;split at e
  ·obtain⟨o,_,rfl⟩:=Option.map_eq_some_iff.1 e;rfl
  ·cases e
theorem Cn.pieces{p:Ab}{h h':Heap}{Q:Value->Ab->Prop}{v:Value}(x:Cn p h Q v h'):∃Y,(∃p',Q v p'/\ ∀H,PLe p H->(∀y∈Y,H y.1=some y.2)->PLe p' H)/\New h h' Y:=by
 obtain⟨p',g,q,k,V⟩:=x;refine⟨Fe h.size h'.size p',⟨p',q,fun H le M c o hc=>?_⟩,k,fun y M=>?_,xi1⟩
 ·by_cases O:c<h.size
  ·exact le c o (by rw[<- g.old c O s_];exact hc)
  ·exact M (c,o) (xal.2 ⟨xix (V c o hc),om,hc⟩)
 ·obtain⟨_,h2,h3⟩:=xal.1 M;exact⟨V _ _ h3,h2⟩
theorem St.Dj{z9 h:Heap}{zz:List Nat}{L:Pcs}:∀{Y:Pcs}{p:Ab},St z9 zz p h (Y++L)-> ∃p',(PG z9.size zz p p'/\ ∀H,PLe p H->(∀y∈Y,H y.1=some y.2)->PLe p' H)/\(∀y∈Y,p' y.1=some y.2)/\St z9 zz p' h L
 |[],p,s=>⟨p,⟨.refl _ _ _,fun _ le _=>le⟩,s_,s⟩
 |(b,o)::Y,p,s=>by
   have s1:St z9 zz p h ((b,o)::(Y++L)):=s;obtain⟨p',⟨g,V⟩,M,O⟩:=(s1.last.2).Dj (Y:=Y);refine⟨p',⟨(s1.pg s_).trans g,fun H le h=>V H (fun c q hc=>?_) fun y M=>h y (List.mem_cons_of_mem _ M)⟩,fun y m=>?_,O⟩
   ·unfold Hf at hc;split at hc
    ·rename_i e;subst e;cases hc;exact h (c,o) s_
    ·exact le c q hc
   ·rcases List.mem_cons.1 m with rfl|m
    ·exact g.le _ _ xyk
    ·exact M y m
theorem ynq{pos:String}{a:Bool}(O:P.underlying T=some .bool)(H:evl tm x=.bool a)(M:evl tm y=.bool b):
 Exd P tm ⟨d,.binOp .neq T x y T',ty,pos,aft,gd⟩ h (.bool (!(a==b))):=by
 refine xrx H M (fun K z=>xc2 z) ?_;simp only[binOp,Op.equal,Op.maxDepth];refine xaq (xt8 O ?_);exact xbq ⟨rfl,rfl⟩
section
variable{X:Cx}{k:List Item}{m:Ks}{LF LL LR L3:List Pcs}{pos:String}{ss':List Prop}{ys:Array Value}{q:Bool}
theorem xjz(Y:Pcs)[i:Rm LL Y LR](n:∀p',PG X.z9.size X.zz p p'->(∀y∈Y,p' y.1=some y.2)->RO X k ops rest l p' LR):RO X k ops rest l p LL:=⟨fun O tm ht E H e h s=>by
 obtain⟨p',⟨g,_⟩,V,M⟩:=(s.rm i).Dj;exact(n p' g V).run O tm ht E H e h M⟩
theorem xhb(Y:Pcs)[ii:Rm LL Y LR](O:ops[i]?=some ⟨d,.call ⟨.value x,args.toArray,ats⟩,ty,pos,aft,none⟩)
 (M:evS l x=some ([],.func (.func ff) first.toArray cap.toArray))(H:D4 l args=some ([],vs))(hc:∀h L,St X.z9 X.zz p h (Y++L)->Ac X.P X.md ff (first++(vs++cap)).toArray h fun v' h'=>∃Z,Q v' Z/\New h h' Z)(n:∀v Z,Q v Z->DE X k ops m p LF effs todo (ent d none v l) ((Z++Y)::LR))
 (he:effs.contains i=true:=by rfl)(hf:Ao X.P ff=true:=by kernel_rfl):DE X k ops m p LF effs (i::todo) l LL:=
 ⟨.eff (U:=Y) (LR:=LR) (Q:=fun v x=>∃Z,x=Z++Y/\Q v Z) O (by simpa using he) ii.h (fun _ _ E=>⟨rfl,xoq rfl,fun C h s=>.inr <| .inl ⟨ff,_,xuw (xdq E M trivial) (by rw[xlx E H trivial]) hf,(hc h _ s).mono fun _ _⟨Z,q,nn⟩=>⟨Z++Y,⟨Z,rfl,q⟩,by
  have s2:=s.K4 nn;rwa[List.append_assoc]⟩⟩⟩) fun v x⟨Z,e,q⟩=>by subst e;exact(n v Z q).run⟩
theorem yol(O:evS l x=some (ss,.agg xs))(hy:evS l y=some (ss',.agg ys))(hs:Bn g (Bl ss))(M:Bn g (Bl ss'))(e:∀h(K:Bool->Heap->Prop),K q h->wpS X.P (Op.equalIn (9999+1) T (.agg xs) (.agg ys)) h K)(H:X.P.eqGuardType X.P.depth T=false:=by kernel_rfl):Yl X p LL l g (.binOp .neq T x y T') (.bool (!q)):=⟨rfl,(xnk hs M fun V h2 _ _ _ E _=>ymq H e (xdq E O V) (xdq E hy h2))⟩
theorem yh3{a:Bool}(M:evS l x=some (ss,.bool a))(V:evS l y=some (ss',.bool b))(hs:Bn g (Bl ss))(H:Bn g (Bl ss'))(ht:X.P.underlying T=some .bool:=by kernel_rfl):Yl X p LL l g (.binOp .neq T x y T') (.bool (!(a==b))):=⟨rfl,(xnk hs H fun O h2 _ _ _ E _=>ynq ht (xdq E M O) (xdq E V h2))⟩
theorem yjw{b:Nat}{cs:Array Value}{z:Nat×Nat}(V:ops[i]?=some ⟨d,.load t x,ty,pos,aft,gd⟩)(M:gdc ops l gd=some g)(H:evS l x=some (ss,w_ b off))(hs:Bn g (Bl ss))[a:Cd X.P t true][sz:Ak X.P t nn][mm:Bx LL b (.cells cs T z) LR]
 (n:DE X k ops m p LF effs todo (ent d g (.agg ((cs.toList.drop off).take nn).toArray) l) LL)(hn:((cs.toList.drop off).take nn).length=nn:=by rfl)(O:Ot ops effs todo i=true:=by kernel_rfl):DE X k ops m p LF effs (i::todo) l LL:=
 xj8 V M rfl (xjx hs fun hs _ _ E s=>xmg (i:=0) (s.perm (List.perm_append_comm.trans (List.Perm.append_right LF.flatten mm.h))) a.h sz.h (xdq E H hs) rfl rfl hn) n O
theorem yel{b H:Nat}{cs:List Value}(ho:ops[i]?=some ⟨none,.store T x y,ty,pos,aft,none⟩)(O:evS l x=some ([],w_ b off))(hy:evS l y=some ([],v))[sz:Ak X.P T H][mm:Bx LF b (.cells cs.toArray T' (0,0)) LR](hs:Ce cs off v.cells.toList=cs)
 (n:DE X k ops m p LF effs todo l ([]::LL))(he:effs.contains i=true:=by rfl)(hv:v.cells.size=H:=by rfl)(V:v.cells.toList.all Bj=true:=by rfl)(hlen:off+v.cells.size<=cs.length:=by exact Nat.le_of_ble_eq_true rfl):DE X k ops m p LF effs (i::todo) l LL:=
 ⟨.eff (U:=[]) (LR:=LL) (Q:=fun _ x=>x=[]) ho (by simpa using he) (List.Perm.refl _) (fun tm _ E=>⟨rfl,xoq rfl,fun C h s=>.inl (by
  unfold Exv;simp only[execOp,xdq E O trivial,xdq E hy trivial];refine xaq ?_;unfold Instr.storeAt;refine xaq (xbq ?_);unfold storeVar;refine xaq (xvq sz.h ?_);rw[if_neg (by simpa using hv)];have s0:St X.z9 X.zz p h ((b,.cells cs.toArray T' (0,0))::(LR.flatten++C)):=s.perm (xul mm);refine xpz (i:=0) s0 rfl (by simpa using hlen) (fun u hu=>List.all_eq_true.1 V u hu) fun h' M=>?_;refine xbq ⟨_,.inr ⟨rfl,rfl⟩,[],rfl,?_⟩;rw[Nat.add_zero,hs]at M;exact M.perm (xul mm).symm)⟩) fun v x e=>by subst e;exact n.run⟩
end
theorem xrg{P : Program}{dd : Nat}{xs : Array Value}: ∀{fs : List Field}, (∀f ∈ fs, f.name ≠ "_" /\ P.underlying f.type = some (.int .i64) /\ Gs P f.type = some false /\ ∃n, xs[f.offset]? = some (.J n)) -> Pa P (dd + 1) xs xs fs true
 |[],_=>rfl
 |f::fs,h=>by
   obtain⟨h1,h2,h3,n,h4⟩:=h f s_;refine⟨h1,_,_,true,fun h K k=>xlz h3 h4 k,fun h K k=>xlz h3 h4 k,fun h K k=>xpv h2 (by simpa using k),.inr ⟨rfl,xrg fun f hf=>h f (List.mem_cons_of_mem _ hf)⟩⟩
theorem New.of{h h':Heap}(k:Av h h'):New h h' []:=⟨k,s_,s_⟩
theorem xdm{c:Code}{args:List Value}(V:Per p h)(hf:P.funcs[f]?=some fn)(x:RE ⟨P,md,f,.none,fn.ntmps,[],[],Mh P R,h,[]⟩ [.code c] (Fb 0 args) p [])
 (M:fn.body=some c:=by rfl)(hn:Nat.ble args.length fn.ntmps=true:=by rfl):En P md f args.toArray h R:=
 xd2 (Φ:=fun h'=>St h [] p h' []) hf M rfl (fun _=>x.run _ (by have:=Nat.le_of_ble_eq_true hn;simp;omega) fun i g v O=>by
  obtain⟨rfl,m,rfl,H⟩:=xvc O;rw[Nat.zero_add,List.getElem?_append_left (by simpa using(List.getElem?_eq_some_iff.1 H).1)];simpa[cv]using H) (St.start h p V)
theorem xij{t:Tmp}{k:List Item}{LL:List Pcs}(hi:P.inits.idxOf? f=none)(hf:P.funcs[f]?=some fn)(H:fn.results=#[.tmp t])(hv:On l [.tmp t]=some [v])
 (x:∀h,St z9 zz p h LL.flatten->R v h):RE ⟨P,md,f,.none,nn,[],[],Mh P R,z9,zz⟩ (.code .ret::k) l p LL:=
 ⟨fun _ _ E=>ywn hi hf H (fun _ _=>xj3 E hv) rfl x⟩
section
variable{X:Cx}{k:List Item}{m:Ks}{LF LL:List Pcs}{pos:String}
theorem yar{H M e:TypeId}{a:List UInt8}{LR:List Pcs}(ho:ops[i]?=some ⟨d,.convert H M x,ty,pos,aft,none⟩)(V:evS l x=some ([],v))(o:Aa e 1 v (bcs a) Y)[hs:Ca X.P H e][ii:Rm LL Y LR](n:DE X k ops m p LF effs todo (ent d none (sv a) l) LL)
 (O:X.P.underlying M=some .string:=by kernel_rfl)(he:X.P.underlying e=some (.int .u8):=by kernel_rfl)(hb:Ot ops effs todo i=true:=by kernel_rfl):DE X k ops m p LF effs (i::todo) l LL:=
 xj8 (g:=none) ho rfl rfl (fun _ _ E s=>yiq (A:=LF.flatten) (C:=LR.flatten) o (s.perm (List.Perm.append_left _ ii.h)) hs.h O he (xdq E V trivial)) n hb
end
def pun(p q:Ab):Ab:=fun b=>match p b with
 |some o=>some o
 |none=>q b
theorem yv3{q:Ab}:PLe p (pun p q):=fun b o e=>by unfold pun;rw[e]
section
variable{q r:Ab}{L:Pcs}
theorem yu3(l:PLe p q)(M:Per q z9)(g:PG z9.size [] p r):PLe q (pun r q):=fun b o e=>by
 have H:=xix (M b o e);unfold pun;rw[g.old b H s_];cases O:p b with
 |none=>exact e
 |some u=>have:=l b u O;rw[e]at this;exact this.symm
theorem St.pun(s:St z9 [] r h L)(M:Per q z9):St z9 [] (pun r q) h L:=by
 refine⟨s.C3,s.size,fun b o e=>?_,fun x H=>⟨(s.own x H).1,?_,(s.own x H).2.2⟩,s.nod⟩
 ·unfold X.pun at e;split at e
  ·rename_i u O;cases e;exact s.per b _ O
  ·have:=M b o e;rw[s.C3 b (xix this) s_];exact this
 ·unfold X.pun;rw[(s.own x H).2.1];rcases(s.own x H).2.2 with z|z
  ·cases e:q x.1 with
   |none=>rfl
   |some o=>have:=xix (M _ _ e);omega
  ·simp at z
end
section
variable{X:Cx}{k:List Item}{m:Ks}{LF LL LR:List Pcs}{pos:String}
end
def pureOk(ops:List Oper):Bool:=
 ops.zipIdx.all fun(o,i)=>Gv o.op&&ops.zipIdx.all fun(o',j)=>match o'.dst with
  |some d=>(decide (i=j)||decide (o.dst≠some d))&&(!(looks ops o).contains d||(Bm o).contains j||(Bm o').contains i)
  |none=>true
def blankO(o:Oper):Oper:={o with dst:=none,op:=.move (.const undef),guard:=none}
theorem xmf(hs:pureOk ops=true)(ho:ops[i]?=some o):
 Gv o.op=true/\ ∀(j:Nat)(H:Oper)(d:Nat),ops[j]?=some H->H.dst=some d->(i=j\/o.dst≠some d)/\(d∈looks ops o->j∈Bm o\/i∈Bm H):=by
 unfold pureOk at hs;have h:=List.all_eq_true.1 hs (o,i) (List.mem_zipIdx_iff_getElem?.2 ho);simp only[Bool.and_eq_true,List.all_eq_true]at h;refine⟨h.1,fun j H d M V=>?_⟩;have O:=h.2 (H,j) (List.mem_zipIdx_iff_getElem?.2 M);simp only[V,Bool.and_eq_true,Bool.or_eq_true,decide_eq_true_eq,Bool.not_eq_true',List.contains_eq_mem,decide_eq_false_iff_not]at O;refine⟨O.1,fun hl=>?_⟩;rcases O.2 with(x|x)|x
 ·exact absurd hl x
 ·exact .inl x
 ·exact .inr x
theorem yik{m:Region.Mode}{a b:Array Oper}(hs:a.size=b.size)(h:∀i:Nat,(a[i]?).map (·.after)=(b[i]?).map (·.after))(t:Nat):Region.linearise m a t=Region.linearise m b t:=by
 have key:∀(fuel t:Nat)(l:Array Bool)(acc:List Nat),Region.linearise.go m a fuel t l acc=Region.linearise.go m b fuel t l acc:=by
  intro fuel
  induction fuel with
  |zero=>intro t l acc;rfl
  |succ n ih=>
    intro t l acc;have e:((List.range a.size).filter fun i=>!l.getD i true&&((a[i]?).map (·.after.all fun e=>!Region.binds m e||l.getD e.on false)).getD false)=(List.range b.size).filter fun i=>!l.getD i true&&((b[i]?).map (·.after.all fun e=>!Region.binds m e||l.getD e.on false)).getD false:=by
     rw[hs];refine List.filter_congr fun i _=>?_;have:=congrArg (Option.map fun x:Array Edge=>x.all fun e=>!Region.binds m e||l.getD e.on false) (h i);rw[Option.map_map,Option.map_map]at this;exact congrArg (fun z:Option Bool=>!l.getD i true&&z.getD false) this
    simp only[Region.linearise.go];rw[e];split
    ·exact ih _ _ _
    ·rfl
 unfold Region.linearise;rw[hs];exact key _ _ _ _
theorem yrj{m:Nat}{l:Array Bool}(h:Ord (ops.map blankO) m l s):Ord ops m l s:=by
 induction h with
 |nil h=>exact .nil h
 |cons hi ho hn hp _ ih=>
   rw[List.getElem?_map]at ho;obtain⟨M,H,rfl⟩:=Option.map_eq_some_iff.1 ho;exact .cons hi H hn hp ih
section
variable{LF C:Pcs}{r:Rd}{k:List Item}{Stop:Goroutine->Heap->Prop}{tm0 tmv:List Value}
structure WP(P:Program)(md:Md)(ops:List Oper)(n:Nat)(z9:Heap)(zz:List Nat)(p:Ab)(LF C:Pcs)(tm0 tmv:List Value)(todo:List Nat):Prop where
 lv:tmv.length=n
 pend:∀(j:Nat)(o:Oper),ops[j]?=some o->j∉todo-> ∃u tmj,Hm P md ops z9 zz p LF C o tmj u/\(∀d,o.dst=some d->tmv[d]?=some u)/\(∀t∈looks ops o,∀(i:Nat)(oi:Oper),ops[i]?=some oi->oi.dst=some t->i∈Bm o->tmj[t]?=tmv[t]?)/\
  ∀t∈looks ops o,(∀(i:Nat)(oi:Oper),ops[i]?=some oi->oi.dst=some t->j∈Bm oi)->tmj[t]?=tm0[t]?
 vinit:∀t,(∀(i:Nat)(oi:Oper),ops[i]?=some oi->oi.dst=some t->i∈todo)->tmv[t]?=tm0[t]?
 back:∀(j:Nat)(o:Oper),ops[j]?=some o->j∉todo-> ∀x∈Bm o,x∉todo
theorem WP.adv(hp:pureOk ops=true){i:Nat}{o:Oper}{u:Value}(ho:ops[i]?=some o)(hd:∀d,o.dst=some d->d<n)(a6:i∉todo)(a3:∀x∈Bm o,x∉i::todo)(W:WP P md ops n z9 zz p LF C tm0 tmv (i::todo))
 (hT:Hm P md ops z9 zz p LF C o tmv u):WP P md ops n z9 zz p LF C tm0 (Cz tmv o.dst u) todo:=by
 have O:∀{j:Nat}{oj:Oper}{t:Nat},ops[j]?=some oj->oj.dst=some t->o.dst=some t->j=i:=fun{j oj t}hj M e=>(((xmf hp hj).2 i o t ho e).1.resolve_right fun z=>z M)
 refine⟨by rw[xkj];exact W.lv,fun j oj H M=>?_,fun t ht=>?_,fun j oj H M x hx=>?_⟩
 ·by_cases e:j=i
  ·subst e;rw[ho]at H;cases H;refine⟨u,tmv,hT,fun d e=>xrc e (by rw[W.lv];exact hd d e),fun t _ i2 o2 V d2 hx=>?_,fun t _ hw=>W.vinit t fun i2 o2 V d2=>?_⟩
   ·rw[xxz fun e=>?_];have:=O V d2 e;subst this;exact a3 _ hx s_
   ·refine Decidable.byContradiction fun hn=>W.back i2 o2 V hn j (hw i2 o2 V d2) s_
  ·obtain⟨uj,a5,h1,V,h3,h4⟩:=W.pend j oj H (by simp[e,M]);refine⟨uj,a5,h1,fun d a4=>?_,fun t ht i2 o2 a2 d2 hx=>?_,h4⟩
   ·rw[xxz fun e'=>e (O H a4 e')];exact V d a4
   ·rw[xxz fun e'=>?_]
    ·exact h3 t ht i2 o2 a2 d2 hx
    ·have:=O a2 d2 e';subst this;exact W.back j oj H (by simp[e,M]) _ hx s_
 ·rw[xxz fun e=>a6 (ht i o ho e)];exact W.vinit t fun i2 o2 V d2=>List.mem_cons_of_mem _ (ht i2 o2 V d2)
 ·by_cases e:j=i
  ·subst e;rw[ho]at H;cases H;exact fun z=>a3 x hx (List.mem_cons_of_mem _ z)
  ·exact fun z=>W.back j oj H (by simp[e,M]) x hx (List.mem_cons_of_mem _ z)
theorem yij(hp:pureOk ops=true)(a2:∀(i:Nat)(o:Oper)(d:Nat),ops[i]?=some o->o.dst=some d->d<n){LL:List Pcs}(D:DR P md ops n z9 zz p LF [] K todo l LL):
 ∀(tmv:List Value)(done:List Nat),WP P md ops n z9 zz p LF LL.flatten tm0 tmv todo->B0 tmv l->Ef ops cl [] done todo=true->(∀x∈done,x∉todo)-> ∃l' a3,K l' LL/\B0 a3 l'/\WP P md ops n z9 zz p LF LL.flatten tm0 a3 []:=by
 induction D with
 |nil kk=>exact fun tmv _ W E _ _=>⟨_,tmv,kk,E,W⟩
 |@det i todo o l LL g v ho h nx ih=>
   intro tmv done W E ok O;obtain⟨o',M,h1,_,h3,h4⟩:=xsk ok;rw[ho]at M;cases M;have V:i∉todo:=fun z=>xyz h4 i z s_;exact ih _ (i::done) (W.adv hp ho (fun d=>a2 i o d ho) V (fun x H=>O x (h1 x H)) (h tmv W.lv E).a) (E.ent W.lv fun d=>a2 i o d ho) h4 fun x H z=>by
    rcases List.mem_cons.1 H with rfl|H
    ·exact V z
    ·exact O x H (List.mem_cons_of_mem _ z)
 |@pin i todo o l LL g v ho _ h nx ih=>
   intro tmv done W E ok O;obtain⟨o',M,h1,_,h3,h4⟩:=xsk ok;rw[ho]at M;cases M;have V:i∉todo:=fun z=>xyz h4 i z s_;exact ih _ (i::done) (W.adv hp ho (fun d=>a2 i o d ho) V (fun x H=>O x (h1 x H)) (by have:=h tmv W.lv E [];rwa[List.append_nil]at this)) (E.ent W.lv fun d=>a2 i o d ho) h4 fun x H z=>by
    rcases List.mem_cons.1 H with rfl|H
    ·exact V z
    ·exact O x H (List.mem_cons_of_mem _ z)
 |N6 _ he=>cases he
theorem yzc(hp:pureOk ops=true)(b0:∀(i:Nat)(o:Oper)(d:Nat),ops[i]?=some o->o.dst=some d->d<n)(W:WP P md ops n z9 zz p LF C tm0 tmv [])
 (hK:RS P md (G (FL f r tmv df (.inRegion ops.toArray []::k)) cs) (fun h=>St z9 zz p h (LF++C)) Stop):∀(s:List Nat)(O:Array Bool)(a4:List Value),Ord ops ops.length O s->O.size=ops.length->a4.length=n->
  (∀(j:Nat)(o:Oper)(t:Nat),ops[j]?=some o->o.dst=some t->O.getD j false=true->a4[t]?=tmv[t]?)->(∀t,(∀(j:Nat)(o:Oper),ops[j]?=some o->o.dst=some t->O.getD j false=false)->a4[t]?=tm0[t]?)->
  (∀(j:Nat)(o:Oper),O.getD j false=true->ops[j]?=some o-> ∀x∈Bm o,O.getD x false=true)->
  RS P md (G (FL f r a4 df (.inRegion ops.toArray s::k)) cs) (fun h=>St z9 zz p h (LF++C)) Stop:=by
 intro s
 induction s with
 |nil=>
   intro O a4 a5 _ _ a2 a3 _;cases a5 with
   |nil hall=>
   have:a4=tmv:=List.ext_getElem? fun t=>by
    by_cases e:∃(j:Nat)(o:Oper),ops[j]?=some o/\o.dst=some t
    ·obtain⟨j,o,ho,hd⟩:=e;exact a2 j o t ho hd (hall j (List.getElem?_eq_some_iff.1 ho).1)
    ·rw[a3 t fun j o ho hd=>absurd ⟨j,o,ho,hd⟩ e,W.vinit t fun j o ho hd=>absurd ⟨j,o,ho,hd⟩ e]
   rw[this];exact hK
 |cons i s ih=>
   intro O a4 a5 a6 a7 a2 a3 a8;cases a5 with
   |@cons _ _ _ o hi ho hn hpd hs=>
   obtain⟨u,b4,hT,h2,h3,h4⟩:=W.pend i o ho s_;have a9:O.getD i false=false:=by rw[<- xcc (by rw[a6];exact hi)];exact hn
   have b3:∀t∈looks ops o,a4[t]?=b4[t]?:=fun t ht=>by
    by_cases e:∃(j:Nat)(V:Oper),ops[j]?=some V/\V.dst=some t/\j∈Bm o
    ·obtain⟨j,V,H,M,hx⟩:=e;rw[a2 j V t H M (hpd j hx),h3 t ht j V H M hx]
    ·have ha:∀(j:Nat)(V:Oper),ops[j]?=some V->V.dst=some t->i∈Bm V:=fun j V H M=>(((xmf hp ho).2 j V t H M).2 ht).resolve_left fun hx=>e ⟨j,V,H,M,hx⟩;rw[h4 t ht ha];refine a3 t fun j V H M=>?_;cases hl:O.getD j false with
     |false=>rfl
     |true=>have:=a8 j V hl H i (ha j V H M);rw[a9]at this;cases this
   refine xo5 ho (xom (xmf hp ho).1 b3 hT) (ih _ _ hs (by simpa using a6) (by rw[xkj];exact a7) (fun j V t H M hl=>?_) (fun t ht=>?_) (xvt (by rw[a6];exact hi) ho hpd a8))
   ·by_cases e:i=j
    ·subst e;rw[ho]at H;cases H;rw[xrc M (by rw[a7];exact b0 i _ t ho M),h2 t M]
    ·rw[xxz fun e'=>e (((xmf hp ho).2 j V t H M).1.resolve_right fun z=>z e')];rw[getD_set_ne false e]at hl;exact a2 j V t H M hl
   ·rw[xxz fun e=>by have:=ht i o ho e;rw[xbc (by rw[a6];exact hi)]at this;cases this];refine a3 t fun j V H M=>?_;have:=ht j V H M;by_cases e:i=j
    ·subst e;rw[xbc (by rw[a6];exact hi)]at this;cases this
    ·rwa[getD_set_ne false e]at this
end
theorem yuh{n:Nat}:∀{os:List Oper},okD n os=true-> ∀o∈os,∀d,o.dst=some d->d<n
 |[],_,o,ho,_,_=>by simp at ho
 |o::os,h,o',ho',d,hd=>by
   rcases List.mem_cons.1 ho' with rfl|ho'
   ·exact(xfq h).2 d hd
   ·exact yuh (xfq h).1 o' ho' d hd
section
variable{X:Cx}{k:List Item}{LL:List Pcs}
theorem yfj(H:List Nat)(D:DE X k ops (.drop H.length) p LL [] H l [])(a7:X.P.follows .mixedOrders=true:=by kernel_rfl)(ok:okD X.n ops=true:=by rfl)
 (a8:Bo (ops.map blankO) H.length (clo ops)=true:=by kernel_rfl)(a6:pureOk ops=true:=by kernel_rfl)(O:Nat.beq H.length ops.length=true:=by kernel_rfl)(a3:Ef ops (clo ops) [] [] H=true:=by kernel_rfl)(a2:((List.range H.length).all fun i=>H.contains i)=true:=by kernel_rfl):
 RE X (.code (.region id ops.toArray true)::k) l p LL:=by
 constructor;intro tm ht E;have O:=Nat.eq_of_beq_eq_true O;have a5:∀(i:Nat)(o:Oper)(d:Nat),ops[i]?=some o->o.dst=some d->d<X.n:=fun i o d V hd=>yuh ok o (List.mem_of_getElem? V) d hd;have M:∀(j:Nat)(o:Oper),ops[j]?=some o->j∈H:=fun j o V=>by
  have:=List.all_eq_true.1 a2 j (List.mem_range.2 (by rw[O];exact(List.getElem?_eq_some_iff.1 V).1));simpa using this
 obtain⟨l',tmv,K,E',W⟩:=yij (tm0:=tm) a6 a5 D.run tm [] ⟨ht,fun j o V hj=>absurd (M j o V) hj,fun _ _=>rfl,fun j o V hj=>absurd (M j o V) hj⟩ E a3 s_;refine xls fun t=>?_;unfold Region.schedule;rw[a7];simp only[Bool.true_or,if_true];obtain⟨s,e,a4⟩:=xdn a8 (by rw[O,List.length_map];exact Nat.le_refl _) t;rw[yik (a:=ops.toArray) (b:=(ops.map blankO).toArray) s_ (fun i=>by simp[List.getElem?_map,Function.comp_def,blankO]),e,O,List.length_map,Nat.sub_self];rw[O]at a4;have K:RO X k ops (ops.drop H.length) l' p (LL++[]):=K;rw[O,List.drop_length]at K;have z:=K.run rfl tmv W.lv E' ops s_;rw[List.flatten_append]at z;show RS _ _ (G (FL X.f X.r tm X.df (.inRegion ops.toArray (s++[])::k)) X.cs) _ _;rw[List.append_nil];have fin:=yzc a6 a5 W (by simpa using z) s (Array.replicate ops.length false) tm (by simpa using yrj a4) s_ ht (fun j _ _ _ _ h=>by simp[Array.getD]at h) (fun _ _=>rfl) (fun j _ h=>by simp[Array.getD]at h);simpa using fin
theorem yoh{α:Type}[Inhabited α](fv:α->Value){pos:String}
 (hg:gdc ops l gd=some g)(hx:evS l x=some ([],.func (.func ff) first.toArray cap.toArray))(O:D4 l args=some (ss,vs))(hs:Bn g (Bl ss))
 (hc:∀h,Per p h->Ac X.P X.md ff (first++(vs++cap)).toArray h fun v' h'=>(∃q,v'=fv q)/\Av h h')(n:∀q,RO X k ops rest (ent d g (fv q) l) p LL)(hf:Ao X.P ff=true:=by kernel_rfl):
 RO X k ops (⟨d,.call ⟨.value x,args.toArray,ats⟩,ty,pos,aft,gd⟩::rest) l p LL:=by
 constructor;intro ok tm M E;have H:=xfq ok;rcases xgv (o:=⟨d,.call ⟨.value x,args.toArray,ats⟩,ty,pos,aft,gd⟩) E hg with⟨e,V⟩|⟨c',e,V⟩
 ·subst e
  exact xdv (R:=fun v h=>(∃q,v=fv q)/\St X.z9 X.zz p h LL.flatten) V (xdq E hx trivial) (by rw[xlx E O hs]) hf
   (fun h s=>(hc h fun b o e=>s.per b o e).mono fun _ _⟨q,kk⟩=>⟨q,s.call kk⟩)
   fun v=>xyx fun⟨q,e⟩=>by subst e;exact(n q).run H.1 _ (A0.trans M) (E.ent (g:=none) M H.2)
 ·subst e;cases c' with
  |true=>
    exact xdv (R:=fun v h=>(∃q,v=fv q)/\St X.z9 X.zz p h LL.flatten) V (xdq E hx trivial) (by rw[xlx E O (hs rfl)]) hf
     (fun h s=>(hc h fun b o e=>s.per b o e).mono fun _ _⟨q,kk⟩=>⟨q,s.call kk⟩)
     fun v=>xyx fun⟨q,e⟩=>by subst e;exact(n q).run H.1 _ (A0.trans M) (E.ent (g:=some true) M H.2)
  |false=>exact xub V rfl ((n default).run H.1 _ (A0.trans M) (E.ent (g:=some false) M H.2))
end
theorem yan{X:Cx}{k:List Item}{LL:List Pcs}{LF:List Pcs}(M:Nat)(V:List Nat)(Xi:Nat->Pcs)(fin O effs:List Nat)(a2 anc:Nat->List Nat)(Q:Nat->(Nat->Value)->(Nat->Pcs)->Value->Pcs->Prop)
 (hp:LL.flatten.Perm (V.flatMap Xi++LF.flatten))
 (x:∀i,i<M-> ∀val piece,(∀j,(anc i).contains j=true->Qr anc Q val piece j (val j) (piece j))->(∀j∈V,piece j=Xi j)->DE X k ops (.to fun l' LL'=>(∃v,l'=ent ((ops[i]?).bind (·.dst)) none v (Gz ops val M l))/\ ∀v,l'=ent ((ops[i]?).bind (·.dst)) none v (Gz ops val M l)->Qr anc Q val piece i v LL'.flatten) p LF effs [i] (Gz ops val M l) ((a2 i).map piece))(a4:∀val piece,∀j∈O,∀v x,Qr anc Q val piece j v x->x=[])(n:∀val piece,(∀j<M,Qr anc Q val piece j (val j) (piece j))->RO X k ops (ops.drop M) (Gz ops val M l) p (fin.map piece++LF))
 (a6:X.P.follows .mixedOrders=true:=by kernel_rfl)(ok:okD X.n ops=true:=by rfl)(a8:Bo ops M (clo ops)=true:=by kernel_rfl)(hm:Nat.ble M ops.length=true:=by kernel_rfl)(hk:H2 ops M V a2 (fin++O)=true:=by kernel_rfl)(a3:(O.all fun j=>decide (j<M))=true:=by kernel_rfl)(a5:Ke ops M (clo ops) anc=true:=by kernel_rfl)(b0:P3 ops M=true:=by kernel_rfl):
 RE X (.code (.region id ops.toArray true)::k) l p LL:=by
 constructor;intro tm ht E;have a7:=Nat.le_of_ble_eq_true hm;have H:∀{os:List Oper}(j:Nat),okD X.n os=true->okD X.n (os.drop j)=true:=fun{os}=>by
  induction os with
  |nil=>intro j h;cases j<;>exact h
  |cons o os ih=>
    intro j h;cases j with
    |zero=>exact h
    |succ j=>exact ih j (xfq h).1
 have b4:∀{os:List Oper},okD X.n os=true->(os.all fun o=>match o.dst with|some d=>decide (d<tm.length)|none=>true)=true:=fun{os}=>by
  induction os with
  |nil=>intro _;rfl
  |cons o os ih=>
    intro h;rw[List.all_cons,ih (xfq h).1,Bool.and_true];split
    ·rename_i d hd;exact decide_eq_true (ht ▸ (xfq h).2 d hd)
    ·rfl
 have:=xrn (P:=X.P) (md:=X.md) (ops:=ops) (f:=X.f) (r:=X.r) (df:=X.df) (k:=k) (cs:=X.cs) (Stop:=X.Stop) (tm:=tm) (z9:=X.z9) (zz:=X.zz) (p:=p) (A:=LF.flatten) (C:=[]) (rid:=id) M (clo ops) V fin O Xi a2 anc Q (fun val=>E9 ops val M tm) a6 a8 a7 hk a3 a5 (fun val piece=>xb8 (a4 val piece)) (fun _=>rfl) (b4 ok)
  (xxl fun i o ho=>by
   rw[List.getElem?_take]at ho;split at ho
   ·rename_i hi;have hg:=List.all_eq_true.1 b0 o (List.mem_of_getElem? (by rw[List.getElem?_take,if_pos hi];exact ho));simp only[Bool.and_eq_true,Option.isNone_iff_eq_none]at hg;rw[Nat.zero_add];refine⟨hg.2,fun val piece hQ hI=>.inl ⟨xoq hg.1,fun C h s=>?_⟩⟩;have D:=(x i hi val piece hQ hI).run;have a9:(ops[i]?).bind (·.dst)=o.dst:=by rw[ho];rfl
    rw[a9]at D;exact yfw (R:=Qr anc Q val piece i) ho hg.1 D ((xnz ops val tm M).trans ht) (xyn E ht ok M) C h (by rw[<- xlv];exact s)
   ·cases ho)
  (fun val piece hQ _=>by
   have z:=(n val piece hQ).run (H M ok) _ ((xnz ops val tm M).trans ht) (xyn E ht ok M);rw[List.flatten_append,<- xlv]at z;intro b3 e h s;exact z b3 e h (by simpa using s))
 intro h s;exact this h (by rw[List.append_nil];exact s.perm hp)
section
variable{X:Cx}{k:List Item}{m:Ks}{LF LL:List Pcs}{pos:String}
theorem y_xt(M:evS l x=some ([],.tuple xs))(H:xs[n]?=some u):Yl X p LL l none (.extract x n) u:=⟨rfl,(fun _ _ _ E _=>xwn (xdq E M trivial) H)⟩
end
def ung(o:Oper):Oper:={o with guard:=none}
def prj(i:Nat):Value->Value
 |.tuple xs=>(xs[i]?).getD undef
 |_=>undef
def rst(a:List Nat)(val:Nat->Value):Nat->Value:=fun j=>if a.contains j=true then val j else undef
def QK(kn:(Nat->Value)->Nat->Option Value)(Q:Nat->(Nat->Value)->(Nat->Pcs)->Value->Pcs->Prop)(i:Nat)(val:Nat->Value)(piece:Nat->Pcs)(v:Value)(x:Pcs):Prop:=
 match kn val i with
 |some w=>v=w/\x=[]
 |none=>Q i val piece v x
def envA(ops:List Oper)(val:Nat->Value)(kn:(Nat->Value)->Nat->Option Value)(anc:Nat->List Nat):List Nat->Env->Env
 |[],l=>l
 |j::js,l=>ent ((ops[j]?).bind (·.dst)) none ((kn (rst (anc j) val) j).getD (val j)) (envA ops val kn anc js l)
def gdK(ops:List Oper)(M:Nat)(anc:Nat->List Nat)(kn:Nat->Option Value):Bool:=(List.range M).all fun i=>match ops[i]? with
 |none=>true
 |some o=>Bq o.op&&match o.guard with
   |none=>true
   |some (g,b)=>(anc i).contains g&&((ops[g]?).bind (·.dst)).isSome&&match kn g with
     |some (.bool c)=>c==b
     |_=>false
def frK(ops:List Oper)(M:Nat)(l:Env):Bool:=(ops.take M).all fun o=>match o.dst with
 |none=>true
 |some d=>l.all fun e=>!(Nat.beq e.1 d)
theorem xt7{val:Nat->Value}{M d:Nat}(a2:Bo ops M cl=true)(hi:i<M)(ho:ops[i]?=some o)(hd:o.dst=some d)(hl:d<tm.length):(E9 ops val M tm)[d]?=some (val i):=
 xam hi ho hd (fun j o' hj O V=>((((xwq a2 ho).2.2 hi).2 j o' d hj O V).1.resolve_right fun H=>H hd).symm) hl
theorem yxh{d:Nat}:∀{l:Env},(l.all fun e=>!(Nat.beq e.1 d))=true->lk l d=none
 |[],_=>rfl
 |(j,x)::l,h=>by
   simp only[List.all_cons,Bool.and_eq_true,Bool.not_eq_true']at h;unfold lk;rw[h.1];exact yxh h.2
theorem xf4{ops:List Oper}{val:Nat->Value}{kn:(Nat->Value)->Nat->Option Value}{anc:Nat->List Nat}{M n:Nat}{cl:List (List Nat)}{tm:List Value}{l:Env}(a2:Bo ops M cl=true)(E:B0 tm l)(ht:tm.length=n)(a3:okD n ops=true)(hf:frK ops M l=true):
 ∀{js:List Nat},(∀j∈js,j<M/\ ∀w,kn (rst (anc j) val) j=some w->val j=w)->B0 (E9 ops val M tm) (envA ops val kn anc js l)
 |[],_=>fun i g v H=>by
   rw[xgg fun j o hj ho O=>?_]
   ·exact E i g v H
   ·have:=List.all_eq_true.1 hf o (List.mem_of_getElem? (by rw[List.getElem?_take,if_pos hj];exact ho));rw[O]at this;have H:lk l i=some (g,v):=H;rw[yxh this]at H;cases H
 |j::js,h=>by
   have ih:=xf4 (js:=js) a2 E ht a3 hf fun j hj=>h j (List.mem_cons_of_mem _ hj);obtain⟨hj,hw⟩:=h j s_;unfold envA;cases ho:ops[j]? with
   |none=>exact ih
   |some o=>
     cases O:o.dst with
     |none=>show B0 _ (ent o.dst _ _ _);rw[O];exact ih
     |some d=>
       show B0 _ (ent o.dst _ _ _);rw[O];intro i g v H;unfold ent lk at H;by_cases e:d=i
       ·subst e;rw[show Nat.beq d d=true from Nat.beq_refl d]at H;simp only[cond_true,Option.some.injEq,Prod.mk.injEq]at H;obtain⟨rfl,rfl⟩:=H;have a5:d<tm.length:=by
         have:∀{os:List Oper},okD n os=true-> ∀o∈os,∀d,o.dst=some d->d<n:=fun{os}=>by
          induction os with
          |nil=>intro _ o ho;simp at ho
          |cons o os ih=>
            intro h o' V d O;rcases List.mem_cons.1 V with rfl|V
            ·exact(xfq h).2 d O
            ·exact ih (xfq h).1 o' V d O
         rw[ht];exact this a3 o (List.mem_of_getElem? ho) d O
        rw[xt7 a2 hj ho O a5];cases a4:kn (rst (anc j) val) j with
        |none=>rfl
        |some w=>rw[hw w a4];rfl
       ·rw[show Nat.beq d i=false from Bool.eq_false_iff.2 fun z=>e (Nat.eq_of_beq_eq_true z)]at H;exact ih i g v H
theorem ygj{X:Cx}{k:List Item}{LL LF:List Pcs}(M:Nat)(V:List Nat)(Xi:Nat->Pcs)(fin O effs:List Nat)(a8 anc:Nat->List Nat)(kn:(Nat->Value)->Nat->Option Value)(Q:Nat->(Nat->Value)->(Nat->Pcs)->Value->Pcs->Prop)
 (hp:LL.flatten.Perm (V.flatMap Xi++LF.flatten))(x:∀i,i<M-> ∀val piece,(∀j,(anc i).contains j=true->Qr anc (QK kn Q) val piece j (val j) (piece j))->(∀j∈V,piece j=Xi j)->
  DE X k (ops.map ung) (.to fun l' LL'=>(∃v,l'=ent ((ops[i]?).bind (·.dst)) none v (envA ops val kn anc (anc i) l))/\ ∀v,l'=ent ((ops[i]?).bind (·.dst)) none v (envA ops val kn anc (anc i) l)->Qr anc (QK kn Q) val piece i v LL'.flatten) p LF effs [i] (envA ops val kn anc (anc i) l) ((a8 i).map piece))
 (a9:∀val piece,∀j∈O,∀v x,Qr anc (QK kn Q) val piece j v x->x=[])(n:∀val piece,(∀j<M,Qr anc (QK kn Q) val piece j (val j) (piece j))->RO X k ops (ops.drop M) (envA ops val kn anc (List.range M) l) p (fin.map piece++LF))
 (b6:X.P.follows .mixedOrders=true:=by kernel_rfl)(ok:okD X.n ops=true:=by rfl)(a3:Bo ops M (clo ops)=true:=by kernel_rfl)(hm:Nat.ble M ops.length=true:=by kernel_rfl)(hk:H2 ops M V a8 (fin++O)=true:=by kernel_rfl)(a5:(O.all fun j=>decide (j<M))=true:=by kernel_rfl)(b0:Ke ops M (clo ops) anc=true:=by kernel_rfl)
 (c3:∀val,gdK ops M anc (kn val)=true:=by intro _;kernel_rfl)(b3:frK ops M l=true:=by kernel_rfl)(c1:((List.range M).all fun i=>(anc i).all fun j=>Nat.blt j M)=true:=by kernel_rfl):
 RE X (.code (.region id ops.toArray true)::k) l p LL:=by
 constructor;intro tm ht E;have b7:=Nat.le_of_ble_eq_true hm;have a2:∀{os:List Oper}(j:Nat),okD X.n os=true->okD X.n (os.drop j)=true:=fun{os}=>by
  induction os with
  |nil=>intro j h;cases j<;>exact h
  |cons o os ih=>
    intro j h;cases j with
    |zero=>exact h
    |succ j=>exact ih j (xfq h).1
 have b5:∀{os:List Oper},okD X.n os=true->(os.all fun o=>match o.dst with|some d=>decide (d<tm.length)|none=>true)=true:=fun{os}=>by
  induction os with
  |nil=>intro _;rfl
  |cons o os ih=>
    intro h;rw[List.all_cons,ih (xfq h).1,Bool.and_true];split
    ·rename_i d hd;exact decide_eq_true (ht ▸ (xfq h).2 d hd)
    ·rfl
 have b8:∀{i:Nat}{o:Oper}{d:Nat},ops[i]?=some o->o.dst=some d->d<tm.length:=fun{i o d}ho hd=>by
  have:=List.all_eq_true.1 (b5 ok) o (List.mem_of_getElem? ho);rw[hd]at this;exact of_decide_eq_true this
 have H:∀{val:Nat->Value}{piece:Nat->Pcs}{j:Nat},Qr anc (QK kn Q) val piece j (val j) (piece j)-> ∀w,kn (rst (anc j) val) j=some w->val j=w:=fun{val piece j}q w hw=>by
  have q:QK kn Q j (rst (anc j) val) _ (val j) (piece j):=q;unfold QK at q;rw[hw]at q;exact q.1
 have b4:∀{i j:Nat},i<M->(anc i).contains j=true->j<M:=fun{i j}hi hj=>by
  have:=List.all_eq_true.1 (List.all_eq_true.1 c1 i (List.mem_range.2 hi)) j (by simpa using hj);exact Nat.lt_of_lt_of_le (Nat.le_of_ble_eq_true this) (Nat.le_refl _)
 have:=xrn (P:=X.P) (md:=X.md) (ops:=ops) (f:=X.f) (r:=X.r) (df:=X.df) (k:=k) (cs:=X.cs) (Stop:=X.Stop) (tm:=tm) (z9:=X.z9) (zz:=X.zz) (p:=p) (A:=LF.flatten) (C:=[]) (rid:=id) M (clo ops) V fin O Xi a8 anc (QK kn Q) (fun val=>E9 ops val M tm) b6 a3 b7 hk a5 b0 (fun val piece=>xb8 (a9 val piece)) (fun _=>rfl) (b5 ok)
  (xxl fun i o ho=>by
   rw[List.getElem?_take]at ho;split at ho
   ·rename_i hi;rw[Nat.zero_add];have a6:=fun val=>List.all_eq_true.1 (c3 val) i (List.mem_range.2 hi);simp only[ho,Bool.and_eq_true]at a6;refine⟨(a6 fun _=>undef).1,fun val piece hQ hI=>.inl ⟨?_,fun C h s=>?_⟩⟩
    ·unfold Met;cases hg:o.guard with
     |none=>rfl
     |some q=>
       obtain⟨g,b⟩:=q;have z:=(a6 (rst (anc g) val)).2;rw[hg]at z;simp only[Bool.and_eq_true]at z;obtain⟨⟨z1,z2⟩,z3⟩:=z;obtain⟨d,hd⟩:=Option.isSome_iff_exists.1 z2;obtain⟨o',a4,a7⟩:=Option.bind_eq_some_iff.1 hd;have hv:val g=.bool b:=by
        split at z3
        ·rename_i c hc;have:=H (hQ g z1) _ hc;rw[this,beq_iff_eq.1 z3]
        ·cases z3
       have hy:Eh ops (E9 ops val M tm) g=some b:=by
        unfold Eh;simp[a4,a7,xt7 a3 (b4 hi z1) a4 a7 (b8 a4 a7),hv]
       simp[hy]
    have D:=(x i hi val piece hQ hI).run;have b9:(ops[i]?).bind (·.dst)=(ung o).dst:=by rw[ho];rfl
    rw[b9]at D;have E2:=xf4 (js:=anc i) (kn:=kn) (val:=val) (anc:=anc) a3 E ht ok b3 fun j hj=>⟨b4 hi (by simpa using hj),H (hQ j (by simpa using hj))⟩
    have z:=yfw (R:=Qr anc (QK kn Q) val piece i) (o:=ung o) (by rw[List.getElem?_map,ho];rfl) rfl D ((xnz ops val tm M).trans ht) E2 C h (by rw[<- xlv];exact s);exact z
   ·cases ho)
  (fun val piece hQ _=>by
   have E2:=xf4 (js:=List.range M) (kn:=kn) (val:=val) (anc:=anc) a3 E ht ok b3 fun j hj=>⟨List.mem_range.1 hj,H (hQ j (List.mem_range.1 hj))⟩
   have z:=(n val piece hQ).run (a2 M ok) _ ((xnz ops val tm M).trans ht) E2;rw[List.flatten_append,<- xlv]at z;intro c2 e h s;exact z c2 e h (by simpa using s))
 intro h s;exact this h (by rw[List.append_nil];exact s.perm hp)
theorem xld{X:Cx}{k:List Item}{LL:List Pcs}(M:Nat)(fin H effs:List Nat)(O anc:Nat->List Nat)(kn:(Nat->Value)->Nat->Option Value)(Q:Nat->(Nat->Value)->(Nat->Pcs)->Value->Pcs->Prop)
 (x:∀i,i<M-> ∀val piece,(∀j,(anc i).contains j=true->Qr anc (QK kn Q) val piece j (val j) (piece j))->
  DE X k (ops.map ung) (.to fun l' LL'=>(∃v,l'=ent ((ops[i]?).bind (·.dst)) none v (envA ops val kn anc (anc i) l))/\ ∀v,l'=ent ((ops[i]?).bind (·.dst)) none v (envA ops val kn anc (anc i) l)->Qr anc (QK kn Q) val piece i v LL'.flatten) p LL effs [i] (envA ops val kn anc (anc i) l) ((O i).map piece))
 (a2:∀val piece,∀j∈H,∀v x,Qr anc (QK kn Q) val piece j v x->x=[])(n:∀val piece,(∀j<M,Qr anc (QK kn Q) val piece j (val j) (piece j))->RO X k ops (ops.drop M) (envA ops val kn anc (List.range M) l) p (fin.map piece++LL))
 (a4:X.P.follows .mixedOrders=true:=by kernel_rfl)(ok:okD X.n ops=true:=by rfl)(a8:Bo ops M (clo ops)=true:=by kernel_rfl)(hm:Nat.ble M ops.length=true:=by kernel_rfl)(hk:H2 ops M [] O (fin++H)=true:=by kernel_rfl)(V:(H.all fun j=>decide (j<M))=true:=by kernel_rfl)(a3:Ke ops M (clo ops) anc=true:=by kernel_rfl)
 (a6:∀val,gdK ops M anc (kn val)=true:=by intro _;kernel_rfl)(a5:frK ops M l=true:=by kernel_rfl)(a7:((List.range M).all fun i=>(anc i).all fun j=>Nat.blt j M)=true:=by kernel_rfl):
 RE X (.code (.region id ops.toArray true)::k) l p LL:=
 ygj M [] (fun _=>[]) fin H effs O anc kn Q (List.Perm.refl _) (fun i hi val piece hq _=>x i hi val piece hq) a2 n a4 ok a8 hm hk V a3 a6 a5 a7
section
variable{X:Cx}{k:List Item}{m:Ks}{LF LL LR:List Pcs}{pos:String}
theorem xbw(V:ops[i]?=some ⟨d,.extract x j,ty,pos,aft,none⟩)(H:evS l x=some ([],u))(M:∃xs:Array Value,u=.tuple xs/\j<xs.size)(n:DE X k ops m p LF effs todo (ent d none (prj j u) l) LL):DE X k ops m p LF effs (i::todo) l LL:=by
 obtain⟨xs,rfl,O⟩:=M;refine de_y V rfl (y_xt H ?_ (u:=prj j (.tuple xs))) n;show xs[j]?=some ((xs[j]?).getD undef);rw[Array.getElem?_eq_getElem O];rfl
end
section
variable{X:Cx}{k:List Item}{m:Ks}{LF LL:List Pcs}{pos:String}{y2:Operand}
theorem xst{e:TypeId}{q c:Nat}{a:Option Addr}(V:ops[i]?=some ⟨d,.slice t x none (some y) none,ty,pos,aft,none⟩)(H:evS l x=some ([],.slice a q c))(O:evS l y=some ([],.int kk ((j:Nat):Int)))(M:j<=c)[f:Ca X.P t e][sz:Ak X.P e w]
 (nx:DE X k ops m p LF effs todo (ent d none (.slice a j c) l) LL):DE X k ops m p LF effs (i::todo) l LL:=
 xk4 (g:=none) V rfl rfl (fun tm h' _ E _=>by
  have z:=xzk (tm:=tm) (h:=h') (d:=d) (ty:=ty) (pos:=pos) (aft:=aft) (gd:=none) f.h sz.h (xdq E H trivial) (.none 0) (.nat q (xdq E O trivial)) (Nat.zero_le j) M;rw[xl4,Nat.sub_zero,Nat.sub_zero]at z;exact z) nx
theorem yml{e:TypeId}{q c u:Nat}{a:Option Addr}{k1 k2:IntKind}(M:evS l x=some ([],.slice a q c))(O:evS l y=some ([],.int k1 ((u:Nat):Int)))(V:evS l y2=some ([],.int k2 ((j:Nat):Int)))(H:u<=j/\j<=c)[f:Ca X.P t e][sz:Ak X.P e w]:Yl X p LL l none (.slice t x (some y) (some y2) none) (.slice (Cf a c u w) (j-u) (c-u)):=⟨rfl,(fun _ _ _ E _=>xzk f.h sz.h (xdq E M trivial) (.nat 0 (xdq E O trivial)) (.nat q (xdq E V trivial)) H.1 H.2)⟩
end
section
variable{X:Cx}{k:List Item}{LL:List Pcs}{pos:String}
theorem ydt(hg:gdc ops l gd=some (some true))(V:evS l x=some ([],.func (.func ff) first.toArray cap.toArray))(H:D4 l args=some (ss,vs))(hs:Bl ss)
 (hc:∀h,St X.z9 X.zz p h LL.flatten->Ac X.P X.md ff (first++(vs++cap)).toArray h fun v' h'=>∃Y,Q v' Y/\New h h' Y)(n:∀v Y,Q v Y->RO X k ops rest (ent d (some true) v l) p (Y::LL))(hf:Ao X.P ff=true:=by kernel_rfl):
 RO X k ops (⟨d,.call ⟨.value x,args.toArray,ats⟩,ty,pos,aft,gd⟩::rest) l p LL:=⟨fun O tm M E=>
 xdv (R:=fun v h=>∃Y,Q v Y/\St X.z9 X.zz p h (Y++LL.flatten)) (by
  rcases xgv (o:=⟨d,.call ⟨.value x,args.toArray,ats⟩,ty,pos,aft,gd⟩) E hg with⟨e,_⟩|⟨c',e,hm⟩
  ·cases e
  ·cases e;exact hm) (xdq E V trivial) (by rw[xlx E H hs]) hf (fun h s=>(hc h s).mono fun _ _⟨Y,q,nn⟩=>⟨Y,q,s.K4 nn⟩)
  fun v=>xgk fun Y=>xyx fun q=>(n v Y q).run (xfq O).1 _ (A0.trans M) (E.ent (g:=some true) M (xfq O).2)⟩
end
end Go.X
