/-
  Part of proofs about a town's master: a calculus for Bj beside goroutines that are only leaving, and the Bj. No condition.
-/
import Derived.Test.YtadndcpcjmmngaaGreatDoorYJ
import Derived.Test.YtadndcpcjmmngaaGreatDoorYB
namespace Go.X
open Go.Conc Go.Conc.Lib
open Go.ConcR (DC0)
open Go.ConcN (WgLive)
variable{aft:Array Edge}{ats:Array TypeId}{xs:Array Value}{b:Bool}{l:Env}{zq:Frame}{fn:Func}{f:FuncId}{h h' z9:Heap}{cl:List (List Nat)}{es news:List (List Value)}{df:List Deferred}{cs:List Frame}{effs todo zz:List Nat}{ops rest:List Oper}{args:List Operand}{ss:List Prop}{cap first tm vs:List Value}{md:Md}{by' dd i n nn off w:Nat}{x y:Operand}{gd:Option (Nat×Bool)}{g:Option Bool}{p:Aa}{Y:Pcs}{P:Program}{T T' eT eX sT t ty xT:TypeId}{u v z:Value}{R:Value->Heap->Prop}
section
variable{X:Cx}{k:List Item}{LL LR:List Pcs}{pos:String}
theorem yyw{g:FuncId}(H:D4 l args=some ([],vs))(n:RO {X with df:=dcall g vs.toArray::X.df} k ops rest l p LL)(M:X.r.round=none:=by rfl):
 RO X k ops (⟨none,.defer ⟨.value (.func g),args.toArray,ats⟩,ty,pos,aft,none⟩::rest) l p LL:=
 ⟨fun V tm O E=>yeb (xmq rfl) (xlx E H trivial) M (n.run (xfq V).1 tm O E)⟩
theorem P3{c:Code}{args:List Value}{Stop:Goroutine->Heap->Prop}{LL:List Pcs}(s:St z9 zz p h LL.flatten)(hf:P.funcs[f]?=some fn)
 (x:RE ⟨P,md,f,.dfd,fn.ntmps,[],cs,Stop,z9,zz⟩ [.code c] (Fe 0 args) p LL)(M:fn.body=some c:=by rfl)(hn:Nat.ble args.length fn.ntmps=true:=by rfl):Reach P md (G (Frame.enter P f args.toArray .deferred) cs) h Stop:=
 ylc (Φ:=fun h'=>St z9 zz p h' LL.flatten) hf M rfl (x.run _ (by have:=Nat.le_of_ble_eq_true hn;simp;omega) fun i g v O=>by
  obtain⟨rfl,m,rfl,H⟩:=xfc O;rw[Nat.zero_add,List.getElem?_append_left (by simpa using(List.getElem?_eq_some_iff.1 H).1)];simpa[cv]using H) s
theorem yib{r:Nat}{Stop:Goroutine->Heap->Prop}[i:Bx LL r (.deferred (some [])) LR]
 (x:∀tm td h,St z9 zz p h ((r,.deferred none)::LR.flatten)->Reach P md (G (FR (B f .dfd) tm df td) (zq::cs)) h Stop):RE ⟨P,md,f,.dfd,n,mark r::df,zq::cs,Stop,z9,zz⟩ [] l p LL:=
 ⟨fun _ _ _=>xdg (yqc (i:=0) (L:=(r,.deferred (some []))::LR.flatten) rfl fun td h s=>x _ td h s) fun _ s=>s.bx i⟩
def Po(X:Cx)(k:List Item)(ops rest:List Oper)(l:Env)(gb:Goroutine):Prop:=
 ∀(V:Md)(H:Goroutine->Heap->Prop)(O:Heap)(M:List Nat)(p':Aa)(LL':List Pcs)(h':Heap),RO {X with md:=V,Stop:=H,z9:=O,zz:=M } k ops rest l p' LL'->St O M p' h' LL'.flatten->Reach X.P V gb h' H
variable{L:WgLink}{Wg:Nat}
theorem ydg(H:WgLib X.P L)(a5:D4 l args=some ([],[w_ Wg 0,.J 1]))(hc:Ao X.P L.add=true)
 (x:∀V O,(∀w,WgLive L.tWg Wg w-> ∃m,Goes X.P true (RLv L.tWg Wg) DC0 (AtKdS X.P L.tWg Wg O) m V w)->Po X k ops rest ((dd,none,.tuple #[])::l) O-> ∀h,St X.z9 X.zz p h LL.flatten->Reach X.P X.md V h X.Stop)(hr:X.r.round=none:=by rfl):
 RO X k ops (⟨some dd,.call ⟨.value (.func L.add),args.toArray,ats⟩,ty,pos,aft,none⟩::rest) l p LL:=⟨fun ok tm ht E=>
 yur H (xmq rfl) (xlx E a5 trivial) hr hc rfl fun V O a7 a4 h s=>x V O a7 (fun a2 M a6 a3 p' LL' h' n s'=>
  a4 a2 _ M h' (n.run (xfq ok).1 _ (by simp[ht]) (E.set (g:=none) (ht ▸ (xfq ok).2 dd rfl))) s') h s⟩
theorem yhr{g:FuncId}(hx:evS l x=some ([],.func (.func g) first.toArray cap.toArray))(a2:D4 l args=some ([],vs))
 (n:∀M gn,M.status=.running->(∀w,stepG X.P true M w=.spawn gn (born X.P {target:=.fn (.func g) cap.toArray,args:=(first++vs).toArray}) w #[])->Po X k ops rest l gn-> ∀h,St X.z9 X.zz p h LL.flatten->Reach X.P X.md M h X.Stop)(hr:X.r.round=none:=by rfl):
 RO X k ops (⟨none,.go ⟨.value x,args.toArray,ats⟩,ty,pos,aft,none⟩::rest) l p LL:=⟨fun ok _ ht E=>
 yg2 (xmq rfl) (xdq E hx trivial) (xlx E a2 trivial) hr fun M gn h1 h2 V h s=>n M gn h1 h2 (fun O H _ _ _ _ h' n s'=>V O _ H h' (n.run (xfq ok).1 _ ht E) s') h s⟩
theorem ybl(H:WgLib X.P L)(a5:D4 l args=some ([],[w_ Wg 0]))(hc:Ao X.P L.wait=true)
 (x:∀ge gb(An:Goroutine->World->Prop),(∀g w,An g w->g.status=.running)->(∀g w,An g w-> ∃m,Goes X.P true (RLv L.tWg Wg) DC0 (AtW1 X.P L.tWg Wg gb An) m g w)->(∀w,WgLive L.tWg Wg w-> ∃m,Goes X.P true (RLv L.tWg Wg) DC0 (AtKd X.P L.tWg Wg An) m ge w)->
  gb.status=.running->(∀(a4:Md)(O:Goroutine->Heap->Prop)(V:Heap)(M:List Nat)(p':Aa)(LL':List Pcs)(h':Heap),RE {X with md:=a4,Stop:=O,z9:=V,zz:=M } k ((dd,none,.tuple #[])::l) p' LL'->St V M p' h' LL'.flatten->Reach X.P a4 gb h' O)->
  ∀h,St X.z9 X.zz p h LL.flatten->Reach X.P X.md ge h X.Stop)(hr:X.r.round=none:=by rfl):
 RO X k ops [⟨some dd,.call ⟨.value (.func L.wait),args.toArray,ats⟩,ty,pos,aft,none⟩] l p LL:=⟨fun ok tm ht E=>
 yhl H (xmq rfl) (xlx E a5 trivial) hr hc rfl fun ge gb An a1 a2 a3⟨q,e,e2⟩h s=>x ge gb An a1 a2 a3 (by rw[e];rfl) (fun a4 O V M p' LL' h' n s'=>by
  have e3:q=[]:=by rw[e2];simp
  subst e3;rw[e];exact xkd (n.run _ (by simp[ht]) (E.set (g:=none) (ht ▸ (xfq ok).2 dd rfl))) h' s') h s⟩
theorem yhb{c:Code}(n:RE X (.code c::.inLoop c::k) l p LL):RE X (.code (.loop c)::k) l p LL:=⟨fun tm H E=>ypc (n.run tm H E)⟩
theorem xnp{c:Code}(n:RE X (.code c::.inLoop c::k) l p LL):RE X (.inLoop c::k) l p LL:=⟨fun tm H E=>xs8 (n.run tm H E)⟩
end
section
variable{X:Cx}{k:List Item}{m:Ks}{LF LL LR LR2:List Pcs}{pos:String}{Z:Pcs}
theorem xk9{x':Value}(ho:ops[i]?=some ⟨some dd,.call ⟨.builtin .append,#[x,y],#[sT,xT]⟩,ty,pos,aft,none⟩)(hx:evS l x=some ([],v))(hy:evS l y=some ([],x'))(o1:Ab eT w v es Y)(o2:Ab eT w x' news Z)(h1:∀u∈news.flatten,Be u=true)(M:(es.length+news.length)*by'<=2^45)
 [i1:Rm LL Y LR][i2:Rm LR Z LR2][hT:Cb X.P sT eT][hs:Ak X.P eT w][hz:A9 X.P eT z][hb:ByC X.P eT by'][hX:Cb X.P xT eX](nx:∀v' H,Ab eT w v' (es++news) H->DE X k ops m p LF effs todo ((dd,none,v')::l) (H::LR2))
 (he:effs.contains i=true:=by rfl)(O:z.cells.size=w:=by rfl)(V:0<by'/\by'<=2^20:=by decide):DE X k ops m p LF effs (i::todo) l LL:=
 ⟨.eff (U:=Y++Z) (LR:=LR2) (Q:=fun v' H=>Ab eT w v' (es++news) H) ho (by simpa using he) (i1.h.trans (by rw[List.append_assoc];exact List.Perm.append_left Y i2.h)) (fun tm _ E=>⟨rfl,xmq rfl,fun C h s=>.inl (by
  rw[List.append_assoc]at s;exact Ex.exv (xpf [] hT.h hs.h hz.h O hb.h hX.h (xdq E hx trivial) (xdq E hy trivial) o1 s (xuh (L₁:=Y) o2 s) h1 M V fun v' X' h' o' s'=>⟨X',o',s'.sub (by
   simp only[List.nil_append];exact(List.Sublist.refl X').append (List.sublist_append_right Z (LF.flatten++C)))⟩))⟩) fun v' H o'=>(nx v' H o').run⟩
end
open Go.Conc
variable{ff:FuncId}{d:Option Tmp}{Q:Value->Aa->Prop}
section
variable{X:Cx}{k:List Item}{m:Ks}{LF LL LR:List Pcs}{pos:String}
theorem xsf{cap:Nat}{a:Option Addr}(ho:ops[i]?=some ⟨some dd,.call ⟨.builtin .append,#[x,y],#[sT,xT]⟩,ty,pos,aft,none⟩)(hx:evS l x=some ([],v))(hy:evS l y=some ([],.slice a n cap))(o1:Ab eT w v es Y)(o2:Sl p a n w news)(h1:∀u∈news.flatten,Be u=true)(M:(es.length+n)*by'<=2^45)
 [i1:Rm LL Y LR][hT:Cb X.P sT eT][hs:Ak X.P eT w][hz:A9 X.P eT z][hb:ByC X.P eT by'][hX:Cb X.P xT eX](nx:∀v' H,Ab eT w v' (es++news) H->DE X k ops m p LF effs todo ((dd,none,v')::l) (H::LR))
 (he:effs.contains i=true:=by rfl)(O:z.cells.size=w:=by rfl)(a2:0<by'/\by'<=2^20:=by decide)(V:0<w:=by decide):DE X k ops m p LF effs (i::todo) l LL:=
 ⟨.eff (U:=Y) (LR:=LR) (Q:=fun v' H=>Ab eT w v' (es++news) H) ho (by simpa using he) i1.h (fun tm _ E=>⟨rfl,xmq rfl,fun C h s=>.inl (
  Ex.exv (xpf [] hT.h hs.h hz.h O hb.h hX.h (xdq E hx trivial) (xdq E hy trivial) o1 s (xyf s V o2) h1 M a2 fun v' X' h' o' s'=>⟨X',o',s'⟩))⟩) fun v' H o'=>(nx v' H o').run⟩
theorem ykx{LL:List Pcs}{Q:Bool->Prop}(hg:gdc ops l gd=some g)(hx:evS l x=some ([],.func (.func ff) first.toArray cap.toArray))(O:D4 l args=some (ss,vs))(hs:Ba g (Bb ss))
 (hc:∀h,Per p h->Ac X.P X.md ff (first++(vs++cap)).toArray h fun v' h'=>(∃q,v'=.bool q/\Q q)/\As h h')(n:∀q:Bool,Ba g (Q q)->RO X k ops rest (ent d g (.bool q) l) p LL)(hf:Ao X.P ff=true:=by kernel_rfl):
 RO X k ops (⟨d,.call ⟨.value x,args.toArray,ats⟩,ty,pos,aft,gd⟩::rest) l p LL:=by
 constructor;intro ok tm M E;have H:=xfq ok;rcases xuv (o:=⟨d,.call ⟨.value x,args.toArray,ats⟩,ty,pos,aft,gd⟩) E hg with⟨e,V⟩|⟨c',e,V⟩
 ·subst e
  exact xnv (R:=fun v h=>(∃q,v=.bool q/\Q q)/\St X.z9 X.zz p h LL.flatten) V (xdq E hx trivial) (by rw[xlx E O hs]) hf
   (fun h s=>(hc h fun b o e=>s.per b o e).mono fun _ _⟨q,kk⟩=>⟨q,s.call kk⟩)
   fun v=>xzx fun⟨q,e,hq⟩=>by subst e;exact(n q hq).run H.1 _ (Aw.trans M) (E.ent (g:=none) M H.2)
 ·subst e;cases c' with
  |true=>
    exact xnv (R:=fun v h=>(∃q,v=.bool q/\Q q)/\St X.z9 X.zz p h LL.flatten) V (xdq E hx trivial) (by rw[xlx E O (hs rfl)]) hf
     (fun h s=>(hc h fun b o e=>s.per b o e).mono fun _ _⟨q,kk⟩=>⟨q,s.call kk⟩)
     fun v=>xzx fun⟨q,e,hq⟩=>by subst e;exact(n q fun _=>hq).run H.1 _ (Aw.trans M) (E.ent (g:=some true) M H.2)
  |false=>exact xnb V rfl ((n false fun e=>by cases e).run H.1 _ (Aw.trans M) (E.ent (g:=some false) M H.2))
end
def Fb(n m:Nat)(p:Aa):Pcs:=(List.range m).filterMap fun c=>if n<=c then(p c).map fun o=>(c,o)else none
theorem xch{m:Nat}{x:Nat×Obj}:x∈Fb n m p<->x.1<m/\n<=x.1/\p x.1=some x.2:=by
 unfold Fb;rw[List.mem_filterMap];constructor
 ·rintro⟨c,hc,e⟩;split at e
  ·rename_i h;obtain⟨o,H,rfl⟩:=Option.map_eq_some_iff.1 e;exact⟨List.mem_range.1 hc,h,H⟩
  ·cases e
 ·rintro⟨h1,h2,h3⟩;exact⟨x.1,List.mem_range.2 h1,by rw[if_pos h2,h3];rfl⟩
theorem xyw{f:Nat->Option (Nat×Obj)}(h:∀c x,f c=some x->x.1=c):∀l:List Nat,(l.filterMap f).map (·.1)=l.filter fun c=>(f c).isSome
 |[]=>rfl
 |c::l=>by
   cases e:f c with
   |none=>rw[List.filterMap_cons_none e,List.filter_cons_of_neg (by rw[e];simp),xyw h l]
   |some x=>rw[List.filterMap_cons_some e,List.filter_cons_of_pos (by rw[e];rfl),List.map_cons,xyw h l,h c x e]
theorem xi0{m:Nat}:((Fb n m p).map (·.1)).Nodup:=by
 unfold Fb;rw[xyw]
 ·exact List.Nodup.sublist List.filter_sublist List.nodup_range
 ·intro c x e;split at e
  ·obtain⟨o,_,rfl⟩:=Option.map_eq_some_iff.1 e;rfl
  ·cases e
theorem Cm.pieces{p:Aa}{h h':Heap}{Q:Value->Aa->Prop}{v:Value}(x:Cm p h Q v h'):∃Y,(∃p',Q v p'/\ ∀H,PLe p H->(∀y∈Y,H y.1=some y.2)->PLe p' H)/\New h h' Y:=by
 obtain⟨p',g,q,k,V⟩:=x;refine⟨Fb h.size h'.size p',⟨p',q,fun H le M c o hc=>?_⟩,k,fun y M=>?_,xi0⟩
 ·by_cases O:c<h.size
  ·exact le c o (by rw[<- g.old c O s_];exact hc)
  ·exact M (c,o) (xch.2 ⟨xex (V c o hc),om,hc⟩)
 ·obtain⟨_,h2,h3⟩:=xch.1 M;exact⟨V _ _ h3,h2⟩
theorem St.D6{z9 h:Heap}{zz:List Nat}{L:Pcs}:∀{Y:Pcs}{p:Aa},St z9 zz p h (Y++L)-> ∃p',(PG z9.size zz p p'/\ ∀H,PLe p H->(∀y∈Y,H y.1=some y.2)->PLe p' H)/\(∀y∈Y,p' y.1=some y.2)/\St z9 zz p' h L
 |[],p,s=>⟨p,⟨.refl _ _ _,fun _ le _=>le⟩,s_,s⟩
 |(b,o)::Y,p,s=>by
   have s1:St z9 zz p h ((b,o)::(Y++L)):=s;obtain⟨p',⟨g,V⟩,M,O⟩:=(s1.last.2).D6 (Y:=Y);refine⟨p',⟨(s1.pg s_).trans g,fun H le h=>V H (fun c q hc=>?_) fun y M=>h y (List.mem_cons_of_mem _ M)⟩,fun y m=>?_,O⟩
   ·unfold G8 at hc;split at hc
    ·rename_i e;subst e;cases hc;exact h (c,o) s_
    ·exact le c q hc
   ·rcases List.mem_cons.1 m with rfl|m
    ·exact g.le _ _ xwk
    ·exact M y m
theorem xd9{pos:String}{a:Bool}(H:P.underlying T=some .bool)(O:evl tm x=.bool a)(M:evl tm y=.bool b):
 Exd P tm ⟨d,.binOp .neq T x y T',ty,pos,aft,gd⟩ h (.bool (!(a==b))):=by
 refine xpx O M (fun K z=>xjh z) ?_;simp only[binOp,Op.equal,Op.maxDepth];refine xaq (xbp H ?_);exact xbq ⟨rfl,rfl⟩
section
variable{X:Cx}{k:List Item}{m:Ks}{LF LL LR L3:List Pcs}{pos:String}{ss':List Prop}{ys:Array Value}{q:Bool}
theorem xaw(Y:Pcs)[i:Rm LL Y LR](n:∀p',PG X.z9.size X.zz p p'->(∀y∈Y,p' y.1=some y.2)->RO X k ops rest l p' LR):RO X k ops rest l p LL:=⟨fun ok tm V E H e h s=>by
 obtain⟨p',⟨g,_⟩,O,M⟩:=(s.rm i).D6;exact(n p' g O).run ok tm V E H e h M⟩
theorem ywt{Q:Value->Pcs->Prop}(Y:Pcs)[ii:Rm LL Y LR](M:ops[i]?=some ⟨d,.call ⟨.value x,args.toArray,ats⟩,ty,pos,aft,none⟩)
 (O:evS l x=some ([],.func (.func ff) first.toArray cap.toArray))(H:D4 l args=some ([],vs))(hc:∀h L,St X.z9 X.zz p h (Y++L)->Ac X.P X.md ff (first++(vs++cap)).toArray h fun v' h'=>∃Z,Q v' Z/\New h h' Z)(n:∀v Z,Q v Z->DE X k ops m p LF effs todo (ent d none v l) ((Z++Y)::LR))
 (he:effs.contains i=true:=by rfl)(hf:Ao X.P ff=true:=by kernel_rfl):DE X k ops m p LF effs (i::todo) l LL:=
 ⟨.eff (U:=Y) (LR:=LR) (Q:=fun v x=>∃Z,x=Z++Y/\Q v Z) M (by simpa using he) ii.h (fun _ _ E=>⟨rfl,xmq rfl,fun C h s=>.inr <| .inl ⟨ff,_,xsw (xdq E O trivial) (by rw[xlx E H trivial]) hf,(hc h _ s).mono fun _ _⟨Z,q,nn⟩=>⟨Z++Y,⟨Z,rfl,q⟩,by
  have s2:=s.K7 nn;rwa[List.append_assoc]⟩⟩⟩) fun v x⟨Z,e,q⟩=>by subst e;exact(n v Z q).run⟩
theorem yp8(hx:evS l x=some (ss,.agg xs))(V:evS l y=some (ss',.agg ys))(hs:Ba g (Bb ss))(H:Ba g (Bb ss'))(e:∀h(K:Bool->Heap->Prop),K q h->wpS X.P (Op.equalIn (9999+1) T (.agg xs) (.agg ys)) h K)(M:X.P.eqGuardType X.P.depth T=false:=by kernel_rfl):Yl X p LL l g (.binOp .neq T x y T') (.bool (!q)):=⟨rfl,(xkk hs H fun h1 O _ _ _ E _=>xc9 M e (xdq E hx h1) (xdq E V O))⟩
theorem ylp{a:Bool}(V:evS l x=some (ss,.bool a))(M:evS l y=some (ss',.bool b))(hs:Ba g (Bb ss))(H:Ba g (Bb ss'))(O:X.P.underlying T=some .bool:=by kernel_rfl):Yl X p LL l g (.binOp .neq T x y T') (.bool (!(a==b))):=⟨rfl,(xkk hs H fun h1 h2 _ _ _ E _=>xd9 O (xdq E V h1) (xdq E M h2))⟩
theorem yzk{b:Nat}{cs:Array Value}{z:Nat×Nat}(M:ops[i]?=some ⟨d,.load t x,ty,pos,aft,gd⟩)(H:gdc ops l gd=some g)(V:evS l x=some (ss,w_ b off))(hs:Ba g (Bb ss))[a:Cd X.P t true][sz:Ak X.P t nn][mm:Bx LL b (.cells cs T z) LR]
 (n:DE X k ops m p LF effs todo (ent d g (.agg ((cs.toList.drop off).take nn).toArray) l) LL)(hn:((cs.toList.drop off).take nn).length=nn:=by rfl)(O:N5 ops effs todo i=true:=by kernel_rfl):DE X k ops m p LF effs (i::todo) l LL:=
 xd7 M H rfl (xfx hs fun hs _ _ E s=>xlf (i:=0) (s.perm (List.perm_append_comm.trans (List.Perm.append_right LF.flatten mm.h))) a.h sz.h (xdq E V hs) rfl rfl hn) n O
theorem ysg{b H:Nat}{cs:List Value}(O:ops[i]?=some ⟨none,.store T x y,ty,pos,aft,none⟩)(V:evS l x=some ([],w_ b off))(hy:evS l y=some ([],v))[sz:Ak X.P T H][mm:Bx LF b (.cells cs.toArray T' (0,0)) LR](hs:Ce cs off v.cells.toList=cs)
 (n:DE X k ops m p LF effs todo l ([]::LL))(he:effs.contains i=true:=by rfl)(hv:v.cells.size=H:=by rfl)(h1:v.cells.toList.all Be=true:=by rfl)(hlen:off+v.cells.size<=cs.length:=by exact Nat.le_of_ble_eq_true rfl):DE X k ops m p LF effs (i::todo) l LL:=
 ⟨.eff (U:=[]) (LR:=LL) (Q:=fun _ x=>x=[]) O (by simpa using he) (List.Perm.refl _) (fun tm _ E=>⟨rfl,xmq rfl,fun C h s=>.inl (by
  unfold Exv;simp only[execOp,xdq E V trivial,xdq E hy trivial];refine xaq ?_;unfold Instr.storeAt;refine xaq (xbq ?_);unfold storeVar;refine xaq (xtq sz.h ?_);rw[if_neg (by simpa using hv)];have s0:St X.z9 X.zz p h ((b,.cells cs.toArray T' (0,0))::(LR.flatten++C)):=s.perm (xal mm);refine xpz (i:=0) s0 rfl (by simpa using hlen) (fun u hu=>List.all_eq_true.1 h1 u hu) fun h' M=>?_;refine xbq ⟨_,.inr ⟨rfl,rfl⟩,[],rfl,?_⟩;rw[Nat.add_zero,hs]at M;exact M.perm (xal mm).symm)⟩) fun v x e=>by subst e;exact n.run⟩
end
theorem xqf{P : Program}{dd : Nat}{xs : Array Value}: ∀{fs : List Field}, (∀f ∈ fs, f.name ≠ "_" /\ P.underlying f.type = some (.int .i64) /\ Gq P f.type = some false /\ ∃n, xs[f.offset]? = some (.J n)) -> Oi P (dd + 1) xs xs fs true
 |[],_=>rfl
 |f::fs,h=>by
   obtain⟨h1,h2,h3,n,h4⟩:=h f s_;refine⟨h1,_,_,true,fun h K k=>xlz h3 h4 k,fun h K k=>xlz h3 h4 k,fun h K k=>xjv h2 (by simpa using k),.inr ⟨rfl,xqf fun f hf=>h f (List.mem_cons_of_mem _ hf)⟩⟩
theorem New.of{h h':Heap}(k:As h h'):New h h' []:=⟨k,s_,s_⟩
theorem xv6{c:Code}{args:List Value}(O:Per p h)(hf:P.funcs[f]?=some fn)(x:RE ⟨P,md,f,.none,fn.ntmps,[],[],Lj P R,h,[]⟩ [.code c] (Fe 0 args) p [])
 (M:fn.body=some c:=by rfl)(hn:Nat.ble args.length fn.ntmps=true:=by rfl):Fl P md f args.toArray h R:=
 xd1 (Φ:=fun h'=>St h [] p h' []) hf M rfl (fun _=>x.run _ (by have:=Nat.le_of_ble_eq_true hn;simp;omega) fun i g v V=>by
  obtain⟨rfl,m,rfl,H⟩:=xfc V;rw[Nat.zero_add,List.getElem?_append_left (by simpa using(List.getElem?_eq_some_iff.1 H).1)];simpa[cv]using H) (St.start h p O)
theorem xwc{t:Tmp}{k:List Item}{LL:List Pcs}(hi:P.inits.idxOf? f=none)(hf:P.funcs[f]?=some fn)(H:fn.results=#[.tmp t])(hv:N3 l [.tmp t]=some [v])
 (x:∀h,St z9 zz p h LL.flatten->R v h):RE ⟨P,md,f,.none,nn,[],[],Lj P R,z9,zz⟩ (.code .ret::k) l p LL:=
 ⟨fun _ _ E=>ygm hi hf H (fun _ _=>xh2 E hv) rfl x⟩
section
variable{X:Cx}{k:List Item}{m:Ks}{LF LL:List Pcs}{pos:String}
theorem yjn{H M e:TypeId}{a:List UInt8}{LR:List Pcs}(O:ops[i]?=some ⟨d,.convert H M x,ty,pos,aft,none⟩)(hx:evS l x=some ([],v))(o:Ab e 1 v (bcs a) Y)[hs:Cb X.P H e][ii:Rm LL Y LR](n:DE X k ops m p LF effs todo (ent d none (sv a) l) LL)
 (hd:X.P.underlying M=some .string:=by kernel_rfl)(he:X.P.underlying e=some (.int .u8):=by kernel_rfl)(V:N5 ops effs todo i=true:=by kernel_rfl):DE X k ops m p LF effs (i::todo) l LL:=
 xd7 (g:=none) O rfl rfl (fun _ _ E s=>xy8 (A:=LF.flatten) (C:=LR.flatten) o (s.perm (List.Perm.append_left _ ii.h)) hs.h hd he (xdq E hx trivial)) n V
end
def pun(p q:Aa):Aa:=fun b=>match p b with
 |some o=>some o
 |none=>q b
theorem yk2{q:Aa}:PLe p (pun p q):=fun b o e=>by unfold pun;rw[e]
section
variable{q r:Aa}{L:Pcs}
theorem yj2(l:PLe p q)(H:Per q z9)(g:PG z9.size [] p r):PLe q (pun r q):=fun b o e=>by
 have M:=xex (H b o e);unfold pun;rw[g.old b M s_];cases O:p b with
 |none=>exact e
 |some u=>have:=l b u O;rw[e]at this;exact this.symm
theorem St.pun(s:St z9 [] r h L)(M:Per q z9):St z9 [] (pun r q) h L:=by
 refine⟨s.C3,s.size,fun b o e=>?_,fun x H=>⟨(s.own x H).1,?_,(s.own x H).2.2⟩,s.nod⟩
 ·unfold X.pun at e;split at e
  ·rename_i u O;cases e;exact s.per b _ O
  ·have:=M b o e;rw[s.C3 b (xex this) s_];exact this
 ·unfold X.pun;rw[(s.own x H).2.1];rcases(s.own x H).2.2 with z|z
  ·cases e:q x.1 with
   |none=>rfl
   |some o=>have:=xex (M _ _ e);omega
  ·simp at z
end
section
variable{X:Cx}{k:List Item}{m:Ks}{LF LL LR:List Pcs}{pos:String}
end
section
variable{LF C:Pcs}{r:Rd}{k:List Item}{Stop:Goroutine->Heap->Prop}{tm0 tmv:List Value}
end
section
variable{X:Cx}{k:List Item}{LL:List Pcs}
theorem ynr{α:Type}[Inhabited α](fv:α->Value){pos:String}
 (hg:gdc ops l gd=some g)(hx:evS l x=some ([],.func (.func ff) first.toArray cap.toArray))(O:D4 l args=some (ss,vs))(hs:Ba g (Bb ss))
 (hc:∀h,Per p h->Ac X.P X.md ff (first++(vs++cap)).toArray h fun v' h'=>(∃q,v'=fv q)/\As h h')(n:∀q,RO X k ops rest (ent d g (fv q) l) p LL)(hf:Ao X.P ff=true:=by kernel_rfl):
 RO X k ops (⟨d,.call ⟨.value x,args.toArray,ats⟩,ty,pos,aft,gd⟩::rest) l p LL:=by
 constructor;intro ok tm M E;have H:=xfq ok;rcases xuv (o:=⟨d,.call ⟨.value x,args.toArray,ats⟩,ty,pos,aft,gd⟩) E hg with⟨e,V⟩|⟨c',e,V⟩
 ·subst e
  exact xnv (R:=fun v h=>(∃q,v=fv q)/\St X.z9 X.zz p h LL.flatten) V (xdq E hx trivial) (by rw[xlx E O hs]) hf
   (fun h s=>(hc h fun b o e=>s.per b o e).mono fun _ _⟨q,kk⟩=>⟨q,s.call kk⟩)
   fun v=>xzx fun⟨q,e⟩=>by subst e;exact(n q).run H.1 _ (Aw.trans M) (E.ent (g:=none) M H.2)
 ·subst e;cases c' with
  |true=>
    exact xnv (R:=fun v h=>(∃q,v=fv q)/\St X.z9 X.zz p h LL.flatten) V (xdq E hx trivial) (by rw[xlx E O (hs rfl)]) hf
     (fun h s=>(hc h fun b o e=>s.per b o e).mono fun _ _⟨q,kk⟩=>⟨q,s.call kk⟩)
     fun v=>xzx fun⟨q,e⟩=>by subst e;exact(n q).run H.1 _ (Aw.trans M) (E.ent (g:=some true) M H.2)
  |false=>exact xnb V rfl ((n default).run H.1 _ (Aw.trans M) (E.ent (g:=some false) M H.2))
end
theorem ynl{X:Cx}{k:List Item}{LL:List Pcs}{id:Nat}{LF:List Pcs}(M:Nat)(O:List Nat)(Xi:Nat->Pcs)(fin H effs:List Nat)(a2 anc:Nat->List Nat)(Q:Nat->(Nat->Value)->(Nat->Pcs)->Value->Pcs->Prop)
 (hp:LL.flatten.Perm (O.flatMap Xi++LF.flatten))
 (x:∀i,i<M-> ∀val piece,(∀j,(anc i).contains j=true->Qr anc Q val piece j (val j) (piece j))->(∀j∈O,piece j=Xi j)->DE X k ops (.to fun l' LL'=>(∃v,l'=ent ((ops[i]?).bind (·.dst)) none v (Gs ops val M l))/\ ∀v,l'=ent ((ops[i]?).bind (·.dst)) none v (Gs ops val M l)->Qr anc Q val piece i v LL'.flatten) p LF effs [i] (Gs ops val M l) ((a2 i).map piece))(a6:∀val piece,∀j∈H,∀v x,Qr anc Q val piece j v x->x=[])(n:∀val piece,(∀j<M,Qr anc Q val piece j (val j) (piece j))->RO X k ops (ops.drop M) (Gs ops val M l) p (fin.map piece++LF))
 (a4:X.P.follows .mixedOrders=true:=by kernel_rfl)(ok:okD X.n ops=true:=by rfl)(a8:Bu ops M (clo ops)=true:=by kernel_rfl)(hm:Nat.ble M ops.length=true:=by kernel_rfl)(hk:La ops M O a2 (fin++H)=true:=by kernel_rfl)(a3:(H.all fun j=>decide (j<M))=true:=by kernel_rfl)(a5:Lf ops M (clo ops) anc=true:=by kernel_rfl)(a7:Pa ops M=true:=by kernel_rfl):
 RE X (.code (.region id ops.toArray true)::k) l p LL:=by
 constructor;intro tm ht E;have b4:=Nat.le_of_ble_eq_true hm;have V:∀{os:List Oper}(j:Nat),okD X.n os=true->okD X.n (os.drop j)=true:=fun{os}=>by
  induction os with
  |nil=>intro j h;cases j<;>exact h
  |cons o os ih=>
    intro j h;cases j with
    |zero=>exact h
    |succ j=>exact ih j (xfq h).1
 have b3:∀{os:List Oper},okD X.n os=true->(os.all fun o=>match o.dst with|some d=>decide (d<tm.length)|none=>true)=true:=fun{os}=>by
  induction os with
  |nil=>intro _;rfl
  |cons o os ih=>
    intro h;rw[List.all_cons,ih (xfq h).1,Bool.and_true];split
    ·rename_i d hd;exact decide_eq_true (ht ▸ (xfq h).2 d hd)
    ·rfl
 have:=xw0 (P:=X.P) (md:=X.md) (ops:=ops) (f:=X.f) (r:=X.r) (df:=X.df) (k:=k) (cs:=X.cs) (Stop:=X.Stop) (tm:=tm) (z9:=X.z9) (zz:=X.zz) (p:=p) (A:=LF.flatten) (C:=[]) (rid:=id) M (clo ops) O fin H Xi a2 anc Q (fun val=>Gb ops val M tm) a4 a8 b4 hk a3 a5 (fun val piece=>ymk (a6 val piece)) (fun _=>rfl) (b3 ok)
  (xzr fun i o ho=>by
   rw[List.getElem?_take]at ho;split at ho
   ·rename_i hi;have hg:=List.all_eq_true.1 a7 o (List.mem_of_getElem? (by rw[List.getElem?_take,if_pos hi];exact ho));simp only[Bool.and_eq_true,Option.isNone_iff_eq_none]at hg;rw[Nat.zero_add];refine⟨hg.2,fun val piece hQ hI=>.inl ⟨xmq hg.1,fun C h s=>?_⟩⟩;have D:=(x i hi val piece hQ hI).run;have b0:(ops[i]?).bind (·.dst)=o.dst:=by rw[ho];rfl
    rw[b0]at D;exact yqg (R:=Qr anc Q val piece i) ho hg.1 D ((xgj ops val tm M).trans ht) (xzm E ht ok M) C (by rw[<- xcc];exact s)
   ·cases ho)
  (fun val piece hQ _=>by
   have z:=(n val piece hQ).run (V M ok) _ ((xgj ops val tm M).trans ht) (xzm E ht ok M);rw[List.flatten_append,<- xcc]at z;intro a9 e h s;exact z a9 e h (by simpa using s))
 intro h s;exact this h (by rw[List.append_nil];exact s.perm hp)
section
variable{X:Cx}{k:List Item}{m:Ks}{LF LL:List Pcs}{pos:String}
theorem y_xt(M:evS l x=some ([],.tuple xs))(H:xs[n]?=some u):Yl X p LL l none (.extract x n) u:=⟨rfl,(fun _ _ _ E _=>xvm (xdq E M trivial) H)⟩
end
end Go.X
