/-
  Part of proofs about a town's master: a calculus for walks beside goroutines that are only leaving, and the walks. No condition.
-/
import Derived.Test.YtjcakmlipohaeaaGreatDoorGJ
import Derived.Test.YtjcakmlipohaeaaGreatDoorGB2
namespace Go.X
open Go.Conc Go.Conc.Lib
open Go.ConcR (DC0)
open Go.ConcN (WgLive)
section
variable{X:Cx}{k:List Item}{ops rest:List Oper}{l:Env}{p:PHeap}{LL LR:List Pcs}{ty:TypeId}{pos:String}{aft:Array Edge}
theorem yow{args:List Operand}{ats:Array TypeId}{g:FuncId}{vs:List Value}(hvs:evsS l args=some ([],vs))(n:RO {X with df:=dcall g vs.toArray::X.df} k ops rest l p LL)(hr:X.r.round=none:=by rfl):
 RO X k ops (⟨none,.defer ⟨.value (.func g),args.toArray,ats⟩,ty,pos,aft,none⟩::rest) l p LL:=
 ⟨fun ok tm ht E=>yuw (xoq rfl) (xlx E hvs trivial) hr (n.run (xhq ok).1 tm ht E)⟩
theorem go_E{P:Program}{md:Md}{f:FuncId}{fn:Func}{c:Code}{args:List Value}{cs:List Frame}{Stop:Goroutine->Heap->Prop}{h h₀:Heap}{B₀:List Nat}{p:PHeap}{LL:List Pcs}(s:St h₀ B₀ p h LL.flatten)(hf:P.funcs[f]?=some fn)
 (x:RE ⟨P,md,f,.dfd,fn.ntmps,[],cs,Stop,h₀,B₀⟩ [.code c] (envOf 0 args) p LL)(hb:fn.body=some c:=by rfl)(hn:Nat.ble args.length fn.ntmps=true:=by rfl):Reach P md (G (Frame.enter P f args.toArray .deferred) cs) h Stop:=
 yyb (Φ:=fun h'=>St h₀ B₀ p h' LL.flatten) hf hb rfl (x.run _ (by have:=Nat.le_of_ble_eq_true hn;simp;omega) fun i g v hl=>by
  obtain⟨rfl,m,rfl,hm⟩:=xnc hl
  rw[Nat.zero_add,List.getElem?_append_left (by simpa using(List.getElem?_eq_some_iff.1 hm).1)]
  simpa[cv]using hm) s
theorem yyw{P:Program}{md:Md}{f:FuncId}{n:Nat}{r:Nat}{df:List Deferred}{c₀:Frame}{cs:List Frame}{Stop:Goroutine->Heap->Prop}{h₀:Heap}{B₀:List Nat}[i:Bx LL r (.deferred (some [])) LR]
 (x:∀tm td h,St h₀ B₀ p h ((r,.deferred none)::LR.flatten)->Reach P md (G (FR (B f .dfd) tm df td) (c₀::cs)) h Stop):RE ⟨P,md,f,.dfd,n,mark r::df,c₀::cs,Stop,h₀,B₀⟩ [] l p LL:=
 ⟨fun _ _ _=>xjg (ydc (i:=0) (L:=(r,.deferred (some []))::LR.flatten) rfl fun td h s=>x _ td h s) fun _ s=>s.bx i⟩
def BehE(X:Cx)(k:List Item)(ops rest:List Oper)(l:Env)(gb:Goroutine):Prop:=
 ∀(md':Md)(Stop':Goroutine->Heap->Prop)(h₀':Heap)(B₀':List Nat)(p':PHeap)(LL':List Pcs)(h':Heap),RO {X with md:=md',Stop:=Stop',h₀:=h₀',B₀:=B₀' } k ops rest l p' LL'->St h₀' B₀' p' h' LL'.flatten->Reach X.P md' gb h' Stop'
variable{L:WgLink}{dd:Nat}{args:List Operand}{ats:Array TypeId}{Wg:Nat}
theorem ylf(H:WgLib X.P L)(hvs:evsS l args=some ([],[.pointer (some ⟨Wg,0,none⟩),.int .i64 1]))(hc:callable X.P L.add=true)
 (x:∀ge gb,(∀w,WgLive L.tWg Wg w-> ∃m,Goes X.P true (RLv L.tWg Wg) DC0 (AtKdS X.P L.tWg Wg gb) m ge w)->BehE X k ops rest ((dd,none,.tuple #[])::l) gb-> ∀h,St X.h₀ X.B₀ p h LL.flatten->Reach X.P X.md ge h X.Stop)(hr:X.r.round=none:=by rfl):
 RO X k ops (⟨some dd,.call ⟨.value (.func L.add),args.toArray,ats⟩,ty,pos,aft,none⟩::rest) l p LL:=⟨fun ok tm ht E=>
 yvp H (xoq rfl) (xlx E hvs trivial) hr hc rfl fun ge gb way beh h s=>x ge gb way (fun md' Stop' h₀' B₀' p' LL' h' n s'=>
  beh md' _ Stop' h' (n.run (xhq ok).1 _ (by simp[ht]) (E.set (g:=none) (ht ▸ (xhq ok).2 dd rfl))) s') h s⟩
theorem yhp{x:Operand}{g:FuncId}{first cap vs:List Value}(hx:evS l x=some ([],.func (.func g) first.toArray cap.toArray))(hvs:evsS l args=some ([],vs))
 (n:∀ga gn,ga.status=.running->(∀w,stepG X.P true ga w=.spawn gn (born X.P {target:=.fn (.func g) cap.toArray,args:=(first++vs).toArray}) w #[])->BehE X k ops rest l gn-> ∀h,St X.h₀ X.B₀ p h LL.flatten->Reach X.P X.md ga h X.Stop)(hr:X.r.round=none:=by rfl):
 RO X k ops (⟨none,.go ⟨.value x,args.toArray,ats⟩,ty,pos,aft,none⟩::rest) l p LL:=⟨fun ok _ ht E=>
 yet (xoq rfl) (xdq E hx trivial) (xlx E hvs trivial) hr fun ga gn h1 h2 beh h s=>n ga gn h1 h2 (fun md' Stop' _ _ _ _ h' n s'=>beh md' _ Stop' h' (n.run (xhq ok).1 _ ht E) s') h s⟩
theorem ych(H:WgLib X.P L)(hvs:evsS l args=some ([],[.pointer (some ⟨Wg,0,none⟩)]))(hc:callable X.P L.wait=true)
 (x:∀ge gb(An:Goroutine->World->Prop),(∀g w,An g w->g.status=.running)->(∀g w,An g w-> ∃m,Goes X.P true (RLv L.tWg Wg) DC0 (AtW1 X.P L.tWg Wg gb An) m g w)->(∀w,WgLive L.tWg Wg w-> ∃m,Goes X.P true (RLv L.tWg Wg) DC0 (AtKd X.P L.tWg Wg An) m ge w)->
  gb.status=.running->(∀(md':Md)(Stop':Goroutine->Heap->Prop)(h₀':Heap)(B₀':List Nat)(p':PHeap)(LL':List Pcs)(h':Heap),RE {X with md:=md',Stop:=Stop',h₀:=h₀',B₀:=B₀' } k ((dd,none,.tuple #[])::l) p' LL'->St h₀' B₀' p' h' LL'.flatten->Reach X.P md' gb h' Stop')->
  ∀h,St X.h₀ X.B₀ p h LL.flatten->Reach X.P X.md ge h X.Stop)(hr:X.r.round=none:=by rfl):
 RO X k ops [⟨some dd,.call ⟨.value (.func L.wait),args.toArray,ats⟩,ty,pos,aft,none⟩] l p LL:=⟨fun ok tm ht E=>
 yrh H (xoq rfl) (xlx E hvs trivial) hr hc rfl fun ge gb An a1 a2 a3⟨q,e,e2⟩h s=>x ge gb An a1 a2 a3 (by rw[e];rfl) (fun md' Stop' h₀' B₀' p' LL' h' n s'=>by
  have e3:q=[]:=by rw[e2];simp
  subst e3
  rw[e]
  exact xyd (n.run _ (by simp[ht]) (E.set (g:=none) (ht ▸ (xhq ok).2 dd rfl))) h' s') h s⟩
theorem yxw{c:Code}(n:RE X (.code c::.inLoop c::k) l p LL):RE X (.code (.loop c)::k) l p LL:=⟨fun tm ht E=>ycc (n.run tm ht E)⟩
theorem xbp{c:Code}(n:RE X (.code c::.inLoop c::k) l p LL):RE X (.inLoop c::k) l p LL:=⟨fun tm ht E=>xg8 (n.run tm ht E)⟩
end
section
variable{X:Cx}{k:List Item}{ops rest:List Oper}{m:Ks}{l:Env}{p:PHeap}{LF LL LR LR2:List Pcs}{effs todo:List Nat}{dd:Nat}{ty:TypeId}{pos:String}{aft:Array Edge}{x y:Operand}{i:Nat}{v:Value}{w:Nat}{es news:List (List Value)}{Y Z:Pcs}
theorem ytt{sT xT eT eX:TypeId}{by':Nat}{x' z:Value}(ho:ops[i]?=some ⟨some dd,.call ⟨.builtin .append,#[x,y],#[sT,xT]⟩,ty,pos,aft,none⟩)(hx:evS l x=some ([],v))(hy:evS l y=some ([],x'))(o1:OwnS eT w v es Y)(o2:OwnS eT w x' news Z)(h1:∀u∈news.flatten,isOne u=true)(room:(es.length+news.length)*by'<=2^40)
 [i1:Rm LL Y LR][i2:Rm LR Z LR2][hT:SlcC X.P sT eT][hs:SizeC X.P eT w][hz:ZeroC X.P eT z][hb:ByC X.P eT by'][hX:SlcC X.P xT eX](nx:∀v' Y',OwnS eT w v' (es++news) Y'->DE X k ops m p LF effs todo ((dd,none,v')::l) (Y'::LR2))
 (he:effs.contains i=true:=by rfl)(hzs:z.cells.size=w:=by rfl)(hb2:0<by'/\by'<=2^20:=by decide):DE X k ops m p LF effs (i::todo) l LL:=
 ⟨.eff (U:=Y++Z) (LR:=LR2) (Q:=fun v' Y'=>OwnS eT w v' (es++news) Y') ho (by simpa using he) (i1.h.trans (by rw[List.append_assoc];exact List.Perm.append_left Y i2.h)) (fun tm _ E=>⟨rfl,xoq rfl,fun C h s=>.inl (by
  rw[List.append_assoc]at s
  exact Ex.exv (xxf [] hT.h hs.h hz.h hzs hb.h hX.h (xdq E hx trivial) (xdq E hy trivial) o1 s (xvh (L₁:=Y) o2 s) h1 room hb2 fun v' X' h' o' s'=>⟨X',o',s'.sub (by
   simp only[List.nil_append]
   exact(List.Sublist.refl X').append (List.sublist_append_right Z (LF.flatten++C)))⟩))⟩) fun v' Y' o'=>(nx v' Y' o').run⟩
end
end Go.X
namespace Go.X
open Go.Conc
section
variable{X:Cx}{k:List Item}{ops:List Oper}{m:Ks}{l:Env}{p:PHeap}{LF LL LR:List Pcs}{effs todo:List Nat}{dd:Nat}{ty:TypeId}{pos:String}{aft:Array Edge}{x y:Operand}{i w:Nat}{v:Value}{es news:List (List Value)}{Y:Pcs}
theorem xv0{sT xT eT eX:TypeId}{by' n cap:Nat}{a:Option Addr}{z:Value}(ho:ops[i]?=some ⟨some dd,.call ⟨.builtin .append,#[x,y],#[sT,xT]⟩,ty,pos,aft,none⟩)(hx:evS l x=some ([],v))(hy:evS l y=some ([],.slice a n cap))(o1:OwnS eT w v es Y)(o2:Sl p a n w news)(h1:∀u∈news.flatten,isOne u=true)(room:(es.length+n)*by'<=2^40)
 [i1:Rm LL Y LR][hT:SlcC X.P sT eT][hs:SizeC X.P eT w][hz:ZeroC X.P eT z][hb:ByC X.P eT by'][hX:SlcC X.P xT eX](nx:∀v' Y',OwnS eT w v' (es++news) Y'->DE X k ops m p LF effs todo ((dd,none,v')::l) (Y'::LR))
 (he:effs.contains i=true:=by rfl)(hzs:z.cells.size=w:=by rfl)(hb2:0<by'/\by'<=2^20:=by decide)(hw0:0<w:=by decide):DE X k ops m p LF effs (i::todo) l LL:=
 ⟨.eff (U:=Y) (LR:=LR) (Q:=fun v' Y'=>OwnS eT w v' (es++news) Y') ho (by simpa using he) i1.h (fun tm _ E=>⟨rfl,xoq rfl,fun C h s=>.inl (
  Ex.exv (xxf [] hT.h hs.h hz.h hzs hb.h hX.h (xdq E hx trivial) (xdq E hy trivial) o1 s (xeg s hw0 o2) h1 room hb2 fun v' X' h' o' s'=>⟨X',o',s'⟩))⟩) fun v' Y' o'=>(nx v' Y' o').run⟩
theorem ykf{ops rest:List Oper}{LL:List Pcs}{d:Option Tmp}{gd:Option (Nat×Bool)}{g:Option Bool}{ss:List Prop}{args:List Operand}{ats:Array TypeId}{ff:FuncId}{first cap vs:List Value}{Q:Bool->Prop}(hg:gdc ops l gd=some g)(hx:evS l x=some ([],.func (.func ff) first.toArray cap.toArray))(hvs:evsS l args=some (ss,vs))(hs:cimp g (AllP ss))
 (hc:∀h,Per p h->CallsX X.P X.md ff (first++(vs++cap)).toArray h fun v' h'=>(∃q,v'=.bool q/\Q q)/\Keep h h')(n:∀q:Bool,cimp g (Q q)->RO X k ops rest (ent d g (.bool q) l) p LL)(hf:callable X.P ff=true:=by kernel_rfl):
 RO X k ops (⟨d,.call ⟨.value x,args.toArray,ats⟩,ty,pos,aft,gd⟩::rest) l p LL:=by
 constructor
 intro ok tm ht E
 have ok':=xhq ok
 rcases xnv (o:=⟨d,.call ⟨.value x,args.toArray,ats⟩,ty,pos,aft,gd⟩) E hg with⟨e,hm⟩|⟨c',e,hm⟩
 ·subst e
  exact xvw (R:=fun v h=>(∃q,v=.bool q/\Q q)/\St X.h₀ X.B₀ p h LL.flatten) hm (xdq E hx trivial) (by rw[xlx E hvs hs]) hf
   (fun h s=>(hc h fun b o e=>s.per b o e).mono fun _ _⟨q,kk⟩=>⟨q,s.call kk⟩)
   fun v=>xgz fun⟨q,e,hq⟩=>by subst e;exact(n q hq).run ok'.1 _ (putl_len.trans ht) (E.ent (g:=none) ht ok'.2)
 ·subst e
  cases c' with
  |true=>
    exact xvw (R:=fun v h=>(∃q,v=.bool q/\Q q)/\St X.h₀ X.B₀ p h LL.flatten) hm (xdq E hx trivial) (by rw[xlx E hvs (hs rfl)]) hf
     (fun h s=>(hc h fun b o e=>s.per b o e).mono fun _ _⟨q,kk⟩=>⟨q,s.call kk⟩)
     fun v=>xgz fun⟨q,e,hq⟩=>by subst e;exact(n q fun _=>hq).run ok'.1 _ (putl_len.trans ht) (E.ent (g:=some true) ht ok'.2)
  |false=>exact xid hm rfl ((n false fun e=>by cases e).run ok'.1 _ (putl_len.trans ht) (E.ent (g:=some false) ht ok'.2))
end
def piecesOf(n m:Nat)(p:PHeap):Pcs:=(List.range m).filterMap fun c=>if n<=c then(p c).map fun o=>(c,o)else none
theorem xjh{n m:Nat}{p:PHeap}{x:Nat×Obj}:x∈piecesOf n m p<->x.1<m/\n<=x.1/\p x.1=some x.2:=by
 unfold piecesOf
 rw[List.mem_filterMap]
 constructor
 ·rintro⟨c,hc,e⟩
  split at e
  ·rename_i h
   obtain⟨o,ho,rfl⟩:=Option.map_eq_some_iff.1 e
   exact⟨List.mem_range.1 hc,h,ho⟩
  ·cases e
 ·rintro⟨h1,h2,h3⟩
  exact⟨x.1,List.mem_range.2 h1,by rw[if_pos h2,h3];rfl⟩
theorem xxw{f:Nat->Option (Nat×Obj)}(h:∀c x,f c=some x->x.1=c):∀l:List Nat,(l.filterMap f).map (·.1)=l.filter fun c=>(f c).isSome
 |[]=>rfl
 |c::l=>by
   cases e:f c with
   |none=>rw[List.filterMap_cons_none e,List.filter_cons_of_neg (by rw[e];simp),xxw h l]
   |some x=>rw[List.filterMap_cons_some e,List.filter_cons_of_pos (by rw[e];rfl),List.map_cons,xxw h l,h c x e]
theorem xe0(n m:Nat)(p:PHeap):((piecesOf n m p).map (·.1)).Nodup:=by
 unfold piecesOf
 rw[xxw]
 ·exact List.Nodup.sublist List.filter_sublist List.nodup_range
 ·intro c x e
  split at e
  ·obtain⟨o,_,rfl⟩:=Option.map_eq_some_iff.1 e;rfl
  ·cases e
theorem LastR.pieces{p:PHeap}{h h':Heap}{Q:Value->PHeap->Prop}{v:Value}(x:LastR p h Q v h'):∃Y,(∃p',Q v p'/\ ∀p'',PLe p p''->(∀y∈Y,p'' y.1=some y.2)->PLe p' p'')/\New h h' Y:=by
 obtain⟨p',g,q,k,pe⟩:=x
 refine⟨piecesOf h.size h'.size p',⟨p',q,fun p'' le hy c o hc=>?_⟩,k,fun y hy=>?_,xe0 _ _ _⟩
 ·by_cases hlt:c<h.size
  ·exact le c o (by rw[<- g.old c hlt (by simp)];exact hc)
  ·exact hy (c,o) (xjh.2 ⟨xix (pe c o hc),om,hc⟩)
 ·obtain⟨_,h2,h3⟩:=xjh.1 hy
  exact⟨pe _ _ h3,h2⟩
theorem St.lastAll{h₀ h:Heap}{B₀:List Nat}{L:Pcs}:∀{Y:Pcs}{p:PHeap},St h₀ B₀ p h (Y++L)-> ∃p',(PG h₀.size B₀ p p'/\ ∀p'',PLe p p''->(∀y∈Y,p'' y.1=some y.2)->PLe p' p'')/\(∀y∈Y,p' y.1=some y.2)/\St h₀ B₀ p' h L
 |[],p,s=>⟨p,⟨.refl _ _ _,fun _ le _=>le⟩,by simp,s⟩
 |(b,o)::Y,p,s=>by
   have s1:St h₀ B₀ p h ((b,o)::(Y++L)):=s
   obtain⟨p',⟨g,gl⟩,hy,s'⟩:=(s1.last.2).lastAll (Y:=Y)
   refine⟨p',⟨(s1.pg (by simp)).trans g,fun p'' le h=>gl p'' (fun c q hc=>?_) fun y hy=>h y (List.mem_cons_of_mem _ hy)⟩,fun y m=>?_,s'⟩
   ·unfold padd at hc
    split at hc
    ·rename_i e;subst e;cases hc;exact h (c,o) (by simp)
    ·exact le c q hc
   ·rcases List.mem_cons.1 m with rfl|m
    ·exact g.le _ _ xrk
    ·exact hy y m
theorem xp8{P:Program}{h:Heap}{tm:List Value}{d:Option Tmp}{ty:TypeId}{pos:String}{aft:Array Edge}{gd:Option (Nat×Bool)}{T T':TypeId}{x y:Operand}{a b:Bool}(ht:P.underlying T=some .bool)(hx:evl tm x=.bool a)(hy:evl tm y=.bool b):
 Exd P tm ⟨d,.binOp .neq T x y T',ty,pos,aft,gd⟩ h (.bool (!(a==b))):=by
 refine xux hx hy (fun K z=>xr0 z) ?_
 simp only[binOp,Op.equal,Op.maxDepth]
 refine xbq (xy6 ht ?_)
 exact xcq ⟨rfl,rfl⟩
section
variable{X:Cx}{k:List Item}{ops rest:List Oper}{m:Ks}{l:Env}{p:PHeap}{LF LL LR L3:List Pcs}{effs todo:List Nat}{g:Option Bool}{d:Option Tmp}{ty:TypeId}{pos:String}{aft:Array Edge}{gd:Option (Nat×Bool)}{ss ss':List Prop}{x y:Operand}{i:Nat}{T T':TypeId}{xs ys:Array Value}{q:Bool}
theorem xkr(Y:Pcs)[i:Rm LL Y LR](n:∀p',PG X.h₀.size X.B₀ p p'->(∀y∈Y,p' y.1=some y.2)->RO X k ops rest l p' LR):RO X k ops rest l p LL:=⟨fun ok tm ht E pre e h s=>by
 obtain⟨p',⟨g,_⟩,hy,s'⟩:=(s.rm i).lastAll
 exact(n p' g hy).run ok tm ht E pre e h s'⟩
theorem ytk{args:List Operand}{ats:Array TypeId}{ff:FuncId}{first cap vs:List Value}{d:Option Tmp}{Q:Value->Pcs->Prop}(Y:Pcs)[ii:Rm LL Y LR](ho:ops[i]?=some ⟨d,.call ⟨.value x,args.toArray,ats⟩,ty,pos,aft,none⟩)
 (hx:evS l x=some ([],.func (.func ff) first.toArray cap.toArray))(hvs:evsS l args=some ([],vs))(hc:∀h L,St X.h₀ X.B₀ p h (Y++L)->CallsX X.P X.md ff (first++(vs++cap)).toArray h fun v' h'=>∃Z,Q v' Z/\New h h' Z)(n:∀v Z,Q v Z->DE X k ops m p LF effs todo (ent d none v l) ((Z++Y)::LR))
 (he:effs.contains i=true:=by rfl)(hf:callable X.P ff=true:=by kernel_rfl):DE X k ops m p LF effs (i::todo) l LL:=
 ⟨.eff (U:=Y) (LR:=LR) (Q:=fun v x=>∃Z,x=Z++Y/\Q v Z) ho (by simpa using he) ii.h (fun _ _ E=>⟨rfl,xoq rfl,fun C h s=>.inr <| .inl ⟨ff,_,xrv (xdq E hx trivial) (by rw[xlx E hvs trivial]) hf,(hc h _ s).mono fun _ _⟨Z,q,nn⟩=>⟨Z++Y,⟨Z,rfl,q⟩,by
  have s2:=s.callN nn
  rwa[List.append_assoc]⟩⟩⟩) fun v x⟨Z,e,q⟩=>by subst e;exact(n v Z q).run⟩
theorem yfq(hg:gdc ops l gd=some g)(hx:evS l x=some (ss,.agg xs))(hy:evS l y=some (ss',.agg ys))(hs:cimp g (AllP ss))(hs':cimp g (AllP ss'))(e:∀h(K:Bool->Heap->Prop),K q h->wpS X.P (Op.equalIn (9999+1) T (.agg xs) (.agg ys)) h K)(n:RO X k ops rest (ent d g (.bool (!q)) l) p LL)(hgt:X.P.eqGuardType X.P.depth T=false:=by kernel_rfl):
 RO X k ops (⟨d,.binOp .neq T x y T',ty,pos,aft,gd⟩::rest) l p LL:=xdx hg rfl (xoz hs hs' fun h1 h2 _ _ E _=>xo8 hgt e (xdq E hx h1) (xdq E hy h2)) n
theorem yeq{a b:Bool}(hg:gdc ops l gd=some g)(hx:evS l x=some (ss,.bool a))(hy:evS l y=some (ss',.bool b))(hs:cimp g (AllP ss))(hs':cimp g (AllP ss'))(n:RO X k ops rest (ent d g (.bool (!(a==b))) l) p LL)(ht:X.P.underlying T=some .bool:=by kernel_rfl):
 RO X k ops (⟨d,.binOp .neq T x y T',ty,pos,aft,gd⟩::rest) l p LL:=xdx hg rfl (xoz hs hs' fun h1 h2 _ _ E _=>xp8 ht (xdq E hx h1) (xdq E hy h2)) n
theorem xqp{a b:List UInt8}(ho:ops[i]?=some ⟨d,.binOp .neq T x y T',ty,pos,aft,gd⟩)(hg:gdc ops l gd=some g)(hx:evS l x=some (ss,sv a))(hy:evS l y=some (ss',sv b))(hs:cimp g (AllP ss))(hs':cimp g (AllP ss'))(n:DE X k ops m p LF effs todo (ent d g (.bool (!decide (a=b))) l) LL):
 DE X k ops m p LF effs (i::todo) l LL:=xwz ho hg rfl (xoz hs hs' fun h1 h2 _ _ _ E _=>xc6 (xdq E hx h1) (xdq E hy h2)) n
theorem ypk{t:TypeId}{b off nn:Nat}{cs:Array Value}{z:Nat×Nat}(ho:ops[i]?=some ⟨d,.load t x,ty,pos,aft,gd⟩)(hg:gdc ops l gd=some g)(hx:evS l x=some (ss,.pointer (some ⟨b,off,none⟩)))(hs:cimp g (AllP ss))[a:AggC X.P t true][sz:SizeC X.P t nn][mm:Bx LL b (.cells cs T z) LR]
 (n:DE X k ops m p LF effs todo (ent d g (.agg ((cs.toList.drop off).take nn).toArray) l) LL)(hn:((cs.toList.drop off).take nn).length=nn:=by rfl)(hb:pinB ops effs todo i=true:=by kernel_rfl):DE X k ops m p LF effs (i::todo) l LL:=
 yrk ho hg rfl (xsq hs fun hs _ _ E s=>xzw (i:=0) (s.perm (List.perm_append_comm.trans (List.Perm.append_right LF.flatten mm.h))) a.h sz.h (xdq E hx hs) rfl rfl hn) n hb
theorem yag{b off nsz:Nat}{cs:List Value}{v:Value}(ho:ops[i]?=some ⟨none,.store T x y,ty,pos,aft,none⟩)(hx:evS l x=some ([],.pointer (some ⟨b,off,none⟩)))(hy:evS l y=some ([],v))[sz:SizeC X.P T nsz][mm:Bx LF b (.cells cs.toArray T' (0,0)) LR](hs:setl cs off v.cells.toList=cs)
 (n:DE X k ops m p LF effs todo l ([]::LL))(he:effs.contains i=true:=by rfl)(hv:v.cells.size=nsz:=by rfl)(h1:v.cells.toList.all isOne=true:=by rfl)(hlen:off+v.cells.size<=cs.length:=by exact Nat.le_of_ble_eq_true rfl):DE X k ops m p LF effs (i::todo) l LL:=
 ⟨.eff (U:=[]) (LR:=LL) (Q:=fun _ x=>x=[]) ho (by simpa using he) (List.Perm.refl _) (fun tm _ E=>⟨rfl,xoq rfl,fun C h s=>.inl (by
  unfold Exv
  simp only[execOp,xdq E hx trivial,xdq E hy trivial]
  refine xbq ?_
  unfold Instr.storeAt
  refine xbq (xcq ?_)
  unfold storeVar
  refine xbq (xwq sz.h ?_)
  rw[if_neg (by simpa using hv)]
  have s0:St X.h₀ X.B₀ p h ((b,.cells cs.toArray T' (0,0))::(LR.flatten++C)):=s.perm (xal mm)
  refine xmz (i:=0) s0 rfl (by simpa using hlen) (fun u hu=>List.all_eq_true.1 h1 u hu) fun h' s'=>?_
  refine xcq ⟨_,.inr ⟨rfl,rfl⟩,[],rfl,?_⟩
  rw[Nat.add_zero,hs]at s'
  exact s'.perm (xal mm).symm)⟩) fun v x e=>by subst e;exact n.run⟩
end
theorem xyf{P : Program}{dd : Nat}{xs : Array Value}: ∀{fs : List Field}, (∀f ∈ fs, f.name ≠ "_" /\ P.underlying f.type = some (.int .i64) /\ aggT P f.type = some false /\ ∃n, xs[f.offset]? = some (.int .i64 n)) -> EqOk P (dd + 1) xs xs fs true
 |[],_=>rfl
 |f::fs,h=>by
   obtain⟨h1,h2,h3,n,h4⟩:=h f (by simp)
   refine⟨h1,_,_,true,fun h K k=>xhj h3 h4 k,fun h K k=>xhj h3 h4 k,fun h K k=>xlb h2 (by simpa using k),.inr ⟨rfl,xyf fun f hf=>h f (List.mem_cons_of_mem _ hf)⟩⟩
theorem ynf{l:Env}{x:Operand}{i:Nat}{vs:Array Value}{v:Value}(h:evS l x=some ([],.tuple vs))(hv:vs[i]?=some v):pv l (.extract x i)=some ([],v):=by
 simp only[pv,h,hv]
theorem New.of{h h':Heap}(k:Keep h h'):New h h' []:=⟨k,by simp,by simp⟩
theorem xqs{P:Program}{md:Md}{f:FuncId}{fn:Func}{c:Code}{args:List Value}{R:Value->Heap->Prop}{h:Heap}{p:PHeap}(hp:Per p h)(hf:P.funcs[f]?=some fn)(x:RE ⟨P,md,f,.none,fn.ntmps,[],[],StopE P R,h,[]⟩ [.code c] (envOf 0 args) p [])
 (hb:fn.body=some c:=by rfl)(hn:Nat.ble args.length fn.ntmps=true:=by rfl):EntersX P md f args.toArray h R:=
 xs0 (Φ:=fun h'=>St h [] p h' []) hf hb rfl (fun _=>x.run _ (by have:=Nat.le_of_ble_eq_true hn;simp;omega) fun i g v hl=>by
  obtain⟨rfl,m,rfl,hm⟩:=xnc hl
  rw[Nat.zero_add,List.getElem?_append_left (by simpa using(List.getElem?_eq_some_iff.1 hm).1)]
  simpa[cv]using hm) (St.start h p hp)
theorem xww{P:Program}{md:Md}{f:FuncId}{nn:Nat}{h₀:Heap}{B₀:List Nat}{fn:Func}{t:Tmp}{v:Value}{R:Value->Heap->Prop}{k:List Item}{l:Env}{p:PHeap}{LL:List Pcs}(hi:P.inits.idxOf? f=none)(hf:P.funcs[f]?=some fn)(hr:fn.results=#[.tmp t])(hv:resv l [.tmp t]=some [v])
 (x:∀h,St h₀ B₀ p h LL.flatten->R v h):RE ⟨P,md,f,.none,nn,[],[],StopE P R,h₀,B₀⟩ (.code .ret::k) l p LL:=
 ⟨fun _ _ E=>yol hi hf hr (fun _ _=>xd2 E hv) rfl x⟩
section
variable{P:Program}{tm:List Value}{h:Heap}{d:Option Tmp}{ty:TypeId}{pos:String}{aft:Array Edge}{gd:Option (Nat×Bool)}
theorem ypc{ats:Array TypeId}{k k' k2:IntKind}{x y z:Operand}{a b c:Int}(hx:evl tm x=.int k a)(hy:evl tm y=.int k' b)(hz:evl tm z=.int k2 c):
 Exd P tm ⟨d,.call {callee:=.builtin .min,args:=#[x,y,z],argTypes:=ats},ty,pos,aft,gd⟩ h (.int k (min (min a b) c)):=by
 refine xaj (s:=pure (.int k (min (min a b) c))) (fun cs=>?_) (xcq ⟨rfl,rfl⟩)
 have e:∀a b:Int,(if b<a then b else a)=min a b:=fun a b=>by rw[Int.min_def];split<;>split<;>omega
 simp[builtin,hx,hy,hz,Builtin.min_,Builtin.min2,e]
theorem yqc{ats:Array TypeId}{k k' k2:IntKind}{x y z:Operand}{a b c:Int}(hx:evl tm x=.int k a)(hy:evl tm y=.int k' b)(hz:evl tm z=.int k2 c):
 Exd P tm ⟨d,.call {callee:=.builtin .max,args:=#[x,y,z],argTypes:=ats},ty,pos,aft,gd⟩ h (.int k (max (max a b) c)):=by
 refine xaj (s:=pure (.int k (max (max a b) c))) (fun cs=>?_) (xcq ⟨rfl,rfl⟩)
 have e:∀a b:Int,(if b>a then b else a)=max a b:=fun a b=>by rw[Int.max_def];split<;>split<;>omega
 simp[builtin,hx,hy,hz,Builtin.max_,Builtin.max2,e]
end
section
variable{X:Cx}{k:List Item}{ops rest:List Oper}{l:Env}{p:PHeap}{LL:List Pcs}{d:Option Tmp}{ty:TypeId}{pos:String}{aft:Array Edge}{gd:Option (Nat×Bool)}{g:Option Bool}{ss ss' s3:List Prop}{x y y2:Operand}{t:TypeId}
theorem yyn{e:TypeId}{q c i j w:Nat}{a:Option Addr}{k1 k2:IntKind}(hx:evS l x=some ([],.slice a q c))(hy:evS l y=some ([],.int k1 ((i:Nat):Int)))(hz:evS l y2=some ([],.int k2 ((j:Nat):Int)))(hj:i<=j/\j<=c)[f:SlcC X.P t e][sz:SizeC X.P e w]
 (nx:RO X k ops rest (ent d none (.slice (cutA a c i w) (j-i) (c-i)) l) p LL):RO X k ops (⟨d,.slice t x (some y) (some y2) none,ty,pos,aft,none⟩::rest) l p LL:=
 xdx (g:=none) rfl rfl (fun _ _ E _=>xlw f.h sz.h (xdq E hx trivial) (.nat 0 (xdq E hy trivial)) (.nat q (xdq E hz trivial)) hj.1 hj.2) nx
theorem yih{ats:Array TypeId}{kk k' k2:IntKind}{a b c:Int}(hg:gdc ops l gd=some g)(hx:evS l x=some (ss,.int kk a))(hy:evS l y=some (ss',.int k' b))(hz:evS l y2=some (s3,.int k2 c))(hs:cimp g (AllP ss))(hs':cimp g (AllP ss'))(hs3:cimp g (AllP s3))
 (n:RO X k ops rest (ent d g (.int kk (min (min a b) c)) l) p LL):RO X k ops (⟨d,.call ⟨.builtin .min,#[x,y,y2],ats⟩,ty,pos,aft,gd⟩::rest) l p LL:=
 xdx hg rfl (xoz hs (xoz hs' hs3 And.intro) fun h1 h2 _ _ E _=>ypc (xdq E hx h1) (xdq E hy h2.1) (xdq E hz h2.2)) n
theorem ykh{ats:Array TypeId}{kk k' k2:IntKind}{a b c:Int}(hg:gdc ops l gd=some g)(hx:evS l x=some (ss,.int kk a))(hy:evS l y=some (ss',.int k' b))(hz:evS l y2=some (s3,.int k2 c))(hs:cimp g (AllP ss))(hs':cimp g (AllP ss'))(hs3:cimp g (AllP s3))
 (n:RO X k ops rest (ent d g (.int kk (max (max a b) c)) l) p LL):RO X k ops (⟨d,.call ⟨.builtin .max,#[x,y,y2],ats⟩,ty,pos,aft,gd⟩::rest) l p LL:=
 xdx hg rfl (xoz hs (xoz hs' hs3 And.intro) fun h1 h2 _ _ E _=>yqc (xdq E hx h1) (xdq E hy h2.1) (xdq E hz h2.2)) n
end
def pun(p q:PHeap):PHeap:=fun b=>match p b with
 |some o=>some o
 |none=>q b
theorem yht{p q:PHeap}:PLe p (pun p q):=fun b o e=>by unfold pun;rw[e]
section
variable{p q r:PHeap}{h₀ h:Heap}{L:Pcs}
theorem ygt(l:PLe p q)(hq:Per q h₀)(g:PG h₀.size [] p r):PLe q (pun r q):=fun b o e=>by
 have hb:=xix (hq b o e)
 unfold pun
 rw[g.old b hb (by simp)]
 cases hp:p b with
 |none=>exact e
 |some u=>have:=l b u hp;rw[e]at this;exact this.symm
theorem St.pun(s:St h₀ [] r h L)(hq:Per q h₀):St h₀ [] (pun r q) h L:=by
 refine⟨s.keep,s.size,fun b o e=>?_,fun x hx=>⟨(s.own x hx).1,?_,(s.own x hx).2.2⟩,s.nod⟩
 ·unfold X.pun at e
  split at e
  ·rename_i u hu;cases e;exact s.per b _ hu
  ·have:=hq b o e
   rw[s.keep b (xix this) (by simp)];exact this
 ·unfold X.pun
  rw[(s.own x hx).2.1]
  rcases(s.own x hx).2.2 with z|z
  ·cases e:q x.1 with
   |none=>rfl
   |some o=>have:=xix (hq _ _ e);omega
  ·simp at z
end
section
variable{X:Cx}{k:List Item}{ops:List Oper}{m:Ks}{l:Env}{p:PHeap}{LF LL LR:List Pcs}{effs todo:List Nat}{d:Option Tmp}{ty:TypeId}{pos:String}{aft:Array Edge}{gd:Option (Nat×Bool)}{ss:List Prop}{x:Operand}{i:Nat}
theorem yqs{args:List Operand}{ats:Array TypeId}{ff:FuncId}{first cap vs:List Value}{Q:Value->Pcs->Prop}(Y:Pcs)[ii:Rm LL Y LR](ho:ops[i]?=some ⟨d,.call ⟨.value x,args.toArray,ats⟩,ty,pos,aft,gd⟩)(hg:gdc ops l gd=some (some true))
 (hx:evS l x=some ([],.func (.func ff) first.toArray cap.toArray))(hvs:evsS l args=some (ss,vs))(hs:AllP ss)(hc:∀h L,St X.h₀ X.B₀ p h (Y++L)->CallsX X.P X.md ff (first++(vs++cap)).toArray h fun v' h'=>∃Z,Q v' Z/\New h h' Z)
 (n:∀v Z,Q v Z->DE X k ops m p LF effs todo (ent d (some true) v l) ((Z++Y)::LR))(he:effs.contains i=true:=by rfl)(hf:callable X.P ff=true:=by kernel_rfl):DE X k ops m p LF effs (i::todo) l LL:=
 ⟨.effG (U:=Y) (LR:=LR) (g:=some true) (Q:=fun v x=>∃Z,x=Z++Y/\Q v Z) ho (by simpa using he) ii.h (fun tm _ E=>⟨rfl,.inl ⟨by
  rcases xnv (o:=⟨d,.call ⟨.value x,args.toArray,ats⟩,ty,pos,aft,gd⟩) E hg with⟨e,_⟩|⟨c',e,hm⟩
  ·cases e
  ·cases e;exact hm,fun C h s=>.inr <| .inl ⟨ff,_,xrv (xdq E hx trivial) (by rw[xlx E hvs hs]) hf,(hc h _ s).mono fun v' h'⟨Z,q,nn⟩=>⟨v',Z++Y,rfl,⟨Z,rfl,q⟩,by
   have s2:=s.callN nn
   rwa[List.append_assoc]⟩⟩⟩⟩) fun v x⟨Z,e,q⟩=>by subst e;exact(n v Z q).run⟩
end
end Go.X
