/-
  Part of proofs about a town's master: a calculus for Be beside goroutines that are only leaving, and the Be. No condition.
-/
import Derived.Test.YtblcmdjhidhnjaaGreatDoorGJ
import Derived.Test.YtblcmdjhidhnjaaGreatDoorGB2
namespace Go.X
open Go.Conc Go.Conc.Lib
open Go.ConcR (DC0)
open Go.ConcN (WgLive)
section
variable{X:Cx}{k:List Item}{ops rest:List Oper}{l:Env}{p:Ab}{LL LR:List Pcs}{ty:TypeId}{pos:String}{aft:Array Edge}
theorem ygv{args:List Operand}{ats:Array TypeId}{g:FuncId}{vs:List Value}(H:C9 l args=some ([],vs))(n:RO {X with df:=dcall g vs.toArray::X.df} k ops rest l p LL)(O:X.r.round=none:=by rfl):
 RO X k ops (⟨none,.defer ⟨.value (.func g),args.toArray,ats⟩,ty,pos,aft,none⟩::rest) l p LL:=
 ⟨fun V tm M E=>ymv (xrq rfl) (xnx E H trivial) O (n.run (xjq V).1 tm M E)⟩
theorem T5{P:Program}{md:Md}{f:FuncId}{fn:Func}{c:Code}{args:List Value}{cs:List Frame}{Stop:Goroutine->Heap->Prop}{h z9:Heap}{zz:List Nat}{p:Ab}{LL:List Pcs}(s:St z9 zz p h LL.flatten)(hf:P.funcs[f]?=some fn)
 (x:RE ⟨P,md,f,.dfd,fn.ntmps,[],cs,Stop,z9,zz⟩ [.code c] (Gn 0 args) p LL)(V:fn.body=some c:=by rfl)(hn:Nat.ble args.length fn.ntmps=true:=by rfl):Reach P md (G (Frame.enter P f args.toArray .deferred) cs) h Stop:=
 ytw (Φ:=fun O=>St z9 zz p O LL.flatten) hf V rfl (x.run _ (by have:=Nat.le_of_ble_eq_true hn;simp;omega) fun i g v M=>by
  obtain⟨rfl,m,rfl,H⟩:=xjc M;rw[Nat.zero_add,List.getElem?_append_left (by simpa using(List.getElem?_eq_some_iff.1 H).1)];simpa[cv]using H) s
theorem yqv{P:Program}{md:Md}{f:FuncId}{n:Nat}{r:Nat}{df:List Deferred}{zq:Frame}{cs:List Frame}{Stop:Goroutine->Heap->Prop}{z9:Heap}{zz:List Nat}[i:Bx LL r (.deferred (some [])) LR]
 (x:∀tm td h,St z9 zz p h ((r,.deferred none)::LR.flatten)->Reach P md (G (FR (B f .dfd) tm df td) (zq::cs)) h Stop):RE ⟨P,md,f,.dfd,n,mark r::df,zq::cs,Stop,z9,zz⟩ [] l p LL:=
 ⟨fun _ _ _=>xuf (yyw (i:=0) (L:=(r,.deferred (some []))::LR.flatten) rfl fun td h s=>x _ td h s) fun _ s=>s.bx i⟩
def Qs(X:Cx)(k:List Item)(ops rest:List Oper)(l:Env)(gb:Goroutine):Prop:=
 ∀(V:Md)(O:Goroutine->Heap->Prop)(M:Heap)(H:List Nat)(p':Ab)(LL':List Pcs)(h':Heap),RO {X with md:=V,Stop:=O,z9:=M,zz:=H } k ops rest l p' LL'->St M H p' h' LL'.flatten->Reach X.P V gb h' O
variable{L:WgLink}{dd:Nat}{args:List Operand}{ats:Array TypeId}{Wg:Nat}
theorem yxc(H:WgLib X.P L)(a4:C9 l args=some ([],[w_ Wg 0,.J 1]))(hc:Am X.P L.add=true)
 (x:∀O V,(∀w,WgLive L.tWg Wg w-> ∃m,Goes X.P true (RLv L.tWg Wg) DC0 (AtKdS X.P L.tWg Wg V) m O w)->Qs X k ops rest ((dd,none,.tuple #[])::l) V-> ∀h,St X.z9 X.zz p h LL.flatten->Reach X.P X.md O h X.Stop)(hr:X.r.round=none:=by rfl):
 RO X k ops (⟨some dd,.call ⟨.value (.func L.add),args.toArray,ats⟩,ty,pos,aft,none⟩::rest) l p LL:=⟨fun ok tm ht E=>
 yon H (xrq rfl) (xnx E a4 trivial) hr hc rfl fun O V a3 a5 h s=>x O V a3 (fun a7 M a6 a2 p' LL' h' n s'=>
  a5 a7 _ M h' (n.run (xjq ok).1 _ (by simp[ht]) (E.set (g:=none) (ht ▸ (xjq ok).2 dd rfl))) s') h s⟩
theorem yym{x:Operand}{g:FuncId}{first cap vs:List Value}(hx:evS l x=some ([],.func (.func g) first.toArray cap.toArray))(V:C9 l args=some ([],vs))
 (n:∀M gn,M.status=.running->(∀w,stepG X.P true M w=.spawn gn (born X.P {target:=.fn (.func g) cap.toArray,args:=(first++vs).toArray}) w #[])->Qs X k ops rest l gn-> ∀h,St X.z9 X.zz p h LL.flatten->Reach X.P X.md M h X.Stop)(hr:X.r.round=none:=by rfl):
 RO X k ops (⟨none,.go ⟨.value x,args.toArray,ats⟩,ty,pos,aft,none⟩::rest) l p LL:=⟨fun ok _ ht E=>
 yxr (xrq rfl) (xeq E hx trivial) (xnx E V trivial) hr fun M gn h1 h2 a2 h s=>n M gn h1 h2 (fun O H _ _ _ _ h' n s'=>a2 O _ H h' (n.run (xjq ok).1 _ ht E) s') h s⟩
theorem ytf(H:WgLib X.P L)(a5:C9 l args=some ([],[w_ Wg 0]))(hc:Am X.P L.wait=true)
 (x:∀ge gb(An:Goroutine->World->Prop),(∀g w,An g w->g.status=.running)->(∀g w,An g w-> ∃m,Goes X.P true (RLv L.tWg Wg) DC0 (AtW1 X.P L.tWg Wg gb An) m g w)->(∀w,WgLive L.tWg Wg w-> ∃m,Goes X.P true (RLv L.tWg Wg) DC0 (AtKd X.P L.tWg Wg An) m ge w)->
  gb.status=.running->(∀(a4:Md)(V:Goroutine->Heap->Prop)(O:Heap)(M:List Nat)(p':Ab)(LL':List Pcs)(h':Heap),RE {X with md:=a4,Stop:=V,z9:=O,zz:=M } k ((dd,none,.tuple #[])::l) p' LL'->St O M p' h' LL'.flatten->Reach X.P a4 gb h' V)->
  ∀h,St X.z9 X.zz p h LL.flatten->Reach X.P X.md ge h X.Stop)(hr:X.r.round=none:=by rfl):
 RO X k ops [⟨some dd,.call ⟨.value (.func L.wait),args.toArray,ats⟩,ty,pos,aft,none⟩] l p LL:=⟨fun ok tm ht E=>
 yhg H (xrq rfl) (xnx E a5 trivial) hr hc rfl fun ge gb An a1 a2 a3⟨q,e,e2⟩h s=>x ge gb An a1 a2 a3 (by rw[e];rfl) (fun a4 V O M p' LL' h' n s'=>by
  have e3:q=[]:=by rw[e2];simp
  subst e3;rw[e];exact xkd (n.run _ (by simp[ht]) (E.set (g:=none) (ht ▸ (xjq ok).2 dd rfl))) h' s') h s⟩
theorem ypv{c:Code}(n:RE X (.code c::.inLoop c::k) l p LL):RE X (.code (.loop c)::k) l p LL:=⟨fun tm H E=>yxw (n.run tm H E)⟩
theorem xon{c:Code}(n:RE X (.code c::.inLoop c::k) l p LL):RE X (.inLoop c::k) l p LL:=⟨fun tm H E=>xg7 (n.run tm H E)⟩
end
section
variable{X:Cx}{k:List Item}{ops rest:List Oper}{m:Ks}{l:Env}{p:Ab}{LF LL LR LR2:List Pcs}{effs todo:List Nat}{dd:Nat}{ty:TypeId}{pos:String}{aft:Array Edge}{x y:Operand}{i:Nat}{v:Value}{w:Nat}{es news:List (List Value)}{Y Z:Pcs}
theorem xu7{sT xT eT eX:TypeId}{by':Nat}{x' z:Value}(ho:ops[i]?=some ⟨some dd,.call ⟨.builtin .append,#[x,y],#[sT,xT]⟩,ty,pos,aft,none⟩)(hx:evS l x=some ([],v))(hy:evS l y=some ([],x'))(o1:Ac eT w v es Y)(o2:Ac eT w x' news Z)(h1:∀u∈news.flatten,A7 u=true)(M:(es.length+news.length)*by'<=2^45)
 [i1:Rm LL Y LR][i2:Rm LR Z LR2][hT:Bv X.P sT eT][hs:Ai X.P eT w][hz:A5 X.P eT z][hb:ByC X.P eT by'][hX:Bv X.P xT eX](nx:∀v' H,Ac eT w v' (es++news) H->DE X k ops m p LF effs todo ((dd,none,v')::l) (H::LR2))
 (he:effs.contains i=true:=by rfl)(V:z.cells.size=w:=by rfl)(a2:0<by'/\by'<=2^20:=by decide):DE X k ops m p LF effs (i::todo) l LL:=
 ⟨.eff (U:=Y++Z) (LR:=LR2) (Q:=fun v' H=>Ac eT w v' (es++news) H) ho (by simpa using he) (i1.h.trans (by rw[List.append_assoc];exact List.Perm.append_left Y i2.h)) (fun tm _ E=>⟨rfl,xrq rfl,fun C h s=>.inl (by
  rw[List.append_assoc]at s;exact Ex.exv (xkf [] hT.h hs.h hz.h V hb.h hX.h (xeq E hx trivial) (xeq E hy trivial) o1 s (xgh (L₁:=Y) o2 s) h1 M a2 fun v' X' h' O s'=>⟨X',O,s'.sub (by
   simp only[List.nil_append];exact(List.Sublist.refl X').append (List.sublist_append_right Z (LF.flatten++C)))⟩))⟩) fun v' H O=>(nx v' H O).run⟩
end
open Go.Conc
section
variable{X:Cx}{k:List Item}{ops:List Oper}{m:Ks}{l:Env}{p:Ab}{LF LL LR:List Pcs}{effs todo:List Nat}{dd:Nat}{ty:TypeId}{pos:String}{aft:Array Edge}{x y:Operand}{i w:Nat}{v:Value}{es news:List (List Value)}{Y:Pcs}
theorem xxg{sT xT eT eX:TypeId}{by' n cap:Nat}{a:Option Addr}{z:Value}(ho:ops[i]?=some ⟨some dd,.call ⟨.builtin .append,#[x,y],#[sT,xT]⟩,ty,pos,aft,none⟩)(hx:evS l x=some ([],v))(hy:evS l y=some ([],.slice a n cap))(o1:Ac eT w v es Y)(o2:Sl p a n w news)(h1:∀u∈news.flatten,A7 u=true)(M:(es.length+n)*by'<=2^45)
 [i1:Rm LL Y LR][hT:Bv X.P sT eT][hs:Ai X.P eT w][hz:A5 X.P eT z][hb:ByC X.P eT by'][hX:Bv X.P xT eX](nx:∀v' H,Ac eT w v' (es++news) H->DE X k ops m p LF effs todo ((dd,none,v')::l) (H::LR))
 (he:effs.contains i=true:=by rfl)(V:z.cells.size=w:=by rfl)(a2:0<by'/\by'<=2^20:=by decide)(O:0<w:=by decide):DE X k ops m p LF effs (i::todo) l LL:=
 ⟨.eff (U:=Y) (LR:=LR) (Q:=fun v' H=>Ac eT w v' (es++news) H) ho (by simpa using he) i1.h (fun tm _ E=>⟨rfl,xrq rfl,fun C h s=>.inl (
  Ex.exv (xkf [] hT.h hs.h hz.h V hb.h hX.h (xeq E hx trivial) (xeq E hy trivial) o1 s (xrf s O o2) h1 M a2 fun v' X' h' o' s'=>⟨X',o',s'⟩))⟩) fun v' H o'=>(nx v' H o').run⟩
theorem xxs{ops rest:List Oper}{LL:List Pcs}{d:Option Tmp}{gd:Option (Nat×Bool)}{g:Option Bool}{ss:List Prop}{args:List Operand}{ats:Array TypeId}{ff:FuncId}{first cap vs:List Value}{Q:Bool->Prop}(hg:gdc ops l gd=some g)(hx:evS l x=some ([],.func (.func ff) first.toArray cap.toArray))(O:C9 l args=some (ss,vs))(hs:Av g (Ax ss))
 (hc:∀h,Per p h->Aa X.P X.md ff (first++(vs++cap)).toArray h fun v' h'=>(∃q,v'=.bool q/\Q q)/\Af h h')(n:∀q:Bool,Av g (Q q)->RO X k ops rest (ent d g (.bool q) l) p LL)(hf:Am X.P ff=true:=by kernel_rfl):
 RO X k ops (⟨d,.call ⟨.value x,args.toArray,ats⟩,ty,pos,aft,gd⟩::rest) l p LL:=by
 constructor;intro ok tm M E;have H:=xjq ok;rcases xzv (o:=⟨d,.call ⟨.value x,args.toArray,ats⟩,ty,pos,aft,gd⟩) E hg with⟨e,V⟩|⟨c',e,V⟩
 ·subst e
  exact xsv (R:=fun v h=>(∃q,v=.bool q/\Q q)/\St X.z9 X.zz p h LL.flatten) V (xeq E hx trivial) (by rw[xnx E O hs]) hf
   (fun h s=>(hc h fun b o e=>s.per b o e).mono fun _ _⟨q,kk⟩=>⟨q,s.call kk⟩)
   fun v=>xcz fun⟨q,e,hq⟩=>by subst e;exact(n q hq).run H.1 _ (Aw.trans M) (E.ent (g:=none) M H.2)
 ·subst e;cases c' with
  |true=>
    exact xsv (R:=fun v h=>(∃q,v=.bool q/\Q q)/\St X.z9 X.zz p h LL.flatten) V (xeq E hx trivial) (by rw[xnx E O (hs rfl)]) hf
     (fun h s=>(hc h fun b o e=>s.per b o e).mono fun _ _⟨q,kk⟩=>⟨q,s.call kk⟩)
     fun v=>xcz fun⟨q,e,hq⟩=>by subst e;exact(n q fun _=>hq).run H.1 _ (Aw.trans M) (E.ent (g:=some true) M H.2)
  |false=>exact xqb V rfl ((n false fun e=>by cases e).run H.1 _ (Aw.trans M) (E.ent (g:=some false) M H.2))
end
def E0(n m:Nat)(p:Ab):Pcs:=(List.range m).filterMap fun c=>if n<=c then(p c).map fun o=>(c,o)else none
theorem xqg{n m:Nat}{p:Ab}{x:Nat×Obj}:x∈E0 n m p<->x.1<m/\n<=x.1/\p x.1=some x.2:=by
 unfold E0;rw[List.mem_filterMap];constructor
 ·rintro⟨c,hc,e⟩;split at e
  ·rename_i h;obtain⟨o,H,rfl⟩:=Option.map_eq_some_iff.1 e;exact⟨List.mem_range.1 hc,h,H⟩
  ·cases e
 ·rintro⟨h1,h2,h3⟩;exact⟨x.1,List.mem_range.2 h1,by rw[if_pos h2,h3];rfl⟩
theorem xab{f:Nat->Option (Nat×Obj)}(h:∀c x,f c=some x->x.1=c):∀l:List Nat,(l.filterMap f).map (·.1)=l.filter fun c=>(f c).isSome
 |[]=>rfl
 |c::l=>by
   cases e:f c with
   |none=>rw[List.filterMap_cons_none e,List.filter_cons_of_neg (by rw[e];simp),xab h l]
   |some x=>rw[List.filterMap_cons_some e,List.filter_cons_of_pos (by rw[e];rfl),List.map_cons,xab h l,h c x e]
theorem xgt{n m:Nat}{p:Ab}:((E0 n m p).map (·.1)).Nodup:=by
 unfold E0;rw[xab]
 ·exact List.Nodup.sublist List.filter_sublist List.nodup_range
 ·intro c x e;split at e
  ·obtain⟨o,_,rfl⟩:=Option.map_eq_some_iff.1 e;rfl
  ·cases e
theorem Ar.pieces{p:Ab}{h O:Heap}{Q:Value->Ab->Prop}{v:Value}(x:Ar p h Q v O):∃Y,(∃p',Q v p'/\ ∀H,PLe p H->(∀y∈Y,H y.1=some y.2)->PLe p' H)/\New h O Y:=by
 obtain⟨p',g,q,k,pe⟩:=x;refine⟨E0 h.size O.size p',⟨p',q,fun H le M c o hc=>?_⟩,k,fun y M=>?_,xgt⟩
 ·by_cases V:c<h.size
  ·exact le c o (by rw[<- g.old c V s_];exact hc)
  ·exact M (c,o) (xqg.2 ⟨xmx (pe c o hc),om,hc⟩)
 ·obtain⟨_,h2,h3⟩:=xqg.1 M;exact⟨pe _ _ h3,h2⟩
theorem St.Fz{z9 h:Heap}{zz:List Nat}{L:Pcs}:∀{Y:Pcs}{p:Ab},St z9 zz p h (Y++L)-> ∃p',(PG z9.size zz p p'/\ ∀H,PLe p H->(∀y∈Y,H y.1=some y.2)->PLe p' H)/\(∀y∈Y,p' y.1=some y.2)/\St z9 zz p' h L
 |[],p,s=>⟨p,⟨.refl _ _ _,fun _ le _=>le⟩,s_,s⟩
 |(b,o)::Y,p,s=>by
   have s1:St z9 zz p h ((b,o)::(Y++L)):=s;obtain⟨p',⟨g,V⟩,M,O⟩:=(s1.last.2).Fz (Y:=Y);refine⟨p',⟨(s1.pg s_).trans g,fun H le h=>V H (fun c q hc=>?_) fun y M=>h y (List.mem_cons_of_mem _ M)⟩,fun y m=>?_,O⟩
   ·unfold Gv at hc;split at hc
    ·rename_i e;subst e;cases hc;exact h (c,o) s_
    ·exact le c q hc
   ·rcases List.mem_cons.1 m with rfl|m
    ·exact g.le _ _ xav
    ·exact M y m
section
variable{X:Cx}{k:List Item}{ops rest:List Oper}{m:Ks}{l:Env}{p:Ab}{LF LL LR L3:List Pcs}{effs todo:List Nat}{g:Option Bool}{d:Option Tmp}{ty:TypeId}{pos:String}{aft:Array Edge}{gd:Option (Nat×Bool)}{ss ss':List Prop}{x y:Operand}{i:Nat}{T T':TypeId}{xs ys:Array Value}{q:Bool}
theorem xfw(Y:Pcs)[i:Rm LL Y LR](n:∀p',PG X.z9.size X.zz p p'->(∀y∈Y,p' y.1=some y.2)->RO X k ops rest l p' LR):RO X k ops rest l p LL:=⟨fun V tm ht E H e h s=>by
 obtain⟨p',⟨g,_⟩,O,M⟩:=(s.rm i).Fz;exact(n p' g O).run V tm ht E H e h M⟩
theorem yir{args:List Operand}{ats:Array TypeId}{ff:FuncId}{first cap vs:List Value}{d:Option Tmp}{Q:Value->Pcs->Prop}(Y:Pcs)[ii:Rm LL Y LR](O:ops[i]?=some ⟨d,.call ⟨.value x,args.toArray,ats⟩,ty,pos,aft,none⟩)
 (hx:evS l x=some ([],.func (.func ff) first.toArray cap.toArray))(H:C9 l args=some ([],vs))(hc:∀h L,St X.z9 X.zz p h (Y++L)->Aa X.P X.md ff (first++(vs++cap)).toArray h fun v' M=>∃Z,Q v' Z/\New h M Z)(n:∀v Z,Q v Z->DE X k ops m p LF effs todo (ent d none v l) ((Z++Y)::LR))
 (he:effs.contains i=true:=by rfl)(hf:Am X.P ff=true:=by kernel_rfl):DE X k ops m p LF effs (i::todo) l LL:=
 ⟨.eff (U:=Y) (LR:=LR) (Q:=fun v x=>∃Z,x=Z++Y/\Q v Z) O (by simpa using he) ii.h (fun _ _ E=>⟨rfl,xrq rfl,fun C h s=>.inr <| .inl ⟨ff,_,xww (xeq E hx trivial) (by rw[xnx E H trivial]) hf,(hc h _ s).mono fun _ _⟨Z,q,V⟩=>⟨Z++Y,⟨Z,rfl,q⟩,by
  have s2:=s.K3 V;rwa[List.append_assoc]⟩⟩⟩) fun v x⟨Z,e,q⟩=>by subst e;exact(n v Z q).run⟩
theorem xg9(V:gdc ops l gd=some g)(hx:evS l x=some (ss,.agg xs))(O:evS l y=some (ss',.agg ys))(hs:Av g (Ax ss))(M:Av g (Ax ss'))(e:∀h(K:Bool->Heap->Prop),K q h->wpS X.P (Op.equalIn (9999+1) T (.agg xs) (.agg ys)) h K)(n:RO X k ops rest (ent d g (.bool (!q)) l) p LL)(H:X.P.eqGuardType X.P.depth T=false:=by kernel_rfl):
 RO X k ops (⟨d,.binOp .neq T x y T',ty,pos,aft,gd⟩::rest) l p LL:=xjx V rfl (xwz hs M fun h1 h2 _ _ E _=>xp7 H e (xeq E hx h1) (xeq E O h2)) n
theorem ylj{t:TypeId}{b off H:Nat}{cs:Array Value}{z:Nat×Nat}(V:ops[i]?=some ⟨d,.load t x,ty,pos,aft,gd⟩)(M:gdc ops l gd=some g)(O:evS l x=some (ss,w_ b off))(hs:Av g (Ax ss))[a:Bw X.P t true][sz:Ai X.P t H][mm:Bx LL b (.cells cs T z) LR]
 (n:DE X k ops m p LF effs todo (ent d g (.agg ((cs.toList.drop off).take H).toArray) l) LL)(hn:((cs.toList.drop off).take H).length=H:=by rfl)(hb:N3 ops effs todo i=true:=by kernel_rfl):DE X k ops m p LF effs (i::todo) l LL:=
 xt5 V M rfl (xuq hs fun hs _ _ E s=>xcb (i:=0) (s.perm (List.perm_append_comm.trans (List.Perm.append_right LF.flatten mm.h))) a.h sz.h (xeq E O hs) rfl rfl hn) n hb
theorem ynd{b off H:Nat}{cs:List Value}{v:Value}(V:ops[i]?=some ⟨none,.store T x y,ty,pos,aft,none⟩)(hx:evS l x=some ([],w_ b off))(O:evS l y=some ([],v))[sz:Ai X.P T H][mm:Bx LF b (.cells cs.toArray T' (0,0)) LR](hs:B6 cs off v.cells.toList=cs)
 (n:DE X k ops m p LF effs todo l ([]::LL))(he:effs.contains i=true:=by rfl)(hv:v.cells.size=H:=by rfl)(h1:v.cells.toList.all A7=true:=by rfl)(hlen:off+v.cells.size<=cs.length:=by exact Nat.le_of_ble_eq_true rfl):DE X k ops m p LF effs (i::todo) l LL:=
 ⟨.eff (U:=[]) (LR:=LL) (Q:=fun _ x=>x=[]) V (by simpa using he) (List.Perm.refl _) (fun tm _ E=>⟨rfl,xrq rfl,fun C h s=>.inl (by
  unfold Exv;simp only[execOp,xeq E hx trivial,xeq E O trivial];refine xbq ?_;unfold Instr.storeAt;refine xbq (xcq ?_);unfold storeVar;refine xbq (xax sz.h ?_);rw[if_neg (by simpa using hv)];have s0:St X.z9 X.zz p h ((b,.cells cs.toArray T' (0,0))::(LR.flatten++C)):=s.perm (xlh mm);refine xnz (i:=0) s0 rfl (by simpa using hlen) (fun u hu=>List.all_eq_true.1 h1 u hu) fun h' M=>?_;refine xcq ⟨_,.inr ⟨rfl,rfl⟩,[],rfl,?_⟩;rw[Nat.add_zero,hs]at M;exact M.perm (xlh mm).symm)⟩) fun v x e=>by subst e;exact n.run⟩
end
theorem xlf{P : Program}{dd : Nat}{xs : Array Value}: ∀{fs : List Field}, (∀f ∈ fs, f.name ≠ "_" /\ P.underlying f.type = some (.int .i64) /\ Gd P f.type = some false /\ ∃n, xs[f.offset]? = some (.J n)) -> Ou P (dd + 1) xs xs fs true
 |[],_=>rfl
 |f::fs,h=>by
   obtain⟨h1,h2,h3,n,h4⟩:=h f s_;refine⟨h1,_,_,true,fun h K k=>xkz h3 h4 k,fun h K k=>xkz h3 h4 k,fun h K k=>xmv h2 (by simpa using k),.inr ⟨rfl,xlf fun f hf=>h f (List.mem_cons_of_mem _ hf)⟩⟩
theorem New.of{h H:Heap}(k:Af h H):New h H []:=⟨k,s_,s_⟩
theorem ytb{P:Program}{md:Md}{f:FuncId}{fn:Func}{c:Code}{args:List Value}{R:Value->Heap->Prop}{h:Heap}{p:Ab}(hp:Per p h)(hf:P.funcs[f]?=some fn)(x:RE ⟨P,md,f,.none,fn.ntmps,[],[],Lw P R,h,[]⟩ [.code c] (Gn 0 args) p [])
 (V:fn.body=some c:=by rfl)(hn:Nat.ble args.length fn.ntmps=true:=by rfl):F7 P md f args.toArray h R:=
 xxt (Φ:=fun O=>St h [] p O []) hf V rfl (fun _=>x.run _ (by have:=Nat.le_of_ble_eq_true hn;simp;omega) fun i g v M=>by
  obtain⟨rfl,m,rfl,H⟩:=xjc M;rw[Nat.zero_add,List.getElem?_append_left (by simpa using(List.getElem?_eq_some_iff.1 H).1)];simpa[cv]using H) (St.start h p hp)
theorem xol{P:Program}{md:Md}{f:FuncId}{H:Nat}{z9:Heap}{zz:List Nat}{fn:Func}{t:Tmp}{v:Value}{R:Value->Heap->Prop}{k:List Item}{l:Env}{p:Ab}{LL:List Pcs}(hi:P.inits.idxOf? f=none)(hf:P.funcs[f]?=some fn)(M:fn.results=#[.tmp t])(hv:N8 l [.tmp t]=some [v])
 (x:∀h,St z9 zz p h LL.flatten->R v h):RE ⟨P,md,f,.none,H,[],[],Lw P R,z9,zz⟩ (.code .ret::k) l p LL:=
 ⟨fun _ _ E=>ylh hi hf M (fun _ _=>xb1 E hv) rfl x⟩
section
variable{X:Cx}{k:List Item}{ops:List Oper}{m:Ks}{l:Env}{p:Ab}{LF LL:List Pcs}{effs todo:List Nat}{d:Option Tmp}{ty:TypeId}{pos:String}{aft:Array Edge}{x y:Operand}{i:Nat}{T T':TypeId}
theorem yml{M H e:TypeId}{v:Value}{a:List UInt8}{Y:Pcs}{LR:List Pcs}(ho:ops[i]?=some ⟨d,.convert M H x,ty,pos,aft,none⟩)(V:evS l x=some ([],v))(o:Ac e 1 v (bcs a) Y)[hs:Bv X.P M e][ii:Rm LL Y LR](n:DE X k ops m p LF effs todo (ent d none (sv a) l) LL)
 (O:X.P.underlying H=some .string:=by kernel_rfl)(he:X.P.underlying e=some (.int .u8):=by kernel_rfl)(hb:N3 ops effs todo i=true:=by kernel_rfl):DE X k ops m p LF effs (i::todo) l LL:=
 xt5 (g:=none) ho rfl rfl (fun _ _ E s=>xm7 (A:=LF.flatten) (C:=LR.flatten) o (s.perm (List.Perm.append_left _ ii.h)) hs.h O he (xeq E V trivial)) n hb
end
def pun(p q:Ab):Ab:=fun b=>match p b with
 |some o=>some o
 |none=>q b
theorem yzr{p q:Ab}:PLe p (pun p q):=fun b o e=>by unfold pun;rw[e]
section
variable{p q r:Ab}{z9 h:Heap}{L:Pcs}
theorem yyr(l:PLe p q)(H:Per q z9)(g:PG z9.size [] p r):PLe q (pun r q):=fun b o e=>by
 have O:=xmx (H b o e);unfold pun;rw[g.old b O s_];cases M:p b with
 |none=>exact e
 |some u=>have:=l b u M;rw[e]at this;exact this.symm
theorem St.pun(s:St z9 [] r h L)(M:Per q z9):St z9 [] (pun r q) h L:=by
 refine⟨s.Cq,s.size,fun b o e=>?_,fun x H=>⟨(s.own x H).1,?_,(s.own x H).2.2⟩,s.nod⟩
 ·unfold X.pun at e;split at e
  ·rename_i u O;cases e;exact s.per b _ O
  ·have:=M b o e;rw[s.Cq b (xmx this) s_];exact this
 ·unfold X.pun;rw[(s.own x H).2.1];rcases(s.own x H).2.2 with z|z
  ·cases e:q x.1 with
   |none=>rfl
   |some o=>have:=xmx (M _ _ e);omega
  ·simp at z
end
section
variable{X:Cx}{k:List Item}{ops:List Oper}{m:Ks}{l:Env}{p:Ab}{LF LL LR:List Pcs}{effs todo:List Nat}{d:Option Tmp}{ty:TypeId}{pos:String}{aft:Array Edge}{gd:Option (Nat×Bool)}{ss:List Prop}{x:Operand}{i:Nat}
end
section
variable{P:Program}{md:Md}{ops:List Oper}{n:Nat}{z9:Heap}{zz:List Nat}{p:Ab}{LF C:Pcs}{f:FuncId}{r:Rd}{df:List Deferred}{k:List Item}{cs:List Frame}{Stop:Goroutine->Heap->Prop}{cl:List (List Nat)}{tm0 tmv:List Value}{todo:List Nat}
end
section
variable{X:Cx}{k:List Item}{ops:List Oper}{l:Env}{p:Ab}{LL:List Pcs}
theorem yen{α:Type}[Inhabited α](V:α->Value){rest:List Oper}{d:Option Tmp}{ty:TypeId}{pos:String}{aft:Array Edge}{x:Operand}{gd:Option (Nat×Bool)}{g:Option Bool}{ss:List Prop}{args:List Operand}{ats:Array TypeId}{ff:FuncId}{first cap vs:List Value}
 (hg:gdc ops l gd=some g)(hx:evS l x=some ([],.func (.func ff) first.toArray cap.toArray))(O:C9 l args=some (ss,vs))(hs:Av g (Ax ss))
 (hc:∀h,Per p h->Aa X.P X.md ff (first++(vs++cap)).toArray h fun v' h'=>(∃q,v'=V q)/\Af h h')(n:∀q,RO X k ops rest (ent d g (V q) l) p LL)(hf:Am X.P ff=true:=by kernel_rfl):
 RO X k ops (⟨d,.call ⟨.value x,args.toArray,ats⟩,ty,pos,aft,gd⟩::rest) l p LL:=by
 constructor;intro ok tm M E;have H:=xjq ok;rcases xzv (o:=⟨d,.call ⟨.value x,args.toArray,ats⟩,ty,pos,aft,gd⟩) E hg with⟨e,hm⟩|⟨c',e,hm⟩
 ·subst e
  exact xsv (R:=fun v h=>(∃q,v=V q)/\St X.z9 X.zz p h LL.flatten) hm (xeq E hx trivial) (by rw[xnx E O hs]) hf
   (fun h s=>(hc h fun b o e=>s.per b o e).mono fun _ _⟨q,kk⟩=>⟨q,s.call kk⟩)
   fun v=>xcz fun⟨q,e⟩=>by subst e;exact(n q).run H.1 _ (Aw.trans M) (E.ent (g:=none) M H.2)
 ·subst e;cases c' with
  |true=>
    exact xsv (R:=fun v h=>(∃q,v=V q)/\St X.z9 X.zz p h LL.flatten) hm (xeq E hx trivial) (by rw[xnx E O (hs rfl)]) hf
     (fun h s=>(hc h fun b o e=>s.per b o e).mono fun _ _⟨q,kk⟩=>⟨q,s.call kk⟩)
     fun v=>xcz fun⟨q,e⟩=>by subst e;exact(n q).run H.1 _ (Aw.trans M) (E.ent (g:=some true) M H.2)
  |false=>exact xqb hm rfl ((n default).run H.1 _ (Aw.trans M) (E.ent (g:=some false) M H.2))
end
theorem yng{X:Cx}{k:List Item}{ops:List Oper}{l:Env}{p:Ab}{LL:List Pcs}{id:Nat}{LF:List Pcs}(M:Nat)(H:List Nat)(Xi:Nat->Pcs)(fin V effs:List Nat)(a3 anc:Nat->List Nat)(Q:Nat->(Nat->Value)->(Nat->Pcs)->Value->Pcs->Prop)
 (hp:LL.flatten.Perm (H.flatMap Xi++LF.flatten))
 (x:∀i,i<M-> ∀val piece,(∀j,(anc i).contains j=true->Qr anc Q val piece j (val j) (piece j))->(∀j∈H,piece j=Xi j)->DE X k ops (.to fun l' LL'=>(∃v,l'=ent ((ops[i]?).bind (·.dst)) none v (Gf ops val M l))/\ ∀v,l'=ent ((ops[i]?).bind (·.dst)) none v (Gf ops val M l)->Qr anc Q val piece i v LL'.flatten) p LF effs [i] (Gf ops val M l) ((a3 i).map piece))(a6:∀val piece,∀j∈V,∀v x,Qr anc Q val piece j v x->x=[])(n:∀val piece,(∀j<M,Qr anc Q val piece j (val j) (piece j))->RO X k ops (ops.drop M) (Gf ops val M l) p (fin.map piece++LF))
 (a5:X.P.follows .mixedOrders=true:=by kernel_rfl)(ok:okD X.n ops=true:=by rfl)(a9:Bp ops M (clo ops)=true:=by kernel_rfl)(hm:Nat.ble M ops.length=true:=by kernel_rfl)(hk:Ky ops M H a3 (fin++V)=true:=by kernel_rfl)(a2:(V.all fun j=>decide (j<M))=true:=by kernel_rfl)(a4:K2 ops M (clo ops) anc=true:=by kernel_rfl)(b4:Pk ops M=true:=by kernel_rfl):
 RE X (.code (.region id ops.toArray true)::k) l p LL:=by
 constructor;intro tm ht E;have a7:=Nat.le_of_ble_eq_true hm;have O:∀{os:List Oper}(j:Nat),okD X.n os=true->okD X.n (os.drop j)=true:=fun{os}=>by
  induction os with
  |nil=>intro j h;cases j<;>exact h
  |cons o os ih=>
    intro j h;cases j with
    |zero=>exact h
    |succ j=>exact ih j (xjq h).1
 have b0:∀{os:List Oper},okD X.n os=true->(os.all fun o=>match o.dst with|some d=>decide (d<tm.length)|none=>true)=true:=fun{os}=>by
  induction os with
  |nil=>intro _;rfl
  |cons o os ih=>
    intro h;rw[List.all_cons,ih (xjq h).1,Bool.and_true];split
    ·rename_i d hd;exact decide_eq_true (ht ▸ (xjq h).2 d hd)
    ·rfl
 have:=xst (P:=X.P) (md:=X.md) (ops:=ops) (f:=X.f) (r:=X.r) (df:=X.df) (k:=k) (cs:=X.cs) (Stop:=X.Stop) (tm:=tm) (z9:=X.z9) (zz:=X.zz) (p:=p) (A:=LF.flatten) (C:=[]) (rid:=id) M (clo ops) H fin V Xi a3 anc Q (fun val=>Fu ops val M tm) a5 a9 a7 hk a2 a4 (fun val piece=>yyz (a6 val piece)) (fun _=>rfl) (b0 ok)
  (xgr fun i o ho=>by
   rw[List.getElem?_take]at ho;split at ho
   ·rename_i hi;have hg:=List.all_eq_true.1 b4 o (List.mem_of_getElem? (by rw[List.getElem?_take,if_pos hi];exact ho));simp only[Bool.and_eq_true,Option.isNone_iff_eq_none]at hg;rw[Nat.zero_add];refine⟨hg.2,fun val piece hQ hI=>.inl ⟨xrq hg.1,fun C h s=>?_⟩⟩;have D:=(x i hi val piece hQ hI).run;have a8:(ops[i]?).bind (·.dst)=o.dst:=by rw[ho];rfl
    rw[a8]at D;exact yld (R:=Qr anc Q val piece i) ho hg.1 D ((xfj ops val tm M).trans ht) (xim E ht ok M) C (by rw[<- xgc];exact s)
   ·cases ho)
  (fun val piece hQ _=>by
   have z:=(n val piece hQ).run (O M ok) _ ((xfj ops val tm M).trans ht) (xim E ht ok M);rw[List.flatten_append,<- xgc]at z;intro b3 e h s;exact z b3 e h (by simpa using s))
 intro h s;exact this h (by rw[List.append_nil];exact s.perm hp)
section
variable{X:Cx}{k:List Item}{ops:List Oper}{m:Ks}{l:Env}{p:Ab}{LF LL:List Pcs}{effs todo:List Nat}{d:Option Tmp}{ty:TypeId}{pos:String}{aft:Array Edge}{x:Operand}{i n:Nat}
theorem yar{xs:Array Value}{u:Value}(O:ops[i]?=some ⟨d,.extract x n,ty,pos,aft,none⟩)(M:evS l x=some ([],.tuple xs))(H:xs[n]?=some u)(V:DE X k ops m p LF effs todo (ent d none u l) LL):DE X k ops m p LF effs (i::todo) l LL:=
 xuz (g:=none) O rfl rfl (fun _ _ _ E _=>xfm (xeq E M trivial) H) V
end
end Go.X
