/-
  Part of proofs about a town's master: a calculus for walks beside goroutines that are only leaving, and the walks. No condition.
-/
import Derived.Test.YtbphcmeebnkmdaaGreatDoorGJ
import Derived.Test.YtbphcmeebnkmdaaGreatDoorGB2
namespace Go.X
open Go.Conc Go.Conc.Lib
open Go.ConcR (DC0)
open Go.ConcN (WgLive)
section
variable {X:Cx} {k:List Item} {ops rest:List Oper} {l:Env} {p:PHeap} {LL LR:List Pcs} {ty:TypeId} {pos:String} {aft:Array Edge}
theorem yak {args:List Operand} {ats:Array TypeId} {g:FuncId} {vs:List Value} (hvs:evsS l args=some ([],vs)) (n:RO { X with df:=dcall g vs.toArray::X.df } k ops rest l p LL) (hr:X.r.round=none:=by rfl):
  RO X k ops (⟨none,.defer ⟨.value (.func g),args.toArray,ats⟩,ty,pos,aft,none⟩::rest) l p LL:=
 ⟨fun ok tm ht E=>ygk (xpq rfl) (xgx E hvs trivial) hr (n.run (xlq ok).1 tm ht E)⟩
theorem go_E {P:Program} {md:Md} {f:FuncId} {fn:Func} {c:Code} {args:List Value} {cs:List Frame} {Stop:Goroutine->Heap->Prop} {h h₀:Heap} {B₀:List Nat} {p:PHeap} {LL:List Pcs} (s:St h₀ B₀ p h LL.flatten) (hf:P.funcs[f]?=some fn)
  (x:RE ⟨P,md,f,.dfd,fn.ntmps,[],cs,Stop,h₀,B₀⟩ [.code c] (envOf 0 args) p LL) (hb:fn.body=some c:=by rfl) (hn:Nat.ble args.length fn.ntmps=true:=by rfl):Reach P md (G (Frame.enter P f args.toArray .deferred) cs) h Stop:=
 yqv (Φ:=fun h'=>St h₀ B₀ p h' LL.flatten) hf hb rfl (x.run _ (by have:=Nat.le_of_ble_eq_true hn;simp;omega) fun i g v hl=>by
  obtain ⟨rfl,m,rfl,hm⟩:=xyb hl
  rw [Nat.zero_add,List.getElem?_append_left (by simpa using (List.getElem?_eq_some_iff.1 hm).1)]
  simpa [cv] using hm) s
theorem ykk {P:Program} {md:Md} {f:FuncId} {n:Nat} {r:Nat} {df:List Deferred} {c₀:Frame} {cs:List Frame} {Stop:Goroutine->Heap->Prop} {h₀:Heap} {B₀:List Nat} [i:Bx LL r (.deferred (some [])) LR]
  (x: ∀ tm td h,St h₀ B₀ p h ((r,.deferred none)::LR.flatten)->Reach P md (G (FR (B f .dfd) tm df td) (c₀::cs)) h Stop):RE ⟨P,md,f,.dfd,n,mark r::df,c₀::cs,Stop,h₀,B₀⟩ [] l p LL:=
 ⟨fun _ _ _=>xif (yvv (i:=0) (L:=(r,.deferred (some []))::LR.flatten) rfl fun td h s=>x _ td h s) fun _ s=>s.bx i⟩
def BehE (X:Cx) (k:List Item) (ops rest:List Oper) (l:Env) (gb:Goroutine):Prop:=
 ∀ (md':Md) (Stop':Goroutine->Heap->Prop) (h₀':Heap) (B₀':List Nat) (p':PHeap) (LL':List Pcs) (h':Heap),RO { X with md:=md',Stop:=Stop',h₀:=h₀',B₀:=B₀' } k ops rest l p' LL'->St h₀' B₀' p' h' LL'.flatten->Reach X.P md' gb h' Stop'
variable {L:WgLink} {dd:Nat} {args:List Operand} {ats:Array TypeId} {Wg:Nat}
theorem yzb (H:WgLib X.P L) (hvs:evsS l args=some ([],[.pointer (some ⟨Wg,0,none⟩),.int .i64 1])) (hc:callable X.P L.add=true)
  (x: ∀ ge gb,(∀ w,WgLive L.tWg Wg w-> ∃ m,Goes X.P true (RLv L.tWg Wg) DC0 (AtKdS X.P L.tWg Wg gb) m ge w)->BehE X k ops rest ((dd,none,.tuple #[])::l) gb-> ∀ h,St X.h₀ X.B₀ p h LL.flatten->Reach X.P X.md ge h X.Stop) (hr:X.r.round=none:=by rfl):
  RO X k ops (⟨some dd,.call ⟨.value (.func L.add),args.toArray,ats⟩,ty,pos,aft,none⟩::rest) l p LL:=⟨fun ok tm ht E=>
 ydm H (xpq rfl) (xgx E hvs trivial) hr hc rfl fun ge gb way beh h s=>x ge gb way (fun md' Stop' h₀' B₀' p' LL' h' n s'=>
  beh md' _ Stop' h' (n.run (xlq ok).1 _ (by simp [ht]) (E.set (g:=none) (ht ▸ (xlq ok).2 dd rfl))) s') h s⟩
theorem ypl {x:Operand} {g:FuncId} {first cap vs:List Value} (hx:evS l x=some ([],.func (.func g) first.toArray cap.toArray)) (hvs:evsS l args=some ([],vs))
  (n: ∀ ga gn,ga.status= .running->(∀ w,stepG X.P true ga w= .spawn gn (born X.P { target:=.fn (.func g) cap.toArray,args:=(first++vs).toArray }) w #[])->BehE X k ops rest l gn-> ∀ h,St X.h₀ X.B₀ p h LL.flatten->Reach X.P X.md ga h X.Stop) (hr:X.r.round=none:=by rfl):
  RO X k ops (⟨none,.go ⟨.value x,args.toArray,ats⟩,ty,pos,aft,none⟩::rest) l p LL:=⟨fun ok _ ht E=>
 ykp (xpq rfl) (xfq E hx trivial) (xgx E hvs trivial) hr fun ga gn h1 h2 beh h s=>n ga gn h1 h2 (fun md' Stop' _ _ _ _ h' n s'=>beh md' _ Stop' h' (n.run (xlq ok).1 _ ht E) s') h s⟩
theorem yqd (H:WgLib X.P L) (hvs:evsS l args=some ([],[.pointer (some ⟨Wg,0,none⟩)])) (hc:callable X.P L.wait=true)
  (x: ∀ ge gb (An:Goroutine->World->Prop),(∀ g w,An g w->g.status= .running)->(∀ g w,An g w-> ∃ m,Goes X.P true (RLv L.tWg Wg) DC0 (AtW1 X.P L.tWg Wg gb An) m g w)->(∀ w,WgLive L.tWg Wg w-> ∃ m,Goes X.P true (RLv L.tWg Wg) DC0 (AtKd X.P L.tWg Wg An) m ge w)->
   gb.status= .running->(∀ (md':Md) (Stop':Goroutine->Heap->Prop) (h₀':Heap) (B₀':List Nat) (p':PHeap) (LL':List Pcs) (h':Heap),RE { X with md:=md',Stop:=Stop',h₀:=h₀',B₀:=B₀' } k ((dd,none,.tuple #[])::l) p' LL'->St h₀' B₀' p' h' LL'.flatten->Reach X.P md' gb h' Stop')->
   ∀ h,St X.h₀ X.B₀ p h LL.flatten->Reach X.P X.md ge h X.Stop) (hr:X.r.round=none:=by rfl):
  RO X k ops [⟨some dd,.call ⟨.value (.func L.wait),args.toArray,ats⟩,ty,pos,aft,none⟩] l p LL:=⟨fun ok tm ht E=>
 yef H (xpq rfl) (xgx E hvs trivial) hr hc rfl fun ge gb An a1 a2 a3 ⟨q,e,e2⟩ h s=>x ge gb An a1 a2 a3 (by rw [e];rfl) (fun md' Stop' h₀' B₀' p' LL' h' n s'=>by
  have e3:q=[]:=by rw [e2];simp
  subst e3
  rw [e]
  exact xyc (n.run _ (by simp [ht]) (E.set (g:=none) (ht ▸ (xlq ok).2 dd rfl))) h' s') h s⟩
theorem yjk {c:Code} (n:RE X (.code c:: .inLoop c::k) l p LL):RE X (.code (.loop c)::k) l p LL:=⟨fun tm ht E=>yuv (n.run tm ht E)⟩
theorem xnm {c:Code} (n:RE X (.code c:: .inLoop c::k) l p LL):RE X (.inLoop c::k) l p LL:=⟨fun tm ht E=>xx5 (n.run tm ht E)⟩
end
section
variable {X:Cx} {k:List Item} {ops rest:List Oper} {m:Ks} {l:Env} {p:PHeap} {LF LL LR LR2:List Pcs} {effs todo:List Nat} {dd:Nat} {ty:TypeId} {pos:String} {aft:Array Edge} {x y:Operand} {i:Nat} {v:Value} {w:Nat} {es news:List (List Value)} {Y Z:Pcs}
theorem yxp {sT xT eT eX:TypeId} {by':Nat} {x' z:Value} (ho:ops[i]?=some ⟨some dd,.call ⟨.builtin .append,#[x,y],#[sT,xT]⟩,ty,pos,aft,none⟩) (hx:evS l x=some ([],v)) (hy:evS l y=some ([],x')) (o1:OwnS eT w v es Y) (o2:OwnS eT w x' news Z) (h1: ∀ u∈news.flatten,isOne u=true) (room:(es.length+news.length)*by'<=2 ^ 40)
  [i1:Rm LL Y LR] [i2:Rm LR Z LR2] [hT:SlcC X.P sT eT] [hs:SizeC X.P eT w] [hz:ZeroC X.P eT z] [hb:ByC X.P eT by'] [hX:SlcC X.P xT eX] (nx: ∀ v' Y',OwnS eT w v' (es++news) Y'->DE X k ops m p LF effs todo ((dd,none,v')::l) (Y'::LR2))
  (he:effs.contains i=true:=by rfl) (hzs:z.cells.size=w:=by rfl) (hb2:0<by'/\by'<=2 ^ 20:=by decide):DE X k ops m p LF effs (i::todo) l LL:=
 ⟨.eff (U:=Y++Z) (LR:=LR2) (Q:=fun v' Y'=>OwnS eT w v' (es++news) Y') ho (by simpa using he) (i1.h.trans (by rw [List.append_assoc];exact List.Perm.append_left Y i2.h)) (fun tm _ E=>⟨rfl,xpq rfl,fun C h s=>.inl (by
  rw [List.append_assoc] at s
  exact Ex.exv (xyd [] hT.h hs.h hz.h hzs hb.h hX.h (xfq E hx trivial) (xfq E hy trivial) o1 s (xjg (L₁:=Y) o2 s) h1 room hb2 fun v' X' h' o' s'=>⟨X',o',s'.sub (by
   simp only [List.nil_append]
   exact (List.Sublist.refl X').append (List.sublist_append_right Z (LF.flatten++C)))⟩))⟩) fun v' Y' o'=>(nx v' Y' o').run⟩
end
end Go.X
namespace Go.X
open Go.Conc
section
variable {X:Cx} {k:List Item} {ops:List Oper} {m:Ks} {l:Env} {p:PHeap} {LF LL LR:List Pcs} {effs todo:List Nat} {dd:Nat} {ty:TypeId} {pos:String} {aft:Array Edge} {x y:Operand} {i w:Nat} {v:Value} {es news:List (List Value)} {Y:Pcs}
theorem xat {sT xT eT eX:TypeId} {by' n cap:Nat} {a:Option Addr} {z:Value} (ho:ops[i]?=some ⟨some dd,.call ⟨.builtin .append,#[x,y],#[sT,xT]⟩,ty,pos,aft,none⟩) (hx:evS l x=some ([],v)) (hy:evS l y=some ([],.slice a n cap)) (o1:OwnS eT w v es Y) (o2:Sl p a n w news) (h1: ∀ u∈news.flatten,isOne u=true) (room:(es.length+n)*by'<=2 ^ 40)
  [i1:Rm LL Y LR] [hT:SlcC X.P sT eT] [hs:SizeC X.P eT w] [hz:ZeroC X.P eT z] [hb:ByC X.P eT by'] [hX:SlcC X.P xT eX] (nx: ∀ v' Y',OwnS eT w v' (es++news) Y'->DE X k ops m p LF effs todo ((dd,none,v')::l) (Y'::LR))
  (he:effs.contains i=true:=by rfl) (hzs:z.cells.size=w:=by rfl) (hb2:0<by'/\by'<=2 ^ 20:=by decide) (hw0:0<w:=by decide):DE X k ops m p LF effs (i::todo) l LL:=
 ⟨.eff (U:=Y) (LR:=LR) (Q:=fun v' Y'=>OwnS eT w v' (es++news) Y') ho (by simpa using he) i1.h (fun tm _ E=>⟨rfl,xpq rfl,fun C h s=>.inl (
  Ex.exv (xyd [] hT.h hs.h hz.h hzs hb.h hX.h (xfq E hx trivial) (xfq E hy trivial) o1 s (xef s hw0 o2) h1 room hb2 fun v' X' h' o' s'=>⟨X',o',s'⟩))⟩) fun v' Y' o'=>(nx v' Y' o').run⟩
theorem yyb {ops rest:List Oper} {LL:List Pcs} {d:Option Tmp} {gd:Option (Nat × Bool)} {g:Option Bool} {ss:List Prop} {args:List Operand} {ats:Array TypeId} {ff:FuncId} {first cap vs:List Value} {Q:Bool->Prop} (hg:gdc ops l gd=some g) (hx:evS l x=some ([],.func (.func ff) first.toArray cap.toArray)) (hvs:evsS l args=some (ss,vs)) (hs:cimp g (AllP ss))
    (hc: ∀ h,Per p h->CallsX X.P X.md ff (first++(vs++cap)).toArray h fun v' h'=>(∃ q,v'= .bool q/\Q q)/\Keep h h') (n: ∀ q:Bool,cimp g (Q q)->RO X k ops rest (ent d g (.bool q) l) p LL) (hf:callable X.P ff=true:=by kernel_rfl):
    RO X k ops (⟨d,.call ⟨.value x,args.toArray,ats⟩,ty,pos,aft,gd⟩::rest) l p LL:=by
  constructor
  intro ok tm ht E
  have ok':=xlq ok
  rcases xgv (o:=⟨d,.call ⟨.value x,args.toArray,ats⟩,ty,pos,aft,gd⟩) E hg with ⟨e,hm⟩ | ⟨c',e,hm⟩
  · subst e
    exact xbv (R:=fun v h=>(∃ q,v= .bool q/\Q q)/\St X.h₀ X.B₀ p h LL.flatten) hm (xfq E hx trivial) (by rw [xgx E hvs hs]) hf
      (fun h s=>(hc h fun b o e=>s.per b o e).mono fun _ _ ⟨q,kk⟩=>⟨q,s.call kk⟩)
      fun v=>xzx fun ⟨q,e,hq⟩=>by subst e;exact (n q hq).run ok'.1 _ (putl_len.trans ht) (E.ent (g:=none) ht ok'.2)
  · subst e
    cases c' with
    | true=>
      exact xbv (R:=fun v h=>(∃ q,v= .bool q/\Q q)/\St X.h₀ X.B₀ p h LL.flatten) hm (xfq E hx trivial) (by rw [xgx E hvs (hs rfl)]) hf
        (fun h s=>(hc h fun b o e=>s.per b o e).mono fun _ _ ⟨q,kk⟩=>⟨q,s.call kk⟩)
        fun v=>xzx fun ⟨q,e,hq⟩=>by subst e;exact (n q fun _=>hq).run ok'.1 _ (putl_len.trans ht) (E.ent (g:=some true) ht ok'.2)
    | false=>exact xbb hm rfl ((n false fun e=>by cases e).run ok'.1 _ (putl_len.trans ht) (E.ent (g:=some false) ht ok'.2))
end
section
variable {X:Cx} {k:List Item} {ops rest:List Oper} {m:Ks} {l:Env} {p:PHeap} {LF LL LR L3:List Pcs} {effs todo:List Nat} {g:Option Bool} {d:Option Tmp} {ty:TypeId} {pos:String} {aft:Array Edge} {gd:Option (Nat × Bool)} {ss ss':List Prop} {x y:Operand} {i:Nat} {T T':TypeId} {xs ys:Array Value} {q:Bool}
theorem xv7 (hg:gdc ops l gd=some g) (hx:evS l x=some (ss,.agg xs)) (hy:evS l y=some (ss',.agg ys)) (hs:cimp g (AllP ss)) (hs':cimp g (AllP ss')) (e: ∀ h (K:Bool->Heap->Prop),K q h->wpS X.P (Op.equalIn (9999+1) T (.agg xs) (.agg ys)) h K) (n:RO X k ops rest (ent d g (.bool (!q)) l) p LL) (hgt:X.P.eqGuardType X.P.depth T=false:=by kernel_rfl):
  RO X k ops (⟨d,.binOp .neq T x y T',ty,pos,aft,gd⟩::rest) l p LL:=xdx hg rfl (xpz hs hs' fun h1 h2 _ _ E _=>xg6 hgt e (xfq E hx h1) (xfq E hy h2)) n
theorem ycz {t:TypeId} {b off nn:Nat} {cs:Array Value} {z:Nat × Nat} (ho:ops[i]?=some ⟨d,.load t x,ty,pos,aft,gd⟩) (hg:gdc ops l gd=some g) (hx:evS l x=some (ss,.pointer (some ⟨b,off,none⟩))) (hs:cimp g (AllP ss)) [a:AggC X.P t true] [sz:SizeC X.P t nn] [mm:Bx LL b (.cells cs T z) LR]
  (n:DE X k ops m p LF effs todo (ent d g (.agg ((cs.toList.drop off).take nn).toArray) l) LL) (hn:((cs.toList.drop off).take nn).length=nn:=by rfl) (hb:pinB ops effs todo i=true:=by kernel_rfl):DE X k ops m p LF effs (i::todo) l LL:=
 xm4 ho hg rfl (xsq hs fun hs _ _ E s=>xjw (i:=0) (s.perm (List.perm_append_comm.trans (List.Perm.append_right LF.flatten mm.h))) a.h sz.h (xfq E hx hs) rfl rfl hn) n hb
theorem ymc {b off nsz:Nat} {cs:List Value} {v:Value} (ho:ops[i]?=some ⟨none,.store T x y,ty,pos,aft,none⟩) (hx:evS l x=some ([],.pointer (some ⟨b,off,none⟩))) (hy:evS l y=some ([],v)) [sz:SizeC X.P T nsz] [mm:Bx LF b (.cells cs.toArray T' (0,0)) LR] (hs:setl cs off v.cells.toList=cs)
  (n:DE X k ops m p LF effs todo l ([]::LL)) (he:effs.contains i=true:=by rfl) (hv:v.cells.size=nsz:=by rfl) (h1:v.cells.toList.all isOne=true:=by rfl) (hlen:off+v.cells.size<=cs.length:=by exact Nat.le_of_ble_eq_true rfl):DE X k ops m p LF effs (i::todo) l LL:=
 ⟨.eff (U:=[]) (LR:=LL) (Q:=fun _ x=>x=[]) ho (by simpa using he) (List.Perm.refl _) (fun tm _ E=>⟨rfl,xpq rfl,fun C h s=>.inl (by
  unfold Exv
  simp only [execOp,xfq E hx trivial,xfq E hy trivial]
  refine xbq ?_
  unfold Instr.storeAt
  refine xbq (xcq ?_)
  unfold storeVar
  refine xbq (xtq sz.h ?_)
  rw [if_neg (by simpa using hv)]
  have s0:St X.h₀ X.B₀ p h ((b,.cells cs.toArray T' (0,0))::(LR.flatten++C)):=s.perm (xng mm)
  refine xgz (i:=0) s0 rfl (by simpa using hlen) (fun u hu=>List.all_eq_true.1 h1 u hu) fun h' s'=>?_
  refine xcq ⟨_,.inr ⟨rfl,rfl⟩,[],rfl,?_⟩
  rw [Nat.add_zero,hs] at s'
  exact s'.perm (xng mm).symm)⟩) fun v x e=>by subst e;exact n.run⟩
end
theorem xzd {P : Program} {dd : Nat} {xs : Array Value} : ∀ {fs : List Field}, (∀ f ∈ fs, f.name ≠ "_" /\ P.underlying f.type = some (.int .i64) /\ aggT P f.type = some false /\ ∃ n, xs[f.offset]? = some (.int .i64 n)) -> EqOk P (dd + 1) xs xs fs true
  | [],_=>rfl
  | f::fs,h=>by
    obtain ⟨h1,h2,h3,n,h4⟩:=h f (by simp)
    refine ⟨h1,_,_,true,fun h K k=>xfj h3 h4 k,fun h K k=>xfj h3 h4 k,fun h K k=>xuw h2 (by simpa using k),.inr ⟨rfl,xzd fun f hf=>h f (List.mem_cons_of_mem _ hf)⟩⟩
theorem ypw {P:Program} {md:Md} {f:FuncId} {fn:Func} {c:Code} {args:List Value} {R:Value->Heap->Prop} {h:Heap} {p:PHeap} (hp:Per p h) (hf:P.funcs[f]?=some fn) (x:RE ⟨P,md,f,.none,fn.ntmps,[],[],StopE P R,h,[]⟩ [.code c] (envOf 0 args) p [])
  (hb:fn.body=some c:=by rfl) (hn:Nat.ble args.length fn.ntmps=true:=by rfl):EntersX P md f args.toArray h R:=
 xws (Φ:=fun h'=>St h [] p h' []) hf hb rfl (fun _=>x.run _ (by have:=Nat.le_of_ble_eq_true hn;simp;omega) fun i g v hl=>by
  obtain ⟨rfl,m,rfl,hm⟩:=xyb hl
  rw [Nat.zero_add,List.getElem?_append_left (by simpa using (List.getElem?_eq_some_iff.1 hm).1)]
  simpa [cv] using hm) (St.start h p hp)
theorem xb9 {P:Program} {md:Md} {f:FuncId} {nn:Nat} {h₀:Heap} {B₀:List Nat} {fn:Func} {t:Tmp} {v:Value} {R:Value->Heap->Prop} {k:List Item} {l:Env} {p:PHeap} {LL:List Pcs} (hi:P.inits.idxOf? f=none) (hf:P.funcs[f]?=some fn) (hr:fn.results=#[.tmp t]) (hv:resv l [.tmp t]=some [v])
  (x: ∀ h,St h₀ B₀ p h LL.flatten->R v h):RE ⟨P,md,f,.none,nn,[],[],StopE P R,h₀,B₀⟩ (.code .ret::k) l p LL:=
 ⟨fun _ _ E=>ydg hi hf hr (fun _ _=>xc0 E hv) rfl x⟩
section
variable {X:Cx} {k:List Item} {ops:List Oper} {m:Ks} {l:Env} {p:PHeap} {LF LL:List Pcs} {effs todo:List Nat} {d:Option Tmp} {ty:TypeId} {pos:String} {aft:Array Edge} {x y:Operand} {i:Nat} {T T':TypeId}
theorem ych {src dst e:TypeId} {v:Value} {a:List UInt8} {Y:Pcs} {LR:List Pcs} (ho:ops[i]?=some ⟨d,.convert src dst x,ty,pos,aft,none⟩) (hx:evS l x=some ([],v)) (o:OwnS e 1 v (bcs a) Y) [hs:SlcC X.P src e] [ii:Rm LL Y LR] (n:DE X k ops m p LF effs todo (ent d none (sv a) l) LL)
  (hd:X.P.underlying dst=some .string:=by kernel_rfl) (he:X.P.underlying e=some (.int .u8):=by kernel_rfl) (hb:pinB ops effs todo i=true:=by kernel_rfl):DE X k ops m p LF effs (i::todo) l LL:=
 xm4 (g:=none) ho rfl rfl (fun _ _ E s=>xd6 (A:=LF.flatten) (C:=LR.flatten) o (s.perm (List.Perm.append_left _ ii.h)) hs.h hd he (xfq E hx trivial)) n hb
end
def pureOk (ops:List Oper):Bool:=
 ops.zipIdx.all fun (o,i)=>noSel o.op && ops.zipIdx.all fun (o',j)=>match o'.dst with
  | some d=>(decide (i=j) || decide (o.dst≠some d)) && (!(looks ops o).contains d || (preds o).contains j || (preds o').contains i)
  | none=>true
def blankO (o:Oper):Oper:={ o with dst:=none,op:=.move (.const undef),guard:=none }
theorem xfd {ops:List Oper} (hs:pureOk ops=true) {i:Nat} {o:Oper} (ho:ops[i]?=some o):
  noSel o.op=true/\ ∀ (j:Nat) (o':Oper) (d:Nat),ops[j]?=some o'->o'.dst=some d->(i=j\/o.dst≠some d)/\(d∈looks ops o->j∈preds o\/i∈preds o'):=by
 unfold pureOk at hs
 have h:=List.all_eq_true.1 hs (o,i) (List.mem_zipIdx_iff_getElem?.2 ho)
 simp only [Bool.and_eq_true,List.all_eq_true] at h
 refine ⟨h.1,fun j o' d ho' hd=>?_⟩
 have h2:=h.2 (o',j) (List.mem_zipIdx_iff_getElem?.2 ho')
 simp only [hd,Bool.and_eq_true,Bool.or_eq_true,decide_eq_true_eq,Bool.not_eq_true',List.contains_eq_mem,decide_eq_false_iff_not] at h2
 refine ⟨h2.1,fun hl=>?_⟩
 rcases h2.2 with (x | x) | x
 ·exact absurd hl x
 ·exact .inl x
 ·exact .inr x
theorem yfq {m:Region.Mode} {a b:Array Oper} (hs:a.size=b.size) (h: ∀ i:Nat,(a[i]?).map (·.after)=(b[i]?).map (·.after)) (t:Nat):Region.linearise m a t=Region.linearise m b t:=by
  have key: ∀ (fuel t:Nat) (l:Array Bool) (acc:List Nat),Region.linearise.go m a fuel t l acc=Region.linearise.go m b fuel t l acc:=by
    intro fuel
    induction fuel with
    | zero=>intro t l acc;rfl
    | succ n ih=>
      intro t l acc
      have e:((List.range a.size).filter fun i=>!l.getD i true && ((a[i]?).map (·.after.all fun e=>!Region.binds m e || l.getD e.on false)).getD false)=(List.range b.size).filter fun i=>!l.getD i true && ((b[i]?).map (·.after.all fun e=>!Region.binds m e || l.getD e.on false)).getD false:=by
        rw [hs]
        refine List.filter_congr fun i _=>?_
        have:=congrArg (Option.map fun x:Array Edge=>x.all fun e=>!Region.binds m e || l.getD e.on false) (h i)
        rw [Option.map_map,Option.map_map] at this
        exact congrArg (fun z:Option Bool=>!l.getD i true && z.getD false) this
      simp only [Region.linearise.go]
      rw [e]
      split
      · exact ih _ _ _
      · rfl
  unfold Region.linearise
  rw [hs];exact key _ _ _ _
theorem xq9 {ops:List Oper} {m:Nat} {l:Array Bool} {s:List Nat} (h:Ord (ops.map blankO) m l s):Ord ops m l s:=by
  induction h with
  | nil h=>exact .nil h
  | cons hi ho hn hp _ ih=>
    rw [List.getElem?_map] at ho
    obtain ⟨o2,ho2,rfl⟩:=Option.map_eq_some_iff.1 ho
    exact .cons hi ho2 hn hp ih
section
variable {P:Program} {md:Md} {ops:List Oper} {n:Nat} {h₀:Heap} {B₀:List Nat} {p:PHeap} {LF C:Pcs} {f:FuncId} {r:Rd} {df:List Deferred} {k:List Item} {cs:List Frame} {Stop:Goroutine->Heap->Prop} {cl:List (List Nat)} {tm0 tmv:List Value} {todo:List Nat}
structure WP (P:Program) (md:Md) (ops:List Oper) (n:Nat) (h₀:Heap) (B₀:List Nat) (p:PHeap) (LF C:Pcs) (tm0 tmv:List Value) (todo:List Nat):Prop where
 lv:tmv.length=n
 pend: ∀ (j:Nat) (o:Oper),ops[j]?=some o->j ∉ todo-> ∃ u tmj,TurnA P md ops h₀ B₀ p LF C o tmj u/\(∀ d,o.dst=some d->tmv[d]?=some u)/\(∀ t∈looks ops o,∀ (i:Nat) (oi:Oper),ops[i]?=some oi->oi.dst=some t->i∈preds o->tmj[t]?=tmv[t]?)/\
  ∀ t∈looks ops o,(∀ (i:Nat) (oi:Oper),ops[i]?=some oi->oi.dst=some t->j∈preds oi)->tmj[t]?=tm0[t]?
 vinit: ∀ t,(∀ (i:Nat) (oi:Oper),ops[i]?=some oi->oi.dst=some t->i∈todo)->tmv[t]?=tm0[t]?
 back: ∀ (j:Nat) (o:Oper),ops[j]?=some o->j ∉ todo-> ∀ x∈preds o,x ∉ todo
theorem WP.adv (hp:pureOk ops=true) {i:Nat} {o:Oper} {u:Value} (ho:ops[i]?=some o) (hd: ∀ d,o.dst=some d->d<n) (hnd:i ∉ todo) (hpr: ∀ x∈preds o,x ∉ i::todo) (W:WP P md ops n h₀ B₀ p LF C tm0 tmv (i::todo))
  (hT:TurnA P md ops h₀ B₀ p LF C o tmv u):WP P md ops n h₀ B₀ p LF C tm0 (putl tmv o.dst u) todo:=by
 have uniq: ∀ {j:Nat} {oj:Oper} {t:Nat},ops[j]?=some oj->oj.dst=some t->o.dst=some t->j=i:=fun {j oj t} hj hjt e=>(((xfd hp hj).2 i o t ho e).1.resolve_right fun z=>z hjt)
 refine ⟨by rw [xwz];exact W.lv,fun j oj hoj hjt=>?_,fun t ht=>?_,fun j oj hoj hjt x hx=>?_⟩
 ·by_cases e:j=i
  ·subst e
   rw [ho] at hoj;cases hoj
   refine ⟨u,tmv,hT,fun d e=>xub e (by rw [W.lv];exact hd d e),fun t _ i2 o2 h2 d2 hx=>?_,fun t _ hw=>W.vinit t fun i2 o2 h2 d2=>?_⟩
   ·rw [xkz fun e=>?_]
    have:=uniq h2 d2 e
    subst this
    exact hpr _ hx (by simp)
   ·refine Decidable.byContradiction fun hn=>W.back i2 o2 h2 hn j (hw i2 o2 h2 d2) (by simp)
  ·obtain ⟨uj,tmj,h1,h2,h3,h4⟩:=W.pend j oj hoj (by simp [e,hjt])
   refine ⟨uj,tmj,h1,fun d hdj=>?_,fun t ht i2 o2 hi2 d2 hx=>?_,h4⟩
   ·rw [xkz fun e'=>e (uniq hoj hdj e')];exact h2 d hdj
   ·rw [xkz fun e'=>?_]
    ·exact h3 t ht i2 o2 hi2 d2 hx
    ·have:=uniq hi2 d2 e'
     subst this
     exact W.back j oj hoj (by simp [e,hjt]) _ hx (by simp)
 ·rw [xkz fun e=>hnd (ht i o ho e)]
  exact W.vinit t fun i2 o2 h2 d2=>List.mem_cons_of_mem _ (ht i2 o2 h2 d2)
 ·by_cases e:j=i
  ·subst e;rw [ho] at hoj;cases hoj
   exact fun z=>hpr x hx (List.mem_cons_of_mem _ z)
  ·exact fun z=>W.back j oj hoj (by simp [e,hjt]) x hx (List.mem_cons_of_mem _ z)
theorem xh9 (hp:pureOk ops=true) (hdl: ∀ (i:Nat) (o:Oper) (d:Nat),ops[i]?=some o->o.dst=some d->d<n) {K:Env->List Pcs->Prop} {l:Env} {LL:List Pcs} (D:DR P md ops n h₀ B₀ p LF [] K todo l LL):
    ∀ (tmv:List Value) (done:List Nat),WP P md ops n h₀ B₀ p LF LL.flatten tm0 tmv todo->EnvOk tmv l->ordOk ops cl [] done todo=true->(∀ x∈done,x ∉ todo)-> ∃ l' tmv',K l' LL/\EnvOk tmv' l'/\WP P md ops n h₀ B₀ p LF LL.flatten tm0 tmv' []:=by
  induction D with
  | nil kk=>exact fun tmv _ W E _ _=>⟨_,tmv,kk,E,W⟩
  | @det i todo o l LL g v ho h nx ih=>
    intro tmv done W E ok hdt
    obtain ⟨o',ho',h1,_,h3,h4⟩:=xck ok
    rw [ho] at ho';cases ho'
    have hnd:i ∉ todo:=fun z=>xlz h4 i z (by simp)
    exact ih _ (i::done) (W.adv hp ho (fun d=>hdl i o d ho) hnd (fun x hx=>hdt x (h1 x hx)) (h tmv W.lv E).a) (E.ent W.lv fun d=>hdl i o d ho) h4 fun x hx z=>by
      rcases List.mem_cons.1 hx with rfl | hx
      · exact hnd z
      · exact hdt x hx (List.mem_cons_of_mem _ z)
  | @pin i todo o l LL g v ho _ h nx ih=>
    intro tmv done W E ok hdt
    obtain ⟨o',ho',h1,_,h3,h4⟩:=xck ok
    rw [ho] at ho';cases ho'
    have hnd:i ∉ todo:=fun z=>xlz h4 i z (by simp)
    exact ih _ (i::done) (W.adv hp ho (fun d=>hdl i o d ho) hnd (fun x hx=>hdt x (h1 x hx)) (by have:=h tmv W.lv E [];rwa [List.append_nil] at this)) (E.ent W.lv fun d=>hdl i o d ho) h4 fun x hx z=>by
      rcases List.mem_cons.1 hx with rfl | hx
      · exact hnd z
      · exact hdt x hx (List.mem_cons_of_mem _ z)
  | effG _ he=>cases he
theorem ynk (hp:pureOk ops=true) (hdl: ∀ (i:Nat) (o:Oper) (d:Nat),ops[i]?=some o->o.dst=some d->d<n) (W:WP P md ops n h₀ B₀ p LF C tm0 tmv [])
    (hK:RS P md (G (FL f r tmv df (.inRegion ops.toArray []::k)) cs) (fun h=>St h₀ B₀ p h (LF++C)) Stop): ∀ (s:List Nat) (lex:Array Bool) (tmc:List Value),Ord ops ops.length lex s->lex.size=ops.length->tmc.length=n->
      (∀ (j:Nat) (o:Oper) (t:Nat),ops[j]?=some o->o.dst=some t->lex.getD j false=true->tmc[t]?=tmv[t]?)->(∀ t,(∀ (j:Nat) (o:Oper),ops[j]?=some o->o.dst=some t->lex.getD j false=false)->tmc[t]?=tm0[t]?)->
      (∀ (j:Nat) (o:Oper),lex.getD j false=true->ops[j]?=some o-> ∀ x∈preds o,lex.getD x false=true)->
      RS P md (G (FL f r tmc df (.inRegion ops.toArray s::k)) cs) (fun h=>St h₀ B₀ p h (LF++C)) Stop:=by
  intro s
  induction s with
  | nil=>
    intro lex tmc hord _ _ hsame hrest _
    cases hord with
    | nil hall=>
    have:tmc=tmv:=List.ext_getElem? fun t=>by
      by_cases e: ∃ (j:Nat) (o:Oper),ops[j]?=some o/\o.dst=some t
      · obtain ⟨j,o,ho,hd⟩:=e
        exact hsame j o t ho hd (hall j (List.getElem?_eq_some_iff.1 ho).1)
      · rw [hrest t fun j o ho hd=>absurd ⟨j,o,ho,hd⟩ e,W.vinit t fun j o ho hd=>absurd ⟨j,o,ho,hd⟩ e]
    rw [this];exact hK
  | cons i s ih=>
    intro lex tmc hord hsz hlc hsame hrest hcl
    cases hord with
    | @cons _ _ _ o hi ho hn hpd hs=>
    obtain ⟨u,tmj,hT,h2,h3,h4⟩:=W.pend i o ho (by simp)
    have hnf:lex.getD i false=false:=by rw [<- xgb (by rw [hsz];exact hi)];exact hn
    have hag: ∀ t∈looks ops o,tmc[t]?=tmj[t]?:=fun t ht=>by
      by_cases e: ∃ (j:Nat) (oj:Oper),ops[j]?=some oj/\oj.dst=some t/\j∈preds o
      · obtain ⟨j,oj,hoj,hdj,hx⟩:=e
        rw [hsame j oj t hoj hdj (hpd j hx),h3 t ht j oj hoj hdj hx]
      · have ha: ∀ (j:Nat) (oj:Oper),ops[j]?=some oj->oj.dst=some t->i∈preds oj:=fun j oj hoj hdj=>(((xfd hp ho).2 j oj t hoj hdj).2 ht).resolve_left fun hx=>e ⟨j,oj,hoj,hdj,hx⟩
        rw [h4 t ht ha]
        refine hrest t fun j oj hoj hdj=>?_
        cases hl:lex.getD j false with
        | false=>rfl
        | true=>have:=hcl j oj hl hoj i (ha j oj hoj hdj);rw [hnf] at this;cases this
    refine xb2 ho (xxg (xfd hp ho).1 hag hT) (ih _ _ hs (by simpa using hsz) (by rw [xwz];exact hlc) (fun j oj t hoj hdj hl=>?_) (fun t ht=>?_) (xar (by rw [hsz];exact hi) ho hpd hcl))
    · by_cases e:i=j
      · subst e;rw [ho] at hoj;cases hoj
        rw [xub hdj (by rw [hlc];exact hdl i _ t ho hdj),h2 t hdj]
      · rw [xkz fun e'=>e (((xfd hp ho).2 j oj t hoj hdj).1.resolve_right fun z=>z e')]
        rw [getD_set_ne false e] at hl
        exact hsame j oj t hoj hdj hl
    · rw [xkz fun e=>by have:=ht i o ho e;rw [xfb (by rw [hsz];exact hi)] at this;cases this]
      refine hrest t fun j oj hoj hdj=>?_
      have:=ht j oj hoj hdj
      by_cases e:i=j
      · subst e;rw [xfb (by rw [hsz];exact hi)] at this;cases this
      · rwa [getD_set_ne false e] at this
end
theorem ydc {n:Nat}: ∀ {os:List Oper},okD n os=true-> ∀ o∈os,∀ d,o.dst=some d->d<n
  | [],_,o,ho,_,_=>by simp at ho
  | o::os,h,o',ho',d,hd=>by
    rcases List.mem_cons.1 ho' with rfl | ho'
    · exact (xlq h).2 d hd
    · exact ydc (xlq h).1 o' ho' d hd
section
variable {X:Cx} {k:List Item} {ops:List Oper} {l:Env} {p:PHeap} {LL:List Pcs}
theorem ykf {id:Nat} (order:List Nat) (D:DE X k ops (.drop order.length) p LL [] order l []) (hmix:X.P.follows .mixedOrders=true:=by kernel_rfl) (ok:okD X.n ops=true:=by rfl)
  (hst:stable (ops.map blankO) order.length (clo ops)=true:=by kernel_rfl) (hpu:pureOk ops=true:=by kernel_rfl) (hm:Nat.beq order.length ops.length=true:=by kernel_rfl) (hord:ordOk ops (clo ops) [] [] order=true:=by kernel_rfl) (hall:((List.range order.length).all fun i=>order.contains i)=true:=by kernel_rfl):
  RE X (.code (.region id ops.toArray true)::k) l p LL:=by
 constructor
 intro tm ht E
 have hm:=Nat.eq_of_beq_eq_true hm
 have hdl: ∀ (i:Nat) (o:Oper) (d:Nat),ops[i]?=some o->o.dst=some d->d<X.n:=fun i o d ho hd=>ydc ok o (List.mem_of_getElem? ho) d hd
 have hall': ∀ (j:Nat) (o:Oper),ops[j]?=some o->j∈order:=fun j o ho=>by
  have:=List.all_eq_true.1 hall j (List.mem_range.2 (by rw [hm];exact (List.getElem?_eq_some_iff.1 ho).1))
  simpa using this
 obtain ⟨l',tmv,K,E',W⟩:=xh9 (tm0:=tm) hpu hdl D.run tm [] ⟨ht,fun j o ho hj=>absurd (hall' j o ho) hj,fun _ _=>rfl,fun j o ho hj=>absurd (hall' j o ho) hj⟩ E hord (by simp)
 refine xqn fun t=>?_
 unfold Region.schedule
 rw [hmix]
 simp only [Bool.true_or,if_true]
 obtain ⟨s,e,hor⟩:=xth hst (by rw [hm,List.length_map];exact Nat.le_refl _) t
 rw [yfq (a:=ops.toArray) (b:=(ops.map blankO).toArray) (by simp) (fun i=>by simp [List.getElem?_map,Function.comp_def,blankO]),e,hm,List.length_map,Nat.sub_self]
 rw [hm] at hor
 have K:RO X k ops (ops.drop order.length) l' p (LL++[]):=K
 rw [hm,List.drop_length] at K
 have z:=K.run rfl tmv W.lv E' ops (by simp)
 rw [List.flatten_append] at z
 show RS _ _ (G (FL X.f X.r tm X.df (.inRegion ops.toArray (s++[])::k)) X.cs) _ _
 rw [List.append_nil]
 have fin:=ynk hpu hdl W (by simpa using z) s (Array.replicate ops.length false) tm (by simpa using xq9 hor) (by simp) ht (fun j _ _ _ _ h=>by simp [Array.getD] at h) (fun _ _=>rfl) (fun j _ h=>by simp [Array.getD] at h)
 simpa using fin
theorem yxb {α:Type} [Inhabited α] (fv:α->Value) {rest:List Oper} {d:Option Tmp} {ty:TypeId} {pos:String} {aft:Array Edge} {x:Operand} {gd:Option (Nat × Bool)} {g:Option Bool} {ss:List Prop} {args:List Operand} {ats:Array TypeId} {ff:FuncId} {first cap vs:List Value}
    (hg:gdc ops l gd=some g) (hx:evS l x=some ([],.func (.func ff) first.toArray cap.toArray)) (hvs:evsS l args=some (ss,vs)) (hs:cimp g (AllP ss))
    (hc: ∀ h,Per p h->CallsX X.P X.md ff (first++(vs++cap)).toArray h fun v' h'=>(∃ q,v'=fv q)/\Keep h h') (n: ∀ q,RO X k ops rest (ent d g (fv q) l) p LL) (hf:callable X.P ff=true:=by kernel_rfl):
    RO X k ops (⟨d,.call ⟨.value x,args.toArray,ats⟩,ty,pos,aft,gd⟩::rest) l p LL:=by
  constructor
  intro ok tm ht E
  have ok':=xlq ok
  rcases xgv (o:=⟨d,.call ⟨.value x,args.toArray,ats⟩,ty,pos,aft,gd⟩) E hg with ⟨e,hm⟩ | ⟨c',e,hm⟩
  · subst e
    exact xbv (R:=fun v h=>(∃ q,v=fv q)/\St X.h₀ X.B₀ p h LL.flatten) hm (xfq E hx trivial) (by rw [xgx E hvs hs]) hf
      (fun h s=>(hc h fun b o e=>s.per b o e).mono fun _ _ ⟨q,kk⟩=>⟨q,s.call kk⟩)
      fun v=>xzx fun ⟨q,e⟩=>by subst e;exact (n q).run ok'.1 _ (putl_len.trans ht) (E.ent (g:=none) ht ok'.2)
  · subst e
    cases c' with
    | true=>
      exact xbv (R:=fun v h=>(∃ q,v=fv q)/\St X.h₀ X.B₀ p h LL.flatten) hm (xfq E hx trivial) (by rw [xgx E hvs (hs rfl)]) hf
        (fun h s=>(hc h fun b o e=>s.per b o e).mono fun _ _ ⟨q,kk⟩=>⟨q,s.call kk⟩)
        fun v=>xzx fun ⟨q,e⟩=>by subst e;exact (n q).run ok'.1 _ (putl_len.trans ht) (E.ent (g:=some true) ht ok'.2)
    | false=>exact xbb hm rfl ((n default).run ok'.1 _ (putl_len.trans ht) (E.ent (g:=some false) ht ok'.2))
end
end Go.X
