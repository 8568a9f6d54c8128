/-
  Part of proofs about a town's master: a calculus for walks beside goroutines that are only leaving, and the walks. No condition.
-/
import Derived.Test.YtbphcmeebnkmdaaGreatDoorGJ
import Derived.Test.YtbphcmeebnkmdaaGreatDoorGB2
namespace Go.X
open Go.Conc Go.Conc.Lib
open Go.ConcR (DC0)
open Go.ConcN (WgLive)
section
variable {X:Cx} {k:List Item} {ops rest:List Oper} {l:Env} {p:PHeap} {LL LR:List Pcs} {ty:TypeId} {pos:String} {aft:Array Edge}
theorem ysj {args:List Operand} {ats:Array TypeId} {g:FuncId} {vs:List Value} (hvs:evsS l args=some ([],vs)) (n:RO { X with df:=dcall g vs.toArray::X.df } k ops rest l p LL) (hr:X.r.round=none:=by rfl):
  RO X k ops (⟨none,.defer ⟨.value (.func g),args.toArray,ats⟩,ty,pos,aft,none⟩::rest) l p LL:=
 ⟨fun ok tm ht E=>yzj (xpq rfl) (xgx E hvs trivial) hr (n.run (xlq ok).1 tm ht E)⟩
theorem go_E {P:Program} {md:Md} {f:FuncId} {fn:Func} {c:Code} {args:List Value} {cs:List Frame} {Stop:Goroutine->Heap->Prop} {h h₀:Heap} {B₀:List Nat} {p:PHeap} {LL:List Pcs} (s:St h₀ B₀ p h LL.flatten) (hf:P.funcs[f]?=some fn)
  (x:RE ⟨P,md,f,.dfd,fn.ntmps,[],cs,Stop,h₀,B₀⟩ [.code c] (envOf 0 args) p LL) (hb:fn.body=some c:=by rfl) (hn:Nat.ble args.length fn.ntmps=true:=by rfl):Reach P md (G (Frame.enter P f args.toArray .deferred) cs) h Stop:=
 ygv (Φ:=fun h'=>St h₀ B₀ p h' LL.flatten) hf hb rfl (x.run _ (by have:=Nat.le_of_ble_eq_true hn;simp;omega) fun i g v hl=>by
  obtain ⟨rfl,m,rfl,hm⟩:=xob hl
  rw [Nat.zero_add,List.getElem?_append_left (by simpa using (List.getElem?_eq_some_iff.1 hm).1)]
  simpa [cv] using hm) s
theorem ydk {P:Program} {md:Md} {f:FuncId} {n:Nat} {r:Nat} {df:List Deferred} {c₀:Frame} {cs:List Frame} {Stop:Goroutine->Heap->Prop} {h₀:Heap} {B₀:List Nat} [i:Bx LL r (.deferred (some [])) LR]
  (x: ∀ tm td h,St h₀ B₀ p h ((r,.deferred none)::LR.flatten)->Reach P md (G (FR (B f .dfd) tm df td) (c₀::cs)) h Stop):RE ⟨P,md,f,.dfd,n,mark r::df,c₀::cs,Stop,h₀,B₀⟩ [] l p LL:=
 ⟨fun _ _ _=>xzd (ylv (i:=0) (L:=(r,.deferred (some []))::LR.flatten) rfl fun td h s=>x _ td h s) fun _ s=>s.bx i⟩
def BehE (X:Cx) (k:List Item) (ops rest:List Oper) (l:Env) (gb:Goroutine):Prop:=
 ∀ (md':Md) (Stop':Goroutine->Heap->Prop) (h₀':Heap) (B₀':List Nat) (p':PHeap) (LL':List Pcs) (h':Heap),RO { X with md:=md',Stop:=Stop',h₀:=h₀',B₀:=B₀' } k ops rest l p' LL'->St h₀' B₀' p' h' LL'.flatten->Reach X.P md' gb h' Stop'
variable {L:WgLink} {dd:Nat} {args:List Operand} {ats:Array TypeId} {Wg:Nat}
theorem ymb (H:WgLib X.P L) (hvs:evsS l args=some ([],[.pointer (some ⟨Wg,0,none⟩),.int .i64 1])) (hc:callable X.P L.add=true)
  (x: ∀ ge gb,(∀ w,WgLive L.tWg Wg w-> ∃ m,Goes X.P true (RLv L.tWg Wg) DC0 (AtKdS X.P L.tWg Wg gb) m ge w)->BehE X k ops rest ((dd,none,.tuple #[])::l) gb-> ∀ h,St X.h₀ X.B₀ p h LL.flatten->Reach X.P X.md ge h X.Stop) (hr:X.r.round=none:=by rfl):
  RO X k ops (⟨some dd,.call ⟨.value (.func L.add),args.toArray,ats⟩,ty,pos,aft,none⟩::rest) l p LL:=⟨fun ok tm ht E=>
 yml H (xpq rfl) (xgx E hvs trivial) hr hc rfl fun ge gb way beh h s=>x ge gb way (fun md' Stop' h₀' B₀' p' LL' h' n s'=>
  beh md' _ Stop' h' (n.run (xlq ok).1 _ (by simp [ht]) (E.set (g:=none) (ht ▸ (xlq ok).2 dd rfl))) s') h s⟩
theorem yyh {x:Operand} {g:FuncId} {first cap vs:List Value} (hx:evS l x=some ([],.func (.func g) first.toArray cap.toArray)) (hvs:evsS l args=some ([],vs))
  (n: ∀ ga gn,ga.status= .running->(∀ w,stepG X.P true ga w= .spawn gn (born X.P { target:=.fn (.func g) cap.toArray,args:=(first++vs).toArray }) w #[])->BehE X k ops rest l gn-> ∀ h,St X.h₀ X.B₀ p h LL.flatten->Reach X.P X.md ga h X.Stop) (hr:X.r.round=none:=by rfl):
  RO X k ops (⟨none,.go ⟨.value x,args.toArray,ats⟩,ty,pos,aft,none⟩::rest) l p LL:=⟨fun ok _ ht E=>
 ytn (xpq rfl) (xfq E hx trivial) (xgx E hvs trivial) hr fun ga gn h1 h2 beh h s=>n ga gn h1 h2 (fun md' Stop' _ _ _ _ h' n s'=>beh md' _ Stop' h' (n.run (xlq ok).1 _ ht E) s') h s⟩
theorem ycd (H:WgLib X.P L) (hvs:evsS l args=some ([],[.pointer (some ⟨Wg,0,none⟩)])) (hc:callable X.P L.wait=true)
  (x: ∀ ge gb (An:Goroutine->World->Prop),(∀ g w,An g w->g.status= .running)->(∀ g w,An g w-> ∃ m,Goes X.P true (RLv L.tWg Wg) DC0 (AtW1 X.P L.tWg Wg gb An) m g w)->(∀ w,WgLive L.tWg Wg w-> ∃ m,Goes X.P true (RLv L.tWg Wg) DC0 (AtKd X.P L.tWg Wg An) m ge w)->
   gb.status= .running->(∀ (md':Md) (Stop':Goroutine->Heap->Prop) (h₀':Heap) (B₀':List Nat) (p':PHeap) (LL':List Pcs) (h':Heap),RE { X with md:=md',Stop:=Stop',h₀:=h₀',B₀:=B₀' } k ((dd,none,.tuple #[])::l) p' LL'->St h₀' B₀' p' h' LL'.flatten->Reach X.P md' gb h' Stop')->
   ∀ h,St X.h₀ X.B₀ p h LL.flatten->Reach X.P X.md ge h X.Stop) (hr:X.r.round=none:=by rfl):
  RO X k ops [⟨some dd,.call ⟨.value (.func L.wait),args.toArray,ats⟩,ty,pos,aft,none⟩] l p LL:=⟨fun ok tm ht E=>
 yqd H (xpq rfl) (xgx E hvs trivial) hr hc rfl fun ge gb An a1 a2 a3 ⟨q,e,e2⟩ h s=>x ge gb An a1 a2 a3 (by rw [e];rfl) (fun md' Stop' h₀' B₀' p' LL' h' n s'=>by
  have e3:q=[]:=by rw [e2];simp
  subst e3
  rw [e]
  exact xtc (n.run _ (by simp [ht]) (E.set (g:=none) (ht ▸ (xlq ok).2 dd rfl))) h' s') h s⟩
theorem yck {c:Code} (n:RE X (.code c:: .inLoop c::k) l p LL):RE X (.code (.loop c)::k) l p LL:=⟨fun tm ht E=>ykv (n.run tm ht E)⟩
theorem xjm {c:Code} (n:RE X (.code c:: .inLoop c::k) l p LL):RE X (.inLoop c::k) l p LL:=⟨fun tm ht E=>xv5 (n.run tm ht E)⟩
end
section
variable {X:Cx} {k:List Item} {ops rest:List Oper} {m:Ks} {l:Env} {p:PHeap} {LF LL LR LR2:List Pcs} {effs todo:List Nat} {dd:Nat} {ty:TypeId} {pos:String} {aft:Array Edge} {x y:Operand} {i:Nat} {v:Value} {w:Nat} {es news:List (List Value)} {Y Z:Pcs}
theorem yip {sT xT eT eX:TypeId} {by':Nat} {x' z:Value} (ho:ops[i]?=some ⟨some dd,.call ⟨.builtin .append,#[x,y],#[sT,xT]⟩,ty,pos,aft,none⟩) (hx:evS l x=some ([],v)) (hy:evS l y=some ([],x')) (o1:OwnS eT w v es Y) (o2:OwnS eT w x' news Z) (h1: ∀ u∈news.flatten,isOne u=true) (room:(es.length+news.length)*by'<=2 ^ 40)
  [i1:Rm LL Y LR] [i2:Rm LR Z LR2] [hT:SlcC X.P sT eT] [hs:SizeC X.P eT w] [hz:ZeroC X.P eT z] [hb:ByC X.P eT by'] [hX:SlcC X.P xT eX] (nx: ∀ v' Y',OwnS eT w v' (es++news) Y'->DE X k ops m p LF effs todo ((dd,none,v')::l) (Y'::LR2))
  (he:effs.contains i=true:=by rfl) (hzs:z.cells.size=w:=by rfl) (hb2:0<by'/\by'<=2 ^ 20:=by decide):DE X k ops m p LF effs (i::todo) l LL:=
 ⟨.eff (U:=Y++Z) (LR:=LR2) (Q:=fun v' Y'=>OwnS eT w v' (es++news) Y') ho (by simpa using he) (i1.h.trans (by rw [List.append_assoc];exact List.Perm.append_left Y i2.h)) (fun tm _ E=>⟨rfl,xpq rfl,fun C h s=>.inl (by
  rw [List.append_assoc] at s
  exact Ex.exv (xrd [] hT.h hs.h hz.h hzs hb.h hX.h (xfq E hx trivial) (xfq E hy trivial) o1 s (xyf (L₁:=Y) o2 s) h1 room hb2 fun v' X' h' o' s'=>⟨X',o',s'.sub (by
   simp only [List.nil_append]
   exact (List.Sublist.refl X').append (List.sublist_append_right Z (LF.flatten++C)))⟩))⟩) fun v' Y' o'=>(nx v' Y' o').run⟩
end
end Go.X
namespace Go.X
open Go.Conc
section
variable {X:Cx} {k:List Item} {ops:List Oper} {m:Ks} {l:Env} {p:PHeap} {LF LL LR:List Pcs} {effs todo:List Nat} {dd:Nat} {ty:TypeId} {pos:String} {aft:Array Edge} {x y:Operand} {i w:Nat} {v:Value} {es news:List (List Value)} {Y:Pcs}
theorem xvs {sT xT eT eX:TypeId} {by' n cap:Nat} {a:Option Addr} {z:Value} (ho:ops[i]?=some ⟨some dd,.call ⟨.builtin .append,#[x,y],#[sT,xT]⟩,ty,pos,aft,none⟩) (hx:evS l x=some ([],v)) (hy:evS l y=some ([],.slice a n cap)) (o1:OwnS eT w v es Y) (o2:Sl p a n w news) (h1: ∀ u∈news.flatten,isOne u=true) (room:(es.length+n)*by'<=2 ^ 40)
  [i1:Rm LL Y LR] [hT:SlcC X.P sT eT] [hs:SizeC X.P eT w] [hz:ZeroC X.P eT z] [hb:ByC X.P eT by'] [hX:SlcC X.P xT eX] (nx: ∀ v' Y',OwnS eT w v' (es++news) Y'->DE X k ops m p LF effs todo ((dd,none,v')::l) (Y'::LR))
  (he:effs.contains i=true:=by rfl) (hzs:z.cells.size=w:=by rfl) (hb2:0<by'/\by'<=2 ^ 20:=by decide) (hw0:0<w:=by decide):DE X k ops m p LF effs (i::todo) l LL:=
 ⟨.eff (U:=Y) (LR:=LR) (Q:=fun v' Y'=>OwnS eT w v' (es++news) Y') ho (by simpa using he) i1.h (fun tm _ E=>⟨rfl,xpq rfl,fun C h s=>.inl (
  Ex.exv (xrd [] hT.h hs.h hz.h hzs hb.h hX.h (xfq E hx trivial) (xfq E hy trivial) o1 s (xvd s hw0 o2) h1 room hb2 fun v' X' h' o' s'=>⟨X',o',s'⟩))⟩) fun v' Y' o'=>(nx v' Y' o').run⟩
theorem ylb {ops rest:List Oper} {LL:List Pcs} {d:Option Tmp} {gd:Option (Nat × Bool)} {g:Option Bool} {ss:List Prop} {args:List Operand} {ats:Array TypeId} {ff:FuncId} {first cap vs:List Value} {Q:Bool->Prop} (hg:gdc ops l gd=some g) (hx:evS l x=some ([],.func (.func ff) first.toArray cap.toArray)) (hvs:evsS l args=some (ss,vs)) (hs:cimp g (AllP ss))
    (hc: ∀ h,Per p h->CallsX X.P X.md ff (first++(vs++cap)).toArray h fun v' h'=>(∃ q,v'= .bool q/\Q q)/\Keep h h') (n: ∀ q:Bool,cimp g (Q q)->RO X k ops rest (ent d g (.bool q) l) p LL) (hf:callable X.P ff=true:=by kernel_rfl):
    RO X k ops (⟨d,.call ⟨.value x,args.toArray,ats⟩,ty,pos,aft,gd⟩::rest) l p LL:=by
  constructor
  intro ok tm ht E
  have ok':=xlq ok
  rcases xkv (o:=⟨d,.call ⟨.value x,args.toArray,ats⟩,ty,pos,aft,gd⟩) E hg with ⟨e,hm⟩ | ⟨c',e,hm⟩
  · subst e
    exact xfw (R:=fun v h=>(∃ q,v= .bool q/\Q q)/\St X.h₀ X.B₀ p h LL.flatten) hm (xfq E hx trivial) (by rw [xgx E hvs hs]) hf
      (fun h s=>(hc h fun b o e=>s.per b o e).mono fun _ _ ⟨q,kk⟩=>⟨q,s.call kk⟩)
      fun v=>xzx fun ⟨q,e,hq⟩=>by subst e;exact (n q hq).run ok'.1 _ (putl_len.trans ht) (E.ent (g:=none) ht ok'.2)
  · subst e
    cases c' with
    | true=>
      exact xfw (R:=fun v h=>(∃ q,v= .bool q/\Q q)/\St X.h₀ X.B₀ p h LL.flatten) hm (xfq E hx trivial) (by rw [xgx E hvs (hs rfl)]) hf
        (fun h s=>(hc h fun b o e=>s.per b o e).mono fun _ _ ⟨q,kk⟩=>⟨q,s.call kk⟩)
        fun v=>xzx fun ⟨q,e,hq⟩=>by subst e;exact (n q fun _=>hq).run ok'.1 _ (putl_len.trans ht) (E.ent (g:=some true) ht ok'.2)
    | false=>exact xec hm rfl ((n false fun e=>by cases e).run ok'.1 _ (putl_len.trans ht) (E.ent (g:=some false) ht ok'.2))
end
end Go.X
namespace Go.X
open Go.Conc
theorem St.lastAll {h₀ h:Heap} {B₀:List Nat} {L:Pcs}: ∀ {Y:Pcs} {p:PHeap},St h₀ B₀ p h (Y++L)-> ∃ p',(PG h₀.size B₀ p p'/\ ∀ p'',PLe p p''->(∀ y∈Y,p'' y.1=some y.2)->PLe p' p'')/\(∀ y∈Y,p' y.1=some y.2)/\St h₀ B₀ p' h L
  | [],p,s=>⟨p,⟨.refl _ _ _,fun _ le _=>le⟩,by simp,s⟩
  | (b,o)::Y,p,s=>by
    have s1:St h₀ B₀ p h ((b,o)::(Y++L)):=s
    obtain ⟨p',⟨g,gl⟩,hy,s'⟩:=(s1.last.2).lastAll (Y:=Y)
    refine ⟨p',⟨(s1.pg (by simp)).trans g,fun p'' le h=>gl p'' (fun c q hc=>?_) fun y hy=>h y (List.mem_cons_of_mem _ hy)⟩,fun y m=>?_,s'⟩
    · unfold padd at hc
      split at hc
      · rename_i e;subst e;cases hc;exact h (c,o) (by simp)
      · exact le c q hc
    · rcases List.mem_cons.1 m with rfl | m
      · exact g.le _ _ xhk
      · exact hy y m
theorem xe6 {P:Program} {h:Heap} {tm:List Value} {d:Option Tmp} {ty:TypeId} {pos:String} {aft:Array Edge} {gd:Option (Nat × Bool)} {T T':TypeId} {x y:Operand} {a b:Bool} (ht:P.underlying T=some .bool) (hx:evl tm x= .bool a) (hy:evl tm y= .bool b):
  Exd P tm ⟨d,.binOp .neq T x y T',ty,pos,aft,gd⟩ h (.bool (!(a == b))):=by
 refine xox hx hy (fun K z=>xps z) ?_
 simp only [binOp,Op.equal,Op.maxDepth]
 refine xbq (xq4 ht ?_)
 exact xcq ⟨rfl,rfl⟩
section
variable {X:Cx} {k:List Item} {ops rest:List Oper} {m:Ks} {l:Env} {p:PHeap} {LF LL LR L3:List Pcs} {effs todo:List Nat} {g:Option Bool} {d:Option Tmp} {ty:TypeId} {pos:String} {aft:Array Edge} {gd:Option (Nat × Bool)} {ss ss':List Prop} {x y:Operand} {i:Nat} {T T':TypeId} {xs ys:Array Value} {q:Bool}
theorem xq7 (hg:gdc ops l gd=some g) (hx:evS l x=some (ss,.agg xs)) (hy:evS l y=some (ss',.agg ys)) (hs:cimp g (AllP ss)) (hs':cimp g (AllP ss')) (e: ∀ h (K:Bool->Heap->Prop),K q h->wpS X.P (Op.equalIn (9999+1) T (.agg xs) (.agg ys)) h K) (n:RO X k ops rest (ent d g (.bool (!q)) l) p LL) (hgt:X.P.eqGuardType X.P.depth T=false:=by kernel_rfl):
  RO X k ops (⟨d,.binOp .neq T x y T',ty,pos,aft,gd⟩::rest) l p LL:=xax hg rfl (xiz hs hs' fun h1 h2 _ _ E _=>xd6 hgt e (xfq E hx h1) (xfq E hy h2)) n
theorem ygb {a b:Bool} (hg:gdc ops l gd=some g) (hx:evS l x=some (ss,.bool a)) (hy:evS l y=some (ss',.bool b)) (hs:cimp g (AllP ss)) (hs':cimp g (AllP ss')) (n:RO X k ops rest (ent d g (.bool (!(a == b))) l) p LL) (ht:X.P.underlying T=some .bool:=by kernel_rfl):
  RO X k ops (⟨d,.binOp .neq T x y T',ty,pos,aft,gd⟩::rest) l p LL:=xax hg rfl (xiz hs hs' fun h1 h2 _ _ E _=>xe6 ht (xfq E hx h1) (xfq E hy h2)) n
theorem yrx {t:TypeId} {b off nn:Nat} {cs:Array Value} {z:Nat × Nat} (ho:ops[i]?=some ⟨d,.load t x,ty,pos,aft,gd⟩) (hg:gdc ops l gd=some g) (hx:evS l x=some (ss,.pointer (some ⟨b,off,none⟩))) (hs:cimp g (AllP ss)) [a:AggC X.P t true] [sz:SizeC X.P t nn] [mm:Bx LL b (.cells cs T z) LR]
  (n:DE X k ops m p LF effs todo (ent d g (.agg ((cs.toList.drop off).take nn).toArray) l) LL) (hn:((cs.toList.drop off).take nn).length=nn:=by rfl) (hb:pinB ops effs todo i=true:=by kernel_rfl):DE X k ops m p LF effs (i::todo) l LL:=
 ytx ho hg rfl (xsq hs fun hs _ _ E s=>xhw (i:=0) (s.perm (List.perm_append_comm.trans (List.Perm.append_right LF.flatten mm.h))) a.h sz.h (xfq E hx hs) rfl rfl hn) n hb
theorem yyb {b off nsz:Nat} {cs:List Value} {v:Value} (ho:ops[i]?=some ⟨none,.store T x y,ty,pos,aft,none⟩) (hx:evS l x=some ([],.pointer (some ⟨b,off,none⟩))) (hy:evS l y=some ([],v)) [sz:SizeC X.P T nsz] [mm:Bx LF b (.cells cs.toArray T' (0,0)) LR] (hs:setl cs off v.cells.toList=cs)
  (n:DE X k ops m p LF effs todo l ([]::LL)) (he:effs.contains i=true:=by rfl) (hv:v.cells.size=nsz:=by rfl) (h1:v.cells.toList.all isOne=true:=by rfl) (hlen:off+v.cells.size<=cs.length:=by exact Nat.le_of_ble_eq_true rfl):DE X k ops m p LF effs (i::todo) l LL:=
 ⟨.eff (U:=[]) (LR:=LL) (Q:=fun _ x=>x=[]) ho (by simpa using he) (List.Perm.refl _) (fun tm _ E=>⟨rfl,xpq rfl,fun C h s=>.inl (by
  unfold Exv
  simp only [execOp,xfq E hx trivial,xfq E hy trivial]
  refine xbq ?_
  unfold Instr.storeAt
  refine xbq (xcq ?_)
  unfold storeVar
  refine xbq (xtq sz.h ?_)
  rw [if_neg (by simpa using hv)]
  have s0:St X.h₀ X.B₀ p h ((b,.cells cs.toArray T' (0,0))::(LR.flatten++C)):=s.perm (xeg mm)
  refine xez (i:=0) s0 rfl (by simpa using hlen) (fun u hu=>List.all_eq_true.1 h1 u hu) fun h' s'=>?_
  refine xcq ⟨_,.inr ⟨rfl,rfl⟩,[],rfl,?_⟩
  rw [Nat.add_zero,hs] at s'
  exact s'.perm (xeg mm).symm)⟩) fun v x e=>by subst e;exact n.run⟩
end
theorem xsd {P : Program} {dd : Nat} {xs : Array Value} : ∀ {fs : List Field}, (∀ f ∈ fs, f.name ≠ "_" /\ P.underlying f.type = some (.int .i64) /\ aggT P f.type = some false /\ ∃ n, xs[f.offset]? = some (.int .i64 n)) -> EqOk P (dd + 1) xs xs fs true
  | [],_=>rfl
  | f::fs,h=>by
    obtain ⟨h1,h2,h3,n,h4⟩:=h f (by simp)
    refine ⟨h1,_,_,true,fun h K k=>xbj h3 h4 k,fun h K k=>xbj h3 h4 k,fun h K k=>xpw h2 (by simpa using k),.inr ⟨rfl,xsd fun f hf=>h f (List.mem_cons_of_mem _ hf)⟩⟩
theorem New.of {h h':Heap} (k:Keep h h'):New h h' []:=⟨k,by simp,by simp⟩
end Go.X
namespace Go.X
open Go.Conc
theorem yfw {P:Program} {md:Md} {f:FuncId} {fn:Func} {c:Code} {args:List Value} {R:Value->Heap->Prop} {h:Heap} {p:PHeap} (hp:Per p h) (hf:P.funcs[f]?=some fn) (x:RE ⟨P,md,f,.none,fn.ntmps,[],[],StopE P R,h,[]⟩ [.code c] (envOf 0 args) p [])
  (hb:fn.body=some c:=by rfl) (hn:Nat.ble args.length fn.ntmps=true:=by rfl):EntersX P md f args.toArray h R:=
 xqs (Φ:=fun h'=>St h [] p h' []) hf hb rfl (fun _=>x.run _ (by have:=Nat.le_of_ble_eq_true hn;simp;omega) fun i g v hl=>by
  obtain ⟨rfl,m,rfl,hm⟩:=xob hl
  rw [Nat.zero_add,List.getElem?_append_left (by simpa using (List.getElem?_eq_some_iff.1 hm).1)]
  simpa [cv] using hm) (St.start h p hp)
theorem xw8 {P:Program} {md:Md} {f:FuncId} {nn:Nat} {h₀:Heap} {B₀:List Nat} {fn:Func} {t:Tmp} {v:Value} {R:Value->Heap->Prop} {k:List Item} {l:Env} {p:PHeap} {LL:List Pcs} (hi:P.inits.idxOf? f=none) (hf:P.funcs[f]?=some fn) (hr:fn.results=#[.tmp t]) (hv:resv l [.tmp t]=some [v])
  (x: ∀ h,St h₀ B₀ p h LL.flatten->R v h):RE ⟨P,md,f,.none,nn,[],[],StopE P R,h₀,B₀⟩ (.code .ret::k) l p LL:=
 ⟨fun _ _ E=>ylf hi hf hr (fun _ _=>xyt E hv) rfl x⟩
end Go.X
namespace Go.X
open Go.Conc
section
variable {X:Cx} {k:List Item} {ops:List Oper} {m:Ks} {l:Env} {p:PHeap} {LF LL:List Pcs} {effs todo:List Nat} {d:Option Tmp} {ty:TypeId} {pos:String} {aft:Array Edge} {x y:Operand} {i:Nat} {T T':TypeId}
theorem ybn {k1:IntKind} {c:Int} {u:Nat} (b:Nat) (ho:ops[i]?=some ⟨d,.binOp .rem T x y T',ty,pos,aft,none⟩) (hx:evS l x=some ([],.int k1 ((u:Nat):Int))) (hy:evS l y=some ([],.int k1 c)) (hc:c=((b:Nat):Int)) (hb:0<b)
  (n:DE X k ops m p LF effs todo (ent d none (.int k1 ((u % b:Nat):Int)) l) LL):DE X k ops m p LF effs (i::todo) l LL:=by
 subst hc
 exact xpz (g:=none) ho rfl rfl (fun _ _ _ E _=>yuq (xfq E hx trivial) (xfq E hy trivial) (by omega) rfl) n
end
end Go.X
