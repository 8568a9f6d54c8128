/-
  Part of proofs about a town's master: a calculus for walks beside goroutines that are only leaving, and the walks. No condition.
-/
import Derived.Test.YtjcakmlipohaeaaGreatDoorGB1
namespace Go.X
open Go.Conc
structure Kr(P:Program)(md:Md)(f:FuncId)(fn:Func)(c₀:Frame)(cs:List Frame)(Stop:Goroutine->Heap->Prop)(R:Value->Heap->Prop):Prop where
 hf:P.funcs[f]?=some fn
 k:∀v h',R v h'->Reach P md (G (c₀.finish v) cs) h' Stop
section
variable{P:Program}{md:Md}{f:FuncId}{fn:Func}{c:Code}{args:List Value}{R:Value->Heap->Prop}{h:Heap}{p:PHeap}{L:Frame->List Frame->(Goroutine->Heap->Prop)->Prop}
theorem xax(hp:Per p h)(hf:P.funcs[f]?=some fn)(x:∀(c₀:Frame)(cs:List Frame)(Stop:Goroutine->Heap->Prop),Kr P md f fn c₀ cs Stop R->RE ⟨P,md,f,.none,fn.ntmps,[],c₀::cs,Stop,h,[]⟩ [.code c] (envOf 0 args) p [])
 (hb:fn.body=some c:=by rfl)(hn:Nat.ble args.length fn.ntmps=true:=by rfl):CallsX P md f args.toArray h R:=
 xez hp hf (fun c₀ cs Stop K=>x c₀ cs Stop ⟨hf,K⟩) hb hn
theorem xfq(hp:Per p h)(hf:P.funcs[f]?=some fn)(x:∀(c₀:Frame)(cs:List Frame)(Stop:Goroutine->Heap->Prop),Kr P md f fn c₀ cs Stop R->L c₀ cs Stop)
 (hb:fn.body=some c:=by rfl)(hn:Nat.ble args.length fn.ntmps=true:=by rfl)(y:∀(c₀:Frame)(cs:List Frame)(Stop:Goroutine->Heap->Prop),Hid (L c₀ cs Stop)->RE ⟨P,md,f,.none,fn.ntmps,[],c₀::cs,Stop,h,[]⟩ [.code c] (envOf 0 args) p []:=by intro c₀ cs Stop k;refine ax ?_;exact k.out):CallsX P md f args.toArray h R:=
 xax hp hf (fun c₀ cs Stop K=>y c₀ cs Stop ⟨x c₀ cs Stop K⟩) hb hn
end
section
variable{P:Program}{md:Md}{f:FuncId}{fn:Func}{c₀:Frame}{cs:List Frame}{Stop:Goroutine->Heap->Prop}{R:Value->Heap->Prop}{nn:Nat}{h₀:Heap}{B₀:List Nat}{rs:List ResultVar}{vs:List Value}{k:List Item}{l:Env}{p:PHeap}{LL:List Pcs}
theorem Kr.r(K:Kr P md f fn c₀ cs Stop R)(hr:fn.results=rs.toArray)(hv:resv l rs=some vs)(x:∀h,St h₀ B₀ p h LL.flatten->R (packs vs) h):RE ⟨P,md,f,.none,nn,[],c₀::cs,Stop,h₀,B₀⟩ (.code .ret::k) l p LL:=
 xqq K.hf hr hv fun h s=>K.k _ _ (x h s)
theorem Kr.e(K:Kr P md f fn c₀ cs Stop R)(hr:fn.results=rs.toArray)(hv:ResE P l LL rs vs)(x:∀h,St h₀ B₀ p h LL.flatten->R (packs vs) h):RE ⟨P,md,f,.none,nn,[],c₀::cs,Stop,h₀,B₀⟩ (.code .ret::k) l p LL:=
 xnz K.hf hr hv fun h s=>K.k _ _ (x h s)
end
theorem bq{Q:Prop}{K:Nat->Prop}(k:∀b,K b)(h:Hid (∀b,K b)->Q:=by intro k;refine ax ?_;exact xjq rfl k.out):Q:=h ⟨k⟩
theorem lq{Q:Prop}{K:Nat->Prop}(k:∀b,K b)(h:Hid (∀b,K b)->Q:=by intro k;refine ax ?_;exact xtq k.out):Q:=h ⟨k⟩
theorem cq{Q q r K L:Prop}(k1:q->K)(k2:r->L)(h:Hid (q->K)->Hid (r->L)->Q:=by intro k1 k2;refine ax ?_;exact xiq rfl k1.out k2.out):Q:=h ⟨k1⟩ ⟨k2⟩
end Go.X
