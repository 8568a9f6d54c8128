/-
  Part of proofs about a town's master: a calculus for Be beside goroutines that are only leaving, and the Be. No condition.
-/
import Derived.Test.YtblcmdjhidhnjaaGreatDoorGB1
namespace Go.X
open Go.Conc
structure Kr(P:Program)(md:Md)(f:FuncId)(fn:Func)(zq:Frame)(cs:List Frame)(Stop:Goroutine->Heap->Prop)(R:Value->Heap->Prop):Prop where
 hf:P.funcs[f]?=some fn
 k:∀v h',R v h'->Reach P md (G (zq.finish v) cs) h' Stop
section
variable{P:Program}{md:Md}{f:FuncId}{fn:Func}{c:Code}{args:List Value}{R:Value->Heap->Prop}{h:Heap}{p:Ab}{L:Frame->List Frame->(Goroutine->Heap->Prop)->Prop}
theorem xex(H:Per p h)(hf:P.funcs[f]?=some fn)(x:∀(zq:Frame)(cs:List Frame)(Stop:Goroutine->Heap->Prop),Kr P md f fn zq cs Stop R->RE ⟨P,md,f,.none,fn.ntmps,[],zq::cs,Stop,h,[]⟩ [.code c] (Gn 0 args) p [])
 (M:fn.body=some c:=by rfl)(hn:Nat.ble args.length fn.ntmps=true:=by rfl):Aa P md f args.toArray h R:=
 xfz H hf (fun zq cs Stop K=>x zq cs Stop ⟨hf,K⟩) M hn
theorem xdq(H:Per p h)(hf:P.funcs[f]?=some fn)(x:∀(zq:Frame)(cs:List Frame)(Stop:Goroutine->Heap->Prop),Kr P md f fn zq cs Stop R->L zq cs Stop)
 (M:fn.body=some c:=by rfl)(hn:Nat.ble args.length fn.ntmps=true:=by rfl)(y:∀(zq:Frame)(cs:List Frame)(Stop:Goroutine->Heap->Prop),Hid (L zq cs Stop)->RE ⟨P,md,f,.none,fn.ntmps,[],zq::cs,Stop,h,[]⟩ [.code c] (Gn 0 args) p []:=by intro zq cs Stop k;refine ax ?_;exact k.out):Aa P md f args.toArray h R:=
 xex H hf (fun zq cs Stop K=>y zq cs Stop ⟨x zq cs Stop K⟩) M hn
end
section
variable{P:Program}{md:Md}{f:FuncId}{fn:Func}{zq:Frame}{cs:List Frame}{Stop:Goroutine->Heap->Prop}{R:Value->Heap->Prop}{nn:Nat}{z9:Heap}{zz:List Nat}{rs:List ResultVar}{vs:List Value}{k:List Item}{l:Env}{p:Ab}{LL:List Pcs}
theorem Kr.r(K:Kr P md f fn zq cs Stop R)(H:fn.results=rs.toArray)(hv:N8 l rs=some vs)(x:∀h,St z9 zz p h LL.flatten->R (Fq vs) h):RE ⟨P,md,f,.none,nn,[],zq::cs,Stop,z9,zz⟩ (.code .ret::k) l p LL:=
 xxq K.hf H hv fun h s=>K.k _ _ (x h s)
theorem Kr.e(K:Kr P md f fn zq cs Stop R)(H:fn.results=rs.toArray)(hv:Ef P l LL rs vs)(x:∀h,St z9 zz p h LL.flatten->R (Fq vs) h):RE ⟨P,md,f,.none,nn,[],zq::cs,Stop,z9,zz⟩ (.code .ret::k) l p LL:=
 xgz K.hf H hv fun h s=>K.k _ _ (x h s)
end
theorem bq{Q:Prop}{K:Nat->Prop}(k:∀b,K b)(h:Hid (∀b,K b)->Q:=by intro k;refine ax ?_;exact xgq rfl k.out):Q:=h ⟨k⟩
theorem lq{Q:Prop}{K:Nat->Prop}(k:∀b,K b)(h:Hid (∀b,K b)->Q:=by intro k;refine ax ?_;exact xyq k.out):Q:=h ⟨k⟩
theorem cq{Q q r K L:Prop}(k1:q->K)(k2:r->L)(h:Hid (q->K)->Hid (r->L)->Q:=by intro k1 k2;refine ax ?_;exact xlq rfl k1.out k2.out):Q:=h ⟨k1⟩ ⟨k2⟩
end Go.X
