/-
  Part of proofs about a town's master: a calculus for Bc beside goroutines that are only leaving, and the Bc. No condition.
-/
import Derived.Test.YtofhlcococeifaaGreatDoorYB
set_option maxHeartbeats 1600000
namespace Go.X
open Go.Conc
variable{l:Env}{zq:Frame}{fn:Func}{f:FuncId}{h:Heap}{cs:List Frame}{zz:List Nat}{ops:List Oper}{rs:List ResultVar}{args vs:List Value}{md:Md}{K:Nat->Prop}{p:Ab}{P:Program}{A Q:Prop}{v:Value}{R:Value->Heap->Prop}{S:Value->Ab->Prop}{T:Value->Pcs->Prop}
structure Kr(P:Program)(md:Md)(f:FuncId)(fn:Func)(zq:Frame)(cs:List Frame)(Stop:Goroutine->Heap->Prop)(R:Value->Heap->Prop):Prop where
 hf:P.funcs[f]?=some fn
 k:∀v h',R v h'->Reach P md (G (zq.finish v) cs) h' Stop
section
variable{c:Code}{L:Frame->List Frame->(Goroutine->Heap->Prop)->Prop}
theorem xcp(M:Per p h)(hf:P.funcs[f]?=some fn)(x:∀(zq:Frame)(cs:List Frame)(Stop:Goroutine->Heap->Prop),Kr P md f fn zq cs Stop R->RE ⟨P,md,f,.none,fn.ntmps,[],zq::cs,Stop,h,[]⟩ [.code c] (Fb 0 args) p [])
 (H:fn.body=some c:=by rfl)(hn:Nat.ble args.length fn.ntmps=true:=by rfl):Ac P md f args.toArray h R:=
 xhz M hf (fun zq cs Stop K=>x zq cs Stop ⟨hf,K⟩) H hn
theorem yy9(M:Per p h)(hf:P.funcs[f]?=some fn)(x:∀(zq:Frame)(cs:List Frame)(Stop:Goroutine->Heap->Prop),Kr P md f fn zq cs Stop R->L zq cs Stop)
 (H:fn.body=some c:=by rfl)(hn:Nat.ble args.length fn.ntmps=true:=by rfl)(y:∀(zq:Frame)(cs:List Frame)(Stop:Goroutine->Heap->Prop),Hid (L zq cs Stop)->RE ⟨P,md,f,.none,fn.ntmps,[],zq::cs,Stop,h,[]⟩ [.code c] (Fb 0 args) p []:=by intro zq cs Stop k;refine ax ?_;exact k.out):Ac P md f args.toArray h R:=
 xcp M hf (fun zq cs Stop K=>y zq cs Stop ⟨x zq cs Stop K⟩) H hn
end
section
variable{Stop:Goroutine->Heap->Prop}{nn:Nat}{z9:Heap}{k:List Item}{LL:List Pcs}
theorem Kr.r(K:Kr P md f fn zq cs Stop R)(H:fn.results=rs.toArray)(hv:On l rs=some vs)(x:∀h,St z9 zz p h LL.flatten->R (F9 vs) h):RE ⟨P,md,f,.none,nn,[],zq::cs,Stop,z9,zz⟩ (.code .ret::k) l p LL:=
 xsq K.hf H hv fun h s=>K.k _ _ (x h s)
theorem Kr.e(K:Kr P md f fn zq cs Stop R)(H:fn.results=rs.toArray)(hv:Ey P l LL rs vs)(x:∀h,St z9 zz p h LL.flatten->R (F9 vs) h):RE ⟨P,md,f,.none,nn,[],zq::cs,Stop,z9,zz⟩ (.code .ret::k) l p LL:=
 xez K.hf H hv fun h s=>K.k _ _ (x h s)
end
theorem bq(k:∀b,K b)(h:Hid (∀b,K b)->Q:=by intro k;refine ax ?_;exact yqz rfl k.out):Q:=h ⟨k⟩
theorem lq(k:∀b,K b)(h:Hid (∀b,K b)->Q:=by intro k;refine ax ?_;exact xfx k.out):Q:=h ⟨k⟩
theorem cq{q r K L:Prop}(k1:q->K)(k2:r->L)(h:Hid (q->K)->Hid (r->L)->Q:=by intro k1 k2;refine ax ?_;exact xcx rfl k1.out k2.out):Q:=h ⟨k1⟩ ⟨k2⟩
section
variable{c:Code}{L:Frame->List Frame->(Goroutine->Heap->Prop)->Prop}{L2:Frame->List Frame->(Goroutine->Heap->Prop)->Nat->Prop}
theorem xaz(M:Per p h)(hf:P.funcs[f]?=some fn)(x:∀{zq:Frame}{cs:List Frame}{Stop:Goroutine->Heap->Prop},Kr P md f fn zq cs Stop R->L zq cs Stop)
 (H:fn.body=some c:=by rfl)(hn:Nat.ble args.length fn.ntmps=true:=by rfl)(y:∀(zq:Frame)(cs:List Frame)(Stop:Goroutine->Heap->Prop),Hid (L zq cs Stop)->RE ⟨P,md,f,.none,fn.ntmps,[],zq::cs,Stop,h,[]⟩ [.code c] (Fb 0 args) p []:=by intro zq cs Stop k;refine ax ?_;exact k.out):Ac P md f args.toArray h R:=
 xcp M hf (fun zq cs Stop K=>y zq cs Stop ⟨x K⟩) H hn
theorem xtq(M:Per p h)(hf:P.funcs[f]?=some fn)(x:∀{zq:Frame}{cs:List Frame}{Stop:Goroutine->Heap->Prop},Kr P md f fn zq cs Stop R-> ∀b,L2 zq cs Stop b)
 (H:fn.body=some c:=by rfl)(hn:Nat.ble args.length fn.ntmps=true:=by rfl)(y:∀(zq:Frame)(cs:List Frame)(Stop:Goroutine->Heap->Prop),Hid (∀b,L2 zq cs Stop b)->RE ⟨P,md,f,.none,fn.ntmps,[],zq::cs,Stop,h,[]⟩ [.code c] (Fb 0 args) p []:=by intro zq cs Stop k;refine ax ?_;exact yqz rfl k.out):Ac P md f args.toArray h R:=
 xcp M hf (fun zq cs Stop K=>y zq cs Stop ⟨x K⟩) H hn
theorem xlq{R:Heap->Value->Heap->Prop}{L:Heap->Frame->List Frame->(Goroutine->Heap->Prop)->Prop}(hf:P.funcs[f]?=some fn)(x:∀{h:Heap}{zq:Frame}{cs:List Frame}{Stop:Goroutine->Heap->Prop},Kr P md f fn zq cs Stop (R h)->L h zq cs Stop)
 (M:fn.body=some c:=by rfl)(hn:Nat.ble args.length fn.ntmps=true:=by rfl)(y:∀(h:Heap)(zq:Frame)(cs:List Frame)(Stop:Goroutine->Heap->Prop),Hid (L h zq cs Stop)->RE ⟨P,md,f,.none,fn.ntmps,[],zq::cs,Stop,h,[]⟩ [.code c] (Fb 0 args) p []:=by intro h zq cs Stop k;refine ax ?_;exact k.out):∀h,Per p h->Ac P md f args.toArray h (R h):=
 fun h H=>xcp H hf (fun zq cs Stop K=>y h zq cs Stop ⟨x K⟩) M hn
theorem xkq{R:Heap->Value->Heap->Prop}{L:Heap->Frame->List Frame->(Goroutine->Heap->Prop)->Nat->Prop}(hf:P.funcs[f]?=some fn)(x:∀{h:Heap}{zq:Frame}{cs:List Frame}{Stop:Goroutine->Heap->Prop},Kr P md f fn zq cs Stop (R h)-> ∀b,L h zq cs Stop b)
 (H:fn.body=some c:=by rfl)(hn:Nat.ble args.length fn.ntmps=true:=by rfl)(y:∀(h:Heap)(zq:Frame)(cs:List Frame)(Stop:Goroutine->Heap->Prop),Hid (∀b,L h zq cs Stop b)->RE ⟨P,md,f,.none,fn.ntmps,[],zq::cs,Stop,h,[]⟩ [.code c] (Fb 0 args) p []:=by intro h zq cs Stop k;refine ax ?_;exact yqz rfl k.out):∀h,Per p h->Ac P md f args.toArray h (R h):=
 fun h M=>xcp M hf (fun zq cs Stop K=>y h zq cs Stop ⟨x K⟩) H hn
variable{Stop:Goroutine->Heap->Prop}
theorem Kr.q(K:Kr P md f fn zq cs Stop R)(a:A)(h:Kr P md f fn zq cs Stop R->Hid A->Q:=by intro K a;refine ax ?_;exact K.r rfl rfl fun _ H=>⟨a.out,H.kept⟩):Q:=h K ⟨a⟩
end
section
variable{Q K A:Prop}{P:Program}{md:Md}{p:Ab}{f:FuncId}{args:Array Value}{v:Value}{R:Value->Prop}{S:Value->Ab->Prop}{T:Value->Pcs->Prop}
theorem xa(k:K)(h:Hid K->Q:=by intro k;refine ex ?_;refine ax ?_;exact k.out):Q:=h ⟨k⟩
theorem bkq(k:K)(h:Hid K->Q:=by intro k;refine ax ?_;exact yot k.out):Q:=h ⟨k⟩
theorem lpq(a:A)(k:K)(h:Hid A->Hid K->Q:=by intro a k;refine ax ?_;exact ro_y rfl (y_lp rfl a.out) k.out):Q:=h ⟨a⟩ ⟨k⟩
abbrev Dc(P:Program)(md:Md)(p:Ab)(f:FuncId)(args:Array Value)(v:Value):Prop:=∀h,Per p h->Ac P md f args h fun v' H=>v'=v/\Av h H
abbrev Kc(P:Program)(md:Md)(p:Ab)(f:FuncId)(args:Array Value)(R:Value->Prop):Prop:=∀h,Per p h->Ac P md f args h fun v H=>R v/\Av h H
abbrev Lc(P:Program)(md:Md)(p:Ab)(f:FuncId)(args:Array Value)(S:Value->Ab->Prop):Prop:=∀h,Per p h->Ac P md f args h (Cn p h S)
abbrev Nc(P:Program)(md:Md)(p:Ab)(f:FuncId)(args:Array Value)(T:Value->Pcs->Prop):Prop:=∀h,Per p h->Ac P md f args h fun v H=>∃Y,T v Y/\New h H Y
theorem cdq(c:Dc P md p f args v)(k:K)(h:Hid (Dc P md p f args v)->Hid K->Q:=by intro c k;refine ax ?_;exact xpx rfl rfl c.out k.out):Q:=h ⟨c⟩ ⟨k⟩
theorem cgq{e:Bool}(d:e=true->Dc P md p f args v)(k:K)(h:Hid (e=true->Dc P md p f args v)->Hid K->Q:=by intro c k;refine ax ?_;exact xqz rfl rfl rfl sdu c.out k.out):Q:=h ⟨d⟩ ⟨k⟩
theorem cpq(c:Lc P md p f args S)(k:K)(h:Hid (Lc P md p f args S)->Hid K->Q:=by intro c k;refine ax ?_;exact xqk rfl rfl c.out k.out):Q:=h ⟨c⟩ ⟨k⟩
theorem ckq(c:Kc P md p f args R)(k:K)(h:Hid (Kc P md p f args R)->Hid K->Q:=by intro c k;refine ax ?_;exact xzg rfl rfl c.out k.out):Q:=h ⟨c⟩ ⟨k⟩
theorem coq(c:Nc P md p f args T)(k:K)(h:Hid (Nc P md p f args T)->Hid K->Q:=by intro c k;refine ax ?_;exact xjb rfl rfl c.out k.out):Q:=h ⟨c⟩ ⟨k⟩
theorem det(h:Q:=by refine ex ?_;exact xuq ⟨⟨_,rfl⟩,fun v e=>⟨xmq e,rfl⟩⟩):Q:=h
structure Pt(a:List Nat):Prop
theorem ynt{X:Cx}{k:List Item}{LL:List Pcs}{id:Nat}{M H:List Nat}(_:Pt M)(_:Pt H)(D:DE X k ops (.drop H.length) p LL M H l [])(a2:X.P.follows .mixedOrders=true:=by kernel_rfl)(ok:okD X.n ops=true:=by rfl)
 (a4:Bo ops H.length (clo ops)=true:=by kernel_rfl)(hm:Nat.ble H.length ops.length=true:=by kernel_rfl)(V:Ef ops (clo ops) M [] H=true:=by kernel_rfl)(O:((List.range H.length).all fun i=>H.contains i)=true:=by kernel_rfl)(a3:(H.all fun i=>Nat.blt i H.length)=true:=by kernel_rfl):
 RE X (.code (.region id ops.toArray true)::k) l p LL:=xrs M H D a2 ok a4 hm V O a3
theorem drq(a b:List Nat)(k:K)(h:Pt a->Pt b->Hid K->Q:=by intro a b k;refine ax ?_;refine ynt a b ?_;refine ex ?_;exact k.out):Q:=h ⟨⟩ ⟨⟩ ⟨k⟩
end
end Go.X
