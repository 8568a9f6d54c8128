/-
  Part of proofs about a town's master: a calculus for Be beside goroutines that are only leaving, and the Be. No condition.
-/
import Derived.Test.YtblcmdjhidhnjaaGreatDoorGO
import Derived.Conc.Beside
import Derived.IntWalk
import Derived.Orders
import Derived.Laws.StructEq
import Derived.Lib.ConvBytes
import Derived.Calls
import Derived.Carry
namespace Go.X
open Go.Conc
abbrev Heap:=Array Obj
def cell?(h:Heap)(a:Addr):Option Value:=
 match h[a.block]? with
 |some (.cells c _ _)=>if a.spot.isSome then none else c[a.off]?
 |_=>none
def frozenAt(h:Heap)(a:Addr):Bool:=
 match h[a.block]? with
 |some (.cells _ _ (lo,hi))=>lo<=a.off&&a.off<hi
 |_=>false
def setCell(h:Heap)(a:Addr)(v:Value):Heap:=
 h.modify a.block fun
  |.cells c H frozen=>.cells (if a.spot.isSome then c else c.setIfInBounds a.off v) H frozen
  |o=>o
def Bz(h:Heap)(a:Addr)(n:Nat):Heap:=
 if n=0 then h else
 h.modify a.block fun
  |.cells c H (lo,hi)=>.cells c H (if lo==hi then(a.off,a.off+n)else(min lo a.off,max hi (a.off+n)))
  |o=>o
def A7:Value->Bool
 |.agg _=>false
 |.tuple _=>false
 |_=>true
def seenAt(h:Heap)(a:Addr):Prop:=∃c e f,h[a.block]?=some (.cells c e f)/\0<c.size
def Nu(h:Heap)(a:Addr):Prop:=((cell? h a).isSome=true/\frozenAt h a=false)\/ ∃c e,h[a.block]?=some (.cells c e (0,0))/\0<c.size
def Ho:Mark->Bool
 |.extern _=>true
 |.noRoom=>true
 |_=>false
def wpS{α:Type}(P:Program):Sem α->Heap->(α->Heap->Prop)->Prop
 |.pure a,h,K=>K a h
 |.load m a k,h,K=>m=.plain/\ ∃v,cell? h a=some v/\wpS P (k v) h K
 |.store m a v k,h,K=>m=.plain/\A7 v=true/\(∃u,cell? h a=some u)/\frozenAt h a=false/\wpS P k (setCell h a v) K
 |.new o k,h,K=>wpS P (k h.size) (h.push o) K
 |.shape r k,h,K=>match h[r]? with
   |some (.cells c e _)=>0<c.size/\wpS P (k (some (e,c.size))) h K
   |_=>wpS P (k none) h K
 |.freeze a n k,h,K=>(∃c e f,h[a.block]?=some (.cells c e f)/\0<c.size/\f≠(0,c.size))/\wpS P k (Bz h a n) K
 |.frozen a k,h,K=>seenAt h a/\(Nu h a->wpS P (k false) h K)/\(¬ Nu h a-> ∀b,wpS P (k b) h K)
 |.getObj r k,h,K=>match h[r]? with
   |some (.cells ..)=>False
   |some o=>o.isChan=false/\wpS P (k o) h K
   |none=>False
 |.setObj r o k,h,K=>match h[r]? with
   |some (.cells ..)=>False
   |some o'=>o'.isChan=false/\o.isChan=false/\wpS P k (h.setIfInBounds r o) K
   |none=>False
 |.choose q k,h,K=>if q.forced then wpS P (k 0) h K else ∀t,wpS P (k (q.cut t)) h K
 |.sys _ _,_,_=>False
 |.program k,h,K=>wpS P (k P) h K
 |.mark m k,h,K=>Ho m=true/\wpS P k h K
 |.halt _,_,_=>False
section
variable{α β:Type}{P:Program}
theorem xix{s:Sem α}:∀{h:Heap}{K H:α->Heap->Prop},wpS P s h K->(∀a h,K a h->H a h)->wpS P s h H:=by
 induction s with
 |pure a=>exact fun x y=>y _ _ x
 |load m a k ih=>exact fun⟨x,v,y,z⟩q=>⟨x,v,y,ih v z q⟩
 |store m a v k ih=>exact fun⟨x,o,y,z,t⟩q=>⟨x,o,y,z,ih t q⟩
 |new o k ih=>exact fun x q=>ih _ x q
 |shape r k ih=>
   intro h K H x q;unfold wpS at x⊢;split at x
   ·exact⟨x.1,ih _ x.2 q⟩
   ·exact ih _ x q
 |freeze a n k ih=>exact fun x q=>⟨x.1,ih x.2 q⟩
 |frozen a k ih=>exact fun x q=>⟨x.1,fun e=>ih _ (x.2.1 e) q,fun e b=>ih _ (x.2.2 e b) q⟩
 |getObj r k ih=>
   intro h K H x q;unfold wpS at x⊢;split at x
   ·exact x
   ·exact⟨x.1,ih _ x.2 q⟩
   ·exact x
 |setObj r o k ih=>
   intro h K H x q;unfold wpS at x⊢;split at x
   ·exact x
   ·exact⟨x.1,x.2.1,ih x.2.2 q⟩
   ·exact x
 |choose qn k ih=>
   intro h K H x q;unfold wpS at x⊢;split at x
   ·rename_i hf;rw[if_pos hf];exact ih _ x q
   ·rename_i hf;rw[if_neg hf];exact fun t=>ih _ (x t) q
 |sys c k ih=>exact fun x _=>x.elim
 |program k ih=>exact fun x q=>ih _ x q
 |mark m k ih=>exact fun⟨x,y⟩q=>⟨x,ih y q⟩
 |halt h=>exact fun x _=>x.elim
theorem xhd{s:Sem α}{f:α->Sem β}:∀{h:Heap}{K:β->Heap->Prop},wpS P s h (fun a h'=>wpS P (f a) h' K)->wpS P (s.bind f) h K:=by
 induction s with
 |pure a=>exact id
 |load m a k ih=>exact fun⟨x,v,y,z⟩=>⟨x,v,y,ih v z⟩
 |store m a v k ih=>exact fun⟨x,o,y,z,t⟩=>⟨x,o,y,z,ih t⟩
 |new o k ih=>exact fun x=>ih _ x
 |shape r k ih=>
   intro h K x;unfold Sem.bind;unfold wpS at x⊢;split at x
   ·exact⟨x.1,ih _ x.2⟩
   ·exact ih _ x
 |freeze a n k ih=>exact fun x=>⟨x.1,ih x.2⟩
 |frozen a k ih=>exact fun x=>⟨x.1,fun e=>ih _ (x.2.1 e),fun e b=>ih _ (x.2.2 e b)⟩
 |getObj r k ih=>
   intro h K x;unfold Sem.bind;unfold wpS at x⊢;split at x
   ·exact x
   ·exact⟨x.1,ih _ x.2⟩
   ·exact x
 |setObj r o k ih=>
   intro h K x;unfold Sem.bind;unfold wpS at x⊢;split at x
   ·exact x
   ·exact⟨x.1,x.2.1,ih x.2.2⟩
   ·exact x
 |choose qn k ih=>
   intro h K x;unfold Sem.bind;unfold wpS at x⊢;split at x
   ·rename_i hf;rw[if_pos hf];exact ih _ x
   ·rename_i hf;rw[if_neg hf];exact fun t=>ih _ (x t)
 |sys c k ih=>exact fun x=>x.elim
 |program k ih=>exact fun x=>ih _ x
 |mark m k ih=>exact fun⟨x,y⟩=>⟨x,ih y⟩
 |halt h=>exact fun x=>x.elim
theorem xbq{s:Sem α}{f:α->Sem β}{h:Heap}{K:β->Heap->Prop}(x:wpS P s h (fun a h'=>wpS P (f a) h' K)):wpS P (s >>= f) h K:=xhd x
theorem xcq{a:α}{h:Heap}{K:α->Heap->Prop}(x:K a h):wpS P (pure a) h K:=x
structure Vw where
 dead:Nat->Prop
 still:Nat->Prop
def Vw.of(S:Nat->Prop):Vw:=⟨S,fun _=>False⟩
structure Cd(S:Vw)(h r:Heap):Prop where
 size:h.size=r.size
 same:∀b,¬ S.dead b-> ¬ S.still b->h[b]?=r[b]?
 H0:∀b,S.dead b->h[b]?=some (.cells #[] 0 (0,0))
 frz:∀b,S.still b-> ∃c e f,r[b]?=some (.cells c e f)/\h[b]?=some (.cells c e (0,c.size))
theorem Cd.refl(h:Heap):Cd (.of fun _=>False) h h:=⟨rfl,fun _ _ _=>rfl,fun _ x=>x.elim,fun _ x=>x.elim⟩
variable{S:Vw}{h r:Heap}
theorem Cd.cell(V:Cd S h r){a:Addr}{v:Value}(x:cell? h a=some v):cell? r a=some v/\ ¬ S.dead a.block:=by
 by_cases hs:S.dead a.block
 ·have hb:=V.H0 _ hs;unfold cell? at x;rw[hb]at x;simp at x
 ·refine⟨?_,hs⟩;by_cases H:S.still a.block
  ·obtain⟨c,e,f,M,O⟩:=V.frz _ H;unfold cell? at x⊢;rw[O]at x;rw[M];exact x
  ·unfold cell? at x⊢;rw[<- V.same _ hs H];exact x
theorem ytj{a:Addr}{v:Value}(x:cell? h a=some v):a.block<h.size:=by
 unfold cell? at x;split at x
 ·rename_i c e f H;exact(Array.getElem?_eq_some_iff.1 H).1
 ·cases x
theorem Cd.seen(V:Cd S h r){a:Addr}(x:seenAt h a):¬ S.dead a.block:=by
 intro hs;obtain⟨c,e,f,H,hc⟩:=x;rw[V.H0 _ hs]at H;cases H;simp at hc
theorem Cd.frozen(V:Cd S h r){a:Addr}(hs:¬ S.dead a.block)(H:¬ S.still a.block):frozenAt h a=frozenAt r a:=by
 unfold frozenAt;rw[V.same _ hs H]
theorem Cd.thaw(V:Cd S h r){a:Addr}{v:Value}(x:cell? h a=some v)(hf:frozenAt h a=false):¬ S.still a.block:=by
 intro H;obtain⟨c,e,f,O,M⟩:=V.frz _ H;unfold cell? at x;unfold frozenAt at hf;rw[M]at x hf;simp only at x hf;split at x
 ·cases x
 ·have:=(Array.getElem?_eq_some_iff.1 x).1;simp at hf;omega
theorem getElem?_modify'(h:Heap)(i j:Nat)(f:Obj->Obj):(h.modify i f)[j]?=if i=j then h[j]?.map f else h[j]?:=by
 rw[Array.getElem?_modify]
theorem Cd.modify(V:Cd S h r){i:Nat}(f:Obj->Obj)(hs:¬ S.dead i)(ht:¬ S.still i):Cd S (h.modify i f) (r.modify i f):=by
 refine⟨by simp[V.size],fun b M O=>?_,fun b M=>?_,fun b M=>?_⟩
 ·rw[getElem?_modify',getElem?_modify',V.same _ M O]
 ·have H:i≠b:=fun e=>hs (e ▸ M);rw[getElem?_modify',if_neg H];exact V.H0 _ M
 ·have H:i≠b:=fun e=>ht (e ▸ M);rw[getElem?_modify',if_neg H,getElem?_modify',if_neg H];exact V.frz _ M
theorem Cd.setCell(V:Cd S h r){a:Addr}(v:Value)(hs:¬ S.dead a.block)(H:¬ S.still a.block):Cd S (X.setCell h a v) (X.setCell r a v):=V.modify _ hs H
theorem Cd.freeze(V:Cd S h r){a:Addr}(n:Nat)(hs:¬ S.dead a.block)(H:¬ S.still a.block):Cd S (Bz h a n) (Bz r a n):=by
 unfold Bz;split
 ·exact V
 ·exact V.modify _ hs H
theorem Cd.lt(V:Cd S h r){b:Nat}(H:S.dead b):b<r.size:=by
 rw[<- V.size];exact(Array.getElem?_eq_some_iff.1 (V.H0 _ H)).1
theorem Cd.lts(V:Cd S h r){b:Nat}(M:S.still b):b<r.size:=by
 obtain⟨c,e,f,H,_⟩:=V.frz _ M;exact(Array.getElem?_eq_some_iff.1 H).1
theorem Cd.push(V:Cd S h r)(o:Obj):Cd S (h.push o) (r.push o):=by
 refine⟨by simp[V.size],fun b H M=>?_,fun b H=>?_,fun b H=>?_⟩
 ·rw[Array.getElem?_push,Array.getElem?_push,V.size,V.same _ H M]
 ·have:=V.lt H;rw[Array.getElem?_push,V.size,if_neg om];exact V.H0 _ H
 ·have:=V.lts H;rw[Array.getElem?_push,Array.getElem?_push,V.size,if_neg om,if_neg om];exact V.frz _ H
theorem Cd.setObj(V:Cd S h r){b:Nat}(o:Obj)(hs:¬ S.dead b)(O:¬ S.still b):Cd S (h.setIfInBounds b o) (r.setIfInBounds b o):=by
 refine⟨by simp[V.size],fun c hc M=>?_,fun c hc=>?_,fun c hc=>?_⟩
 ·rw[Array.getElem?_setIfInBounds,Array.getElem?_setIfInBounds,V.size,V.same _ hc M]
 ·have H:b≠c:=fun e=>hs (e ▸ hc);rw[Array.getElem?_setIfInBounds_ne H];exact V.H0 _ hc
 ·have H:b≠c:=fun e=>O (e ▸ hc);rw[Array.getElem?_setIfInBounds_ne H,Array.getElem?_setIfInBounds_ne H];exact V.frz _ hc
theorem Cd.obj(V:Cd S h r){b:Nat}{o:Obj}(hn:∀c e f,o=.cells c e f->False)(H:h[b]?=some o):¬ S.dead b/\ ¬ S.still b:=by
 refine⟨fun hs=>?_,fun M=>?_⟩
 ·rw[V.H0 _ hs]at H;exact hn _ _ _ (Option.some.inj H).symm
 ·obtain⟨c,e,f,_,O⟩:=V.frz _ M;rw[O]at H;exact hn _ _ _ (Option.some.inj H).symm
structure Af(h h':Heap):Prop where
 size:h.size<=h'.size
 Cq:∀b,b<h.size->h'[b]?=h[b]?
theorem Af.refl(h:Heap):Af h h:=⟨Nat.le_refl _,fun _ _=>rfl⟩
theorem Af.trans{a b c:Heap}(x:Af a b)(y:Af b c):Af a c:=⟨Nat.le_trans x.size y.size,fun i hi=>(y.Cq i (Nat.lt_of_lt_of_le hi x.size)).trans (x.Cq i hi)⟩
def Hu(S:Nat->Prop):Loc->Prop:=fun l=>∃a:Addr,l=.cell a/\S a.block
structure Calm(w w':World):Prop where
 os:w'.os=w.os
 tape:w'.tape=w.tape
 output:w'.output=w.output
 size:w.heap.size<=w'.heap.size
theorem Calm.refl(w:World):Calm w w:=⟨rfl,rfl,rfl,Nat.le_refl _⟩
theorem Calm.trans{a b c:World}(x:Calm a b)(y:Calm b c):Calm a c:=
 ⟨y.os.trans x.os,y.tape.trans x.tape,y.output.trans x.output,Nat.le_trans x.size y.size⟩
structure Quiet(S:Vw)(w w':World):Prop where
 calm:Calm w w'
 Fp:∀b,b<w.heap.size->S.dead b\/S.still b->w'.heap[b]?=w.heap[b]?
theorem Quiet.size{S:Vw}{w w':World}(x:Quiet S w w'):w.heap.size<=w'.heap.size:=x.calm.size
theorem Quiet.refl{S:Vw}(w:World):Quiet S w w:=⟨.refl w,fun _ _ _=>rfl⟩
theorem Quiet.trans{S:Vw}{a b c:World}(x:Quiet S a b)(y:Quiet S b c):Quiet S a c:=
 ⟨x.calm.trans y.calm,fun i hi z=>(y.Fp i (Nat.lt_of_lt_of_le hi x.size) z).trans (x.Fp i hi z)⟩
def EvX(S:Vw)(B:Nat)(e:Event):Prop:=
 match e.loc with
 |.cell a=>e.sync=false/\ ¬ S.dead a.block/\a.block<B/\(e.write=true-> ¬ S.still a.block)
 |.obj b=>e.sync=false/\ ¬ S.dead b/\b<B/\ ¬ S.still b
 |.mark m=>Ho m=true
 |_=>False
theorem ysb{S:Vw}{B H:Nat}(M:B<=H){e:Event}(x:EvX S B e):EvX S H e:=by
 unfold EvX at x⊢;split at x
 ·exact⟨x.1,x.2.1,Nat.lt_of_lt_of_le x.2.2.1 M,x.2.2.2⟩
 ·exact⟨x.1,x.2.1,Nat.lt_of_lt_of_le x.2.2.1 M,x.2.2.2⟩
 ·exact x
 ·exact x.elim
theorem yvz{S:Vw}{B:Nat}{e:Event}(x:EvX S B e):EvL (Hu S.dead) B e:=by
 obtain⟨a3,wrZ,sy⟩:=e;unfold EvX at x;split at x
 ·rename_i a ha;simp only at ha x;subst ha;obtain⟨rfl,hs,V,_⟩:=x;refine⟨?_,s_,s_,V⟩;intro y O M;simp[MemAct.ofEvent,MemAct.touch?]at O;subst O;obtain⟨b,H,a2⟩:=M;cases H;exact absurd a2 hs
 ·rename_i b H;simp only at H x;subst H;obtain⟨rfl,hs,V,_⟩:=x;refine⟨?_,s_,s_,by simpa[MemAct.ofEvent,MemAct.low,Loc.low]using V⟩;intro y O M;simp[MemAct.ofEvent,MemAct.touch?]at O;subst O;obtain⟨_,H,_⟩:=M;cases H
 ·rename_i m hm;simp only at hm;subst hm;cases m<;>simp_all[Ho]
  all_goals
   refine⟨?_,s_,s_,trivial⟩;intro x hx;simp[MemAct.ofEvent,MemAct.touch?]at hx
 ·exact x.elim
theorem xt0{h:Heap}{a:Addr}{v:Value}{b:Nat}(H:b≠a.block):(setCell h a v)[b]?=h[b]?:=by
 unfold setCell;rw[getElem?_modify',if_neg (Ne.symm H)]
theorem xe7{h:Heap}{a:Addr}{n b:Nat}(H:b≠a.block):(Bz h a n)[b]?=h[b]?:=by
 unfold Bz;split
 ·rfl
 ·rw[getElem?_modify',if_neg (Ne.symm H)]
theorem xuc(s:Sem α):∀{h:Heap}{K:α->Heap->Prop}{w:World}(O:Array Event),wpS P s h K->Cd S h w.heap->
 ∃a h' w' es,s.runT P w O=(.ok a w',O++es)/\s.run P w=.ok a w'/\K a h'/\Cd S h' w'.heap/\Quiet S w w'/\ ∀e∈es,EvX S w'.heap.size e:=by
 induction s with
 |pure a=>exact fun{h K w}O x V=>⟨a,h,w,#[],by simp[Sem.runT],rfl,x,V,.refl _,s_⟩
 |load m a k ih=>
   intro h K w O ⟨hm,v,hc,x⟩ V;obtain⟨a8,hs⟩:=V.cell hc;have a7:w.cell? a=some v:=a8;obtain⟨y,h',w',es,e1,e2,e3,e4,H,e6⟩:=ih v (O.push ⟨.cell a,false,m==.atomic⟩) x V;subst hm;refine⟨y,h',w',#[⟨.cell a,false,false⟩]++es,?_,?_,e3,e4,H,?_⟩
   ·simp only[Sem.runT,a7,e1,Prod.mk.injEq,true_and];rw[<- Array.append_assoc];congr 1
   ·simp only[Sem.run,a7,e2]
   ·intro e he;rcases Array.mem_append.1 he with he|he
    ·simp at he;subst he;exact⟨rfl,hs,Nat.lt_of_lt_of_le (ytj a8) H.size,fun x=>by cases x⟩
    ·exact e6 e he
 |store m a v k ih=>
   intro h K w O ⟨hm,hv,⟨u,hu⟩,hf,x⟩ V;obtain⟨a9,hs⟩:=V.cell hu;have b3:w.cell? a=some u:=a9;have M:=V.thaw hu hf;have a4:w.frozen? a=false:=(V.frozen hs M).symm.trans hf;have V':Cd S (X.setCell h a v) (w.setCell a v).heap:=V.setCell v hs M;obtain⟨y,h',w',es,e1,e2,e3,e4,H,e6⟩:=ih (O.push ⟨.cell a,true,m==.atomic⟩) x V';subst hm;have a3:(w.setCell a v).heap.size=w.heap.size:=by simp[World.setCell]
   refine⟨y,h',w',#[⟨.cell a,true,false⟩]++es,?_,?_,e3,e4,⟨⟨H.calm.os,H.calm.tape,H.calm.output,by rw[<- a3];exact H.size⟩,fun b hb z=>(H.Fp b (by rw[a3];exact hb) z).trans (xt0 (h:=w.heap) fun e=>by subst e;exact z.elim hs M)⟩,?_⟩
   ·cases v<;>simp[A7]at hv
    all_goals
     simp only[Sem.runT,b3,a4,Bool.false_eq_true,if_false,e1,Prod.mk.injEq,true_and];rw[<- Array.append_assoc];congr 1
   ·cases v<;>simp[A7]at hv
    all_goals simp only[Sem.run,b3,a4,Bool.false_eq_true,if_false,e2]
   ·intro e he;rcases Array.mem_append.1 he with he|he
    ·simp at he;subst he;exact⟨rfl,hs,Nat.lt_of_lt_of_le (ytj a9) (by rw[<- a3];exact H.size),fun _=>M⟩
    ·exact e6 e he
 |new o k ih=>
   intro h K w O x V;have V':Cd S (h.push o) ({w with heap:=w.heap.push o}:World).heap:=V.push o;have x':wpS P (k w.heap.size) (h.push o) K:=by rw[<- V.size];exact x
   obtain⟨y,h',w',es,e1,e2,e3,e4,H,e6⟩:=ih w.heap.size O x' V';exact⟨y,h',w',es,by simp only[Sem.runT,e1],by simp only[Sem.run,e2],e3,e4,⟨⟨H.calm.os,H.calm.tape,H.calm.output,by have:=H.size;simp at this;omega⟩,fun b hb z=>(H.Fp b (by simp;omega) z).trans (by simp only[Array.getElem?_push];rw[if_neg om])⟩,e6⟩
 |shape r k ih=>
   intro h K w O x V;unfold wpS at x;have key:∃z,w.shape? r=z/\wpS P (k z) h K:=by
    split at x
    ·rename_i c e f hr;have hs:¬ S.dead r:=by
      intro hs;have hb:=V.H0 _ hs;rw[hr]at hb;simp at hb;have:=x.1;rw[hb.1]at this;simp at this
     refine⟨_,?_,x.2⟩;unfold World.shape?;by_cases M:S.still r
     ·obtain⟨c',e',f',a6,hh⟩:=V.frz _ M;rw[hh]at hr;cases hr;rw[a6]
     ·rw[<- V.same _ hs M,hr]
    ·rename_i hn;refine⟨_,?_,x⟩;have hs:¬ S.dead r:=by
      intro hs;exact hn _ _ _ (V.H0 _ hs)
     have M:¬ S.still r:=by
      intro M;obtain⟨c',e',f',a6,hh⟩:=V.frz _ M;exact hn _ _ _ hh
     unfold World.shape?;rw[<- V.same _ hs M];split
     ·rename_i c e f hr;exact absurd hr (hn _ _ _)
     ·rfl
   obtain⟨z,hz,x'⟩:=key;obtain⟨y,h',w',es,e1,e2,e3,e4,H,e6⟩:=ih z O x' V;exact⟨y,h',w',es,by simp only[Sem.runT,hz,e1],by simp only[Sem.run,hz,e2],e3,e4,H,e6⟩
 |freeze a n k ih=>
   intro h K w O ⟨⟨c,e,f,hc,b5,b4⟩,x⟩ V;have hs:=V.seen ⟨c,e,f,hc,b5⟩;have M:¬ S.still a.block:=by
    intro M;obtain⟨c',e',f',_,hh⟩:=V.frz _ M;rw[hh]at hc;cases hc;exact b4 rfl
   have b0:(w.freeze a n).heap=Bz w.heap a n:=by unfold World.freeze Bz;split<;>rfl
   have V':Cd S (Bz h a n) (w.freeze a n).heap:=by rw[b0];exact V.freeze n hs M
   obtain⟨y,h',w',es,e1,e2,e3,e4,H,e6⟩:=ih O x V';have h1:(w.freeze a n).os=w.os:=by unfold World.freeze;split<;>rfl
   have h2:(w.freeze a n).tape=w.tape:=by unfold World.freeze;split<;>rfl
   have h3:(w.freeze a n).output=w.output:=by unfold World.freeze;split<;>rfl
   have h4:(w.freeze a n).heap.size=w.heap.size:=by unfold World.freeze;split<;>simp
   exact⟨y,h',w',es,by simp only[Sem.runT,e1],by simp only[Sem.run,e2],e3,e4,⟨⟨H.calm.os.trans h1,H.calm.tape.trans h2,H.calm.output.trans h3,by rw[<- h4];exact H.size⟩,fun b hb z=>(H.Fp b (by rw[h4];exact hb) z).trans (by rw[b0];exact xe7 fun e=>by subst e;exact z.elim hs M)⟩,e6⟩
 |frozen a k ih=>
   intro h K w O ⟨a5,xt,xf⟩ V;have x:wpS P (k (w.frozen? a)) h K:=by
    by_cases hc:Nu h a
    ·have a4:w.frozen? a=false:=by
      rcases hc with hc|⟨c,e,hb,hp⟩
      ·obtain⟨v,hv⟩:=Option.isSome_iff_exists.1 hc.1;exact(V.frozen (V.seen a5) (V.thaw hv hc.2)).symm.trans hc.2
      ·have M:¬ S.still a.block:=fun M=>by
        obtain⟨c',e',f,_,hh⟩:=V.frz _ M;rw[hb]at hh;injection hh with hh;injection hh with e1 _ e2;have e3:=(Prod.mk.inj e2).2;rw[<- e1]at e3;omega
       have z:=V.frozen (a:=a) (V.seen a5) M;refine z.symm.trans ?_;unfold frozenAt;rw[hb];simp
     rw[a4];exact xt hc
    ·exact xf hc _
   obtain⟨y,h',w',es,e1,e2,e3,e4,H,e6⟩:=ih (w.frozen? a) O x V;exact⟨y,h',w',es,by simp only[Sem.runT,e1],by simp only[Sem.run,e2],e3,e4,H,e6⟩
 |getObj r k ih=>
   intro h K w O x V;unfold wpS at x;split at x
   ·exact x.elim
   ·rename_i o hn ho;obtain⟨hs,M⟩:=V.obj hn ho;have a2:w.heap[r]?=some o:=(V.same _ hs M).symm.trans ho;obtain⟨y,h',w',es,e1,e2,e3,e4,H,e6⟩:=ih o (O.push ⟨.obj r,false,o.isChan⟩) x.2 V;refine⟨y,h',w',#[⟨.obj r,false,false⟩]++es,?_,?_,e3,e4,H,?_⟩
    ·rw[x.1]at e1;simp only[Sem.runT,a2,x.1];cases o<;>first|exact absurd rfl (hn _ _ _)|(simp only[e1,Prod.mk.injEq,true_and];rw[<- Array.append_assoc];congr 1)
    ·simp only[Sem.run,a2];cases o<;>first|exact absurd rfl (hn _ _ _)|exact e2
    ·intro e he;rcases Array.mem_append.1 he with he|he
     ·simp at he;subst he;exact⟨rfl,hs,Nat.lt_of_lt_of_le (Array.getElem?_eq_some_iff.1 a2).1 H.size,M⟩
     ·exact e6 e he
   ·exact x.elim
 |setObj r o k ih=>
   intro h K w O x V;unfold wpS at x;split at x
   ·exact x.elim
   ·rename_i o' hn ho;obtain⟨hs,M⟩:=V.obj hn ho;have a2:w.heap[r]?=some o':=(V.same _ hs M).symm.trans ho;have V':Cd S (h.setIfInBounds r o) ({w with heap:=w.heap.setIfInBounds r o}:World).heap:=V.setObj o hs M;obtain⟨y,h',w',es,e1,e2,e3,e4,H,e6⟩:=ih (O.push ⟨.obj r,true,o.isChan⟩) x.2.2 V';have a3:w.heap.size<=w'.heap.size:=by have:=H.size;simp at this;exact this
    refine⟨y,h',w',#[⟨.obj r,true,false⟩]++es,?_,?_,e3,e4,⟨⟨H.calm.os,H.calm.tape,H.calm.output,a3⟩,fun b hb z=>(H.Fp b (by simp;exact hb) z).trans (by simp only;rw[Array.getElem?_setIfInBounds_ne fun e=>by subst e;exact z.elim hs M])⟩,?_⟩
    ·rw[x.2.1]at e1;simp only[Sem.runT,a2,x.2.1];cases o'<;>first|exact absurd rfl (hn _ _ _)|(simp only[e1,Prod.mk.injEq,true_and];rw[<- Array.append_assoc];congr 1)
    ·simp only[Sem.run,a2];cases o'<;>first|exact absurd rfl (hn _ _ _)|exact e2
    ·intro e he;rcases Array.mem_append.1 he with he|he
     ·simp at he;subst he;exact⟨rfl,hs,Nat.lt_of_lt_of_le (Array.getElem?_eq_some_iff.1 a2).1 a3,M⟩
     ·exact e6 e he
   ·exact x.elim
 |choose q k ih=>
   intro h K w O x V;unfold wpS at x;by_cases hf:q.forced=true
   ·rw[if_pos hf]at x;obtain⟨y,h',w',es,e1,e2,e3,e4,H,e6⟩:=ih 0 O x V;exact⟨y,h',w',es,by simp only[Sem.runT,hf,if_true,e1],by simp only[Sem.run,hf,if_true,e2],e3,e4,H,e6⟩
   ·rw[if_neg hf]at x;have V':Cd S h ({w with drawn:=w.drawn+1}:World).heap:=V;obtain⟨y,h',w',es,e1,e2,e3,e4,H,e6⟩:=ih _ O (x (w.tape w.drawn q)) V';exact⟨y,h',w',es,by simp only[Sem.runT,if_neg hf,e1],by simp only[Sem.run,if_neg hf,e2],e3,e4,⟨⟨H.calm.os,H.calm.tape,H.calm.output,H.size⟩,H.Fp⟩,e6⟩
 |sys c k ih=>exact fun O x=>x.elim
 |program k ih=>
   intro h K w O x V;obtain⟨y,h',w',es,e1,e2,e3,e4,H,e6⟩:=ih P O x V;exact⟨y,h',w',es,by simp only[Sem.runT,e1],by simp only[Sem.run,e2],e3,e4,H,e6⟩
 |mark m k ih=>
   intro h K w O ⟨hm,x⟩ V;obtain⟨y,h',w',es,e1,e2,e3,e4,H,e6⟩:=ih (O.push ⟨.mark m,false,true⟩) x V;refine⟨y,h',w',#[⟨.mark m,false,true⟩]++es,?_,by simp only[Sem.run,e2],e3,e4,H,?_⟩
   ·simp only[Sem.runT,e1,Prod.mk.injEq,true_and];rw[<- Array.append_assoc];congr 1
   ·intro e he;rcases Array.mem_append.1 he with he|he
    ·simp at he;subst he;exact hm
    ·exact e6 e he
 |halt h=>exact fun O x=>x.elim
end
open Go.ConcN (sumTo upd sumTo_upd upd_ne upd_same)
structure Hl(P:Program)(S:Nat->Prop)(gs:Array Goroutine)(w:World)(t:Trace)(q:Nat->Nat)(g:Goroutine)(h:Heap):Prop where
 main:gs[0]?=some g
 Py:Leavers P t gs q
 Ci:Past (Hu S) w.heap.size t
 Gy:Cd (.of S) h w.heap
inductive Md where
 |main (sp:Bool)
 |own (m:Bool)
 |lone
def Md.Gq:Md->Bool
 |.main _=>true
 |.own m=>m
 |.lone=>true
def Own(P:Program)(main:Bool)(g:Goroutine)(h:Heap)(K:Goroutine->Heap->Prop):Prop:=
 g.status=.running/\ ∀H,Af h H-> ∀(S:Vw)(w:World),Cd S H w.heap->
  ∃g' h' w' es,stepG P main g w=.go g' w' es/\K g' h'/\Cd S h' w'.heap/\Quiet S w w'/\ ∀e∈es,EvX S w'.heap.size e
theorem Own.mono{P:Program}{main:Bool}{g:Goroutine}{h:Heap}{K H:Goroutine->Heap->Prop}(x:Own P main g h K)(y:∀g h,K g h->H g h):Own P main g h H:=
 ⟨x.1,fun M k S w V=>by obtain⟨g',h',w',es,a,b,c⟩:=x.2 M k S w V;exact⟨g',h',w',es,a,y _ _ b,c⟩⟩
def Reach(P:Program):Md->(g:Goroutine)->(h:Heap)->(Stop:Goroutine->Heap->Prop)->Prop
 |.main sp,g,h,Stop=>
   ∀(S:Nat->Prop)(O:Array Goroutine)(w:World)(sl:Option (Nat×Nat))(t:Trace)(q:Nat->Nat),Hl P S O w t q g h->
    ∃(N:Nat)(S':Nat->Prop)(H:Array Goroutine)(w':World)(M:Option (Nat×Nat))(V:Trace)(q':Nat->Nat)(g':Goroutine)(h':Heap),
     runNT P N (crowd O w sl) t=(.next (crowd H w' M),V)/\Hl P S' H w' V q' g' h'/\Stop g' h'/\Quiet (.of S) w w'/\
     (sp=false->H.size=O.size)/\ ∀b,S b->S' b
 |.own m,g,h,Stop=>∀Z:Goroutine->Heap->Prop,(∀g h,Stop g h->Z g h)->(∀g h,Own P m g h Z->Z g h)->Z g h
 |.lone,g,h,Stop=>∀w:World,w.heap=h-> ∃g' w',Steps P (solo g w) (solo g' w')/\Stop g' w'.heap/\Calm w w'
theorem xjh{S:Vw}(w:World)(d:Nat):Quiet S w (w.at d):=⟨⟨rfl,rfl,rfl,Nat.le_refl _⟩,fun _ _ _=>rfl⟩
theorem Quiet.mono{S H:Vw}{w w':World}(x:Quiet S w w')(h:∀b,H.dead b\/H.still b->S.dead b\/S.still b):Quiet H w w':=⟨x.calm,fun b M y=>x.Fp b M (h b y)⟩
theorem Quiet.of{S H:Nat->Prop}{w w':World}(x:Quiet (.of S) w w')(h:∀b,H b->S b):Quiet (.of H) w w':=x.mono fun b y=>y.imp (h b) id
section
variable{P:Program}{md:Md}{sp:Bool}{g:Goroutine}{h:Heap}{Stop Stop':Goroutine->Heap->Prop}
theorem xpk(x:Stop g h):Reach P md g h Stop:=by
 cases md with
 |main sp=>exact fun S O w sl t q M=>⟨0,S,O,w,sl,t,q,g,h,rfl,M,x,.refl _,fun _=>rfl,fun _ y=>y⟩
 |own m=>exact fun Z H _=>H _ _ x
 |lone=>exact fun w hw=>⟨g,w,.refl _ _,hw ▸ x,.refl _⟩
theorem xml(x:Own P true g h fun g' h'=>Reach P (.main sp) g' h' Stop):Reach P (.main sp) g h Stop:=by
 obtain⟨a5,c1⟩:=x;intro S O w sl t q sc
 suffices H:∀(M:Nat)(O:Array Goroutine)(w:World)(sl:Option (Nat×Nat))(t:Trace)(q:Nat->Nat),sumTo O.size q<=M->Hl P S O w t q g h->
  ∃(N:Nat)(S':Nat->Prop)(b0:Array Goroutine)(w':World)(a4:Option (Nat×Nat))(t':Trace)(q':Nat->Nat)(g':Goroutine)(h':Heap),
   runNT P N (crowd O w sl) t=(.next (crowd b0 w' a4),t')/\Hl P S' b0 w' t' q' g' h'/\Stop g' h'/\Quiet (.of S) w w'/\
   (sp=false->b0.size=O.size)/\ ∀b,S b->S' b from H _ O w sl t q (Nat.le_refl _) sc
 intro M
 induction M using Nat.strongRecOn with
 |_ M ih=>
   intro O w sl t q hM sc;obtain⟨h0,hL,hP,hV⟩:=sc;have d8:∀g∈O,awake g:=by
    intro y hy;obtain⟨i,hi,rfl⟩:=Array.mem_iff_getElem.1 hy;rcases Nat.eq_zero_or_pos i with rfl|hpos
    ·have:O[0]=g:=by simpa[Array.getElem?_eq_getElem hi]using h0
     rw[this];exact awake_of (.inl a5)
    ·exact awake_of ((hL.old i _ hpos (Array.getElem?_eq_getElem hi)).status.elim .inl fun x=>.inr (.inr x))
   obtain⟨i,a,d,a4,hi,ha,b7⟩:=crowd_pick (P:=P) (w:=w) (sl:=sl) d8 ⟨0,g,h0,a5⟩;rcases Nat.eq_zero_or_pos i with rfl|hpos
   ·obtain rfl:a=g:=by rw[h0]at hi;exact(Option.some.inj hi).symm
    obtain⟨g',h',w',es,c3,hK,d0,hc,d7⟩:=c1 h (.refl _) (.of S) (w.at d) hV;have V:=runT_crowd_go (P:=P) (sl:=a4) (i:=0) hi (show stepG P (0==0) a (w.at d)=_ from c3);have a8:((O.map (woken P a g' w')).setIfInBounds 0 g').size=O.size:=by simp
    have a7:0<O.size:=(Array.getElem?_eq_some_iff.1 h0).1;have b5:Hl P S ((O.map (woken P a g' w')).setIfInBounds 0 g') w' (t++MemOp.ofEvents 0 a.frame.fn a.frame.place es) q g' h':=by
     refine⟨by simp[a7],⟨fun j x hj hx=>?_,fun j hj=>?_⟩,(hP.mono hc.size).own fun e he=>yvz (d7 e he),d0⟩
     ·have b6:0≠j:=om;rw[Array.getElem?_setIfInBounds_ne b6,Array.getElem?_map]at hx;obtain⟨y,hy,rfl⟩:=Option.map_eq_some_iff.1 hx;have hq:=hL.old j y hj hy;rw[woken_quitsD hq,Deaf_other t om _ (fun op a3=>by obtain⟨e,_,rfl⟩:=Go.Conc.mem_ofEvents a3;rfl)];exact hq
     ·rw[Deaf_other t (g':=0) (by simp at hj;omega) _ (fun op a3=>by obtain⟨e,_,rfl⟩:=Go.Conc.mem_ofEvents a3;rfl)];exact hL.above j (by simpa using hj)
    obtain⟨N,S2,a9,w2,b4,t2,q2,g2,h2,a2,b2,c2,d2,e2,f2⟩:=hK S _ w' a4 _ q b5;refine⟨N+1,S2,a9,w2,b4,t2,q2,g2,h2,by simp only[runNT,b7,V];exact a2,b2,c2,((xjh w d).trans hc).trans d2,fun z=>(e2 z).trans a8,f2⟩
   ·have hq:=hL.old i a hpos hi;have d5:(i==0)=false:=by simp;omega
    have a7:i<O.size:=(Array.getElem?_eq_some_iff.1 hi).1;cases b3:q i with
    |zero=>rw[b3]at hq;rw[hq.1]at ha;cases ha
    |succ k=>
      rw[b3]at hq;rcases hq with⟨hf,_⟩|⟨_,g',es,hm,b9,d6⟩
      ·rw[hf]at ha;cases ha
      have V:=runT_crowd_go (P:=P) (sl:=a4) (i:=i) hi (by rw[d5];exact b9 (w.at d));have a8:((O.map (woken P a g' (w.at d))).setIfInBounds i g').size=O.size:=by simp
      have d9:sumTo O.size (upd q i k)+(k+1)=sumTo O.size q+k:=by
       have:=sumTo_upd q k id a7;simpa[b3]using this
      have b5:Hl P S ((O.map (woken P a g' (w.at d))).setIfInBounds i g') (w.at d) (t++MemOp.ofEvents i a.frame.fn a.frame.place es) (upd q i k) g h:=by
       refine⟨?_,⟨fun j x hj hx=>?_,fun j hj=>?_⟩,hP.mute om hm,hV⟩
       ·have b6:i≠0:=om;rw[Array.getElem?_setIfInBounds_ne b6,Array.getElem?_map,h0];simp[woken_run a5]
       ·by_cases a6:i=j
        ·subst a6;rw[Array.getElem?_setIfInBounds_self_of_lt (by simpa using a7)]at hx;obtain rfl:=Option.some.inj hx;rw[upd_same,Deaf_own];exact d6
        ·rw[Array.getElem?_setIfInBounds_ne a6,Array.getElem?_map]at hx;obtain⟨y,hy,rfl⟩:=Option.map_eq_some_iff.1 hx;have b8:=hL.old j y hj hy;rw[woken_quitsD b8,upd_ne q k (Ne.symm a6),Deaf_other t a6 _ (fun op a3=>by obtain⟨e,_,rfl⟩:=Go.Conc.mem_ofEvents a3;rfl)];exact b8
       ·rw[Deaf_other t (g':=i) (by simp at hj;omega) _ (fun op a3=>by obtain⟨e,_,rfl⟩:=Go.Conc.mem_ofEvents a3;rfl)];exact hL.above j (by simpa using hj)
      obtain⟨N,S2,a9,w2,b4,t2,q2,g2,h2,a2,b2,c2,d2,e2,f2⟩:=ih (sumTo O.size (upd q i k)) om _ (w.at d) a4 _ (upd q i k) (by rw[a8];exact Nat.le_refl _) b5;exact⟨N+1,S2,a9,w2,b4,t2,q2,g2,h2,by simp only[runNT,b7,V];exact a2,b2,c2,(xjh w d).trans d2,fun z=>(e2 z).trans a8,f2⟩
theorem xt8{g g':Goroutine}{w w':World}{es:Array Event}(H:g.status=.running)(x:stepG P true g w=.go g' w' es):step P (solo g w)=.next (solo g' w'):=by
 rw[step,stepT_solo H,runT_solo_go x]
theorem xnl(x:Own P true g h fun g' h'=>Reach P .lone g' h' Stop):Reach P .lone g h Stop:=by
 obtain⟨hr,H⟩:=x;rintro w rfl;obtain⟨g',h',w',es,e,k,V,q,_⟩:=H w.heap (.refl _) (.of fun _=>False) w (.refl _);obtain rfl:h'=w'.heap:=by
  apply Array.ext_getElem?;exact fun i=>V.same i (fun z=>z) (fun z=>z)
 obtain⟨g2,w2,O,b2,M⟩:=k w' rfl;exact⟨g2,w2,.head (xt8 hr e) O,b2,q.calm.trans M⟩
theorem xij(x:Own P md.Gq g h fun g' h'=>Reach P md g' h' Stop):Reach P md g h Stop:=by
 cases md with
 |main sp=>exact xml x
 |own m=>exact fun Z M H=>H _ _ (x.mono fun g' h' r=>r Z M H)
 |lone=>exact xnl x
end
def F(b:Frame)(tm:Array Value)(df:List Deferred)(k:List Item):Frame:={b with tmps:=tm,defers:=df,todo:=k,mode:=.run}
def FR(b:Frame)(tm:Array Value)(df:List Deferred)(k:List Item):Frame:={b with tmps:=tm,defers:=df,todo:=k,mode:=.returning}
def ev(tm:Array Value):Operand->Value
 |.tmp t=>tm.getD t undef
 |.const v=>v
 |.global g=>w_ g 0
 |.func f=>.func (.func f) #[] #[]
def put(tm:Array Value)(H:Option Tmp)(v:Value):Array Value:=
 match H with
 |some d=>tm.setIfInBounds d v
 |none=>tm
class Stb(Φ:Heap->Prop):Prop where
 stb:∀h h',Φ h->Af h h'->Φ h'
def RS(P:Program)(md:Md)(g:Goroutine)(Φ:Heap->Prop)(Stop:Goroutine->Heap->Prop):Prop:=∀h,Φ h->Reach P md g h Stop
instance{α:Type}{Φ:α->Heap->Prop}[s:∀x,Stb (Φ x)]:Stb (fun h=>∃x,Φ x h):=⟨fun h h'⟨x,y⟩k=>⟨x,(s x).stb h h' y k⟩⟩
instance{c:Prop}{Φ:Heap->Prop}[s:Stb Φ]:Stb (fun h=>c/\Φ h):=⟨fun h h'⟨x,y⟩k=>⟨x,s.stb h h' y k⟩⟩
theorem xn6{α:Type}{P:Program}{md:Md}{g:Goroutine}{Ψ:α->Heap->Prop}{Stop:Goroutine->Heap->Prop}(n:∀x,RS P md g (Ψ x) Stop):RS P md g (fun h=>∃x,Ψ x h) Stop:=fun h⟨x,y⟩=>n x h y
theorem ync{c:Prop}{P:Program}{md:Md}{g:Goroutine}{Φ:Heap->Prop}{Stop:Goroutine->Heap->Prop}(n:c->RS P md g Φ Stop):RS P md g (fun h=>c/\Φ h) Stop:=fun h⟨x,y⟩=>n x h y
section
variable{P:Program}{md:Md}{b:Frame}{tm:Array Value}{df:List Deferred}{k:List Item}{cs:List Frame}{h:Heap}{Φ:Heap->Prop}{Stop:Goroutine->Heap->Prop}
theorem ytz:(F b tm df k).eval=ev tm:=by funext x;cases x<;>rfl
theorem xdb{S:Vw}{fn:FuncId}{B:Nat}{es:Array Event}(x:∀e∈es,EvX S B e):∀e∈seen P fn es,EvX S B e:=by
 unfold seen;refine Array.foldl_induction (motive:=fun _(s:Bool×Array Event)=>∀e∈s.2,EvX S B e) s_ ?_;rintro i ⟨q,kept⟩ hs;simp only at hs⊢;split
 ·exact hs
 ·simp only;split
  ·exact hs
  ·intro e he;rcases Array.mem_push.1 he with he|rfl
   ·exact hs e he
   ·exact x _ (Array.getElem_mem _)
theorem xmc[hs:Stb Φ]{g g':Goroutine}(O:g.status=.running)(he:∀w,stepG P md.Gq g w=.go g' w #[])(x:RS P md g' Φ Stop):RS P md g Φ Stop:=
 fun h y=>xij ⟨O,fun M H S w V=>⟨g',M,w,#[],he w,x M (hs.stb _ _ y H),V,.refl _,s_⟩⟩
section
variable[Stb Φ]
theorem ymm{x y:Code}(r:RS P md (G (F b tm df (.code x::.code y::k)) cs) Φ Stop):RS P md (G (F b tm df (.code (.seq x y)::k)) cs) Φ Stop:=
 xmc rfl (fun w=>by simp[G,stepG,stepG.exec,F]) r
theorem yof(r:RS P md (G (F b tm df k) cs) Φ Stop):RS P md (G (F b tm df (.code .skip::k)) cs) Φ Stop:=
 xmc rfl (fun w=>by simp[G,stepG,stepG.exec,F]) r
theorem xm6{id:Nat}(r:RS P md (G (F b tm df k) cs) Φ Stop):RS P md (G (F b tm df (.inBlock id::k)) cs) Φ Stop:=
 xmc rfl (fun w=>by simp[G,stepG,stepG.exec,F]) r
theorem ydv{id:Nat}{c:Code}(r:RS P md (G (F b tm df (.code c::.inBlock id::k)) cs) Φ Stop):RS P md (G (F b tm df (.code (.block id c)::k)) cs) Φ Stop:=
 xmc rfl (fun w=>by simp[G,stepG,stepG.exec,F]) r
theorem xv0{c:Code}(r:RS P md (G (F b tm df (.code c::.inLoop c::k)) cs) Φ Stop):RS P md (G (F b tm df (.code (.loop c)::k)) cs) Φ Stop:=
 xmc rfl (fun w=>by simp[G,stepG,stepG.exec,F]) r
theorem xel{c:Code}(r:RS P md (G (F b tm df (.code c::.inLoop c::k)) cs) Φ Stop):RS P md (G (F b tm df (.inLoop c::k)) cs) Φ Stop:=
 xmc rfl (fun w=>by simp[G,stepG,stepG.exec,F]) r
theorem ypf{id:Nat}{k':List Item}(H:exitTo id k=some k')(r:RS P md (G (F b tm df k') cs) Φ Stop):RS P md (G (F b tm df (.code (.exit id)::k)) cs) Φ Stop:=
 xmc rfl (fun w=>by simp[G,stepG,stepG.exec,F,H]) r
theorem yrf{c:Operand}{x y:Code}{t:Bool}(hc:ev tm c=.bool t)(r:RS P md (G (F b tm df (.code (if t then x else y)::k)) cs) Φ Stop):
 RS P md (G (F b tm df (.code (.cond c x y)::k)) cs) Φ Stop:=
 xmc rfl (fun w=>by
  have h':(F b tm df (.code (.cond c x y)::k)).eval c=.bool t:=by rw[ytz];exact hc
  simp only[F]at h';simp[G,stepG,stepG.exec,F,h']) r
theorem xd9{id:Nat}{ops:Array Oper}(r:RS P md (G (F b tm df (.inRegion ops (List.range ops.size)::k)) cs) Φ Stop):
 RS P md (G (F b tm df (.code (.region id ops false)::k)) cs) Φ Stop:=
 xmc rfl (fun w=>by simp[G,stepG,stepG.exec,F]) r
theorem xkd{ops:Array Oper}(r:RS P md (G (F b tm df k) cs) Φ Stop):RS P md (G (F b tm df (.inRegion ops []::k)) cs) Φ Stop:=
 xmc rfl (fun w=>by simp[G,stepG,stepG.exec,F]) r
theorem xj3{id:Nat}{ops:Array Oper}(r:∀t,RS P md (G (F b tm df (.inRegion ops (Region.schedule (P.follows .mixedOrders) ops t)::k)) cs) Φ Stop):
 RS P md (G (F b tm df (.code (.region id ops true)::k)) cs) Φ Stop:=
 fun h y=>xij ⟨rfl,fun M H S w V=>⟨_,M,{w with drawn:=w.drawn+1},#[],by
  simp[G,stepG,stepG.exec,F,choose,Sem.run,Question.forced,Question.cut],r (w.tape w.drawn (.order b.fn id)) M (Stb.stb _ _ y H),V,⟨⟨rfl,rfl,rfl,Nat.le_refl _⟩,fun _ _ _=>rfl⟩,s_⟩⟩
theorem xqp{ops:Array Oper}{i:Nat}{rest:List Nat}{o:Oper}(H:ops[i]?=some o)(hw:Region.wanted o (yielded ops tm)=false)
 (r:RS P md (G (F b (put tm o.dst undef) df (.inRegion ops rest::k)) cs) Φ Stop):RS P md (G (F b tm df (.inRegion ops (i::rest)::k)) cs) Φ Stop:=
 xmc rfl (fun w=>by
  simp only[G,stepG,stepG.exec,F,H,Option.map_some,hw,Option.getD_some,Frame.finish,Option.bind_some,put];rfl) r
theorem xgx{ops:Array Oper}{i:Nat}{rest:List Nat}{o:Oper}(H:ops[i]?=some o)(v:Value):
 (F b tm df (.inRegion ops (i::rest)::k)).finish v=F b (put tm o.dst v) df (.inRegion ops rest::k):=by
 simp only[Frame.finish,F,H,Option.bind_some,put];cases o.dst<;>rfl
def N7(P:Program)(md:Md)(fr:Frame)(cs:List Frame)(Stop:Goroutine->Heap->Prop):Next->Heap->Prop
 |.value v,h=>Reach P md (G (fr.finish v) cs) h Stop
 |.skip,h=>Reach P md (G (fr.finish undef) cs) h Stop
 |.enter f args,h=>Reach P md (G (Frame.enter P f args .normal) (fr::cs)) h Stop
 |.round l f tmps assign body,h=>Reach P md (G (Frame.round l f tmps assign body .normal) (fr::cs)) h Stop
 |_,_=>False
theorem xk3{fr:Frame}{s:Sem Next}(hk:fr.kind≠.early)(H:(match fr.todo with|.call _ true _ _::_=>false|_=>true)=true)
 (hs:∀w,stepG P md.Gq (G fr cs) w=stepG.apply P true fr cs none s w)(x:∀h,Φ h->wpS P s h (N7 P md fr cs Stop)):RS P md (G fr cs) Φ Stop:=by
 intro h y;refine xij ⟨rfl,fun zj M S w V=>?_⟩;obtain⟨n,h',w',es,e1,e2,e3,e4,e5,e6⟩:=xuc s #[] (x zj (Stb.stb _ _ y M)) V;have O:(fr.kind==CallKind.early)=false:=by simpa using hk
 rw[hs w];simp only[Array.empty_append]at e1;cases n<;>first|exact e3.elim|skip
 all_goals
  refine⟨_,h',w',seen P fr.fn es,?_,e3,e4,e5,xdb e6⟩;simp only[stepG.apply,if_true,e1,O,Bool.false_eq_true,if_false,GStep.after,G,Array.append_empty]
  try
   split
   ·rename_i he;rw[he]at H;simp at H
   ·rfl
theorem xrp{ops:Array Oper}{i:Nat}{rest:List Nat}{o:Oper}(O:ops[i]?=some o)(hw:Region.wanted o (yielded ops tm)=true)(M:b.kind≠.early)
 (H:b.roundOf=none\/(match o.op with|.defer _=>false|_=>true)=true)
 (x:∀h,Φ h->wpS P (execOp (ev tm) o) h (N7 P md (F b tm df (.inRegion ops (i::rest)::k)) cs Stop)):
 RS P md (G (F b tm df (.inRegion ops (i::rest)::k)) cs) Φ Stop:=by
 refine xk3 M rfl (fun w=>?_) x;have he:Frame.eval (F b tm df (.inRegion ops (i::rest)::k))=ev tm:=ytz;simp only[F]at he;simp only[G,stepG,stepG.exec,F,O,Option.map_some,hw,Option.getD_some,if_true,stepG.oper,Frame.oper?,he];rcases H with hn|hn
 ·rw[hn]
 ·cases V:b.roundOf with
  |none=>rfl
  |some l=>
    revert hn;cases o.op<;>simp
theorem ylm{ops:Array Oper}{i:Nat}{rest:List Nat}{o:Oper}(M:ops[i]?=some o)(hw:Region.wanted o (yielded ops tm)=true)(O:b.kind≠.early)
 (H:(match o.op with|.defer _=>false|_=>true)=true)
 (x:∀h,Φ h->wpS P (execOp (ev tm) o) h fun n h'=>∃v,n=.value v/\Reach P md (G (F b (put tm o.dst v) df (.inRegion ops rest::k)) cs) h' Stop):
 RS P md (G (F b tm df (.inRegion ops (i::rest)::k)) cs) Φ Stop:=
 xrp M hw O (.inr H) fun h y=>xix (x h y) fun n h'⟨v,e,r⟩=>by subst e;show Reach P md (G ((F b tm df _).finish v) cs) h' Stop;rw[xgx M];exact r
theorem ynf{ops:Array Oper}{i:Nat}{rest:List Nat}{o:Oper}(M:ops[i]?=some o)(hw:Region.wanted o (yielded ops tm)=true)(O:b.kind≠.early)
 (H:(match o.op with|.defer _=>false|_=>true)=true)
 (x:∀h,Φ h->wpS P (execOp (ev tm) o) h fun n h'=>n=.skip/\Reach P md (G (F b (put tm o.dst undef) df (.inRegion ops rest::k)) cs) h' Stop):
 RS P md (G (F b tm df (.inRegion ops (i::rest)::k)) cs) Φ Stop:=
 xrp M hw O (.inr H) fun h y=>xix (x h y) fun n h'⟨e,r⟩=>by subst e;show Reach P md (G ((F b tm df _).finish undef) cs) h' Stop;rw[xgx M];exact r
def Aa(P:Program)(md:Md)(f:FuncId)(args:Array Value)(h:Heap)(R:Value->Heap->Prop):Prop:=
 ∀(c:Frame)(cs:List Frame)(Stop:Goroutine->Heap->Prop),(∀v h',R v h'->Reach P md (G (c.finish v) cs) h' Stop)->
  Reach P md (G (Frame.enter P f args .normal) (c::cs)) h Stop
theorem Aa.mono{f:FuncId}{args:Array Value}{R R':Value->Heap->Prop}(x:Aa P md f args h R)(y:∀v h',R v h'->R' v h'):Aa P md f args h R':=
 fun c cs Stop z=>x c cs Stop fun v h' r=>z v h' (y v h' r)
theorem xe9{ops:Array Oper}{i:Nat}{rest:List Nat}{o:Oper}{f:FuncId}{args:Array Value}{R:Value->Heap->Prop}
 (M:ops[i]?=some o)(hw:Region.wanted o (yielded ops tm)=true)(V:b.kind≠.early)
 (H:(match o.op with|.defer _=>false|_=>true)=true)
 (x:∀h,Φ h->wpS P (execOp (ev tm) o) h fun n h'=>n=.enter f args/\h'=h)(c:∀h,Φ h->Aa P md f args h R)
 (r:∀v h',R v h'->Reach P md (G (F b (put tm o.dst v) df (.inRegion ops rest::k)) cs) h' Stop):
 RS P md (G (F b tm df (.inRegion ops (i::rest)::k)) cs) Φ Stop:=
 xrp M hw V (.inr H) fun h y=>xix (x h y) fun n h'⟨e,O⟩=>by
  subst e;subst O;exact c _ y _ _ _ fun v h' q=>by rw[xgx M];exact r v h' q
theorem xdl{c:Frame}{fn:Func}{td:List Item}(hf:P.funcs[b.fn]?=some fn)(hk:b.kind=.normal)
 (x:∀h,Φ h->wpS P (results fn tm) h fun v h'=>Reach P md (G (c.finish v) cs) h' Stop):RS P md (G (FR b tm [] td) (c::cs)) Φ Stop:=by
 intro h y;refine xij ⟨rfl,fun zj H S w V=>?_⟩;obtain⟨v,h',w',es,M,e2,e3,e4,e5,O⟩:=xuc (results fn tm) #[] (x zj (Stb.stb _ _ y H)) V;refine⟨_,h',w',seen P b.fn es,?_,e3,e4,e5,xdb O⟩;simp only[Array.empty_append]at M;simp only[G,stepG,unwind,FR,hf,M,doReturn,hk,GStep.after,Array.append_empty]
theorem xlg{c:Frame}{td:List Item}{r:Nat}{ds:List Deferred}(hr:∀h,Φ h->h[r]?=some (.deferred (some [])))
 (x:∀h,Φ h->Reach P md (G (FR b tm ds td) (c::cs)) (h.setIfInBounds r (.deferred none)) Stop):RS P md (G (FR b tm ({target:=.collected r,args:=#[]}::ds) td) (c::cs)) Φ Stop:=by
 intro h y;refine xij ⟨rfl,fun zj O S w V=>?_⟩;have M:=Stb.stb _ _ y O;have H:=hr zj M;have hx:wpS P (Instr.takeDeferred r) zj fun l h'=>l=[]/\h'=zj.setIfInBounds r (.deferred none):=by
  unfold Instr.takeDeferred;refine xbq ?_;simp only[getObj,wpS,H];refine⟨rfl,?_⟩;refine xbq ?_;simp only[setObj,wpS,H];refine⟨rfl,rfl,?_⟩;exact xcq ⟨rfl,rfl⟩
 obtain⟨v,h',w',es,e1,e2,⟨rfl,rfl⟩,e4,e5,e6⟩:=xuc _ #[] hx V;refine⟨_,_,w',seen P b.fn es,?_,x zj M,e4,e5,xdb e6⟩;simp only[Array.empty_append]at e1;simp only[G,stepG,unwind,FR,e1,GStep.after,Array.append_empty,List.nil_append]
theorem xc9{hro:b.roundOf=none}(x:∀td,RS P md (G (FR b tm df td) cs) Φ Stop):RS P md (G (F b tm df (.code .ret::k)) cs) Φ Stop:=
 xmc rfl (fun w=>by simp[G,stepG,stepG.exec,F,FR,hro]) (x (.code .ret::k))
theorem ymc{hro:b.roundOf=none}(x:∀td,RS P md (G (FR b tm df td) cs) Φ Stop):RS P md (G (F b tm df []) cs) Φ Stop:=
 xmc rfl (fun w=>by simp[G,stepG,stepG.exec,F,FR,hro]) (x [])
end
end
inductive Rd where
 |none
 |some (l:Nat)
 |dfd
def Rd.round:Rd->Option Nat
 |.some l=>Option.some l
 |_=>Option.none
def Rd.kind:Rd->CallKind
 |.dfd=>.deferred
 |_=>.normal
def B(f:FuncId)(r:Rd):Frame:={fn:=f,tmps:=#[],todo:=[],defers:=[],mode:=.run,kind:=r.kind,roundOf:=r.round}
theorem xvw{f:FuncId}{r:Rd}:(B f r).kind≠.early:=by cases r<;>simp[B,Rd.kind]
def FL(f:FuncId)(r:Rd)(tm:List Value)(df:List Deferred)(k:List Item):Frame:=F (B f r) tm.toArray df k
def evl(tm:List Value):Operand->Value
 |.tmp t=>tm.getD t undef
 |.const v=>v
 |.global g=>w_ g 0
 |.func f=>.func (.func f) #[] #[]
def Cm(tm:List Value)(H:Option Tmp)(v:Value):List Value:=
 match H with
 |some d=>tm.set d v
 |none=>tm
theorem xez(tm:List Value):ev tm.toArray=evl tm:=by
 funext x;cases x<;>simp[ev,evl,Array.getD_eq_getD_getElem?,List.getD_eq_getElem?_getD]
theorem xdx(tm:List Value)(H:Option Tmp)(v:Value):put tm.toArray H v=(Cm tm H v).toArray:=by
 cases H<;>simp[put,Cm]
def Ej(ops:List Oper)(tm:List Value)(j:Nat):Option Bool:=
 match((ops[j]?).bind (·.dst)).bind (tm[·]?)with
 |some (.bool b)=>some b
 |_=>none
def Met(ops:List Oper)(tm:List Value)(o:Oper)(t:Bool):Prop:=
 match o.guard with
 |none=>t=true
 |some (j,want)=>(Ej ops tm j==some want)=t
theorem xrh(ops:List Oper)(tm:List Value):yielded ops.toArray tm.toArray=Ej ops tm:=by
 funext j;simp[yielded,Ej];rfl
theorem xbx{ops:List Oper}{tm:List Value}{o:Oper}{t:Bool}(m:Met ops tm o t):Region.wanted o (yielded ops.toArray tm.toArray)=t:=by
 rw[xrh];unfold Met at m;unfold Region.wanted;split at m
 ·rename_i e;rw[e];exact m.symm
 ·rename_i e;rw[e];exact m
theorem xrq{ops:List Oper}{tm:List Value}{o:Oper}(h:o.guard=none):Met ops tm o true:=by unfold Met;rw[h]
def Ex(P:Program)(tm:List Value)(o:Oper)(h:Heap)(K:Value->Heap->Prop):Prop:=
 wpS P (execOp (evl tm) o) h fun n h'=>∃v,n=.value v/\K v h'
def Exd(P:Program)(tm:List Value)(o:Oper)(h:Heap)(v:Value):Prop:=Ex P tm o h fun v' h'=>v'=v/\h'=h
def Bh:Op->Bool
 |.defer _=>false
 |_=>true
section
variable(P:Program)(md:Md)(f:FuncId)(r:Rd)(df:List Deferred)(k:List Item)(cs:List Frame)(Stop:Goroutine->Heap->Prop)
def RL(ops rest:List Oper)(tm:List Value)(Φ:Heap->Prop):Prop:=
 ∀H,ops=H++rest->RS P md (G (FL f r tm df (.inRegion ops.toArray (List.range' H.length rest.length)::k)) cs) Φ Stop
end
section
variable{P:Program}{md:Md}{f:FuncId}{r:Rd}{df:List Deferred}{k:List Item}{cs:List Frame}{Stop:Goroutine->Heap->Prop}
 {ops rest:List Oper}{tm tm':List Value}{h:Heap}{Φ:Heap->Prop}{o:Oper}
theorem yjv[Stb Φ]{id:Nat}{l:List Oper}(x:RL P md f r df k cs Stop l l tm Φ):RS P md (G (FL f r tm df (.code (.region id l.toArray false)::k)) cs) Φ Stop:=by
 refine xd9 ?_;have:=x [] rfl;simpa[FL,List.range_eq_range']using this
theorem ymn[Stb Φ](x:RS P md (G (FL f r tm df k) cs) Φ Stop):RL P md f r df k cs Stop ops [] tm Φ:=
 fun _ _=>xkd x
theorem xod{H:List Oper}(e:ops=H++o::rest):ops.toArray[H.length]?=some o:=by subst e;simp
theorem xiw{H:List Oper}:List.range' H.length (o::rest).length=H.length::List.range' (H.length+1) rest.length:=by simp[List.range'_succ]
theorem xmj[Stb Φ]{K:Value->Heap->Prop}(M:Met ops tm o true)(V:Bh o.op=true)(hx:∀h,Φ h->Ex P tm o h K)
 (n:∀v,RL P md f r df k cs Stop ops rest (Cm tm o.dst v) (K v)):RL P md f r df k cs Stop ops (o::rest) tm Φ:=by
 intro H e;rw[xiw];refine ylm (xod e) (xbx M) xvw (by revert V;cases o.op<;>simp[Bh]) fun h y=>?_;rw[xez];refine xix (hx h y) fun n' h'⟨v,O,hK⟩=>⟨v,O,?_⟩
 have:=n v (H++[o]) (by simp[e]) h' hK;rw[xdx];simpa[FL]using this
theorem yyc[Stb Φ]{v:Value}(hm:Met ops tm o true)(hx:∀h,Φ h->Exd P tm o h v)(O:Cm tm o.dst v=tm')(n:RL P md f r df k cs Stop ops rest tm' Φ)(hd:Bh o.op=true:=by rfl):
 RL P md f r df k cs Stop ops (o::rest) tm Φ:=
 xmj (K:=fun v' h'=>v'=v/\Φ h') hm hd (fun h y=>xix (hx h y) fun _ _⟨v',M,e2,V⟩=>⟨v',M,e2,by rw[V];exact y⟩) fun v' H e h⟨M,y⟩=>by subst M;rw[O];exact n H e h y
theorem yig[Stb Φ]{K:Heap->Prop}(M:Met ops tm o true)(V:Bh o.op=true)(hx:∀h,Φ h->wpS P (execOp (evl tm) o) h fun n h'=>n=.skip/\K h')
 (ht:Cm tm o.dst undef=tm')(n:RL P md f r df k cs Stop ops rest tm' K):RL P md f r df k cs Stop ops (o::rest) tm Φ:=by
 intro H e;rw[xiw];refine ynf (xod e) (xbx M) xvw (by revert V;cases o.op<;>simp[Bh]) fun h y=>?_;rw[xez];refine xix (hx h y) fun n' h'⟨O,hK⟩=>⟨O,?_⟩
 have:=n (H++[o]) (by simp[e]) h' hK;rw[xdx,ht];simpa[FL]using this
theorem xqb[Stb Φ](O:Met ops tm o false)(M:Cm tm o.dst undef=tm')(n:RL P md f r df k cs Stop ops rest tm' Φ):RL P md f r df k cs Stop ops (o::rest) tm Φ:=by
 intro H e;rw[xiw];refine xqp (xod e) (xbx O) ?_;have:=n (H++[o]) (by simp[e]);rw[xdx,M];simpa[FL]using this
theorem xgk{α:Type}{Ψ:α->Heap->Prop}(n:∀x,RL P md f r df k cs Stop ops rest tm (Ψ x)):RL P md f r df k cs Stop ops rest tm (fun h=>∃x,Ψ x h):=fun H e h⟨x,y⟩=>n x H e h y
theorem xcz{c:Prop}(n:c->RL P md f r df k cs Stop ops rest tm Φ):RL P md f r df k cs Stop ops rest tm (fun h=>c/\Φ h):=fun H e h⟨x,y⟩=>n x H e h y
theorem xa1{Ψ:Heap->Prop}(n:RL P md f r df k cs Stop ops rest tm Φ)(hi:∀h,Ψ h->Φ h):RL P md f r df k cs Stop ops rest tm Ψ:=fun H e h y=>n H e h (hi h y)
theorem xuf{g:Goroutine}{Ψ:Heap->Prop}(n:RS P md g Φ Stop)(hi:∀h,Ψ h->Φ h):RS P md g Ψ Stop:=fun h y=>n h (hi h y)
def Am(P:Program)(g:FuncId):Bool:=
 match P.funcs[g]? with
 | some fn => fn.name != "runtime.NumGoroutine" && fn.body.isSome
 |none=>false
theorem xlb{g:FuncId}{args:Array Value}{K:Next->Heap->Prop}(hc:Am P g=true)(x:K (.enter g args) h):wpS P (callFunc g args) h K:=by
 unfold Am at hc;unfold callFunc;refine xbq ?_;show wpS P program h _;simp only[program,wpS];split at hc
 ·rename_i fn H;simp only[Bool.and_eq_true,bne_iff_ne,ne_eq]at hc;rw[H];simp only;rw[if_neg (by simpa using hc.1),if_neg (by have:=hc.2;cases M:fn.body<;>simp_all)];exact xcq x
 ·cases hc
theorem xww{args:List Operand}{ats:Array TypeId}{d:Option Tmp}{ty:TypeId}{pos:String}{aft:Array Edge}{gd:Option (Nat×Bool)}{x:Operand}{g:FuncId}{first cap vs:List Value}
 (O:evl tm x=.func (.func g) first.toArray cap.toArray)(H:first++(args.map (evl tm)++cap)=vs)(M:Am P g=true):
 wpS P (execOp (evl tm) ⟨d,.call ⟨.value x,args.toArray,ats⟩,ty,pos,aft,gd⟩) h fun n h'=>n=.enter g vs.toArray/\h'=h:=by
 simp only[execOp];refine xbq ?_;unfold resolve;simp only[O,Deferred.ofValue];refine xcq ?_;simp only[invoke];refine xlb M ⟨?_,rfl⟩;rw[<- H];simp
theorem xsv[Stb Φ]{args:List Operand}{ats:Array TypeId}{d:Option Tmp}{ty:TypeId}{pos:String}{aft:Array Edge}{gd:Option (Nat×Bool)}{x:Operand}{g:FuncId}{first cap vs:List Value}{R:Value->Heap->Prop}
 (hm:Met ops tm ⟨d,.call ⟨.value x,args.toArray,ats⟩,ty,pos,aft,gd⟩ true)(hx:evl tm x=.func (.func g) first.toArray cap.toArray)(M:first++(args.map (evl tm)++cap)=vs)(O:Am P g=true)
 (hc:∀h,Φ h->Aa P md g vs.toArray h R)(n:∀v,RL P md f r df k cs Stop ops rest (Cm tm d v) (R v)):
 RL P md f r df k cs Stop ops (⟨d,.call ⟨.value x,args.toArray,ats⟩,ty,pos,aft,gd⟩::rest) tm Φ:=by
 intro H e;rw[xiw];refine xe9 (xod e) (xbx hm) xvw rfl (fun h y=>by rw[xez];exact xww hx M O) hc fun v h' V=>?_;have:=n v (H++[⟨d,.call ⟨.value x,args.toArray,ats⟩,ty,pos,aft,gd⟩]) (by simp[e]) h' V;rw[xdx];simpa[FL]using this
theorem xr3[sb:Stb Φ]{args:List Operand}{ats:Array TypeId}{d:Option Tmp}{ty:TypeId}{pos:String}{aft:Array Edge}{gd:Option (Nat×Bool)}{x:Operand}{g:FuncId}{first cap vs:List Value}{v:Value}
 (hm:Met ops tm ⟨d,.call ⟨.value x,args.toArray,ats⟩,ty,pos,aft,gd⟩ true)(hx:evl tm x=.func (.func g) first.toArray cap.toArray)(M:first++(args.map (evl tm)++cap)=vs)(V:Am P g=true)
 (hc:∀h,Φ h->Aa P md g vs.toArray h fun v' h'=>v'=v/\Af h h')(ht:Cm tm d v=tm')(n:RL P md f r df k cs Stop ops rest tm' Φ):
 RL P md f r df k cs Stop ops (⟨d,.call ⟨.value x,args.toArray,ats⟩,ty,pos,aft,gd⟩::rest) tm Φ:=
 xsv (R:=fun v' h'=>v'=v/\Φ h') hm hx M V (fun h y=>(hc h y).mono fun _ h'⟨O,e2⟩=>⟨O,sb.stb _ _ y e2⟩) fun v' H e h⟨O,y⟩=>by subst O;rw[ht];exact n H e h y
section
variable[Stb Φ]
theorem yqp{x y:Code}(z:RS P md (G (FL f r tm df (.code x::.code y::k)) cs) Φ Stop):RS P md (G (FL f r tm df (.code (.seq x y)::k)) cs) Φ Stop:=ymm z
theorem yjh(z:RS P md (G (FL f r tm df k) cs) Φ Stop):RS P md (G (FL f r tm df (.code .skip::k)) cs) Φ Stop:=yof z
theorem xh7{id:Nat}(z:RS P md (G (FL f r tm df k) cs) Φ Stop):RS P md (G (FL f r tm df (.inBlock id::k)) cs) Φ Stop:=xm6 z
theorem yzw{id:Nat}{c:Code}(z:RS P md (G (FL f r tm df (.code c::.inBlock id::k)) cs) Φ Stop):RS P md (G (FL f r tm df (.code (.block id c)::k)) cs) Φ Stop:=ydv z
theorem yph{id:Nat}{k':List Item}(H:exitTo id k=some k')(z:RS P md (G (FL f r tm df k') cs) Φ Stop):RS P md (G (FL f r tm df (.code (.exit id)::k)) cs) Φ Stop:=ypf H z
theorem yis{c:Operand}{x y:Code}{t:Bool}(hc:evl tm c=.bool t)(H:t=true->RS P md (G (FL f r tm df (.code x::k)) cs) Φ Stop)(M:t=false->RS P md (G (FL f r tm df (.code y::k)) cs) Φ Stop):
 RS P md (G (FL f r tm df (.code (.cond c x y)::k)) cs) Φ Stop:=by
 refine yrf (t:=t) (by rw[xez];exact hc) ?_;cases t
 ·exact M rfl
 ·exact H rfl
theorem ynh{c:Code}{m₀:Nat}(I:Nat->List Value->Heap->Prop)[sI:∀m tm,Stb (I m tm)](start:∀h,Φ h->I m₀ tm h)
 (M:∀m tm,(∀m' tm',m'<m->RS P md (G (FL f r tm' df (.inLoop c::k)) cs) (I m' tm') Stop)->RS P md (G (FL f r tm df (.code c::.inLoop c::k)) cs) (I m tm) Stop):
 RS P md (G (FL f r tm df (.code (.loop c)::k)) cs) Φ Stop:=by
 refine xv0 ?_
 suffices H:∀m tm,RS P md (G (FL f r tm df (.code c::.inLoop c::k)) cs) (I m tm) Stop from fun h y=>H _ _ h (start h y)
 intro m
 induction m using Nat.strongRecOn with
 |_ m ih=>exact fun tm=>M m tm fun m' tm' O=>xel (ih m' O tm')
end
theorem xed{fn:Func}{c:Code}{args:Array Value}{tm:List Value}{R:Value->Heap->Prop}(hf:P.funcs[f]?=some fn)(O:fn.body=some c)
 (H:args.toList++List.replicate (fn.ntmps-args.size) undef=tm)
 (x:∀(zq:Frame)(cs:List Frame)(Stop:Goroutine->Heap->Prop),(∀v h',R v h'->Reach P md (G (zq.finish v) cs) h' Stop)->
  RS P md (G (FL f .none tm [] [.code c]) (zq::cs)) Φ Stop)(M:Φ h):Aa P md f args h R:=by
 intro zq cs Stop K;have:=x zq cs Stop K h M;have e:Frame.enter P f args .normal=FL f .none tm [] [.code c]:=by
  unfold Frame.enter;simp only[hf,O,Option.map_some,Option.bind_some,Option.getD_some,FL,F,B,<- H];simp[Rd.kind,Rd.round]
 rw[e];exact this
def Res(P:Program)(h:Heap)(tm:List Value):List ResultVar->List Value->Prop
 |[],vs=>vs=[]
 |.tmp t::rs,vs=>∃v H,vs=v::H/\tm.getD t undef=v/\Res P h tm rs H
 |.cell a t::rs,vs=>∃v H,vs=v::H/\wpS P (do loadVar t (<- asAddr (tm.getD a undef))) h (fun v' h'=>v'=v/\h'=h)/\Res P h tm rs H
theorem xfs{rs:List ResultVar}:∀{vs:List Value}{acc:Array Value}{K:Array Value->Heap->Prop},Res P h tm rs vs->K (acc++vs.toArray) h->
 wpS P (rs.foldlM (fun(bs:Array Value)a=>bs.push <$> (match a with
  |.tmp t=>pure (tm.toArray.getD t undef)
  |.cell a t=>do loadVar t (<- asAddr (tm.toArray.getD a undef)):Sem Value)) acc) h K:=by
 induction rs with
 |nil=>intro vs acc K e x;simp only[Res]at e;subst e;exact xcq (by simpa using x)
 |cons a rs ih=>
   intro vs acc K e x;rw[List.foldlM_cons];have H:∀t,tm.toArray.getD t undef=tm.getD t undef:=fun t=>by simp[Array.getD_eq_getD_getElem?,List.getD_eq_getElem?_getD]
   cases a with
   |tmp t=>
     obtain⟨v,V,rfl,hv,O⟩:=e;refine xbq ?_;show wpS P (Sem.bind _ _) h _;refine xhd ?_;refine xcq ?_;refine xcq ?_;refine ih O ?_;rw[H,hv];simpa using x
   |cell a t=>
     obtain⟨v,V,rfl,hv,O⟩:=e;refine xbq ?_;show wpS P (Sem.bind _ _) h _;refine xhd ?_;have M:wpS P (do loadVar t (<- asAddr (tm.toArray.getD a undef))) h (fun v' h'=>v'=v/\h'=h):=by rw[H];exact hv
     refine xix M fun v' h'⟨e1,e2⟩=>?_;subst e1;subst e2;refine xcq ?_;refine ih O ?_;simpa using x
def Fq:List Value->Value
 |[v]=>v
 |vs=>.tuple vs.toArray
theorem xvc{fn:Func}{rs:List ResultVar}{vs:List Value}{v:Value}{K:Value->Heap->Prop}(H:fn.results=rs.toArray)(e:Res P h tm rs vs)(hv:Fq vs=v)(x:K v h):
 wpS P (results fn tm.toArray) h K:=by
 unfold results;refine xbq ?_;rw[H,Array.mapM_eq_foldlM,List.foldlM_toArray];refine xfs e ?_;refine xcq ?_;subst hv;simp only[Array.empty_append]
 match vs,x with
 |[],x=>exact x
 |[_],x=>exact x
 |_::_::_,x=>simpa[Fq]using x
theorem yhd[Stb Φ]{zq:Frame}{fn:Func}{rs:List ResultVar}{vs:List Value}{v:Value}(hf:P.funcs[f]?=some fn)(H:fn.results=rs.toArray)(e:∀h,Φ h->Res P h tm rs vs)(hv:Fq vs=v)
 (x:RS P md (G (zq.finish v) cs) Φ Stop):RS P md (G (FL f .none tm [] (.code .ret::k)) (zq::cs)) Φ Stop:=
 xc9 (hro:=rfl) fun _=>xdl hf rfl fun h y=>xvc H (e h y) hv (x h y)
theorem yoh[Stb Φ]{zq:Frame}{fn:Func}{rs:List ResultVar}{vs:List Value}{v:Value}(hf:P.funcs[f]?=some fn)(H:fn.results=rs.toArray)(e:∀h,Φ h->Res P h tm rs vs)(hv:Fq vs=v)
 (x:RS P md (G (zq.finish v) cs) Φ Stop):RS P md (G (FL f .none tm [] []) (zq::cs)) Φ Stop:=
 ymc (hro:=rfl) fun _=>xdl hf rfl fun h y=>xvc H (e h y) hv (x h y)
end
abbrev Ab:=Nat->Option Obj
def At(p:Ab)(a:Addr):Option Value:=
 match p a.block with
 |some (.cells c _ _)=>if a.spot.isSome then none else c[a.off]?
 |_=>none
def PLe(p p':Ab):Prop:=∀b o,p b=some o->p' b=some o
theorem PLe.refl(p:Ab):PLe p p:=fun _ _ x=>x
theorem PLe.trans{p q r:Ab}(x:PLe p q)(y:PLe q r):PLe p r:=fun b o z=>y b o (x b o z)
theorem PLe.cell{p p':Ab}(x:PLe p p'){a:Addr}{v:Value}(y:At p a=some v):At p' a=some v:=by
 unfold At at y⊢;split at y
 ·rename_i c t z H;rw[x _ _ H];exact y
 ·cases y
structure St(z9:Heap)(zz:List Nat)(p:Ab)(h:Heap)(L:List (Nat×Obj)):Prop where
 Cq:∀b,b<z9.size->b∉zz->h[b]?=z9[b]?
 size:z9.size<=h.size
 per:∀b o,p b=some o->h[b]?=some o
 own:∀x∈L,h[x.1]?=some x.2/\p x.1=none/\(z9.size<=x.1\/x.1∈zz)
 nod:(L.map (·.1)).Nodup
section
variable{z9 h h':Heap}{zz:List Nat}{p p':Ab}{L:List (Nat×Obj)}
theorem xmx{b:Nat}{o:Obj}(x:h[b]?=some o):b<h.size:=(Array.getElem?_eq_some_iff.1 x).1
theorem St.kept(s:St z9 [] p h L):Af z9 h:=⟨s.size,fun b H=>s.Cq b H s_⟩
theorem St.start(h:Heap)(p:Ab)(H:∀b o,p b=some o->h[b]?=some o):St h [] p h []:=
 ⟨fun _ _ _=>rfl,Nat.le_refl _,H,s_,s_⟩
theorem St.drop{x:Nat×Obj}(s:St z9 zz p h (x::L)):St z9 zz p h L:=
 ⟨s.Cq,s.size,s.per,fun y H=>s.own y (by simp[H]),by have:=s.nod;simp at this;exact this.2⟩
theorem St.sub{L':List (Nat×Obj)}(s:St z9 zz p h L)(hs:L'.Sublist L):St z9 zz p h L':=
 ⟨s.Cq,s.size,s.per,fun y H=>s.own y (hs.subset H),s.nod.sublist (hs.map _)⟩
theorem St.perm{L':List (Nat×Obj)}(s:St z9 zz p h L)(hs:L.Perm L'):St z9 zz p h L':=
 ⟨s.Cq,s.size,s.per,fun y H=>s.own y (hs.mem_iff.2 H),(hs.map (·.1)).nodup_iff.1 s.nod⟩
theorem St.call(s:St z9 zz p h L)(k:Af h h'):St z9 zz p h' L:=
 ⟨fun b M hn=>(k.Cq b (Nat.lt_of_lt_of_le M s.size)).trans (s.Cq b M hn),Nat.le_trans s.size k.size,
  fun b o x=>(k.Cq b (xmx (s.per b o x))).trans (s.per b o x),
  fun x H=>⟨(k.Cq _ (xmx (s.own x H).1)).trans (s.own x H).1,(s.own x H).2⟩,s.nod⟩
instance:Stb (fun h=>St z9 zz p h L):=⟨fun _ _ s k=>s.call k⟩
theorem St.push(s:St z9 zz p h L)(o:Obj):St z9 zz p (h.push o) ((h.size,o)::L):=by
 have k:Af h (h.push o):=⟨s_,fun b hb=>by rw[Array.getElem?_push,if_neg om]⟩
 have M:=s.call k;refine⟨M.Cq,M.size,M.per,?_,?_⟩
 ·intro x H;rcases List.mem_cons.1 H with rfl|H
  ·refine⟨s_,?_,.inl s.size⟩;cases V:p h.size with
   |none=>rfl
   |some y=>exact absurd (xmx (s.per _ _ V)) s_
  ·exact M.own x H
 ·simp only[List.map_cons,List.nodup_cons];refine⟨?_,s.nod⟩;intro O;obtain⟨x,H,e⟩:=List.mem_map.1 O;have:=xmx (s.own x H).1;omega
theorem mem_of_get?{α:Type}{l:List α}{i:Nat}{x:α}(h:l[i]?=some x):x∈l:=List.mem_of_getElem? h
theorem St.at(s:St z9 zz p h L){i b:Nat}{o:Obj}(H:L[i]?=some (b,o)):h[b]?=some o:=(s.own _ (mem_of_get? H)).1
theorem yhx{l:List Nat}(hn:l.Nodup){i j x:Nat}(hi:l[i]?=some x)(hj:l[j]?=some x):i=j:=by
 obtain⟨H,O⟩:=List.getElem?_eq_some_iff.1 hi;obtain⟨M,V⟩:=List.getElem?_eq_some_iff.1 hj;have h:=List.pairwise_iff_getElem.1 hn;rcases Nat.lt_trichotomy i j with hlt|rfl|hlt
 ·exact absurd (O.trans V.symm) (h i j H M hlt)
 ·rfl
 ·exact absurd (V.trans O.symm) (h j i M H hlt)
theorem St.Nz(s:St z9 zz p h L){i b:Nat}{o o':Obj}(O:L[i]?=some (b,o))(hb:h'[b]?=some o')(hs:h'.size=h.size)
 (M:∀c,c≠b->h'[c]?=h[c]?):St z9 zz p h' (L.set i (b,o')):=by
 have ho:=s.own _ (mem_of_get? O);have hp:∀c o,p c=some o->c≠b:=fun c o hc e=>by subst e;rw[ho.2.1]at hc;cases hc
 refine⟨fun c hc hn=>?_,by rw[hs];exact s.size,fun c o hc=>by rw[M c (hp c o hc)];exact s.per c o hc,?_,?_⟩
 ·by_cases e:c=b
  ·subst e;rcases ho.2.2 with x|x
   ·omega
   ·exact absurd x hn
  ·rw[M c e];exact s.Cq c hc hn
 ·intro x hx;obtain⟨j,H⟩:=List.getElem?_of_mem hx;rw[List.getElem?_set]at H;split at H
  ·split at H
   ·cases H;exact⟨hb,ho.2⟩
   ·cases H
  ·rename_i V;have a2:=s.own x (mem_of_get? H);have a3:x.1≠b:=by
    intro e;refine V (yhx s.nod (i:=i) (j:=j) (x:=b) ?_ ?_)
    ·rw[List.getElem?_map,O];rfl
    ·rw[List.getElem?_map,H];simp[e]
   rw[M _ a3];exact a2
 ·have:(L.set i (b,o')).map (·.1)=L.map (·.1):=by
   rw[List.map_set];refine List.ext_getElem? fun j=>?_;rw[List.getElem?_set];split
   ·rename_i e;subst e;simp only[List.length_map,List.getElem?_map,O,Option.map_some];rw[if_pos (List.getElem?_eq_some_iff.1 O).1]
   ·rfl
  rw[this];exact s.nod
theorem xu0{b off:Nat}{cs:Array Value}{T:TypeId}{z:Nat×Nat}{v:Value}(H:h[b]?=some (.cells cs T z)):
 (setCell h ⟨b,off,none⟩ v)[b]?=some (.cells (cs.setIfInBounds off v) T z):=by
 unfold setCell;rw[getElem?_modify',if_pos rfl,H];rfl
theorem xl6{b off c:Nat}{v:Value}(hc:c≠b):(setCell h ⟨b,off,none⟩ v)[c]?=h[c]?:=by
 unfold setCell;rw[getElem?_modify',if_neg (fun e=>hc e.symm)]
theorem xps{a:Addr}{v:Value}:(setCell h a v).size=h.size:=by simp[setCell]
theorem St.store(s:St z9 zz p h L){i b off:Nat}{cs:Array Value}{T:TypeId}{z:Nat×Nat}{v:Value}(H:L[i]?=some (b,.cells cs T z)):
 St z9 zz p (setCell h ⟨b,off,none⟩ v) (L.set i (b,.cells (cs.setIfInBounds off v) T z)):=
 s.Nz H (xu0 (s.at H)) xps fun _=>xl6
theorem St.grow(s:St z9 zz p h L)(_hle:PLe p p')(M:∀b o,p' b=some o->h[b]?=some o)(hn:∀x∈L,p' x.1=none):St z9 zz p' h L:=
 ⟨s.Cq,s.size,M,fun x H=>⟨(s.own x H).1,hn x H,(s.own x H).2.2⟩,s.nod⟩
def Gv(p:Ab)(b:Nat)(o:Obj):Ab:=fun c=>if c=b then some o else p c
theorem xcr{b:Nat}{o:Obj}(H:p b=none):PLe p (Gv p b o):=fun c x hc=>by
 unfold Gv;rw[if_neg];exact hc;intro e;subst e;rw[H]at hc;cases hc
theorem xav{b:Nat}{o:Obj}:Gv p b o b=some o:=if_pos rfl
theorem St.last{b:Nat}{o:Obj}(s:St z9 zz p h ((b,o)::L)):PLe p (Gv p b o)/\St z9 zz (Gv p b o) h L:=by
 have H:=s.own (b,o) s_;refine⟨xcr H.2.1,s.drop.grow (xcr H.2.1) ?_ ?_⟩
 ·intro c x hc;unfold Gv at hc;split at hc
  ·rename_i e;subst e;cases hc;exact H.1
  ·exact s.per c x hc
 ·intro x M;unfold Gv;have hn:=s.nod;simp only[List.map_cons,List.nodup_cons]at hn;rw[if_neg (fun e=>hn.1 (List.mem_map.2 ⟨x,M,e⟩))];exact(s.own x (by simp[M])).2.1
theorem St.cell(s:St z9 zz p h L){a:Addr}{v:Value}(x:At p a=some v):cell? h a=some v:=by
 unfold At at x;unfold cell?;split at x
 ·rename_i c t z H;rw[s.per _ _ H];exact x
 ·cases x
theorem St.Ff(s:St z9 zz p h L){i b off:Nat}{cs:Array Value}{T:TypeId}{z:Nat×Nat}{v:Value}(H:L[i]?=some (b,.cells cs T z))(hv:cs[off]?=some v):
 cell? h ⟨b,off,none⟩=some v:=by
 unfold cell?;rw[s.at H];exact hv
end
def Gd(P:Program)(t:TypeId):Option Bool:=(P.underlying t).map fun|.struct _=>true|.array _ _=>true|_=>false
def Bi(P:Program)(t:TypeId):Option Nat:=(P.info? t).map (·.size)
def Dh(P:Program)(t:TypeId):Option Nat:=(P.info? t).map (·.bytes)
def Dx(P:Program)(t:TypeId):Option Value:=(P.info? t).bind (·.zero)
def H8(P:Program)(t:TypeId):Option (List (Nat×Nat)):=
 match P.underlying t with
 |some (.struct fs)=>fs.toList.mapM fun f=>(Bi P f.type).map fun n=>(f.offset,n)
 |_=>none
section
variable{P:Program}{h:Heap}
theorem xfq{t:TypeId}{d:TypeDesc}{K:TypeDesc->Heap->Prop}(H:P.underlying t=some d)(x:K d h):wpS P (underlying t) h K:=by
 unfold underlying;refine xbq ?_;simp only[program,wpS,H];exact xcq x
theorem xqx{t:TypeId}{i:TypeInfo}{K:TypeInfo->Heap->Prop}(H:P.info? t=some i)(x:K i h):wpS P (typeInfo t) h K:=by
 unfold typeInfo;refine xbq ?_;simp only[program,wpS,H];exact xcq x
theorem xax{t:TypeId}{n:Nat}{K:Nat->Heap->Prop}(H:Bi P t=some n)(x:K n h):wpS P (sizeOf t) h K:=by
 unfold Bi at H;cases hi:P.info? t with
 |none=>rw[hi]at H;cases H
 |some i=>
   rw[hi]at H;cases H;unfold sizeOf;refine xbq (xqx hi ?_);exact xcq x
theorem xaz{t:TypeId}{v:Value}{K:Value->Heap->Prop}(H:Dx P t=some v)(x:K v h):wpS P (zeroValue t) h K:=by
 unfold Dx at H;cases hi:P.info? t with
 |none=>rw[hi]at H;cases H
 |some i=>
   rw[hi]at H;unfold zeroValue;refine xbq (xqx hi ?_);simp only[Option.bind_some]at H;simp only[H];exact xcq x
theorem xjb{t:TypeId}{b:Bool}{K:Bool->Heap->Prop}(H:Gd P t=some b)(x:K b h):wpS P (isAgg t) h K:=by
 unfold Gd at H;cases M:P.underlying t with
 |none=>rw[M]at H;cases H
 |some d=>
   rw[M]at H;unfold isAgg;refine xbq (xfq M ?_);cases d<;>simp at H<;>subst H<;>exact xcq x
theorem xlw{a:Addr}:∀{n i:Nat}{vs:List Value}{acc:Array Value}{K:Array Value->Heap->Prop},vs.length=n->
 (∀j v,vs[j]?=some v->cell? h (a.add (i+j))=some v)->K (acc++vs.toArray) h->wpS P (loadCellsFrom a i n acc) h K
 |0,i,vs,acc,K,hn,_,x=>by
   obtain rfl:=List.eq_nil_of_length_eq_zero hn;exact xcq (by simpa using x)
 |n+1,i,vs,acc,K,hn,hc,x=>by
   match vs,hn with
   |v::vs,hn=>
     unfold loadCellsFrom;refine xbq ?_;refine⟨rfl,v,by simpa using hc 0 v rfl,?_⟩;refine xlw (vs:=vs) (by simpa using hn) (fun j u H=>?_) (by simpa using x);have:=hc (j+1) u (by simpa using H);rwa[show i+1+j=i+(j+1) from by omega]
theorem xlz{a:Addr}{n:Nat}{vs:List Value}{K:Array Value->Heap->Prop}(hn:vs.length=n)(hc:∀j v,vs[j]?=some v->cell? h (a.add j)=some v)(x:K vs.toArray h):
 wpS P (loadCells a n) h K:=xlw hn (by simpa using hc) (by simpa using x)
theorem xjg{t:TypeId}{a:Addr}{v:Value}{K:Value->Heap->Prop}(H:Gd P t=some false)(hc:cell? h a=some v)(x:K v h):wpS P (loadVar t a) h K:=by
 unfold loadVar;refine xbq (xjb H ?_);exact⟨rfl,v,hc,x⟩
theorem xig{t:TypeId}{a:Addr}{n:Nat}{vs:List Value}{K:Value->Heap->Prop}(H:Gd P t=some true)(hs:Bi P t=some n)(hn:vs.length=n)
 (hc:∀j v,vs[j]?=some v->cell? h (a.add j)=some v)(x:K (.agg vs.toArray) h):wpS P (loadVar t a) h K:=by
 unfold loadVar;refine xbq (xjb H ?_);simp only[if_true];refine xbq (xax hs ?_);refine xbq (xlz hn hc ?_);exact xcq x
theorem xsx(b off n:Nat):(⟨b,off,none⟩:Addr).add n=⟨b,off+n,none⟩:=by unfold Addr.add;split<;>simp_all
end
open Go.RowKit (wrap64)
section
variable{P:Program}{tm:List Value}{h:Heap}{d:Option Tmp}{ty:TypeId}{pos:String}{aft:Array Edge}{gd:Option (Nat×Bool)}
theorem ybs{x:Bool}(h:x=false):(!x)=true:=by rw[h];rfl
theorem wrZ{n:Int}(h: -9223372036854775808<=n/\n<=9223372036854775807):IntKind.i64.wrap n=n:=IntWalk.i64_in n h
theorem xtz{o:Oper}{v:Value}{s:Sem Value}(e:execOp (evl tm) o=(do pure (.value (<- s))))(x:wpS P s h fun v' h'=>v'=v/\h'=h):Exd P tm o h v:=by
 unfold Exd Ex;rw[e];refine xbq (xix x fun v' h'⟨M,H⟩=>?_);exact xcq ⟨v',rfl,M,H⟩
theorem ylb{x:Operand}{v:Value}(H:evl tm x=v):Exd P tm ⟨d,.move x,ty,pos,aft,gd⟩ h v:=by
 unfold Exd Ex;simp only[execOp];exact xcq ⟨_,rfl,H,rfl⟩
theorem xq7{x:Operand}{v:Value}(H:evl tm x=v):Exd P tm ⟨d,.assign x,ty,pos,aft,gd⟩ h v:=by
 unfold Exd Ex;simp only[execOp];exact xcq ⟨_,rfl,H,rfl⟩
theorem xg5{c a b:Operand}{t:Bool}{v:Value}(hc:evl tm c=.bool t)(hv:(if t then evl tm a else evl tm b)=v):Exd P tm ⟨d,.pick c a b,ty,pos,aft,gd⟩ h v:=by
 unfold Exd Ex;simp only[execOp,hc];refine xbq ?_;refine xcq ?_;refine xcq ⟨_,rfl,?_,rfl⟩;rw[<- hv]
theorem xap{c a b:Operand}{t:Bool}{v:Value}(hc:evl tm c=.bool t)(H:t=true)(M:evl tm a=v):Exd P tm ⟨d,.pick c a b,ty,pos,aft,gd⟩ h v:=xg5 hc (by rw[H];exact M)
theorem xbp{c a b:Operand}{t:Bool}{v:Value}(hc:evl tm c=.bool t)(H:t=false)(M:evl tm b=v):Exd P tm ⟨d,.pick c a b,ty,pos,aft,gd⟩ h v:=xg5 hc (by rw[H];exact M)
theorem xxx{H:BinOp}{T T':TypeId}{x y:Operand}{v a b:Value}(V:evl tm x=a)(M:evl tm y=b)(O:∀K:Unit->Heap->Prop,K () h->wpS P (eqGuard H T x y a b) h K)
 (hv:wpS P (binOp H T a b) h fun v' h'=>v'=v/\h'=h):Exd P tm ⟨d,.binOp H T x y T',ty,pos,aft,gd⟩ h v:=by
 refine xtz (s:=do eqGuard H T x y a b;binOp H T a b) (by simp only[execOp,V,M]) ?_;refine xbq (O _ ?_);exact hv
theorem xhx{H:BinOp}{T:TypeId}{x y:Operand}{a b:Value}(M:(match H with|.eql=>false|.neq=>false|_=>true)=true){K:Unit->Heap->Prop}(k:K () h):wpS P (eqGuard H T x y a b) h K:=by
 unfold eqGuard;cases H<;>first|exact absurd M d_|(rw[if_pos (by rfl)];exact xcq k)
theorem xdk{H:BinOp}{T:TypeId}{x y:Operand}{k k':IntKind}{a b:Int}{K:Unit->Heap->Prop}(z:K () h):wpS P (eqGuard H T x y (.int k a) (.int k' b)) h K:=by
 unfold eqGuard;cases H<;>first|(rw[if_pos (by rfl)];exact xcq z)|(rw[if_neg d_];exact xcq z)
theorem Pd(a b:Int):(a==b)=decide (a=b):=by rw[Bool.eq_iff_iff];simp
theorem ysz{k:IntKind}{T T':TypeId}{x y:Operand}{a b n:Int}(M:evl tm x=.int k a)(H:evl tm y=.int k b)(hn:k.wrap (a+b)=n):Exd P tm ⟨d,.binOp .add T x y T',ty,pos,aft,gd⟩ h (.int k n):=
 xxx M H (fun K z=>xhx rfl z) (by simp only[binOp,ne_eq,not_true_eq_false,if_false,Op.intArith,hn];exact xcq ⟨rfl,rfl⟩)
theorem ykz{k:IntKind}{T T':TypeId}{x y:Operand}{a b n:Int}(M:evl tm x=.int k a)(H:evl tm y=.int k b)(hn:k.wrap (a-b)=n):Exd P tm ⟨d,.binOp .sub T x y T',ty,pos,aft,gd⟩ h (.int k n):=
 xxx M H (fun K z=>xhx rfl z) (by simp only[binOp,ne_eq,not_true_eq_false,if_false,Op.intArith,hn];exact xcq ⟨rfl,rfl⟩)
theorem ylz{k:IntKind}{T T':TypeId}{x y:Operand}{a b n:Int}(M:evl tm x=.int k a)(H:evl tm y=.int k b)(hn:k.wrap (a*b)=n):Exd P tm ⟨d,.binOp .mul T x y T',ty,pos,aft,gd⟩ h (.int k n):=
 xxx M H (fun K z=>xhx rfl z) (by simp only[binOp,ne_eq,not_true_eq_false,if_false,Op.intArith,hn];exact xcq ⟨rfl,rfl⟩)
theorem yal{k:IntKind}{T T':TypeId}{x y:Operand}{a b:Int}(M:evl tm x=.int k a)(H:evl tm y=.int k b):Exd P tm ⟨d,.binOp .lss T x y T',ty,pos,aft,gd⟩ h (.bool (decide (a<b))):=
 xxx M H (fun K z=>xhx rfl z) (by simp only[binOp,ne_eq,not_true_eq_false,if_false,Op.intCmp];exact xcq ⟨rfl,rfl⟩)
theorem ybl{k:IntKind}{T T':TypeId}{x y:Operand}{a b:Int}(M:evl tm x=.int k a)(H:evl tm y=.int k b):Exd P tm ⟨d,.binOp .leq T x y T',ty,pos,aft,gd⟩ h (.bool (decide (a<=b))):=
 xxx M H (fun K z=>xhx rfl z) (by simp only[binOp,ne_eq,not_true_eq_false,if_false,Op.intCmp];exact xcq ⟨rfl,rfl⟩)
theorem ycl{k:IntKind}{T T':TypeId}{x y:Operand}{a b:Int}(M:evl tm x=.int k a)(H:evl tm y=.int k b):Exd P tm ⟨d,.binOp .gtr T x y T',ty,pos,aft,gd⟩ h (.bool (decide (b<a))):=
 xxx M H (fun K z=>xhx rfl z) (by simp only[binOp,ne_eq,not_true_eq_false,if_false,Op.intCmp];exact xcq ⟨rfl,rfl⟩)
theorem ydl{k:IntKind}{T T':TypeId}{x y:Operand}{a b:Int}(M:evl tm x=.int k a)(H:evl tm y=.int k b):Exd P tm ⟨d,.binOp .geq T x y T',ty,pos,aft,gd⟩ h (.bool (decide (b<=a))):=
 xxx M H (fun K z=>xhx rfl z) (by simp only[binOp,ne_eq,not_true_eq_false,if_false,Op.intCmp];exact xcq ⟨rfl,rfl⟩)
theorem yel{k:IntKind}{T T':TypeId}{x y:Operand}{a b:Int}(M:evl tm x=.int k a)(H:evl tm y=.int k b):Exd P tm ⟨d,.binOp .eql T x y T',ty,pos,aft,gd⟩ h (.bool (decide (a=b))):=
 xxx M H (fun K z=>xdk z) (by simp only[binOp,ne_eq,not_true_eq_false,if_false,Op.intCmp];exact xcq ⟨by rw[Pd],rfl⟩)
theorem ywh{k:IntKind}{T T':TypeId}{x y:Operand}{a b:Int}(M:evl tm x=.int k a)(H:evl tm y=.int k b):Exd P tm ⟨d,.binOp .neq T x y T',ty,pos,aft,gd⟩ h (.bool (decide (a≠b))):=
 xxx M H (fun K z=>xdk z) (by simp only[binOp,ne_eq,not_true_eq_false,if_false,Op.intCmp];exact xcq ⟨by simp[bne,Pd],rfl⟩)
theorem yvh{T:TypeId}{x:Operand}{b:Bool}(H:evl tm x=.bool b):Exd P tm ⟨d,.unOp .not T x,ty,pos,aft,gd⟩ h (.bool (!b)):=
 xtz (s:=pure (.bool (!b))) (by simp only[execOp,H,Op.unary]) (xcq ⟨rfl,rfl⟩)
theorem xx1{k:IntKind}{T:TypeId}{x:Operand}{a n:Int}(H:evl tm x=.int k a)(hn:k.wrap (0-a)=n):Exd P tm ⟨d,.unOp .neg T x,ty,pos,aft,gd⟩ h (.int k n):=
 xtz (s:=pure (.int k n)) (by simp only[execOp,H,Op.unary,Op.intArith,hn]) (xcq ⟨rfl,rfl⟩)
theorem xsk{b:Builtin}{args:Array Operand}{ats:Array TypeId}{v:Value}{s:Sem Value}
 (e:∀cs,builtin b ats ty cs (args.map (evl tm))=(do pure (.value (<- s))))(x:wpS P s h fun v' h'=>v'=v/\h'=h):
 Exd P tm ⟨d,.call {callee:=.builtin b,args:=args,argTypes:=ats},ty,pos,aft,gd⟩ h v:=by
 unfold Exd Ex;simp only[execOp,resolve];refine xbq (xcq ?_);simp only[invoke];rw[e];refine xbq (xix x fun v' h'⟨M,H⟩=>?_);exact xcq ⟨v',rfl,M,H⟩
theorem xy1{t e:TypeId}{x:Operand}{a:Option Addr}{n c:Nat}(M:P.underlying t=some (.slice e))(H:evl tm x=.slice a n c):
 Exd P tm ⟨d,.call {callee:=.builtin .len,args:=#[x],argTypes:=#[t]},ty,pos,aft,gd⟩ h (.J n):=by
 refine xsk (s:=Builtin.len_ #[t] ty #[.slice a n c]) (fun cs=>by simp only[builtin,List.map_toArray,List.map_cons,List.map_nil,H]) ?_;simp only[Builtin.len_];refine xbq (xfq M ?_);exact xcq ⟨rfl,rfl⟩
theorem ymb{t:TypeId}{x:Operand}{s:ByteArray}(H:P.underlying t=some .string)(M:evl tm x=.string s):
 Exd P tm ⟨d,.call {callee:=.builtin .len,args:=#[x],argTypes:=#[t]},ty,pos,aft,gd⟩ h (.J s.size):=by
 refine xsk (s:=Builtin.len_ #[t] ty #[.string s]) (fun cs=>by simp only[builtin,List.map_toArray,List.map_cons,List.map_nil,M]) ?_;simp only[Builtin.len_];refine xbq (xfq H ?_);exact xcq ⟨rfl,rfl⟩
theorem ymz{ats:Array TypeId}{k k':IntKind}{x y:Operand}{a b:Int}(M:evl tm x=.int k a)(H:evl tm y=.int k' b):
 Exd P tm ⟨d,.call {callee:=.builtin .min,args:=#[x,y],argTypes:=ats},ty,pos,aft,gd⟩ h (.int k (min a b)):=by
 refine xsk (s:=pure (.int k (min a b))) (fun cs=>?_) (xcq ⟨rfl,rfl⟩);have e:(if b<a then b else a)=min a b:=by rw[Int.min_def];split<;>split<;>omega
 simp[builtin,M,H,Builtin.min_,Builtin.min2,e]
theorem yzh{ats:Array TypeId}{k k':IntKind}{x y:Operand}{a b:Int}(M:evl tm x=.int k a)(H:evl tm y=.int k' b):
 Exd P tm ⟨d,.call {callee:=.builtin .max,args:=#[x,y],argTypes:=ats},ty,pos,aft,gd⟩ h (.int k (max a b)):=by
 refine xsk (s:=pure (.int k (max a b))) (fun cs=>?_) (xcq ⟨rfl,rfl⟩);have e:(if b>a then b else a)=max a b:=by rw[Int.max_def];split<;>split<;>omega
 simp[builtin,M,H,Builtin.max_,Builtin.max2,e]
theorem xfm{x:Operand}{i:Nat}{vs:Array Value}{v:Value}(H:evl tm x=.tuple vs)(hv:vs[i]?=some v):Exd P tm ⟨d,.extract x i,ty,pos,aft,gd⟩ h v:=
 xtz (s:=pure v) (by simp only[execOp,H,Instr.extract,hv]) (xcq ⟨rfl,rfl⟩)
theorem xug{fn:Fn}{first cap:List Operand}{a b:List Value}(H:first.map (evl tm)=a)(M:cap.map (evl tm)=b):Exd P tm ⟨d,.makeFunc fn first.toArray cap.toArray,ty,pos,aft,gd⟩ h (.func fn a.toArray b.toArray):=
 xtz (s:=pure (.func fn a.toArray b.toArray)) (by simp only[execOp,Instr.makeFunc,<- H,<- M,List.map_toArray]) (xcq ⟨rfl,rfl⟩)
theorem xyg{fs:List Field}:∀{pl:List (Nat×Nat)}{acc:Array (Nat×Nat)}{K:Array (Nat×Nat)->Heap->Prop},
 (fs.mapM fun f=>(Bi P f.type).map fun n=>(f.offset,n))=some pl->K (acc++pl.toArray) h->
 wpS P (fs.foldlM (fun(bs:Array (Nat×Nat))f=>bs.push <$> (do pure (f.offset,<- sizeOf f.type):Sem (Nat×Nat))) acc) h K:=by
 induction fs with
 |nil=>intro pl acc K e x;simp at e;subst e;exact xcq (by simpa using x)
 |cons f fs ih=>
   intro pl acc K e x;simp only[List.mapM_cons,Option.bind_eq_bind]at e;cases hs:Bi P f.type with
   |none=>rw[hs]at e;cases e
   |some n=>
     rw[hs]at e;simp only[Option.map_some,Option.bind_some]at e;cases H:(fs.mapM fun f=>(Bi P f.type).map fun n=>(f.offset,n))with
     |none=>rw[H]at e;cases e
     |some pl'=>
       rw[H]at e;simp at e;subst e;rw[List.foldlM_cons];refine xbq ?_;show wpS P (Sem.bind _ _) h _;refine xhd ?_;refine xbq (xax hs ?_);refine xcq ?_;refine xcq ?_;exact ih H (by simpa using x)
theorem xjf{t:TypeId}{parts:List (Nat×Operand)}{z:Value}{pl:List (Nat×Nat)}{cells:Array Value}{vs:List (Nat×Value)}(O:Dx P t=some z)(H:H8 P t=some pl)
 (M:(parts.map fun(i,x)=>(i,evl tm x))=vs)(hf:Instr.fill (fun i=>pl[i]?) z.cells vs=some cells):Exd P tm ⟨d,.build t parts.toArray,ty,pos,aft,gd⟩ h (.agg cells):=by
 unfold H8 at H;split at H
 ·rename_i fs V;refine xtz (s:=Instr.build t (parts.toArray.map fun(i,x)=>(i,evl tm x))) rfl ?_;unfold Instr.build;refine xbq (xaz O ?_);refine xbq (xfq V ?_);refine xbq ?_;rw[Array.mapM_eq_foldlM,<- Array.foldlM_toList];refine xyg H ?_;simp only[Array.empty_append,List.map_toArray,M,List.getElem?_toArray,hf];exact xcq ⟨rfl,rfl⟩
 ·cases H
theorem ypz{t V:TypeId}{x:Operand}{i:Nat}{cs:Array Value}{off:Nat}{v:Value}{fs:Array Field}{O:Field}(hu:P.underlying t=some (.struct fs))(hi:fs[i]?=some O)(M:O.type=V)(H:O.offset=off)
 (ha:Gd P V=some false)(hx:evl tm x=.agg cs)(hv:cs[off]?=some v):Exd P tm ⟨d,.field t x i,ty,pos,aft,gd⟩ h v:=by
 refine xtz (s:=Instr.field t (.agg cs) i) (by simp only[execOp,hx]) ?_;unfold Instr.field;refine xbq (xfq hu ?_);simp only[hi,asAgg,part,M,H];refine xbq (xcq ?_);refine xbq (xjb ha ?_);simp only[Bool.false_eq_true,if_false,hv];exact xcq ⟨rfl,rfl⟩
def Lp(P:Program)(s:TypeId)(i:Nat):Option (Nat×Nat):=
 match P.underlying s with
 |some (.struct fs)=>(fs[i]?).bind fun f=>(Bi P f.type).map fun n=>(f.offset,n)
 |_=>none
theorem xgv{s:TypeId}{x:Operand}{i o n:Nat}{a a':Addr}(hf:Lp P s i=some (o,n+1))(O:evl tm x=.pointer (some a))(H:a.add o=a'):
 Exd P tm ⟨d,.fieldAddr s x i,ty,pos,aft,gd⟩ h (.pointer (some a')):=by
 unfold Lp at hf;split at hf
 ·rename_i fs M;cases hi:fs[i]? with
  |none=>rw[hi]at hf;cases hf
  |some fd=>
    rw[hi]at hf;cases hs:Bi P fd.type with
    |none=>simp[hs]at hf
    |some m=>
      simp[hs]at hf;obtain⟨V,rfl⟩:=hf;refine xtz (s:=Instr.fieldAt s (.pointer (some a)) i) (by simp only[execOp,O]) ?_;unfold Instr.fieldAt;refine xbq (xfq M ?_);simp only[hi,Instr.sureAddr];refine xbq (xcq ?_);refine xbq ?_;unfold fieldPlace;refine xbq (xax hs ?_);rw[if_neg om];refine xcq ?_;refine xcq ⟨?_,rfl⟩;rw[V,H]
 ·cases hf
theorem xjk{t e:TypeId}{x y:Operand}{w n c:Nat}{k:IntKind}{i:Int}{a a':Addr}(H:P.underlying t=some (.slice e))(hs:Bi P e=some w)(V:evl tm x=.slice (some a) n c)(O:evl tm y=.int k i)
 (h0:0<=i)(h1:i<n)(M:a.add (i.toNat*w)=a'):Exd P tm ⟨d,.indexAddr t x y,ty,pos,aft,gd⟩ h (.pointer (some a')):=by
 refine xtz (s:=Instr.indexAt t (.slice (some a) n c) (.int k i)) (by simp only[execOp,V,O]) ?_;unfold Instr.indexAt;refine xbq (xcq ?_);simp only;refine xbq (xfq H ?_);simp only;refine xbq (xcq ?_);simp only;refine xbq (xfq H ?_);rw[if_pos ⟨h0,h1⟩];refine xbq (xax hs ?_);exact xcq ⟨by rw[M],rfl⟩
theorem xxk{t e:TypeId}{x y:Operand}{w n c i:Nat}{k:IntKind}{a:Addr}(O:P.underlying t=some (.slice e))(hs:Bi P e=some w)(M:evl tm x=.slice (some a) n c)(H:evl tm y=.int k (i:Nat))
 (V:i<n):Exd P tm ⟨d,.indexAddr t x y,ty,pos,aft,gd⟩ h (.pointer (some (a.add (i*w)))):=
 xjk O hs M H om om (by rw[Int.toNat_natCast])
theorem xif{t:TypeId}{x:Operand}{a:Addr}{v:Value}(H:Gd P t=some false)(M:evl tm x=.pointer (some a))(hc:cell? h a=some v):Exd P tm ⟨d,.load t x,ty,pos,aft,gd⟩ h v:=by
 refine xtz (s:=Instr.loadAt t (.pointer (some a))) (by simp only[execOp,M]) ?_;unfold Instr.loadAt;refine xbq (xcq ?_);exact xjg H hc ⟨rfl,rfl⟩
theorem xhf{t:TypeId}{x:Operand}{a:Addr}{n:Nat}{vs:List Value}(M:Gd P t=some true)(hs:Bi P t=some n)(hn:vs.length=n)(H:evl tm x=.pointer (some a))
 (hc:∀j v,vs[j]?=some v->cell? h (a.add j)=some v):Exd P tm ⟨d,.load t x,ty,pos,aft,gd⟩ h (.agg vs.toArray):=by
 refine xtz (s:=Instr.loadAt t (.pointer (some a))) (by simp only[execOp,H]) ?_;unfold Instr.loadAt;refine xbq (xcq ?_);exact xig M hs hn hc ⟨rfl,rfl⟩
section
variable{z9:Heap}{zz:List Nat}{p:Ab}{L:List (Nat×Obj)}
theorem xwb{t:TypeId}{x:Operand}{i b off:Nat}{cs:Array Value}{T:TypeId}{z:Nat×Nat}{v:Value}(s:St z9 zz p h L)(M:Gd P t=some false)(H:evl tm x=w_ b off)
 (O:L[i]?=some (b,.cells cs T z))(hv:cs[off]?=some v):Exd P tm ⟨d,.load t x,ty,pos,aft,gd⟩ h v:=
 xif M H (s.Ff O hv)
theorem xcb{t:TypeId}{x:Operand}{i b off n:Nat}{cs:Array Value}{T:TypeId}{z:Nat×Nat}{vs:List Value}(s:St z9 zz p h L)(M:Gd P t=some true)(hs:Bi P t=some n)(O:evl tm x=w_ b off)
 (V:L[i]?=some (b,.cells cs T z))(hv:(cs.toList.drop off).take n=vs)(hn:vs.length=n):Exd P tm ⟨d,.load t x,ty,pos,aft,gd⟩ h (.agg vs.toArray):=
 xhf M hs hn O fun j v H=>by
  rw[xsx];refine s.Ff V ?_;subst hv;rw[List.getElem?_take]at H;split at H
  ·rw[List.getElem?_drop]at H;simpa using H
  ·cases H
theorem xvb{t:TypeId}{x:Operand}{a:Addr}{v:Value}(s:St z9 zz p h L)(H:Gd P t=some false)(M:evl tm x=.pointer (some a))(hv:At p a=some v):Exd P tm ⟨d,.load t x,ty,pos,aft,gd⟩ h v:=
 xif H M (s.cell hv)
theorem xbb{t:TypeId}{x:Operand}{a:Addr}{n:Nat}{vs:List Value}(s:St z9 zz p h L)(M:Gd P t=some true)(hs:Bi P t=some n)(H:evl tm x=.pointer (some a))
 (hn:vs.length=n)(hv:∀j v,vs[j]?=some v->At p (a.add j)=some v):Exd P tm ⟨d,.load t x,ty,pos,aft,gd⟩ h (.agg vs.toArray):=
 xhf M hs hn H fun j v O=>s.cell (hv j v O)
variable{md:Md}{f:FuncId}{r:Rd}{df:List Deferred}{k:List Item}{cs:List Frame}{Stop:Goroutine->Heap->Prop}{ops rest:List Oper}{tm':List Value}
theorem xqz{T:TypeId}{cells:Array Value}{K:Addr->Heap->Prop}(x:K ⟨h.size,0,none⟩ (h.push (.cells cells T))):wpS P (newRow T cells) h K:=by
 unfold newRow;refine xbq ?_;exact xcq (P:=P) x
theorem ynn{dd:Nat}{T:TypeId}{x:Operand}{v:Value}(H:Met ops tm ⟨some dd,.box T x,ty,pos,aft,gd⟩ true)(M:evl tm x=v)
 (n:∀b,RL P md f r df k cs Stop ops rest (tm.set dd (w_ b 0)) (fun h=>St z9 zz p h ((b,.cells v.cells T (0,0))::L))):
 RL P md f r df k cs Stop ops (⟨some dd,.box T x,ty,pos,aft,gd⟩::rest) tm (fun h=>St z9 zz p h L):=by
 refine xmj (K:=fun v' h'=>∃b,v'=w_ b 0/\St z9 zz p h' ((b,.cells v.cells T (0,0))::L)) H rfl (fun h s=>?_) fun v'=>xgk fun b=>xcz fun e=>by subst e;exact n b
 unfold Ex;simp only[execOp,M];refine xbq ?_;unfold Instr.box newVar;refine xbq (xqz ?_);refine xcq ?_;exact xcq ⟨_,rfl,_,rfl,s.push _⟩
theorem ynv{dd:Nat}{T:TypeId}{z:Value}{cells:Array Value}(H:Met ops tm ⟨some dd,.alloc T,ty,pos,aft,gd⟩ true)(M:Dx P T=some z)(hc:z.cells=cells)
 (n:∀b,RL P md f r df k cs Stop ops rest (tm.set dd (w_ b 0)) (fun h=>St z9 zz p h ((b,.cells cells T (0,0))::L))):
 RL P md f r df k cs Stop ops (⟨some dd,.alloc T,ty,pos,aft,gd⟩::rest) tm (fun h=>St z9 zz p h L):=by
 refine xmj (K:=fun v' h'=>∃b,v'=w_ b 0/\St z9 zz p h' ((b,.cells cells T (0,0))::L)) H rfl (fun h s=>?_) fun v'=>xgk fun b=>xcz fun e=>by subst e;exact n b
 unfold Ex;simp only[execOp];refine xbq ?_;unfold Instr.alloc;refine xbq (xaz M ?_);simp only;unfold newVar;rw[hc];refine xbq (xqz ?_);refine xcq ?_;exact xcq ⟨_,rfl,_,rfl,s.push _⟩
theorem xzg(cs:Array Value)(i:Nat)(v:Value):cs.setIfInBounds i v=(cs.toList.set i v).toArray:=by
 apply Array.ext';simp
def B6(cs:List Value)(off:Nat):List Value->List Value
 |[]=>cs
 |v::vs=>B6 (cs.set off v) (off+1) vs
theorem xnz{b:Nat}{T:TypeId}{i:Nat}:∀{vs:List Value}{off j:Nat}{h:Heap}{cs:List Value}{L:List (Nat×Obj)}{K:Unit->Heap->Prop},St z9 zz p h L->L[i]?=some (b,.cells cs.toArray T (0,0))->
 off+j+vs.length<=cs.length->(∀v∈vs,A7 v=true)->
 (∀h',St z9 zz p h' (L.set i (b,.cells (B6 cs (off+j) vs).toArray T (0,0)))->K () h')->wpS P (storeCells ⟨b,off,none⟩ vs j) h K
 |[],off,j,h,cs,L,K,s,hL,_,_,n=>by
   refine xcq (n h ?_);have:L.set i (b,.cells (B6 cs (off+j) []).toArray T (0,0))=L:=by
    refine List.ext_getElem? fun m=>?_;rw[List.getElem?_set];split
    ·rename_i e;subst e;rw[if_pos (List.getElem?_eq_some_iff.1 hL).1,hL];rfl
    ·rfl
   rw[this];exact s
 |v::vs,off,j,h,cs,L,K,s,hL,hlen,h1,n=>by
   unfold storeCells;refine xbq ?_;rw[xsx];have hi:i<L.length:=(List.getElem?_eq_some_iff.1 hL).1;simp only[List.length_cons]at hlen;refine⟨rfl,h1 v s_,⟨cs[off+j],s.Ff hL s_⟩,?_,?_⟩
   ·unfold frozenAt;rw[s.at hL];simp
   ·show wpS P (storeCells _ vs (j+1)) _ K;have M:=s.store (off:=off+j) (v:=v) hL;rw[xzg]at M;refine xnz (i:=i) (T:=T) M (cs:=cs.set (off+j) v) (by rw[List.getElem?_set_self hi]) (by simp;omega) (fun u O=>h1 u (by simp[O])) fun h' H=>n h' ?_;rw[List.set_set]at H;exact H
theorem xq3{T T':TypeId}{x y:Operand}{i b off:Nat}{cs' H:List Value}{v:Value}{M:Nat}(hm:Met ops tm ⟨none,.store T x y,ty,pos,aft,gd⟩ true)(hs:Bi P T=some M)
 (hx:evl tm x=w_ b off)(V:evl tm y=v)(hL:L[i]?=some (b,.cells cs'.toArray T' (0,0)))(hv:v.cells.size=M)(h1:v.cells.toList.all A7=true)(hlen:off+v.cells.size<=cs'.length)(h2:B6 cs' off v.cells.toList=H)
 (n:RL P md f r df k cs Stop ops rest tm (fun h=>St z9 zz p h (L.set i (b,.cells H.toArray T' (0,0))))):
 RL P md f r df k cs Stop ops (⟨none,.store T x y,ty,pos,aft,gd⟩::rest) tm (fun h=>St z9 zz p h L):=by
 refine yig (K:=fun h'=>St z9 zz p h' (L.set i (b,.cells H.toArray T' (0,0)))) hm rfl (fun h s=>?_) rfl n;simp only[execOp,hx,V];refine xbq ?_;unfold Instr.storeAt;refine xbq (xcq ?_);unfold storeVar;refine xbq (xax hs ?_);rw[if_neg (by simpa using hv)];refine xnz s hL (by simpa using hlen) (fun u hu=>List.all_eq_true.1 h1 u hu) fun h' O=>?_;refine xcq ⟨rfl,?_⟩;rw[Nat.add_zero,h2]at O;exact O
end
end
def adr(a:Option Addr):Addr:=a.getD ⟨0,0,none⟩
theorem xs0{a:Option Addr}(n c:Nat)(h:a=some (adr a)):Value.slice a n c=.slice (some (adr a)) n c:=by rw[<- h]
def Per(p:Ab)(h:Heap):Prop:=∀b o,p b=some o->h[b]?=some o
structure Sl(p:Ab)(a:Option Addr)(n:Nat)(w:Nat)(es:List (List Value)):Prop where
 len:es.length=n
 wid:∀e∈es,e.length=w
 ne:0<n->a=some (adr a)
 get:∀i e,es[i]?=some e-> ∀j x,e[j]?=some x->At p ((((adr a).add (i*w))).add j)=some x
theorem Sl.mono{p p':Ab}{a:Option Addr}{n w:Nat}{es:List (List Value)}(H:PLe p p')(s:Sl p a n w es):Sl p' a n w es:=
 ⟨s.len,s.wid,s.ne,fun i e hi j x M=>H.cell (s.get i e hi j x M)⟩
theorem Sl.nil(p:Ab)(w:Nat)(a:Option Addr):Sl p a 0 w []:=⟨rfl,s_,fun h=>absurd h om,s_⟩
theorem xi2(a:Addr)(m n:Nat):(a.add m).add n=a.add (m+n):=by
 unfold Addr.add;by_cases H:m=0
 ·subst H;simp
 ·by_cases hn:n=0
  ·subst hn;simp
  ·rw[if_neg H,if_neg hn,if_neg om];simp[Nat.add_assoc]
theorem Sl.cut{p:Ab}{a:Option Addr}{n w:Nat}{es:List (List Value)}(s:Sl p a n w es){lo hi:Nat}(h1:lo<=hi)(h2:hi<=n){a':Option Addr}(M:lo<hi->a'=some ((adr a).add (lo*w))):
 Sl p a' (hi-lo) w ((es.drop lo).take (hi-lo)):=by
 refine⟨by rw[List.length_take,List.length_drop,s.len];omega,fun e he=>s.wid e (List.mem_of_mem_drop (List.mem_of_mem_take he)),fun h=>by rw[M om];rfl,?_⟩;intro i e H j x O;rw[List.getElem?_take]at H;split at H
 ·rename_i V;rw[List.getElem?_drop]at H;have:=s.get _ e H j x O;rw[M om];show At p ((((adr a).add (lo*w)).add (i*w)).add j)=_;rw[xi2 (adr a),<- Nat.add_mul];exact this
 ·cases H
def As(p:Ab)(a:Option Addr)(n:Nat)(xs:List Int):Prop:=Sl p a n 1 (xs.map fun x=>[.J x])
theorem As.len{p:Ab}{a:Option Addr}{n:Nat}{xs:List Int}(s:As p a n xs):xs.length=n:=by have:=Sl.len s;simpa using this
theorem As.mono{p p':Ab}{a:Option Addr}{n:Nat}{xs:List Int}(H:PLe p p')(s:As p a n xs):As p' a n xs:=Sl.mono H s
theorem As.ne{p:Ab}{a:Option Addr}{n:Nat}{xs:List Int}(s:As p a n xs)(H:0<n):a=some (adr a):=Sl.ne s H
theorem As.get{p:Ab}{a:Option Addr}{n k:Nat}{xs:List Int}(s:As p a n xs)(H:k<n):At p ((adr a).add (k*1))=some (.J (xs.getD k 0)):=by
 have M:=s.len;have:=Sl.get s k [.J (xs.getD k 0)] (by rw[List.getElem?_map,List.getD_eq_getElem?_getD,List.getElem?_eq_getElem om];rfl) 0 _ rfl;exact this
def Ac(T:TypeId)(w:Nat)(v:Value)(es:List (List Value))(X:List (Nat×Obj)):Prop:=
 (∀e∈es,e.length=w)/\
 ((v=.slice none 0 0/\es=[]/\X=[])\/
  ∃b cs cap rest,v=.slice (some ⟨b,0,none⟩) es.length cap/\X=[(b,.cells (List.toArray cs) T (0,0))]/\cs=es.flatten++rest/\cs.length=cap*w/\(w=1->cap<=9223372036854775807))
theorem Ac.empty(T:TypeId)(w:Nat):Ac T w (.slice none 0 0) [] []:=⟨s_,.inl ⟨rfl,rfl,rfl⟩⟩
theorem xnq{es:List (List Value)}{w:Nat}(h:∀e∈es,e.length=w):es.flatten.length=es.length*w:=by
 induction es with
 |nil=>simp
 |cons e es ih=>simp only[List.flatten_cons,List.length_append,List.length_cons,ih fun x H=>h x (by simp[H]),h e s_,Nat.add_mul,Nat.one_mul];omega
theorem xej{w:Nat}:∀{es:List (List Value)},(∀e∈es,e.length=w)-> ∀{i:Nat}{e:List Value},es[i]?=some e-> ∀{j:Nat}{x:Value},e[j]?=some x->es.flatten[i*w+j]?=some x
 |[],_,i,e,hi,_,_,_=>by simp at hi
 |e₀::es,h,i,e,hi,j,x,hj=>by
   have H:=h e₀ s_;cases i with
   |zero=>
     simp at hi;subst hi;rw[List.flatten_cons,Nat.zero_mul,Nat.zero_add,List.getElem?_append_left (List.getElem?_eq_some_iff.1 hj).1];exact hj
   |succ i=>
     simp at hi;have:=xej (fun x M=>h x (by simp[M])) hi hj;rw[List.flatten_cons,List.getElem?_append_right (by rw[H,Nat.succ_mul];omega),H,Nat.succ_mul];rw[show i*w+w+j-w=i*w+j from by omega];exact this
theorem Ac.last{z9 h:Heap}{zz:List Nat}{p:Ab}{L X:List (Nat×Obj)}{T:TypeId}{w:Nat}{v:Value}{es:List (List Value)}(o:Ac T w v es X)(s:St z9 zz p h (X++L)):
 ∃p' a cap,PLe p p'/\St z9 zz p' h L/\v=.slice a es.length cap/\Sl p' a es.length w es/\(∀b,p b=none->b<z9.size->b∉zz->p' b=none):=by
 obtain⟨hw,⟨rfl,rfl,rfl⟩|⟨b,cs,cap,rest,rfl,rfl,O,hlen,_⟩⟩:=o
 ·exact⟨p,none,0,.refl _,s,rfl,.nil _ _ _,fun b M _ _=>M⟩
 ·have M:=s.own (b,.cells cs.toArray T (0,0)) s_;obtain⟨H,s'⟩:=s.last;refine⟨_,some ⟨b,0,none⟩,cap,H,s',rfl,⟨rfl,hw,fun _=>rfl,?_⟩,?_⟩
  ·intro i e hi j x hj;show At _ (((⟨b,0,none⟩:Addr).add (i*w)).add j)=_;rw[xsx,xsx];unfold At;simp only[xav,Option.isSome_none,Bool.false_eq_true,if_false,List.getElem?_toArray,Nat.zero_add];rw[O,List.getElem?_append_left]
   ·exact xej hw hi hj
   ·exact(List.getElem?_eq_some_iff.1 (xej hw hi hj)).1
  ·intro c hc V hn;unfold Gv;rw[if_neg]
   ·exact hc
   ·intro e;subst e;rcases M.2.2 with x|x
    ·exact absurd V om
    ·exact hn x
section
variable{P:Program}{z9 h:Heap}{zz:List Nat}{p:Ab}{A X C:List (Nat×Obj)}
theorem xo1{H cap by':Nat}(hc:cap<H)(hn:H*by'<=2^45)(hb:by'<=2^20):Builtin.nextslicecap H cap*by'<=2^48:=by
 have g:∀r c,c<=H->Builtin.growBy H r c<=2*H+192*1+192:=by
  intro r
  induction r with
  |zero=>intro c hc;simp only[Builtin.growBy];omega
  |succ r ih=>
    intro c hc;simp only[Builtin.growBy];split
    ·omega
    ·rename_i M;by_cases O:c+(c+768) / 4<=H
     ·exact ih _ O
     ·cases r with
      |zero=>simp only[Builtin.growBy];omega
      |succ r=>simp only[Builtin.growBy];rw[if_pos om];omega
 have V:Builtin.nextslicecap H cap<=2*H+384:=by
  unfold Builtin.nextslicecap;split
  ·omega
  ·split
   ·omega
   ·have:=g 4 cap om;omega
 calc Builtin.nextslicecap H cap*by'<=(2*H+384)*by':=Nat.mul_le_mul_right _ V
  _=2*(H*by')+384*by':=by rw[Nat.add_mul,Nat.mul_assoc]
  _<=2^48:=om
theorem xsj(z:Array Value)(n:Nat):(Builtin.zeroCells z n).toList.length=n*z.size:=by simp[Builtin.zeroCells]
theorem xqv:∀{vs:List Value}{a r:List Value},vs.length<=r.length->B6 (a++r) a.length vs=a++(vs++r.drop vs.length)
 |[],a,r,_=>by simp[B6]
 |v::vs,a,r,hl=>by
   match r,hl with
   |x::r,hl=>
     simp only[B6];rw[List.set_append_right _ _ (Nat.le_refl _),Nat.sub_self,List.set_cons_zero];have:=xqv (vs:=vs) (a:=a++[v]) (r:=r) (by simpa using hl);simp only[List.length_append,List.length_singleton,List.append_assoc,List.singleton_append]at this;rw[this];simp
theorem xth{sT xT eT ty:TypeId}{D:TypeDesc}{w m by':Nat}{v x z:Value}{es news:List (List Value)}{K:Value->Heap->Prop}(hT:P.underlying sT=some (.slice eT))(hs:Bi P eT=some w)(hz:Dx P eT=some z)(b8:z.cells.size=w)
 (V:Dh P eT=some by')(hx:P.underlying xT=some D)(hD:∀k,D≠.int k)(o:Ac eT w v es X)(s:St z9 zz p h (A++(X++C)))
 (hlen:∀K:Nat->Heap->Prop,K m h->wpS P (Builtin.lenOf x) h K)(a4:∀K:Array Value->Heap->Prop,K news.flatten.toArray h->wpS P (Builtin.firstCells w m x) h K)
 (hm:news.length=m)(hw:∀e∈news,e.length=w)(h1:∀u∈news.flatten,A7 u=true)(a5:(es.length+m)*by'<=2^45)(b3:0<by'/\by'<=2^20)
 (n:∀v' X' h',Ac eT w v' (es++news) X'->St z9 zz p h' (A++(X'++C))->K v' h'):wpS P (Builtin.append_ #[sT,xT] ty #[v,x]) h K:=by
 have a7:∃i,P.info? eT=some i/\i.bytes=by':=by
  unfold Dh at V;cases hi:P.info? eT with
  |none=>rw[hi]at V;cases V
  |some i=>rw[hi]at V;exact⟨i,rfl,by simpa using V⟩
 obtain⟨i,hi,b7⟩:=a7;have O:=xnq hw;have c1:=o.1;have a3:es.flatten.length=es.length*w:=xnq c1;have a2:∀e∈es++news,e.length=w:=fun e he=>(List.mem_append.1 he).elim (o.1 e) (hw e);have c2:es.length+m<=2^45:=Nat.le_trans (Nat.le_mul_of_pos_right _ b3.1) a5
 have H:∃H cap,v=.slice H es.length cap/\(∀K:Array Value->Heap->Prop,K es.flatten.toArray h->wpS P (Builtin.firstCells w es.length v) h K)/\
  ((H=none/\es=[]/\X=[]/\cap=0)\/ ∃b cs rest,H=some ⟨b,0,none⟩/\X=[(b,.cells (List.toArray cs) eT (0,0))]/\cs=es.flatten++rest/\cs.length=cap*w/\(w=1->cap<=9223372036854775807)):=by
  obtain⟨_,⟨rfl,rfl,rfl⟩|⟨b,cs,cap,rest,rfl,rfl,M,a9,a8⟩⟩:=o
  ·exact⟨none,0,rfl,fun K hK=>xcq hK,.inl ⟨rfl,rfl,rfl,rfl⟩⟩
  ·refine⟨_,cap,rfl,fun K hK=>?_,.inr ⟨b,cs,rest,rfl,rfl,M,a9,a8⟩⟩;have hL:(A++([(b,Obj.cells (List.toArray cs) eT (0,0))]++C))[A.length]?=some (b,.cells (List.toArray cs) eT (0,0)):=by
    rw[List.getElem?_append_right (Nat.le_refl _)];simp
   show wpS P (loadCells ⟨b,0,none⟩ (es.length*w)) h K;refine xlz a3 (fun j u hj=>?_) hK;rw[xsx];refine s.Ff hL ?_;rw[List.getElem?_toArray,M,Nat.zero_add,List.getElem?_append_left (List.getElem?_eq_some_iff.1 hj).1];exact hj
 obtain⟨H,cap,rfl,b5,a6⟩:=H;unfold Builtin.append_;simp only[List.getElem?_toArray,List.getElem?_cons_zero,List.getElem?_cons_succ];refine xbq (xfq hT ?_);simp only;refine xbq (xax hs ?_);refine xbq (xfq hx ?_);refine xbq (xix (K:=fun zr h'=>zr=false/\h'=h) (xcq ⟨by cases D<;>first|rfl|exact absurd rfl (hD _),rfl⟩) fun zr h'⟨ez,eh⟩=>?_);subst ez;have eh:=eh.symm;subst eh;simp only[Bool.false_eq_true,if_false,Bool.not_false,if_true];refine xbq (hlen _ ?_);by_cases hc:es.length+m<=cap
 ·rw[if_pos hc];refine xbq (a4 _ ?_);rcases a6 with⟨rfl,rfl,rfl,rfl⟩|⟨b,cs,rest,rfl,rfl,M,a9,a8⟩
  ·have b6:m=0:=by simp at hc;exact hc
   have:news=[]:=List.eq_nil_of_length_eq_zero om;subst this;subst b6;exact xcq (n _ [] h (Ac.empty _ _) s)
  ·have hL:(A++([(b,Obj.cells (List.toArray cs) eT (0,0))]++C))[A.length]?=some (b,.cells (List.toArray cs) eT (0,0)):=by
    rw[List.getElem?_append_right (Nat.le_refl _)];simp
   refine xbq ?_;rw[xsx];have b4:(es.length+m)*w<=cap*w:=Nat.mul_le_mul_right _ hc;rw[Nat.add_mul]at b4;have b9:rest.length=cap*w-es.length*w:=by
    have:cs.length=es.flatten.length+rest.length:=by rw[M];simp
    omega
   refine xnz (i:=A.length) s hL (by simp only[Nat.zero_add,Nat.add_zero,O,hm,a9];omega) h1 fun h' s'=>?_;refine xcq (n _ [(b,.cells (List.toArray (B6 cs (0+es.length*w+0) news.flatten)) eT (0,0))] h' ⟨a2,.inr ⟨b,_,cap,rest.drop news.flatten.length,?_,rfl,?_,?_,a8⟩⟩ ?_)
   ·simp[hm]
   ·rw[Nat.zero_add,Nat.add_zero,M,<- a3,xqv (by rw[O,hm];omega)];simp
   ·rw[Nat.zero_add,Nat.add_zero,M,<- a3,xqv (by rw[O,hm];omega)];simp only[List.length_append,List.length_drop,a3,O,hm,b9];omega
   ·have e2:(A++([(b,Obj.cells (List.toArray cs) eT (0,0))]++C)).set A.length (b,.cells (List.toArray (B6 cs (0+es.length*w+0) news.flatten)) eT (0,0))=A++([(b,.cells (List.toArray (B6 cs (0+es.length*w+0) news.flatten)) eT (0,0))]++C):=by
     rw[List.set_append_right _ _ (Nat.le_refl _)];simp
    rw[e2]at s';exact s'
 ·rw[if_neg hc];refine xbq (xqx hi ?_);rw[if_neg (by
   intro hh;have:(IntKind.i64.max:Int)=9223372036854775807:=by decide
   rw[this]at hh;omega)]
  refine xbq (xqx hi ?_);rw[b7,if_neg (by have:=xo1 (by':=by') (by omega:cap<es.length+m) a5 b3.2;omega)];refine xbq ?_;show wpS P (choose _) h _;simp only[choose,wpS,Question.forced,Bool.false_eq_true,if_false,Question.cut];intro t;generalize d5:es.length+m+t%(2^63-(es.length+m))=nc;have d0:es.length+m<=nc:=om;have b0:nc<=9223372036854775807:=by
   have:t%(2^63-(es.length+m))<2^63-(es.length+m):=Nat.mod_lt _ om;omega
  refine xbq (xqx hi ?_);refine xbq ?_;have c3:∀(b:Nat)(K:Unit->Heap->Prop),K () h->wpS P (askRoom b) h K:=by
   intro b K hK;unfold askRoom;split
   ·exact⟨rfl,hK⟩
   ·exact xcq hK
  refine c3 _ _ ?_;refine xbq (b5 _ ?_);refine xbq (a4 _ ?_);refine xbq (xaz hz ?_);refine xbq (xqz ?_);refine xcq (n _ [(h.size,.cells (List.toArray (es.flatten++news.flatten++(Builtin.zeroCells z.cells (nc-(es.length+m))).toList)) eT (0,0))] _ ⟨a2,.inr ⟨h.size,_,nc,(Builtin.zeroCells z.cells (nc-(es.length+m))).toList,?_,rfl,s_,?_,fun _=>b0⟩⟩ ?_)
  ·simp[hm]
  ·simp only[List.length_append,xnq o.1,O,hm,xsj,b8];rw[<- Nat.add_mul,<- Nat.add_mul];congr 1;omega
  ·have s1:=s.push (.cells (List.toArray (es.flatten++news.flatten++(Builtin.zeroCells z.cells (nc-(es.length+m))).toList)) eT (0,0));have s2:=s1.sub (L':=(h.size,.cells (List.toArray (es.flatten++news.flatten++(Builtin.zeroCells z.cells (nc-(es.length+m))).toList)) eT (0,0))::(A++C)) (by
    refine List.Sublist.cons_cons _ ?_;exact(List.Sublist.refl A).append (List.sublist_append_right X C))
   have s3:=s2.perm (L':=A++([(h.size,.cells (List.toArray (es.flatten++news.flatten++(Builtin.zeroCells z.cells (nc-(es.length+m))).toList)) eT (0,0))]++C)) (by
    simpa using(List.perm_middle (l₁:=A) (l₂:=C)).symm)
   have e1:(List.toArray es.flatten++List.toArray news.flatten++Builtin.zeroCells z.cells (nc-(es.length+m)))=List.toArray (es.flatten++news.flatten++(Builtin.zeroCells z.cells (nc-(es.length+m))).toList):=by
    apply Array.ext';simp
   rw[e1];exact s3
structure Src(P:Program)(h:Heap)(w m:Nat)(x:Value)(news:List (List Value)):Prop where
 lenOf:∀K:Nat->Heap->Prop,K m h->wpS P (Builtin.lenOf x) h K
 cells:∀K:Array Value->Heap->Prop,K news.flatten.toArray h->wpS P (Builtin.firstCells w m x) h K
 len:news.length=m
 wid:∀e∈news,e.length=w
theorem xe6{sT xT eT eX ty:TypeId}{w m by':Nat}{v x z:Value}{es news:List (List Value)}{K:Value->Heap->Prop}(hT:P.underlying sT=some (.slice eT))(hs:Bi P eT=some w)(hz:Dx P eT=some z)(O:z.cells.size=w)
 (V:Dh P eT=some by')(hx:P.underlying xT=some (.slice eX))(o:Ac eT w v es X)(s:St z9 zz p h (A++(X++C)))
 (hlen:∀K:Nat->Heap->Prop,K m h->wpS P (Builtin.lenOf x) h K)(M:∀K:Array Value->Heap->Prop,K news.flatten.toArray h->wpS P (Builtin.firstCells w m x) h K)
 (hm:news.length=m)(hw:∀e∈news,e.length=w)(h1:∀u∈news.flatten,A7 u=true)(H:(es.length+m)*by'<=2^45)(a2:0<by'/\by'<=2^20)
 (n:∀v' X' h',Ac eT w v' (es++news) X'->St z9 zz p h' (A++(X'++C))->K v' h'):wpS P (Builtin.append_ #[sT,xT] ty #[v,x]) h K:=
 xth hT hs hz O V hx (fun _ e=>by cases e) o s hlen M hm hw h1 H a2 n
theorem xxn{w:Nat}(M:0<w):∀{es:List (List Value)},(∀e∈es,e.length=w)-> ∀{j:Nat}{x:Value},es.flatten[j]?=some x-> ∃e,es[j / w]?=some e/\e[j%w]?=some x
 |[],_,j,x,hj=>by simp at hj
 |e::es,h,j,x,hj=>by
   have h0:=h e s_;rw[List.flatten_cons]at hj;by_cases H:j<w
   ·rw[List.getElem?_append_left om]at hj;exact⟨e,by rw[Nat.div_eq_of_lt H];rfl,by rw[Nat.mod_eq_of_lt H];exact hj⟩
   ·rw[List.getElem?_append_right om,h0]at hj;obtain⟨O,V,h2⟩:=xxn M (fun x hx=>h x (by simp[hx])) hj;refine⟨O,?_,?_⟩
    ·rw[show j / w=(j-w) / w+1 from by
      rw[<- Nat.add_div_right _ M];congr 1;omega]
     simpa using V
    ·rw[show j%w=(j-w)%w from by
      rw[<- Nat.add_mod_right (j-w)];congr 1;omega]
     exact h2
theorem xrf{a:Option Addr}{m cap w:Nat}{news:List (List Value)}(s:St z9 zz p h C)(M:0<w)(d:Sl p a m w news):Src P h w m (.slice a m cap) news:=by
 refine⟨fun K H=>xcq H,fun K H=>?_,d.len,d.wid⟩;by_cases h0:m=0
 ·subst h0;have:news=[]:=List.eq_nil_of_length_eq_zero d.len;subst this;cases a with
  |none=>exact xcq H
  |some a=>
    show wpS P (loadCells a (0*w)) h K;exact xlz (vs:=[]) s_ s_ H
 ·rw[d.ne om];show wpS P (loadCells (adr a) (m*w)) h K;refine xlz (by rw[xnq d.wid,d.len]) (fun j u hj=>?_) H;obtain⟨e,O,V⟩:=xxn M d.wid hj;have:=s.cell (d.get _ e O _ u V);rw[xi2]at this;rwa[show j / w*w+j%w=j from by rw[Nat.mul_comm];exact Nat.div_add_mod j w]at this
theorem ygf{w:Nat}:Src P h w 0 (.slice none 0 0) []:=⟨fun K H=>xcq H,fun K H=>xcq H,rfl,s_⟩
section
variable{md:Md}{f:FuncId}{r:Rd}{df:List Deferred}{k:List Item}{cs:List Frame}{Stop:Goroutine->Heap->Prop}{ops rest:List Oper}{tm:List Value}
 {ty:TypeId}{pos:String}{aft:Array Edge}{gd:Option (Nat×Bool)}
def bcs(l:List UInt8):List (List Value):=l.map fun x=>[.int .u8 ((x.toNat:Nat):Int)]
theorem xbk(l:List UInt8):(bcs l).length=l.length:=by simp[bcs]
end
end
def Bq(o:Oper):List Nat:=(o.after.toList.filter (Region.binds .any)).map (·.on)
def looks(ops:List Oper)(o:Oper):List Tmp:=
 o.op.operands.toList.filterMap (fun|.tmp t=>some t|_=>none)++(match o.guard with|some (j,_)=>((ops[j]?).bind (·.dst)).toList|none=>[])
def Hg:Op->Bool
 |.select .. => false
 |_=>true
def behind(cl:List (List Nat))(o:Oper)(j:Nat):Bool:=(Bq o).contains j||(Bq o).any fun k=>(cl.getD k []).contains j
def Bp(ops:List Oper)(m:Nat)(cl:List (List Nat)):Bool:=
 (ops.zipIdx.all fun(o,i)=>
  (Bq o).all (· < i)&&(cl.getD i []).all (fun j=>decide (j<i)&&behind cl o j) &&
  (if m<=i then(List.range i).all fun j=>behind cl o j else
   Hg o.op&&ops.zipIdx.all fun(o',j)=>!decide (j<m)||(match o'.dst with
    |some d=>(decide (i=j)||decide (o.dst≠some d))&&(!(looks ops o).contains d||(Bq o).contains j)
    |none=>true)))
theorem xot{o:Oper}{j:Nat}:j∈Bq o<-> ∃e∈o.after,Region.binds .any e=true/\e.on=j:=by
 unfold Bq;simp only[List.mem_map,List.mem_filter,Array.mem_toList_iff];constructor
 ·rintro⟨e,⟨h1,h2⟩,h3⟩;exact⟨e,h1,h2,h3⟩
 ·rintro⟨e,h1,h2,h3⟩;exact⟨e,⟨h1,h2⟩,h3⟩
section
variable{ops:List Oper}{m:Nat}{cl:List (List Nat)}
theorem xcx(hs:Bp ops m cl=true){i:Nat}{o:Oper}(ho:ops[i]?=some o):
 (∀j∈Bq o,j<i)/\(m<=i-> ∀j<i,behind cl o j=true)/\
 (i<m->Hg o.op=true/\ ∀(j:Nat)(M:Oper)(d:Nat),j<m->ops[j]?=some M->M.dst=some d->(i=j\/o.dst≠some d)/\(d∈looks ops o->j∈Bq o)):=by
 unfold Bp at hs;rw[List.all_eq_true]at hs;have O:(o,i)∈ops.zipIdx:=by rw[List.mem_zipIdx_iff_getElem?];exact ho
 have h:=hs (o,i) O;simp only[Bool.and_eq_true,List.all_eq_true,decide_eq_true_eq]at h;refine⟨h.1.1,fun hm=>?_,fun hm=>?_⟩
 ·rw[if_pos hm]at h;intro j hj;exact List.all_eq_true.1 h.2 j (List.mem_range.2 hj)
 ·rw[if_neg om]at h;have h2:=h.2;rw[Bool.and_eq_true]at h2;refine⟨h2.1,fun j M d hj a2 hd=>?_⟩;have H:(M,j)∈ops.zipIdx:=by rw[List.mem_zipIdx_iff_getElem?];exact a2
  have V:=List.all_eq_true.1 h2.2 (M,j) H;simp only[hd,hj,decide_true,Bool.not_true,Bool.false_or,Bool.and_eq_true,Bool.or_eq_true,decide_eq_true_eq,Bool.not_eq_true',List.contains_eq_mem,decide_eq_false_iff_not]at V;refine⟨V.1,fun hl=>?_⟩;rcases V.2 with x|x
  ·exact absurd hl (by simpa using x)
  ·simpa using x
theorem xks(hs:Bp ops m cl=true){i j:Nat}{o:Oper}(M:ops[i]?=some o)(O:j∈cl.getD i []):j<i/\behind cl o j=true:=by
 unfold Bp at hs;rw[List.all_eq_true]at hs;have H:(o,i)∈ops.zipIdx:=by rw[List.mem_zipIdx_iff_getElem?];exact M
 have h:=hs (o,i) H;simp only[Bool.and_eq_true,List.all_eq_true,decide_eq_true_eq]at h;exact h.1.2 j O
theorem xeg{o:Oper}{j:Nat}:behind cl o j=true<->j∈Bq o\/ ∃k∈Bq o,j∈cl.getD k []:=by
 unfold behind;simp only[Bool.or_eq_true,List.any_eq_true,List.contains_iff_mem]
theorem xhv(hs:Bp ops m cl=true){l:Array Bool}(a2:l.size=ops.length)(hl:∀(j:Nat)(o:Oper),l.getD j false=true->ops[j]?=some o-> ∀x∈Bq o,l.getD x false=true):
 ∀(n:Nat)(o:Oper)(j:Nat),(∀x∈Bq o,x<n/\l.getD x false=true)->behind cl o j=true->l.getD j false=true:=by
 intro n
 induction n with
 |zero=>
   intro o j H hb;rcases xeg.1 hb with h|⟨k,h,_⟩
   ·exact(H j h).2
   ·exact absurd (H k h).1 om
 |succ n ih=>
   intro o j H hb;rcases xeg.1 hb with h|⟨k,h,h2⟩
   ·exact(H j h).2
   ·obtain⟨hk,M⟩:=H k h;have O:k<ops.length:=by
     rcases Nat.lt_or_ge k l.size with h|h
     ·omega
     ·simp[Array.getD,Nat.not_lt.2 h]at M
    have V:=List.getElem?_eq_getElem O;exact ih ops[k] j (fun x hx=>⟨Nat.lt_of_lt_of_le ((xcx hs V).1 x hx) om,hl k _ M V x hx⟩) (xks hs V h2).2
inductive Ord (ops:List Oper) (m:Nat):Array Bool->List Nat->Prop
 |nil {l:Array Bool} (h:∀j<m,l.getD j false=true):Ord ops m l []
 |cons {l:Array Bool} {i:Nat} {s:List Nat} {o:Oper} (hi:i<m) (ho:ops[i]?=some o) (hn:l.getD i true=false) (hp:∀j∈Bq o,l.getD j false=true) (hs:Ord ops m (l.setIfInBounds i true) s):Ord ops m l (i::s)
theorem xcd{l:Array Bool}{i:Nat}(hi:i<l.size):l.getD i true=l.getD i false:=by simp[Array.getD,hi]
theorem xpd{l:Array Bool}{i:Nat}:i∈Region.ready .any ops.toArray l<->l.getD i true=false/\ ∃o,ops[i]?=some o/\ ∀j∈Bq o,l.getD j false=true:=by
 rw[mem_ready];constructor
 ·rintro⟨h1,o,h2,h3⟩;refine⟨h1,o,by simpa using h2,fun j M=>?_⟩;obtain⟨e,he,H,rfl⟩:=xot.1 M;exact h3 e he H
 ·rintro⟨h1,o,h2,h3⟩;exact⟨h1,o,by simpa using h2,fun e he H=>h3 _ (xot.2 ⟨e,he,H,rfl⟩)⟩
theorem yzx(fuel t:Nat)(l:Array Bool):Region.linearise.go .any ops.toArray (fuel+1) t l []=(match(Region.ready .any ops.toArray l)[t%(Region.ready .any ops.toArray l).length]? with
  |some i=>i::Region.linearise.go .any ops.toArray fuel (t / (Region.ready .any ops.toArray l).length) (l.setIfInBounds i true) []
  |none=>[]):=by
 simp only[Region.linearise.go];change (match(Region.ready .any ops.toArray l)[t%(Region.ready .any ops.toArray l).length]? with
  |some i=>Region.linearise.go .any ops.toArray fuel (t / (Region.ready .any ops.toArray l).length) (l.setIfInBounds i true) [i]
  |none=>[].reverse)=_
 split
 ·rw[linearise_go_acc];simp
 ·rfl
def G1(l:Array Bool)(n:Nat):Nat:=(List.range n).countP fun i=>!l.getD i false
theorem yyv{l:Array Bool}{n i:Nat}(hi:i<n)(O:l.size=n)(h:l.getD i true=false):G1 (l.setIfInBounds i true) n+1<=G1 l n:=by
 unfold G1;have key:∀k,k<=n->(List.range k).countP (fun j=>!(l.setIfInBounds i true).getD j false)+(if i<k then 1 else 0)<=(List.range k).countP (fun j=>!l.getD j false):=by
  intro k
  induction k with
  |zero=>intro _;simp
  |succ k H=>
    intro hk;have H:=H om;rw[List.range_succ,List.countP_append,List.countP_append];simp only[List.countP_singleton];by_cases e:i=k
    ·subst e;have h1:(l.setIfInBounds i true).getD i false=true:=by simp[Array.getD,O,hi]
     have V:l.getD i false=false:=by rw[<- xcd om];exact h
     rw[h1,V];simp at H⊢;omega
    ·rw[getD_set_ne false e];have M:(if i<k+1 then 1 else 0)=(if i<k then 1 else 0):=by
      by_cases h:i<k
      ·rw[if_pos h,if_pos om]
      ·rw[if_neg h,if_neg om]
     rw[M];omega
 have:=key n (Nat.le_refl _);rw[if_pos hi]at this;exact this
theorem yzv{l:Array Bool}{n i:Nat}(hi:i<n)(h:l.getD i false=false):0<G1 l n:=by
 unfold G1;rw[List.countP_pos_iff];exact⟨i,by simpa using hi,by simp[h]⟩
theorem xh6(hs:Bp ops m cl=true):∀(fuel t c:Nat)(l:Array Bool),m<=c->c<=ops.length->l.size=ops.length->(∀j,l.getD j false=decide (j<c))->ops.length-c<=fuel->
 Region.linearise.go .any ops.toArray fuel t l []=List.range' c (ops.length-c):=by
 intro fuel
 induction fuel with
 |zero=>intro t c l _ _ _ _ hf;rw[show ops.length-c=0 from by omega];rfl
 |succ fuel ih=>
   intro t c l hm hc hl V hf;rw[yzx];by_cases he:c=ops.length
   ·have:Region.ready .any ops.toArray l=[]:=by
     rw[List.eq_nil_iff_forall_not_mem];intro i hi;obtain⟨h1,o,ho,_⟩:=xpd.1 hi;have M:=(List.getElem?_eq_some_iff.1 ho).1;rw[xcd om,V]at h1;simp at h1;omega
    rw[this,show ops.length-c=0 from by omega];rfl
   ·have M:c<ops.length:=om;have hr:Region.ready .any ops.toArray l=[c]:=by
     have H:∀i,i∈Region.ready .any ops.toArray l<->i=c:=by
      intro i;rw[xpd];constructor
      ·rintro⟨h1,o,ho,hp⟩;have a3:=(List.getElem?_eq_some_iff.1 ho).1;rw[xcd om,V]at h1;simp at h1;rcases Nat.lt_or_ge c i with hci|hci
       ·have:=xhv hs hl (fun j o' hj a2 x hx=>by
         rw[V]at hj⊢;simp at hj⊢;exact Nat.lt_trans ((xcx hs a2).1 x hx) hj) i o c (fun x hx=>⟨(xcx hs ho).1 x hx,hp x hx⟩) ((xcx hs ho).2.1 om c hci)
        rw[V]at this;simp at this
       ·omega
      ·rintro rfl;refine⟨by rw[xcd om,V];simp,_,List.getElem?_eq_getElem M,fun j hj=>?_⟩;rw[V];simpa using(xcx hs (List.getElem?_eq_getElem M)).1 j hj
     have O:(Region.ready .any ops.toArray l).Nodup:=by unfold Region.ready;exact List.nodup_range.sublist List.filter_sublist
     match a4:Region.ready .any ops.toArray l,H,O with
     |[],H,_=>exact absurd ((H c).2 rfl) s_
     |[x],H,_=>rw[(H x).1 s_]
     |x::y::z,H,O=>
       have h1:=(H x).1 s_;have h2:=(H y).1 s_;subst h1;subst h2;simp at O
    rw[hr];simp only[List.length_singleton,Nat.mod_one,List.getElem?_cons_zero];rw[ih _ (c+1) _ om om (by simpa using hl) (fun j=>?_) om]
    ·rw[show ops.length-c=ops.length-(c+1)+1 from by omega,List.range'_succ]
    ·by_cases e:c=j
     ·subst e;simp[Array.getD,hl,M]
     ·rw[getD_set_ne false e,V];by_cases h:j<c
      ·rw[decide_eq_true h,decide_eq_true om]
      ·rw[decide_eq_false h,decide_eq_false om]
theorem xk1(hs:Bp ops m cl=true)(hm:m<=ops.length):∀(fuel t:Nat)(l:Array Bool),l.size=ops.length->(∀j,m<=j->l.getD j false=false)->(∀(j:Nat)(o:Oper),l.getD j false=true->ops[j]?=some o-> ∀x∈Bq o,l.getD x false=true)->G1 l ops.length<=fuel->
 ∃s,Region.linearise.go .any ops.toArray fuel t l []=s++List.range' m (ops.length-m)/\Ord ops m l s:=by
 intro fuel
 induction fuel with
 |zero=>
   intro t l hl H _ hf;have M:∀j,j<ops.length->l.getD j false=true:=fun j O=>by
    cases h:l.getD j false
    ·have:=yzv O h;omega
    ·rfl
   have b0:m=ops.length:=by
    rcases Nat.lt_or_ge m ops.length with h|h
    ·have:=M m h;rw[H m (Nat.le_refl _)]at this;cases this
    ·omega
   exact⟨[],by rw[b0,Nat.sub_self];rfl,.nil fun j O=>M j om⟩
 |succ fuel ih=>
   intro t l hl H a9 hf;by_cases M:∀j<m,l.getD j false=true
   ·refine⟨[],?_,.nil M⟩;rw[List.nil_append];refine xh6 hs _ _ m l (Nat.le_refl _) hm hl (fun j=>?_) ?_
    ·by_cases h:j<m
     ·rw[M j h,decide_eq_true h]
     ·rw[H j om,decide_eq_false h]
    ·have:ops.length-m<=G1 l ops.length:=by
      unfold G1;have e:List.range ops.length=List.range m++(List.range (ops.length-m)).map (m+ ·):=by
       rw[<- List.range_add,show m+(ops.length-m)=ops.length from by omega]
      rw[e,List.countP_append];have:((List.range (ops.length-m)).map (m+ ·)).countP (fun i=>!l.getD i false)=ops.length-m:=by
       rw[List.countP_eq_length.2]
       ·simp
       ·intro x hx;obtain⟨y,_,rfl⟩:=List.mem_map.1 hx;rw[H _ om];rfl
      omega
     omega
   ·
     have b7:∃i,i<m/\l.getD i false=false/\ ∀j<i,l.getD j false=true:=by
      have:∃i,i<m/\l.getD i false=false:=by
       refine Classical.byContradiction fun hn=>M fun j O=>?_;cases h:l.getD j false
       ·exact absurd ⟨j,O,h⟩ hn
       ·rfl
      obtain⟨i,hi,hf⟩:=this
      induction i using Nat.strongRecOn with
      |_ i ih=>
        by_cases a3:∀j<i,l.getD j false=true
        ·exact⟨i,hi,hf,a3⟩
        ·have:∃j,j<i/\l.getD j false=false:=by
          refine Classical.byContradiction fun hn=>a3 fun j O=>?_;cases h:l.getD j false
          ·exact absurd ⟨j,O,h⟩ hn
          ·rfl
         obtain⟨j,O,b5⟩:=this;exact ih j O om b5
     obtain⟨i₀,b6,V,a2⟩:=b7;have a4:i₀∈Region.ready .any ops.toArray l:=by
      rw[xpd];refine⟨by rw[xcd om];exact V,_,List.getElem?_eq_getElem om,fun j O=>a2 j ((xcx hs (List.getElem?_eq_getElem om)).1 j O)⟩
     rw[yzx];cases a8:(Region.ready .any ops.toArray l)[t%(Region.ready .any ops.toArray l).length]? with
     |none=>
       have hlen:0<(Region.ready .any ops.toArray l).length:=List.length_pos_of_mem a4;have:=Nat.mod_lt t hlen;rw[List.getElem?_eq_none_iff]at a8;omega
     |some i=>
       obtain⟨h1,o,ho,hp⟩:=xpd.1 (List.mem_of_getElem? a8);have a6:=(List.getElem?_eq_some_iff.1 ho).1;have b4:i<m:=by
        rcases Nat.lt_or_ge i m with h|h
        ·exact h
        ·have:=xhv hs hl a9 i o i₀ (fun x hx=>⟨(xcx hs ho).1 x hx,hp x hx⟩) ((xcx hs ho).2.1 h i₀ om);rw[V]at this;cases this
       obtain⟨s,e,a7⟩:=ih (t / (Region.ready .any ops.toArray l).length) (l.setIfInBounds i true) (by simpa using hl) (fun j O=>by rw[getD_set_ne false om];exact H j O) (fun j o' O a5 x hx=>by
        by_cases e':i=j
        ·subst e';rw[ho]at a5;cases a5;have b3:=hp x hx;by_cases e2:i=x
         ·subst e2;simp[Array.getD,hl,a6]
         ·rw[getD_set_ne false e2];exact b3
        ·rw[getD_set_ne false e']at O;by_cases e2:i=x
         ·subst e2;simp[Array.getD,hl,a6]
         ·rw[getD_set_ne false e2];exact a9 j o' O a5 x hx) (by
        have:=yyv a6 hl h1;omega)
       refine⟨i::s,?_,.cons b4 ho h1 hp a7⟩;simp only;rw[e];rfl
theorem xjt(hs:Bp ops m cl=true)(H:m<=ops.length)(t:Nat):
 ∃s,Region.linearise .any ops.toArray t=s++List.range' m (ops.length-m)/\Ord ops m (Array.replicate ops.length false) s:=by
 unfold Region.linearise;have:=xk1 hs H ops.length t (Array.replicate ops.length false) s_ (fun j _=>by simp[Array.getD]) (fun j _ M=>by simp[Array.getD]at M) (by
  unfold G1;have:=List.countP_le_length (p:=fun i=>!(Array.replicate ops.length false).getD i false) (l:=List.range ops.length);simpa using this)
 simpa using this
end
def Nb(P:Program)(md:Md)(tm:List Value)(o:Oper)(Base:Heap->Prop)(v:Value):Prop:=
 ∀h,Base h->Ex P tm o h (fun v' h'=>v'=v/\Base h')\/
  (∃g args,(wpS P (execOp (evl tm) o) h fun n h'=>n=.enter g args/\h'=h)/\Aa P md g args h (fun v' h'=>v'=v/\Base h'))\/
  ∀(c:Frame)(cs:List Frame)(Stop:Goroutine->Heap->Prop),(∀v' h',v'=v/\Base h'->Reach P md (G (c.finish v') cs) h' Stop)->wpS P (execOp (evl tm) o) h (N7 P md c cs Stop)
section
variable{P:Program}{md:Md}{Base:Heap->Prop}{ops:List Oper}{m:Nat}
theorem xrk(tm:List Value)(d:Option Tmp)(v:Value):(Cm tm d v).length=tm.length:=by cases d<;>simp[Cm]
theorem xqk{tm:List Value}{d:Option Tmp}{v:Value}{x:Nat}(h:d≠some x):(Cm tm d v)[x]?=tm[x]?:=by
 cases d with
 |none=>rfl
 |some y=>simp only[Cm];rw[List.getElem?_set_ne];intro e;exact h (by rw[e])
theorem yvp{tm tm':List Value}{t:Nat}(h:tm[t]?=tm'[t]?):evl tm (.tmp t)=evl tm' (.tmp t):=by
 simp only[evl,List.getD_eq_getElem?_getD,h]
theorem yew{o:Op}(h:Hg o=true)(cs:Array SelectCase)(b:Bool):o≠.select cs b:=by intro e;subst e;simp[Hg]at h
theorem xsr{tm tm':List Value}{o:Oper}(hs:Hg o.op=true)(h:∀t∈looks ops o,tm[t]?=tm'[t]?):execOp (evl tm) o=execOp (evl tm') o:=by
 refine execOp_congr o (yew hs) fun x H=>?_;cases x with
 |tmp t=>exact yvp (h t (by unfold looks;rw[List.mem_append];exact .inl (List.mem_filterMap.2 ⟨.tmp t,by simpa using H,rfl⟩)))
 |const v=>rfl
 |global g=>rfl
 |func f=>rfl
theorem xrg{tm tm':List Value}{o:Oper}{t:Bool}(h:∀x∈looks ops o,tm[x]?=tm'[x]?)(m:Met ops tm' o t):Met ops tm o t:=by
 unfold Met at m⊢;split at m
 ·exact m
 ·rename_i j want H;rw[<- m];unfold Ej;cases M:(ops[j]?).bind (·.dst)with
  |none=>rfl
  |some d=>
    have:tm[d]?=tm'[d]?:=h d (by unfold looks;rw[H,List.mem_append];exact .inr (by simp[M]));simp only[Option.bind_some,this]
section
variable{f:FuncId}{r:Rd}{df:List Deferred}{k:List Item}{cs:List Frame}{Stop:Goroutine->Heap->Prop}{tm tmF:List Value}
end
end
section
variable{P:Program}{md:Md}{Base:Heap->Prop}{ops full rest:List Oper}{f:FuncId}{r:Rd}{df:List Deferred}{k:List Item}{cs:List Frame}{Stop:Goroutine->Heap->Prop}{tm tm':List Value}
end
abbrev Pcs:=List (Nat×Obj)
def Fu(ops:List Oper)(val:Nat->Value):Nat->List Value->List Value
 |0,tm=>tm
 |m+1,tm=>Cm (Fu ops val m tm) ((ops[m]?).bind (·.dst)) (val m)
theorem xfj(ops:List Oper)(val:Nat->Value)(tm:List Value):∀m,(Fu ops val m tm).length=tm.length
 |0=>rfl
 |m+1=>by simp only[Fu,xrk,xfj ops val tm m]
theorem xcm{ops:List Oper}{val:Nat->Value}{tm:List Value}{x:Nat}:∀{m:Nat},(∀(j:Nat)(o:Oper),j<m->ops[j]?=some o->o.dst≠some x)->(Fu ops val m tm)[x]?=tm[x]?
 |0,_=>rfl
 |m+1,h=>by
   simp only[Fu];rw[xqk,xcm fun j o M=>h j o om];intro e;cases H:ops[m]? with
   |none=>rw[H]at e;cases e
   |some o=>rw[H]at e;exact h m o om H e
theorem xrr{ops:List Oper}{val:Nat->Value}{tm:List Value}{x i:Nat}{o:Oper}:∀{m:Nat},i<m->ops[i]?=some o->o.dst=some x->(∀(j:Nat)(M:Oper),j<m->ops[j]?=some M->M.dst=some x->j=i)->x<tm.length->
 (Fu ops val m tm)[x]?=some (val i)
 |0,h,_,_,_,_=>om
 |m+1,h,ho,hd,hu,hx=>by
   simp only[Fu];by_cases e:i=m
   ·subst e;rw[ho];simp only[Option.bind_some,hd,Cm];rw[List.getElem?_set_self (by rw[xfj];exact hx)]
   ·rw[xqk,xrr om ho hd (fun j M V=>hu j M om) hx];intro O;cases H:ops[m]? with
    |none=>rw[H]at O;cases O
    |some M=>rw[H]at O;exact e (hu m M om H O).symm
def Ky(ops:List Oper)(m:Nat)(M:List Nat)(H:Nat->List Nat)(fin:List Nat):Bool:=
 decide M.Nodup&&M.all (fun x=>decide (m<=x))&&decide fin.Nodup &&
 (ops.zipIdx.all fun(o,i)=>!decide (i<m)||((decide (H i).Nodup)&&(H i).all fun x=>(M.contains x||(decide (x<m)&&(Bq o).contains x))&&(List.range m).all fun k=>decide (k=i)||!(H k).contains x)) &&
 (fin.all fun x=>(M.contains x||decide (x<m))&&(List.range m).all fun k=>!(H k).contains x) &&
 ((List.range m++M).all fun x=>fin.contains x||(List.range m).any fun k=>(H k).contains x)
theorem xy3{α:Type}[DecidableEq α]:∀{u ls:List α},u.Nodup->(∀x∈u,x∈ls)-> ∃r,ls.Perm (u++r)
 |[],ls,_,_=>⟨ls,.refl _⟩
 |x::u,ls,hn,hs=>by
   have V:=List.perm_cons_erase (hs x s_);have H:=List.nodup_cons.1 hn;obtain⟨r,O⟩:=xy3 (ls:=ls.erase x) H.2 fun y M=>by
    rw[List.mem_erase_of_ne (fun e=>by subst e;exact H.1 M)];exact hs y (by simp[M])
   exact⟨r,V.trans (O.cons x)⟩
def Exv(P:Program)(tm:List Value)(o:Oper)(h:Heap)(K:Value->Heap->Prop):Prop:=
 wpS P (execOp (evl tm) o) h fun n h'=>∃v,(n=.value v\/(n=.skip/\v=undef))/\K v h'
theorem Ex.exv{P:Program}{tm:List Value}{o:Oper}{h:Heap}{K:Value->Heap->Prop}(x:Ex P tm o h K):Exv P tm o h K:=xix x fun _ _⟨v,e,y⟩=>⟨v,.inl e,y⟩
def Kb(F:Nat->Oper->Prop):Nat->List Oper->Prop
 |_,[]=>True
 |i,o::rest=>(Bh o.op=true/\F i o)/\Kb F (i+1) rest
theorem Kb.at{F:Nat->Oper->Prop}:∀{l:List Oper}{b i:Nat}{o:Oper},Kb F b l->l[i]?=some o->Bh o.op=true/\F (b+i) o
 |[],_,_,_,_,h=>by simp at h
 |o::l,b,0,_,m,h=>by simp at h;subst h;exact m.1
 |o::l,b,i+1,_,m,h=>by
   have:=Kb.at (i:=i) m.2 (by simpa using h);rw[show b+(i+1)=b+1+i from by omega];exact this
section
variable{P:Program}{md:Md}{ops:List Oper}{m:Nat}{f:FuncId}{r:Rd}{df:List Deferred}{k:List Item}{cs:List Frame}{Stop:Goroutine->Heap->Prop}{tm:List Value}
 {z9:Heap}{zz:List Nat}{p:Ab}{A C:Pcs}{ini fin:List Nat}{X:Nat->Pcs}{use:Nat->List Nat}{Q:Nat->Value->Pcs->Prop}{tmF:(Nat->Value)->List Value}
theorem ygw(M:Ky ops m ini use fin=true):ini.Nodup/\(∀x∈ini,m<=x)/\fin.Nodup/\
 (∀(i:Nat)(o:Oper),i<m->ops[i]?=some o->(use i).Nodup/\ ∀x∈use i,(x∈ini\/(x<m/\x∈Bq o))/\ ∀k<m,k≠i->x∉use k)/\
 (∀x∈fin,(x∈ini\/x<m)/\ ∀k<m,x∉use k)/\(∀x,(x<m\/x∈ini)->x∈fin\/ ∃k<m,x∈use k):=by
 unfold Ky at M;simp only[Bool.and_eq_true,decide_eq_true_eq,List.all_eq_true]at M;obtain⟨⟨⟨⟨⟨h1,h2⟩,h3⟩,h4⟩,h5⟩,h6⟩:=M;refine⟨h1,h2,h3,fun i o hi ho=>?_,fun x H=>?_,fun x H=>?_⟩
 ·have O:(o,i)∈ops.zipIdx:=by rw[List.mem_zipIdx_iff_getElem?];exact ho
  have h:=h4 (o,i) O;simp only[hi,decide_true,Bool.not_true,Bool.false_or,Bool.and_eq_true,decide_eq_true_eq,List.all_eq_true,Bool.or_eq_true,List.mem_range,Bool.not_eq_true',List.contains_eq_mem,decide_eq_false_iff_not]at h;exact⟨h.1,fun x H=>⟨(h.2 x H).1,fun k M V=>((h.2 x H).2 k M).resolve_left V⟩⟩
 ·have h:=h5 x H;simp only[Bool.or_eq_true,decide_eq_true_eq,List.mem_range,Bool.not_eq_true',List.contains_eq_mem,decide_eq_false_iff_not]at h;exact h
 ·have h:=h6 x (by rw[List.mem_append,List.mem_range];exact H);simp only[Bool.or_eq_true,List.any_eq_true,List.mem_range,List.contains_eq_mem,decide_eq_true_eq]at h;exact h
def Emp(Q:Nat->Value->Pcs->Prop):List Nat->Prop
 |[]=>True
 |j::l=>(∀v x,Q j v x->x=[])/\Emp Q l
theorem Emp.flat{Q:Nat->Value->Pcs->Prop}{val:Nat->Value}{piece:Nat->Pcs}:∀{l:List Nat},Emp Q l->(∀j∈l,Q j (val j) (piece j))->l.flatMap piece=[]
 |[],_,_=>rfl
 |j::l,e,h=>by
   rw[List.flatMap_cons,e.1 _ _ (h j s_),Emp.flat e.2 fun i hi=>h i (by simp[hi])];rfl
section
variable{tm':List Value}{U:Pcs}{q:Value->Pcs->Prop}{o:Oper}{ty:TypeId}{pos:String}{aft:Array Edge}{gd:Option (Nat×Bool)}
theorem Ac.build{T:TypeId}{w b n:Nat}{es:List (List Value)}{cells:Array Value}(hc:cells=es.flatten.toArray)(hw:∀e∈es,e.length=w)(hn:es.length=n)(H:n*w<=2^24):Ac T w (.slice (some ⟨b,0,none⟩) n n) es [(b,.cells cells T (0,0))]:=by
 subst hn;exact⟨hw,.inr ⟨b,es.flatten,es.length,[],rfl,by rw[hc],s_,xnq hw,fun e=>by subst e;omega⟩⟩
theorem xgh{h:Heap}{w:Nat}{T:TypeId}{x:Value}{news:List (List Value)}{Y L₁ L₂:Pcs}(o:Ac T w x news Y)(s:St z9 zz p h (L₁++(Y++L₂))):Src P h w news.length x news:=by
 obtain⟨hw,⟨rfl,rfl,rfl⟩|⟨b,cs,cap,rest,rfl,rfl,M,hlen,O⟩⟩:=o
 ·exact ygf
 ·refine⟨fun K H=>xcq H,fun K H=>?_,rfl,hw⟩;show wpS P (loadCells ⟨b,0,none⟩ (news.length*w)) h K;refine xlz (xnq hw) (fun j u V=>?_) H;rw[xsx];refine s.Ff (i:=L₁.length) (cs:=cs.toArray) (T:=T) (z:=(0,0)) ?_ ?_
  ·rw[List.getElem?_append_right (Nat.le_refl _)];simp
  ·rw[List.getElem?_toArray,M,Nat.zero_add,List.getElem?_append_left (List.getElem?_eq_some_iff.1 V).1];exact V
theorem xkf{dd:Nat}{sT xT eT eX:TypeId}{w m' by':Nat}{xo yo:Operand}{v x z:Value}{es news:List (List Value)}{h:Heap}{M C':Pcs}(A':Pcs)
 (hT:P.underlying sT=some (.slice eT))(hs:Bi P eT=some w)(hz:Dx P eT=some z)(a3:z.cells.size=w)(a5:Dh P eT=some by')(hx:P.underlying xT=some (.slice eX))
 (V:evl tm' xo=v)(a4:evl tm' yo=x)(o:Ac eT w v es M)(s:St z9 zz p h (A'++(M++C')))(H:Src P h w m' x news)(h1:∀u∈news.flatten,A7 u=true)
 (O:(es.length+m')*by'<=2^45)(a2:0<by'/\by'<=2^20){K:Value->Heap->Prop}
 (n:∀v' M h',Ac eT w v' (es++news) M->St z9 zz p h' (A'++(M++C'))->K v' h'):
 Ex P tm' ⟨some dd,.call ⟨.builtin .append,#[xo,yo],#[sT,xT]⟩,ty,pos,aft,gd⟩ h K:=by
 unfold Ex;simp only[execOp,resolve];refine xbq (xcq ?_);simp only[invoke,builtin];refine xbq ?_;have e:(#[xo,yo]:Array Operand).map (evl tm')=#[v,x]:=by simp[V,a4]
 rw[e];refine xe6 hT hs hz a3 a5 hx o s H.lenOf H.cells H.len H.wid h1 O a2 fun v' M h' o' s'=>?_;exact xcq ⟨v',rfl,n v' M h' o' s'⟩
end
end
theorem xn1{l:List Value}(h:l.all A7=true):∀u∈l,A7 u=true:=fun u H=>List.all_eq_true.1 h u H
def Da(f:Nat->Int)(k:Nat):List Int:=(List.range k).map f
theorem xyv(xs:List Int):∀u∈(xs.map fun x=>[Value.J x]).flatten,A7 u=true:=by
 intro u H;rw[List.mem_flatten]at H;obtain⟨l,M,H⟩:=H;obtain⟨x,_,rfl⟩:=List.mem_map.1 M;rw[List.mem_singleton.1 H];rfl
theorem Ac.as{T:TypeId}{w:Nat}{v:Value}{es es':List (List Value)}{X:List (Nat×Obj)}(o:Ac T w v es X)(e:es=es'):Ac T w v es' X:=by subst e;exact o
theorem Ac.val{T:TypeId}{w:Nat}{v:Value}{es:List (List Value)}{X:List (Nat×Obj)}(o:Ac T w v es X):∃a cap,v=.slice a es.length cap/\(0<es.length->a=some (adr a)):=by
 obtain⟨_,⟨rfl,rfl,rfl⟩|⟨b,cs,cap,rest,rfl,rfl,M,hlen,H⟩⟩:=o
 ·exact⟨_,_,rfl,fun h=>absurd h s_⟩
 ·exact⟨_,_,rfl,fun _=>rfl⟩
structure New(h h':Heap)(X:Pcs):Prop where
 Cq:Af h h'
 own:∀x∈X,h'[x.1]?=some x.2/\h.size<=x.1
 nod:(X.map (·.1)).Nodup
section
variable{z9 h h':Heap}{zz:List Nat}{p:Ab}{A X C L:Pcs}
theorem St.new(s:St z9 [] p h X):New z9 h X:=⟨s.kept,fun x H=>⟨(s.own x H).1,(s.own x H).2.2.resolve_right s_⟩,s.nod⟩
theorem St.K3(s:St z9 zz p h L)(n:New h h' X):St z9 zz p h' (X++L):=by
 have M:=s.call n.Cq;refine⟨M.Cq,M.size,M.per,fun x H=>?_,?_⟩
 ·rcases List.mem_append.1 H with H|H
  ·obtain⟨V,O⟩:=n.own x H;refine⟨V,?_,.inl (Nat.le_trans s.size O)⟩;cases hp:p x.1 with
   |none=>rfl
   |some o=>exact absurd (xmx (s.per _ _ hp)) (Nat.not_lt.2 O)
  ·exact M.own x H
 ·rw[List.map_append,List.nodup_append];refine⟨n.nod,s.nod,fun a ha b hb e=>?_⟩;subst e;obtain⟨x,H,rfl⟩:=List.mem_map.1 ha;obtain⟨y,hy,e⟩:=List.mem_map.1 hb;have V:=(n.own x H).2;have O:=xmx (s.own y hy).1;omega
end
section
variable{P:Program}{md:Md}{ops rest:List Oper}{f:FuncId}{r:Rd}{df:List Deferred}{k:List Item}{cs:List Frame}{Stop:Goroutine->Heap->Prop}{tm:List Value}
 {z9:Heap}{zz:List Nat}{p:Ab}{A C X Y:Pcs}{ty:TypeId}{pos:String}{aft:Array Edge}{gd:Option (Nat×Bool)}
theorem ybm(n:Nat)(g:Nat->Value):(Array.range n).map g=((List.range n).map g).toArray:=by apply Array.ext';simp
theorem xn5{dd:Nat}{sT eT:TypeId}{w n:Nat}{parts:List (Nat×Operand)}{vs:List (Nat×Value)}{z:Value}{cells:Array Value}{es:List (List Value)}{h:Heap}
 (hT:P.underlying sT=some (.slice eT))(hs:Bi P eT=some w)(hz:Dx P eT=some z)(a2:n*w<=2^24)(M:(parts.map fun(i,x)=>(i,evl tm x))=vs)
 (hf:Instr.fill (fun i=>some (i*w,w)) ((List.range (n*w)).map (z.cells[· % z.cells.size]!)).toArray vs=some cells)(hc:cells=es.flatten.toArray)(hw:(es.all fun e=>e.length==w)=true)(hn:es.length=n)
 (s:St z9 zz p h C){K:Value->Heap->Prop}(nx:∀v X h',Ac eT w v es X->St z9 zz p h' (X++C)->K v h'):Ex P tm ⟨some dd,.buildSlice sT n parts.toArray,ty,pos,aft,gd⟩ h K:=by
 have V:∀e∈es,e.length=w:=fun e he=>by simpa using List.all_eq_true.1 hw e he
 have fin:∀b,Ac eT w (.slice (some ⟨b,0,none⟩) n n) es [(b,.cells cells eT (0,0))]:=fun b=>Ac.build hc V hn (by simpa using a2);rw[<- ybm]at hf;unfold Ex;simp only[execOp];refine xbq ?_;unfold Instr.buildSlice;refine xbq (xfq hT ?_);simp only;refine xbq (xax hs ?_);rw[if_neg om];by_cases O:n*w=0
 ·rw[if_pos O];refine xbq (xcq ?_);have H:Instr.fill (fun i=>some (i*w,w)) ((Array.range (n*w)).map ((#[]:Array Value)[· % (#[]:Array Value).size]!)) vs=some cells:=by
   rw[<- hf,O,show Array.range 0=(#[]:Array Nat) from by simp,Array.map_empty,Array.map_empty]
  simp only[List.map_toArray,M,H];refine xbq (xqz ?_);refine xcq ?_;exact xcq ⟨_,rfl,nx _ _ _ (fin _) (s.push _)⟩
 ·rw[if_neg O];refine xbq (xaz hz ?_);refine xbq (xcq ?_);simp only[List.map_toArray,M,hf];refine xbq (xqz ?_);refine xcq ?_;exact xcq ⟨_,rfl,nx _ _ _ (fin _) (s.push _)⟩
theorem xct{dd:Nat}{H eT:TypeId}{w n:Nat}{parts:List (Nat×Operand)}{vs:List (Nat×Value)}{z:Value}{cells:Array Value}{es:List (List Value)}{A:Pcs}
 (hm:Met ops tm ⟨some dd,.buildSlice H n parts.toArray,ty,pos,aft,gd⟩ true)
 (hT:P.underlying H=some (.slice eT))(hs:Bi P eT=some w)(V:Dx P eT=some z)(O:n*w<=2^24)(M:(parts.map fun(i,x)=>(i,evl tm x))=vs)
 (hf:Instr.fill (fun i=>some (i*w,w)) ((List.range (n*w)).map (z.cells[· % z.cells.size]!)).toArray vs=some cells)(hc:cells=es.flatten.toArray)(hw:(es.all fun e=>e.length==w)=true)(hn:es.length=n)
 (nx:∀v X,Ac eT w v es X->RL P md f r df k cs Stop ops rest (tm.set dd v) (fun h=>St z9 zz p h (A++(X++C)))):
 RL P md f r df k cs Stop ops (⟨some dd,.buildSlice H n parts.toArray,ty,pos,aft,gd⟩::rest) tm (fun h=>St z9 zz p h (A++C)):=
 xmj (K:=fun v h'=>∃X,Ac eT w v es X/\St z9 zz p h' (A++(X++C))) hm rfl (fun h s=>xn5 hT hs V O M hf hc hw hn s fun v X h' o s'=>⟨X,o,s'.perm (by
  rw[<- List.append_assoc,<- List.append_assoc];exact List.Perm.append_right C List.perm_append_comm)⟩) fun v=>xgk fun X=>xcz fun o=>nx v X o
theorem xr6{dd:Nat}{sT xT eT eX:TypeId}{w by':Nat}{xo yo:Operand}{v x z:Value}{es news:List (List Value)}(A X Y:Pcs)(hm:Met ops tm ⟨some dd,.call ⟨.builtin .append,#[xo,yo],#[sT,xT]⟩,ty,pos,aft,gd⟩ true)
 (hT:P.underlying sT=some (.slice eT))(hs:Bi P eT=some w)(hz:Dx P eT=some z)(a2:z.cells.size=w)(a4:Dh P eT=some by')(hx:P.underlying xT=some (.slice eX))
 (O:evl tm xo=v)(a3:evl tm yo=x)(o1:Ac eT w v es X)(o2:Ac eT w x news Y)(h1:∀u∈news.flatten,A7 u=true)
 (M:(es.length+news.length)*by'<=2^45)(V:0<by'/\by'<=2^20)
 (nx:∀v' H,Ac eT w v' (es++news) H->RL P md f r df k cs Stop ops rest (tm.set dd v') (fun h=>St z9 zz p h (A++(H++C)))):
 RL P md f r df k cs Stop ops (⟨some dd,.call ⟨.builtin .append,#[xo,yo],#[sT,xT]⟩,ty,pos,aft,gd⟩::rest) tm (fun h=>St z9 zz p h (A++(X++(Y++C)))):=
 xmj (K := fun v' h' =>∃H, Ac eT w v' (es ++ news) H /\ St z9 zz p h' (A ++ (H ++ C))) hm rfl (fun h s => xkf A hT hs hz a2 a4 hx O a3 o1 s (xgh (L₁ := A ++ X) o2 (by rw[List.append_assoc]; exact s)) h1 M V fun v' H h' o' s' => ⟨H, o', s'.sub
  ((List.Sublist.refl A).append ((List.Sublist.refl H).append (List.sublist_append_right Y C)))⟩) fun v'=>xgk fun H=>xcz fun o'=>nx v' H o'
theorem xq6{dd:Nat}{sT xT eT eX:TypeId}{w by' n cap:Nat}{a:Option Addr}{xo yo:Operand}{v z:Value}{es news:List (List Value)}(A X:Pcs)(hm:Met ops tm ⟨some dd,.call ⟨.builtin .append,#[xo,yo],#[sT,xT]⟩,ty,pos,aft,gd⟩ true)
 (hT:P.underlying sT=some (.slice eT))(hs:Bi P eT=some w)(hz:Dx P eT=some z)(a3:z.cells.size=w)(a5:Dh P eT=some by')(hx:P.underlying xT=some (.slice eX))
 (O:evl tm xo=v)(a4:evl tm yo=.slice a n cap)(o1:Ac eT w v es X)(o2:Sl p a n w news)(h1:∀u∈news.flatten,A7 u=true)
 (M:(es.length+n)*by'<=2^45)(V:0<by'/\by'<=2^20)(a2:0<w)
 (nx:∀v' H,Ac eT w v' (es++news) H->RL P md f r df k cs Stop ops rest (tm.set dd v') (fun h=>St z9 zz p h (A++(H++C)))):
 RL P md f r df k cs Stop ops (⟨some dd,.call ⟨.builtin .append,#[xo,yo],#[sT,xT]⟩,ty,pos,aft,gd⟩::rest) tm (fun h=>St z9 zz p h (A++(X++C))):=
 xmj (K:=fun v' h'=>∃H,Ac eT w v' (es++news) H/\St z9 zz p h' (A++(H++C))) hm rfl (fun _ s=>xkf A hT hs hz a3 a5 hx O a4 o1 s (xrf s a2 o2) h1 M V fun _ H _ o' s'=>⟨H,o',s'⟩) fun v'=>xgk fun H=>xcz fun o'=>nx v' H o'
end
def Az(P:Program)(md:Md)(H:Value)(args:List Value)(h:Heap)(R:Value->Heap->Prop):Prop:=
 ∀(c:Frame)(cs:List Frame)(Stop:Goroutine->Heap->Prop),(∀v h',R v h'->Reach P md (G (c.finish v) cs) h' Stop)->
  wpS P (do let d <- Deferred.ofValue H args.toArray;invoke d.target d.args) h (N7 P md c cs Stop)
section
variable{P:Program}{md:Md}{h:Heap}{R R':Value->Heap->Prop}
theorem Az.mono{H:Value}{args:List Value}(x:Az P md H args h R)(y:∀v h',R v h'->R' v h'):Az P md H args h R':=
 fun c cs Stop z=>x c cs Stop fun v h' r=>z v h' (y v h' r)
theorem xkq{g:FuncId}{first cap args:List Value}(H:Am P g=true)(x:Aa P md g (first++(args++cap)).toArray h R):Az P md (.func (.func g) first.toArray cap.toArray) args h R:=by
 intro c cs Stop z;refine xbq ?_;unfold Deferred.ofValue;refine xcq ?_;simp only[invoke];refine xlb H ?_;show Reach P md (G (Frame.enter P g _ .normal) (c::cs)) h Stop;have e:(first.toArray++args.toArray++cap.toArray)=(first++(args++cap)).toArray:=by simp
 rw[e];exact x c cs Stop z
end
section
variable{P:Program}{md:Md}{f:FuncId}{r:Rd}{df:List Deferred}{k:List Item}{cs:List Frame}{Stop:Goroutine->Heap->Prop}
 {ops rest:List Oper}{tm tm':List Value}{h:Heap}{Φ:Heap->Prop}{z9:Heap}{zz:List Nat}{p:Ab}{L:Pcs}
theorem xnd[Stb Φ]{args:List Operand}{ats:Array TypeId}{d:Option Tmp}{ty:TypeId}{pos:String}{aft:Array Edge}{gd:Option (Nat×Bool)}{x:Operand}{O:Value}{vs:List Value}{R:Value->Heap->Prop}
 (hm:Met ops tm ⟨d,.call ⟨.value x,args.toArray,ats⟩,ty,pos,aft,gd⟩ true)(hx:evl tm x=O)(M:args.map (evl tm)=vs)
 (hc:∀h,Φ h->Az P md O vs h R)(n:∀v,RL P md f r df k cs Stop ops rest (Cm tm d v) (R v)):
 RL P md f r df k cs Stop ops (⟨d,.call ⟨.value x,args.toArray,ats⟩,ty,pos,aft,gd⟩::rest) tm Φ:=by
 intro H e;rw[xiw];refine xrp (xod e) (xbx hm) xvw (.inr rfl) fun h y=>?_;rw[xez];have:=hc h y (F (B f r) tm.toArray df (.inRegion ops.toArray (H.length::List.range' (H.length+1) rest.length)::k)) cs Stop fun v h' V=>by
  rw[xgx (xod e),xdx];have:=n v (H++[⟨d,.call ⟨.value x,args.toArray,ats⟩,ty,pos,aft,gd⟩]) (by simp[e]) h' V;simpa[FL]using this
 simp only[execOp,resolve,hx,List.map_toArray,M];exact this
theorem xg2{l:Nat}{lp:Loop}{vs:List Value}{R:Value->Heap->Prop}(H:h[l]?=some (.loop lp))(V:vs.length=lp.params.size)
 (M:((lp.params.zip vs.toArray).foldl (fun tmps(t,a)=>tmps.setIfInBounds t a) lp.tmps)=tm'.toArray)
 (x:∀(c:Frame)(cs:List Frame)(Stop:Goroutine->Heap->Prop),(∀v h',R v h'->Reach P md (G (c.finish v) cs) h' Stop)->
  RS P md (G (FL lp.fn (.some l) tm' [] [.code lp.assign,.beginRound,.code lp.body]) (c::cs)) Φ Stop)(O:Φ h):Az P md (.func (.yield l) #[] #[]) vs h R:=by
 intro c cs Stop z;refine xbq ?_;unfold Deferred.ofValue;refine xcq ?_;simp only[invoke];unfold Instr.yield Instr.getLoop;refine xbq ?_;refine xbq ?_;simp only[getObj,wpS,H];refine⟨rfl,?_⟩;refine xcq ?_;rw[if_neg (by simpa using V)];refine xcq ?_;show Reach P md (G (Frame.round l lp.fn _ lp.assign lp.body .normal) (c::cs)) h Stop;have e:(#[]:Array Value)++vs.toArray=vs.toArray:=by simp
 rw[e,M];exact x c cs Stop z h O
theorem xwc{l:Nat}{lp:Loop}{K:Loop->Heap->Prop}(H:h[l]?=some (.loop lp))(x:K lp h):wpS P (Instr.getLoop l) h K:=by
 unfold Instr.getLoop;refine xbq ?_;simp only[getObj,wpS,H];exact⟨rfl,xcq x⟩
theorem xtc{l:Nat}{lp H:Loop}{K:Unit->Heap->Prop}(M:h[l]?=some (.loop lp))(x:K () (h.setIfInBounds l (.loop H))):wpS P (setObj l (.loop H)) h K:=by
 simp only[setObj,wpS,M];exact⟨rfl,rfl,x⟩
theorem St.setObj(s:St z9 zz p h L){i b:Nat}{o H:Obj}(M:L[i]?=some (b,o)):St z9 zz p (h.setIfInBounds b H) (L.set i (b,H)):=
 s.Nz M (by rw[Array.getElem?_setIfInBounds_self_of_lt (xmx (s.at M))]) s_ fun c hc=>by rw[Array.getElem?_setIfInBounds_ne (Ne.symm hc)]
theorem yab{l i:Nat}{lp:Loop}(H:L[i]?=some (l,.loop lp))(M:lp.state=.ready)
 (x:RS P md (G (FL f (.some l) tm df k) cs) (fun h=>St z9 zz p h (L.set i (l,.loop {lp with state:=.busy}))) Stop):
 RS P md (G (FL f (.some l) tm df (.beginRound::k)) cs) (fun h=>St z9 zz p h L) Stop:=by
 refine xk3 (show(B f (.some l)).kind≠.early from xvw) rfl (fun w=>rfl) fun h s=>?_;show wpS P (do Instr.beginRound l;pure Next.skip) h _;refine xbq ?_;unfold Instr.beginRound;refine xbq (xwc (s.at H) ?_);refine xbq (xtc (s.at H) ?_);rw[M];refine xcq ?_;refine xcq ?_;exact x _ (s.setObj H)
theorem xi3{l i:Nat}{lp lp':Loop}{c:Frame}{jump:Option Code}{v:Value}(hL:L[i]?=some (l,.loop lp))(hv:v=.bool jump.isNone)(hl:{lp with state:=if jump.isNone then .ready else .done,pending:=jump}=lp')
 (hstep:∀w,stepG P md.Gq (G (FL f (.some l) tm df k) (c::cs)) w=(let(r,es):=(Instr.endRound l jump).runT P w #[]
  GStep.after (seen P f es) <| match r with
  |.ok v w=>doReturn P md.Gq (FL f (.some l) tm df k) (c::cs) none v w
  | .halt _ w => .ended (.stuck "range over a function: no such loop" ((FL f (.some l) tm df k).pos P)) w))
 (x:RS P md (G (c.finish v) cs) (fun h=>St z9 zz p h (L.set i (l,.loop lp'))) Stop):
 RS P md (G (FL f (.some l) tm df k) (c::cs)) (fun h=>St z9 zz p h L) Stop:=by
 intro h s;refine xij ⟨rfl,fun zj k₁ S w V=>?_⟩;have s₁:=s.call k₁;have hx:wpS P (Instr.endRound l jump) zj fun v' h'=>v'=v/\St z9 zz p h' (L.set i (l,.loop lp')):=by
  unfold Instr.endRound;refine xbq (xwc (s₁.at hL) ?_);refine xbq (xtc (s₁.at hL) ?_);refine xcq ⟨hv.symm,?_⟩;rw[<- hl];exact s₁.setObj hL
 obtain⟨v',h',w',es,e1,e2,⟨e3,e4⟩,e5,e6,e7⟩:=xuc _ #[] hx V;subst e3;refine⟨_,h',w',seen P f es,?_,x h' e4,e5,e6,xdb e7⟩;rw[hstep w];simp only[Array.empty_append]at e1;simp only[e1,GStep.after,doReturn,FL,F,B,Rd.kind,Rd.round,G,Array.append_empty]
theorem ymh{l i:Nat}{lp H:Loop}{c:Frame}(O:L[i]?=some (l,.loop lp))(M:{lp with state:=.ready,pending:=none}=H)
 (x:RS P md (G (c.finish (.bool true)) cs) (fun h=>St z9 zz p h (L.set i (l,.loop H))) Stop):
 RS P md (G (FL f (.some l) tm df []) (c::cs)) (fun h=>St z9 zz p h L) Stop:=
 xi3 O rfl (jump:=none) (by simpa using M) (fun _=>rfl) x
theorem ykh{l i:Nat}{lp H:Loop}{c:Frame}(O:L[i]?=some (l,.loop lp))(M:{lp with state:=.done,pending:=some .ret}=H)
 (x:RS P md (G (c.finish (.bool false)) cs) (fun h=>St z9 zz p h (L.set i (l,.loop H))) Stop):
 RS P md (G (FL f (.some l) tm df (.code .ret::k)) (c::cs)) (fun h=>St z9 zz p h L) Stop:=
 xi3 O rfl (jump:=some .ret) (by simpa using M) (fun _=>rfl) x
theorem xam{l i:Nat}{lp:Loop}(O:L[i]?=some (l,.loop lp))(hb:lp.state≠.busy)
 (x:RS P md (G (FL f r tm df ((lp.pending.map Item.code).toList++k)) cs) (fun h=>St z9 zz p h (L.set i (l,.loop {lp with state:=.exhausted}))) Stop):
 RS P md (G (FL f r tm df (.endRangeFunc l::k)) cs) (fun h=>St z9 zz p h L) Stop:=by
 intro h s;refine xij ⟨rfl,fun zj M S w V=>?_⟩;have H:=s.call M;have hx:wpS P (Instr.endLoop l) zj fun v' h'=>v'=lp.pending/\St z9 zz p h' (L.set i (l,.loop {lp with state:=.exhausted})):=by
  unfold Instr.endLoop;refine xbq (xwc (H.at O) ?_);rw[if_neg (by cases h:lp.state<;>simp_all)];refine xbq (xtc (H.at O) ?_);exact xcq ⟨rfl,H.setObj O⟩
 obtain⟨v',h',w',es,e1,e2,⟨e3,e4⟩,e5,e6,e7⟩:=xuc _ #[] hx V;subst e3;refine⟨_,h',w',seen P f es,?_,x h' e4,e5,e6,xdb e7⟩;simp only[Array.empty_append]at e1;simp only[G,stepG,stepG.exec,FL,F,B,e1,GStep.after,Array.append_empty]
def Fm(f:FuncId)(tm:List Value)(params:Array Tmp)(assign body:Code)(r:Nat):Loop:={state:=.ready,pending:=none,fn:=f,tmps:=tm.toArray,params,assign,body,defers:=r}
theorem xz7:∀(l:List (Nat×Value))(tm:List Value),l.foldl (fun(tmps:Array Value)(q:Nat×Value)=>tmps.setIfInBounds q.1 q.2) tm.toArray=(l.foldl (fun tm q=>tm.set q.1 q.2) tm).toArray
 |[],_=>rfl
 |q::l,tm=>by
   simp only[List.foldl_cons];rw[<- xz7 l];simp
theorem xlm{l d:Nat}{lp:Loop}{vs:List Value}{R:Value->Heap->Prop}{H:List Tmp}{M O:Code}(V:h[l]?=some (.loop lp))(e:lp=Fm f tm H.toArray M O d)(hp:vs.length=H.length)
 (ht:(H.zip vs).foldl (fun tm q=>tm.set q.1 q.2) tm=tm')
 (x:∀(c:Frame)(cs:List Frame)(Stop:Goroutine->Heap->Prop),(∀v h',R v h'->Reach P md (G (c.finish v) cs) h' Stop)->
  RS P md (G (FL f (.some l) tm' [] [.code M,.beginRound,.code O]) (c::cs)) Φ Stop)(h0:Φ h):Az P md (.func (.yield l) #[] #[]) vs h R:=by
 subst e;exact xg2 V (by simpa[Fm]using hp) (by
  show((H.toArray.zip vs.toArray).foldl (fun(tmps:Array Value)(q:Nat×Value)=>tmps.setIfInBounds q.1 q.2) tm.toArray)=_;rw[List.zip_toArray,List.foldl_toArray,xz7,ht]) x h0
theorem xyn{l i:Nat}{lp:Loop}(M:L[i]?=some (l,.loop lp))(O:lp.state≠.busy)(H:lp.pending=none)
 (x:RS P md (G (FL f r tm df k) cs) (fun h=>St z9 zz p h (L.set i (l,.loop {lp with state:=.exhausted}))) Stop):
 RS P md (G (FL f r tm df (.endRangeFunc l::k)) cs) (fun h=>St z9 zz p h L) Stop:=xam M O (by
 have e:(lp.pending.map Item.code).toList++k=k:=by rw[H];rfl
 rw[e];exact x)
theorem xi7{l i:Nat}{lp:Loop}{j:Code}(M:L[i]?=some (l,.loop lp))(O:lp.state≠.busy)(H:lp.pending=some j)
 (x:RS P md (G (FL f r tm df (.code j::k)) cs) (fun h=>St z9 zz p h (L.set i (l,.loop {lp with state:=.exhausted}))) Stop):
 RS P md (G (FL f r tm df (.endRangeFunc l::k)) cs) (fun h=>St z9 zz p h L) Stop:=xam M O (by
 have e:(lp.pending.map Item.code).toList++k=.code j::k:=by rw[H];rfl
 rw[e];exact x)
def mark(r:Nat):Deferred:={target:=.collected r,args:=#[]}
theorem xb5{rr:Rd}{a2:Operand}{H:Array Tmp}{M O:Code}{R:Nat->Nat->Loop->Value->Heap->Prop}
 (hc:∀r l lp h,lp=Fm f tm H M O r->St z9 zz p h ((l,.loop lp)::(r,.deferred (some []))::L)->Az P md (evl tm a2) [.func (.yield l) #[] #[]] h (R r l lp))
 (n:∀r l lp v,lp=Fm f tm H M O r->RS P md (G (FL f rr tm (mark r::df) (.endRangeFunc l::k)) cs) (R r l lp v) Stop)(a4:rr.round=Option.none:=by rfl):
 RS P md (G (FL f rr tm df (.code (.rangeFunc a2 H M O)::k)) cs) (fun h=>St z9 zz p h L) Stop:=by
 intro h s;refine xij ⟨rfl,fun zj a7 S w V=>?_⟩;have a5:=s.call a7
 have hx:wpS P (Instr.enterLoop f tm.toArray H M O none) zj fun a h'=>∃r l,a=(l,[mark r])/\
  St z9 zz p h' ((l,.loop (Fm f tm H M O r))::(r,.deferred (some []))::L):=by
  unfold Instr.enterLoop;refine xbq ?_;refine xbq ?_;simp only[newObj];refine xcq ?_;refine xbq ?_;simp only[wpS];exact xcq ⟨_,_,rfl,(a5.push _).push _⟩
 obtain⟨a,h',w',es,e1,e2,⟨r,l,rfl,e4⟩,e5,e6,e7⟩:=xuc _ #[] hx V;have a9:=hc r l _ h' rfl e4 (FL f rr tm (mark r::df) (.inRangeFunc l::k)) cs Stop fun v h2 y=>n r l _ v rfl h2 y;obtain⟨nx,h2,w2,a6,g1,g2,g3,g4,g5,g6⟩:=xuc _ #[] a9 e5;simp only[Array.empty_append]at e1 g1
 have a3:stepG P md.Gq (G (FL f rr tm df (.code (.rangeFunc a2 H M O)::k)) cs) w=
  GStep.after (seen P f es) (stepG.apply P true (FL f rr tm (mark r::df) (.inRangeFunc l::k)) cs none (do let d <- Deferred.ofValue (evl tm a2) #[.func (.yield l) #[] #[]];invoke d.target d.args) w'):=by
  have he:Frame.eval (FL f rr tm (mark r::df) (.inRangeFunc l::k))=evl tm:=by rw[<- xez];exact ytz
  simp only[G,stepG,stepG.exec,FL,F,B,a4,e1];simp only[FL,F,B,a4]at he;simp only[resolve,List.map_toArray,List.map_cons,List.map_nil];have e3:({fn:=f,tmps:=tm.toArray,todo:=.inRangeFunc l::k,defers:=[mark r]++df,mode:=.run,kind:=rr.kind,roundOf:=Option.none}:Frame).eval=evl tm:=he;rw[e3];rfl
 have a8:∀e∈seen P f es++seen P f a6,EvX S w2.heap.size e:=fun e he=>by
  rcases Array.mem_append.1 he with he|he
  ·exact ysb g5.size (xdb e7 e he)
  ·exact xdb g6 e he
 have b0:(rr.kind==CallKind.early)=false:=by cases rr<;>rfl
 rw[a3];cases nx<;>first|exact g3.elim|skip
 all_goals
  refine⟨_,h2,w2,seen P f es++seen P f a6,?_,g3,g4,e6.trans g5,a8⟩;simp only[stepG.apply,if_true];simp only[g1,GStep.after,FL,F,B,a4,b0,Bool.false_eq_true,if_false,G,Array.append_empty]
  try rfl
end
section
variable{z9 h h':Heap}{zz:List Nat}{p:Ab}{L:Pcs}
end
section
variable{P:Program}{tm:List Value}{d:Option Tmp}{ty:TypeId}{pos:String}{aft:Array Edge}{gd:Option (Nat×Bool)}{h:Heap}
theorem xtg{x:Operand}{a:Addr}(H:evl tm x=.pointer (some a)):Exd P tm ⟨d,.nilCheck x,ty,pos,aft,gd⟩ h (.pointer (some a)):=by
 unfold Exd Ex;simp only[execOp,H];exact xcq ⟨_,rfl,rfl,rfl⟩
variable{md:Md}{f:FuncId}{r:Rd}{df:List Deferred}{k:List Item}{cs:List Frame}{Stop:Goroutine->Heap->Prop}{ops rest:List Oper}{tm':List Value}{Φ:Heap->Prop}
theorem xbt[sb:Stb Φ]{args:List Operand}{ats:Array TypeId}{x:Operand}{V v:Value}{vs:List Value}
 (hm:Met ops tm ⟨d,.call ⟨.value x,args.toArray,ats⟩,ty,pos,aft,gd⟩ true)(hx:evl tm x=V)(M:args.map (evl tm)=vs)
 (hc:∀h,Φ h->Az P md V vs h fun v' h'=>v'=v/\Af h h')(ht:Cm tm d v=tm')(n:RL P md f r df k cs Stop ops rest tm' Φ):
 RL P md f r df k cs Stop ops (⟨d,.call ⟨.value x,args.toArray,ats⟩,ty,pos,aft,gd⟩::rest) tm Φ:=
 xnd (R:=fun v' h'=>v'=v/\Φ h') hm hx M (fun h y=>(hc h y).mono fun _ h'⟨O,e2⟩=>⟨O,sb.stb _ _ y e2⟩) fun v' H e h⟨O,y⟩=>by subst O;rw[ht];exact n H e h y
end
def El:Value->Addr
 |.slice (some a) _ _=>a
 |_=>⟨0,0,none⟩
theorem xzl{w:Nat}{y:Value}:∀{es:List (List Value)},(∀e∈es,e.length=w)-> ∀{i j:Nat}{e:List Value},es[i]?=some e->j<e.length->es.flatten.set (i*w+j) y=(es.set i (e.set j y)).flatten
 |[],_,i,_,e,hi,_=>by simp at hi
 |e₀::es,h,i,j,e,hi,hj=>by
   have H:=h e₀ s_;cases i with
   |zero=>
     simp at hi;subst hi;rw[Nat.zero_mul,Nat.zero_add,List.flatten_cons,List.set_cons_zero,List.flatten_cons,List.set_append_left _ _ hj]
   |succ i=>
     simp at hi;have:=xzl (y:=y) (fun x M=>h x (by simp[M])) hi hj;rw[List.flatten_cons,List.set_cons_succ,List.flatten_cons,List.set_append_right _ _ (by rw[H,Nat.succ_mul];omega),<- this];congr 2;rw[H,Nat.succ_mul];omega
theorem Ac.has{T:TypeId}{w i:Nat}{v:Value}{es:List (List Value)}{X:List (Nat×Obj)}(o:Ac T w v es X)(hi:i<es.length):
 ∃b cs cap rest,v=.slice (some ⟨b,0,none⟩) es.length cap/\X=[(b,.cells (List.toArray cs) T (0,0))]/\cs=es.flatten++rest/\cs.length=cap*w/\(w=1->cap<=9223372036854775807):=by
 obtain⟨_,⟨_,h,_⟩|h⟩:=o
 ·subst h;simp at hi
 ·exact h
section
variable{P:Program}{md:Md}{f:FuncId}{r:Rd}{df:List Deferred}{k:List Item}{cs:List Frame}{Stop:Goroutine->Heap->Prop}
 {ops rest:List Oper}{tm tm':List Value}{h:Heap}{z9:Heap}{zz:List Nat}{p:Ab}{A X C L:Pcs}{d:Option Tmp}{ty:TypeId}{pos:String}{aft:Array Edge}{gd:Option (Nat×Bool)}
 {T:TypeId}{w:Nat}{v:Value}{es:List (List Value)}
theorem ynb{t e:TypeId}{x:Operand}(o:Ac T w v es X)(M:P.underlying t=some (.slice e))(H:evl tm x=v):
 Exd P tm ⟨d,.call ⟨.builtin .len,#[x],#[t]⟩,ty,pos,aft,gd⟩ h (.J (es.length:Nat)):=by
 obtain⟨a,cap,e,_⟩:=o.val;exact xy1 M (H.trans e)
theorem yob{t e:TypeId}{x:Operand}{n:Nat}(o:Ac T w v es X)(hn:es.length=n)(M:P.underlying t=some (.slice e))(H:evl tm x=v):
 Exd P tm ⟨d,.call ⟨.builtin .len,#[x],#[t]⟩,ty,pos,aft,gd⟩ h (.J (n:Nat)):=by subst hn;exact ynb o M H
theorem xic{t e:TypeId}{x y:Operand}{i:Nat}(o:Ac T w v es X)(O:P.underlying t=some (.slice e))(hs:Bi P e=some w)(H:evl tm x=v)(M:evl tm y=.J (i:Nat))(hi:i<es.length):
 Exd P tm ⟨d,.indexAddr t x y,ty,pos,aft,gd⟩ h (.pointer (some ((El v).add (i*w)))):=by
 obtain⟨b,cs,cap,rest,V,_⟩:=o.has hi;rw[V]at H⊢;exact xxk O hs H M hi
theorem ynz{t:TypeId}{x:Operand}{i j:Nat}{e:List Value}{u:Value}{a:Addr}(o:Ac T w v es X)(s:St z9 zz p h (A++(X++C)))(M:Gd P t=some false)(hx:evl tm x=.pointer (some a))(H:((El v).add (i*w)).add j=a)
 (hi:es[i]?=some e)(V:e[j]?=some u):Exd P tm ⟨d,.load t x,ty,pos,aft,gd⟩ h u:=by
 obtain⟨b,cs,cap,rest,e1,e2,O,e4,e5⟩:=o.has (List.getElem?_eq_some_iff.1 hi).1;subst e1;subst e2;subst H;refine xif M hx ?_;simp only[El];rw[xsx,xsx];refine s.Ff (i:=A.length) (cs:=cs.toArray) (T:=T) (z:=(0,0)) (by rw[List.getElem?_append_right (Nat.le_refl _)];simp) ?_;have:=xej o.1 hi V;rw[List.getElem?_toArray,O,Nat.zero_add,List.getElem?_append_left (List.getElem?_eq_some_iff.1 this).1];exact this
theorem ykv(o:Ac T w v es X)(n:∀p' a cap,PLe p p'->v=.slice a es.length cap->Sl p' a es.length w es->RL P md f r df k cs Stop ops rest tm (fun h=>St z9 zz p' h (A++C))):
 RL P md f r df k cs Stop ops rest tm (fun h=>St z9 zz p h (A++(X++C))):=fun H e h s=>by
 obtain⟨p',a,cap,h1,O,M,V,_⟩:=o.last (s.perm (by rw[<- List.append_assoc,<- List.append_assoc];exact List.Perm.append_right C List.perm_append_comm):St z9 zz p h (X++(A++C)));exact n p' a cap h1 M V H e h O
theorem ycv{g:Goroutine}(o:Ac T w v es X)(n:∀p' a cap,PLe p p'->v=.slice a es.length cap->Sl p' a es.length w es->RS P md g (fun h=>St z9 zz p' h (A++C)) Stop):
 RS P md g (fun h=>St z9 zz p h (A++(X++C))) Stop:=fun h s=>by
 obtain⟨p',a,cap,V,O,H,M,_⟩:=o.last (s.perm (by rw[<- List.append_assoc,<- List.append_assoc];exact List.Perm.append_right C List.perm_append_comm):St z9 zz p h (X++(A++C)));exact n p' a cap V H M h O
theorem ylv{n:Nat}(o:Ac T w v es X)(hn:es.length=n)(H:∀p' a cap,PLe p p'->v=.slice a n cap->Sl p' a n w es->RL P md f r df k cs Stop ops rest tm (fun h=>St z9 zz p' h (A++C))):
 RL P md f r df k cs Stop ops rest tm (fun h=>St z9 zz p h (A++(X++C))):=by subst hn;exact ykv o H
theorem St.forget{p':Ab}(s:St z9 zz p' h L)(M:PLe p p'):St z9 zz p h L:=
 ⟨s.Cq,s.size,fun b o e=>s.per b o (M b o e),fun x H=>⟨(s.own x H).1,(by
  cases e:p x.1 with
  |none=>rfl
  |some o=>have h:=(s.own x H).2.1;rw[M _ _ e]at h;cases h),(s.own x H).2.2⟩,s.nod⟩
theorem St.Tb{b i:Nat}{o:Obj}(s:St z9 zz p h L)(H:L[i]?=some (b,o)):Per (Gv p b o) h:=fun c x hc=>by
 unfold Gv at hc;split at hc
 ·rename_i e;subst e;cases hc;exact s.at H
 ·exact s.per c x hc
theorem St.leO{b i:Nat}{o:Obj}(s:St z9 zz p h L)(H:L[i]?=some (b,o)):PLe p (Gv p b o):=xcr (s.own _ (mem_of_get? H)).2.1
end
section
variable{P:Program}{md:Md}{Base:Heap->Prop}{ops rest:List Oper}{tm tm' tmF:List Value}{d:Option Tmp}{ty:TypeId}{pos:String}{aft:Array Edge}{gd:Option (Nat×Bool)}
theorem xvt{T e T':TypeId}{x:Operand}{a:Option Addr}{n c:Nat}{h:Heap}(H:P.underlying T=some (.slice e))(M:evl tm x=.slice a n c):
 Exd P tm ⟨d,.binOp .eql T x (.const (.slice none 0 0)) T',ty,pos,aft,gd⟩ h (.bool a.isNone):=by
 refine xxx M rfl (fun K z=>?_) ?_
 ·unfold eqGuard;rw[if_neg d_];exact xcq z
 ·simp only[evl,binOp,Op.equal,Op.maxDepth];refine xbq ?_;rw[show(10000:Nat)=9999+1 from rfl];unfold Op.equalIn;refine xbq (xfq H ?_);cases a with
  |none=>exact xcq (xcq ⟨rfl,rfl⟩)
  |some a=>exact xcq (xcq ⟨rfl,rfl⟩)
end
section
variable{P:Program}{md:Md}{Base:Heap->Prop}{ops full rest:List Oper}{f:FuncId}{r:Rd}{df:List Deferred}{k:List Item}{cs:List Frame}{Stop:Goroutine->Heap->Prop}{tm tm':List Value}
end
inductive Bd (tm:List Value):Option Operand->Nat->Nat->Prop
 |none (d:Nat):Bd tm none d d
 |some {o:Operand} {k:IntKind} {z:Int} (d:Nat) (h:evl tm o=.int k z) (h0:0<=z):Bd tm (some o) d z.toNat
 |nat {o:Operand} {k:IntKind} {z:Nat} (d:Nat) (h:evl tm o=.int k (z:Nat)):Bd tm (some o) d z
def Ft(a:Option Addr)(c l w:Nat):Option Addr:=if c=l then a else a.map (·.add (l*w))
section
variable{P:Program}{h:Heap}{tm:List Value}{d:Option Tmp}{ty:TypeId}{pos:String}{aft:Array Edge}{gd:Option (Nat×Bool)}
theorem xhz{k:IntKind}{z:Int}{y:Nat}{H:BoundsCode}{K:Nat->Heap->Prop}(M:0<=z)(O:z<=(y:Nat))(x:K z.toNat h):wpS P (Instr.sliceBound (.int k z) y H) h K:=by
 unfold Instr.sliceBound;refine xbq (xcq ?_);simp only;rw[if_pos ⟨M,O⟩];exact xcq x
theorem xkv{b:Bool}{n c l r:Nat}{lo hi:Option Operand}{K:Nat×Nat×Nat->Heap->Prop}(M:Bd tm lo 0 l)(bh:Bd tm hi n r)(V:l<=r)(O:r<=c)(x:K (l,r,c) h):
 wpS P (Instr.sliceBounds b n c (lo.map (evl tm)) (hi.map (evl tm)) none) h K:=by
 unfold Instr.sliceBounds;refine xbq (xcq ?_);have H:∀(b':Bool),wpS P (match lo.map (evl tm)with|some v=>do {let l <- Instr.sliceBound v r (if b' then .slice3C else .sliceB);pure (l,r,c)} | none=>do {let l <- pure 0;pure (l,r,c)}) h K:=by
  intro b';cases M with
  |none=>exact xbq (xcq (xcq x))
  |some _ e h0=>simp only[Option.map_some,e];exact xbq (xhz h0 om (xcq x))
  |nat _ e=>simp only[Option.map_some,e];exact xbq (xhz (Int.natCast_nonneg _) om (xcq (by simpa using x)))
 cases bh with
 |none=>
   simp only[Option.map_none];refine xbq (xcq ?_);exact H _
 |some _ e h0=>
   simp only[Option.map_some,e];refine xbq (xhz h0 om ?_);exact H _
 |nat _ e=>
   simp only[Option.map_some,e];refine xbq (xhz (Int.natCast_nonneg _) om ?_);rw[Int.toNat_natCast];exact H _
theorem xsw{t e:TypeId}{x:Operand}{lo hi:Option Operand}{w n c l r:Nat}{a:Option Addr}(H:P.underlying t=some (.slice e))(hs:Bi P e=some w)(V:evl tm x=.slice a n c)(M:Bd tm lo 0 l)(bh:Bd tm hi n r)
 (h1:l<=r)(O:r<=c):Exd P tm ⟨d,.slice t x lo hi none,ty,pos,aft,gd⟩ h (.slice (Ft a c l w) (r-l) (c-l)):=by
 refine xtz (s:=Instr.sliceAt t (.slice a n c) (lo.map (evl tm)) (hi.map (evl tm)) none) (by simp only[execOp,V,Option.map_none]) ?_;unfold Instr.sliceAt;refine xbq (xfq H ?_);simp only;unfold Instr.slice;refine xbq (xfq H ?_);simp only;refine xbq (xkv M bh h1 O ?_);simp only;refine xbq (xax hs ?_);exact xcq ⟨rfl,rfl⟩
theorem xo7{t:TypeId}{x:Operand}{lo hi:Option Operand}{l r:Nat}{s:ByteArray}(H:P.underlying t=some .string)(V:evl tm x=.string s)(M:Bd tm lo 0 l)(bh:Bd tm hi s.size r)
 (h1:l<=r)(O:r<=s.size):Exd P tm ⟨d,.slice t x lo hi none,ty,pos,aft,gd⟩ h (.string (s.extract l r)):=by
 refine xtz (s:=Instr.sliceAt t (.string s) (lo.map (evl tm)) (hi.map (evl tm)) none) (by simp only[execOp,V,Option.map_none]) ?_;unfold Instr.sliceAt;refine xbq (xfq H ?_);simp only;unfold Instr.slice;refine xbq (xfq H ?_);simp only[Option.isSome_none,Bool.false_eq_true,if_false];refine xbq (xkv M bh h1 O ?_);exact xcq ⟨rfl,rfl⟩
theorem Sl.part{p:Ab}{a:Option Addr}{n c w l r:Nat}{es:List (List Value)}(s:Sl p a n w es)(hc:n<=c)(O:l<=r)(M:r<=n):Sl p (Ft a c l w) (r-l) w ((es.drop l).take (r-l)):=
 s.cut O M fun H=>by unfold Ft;rw[if_neg om,s.ne om];rfl
end
section
variable{P:Program}{md:Md}{f:FuncId}{r:Rd}{df:List Deferred}{k:List Item}{cs:List Frame}{Stop:Goroutine->Heap->Prop}{ops rest:List Oper}{tm:List Value}
 {z9:Heap}{zz:List Nat}{p:Ab}{A X C:Pcs}{T:TypeId}{w:Nat}{v:Value}{es:List (List Value)}{n:Nat}{g:Goroutine}
theorem Ac.room(o:Ac T w v es X)(hw:0<w){a:Option Addr}{m cap:Nat}(e:v=.slice a m cap):m<=cap:=by
 obtain⟨V,⟨rfl,rfl,rfl⟩|⟨b,cs,M,rest,rfl,rfl,H,hlen,O⟩⟩:=o
 ·cases e;exact Nat.le_refl _
 ·cases e;have h2:=xnq V;have h3:cs.length=es.flatten.length+rest.length:=by rw[H];simp
  have:es.length*w<=cap*w:=om;exact Nat.le_of_mul_le_mul_right this hw
end
theorem xzx:∀{vs:List Value}{e:List Value}{j:Nat},(B6 e j vs).length=e.length
 |[],_,_=>rfl
 |v::vs,e,j=>by simp only[B6];rw[xzx];simp
theorem xub{w:Nat}:∀{vs:List Value}{es:List (List Value)}{i j:Nat}{e:List Value},(∀e∈es,e.length=w)->es[i]?=some e->j+vs.length<=e.length->B6 es.flatten (i*w+j) vs=(es.set i (B6 e j vs)).flatten
 |[],es,i,j,e,_,hi,_=>by
   have:es.set i e=es:=by
    refine List.ext_getElem? fun m=>?_;rw[List.getElem?_set];split
    ·rename_i h;subst h;rw[if_pos (List.getElem?_eq_some_iff.1 hi).1,hi]
    ·rfl
   simp only[B6];rw[this]
 |v::vs,es,i,j,e,h,hi,hj=>by
   have H:=(List.getElem?_eq_some_iff.1 hi).1;have he:e.length=w:=h e (List.mem_of_getElem? hi);simp only[List.length_cons]at hj;simp only[B6];rw[xzl h hi om];have O:∀z∈es.set i (e.set j v),z.length=w:=fun z M=>by
    rcases List.mem_or_eq_of_mem_set M with q|q
    ·exact h z q
    ·subst q;simpa using he
   have:=xub (vs:=vs) (es:=es.set i (e.set j v)) (i:=i) (j:=j+1) (e:=e.set j v) O (by rw[List.getElem?_set,if_pos rfl,if_pos H]) (by simp;omega);rw[Nat.add_assoc,this,List.set_set]
section
variable{P:Program}{md:Md}{f:FuncId}{r:Rd}{df:List Deferred}{k:List Item}{cs:List Frame}{Stop:Goroutine->Heap->Prop}{ops rest:List Oper}{tm:List Value}
 {z9:Heap}{zz:List Nat}{p:Ab}{A X C:Pcs}{T:TypeId}{w:Nat}{v:Value}{es:List (List Value)}{d:Option Tmp}{ty:TypeId}{pos:String}{aft:Array Edge}{gd:Option (Nat×Bool)}{h:Heap}
theorem xz1{t e:TypeId}{x y:Operand}{i:Int}(o:Ac T w v es X)(O:P.underlying t=some (.slice e))(hs:Bi P e=some w)(M:evl tm x=v)(H:evl tm y=.J i)(V:0<=i)(hi:i.toNat<es.length):
 Exd P tm ⟨d,.indexAddr t x y,ty,pos,aft,gd⟩ h (.pointer (some ((El v).add (i.toNat*w)))):=
 xic (i:=i.toNat) o O hs M (by rw[H,Int.toNat_of_nonneg V]) hi
theorem xp6{T':TypeId}{x y:Operand}{i j H:Nat}{e vs:List Value}{u:Value}{a:Addr}(o:Ac T w v es X)(hm:Met ops tm ⟨none,.store T' x y,ty,pos,aft,gd⟩ true)(hs:Bi P T'=some H)(hx:evl tm x=.pointer (some a))(ha:((El v).add (i*w)).add j=a)
 (hy:evl tm y=u)(V:u.cells=vs.toArray)(hn:vs.length=H)(h1:vs.all A7=true)(hi:es[i]?=some e)(hj:j+vs.length<=e.length)
 (n:∀X',Ac T w v (es.set i (B6 e j vs)) X'->RL P md f r df k cs Stop ops rest tm (fun h=>St z9 zz p h (A++(X'++C)))):
 RL P md f r df k cs Stop ops (⟨none,.store T' x y,ty,pos,aft,gd⟩::rest) tm (fun h=>St z9 zz p h (A++(X++C))):=by
 have M:=(List.getElem?_eq_some_iff.1 hi).1;obtain⟨b,cs',cap,rs,e1,e2,e3,e4,ec⟩:=o.has M;have he:e.length=w:=o.1 e (List.mem_of_getElem? hi);have a3:es.flatten.length=es.length*w:=xnq o.1;have O:(i+1)*w<=es.length*w:=Nat.mul_le_mul_right _ M;rw[Nat.add_mul,Nat.one_mul]at O;subst e1;subst e2;subst ha;have e5:B6 cs' (i*w+j) vs=(es.set i (B6 e j vs)).flatten++rs:=by
  rw[e3,<- xub o.1 hi hj];have:∀(vs l:List Value)(m:Nat),m+vs.length<=l.length->B6 (l++rs) m vs=B6 l m vs++rs:=by
   intro vs
   induction vs with
   |nil=>intro l m _;rfl
   |cons v vs ih=>
     intro l m hl;simp only[List.length_cons]at hl;simp only[B6];rw[List.set_append_left _ _ om,ih _ _ (by simp;omega)]
  exact this vs _ _ om
 have o':Ac T w (.slice (some ⟨b,0,none⟩) es.length cap) (es.set i (B6 e j vs)) [(b,.cells (B6 cs' (i*w+j) vs).toArray T (0,0))]:=by
  refine⟨fun z hz=>?_,.inr ⟨b,B6 cs' (i*w+j) vs,cap,rs,s_,rfl,e5,by rw[xzx];exact e4,ec⟩⟩;rcases List.mem_or_eq_of_mem_set hz with h|h
  ·exact o.1 z h
  ·subst h;rw[xzx];exact he
 have a2:evl tm x=.pointer (some ⟨b,i*w+j,none⟩):=by
  rw[hx];simp only[El];rw[xsx,xsx,Nat.zero_add]
 refine xq3 (i:=A.length) (b:=b) (off:=i*w+j) (cs':=cs') (T':=T) hm hs a2 hy (by rw[List.getElem?_append_right (Nat.le_refl _)];simp) (by rw[V];simpa using hn) (by rw[V];exact h1) (by rw[V,e3,List.length_append];simp only[List.size_toArray];omega) (by rw[V]) ?_;have e6:(A++([(b,Obj.cells (List.toArray cs') T (0,0))]++C)).set A.length (b,.cells (B6 cs' (i*w+j) vs).toArray T (0,0))=A++([(b,.cells (B6 cs' (i*w+j) vs).toArray T (0,0))]++C):=by
  rw[List.set_append_right _ _ (Nat.le_refl _)];simp
 rw[e6];exact n _ o'
end
class Bw(P:Program)(t:TypeId)(b:outParam Bool):Prop where h:Gd P t=some b
class Ai(P:Program)(t:TypeId)(n:outParam Nat):Prop where h:Bi P t=some n
class A5(P:Program)(t:TypeId)(v:outParam Value):Prop where h:Dx P t=some v
class ByC(P:Program)(t:TypeId)(n:outParam Nat):Prop where h:Dh P t=some n
class Bv(P:Program)(t:TypeId)(e:outParam TypeId):Prop where h:P.underlying t=some (.slice e)
class PlC(P:Program)(t:TypeId)(l:outParam (List (Nat×Nat))):Prop where h:H8 P t=some l
class Bt(P:Program)(s:TypeId)(i:Nat)(o n:outParam Nat):Prop where h:Lp P s i=some (o,n+1)
class FiC(P:Program)(t:TypeId)(i:Nat)(o:outParam Nat):Prop where h:∃fs fd,P.underlying t=some (.struct fs)/\fs[i]?=some fd/\fd.offset=o/\Gd P fd.type=some false
theorem xff{α:Type}{d:α}{xs H:List α}(O:xs.length=H.length)(M:∀i,i<xs.length->xs.getD i d=H.getD i d):xs=H:=by
 refine List.ext_getElem O fun i a b=>?_;have:=M i a;rw[List.getD_eq_getElem?_getD,List.getD_eq_getElem?_getD,List.getElem?_eq_getElem a,List.getElem?_eq_getElem b]at this;exact this
def bs(l:List UInt8):ByteArray:=⟨l.toArray⟩
theorem xcw(l:List UInt8):(bs l).size=l.length:=by simp[bs,ByteArray.size]
theorem yos(s:ByteArray):bs s.data.toList=s:=by cases s;simp[bs]
theorem ymr(l:List UInt8)(i:Nat):(bs l)[i]?=l[i]?:=by
 by_cases h:i<l.length
 ·rw[getElem?_pos (bs l) i (by rw[xcw];exact h),List.getElem?_eq_getElem h];rfl
 ·rw[getElem?_neg (bs l) i (by rw[xcw];exact h),List.getElem?_eq_none om]
theorem yvj(l m:List UInt8):bs l++bs m=bs (l++m):=by
 apply ByteArray.ext;simp[bs]
theorem xdg(l:List UInt8)(a b:Nat):(bs l).extract a b=bs ((l.drop a).take (b-a)):=by
 apply ByteArray.ext;rw[ByteArray.data_extract];apply Array.ext';simp[bs]
theorem yvd(l m:List UInt8):((bs l).toList==(bs m).toList)=decide (l=m):=by
 rw[<- beq_toListBytes];have e:(bs l==bs m)=(l.toArray==m.toArray):=rfl;rw[e,Bool.eq_iff_iff];simp
def sv(l:List UInt8):Value:=.string (bs l)
section
variable{P:Program}{h:Heap}{tm:List Value}{d:Option Tmp}{ty:TypeId}{pos:String}{aft:Array Edge}{gd:Option (Nat×Bool)}{l m:List UInt8}
theorem xh5{t:TypeId}{x:Operand}(H:P.underlying t=some .string)(M:evl tm x=sv l):Exd P tm ⟨d,.call ⟨.builtin .len,#[x],#[t]⟩,ty,pos,aft,gd⟩ h (.J (l.length:Nat)):=by
 have:=ymb (P:=P) (tm:=tm) (d:=d) (ty:=ty) (pos:=pos) (aft:=aft) (gd:=gd) (h:=h) H M;rwa[xcw]at this
theorem xtr{t:TypeId}{x:Operand}{lo hi:Option Operand}{a r:Nat}(V:P.underlying t=some .string)(O:evl tm x=sv l)(H:Bd tm lo 0 a)(bh:Bd tm hi l.length r)(h1:a<=r)(M:r<=l.length):
 Exd P tm ⟨d,.slice t x lo hi none,ty,pos,aft,gd⟩ h (sv ((l.drop a).take (r-a))):=by
 have:=xo7 (P:=P) (tm:=tm) (d:=d) (ty:=ty) (pos:=pos) (aft:=aft) (gd:=gd) (h:=h) V O H (by rw[xcw];exact bh) h1 (by rw[xcw];exact M);rwa[xdg]at this
theorem xcp{t:TypeId}{x y:Operand}{k:IntKind}{i:Int}(O:P.underlying t=some .string)(M:evl tm x=sv l)(H:evl tm y=.int k i)(V:0<=i)(h1:i<l.length):
 Exd P tm ⟨d,.index t x y,ty,pos,aft,gd⟩ h (.int .u8 ((l.getD i.toNat 0).toNat:Nat)):=by
 refine xtz (s:=Instr.index t (sv l) (.int k i)) (by simp only[execOp,M,H]) ?_;unfold Instr.index;refine xbq (xcq ?_);simp only;refine xbq (xfq O ?_);simp only[sv];have e:(bs l)[i.toNat]?=some (l.getD i.toNat 0):=by
  rw[ymr,List.getD_eq_getElem?_getD,List.getElem?_eq_getElem om];rfl
 rw[if_pos V,e];exact xcq ⟨rfl,rfl⟩
theorem xk5{T T':TypeId}{x y:Operand}(M:evl tm x=sv l)(H:evl tm y=sv m)(O:l.length+m.length<=9223372036854775807):Exd P tm ⟨d,.binOp .add T x y T',ty,pos,aft,gd⟩ h (sv (l++m)):=by
 refine xxx M H (fun K z=>xhx rfl z) ?_;simp only[sv,binOp,Op.stringOp,xcw];rw[if_neg (by
  have:(IntKind.i64.max:Int)=9223372036854775807:=by decide
  rw[this];omega),yvj]
 exact xcq ⟨rfl,rfl⟩
theorem xb3{H:BinOp}{T:TypeId}{x y:Operand}{a b:ByteArray}{K:Unit->Heap->Prop}(z:K () h):wpS P (eqGuard H T x y (.string a) (.string b)) h K:=by
 unfold eqGuard;cases H<;>first|(rw[if_pos (by rfl)];exact xcq z)|(rw[if_neg d_];exact xcq z)
theorem xi5{T T':TypeId}{x y:Operand}(M:evl tm x=sv l)(H:evl tm y=sv m):Exd P tm ⟨d,.binOp .eql T x y T',ty,pos,aft,gd⟩ h (.bool (decide (l=m))):=by
 refine xxx M H (fun K z=>xb3 z) ?_;simp only[sv,binOp,Op.stringOp,yvd];exact xcq ⟨rfl,rfl⟩
theorem ygb{T T':TypeId}{x y:Operand}(M:evl tm x=sv l)(H:evl tm y=sv m):Exd P tm ⟨d,.binOp .neq T x y T',ty,pos,aft,gd⟩ h (.bool (!decide (l=m))):=by
 refine xxx M H (fun K z=>xb3 z) ?_;simp only[sv,binOp,Op.stringOp,yvd];exact xcq ⟨rfl,rfl⟩
theorem xj5{M H:TypeId}{x:Operand}{k k':IntKind}{a n:Int}(hs:∃t,P.underlying M=some t)(O:P.underlying H=some (.int k'))(V:evl tm x=.int k a)(hn:k'.wrap a=n):Exd P tm ⟨d,.convert M H x,ty,pos,aft,gd⟩ h (.int k' n):=by
 obtain⟨t,hs⟩:=hs;refine xtz (s:=convert M H (.int k a)) (by simp only[execOp,V]) ?_;unfold convert;refine xbq (xfq hs ?_);refine xbq (xfq O ?_);simp only[Conv.intToInt];exact xcq ⟨by rw[hn],rfl⟩
theorem yuh{k:IntKind}{T T':TypeId}{x y:Operand}{a b n:Int}(M:evl tm x=.int k a)(H:evl tm y=.int k b)(O:b≠0)(hn:k.wrap (a.tdiv b)=n):Exd P tm ⟨d,.binOp .quo T x y T',ty,pos,aft,gd⟩ h (.int k n):=by
 refine xxx M H (fun K z=>xdk z) ?_;simp only[binOp,ne_eq,not_true,if_false,Op.intDiv,O];exact xcq ⟨by rw[hn],rfl⟩
theorem yth{k:IntKind}{T T':TypeId}{x y:Operand}{a b n:Int}(M:evl tm x=.int k a)(H:evl tm y=.int k b)(O:b≠0)(hn:a.tmod b=n):Exd P tm ⟨d,.binOp .rem T x y T',ty,pos,aft,gd⟩ h (.int k n):=by
 refine xxx M H (fun K z=>xdk z) ?_;simp only[binOp,ne_eq,not_true,if_false,Op.intDiv,O];exact xcq ⟨by rw[hn],rfl⟩
theorem yjz{t:TypeId}{x hi:Operand}{r:Nat}(H:P.underlying t=some .string)(O:evl tm x=sv l)(bh:Bd tm (some hi) l.length r)(M:r<=l.length):Exd P tm ⟨d,.slice t x none (some hi) none,ty,pos,aft,gd⟩ h (sv (l.take r)):=by
 have:=xtr (P:=P) (tm:=tm) (d:=d) (ty:=ty) (pos:=pos) (aft:=aft) (gd:=gd) (h:=h) H O (.none 0) bh (Nat.zero_le _) M;simpa using this
theorem yrz{t:TypeId}{x lo:Operand}{a:Nat}(H:P.underlying t=some .string)(O:evl tm x=sv l)(M:Bd tm (some lo) 0 a)(V:a<=l.length):Exd P tm ⟨d,.slice t x (some lo) none none,ty,pos,aft,gd⟩ h (sv (l.drop a)):=by
 have:=xtr (P:=P) (tm:=tm) (d:=d) (ty:=ty) (pos:=pos) (aft:=aft) (gd:=gd) (h:=h) H O M (.none l.length) V (Nat.le_refl _);rwa[List.take_of_length_le s_]at this
theorem yxl(b:UInt8):b.toNat<=255:=by have:b.toNat<256:=b.toNat_lt;omega
theorem wrB{b:UInt8}:IntKind.i64.wrap ((b.toNat:Nat):Int)=((b.toNat:Nat):Int):=wrZ (by have:=yxl b;omega)
theorem wr8{n:Int}(h:0<=n/\n<=255):IntKind.u8.wrap n=n:=by
 simp only[IntKind.wrap,IntKind.bits,IntKind.signed];simp;omega
end
theorem wrU{n:Int}(h:0<=n/\n<=18446744073709551615):IntKind.u64.wrap n=n:=by
 show(n%((2:Int)^64))=n;exact Int.emod_eq_of_lt h.1 om
def Ek(rs:List Nat):List Deferred:=rs.map mark
def Cv(rs:List Nat):Pcs:=rs.map fun r=>(r,.deferred (some []))
section
variable{P:Program}{md:Md}{f:FuncId}{r:Rd}{k:List Item}{cs:List Frame}{Stop:Goroutine->Heap->Prop}{tm:List Value}{Φ:Heap->Prop}[Stb Φ]
 {z9 h:Heap}{zz:List Nat}{p:Ab}{L A C X Y M:Pcs}
theorem yww{c:Code}{m₀:Nat}{rs₀:List Nat}(I:Nat->List Nat->List Value->Heap->Prop)(start:∀h,Φ h->I m₀ rs₀ tm h)[∀m rs tm,Stb (I m rs tm)]
 (O:∀m rs tm,(∀m' M tm',m'<m->RS P md (G (FL f r tm' (Ek M) (.inLoop c::k)) cs) (I m' M tm') Stop)->RS P md (G (FL f r tm (Ek rs) (.code c::.inLoop c::k)) cs) (I m rs tm) Stop):
 RS P md (G (FL f r tm (Ek rs₀) (.code (.loop c)::k)) cs) Φ Stop:=by
 refine xv0 ?_
 suffices H:∀m rs tm,RS P md (G (FL f r tm (Ek rs) (.code c::.inLoop c::k)) cs) (I m rs tm) Stop from fun h y=>H _ _ _ h (start h y)
 intro m
 induction m using Nat.strongRecOn with
 |_ m ih=>exact fun rs tm=>O m rs tm fun m' M tm' V=>xel (ih m' V M tm')
theorem xh3{zq:Frame}{td:List Item}{df:List Deferred}:∀{rs:List Nat}{L:Pcs},RS P md (G (FR (B f r) tm.toArray df td) (zq::cs)) (fun h=>St z9 zz p h L) Stop->
 RS P md (G (FR (B f r) tm.toArray (Ek rs++df) td) (zq::cs)) (fun h=>St z9 zz p h (Cv rs++L)) Stop
 |[],_,x=>x
 |_::rs,_,x=>xlg (fun _ s=>s.at (i:=0) rfl) fun _ s=>xh3 (rs:=rs) x _ (s.setObj (i:=0) rfl).drop
theorem yvw{zq:Frame}{fn:Func}{H:List ResultVar}{vs:List Value}{v:Value}{rs:List Nat}(hf:P.funcs[f]?=some fn)(M:fn.results=H.toArray)
 (e:∀h,St z9 zz p h L->Res P h tm H vs)(hv:Fq vs=v)
 (x:RS P md (G (zq.finish v) cs) (fun h=>St z9 zz p h L) Stop):RS P md (G (FL f .none tm (Ek rs) (.code .ret::k)) (zq::cs)) (fun h=>St z9 zz p h (Cv rs++L)) Stop:=
 xc9 (hro:=rfl) fun td=>by
  have:=xh3 (P:=P) (md:=md) (f:=f) (r:=.none) (cs:=cs) (Stop:=Stop) (tm:=tm) (zq:=zq) (td:=td) (df:=[]) (rs:=rs) (L:=L) (z9:=z9) (zz:=zz) (p:=p)
   (xdl (Φ:=fun h=>St z9 zz p h L) hf rfl fun h y=>xvc M (e h y) hv (x h y))
  rw[List.append_nil]at this;exact this
end
section
variable{P:Program}{tm:List Value}{h:Heap}{d:Option Tmp}{ty:TypeId}{pos:String}{aft:Array Edge}{gd:Option (Nat×Bool)}
theorem yfk(n:Int):IntKind.u64.wrap n=n%18446744073709551616:=rfl
theorem xl5{T T':TypeId}{x y:Operand}{a b:Nat}(O:evl tm x=.int .u64 ((a:Nat):Int))(M:evl tm y=.int .u64 ((b:Nat):Int))(H:a<18446744073709551616)(V:b<18446744073709551616):
 Exd P tm ⟨d,.binOp .and T x y T',ty,pos,aft,gd⟩ h (.int .u64 ((a &&& b:Nat):Int)):=
 xxx O M (fun K z=>xhx rfl z) (by
  simp only[binOp,ne_eq,not_true_eq_false,if_false,Op.intBits];refine xcq ⟨?_,rfl⟩;have e:((BitVec.ofInt IntKind.u64.bits ((a:Nat):Int)) &&& (BitVec.ofInt IntKind.u64.bits ((b:Nat):Int))).toNat=a &&& b:=by
   rw[BitVec.toNat_and,BitVec.ofInt_natCast,BitVec.ofInt_natCast,BitVec.toNat_ofNat,BitVec.toNat_ofNat,Nat.mod_eq_of_lt (show a<2^IntKind.u64.bits from H),Nat.mod_eq_of_lt (show b<2^IntKind.u64.bits from V)]
  rw[e,wrU ⟨om,by have:=Nat.and_le_left (n:=a) (m:=b);omega⟩])
theorem xf5{T T':TypeId}{x y:Operand}{k k':IntKind}{a s:Nat}(M:evl tm x=.int k ((a:Nat):Int))(H:evl tm y=.int k' ((s:Nat):Int))(hs:s<=k.bits):
 Exd P tm ⟨d,.binOp .shr T x y T',ty,pos,aft,gd⟩ h (.int k ((a / 2^s:Nat):Int)):=
 xxx M H (fun K z=>xhx rfl z) (by
  simp only[binOp,Op.shift];rw[if_neg om];refine xcq ⟨?_,rfl⟩;rw[Int.toNat_natCast,Nat.min_eq_left hs,Int.fdiv_eq_ediv_of_nonneg _ (by exact Int.pow_nonneg d_)];simp)
theorem yeb{T T':TypeId}{x y:Operand}{k':IntKind}{s:Nat}(M:evl tm x=.int .u64 1)(H:evl tm y=.int k' ((s:Nat):Int))(hs:s<=63):
 Exd P tm ⟨d,.binOp .shl T x y T',ty,pos,aft,gd⟩ h (.int .u64 ((2^s:Nat):Int)):=
 xxx M H (fun K z=>xhx rfl z) (by
  simp only[binOp,Op.shift];rw[if_neg om];refine xcq ⟨?_,rfl⟩;have h1:2^s<=2^63:=Nat.pow_le_pow_right d_ hs;have O:s<=IntKind.u64.bits:=by show s<=64;omega
  rw[Int.toNat_natCast,Nat.min_eq_left O,wrU (by
   have e:(1:Int)*2^s=((2^s:Nat):Int):=by simp
   have V:(2:Nat)^63=9223372036854775808:=by decide
   rw[e];exact⟨Int.natCast_nonneg _,Int.ofNat_le.2 (show 2^s<=18446744073709551615 from by omega)⟩)]
  simp)
theorem ykb{T T':TypeId}{x y:Operand}{a b:Nat}(M:evl tm x=.int .u64 ((a:Nat):Int))(H:evl tm y=.int .u64 ((b:Nat):Int)):
 Exd P tm ⟨d,.binOp .mul T x y T',ty,pos,aft,gd⟩ h (.int .u64 ((a*b%18446744073709551616:Nat):Int)):=ylz M H (by rw[yfk];simp)
theorem yhb{T:TypeId}{x:Operand}{a:Nat}(H:evl tm x=.int .u64 ((a:Nat):Int))(M:0<a)(O:a<18446744073709551616):Exd P tm ⟨d,.unOp .neg T x,ty,pos,aft,gd⟩ h (.int .u64 ((18446744073709551616-a:Nat):Int)):=
 xx1 H (by rw[yfk];omega)
theorem xvg{t e:TypeId}{x y:Operand}{w len i:Nat}{k:IntKind}{a:Addr}(H:P.underlying t=some (.array len e))(hs:Bi P e=some w)(O:evl tm x=.pointer (some a))(M:evl tm y=.int k ((i:Nat):Int))(V:i<len):
 Exd P tm ⟨d,.indexAddr t x y,ty,pos,aft,gd⟩ h (.pointer (some (a.add (i*w)))):=by
 refine xtz (s:=Instr.indexAt t (.pointer (some a)) (.int k ((i:Nat):Int))) (by simp only[execOp,O,M]) ?_;unfold Instr.indexAt;refine xbq (xcq ?_);simp only;refine xbq (xfq H ?_);simp only[Instr.sureAddr];refine xbq ?_;refine xbq (xcq ?_);simp only;refine xbq (xfq H ?_);simp only;rw[if_pos ⟨om,om⟩];refine xbq (xax hs ?_);exact xcq ⟨by rw[Int.toNat_natCast],rfl⟩
end
def Qr(anc:Nat->List Nat)(Q:Nat->(Nat->Value)->(Nat->Pcs)->Value->Pcs->Prop)(val:Nat->Value)(piece:Nat->Pcs)(i:Nat):Value->Pcs->Prop:=
 Q i (fun j=>if(anc i).contains j=true then val j else undef) (fun j=>if(anc i).contains j=true then piece j else [])
theorem yhc{anc:Nat->List Nat}{Q:Nat->(Nat->Value)->(Nat->Pcs)->Value->Pcs->Prop}{val val':Nat->Value}{piece piece':Nat->Pcs}{i:Nat}(h:∀y,(anc i).contains y=true->val y=val' y/\piece y=piece' y):
 Qr anc Q val piece i=Qr anc Q val' piece' i:=by
 unfold Qr;have M:(fun j=>if(anc i).contains j=true then val j else undef)=(fun j=>if(anc i).contains j=true then val' j else undef):=by
  funext j;split
  ·rename_i H;exact(h j H).1
  ·rfl
 have O:(fun j=>if(anc i).contains j=true then piece j else [])=(fun j=>if(anc i).contains j=true then piece' j else []):=by
  funext j;split
  ·rename_i H;exact(h j H).2
  ·rfl
 rw[M,O]
def K2(ops:List Oper)(m:Nat)(cl:List (List Nat))(anc:Nat->List Nat):Bool:=
 ops.zipIdx.all fun(o,i)=>!decide (i<m)||(anc i).all fun j=>behind cl o j
theorem xc6{ops:List Oper}{m:Nat}{cl:List (List Nat)}{anc:Nat->List Nat}(h:K2 ops m cl anc=true){i j:Nat}{o:Oper}(hi:i<m)(H:ops[i]?=some o)(M:(anc i).contains j=true):behind cl o j=true:=by
 unfold K2 at h;rw[List.all_eq_true]at h;have:=h (o,i) (by rw[List.mem_zipIdx_iff_getElem?];exact H);simp only[hi,decide_true,Bool.not_true,Bool.false_or,List.all_eq_true]at this;exact this j (by simpa using M)
theorem yyj{ops:List Oper}{m:Nat}{cl:List (List Nat)}(hs:Bp ops m cl=true){i j:Nat}{o:Oper}(M:ops[i]?=some o)(h:behind cl o j=true):j<i:=by
 rcases(xeg).1 h with h|⟨k,hk,h⟩
 ·exact(xcx hs M).1 j h
 ·have V:=(xcx hs M).1 k hk;obtain⟨O,H⟩:∃O,ops[k]?=some O:=⟨_,List.getElem?_eq_getElem (Nat.lt_trans V (List.getElem?_eq_some_iff.1 M).1)⟩
  exact Nat.lt_trans (xks hs H h).1 V
def M8(P:Program)(md:Md)(ops:List Oper)(tmF:(Nat->Value)->List Value)(z9:Heap)(zz:List Nat)(p:Ab)(A:Pcs)(M:List Nat)(X:Nat->Pcs)(H:Nat->List Nat)(anc:Nat->List Nat)(Q:Nat->(Nat->Value)->(Nat->Pcs)->Value->Pcs->Prop)(i:Nat)(o:Oper):Prop:=
 ∀val piece,(∀j,(anc i).contains j=true->Qr anc Q val piece j (val j) (piece j))->(∀j∈M,piece j=X j)->
  (Met ops (tmF val) o true/\ ∀C h,St z9 zz p h ((H i).flatMap piece++(A++C))->
   Exv P (tmF val) o h (fun v h'=>∃x,Qr anc Q val piece i v x/\St z9 zz p h' (x++(A++C)))\/
   (∃g args,(wpS P (execOp (evl (tmF val)) o) h fun n h'=>n=.enter g args/\h'=h)/\Aa P md g args h (fun v h'=>∃x,Qr anc Q val piece i v x/\St z9 zz p h' (x++(A++C))))\/
   ∀(c:Frame)(cs:List Frame)(Stop:Goroutine->Heap->Prop),(∀v h',(∃x,Qr anc Q val piece i v x/\St z9 zz p h' (x++(A++C)))->Reach P md (G (c.finish v) cs) h' Stop)->wpS P (execOp (evl (tmF val)) o) h (N7 P md c cs Stop))\/
  (Met ops (tmF val) o false/\(H i).flatMap piece=[]/\Qr anc Q val piece i undef [])
section
variable{P:Program}{md:Md}{ops:List Oper}{m:Nat}{f:FuncId}{r:Rd}{df:List Deferred}{k:List Item}{cs:List Frame}{Stop:Goroutine->Heap->Prop}{tm:List Value}
 {z9:Heap}{zz:List Nat}{p:Ab}{A C:Pcs}{ini:List Nat}{X:Nat->Pcs}{use:Nat->List Nat}{anc:Nat->List Nat}{Q:Nat->(Nat->Value)->(Nat->Pcs)->Value->Pcs->Prop}{tmF:(Nat->Value)->List Value}
theorem xst{rid:Nat}(m:Nat)(cl:List (List Nat))(a5 fin d0:List Nat)(X:Nat->Pcs)(b0:Nat->List Nat)(anc:Nat->List Nat)(Q:Nat->(Nat->Value)->(Nat->Pcs)->Value->Pcs->Prop)(tmF:(Nat->Value)->List Value)
 (g0:P.follows .mixedOrders=true)(b4:Bp ops m cl=true)(hm:m<=ops.length)(hk:Ky ops m a5 b0 (fin++d0)=true)(e9:d0.all (fun j=>decide (j<m))=true)(e8:K2 ops m cl anc=true)(f5:∀val piece,Emp (Qr anc Q val piece) d0)(e5:∀val,Fu ops val m tm=tmF val)
 (g6:(ops.all fun o=>match o.dst with|some d=>decide (d<tm.length)|none=>true)=true)
 (st:Kb (M8 P md ops tmF z9 zz p A a5 X b0 anc Q) 0 (ops.take m))
 (n:∀val piece,(∀j<m,Qr anc Q val piece j (val j) (piece j))->(∀j∈a5,piece j=X j)->RL P md f r df k cs Stop ops (ops.drop m) (tmF val) (fun h=>St z9 zz p h (fin.flatMap piece++(A++C)))):
 RS P md (G (FL f r tm df (.code (.region rid ops.toArray true)::k)) cs) (fun h=>St z9 zz p h (a5.flatMap X++(A++C))) Stop:=by
 refine xj3 fun t=>?_;unfold Region.schedule;rw[g0];simp only[Bool.true_or,if_true];obtain⟨s,e,a9⟩:=xjt b4 hm t;rw[e];obtain⟨k1,k2,k3,k4,k5,k6⟩:=ygw hk;have g2:∀{i:Nat}{o:Oper},i<m->ops[i]?=some o->Bh o.op=true/\M8 P md ops tmF z9 zz p A a5 X b0 anc Q i o:=fun{i o}hi ho=>by
  have:=Kb.at (i:=i) st (by rw[List.getElem?_take,if_pos hi];exact ho);rw[Nat.zero_add]at this;exact this
 have b6:∀(i j:Nat)(o o':Oper)(d:Nat),i<m->j<m->ops[i]?=some o->ops[j]?=some o'->o.dst=some d->o'.dst=some d->i=j:=fun i j o o' d hi V ho H O b8=>
  (((xcx b4 ho).2.2 hi).2 j o' d V H b8).1.resolve_right fun b3=>b3 O
 have e1:∀{i:Nat}{o:Oper}{d:Nat},ops[i]?=some o->o.dst=some d->d<tm.length:=fun{i o d}ho O=>by
  have:=List.all_eq_true.1 g6 o (List.mem_of_getElem? ho);simpa[O]using this
 have main:∀(s:List Nat)(l:Array Bool)(a3:List Value)(val:Nat->Value)(piece:Nat->Pcs)(ls:List Nat),Ord ops m l s->l.size=ops.length->a3.length=tm.length->
  (∀x,(∃(j:Nat)(o:Oper),j<m/\l.getD j false=true/\ops[j]?=some o/\o.dst=some x)->a3[x]?=(tmF val)[x]?)->
  (∀x,(∀(j:Nat)(o:Oper),j<m->l.getD j false=true->ops[j]?=some o->o.dst≠some x)->a3[x]?=tm[x]?)->
  (∀j<m,l.getD j false=true->Qr anc Q val piece j (val j) (piece j))->(∀j∈a5,piece j=X j)->ls.Nodup->
  (∀x,x∈ls<->(x∈a5\/(x<m/\l.getD x false=true))/\ ∀k<m,l.getD k false=true->x∉b0 k)->
  (∀k<m,l.getD k false=true-> ∀x∈b0 k,x∈a5\/(x<m/\l.getD x false=true))->
  (∀(k:Nat)(o:Oper),l.getD k false=true->ops[k]?=some o-> ∀x∈Bq o,l.getD x false=true)->
  RS P md (G (FL f r a3 df (.inRegion ops.toArray (s++List.range' m (ops.length-m))::k)) cs) (fun h=>St z9 zz p h (ls.flatMap piece++(A++C))) Stop:=by
  intro s
  induction s with
  |nil=>
    intro l a3 val piece ls a9 _ hl h1 h2 hQ hX c3 e0 _ _;cases a9 with
    |nil hall=>
    have:a3=tmF val:=by
     refine List.ext_getElem? fun x=>?_;by_cases hx:∃(j:Nat)(o:Oper),j<m/\ops[j]?=some o/\o.dst=some x
     ·obtain⟨j,o,V,ho,O⟩:=hx;exact h1 x ⟨j,o,V,hall j V,ho,O⟩
     ·rw[h2 x fun j o V _ ho O=>hx ⟨j,o,V,ho,O⟩,<- e5,xcm];exact fun j o V ho O=>hx ⟨j,o,V,ho,O⟩
    subst this;rw[List.nil_append];have hp:ls.Perm (fin++d0):=by
     refine(List.perm_ext_iff_of_nodup c3 k3).2 fun x=>?_;rw[e0];constructor
     ·rintro⟨hx,hu⟩;rcases k6 x (hx.elim .inr fun y=>.inl y.1)with y|⟨k,hk,y⟩
      ·exact y
      ·exact absurd y (hu k hk (hall k hk))
     ·intro hx;obtain⟨y,z⟩:=k5 x hx;exact⟨y.imp id fun y=>⟨y,hall x y⟩,fun k hk _=>z k hk⟩
    have:=n val piece (fun j V=>hQ j V (hall j V)) hX (ops.take m) (List.take_append_drop m ops).symm;rw[List.length_take,Nat.min_eq_left hm,List.length_drop]at this;have he:d0.flatMap piece=[]:=(f5 val piece).flat fun j V=>hQ j (by simpa using List.all_eq_true.1 e9 j V) (hall j (by simpa using List.all_eq_true.1 e9 j V));exact fun h y=>this h (y.perm (by
     have:=(hp.flatMap_right piece).append_right (A++C);rwa[List.flatMap_append,he,List.append_nil]at this))
  |cons i s ih=>
    intro l a3 val piece ls a9 f6 hl h1 h2 hQ hX c3 e0 g1 f8;cases a9 with
    |@cons _ _ _ o hi ho hn hp hs=>
    have g7:=(List.getElem?_eq_some_iff.1 ho).1;have e3:l.getD i false=false:=by rw[<- xcd om];exact hn
    have b9:=((xcx b4 ho).2.2 hi)
    have f2:∀x∈looks ops o,a3[x]?=(tmF val)[x]?:=by
     intro x hx;by_cases hw:∃(j:Nat)(o':Oper),j<m/\ops[j]?=some o'/\o'.dst=some x
     ·obtain⟨j,o',V,H,O⟩:=hw;have g3:=(b9.2 j o' x V H O).2 hx;exact h1 x ⟨j,o',V,hp j g3,H,O⟩
     ·rw[h2 x fun j o' V _ H O=>hw ⟨j,o',V,H,O⟩,<- e5,xcm];exact fun j o V ho O=>hw ⟨j,o,V,ho,O⟩
    have M:∀j,i≠j->(l.setIfInBounds i true).getD j false=l.getD j false:=fun j e=>getD_set_ne false e;have a2:(l.setIfInBounds i true).getD i false=true:=by simp[Array.getD,f6,g7]
    obtain⟨u1,u2⟩:=k4 i o hi ho;have e4:∀x∈b0 i,x∈ls:=fun x hx=>by
     rw[e0];obtain⟨a,b⟩:=u2 x hx;refine⟨a.imp id fun a=>⟨a.1,hp x a.2⟩,fun k hk O g8=>?_⟩;by_cases e:k=i
     ·subst e;rw[e3]at O;cases O
     ·exact b k hk e g8
    obtain⟨rest,a6⟩:=xy3 u1 e4;have d5:=a6.nodup_iff.1 c3;have a8:∀x,x∈rest<->x∈ls/\x∉b0 i:=fun x=>by
     rw[a6.mem_iff,List.mem_append];constructor
     ·intro hx;exact⟨.inr hx,fun hu=>(List.nodup_append.1 d5).2.2 x hu x hx rfl⟩
     ·rintro⟨a|a,b⟩
      ·exact absurd a b
      ·exact a
    have a7:i∉a5:=fun e=>by have:=k2 i e;omega
    have f1:i∉ls:=fun e=>by
     have:=((e0 i).1 e).1;rcases this with a|a
     ·exact a7 a
     ·rw[e3]at a;cases a.2
    have e6:∀(j:Nat)(oj:Oper),j<m->ops[j]?=some oj->(j=i\/l.getD j false=true)-> ∀y,(anc j).contains y=true->l.getD y false=true:=fun j oj V b5 d6 y hy=>by
     have hb:=xc6 e8 V b5 hy;refine xhv b4 f6 f8 j oj y (fun x hx=>⟨(xcx b4 b5).1 x hx,?_⟩) hb;rcases d6 with rfl|d6
     ·rw[ho]at b5;cases b5;exact hp x hx
     ·exact f8 j oj d6 b5 x hx
    have next:∀v x,Qr anc Q val piece i v x->RS P md (G (FL f r (Cm a3 o.dst v) df (.inRegion ops.toArray (s++List.range' m (ops.length-m))::k)) cs) (fun h=>St z9 zz p h (x++(A++(rest.flatMap piece++C)))) Stop:=by
     intro v x hq;have hv:∀j,i≠j->(fun j=>if j=i then v else val j) j=val j:=fun j e=>if_neg fun e'=>e e'.symm;have f9:∀j,i≠j->(fun j=>if j=i then x else piece j) j=piece j:=fun j e=>if_neg fun e'=>e e'.symm
     have:=ih (l.setIfInBounds i true) (Cm a3 o.dst v) (fun j=>if j=i then v else val j) (fun j=>if j=i then x else piece j) (i::rest) hs (by simpa using f6) (by rw[xrk];exact hl)
      (fun y hy=>by
       obtain⟨j,o',V,a4,H,O⟩:=hy;rw[<- e5,xrr V H O (fun j' f3 f4 d9 b8=>b6 j' j f3 o' y f4 V d9 H b8 O) (e1 H O)];by_cases e:i=j
       ·subst e;rw[ho]at H;cases H;rw[O];simp only[Cm,if_true];rw[List.getElem?_set_self (by rw[hl];exact e1 ho O)]
       ·have b3:o.dst≠some y:=fun b8=>e (b6 i j o o' y hi V ho H b8 O);rw[M j e]at a4;rw[xqk b3,h1 y ⟨j,o',V,a4,H,O⟩,<- e5,xrr V H O (fun j' f3 f4 d9 b8=>b6 j' j f3 o' y f4 V d9 H b8 O) (e1 H O)];rw[if_neg fun e'=>e e'.symm])
      (fun y hy=>by
       have b3:o.dst≠some y:=hy i o hi a2 ho;rw[xqk b3];refine h2 y fun j o' V a4 H=>hy j o' V ?_ H;by_cases e:i=j
       ·subst e;exact a2
       ·rw[M j e];exact a4)
      (fun j V a4=>by
       obtain⟨oj,b5⟩:∃oj,ops[j]?=some oj:=⟨_,List.getElem?_eq_getElem (Nat.lt_of_lt_of_le V hm)⟩
       have d6:j=i\/l.getD j false=true:=by
        by_cases e:i=j
        ·exact .inl e.symm
        ·rw[M j e]at a4;exact .inr a4
       have b3:∀y,(anc j).contains y=true->i≠y:=fun y hy e=>by
        have:=e6 j oj V b5 d6 y hy;subst e;rw[e3]at this;cases this
       have hr:=yhc (Q:=Q) (anc:=anc) (i:=j) (val:=val) (piece:=piece) (val':=fun j=>if j=i then v else val j) (piece':=fun j=>if j=i then x else piece j) fun y hy=>⟨(hv y (b3 y hy)).symm,(f9 y (b3 y hy)).symm⟩
       by_cases e:i=j
       ·subst e;simp only[if_true];rw[<- hr];exact hq
       ·rw[M j e]at a4;have:=hQ j V a4;rw[<- hr,if_neg (fun e'=>e e'.symm),if_neg (fun e'=>e e'.symm)];exact this)
      (fun j V=>(f9 j (fun e=>by subst e;exact a7 V)).trans (hX j V))
      (List.nodup_cons.2 ⟨fun e=>f1 ((a8 i).1 e).1,(List.nodup_append.1 d5).2.1⟩)
      (fun y=>by
       rw[List.mem_cons,a8,e0];constructor
       ·rintro(rfl|⟨⟨a,b⟩,c⟩)
        ·refine⟨.inr ⟨hi,a2⟩,fun k' b7 O hy=>?_⟩;by_cases e:y=k'
         ·subst e;rcases(u2 y hy).1 with a|a
          ·exact a7 a
          ·exact absurd ((xcx b4 ho).1 y a.2) (Nat.lt_irrefl _)
         ·rw[M k' e]at O;rcases g1 k' b7 O y hy with a|a
          ·exact a7 a
          ·rw[e3]at a;cases a.2
        ·refine⟨a.imp id fun a=>⟨a.1,?_⟩,fun k' b7 O=>?_⟩
         ·by_cases e:i=y
          ·subst e;exact a2
          ·rw[M y e];exact a.2
         ·by_cases e:i=k'
          ·subst e;exact c
          ·rw[M k' e]at O;exact b k' b7 O
       ·rintro⟨a,b⟩;by_cases e:y=i
        ·exact .inl e
        ·refine .inr ⟨⟨a.imp id fun a=>⟨a.1,?_⟩,fun k' b7 O=>b k' b7 ?_⟩,b i hi a2⟩
         ·have:=a.2;rw[M y (fun e'=>e e'.symm)]at this;exact this
         ·by_cases e':i=k'
          ·subst e';exact a2
          ·rw[M k' e'];exact O)
      (fun k' b7 O y hy=>by
       by_cases e:i=k'
       ·subst e;obtain⟨a,_⟩:=u2 y hy;refine a.imp id fun a=>⟨a.1,?_⟩
        by_cases e':i=y
        ·subst e';exact a2
        ·rw[M y e'];exact hp y a.2
       ·rw[M k' e]at O;refine(g1 k' b7 O y hy).imp id fun a=>⟨a.1,?_⟩
        by_cases e':i=y
        ·subst e';exact a2
        ·rw[M y e'];exact a.2)
      (fun k' o' O H y hy=>by
       have g5:l.getD y false=true:=by
        by_cases e:i=k'
        ·subst e;rw[ho]at H;cases H;exact hp y hy
        ·rw[M k' e]at O;exact f8 k' o' O H y hy
       by_cases e':i=y
       ·subst e';exact a2
       ·rw[M y e'];exact g5)
     have g4:rest.flatMap (fun j=>if j=i then x else piece j)=rest.flatMap piece:=by
      have f0:i∉rest:=fun e=>f1 ((a8 i).1 e).1;clear this a6 d5 a8
      induction rest with
      |nil=>rfl
      |cons a r ih'=>
        simp only[List.flatMap_cons];rw[ih' (fun e=>f0 (by simp[e])),if_neg (fun e=>f0 (by simp[e]))]
     intro h y;refine this h ?_;rw[List.flatMap_cons,g4];simp only[if_true];refine y.perm ?_;rw[List.append_assoc];refine List.Perm.append_left x ?_;rw[<- List.append_assoc,<- List.append_assoc];exact List.Perm.append_right C List.perm_append_comm
    have d8:=g2 hi ho;have c1:ops.toArray[i]?=some o:=by simpa using ho
    have e7:∀h,St z9 zz p h (ls.flatMap piece++(A++C))->St z9 zz p h ((b0 i).flatMap piece++(A++(rest.flatMap piece++C))):=fun h y=>by
     refine y.perm ?_;refine((a6.flatMap_right piece).append_right _).trans ?_;rw[List.flatMap_append,List.append_assoc];refine List.Perm.append_left _ ?_;rw[<- List.append_assoc,<- List.append_assoc];exact List.Perm.append_right C List.perm_append_comm
    have c3:=d8.1;rcases d8.2 val piece (fun j V=>by
     have a4:=e6 i o hi ho (.inl rfl) j V;exact hQ j (Nat.lt_trans (yyj b4 ho (xc6 e8 hi ho V)) hi) a4) hX with⟨d7,g9⟩|⟨d7,hu,hq⟩
    ·have f7:=xrg f2 d7;refine xrp c1 (xbx f7) xvw (.inr (by revert c3;cases o.op<;>simp[Bh])) fun h hb=>?_;rw[xez,xsr (ops:=ops) b9.1 f2];rcases g9 _ h (e7 h hb)with hx|⟨g,args,hx,hc⟩|hx
     ·refine xix hx fun n' h'⟨v',e',x,hq,c2⟩=>?_;rcases e' with rfl|⟨rfl,rfl⟩
      ·show Reach P md (G ((F (B f r) a3.toArray df _).finish v') cs) h' Stop;rw[xgx c1,xdx];exact next v' x hq h' c2
      ·show Reach P md (G ((F (B f r) a3.toArray df _).finish undef) cs) h' Stop;rw[xgx c1,xdx];exact next undef x hq h' c2
     ·refine xix hx fun n' h'⟨e',e2⟩=>?_;subst e';subst e2;refine hc _ _ _ fun v' h'⟨x,hq,c2⟩=>?_;rw[xgx c1,xdx];exact next v' x hq h' c2
     ·refine hx _ _ _ fun v' h'⟨x,hq,c2⟩=>?_;rw[xgx c1,xdx];exact next v' x hq h' c2
    ·refine xqp c1 (xbx (xrg f2 d7)) ?_;rw[xdx];intro h hb;have:=next undef [] hq h
     refine this ?_;have:=e7 h hb;rw[hu]at this;simpa using this
 intro h y
 refine main s _ tm (fun _=>undef) X a5 a9 s_ rfl (fun x hx=>by obtain⟨j,o,V,hl,_⟩:=hx;simp[Array.getD]at hl) (fun _ _=>rfl) (fun j _ hl=>by simp[Array.getD]at hl) (fun _ _=>rfl) k1
  (fun x=>⟨fun hx=>⟨.inl hx,fun k _ hl=>by simp[Array.getD]at hl⟩,fun hx=>hx.1.elim id fun a=>by simp[Array.getD]at a⟩) (fun k _ hl=>by simp[Array.getD]at hl) (fun k _ hl=>by simp[Array.getD]at hl) h y
end
theorem yfq{w:Nat}{zc:List Value}(H:zc.length=w)(hw:0<w):∀n:Nat,(List.range (n*w)).map (fun i=>zc.toArray[i%zc.toArray.size]!)=(List.replicate n zc).flatten
 |0=>by simp
 |n+1=>by
   have e:(n+1)*w=n*w+w:=by rw[Nat.add_mul,Nat.one_mul]
   rw[e,List.range_add,List.map_append,yfq H hw n,List.replicate_succ',List.flatten_append];congr 1;rw[List.flatten_singleton,List.map_map];refine List.ext_getElem? fun i=>?_;rw[List.getElem?_map];by_cases hi:i<w
   ·have M:(n*w+i)%w=i:=by rw[Nat.add_comm,Nat.add_mul_mod_self_right,Nat.mod_eq_of_lt hi]
    rw[List.getElem?_eq_getElem (by simpa using hi),List.getElem?_eq_getElem om];simp only[List.getElem_range,Option.map_some,Function.comp,List.size_toArray,H,M];congr 1;rw[getElem!_pos zc.toArray i (by simp;omega)];simp
   ·rw[List.getElem?_eq_none (by simp;omega),List.getElem?_eq_none om];rfl
section
variable{P:Program}{md:Md}{f:FuncId}{r:Rd}{df:List Deferred}{k:List Item}{cs:List Frame}{Stop:Goroutine->Heap->Prop}{ops rest:List Oper}{tm:List Value}
 {z9 h:Heap}{zz:List Nat}{p:Ab}{A C:Pcs}{ty:TypeId}{pos:String}{aft:Array Edge}{gd:Option (Nat×Bool)}
theorem xm5{dd:Option Nat}{sT eT:TypeId}{x y:Operand}{n w by':Nat}{z:Value}{zc:List Value}{L:Pcs}(hT:P.underlying sT=some (.slice eT))(hs:Bi P eT=some w)(hz:Dx P eT=some z)(a7:z.cells=zc.toArray)(M:zc.length=w)(a3:0<w)(a6:w<=100)
 (O:Dh P eT=some by')(hx:evl tm x=.J ((n:Nat):Int))(hy:evl tm y=.J ((n:Nat):Int))(hn:n<=1000)(a2:by'<=2^20)(s:St z9 zz p h L):
 Ex P tm ⟨dd,.makeSlice sT x y,ty,pos,aft,gd⟩ h fun v h'=>∃X,Ac eT w v (List.replicate n zc) X/\St z9 zz p h' (X++L):=by
 have a9:((List.replicate n zc).flatten).length=n*w:=by simp[M]
 have H:∀b,Ac eT w (.slice (some ⟨b,0,none⟩) n n) (List.replicate n zc) [(b,.cells (List.replicate n zc).flatten.toArray eT (0,0))]:=fun b=>
  Ac.build rfl (fun e he=>by rw[List.eq_of_mem_replicate he];exact M) s_ (by have:=Nat.mul_le_mul hn a6;omega)
 obtain⟨info,hi,a5⟩:∃i,P.info? eT=some i/\i.bytes=by':=by
  unfold Dh at O;cases e:P.info? eT with
  |none=>rw[e]at O;cases O
  |some i=>rw[e]at O;exact⟨i,rfl,Option.some.inj O⟩
 have hw:IntKind.i64.wrap ((n:Nat):Int)=((n:Nat):Int):=wrZ om;have a8:by'*n<=2^20*1000:=Nat.mul_le_mul a2 hn;unfold Ex;simp only[execOp,hx,hy];refine xbq ?_;unfold Instr.makeSlice;refine xbq (xfq hT ?_);simp only[asInt];refine xbq (xcq ?_);refine xbq (xcq ?_);refine xbq (xqx hi ?_);simp only[hw,a5];rw[if_neg (by
  have h1:¬ ((n:Nat):Int)<0:=om;have h2:¬ ((by':Nat):Int)*((n:Nat):Int)>2^48:=by
   have:((by':Nat):Int)*((n:Nat):Int)=((by'*n:Nat):Int):=by simp
   rw[this];omega
  simp only[Bool.or_eq_true,decide_eq_true_eq];rintro((z|z)|z)
  ·rcases z with z|z
   ·exact h1 z
   ·exact h2 z
  ·exact h1 z
  ·omega)]
 have V:∀(b:Nat)(K:Unit->Heap->Prop),K () h->wpS P (askRoom b) h K:=by
  intro b K hK;unfold askRoom;split
  ·exact⟨rfl,hK⟩
  ·exact xcq hK
 refine xbq (V _ _ ?_);refine xbq (xax hs ?_);simp only[Int.toNat_natCast];by_cases h0:n*w=0
 ·have a4:n=0:=(Nat.mul_eq_zero.1 h0).resolve_right om;subst a4;simp only[Nat.zero_mul,if_true];refine xbq (xcq ?_);rw[show(Array.range 0).map ((#[]:Array Value)[· % (#[]:Array Value).size]!)=(List.replicate 0 zc).flatten.toArray from by rw[show Array.range 0=(#[]:Array Nat) from by simp,Array.map_empty];rfl];refine xbq (xqz ?_);refine xcq ?_;exact xcq ⟨_,rfl,_,H h.size,s.push _⟩
 ·rw[if_neg h0];refine xbq (xaz hz ?_);refine xbq (xcq ?_);have hc:(Array.range (n*w)).map (z.cells[· % z.cells.size]!)=(List.replicate n zc).flatten.toArray:=by
   rw[a7];apply Array.ext';simp only[Array.toList_map,Array.toList_range];exact yfq M a3 n
  rw[hc];refine xbq (xqz ?_);refine xcq ?_;exact xcq ⟨_,rfl,_,H h.size,s.push _⟩
end
section
variable{P:Program}{h:Heap}
theorem xds{t:TypeId}{cs:Array Value}{off n:Nat}{K:Value->Heap->Prop}(H:Gd P t=some true)(hs:Bi P t=some n)(x:K (.agg (cs.extract off (off+n))) h):wpS P (part t cs off) h K:=by
 unfold part;refine xbq (xjb H ?_);rw[if_pos rfl];exact xbq (xax hs (xcq x))
theorem xkz{t:TypeId}{cs:Array Value}{off:Nat}{v:Value}{K:Value->Heap->Prop}(H:Gd P t=some false)(hv:cs[off]?=some v)(x:K v h):wpS P (part t cs off) h K:=by
 unfold part;refine xbq (xjb H ?_);rw[if_neg s_,hv];exact xcq x
theorem xlv{K:Program->Heap->Prop}(x:K P h):wpS P program h K:=by simp only[program,wpS];exact x
def Ou(P:Program)(d:Nat)(xs ys:Array Value):List Field->Bool->Prop
 |[],r=>r=true
 | f :: fs, r => f.name ≠ "_" /\ ∃a b q, (∀h(K : Value -> Heap -> Prop), K a h -> wpS P (part f.type xs f.offset) h K) /\ (∀h(K : Value -> Heap -> Prop), K b h -> wpS P (part f.type ys f.offset) h K) /\
  (∀h(K:Bool->Heap->Prop),K q h->wpS P (Op.equalIn d f.type a b) h K)/\(q=false/\r=false\/q=true/\Ou P d xs ys fs r)
theorem xxj{d:Nat}{t:TypeId}{fs:Array Field}{xs M:Array Value}{r:Bool}{K:Bool->Heap->Prop}(V:P.underlying t=some (.struct fs))(hp:P.stoodInHeld t=false)(e:Ou P d xs M fs.toList r)(k:K r h):
 wpS P (Op.equalIn (d+1) t (.agg xs) (.agg M)) h K:=by
 simp only[Op.equalIn];refine xbq (xfq V ?_);simp only;refine xbq (xlv ?_);rw[if_neg (by rw[hp];simp)];rw[<- Array.forIn_toList];generalize fs.toList=l at e;refine xbq ?_
 induction l generalizing h with
 |nil=>
   rw[show r=true from e]at k;simp only[List.forIn_nil];exact xcq (xcq k)
 |cons f l ih=>
   obtain⟨hn,a,b,q,O,hb,hq,H⟩:=e;simp only[List.forIn_cons];refine xbq ?_;rw[if_pos hn];refine xbq (O _ _ ?_);refine xbq (hb _ _ ?_);refine xbq (hq _ _ ?_);rcases H with⟨rfl,rfl⟩|⟨rfl,H⟩
   ·exact xcq (xcq (xcq k))
   ·exact xcq (ih k H)
theorem xmv{d:Nat}{t:TypeId}{k:IntKind}{a b:Int}{K:Bool->Heap->Prop}(H:P.underlying t=some (.int k))(x:K (decide (a=b)) h):wpS P (Op.equalIn (d+1) t (.int k a) (.int k b)) h K:=by
 simp only[Op.equalIn];refine xbq (xfq H ?_);simp only[if_true,Pd];exact xcq x
variable{tm:List Value}{d:Option Tmp}{ty:TypeId}{pos:String}{aft:Array Edge}{gd:Option (Nat×Bool)}
theorem xhm{H:BinOp}{T:TypeId}{x y:Operand}{xs O:Array Value}{K:Unit->Heap->Prop}(M:P.eqGuardType P.depth T=false)(z:K () h):wpS P (eqGuard H T x y (.agg xs) (.agg O)) h K:=by
 unfold eqGuard;cases H<;>first|(rw[if_pos (by rfl)];exact xcq z)|(rw[if_neg d_];refine xbq (xlv (xbq (xlv ?_)));rw[if_pos (by rw[M];rfl)];exact xcq z)
theorem xwt{T T':TypeId}{x y:Operand}{xs H:Array Value}{q:Bool}(O:P.eqGuardType P.depth T=false)(e:∀h(K:Bool->Heap->Prop),K q h->wpS P (Op.equalIn (9999+1) T (.agg xs) (.agg H)) h K)(V:evl tm x=.agg xs)(M:evl tm y=.agg H):
 Exd P tm ⟨d,.binOp .eql T x y T',ty,pos,aft,gd⟩ h (.bool q):=by
 refine xxx V M (fun K z=>xhm O z) ?_;simp only[binOp,Op.equal,Op.maxDepth];refine xbq (e _ _ ?_);exact xcq ⟨rfl,rfl⟩
theorem xp7{T T':TypeId}{x y:Operand}{xs H:Array Value}{q:Bool}(O:P.eqGuardType P.depth T=false)(e:∀h(K:Bool->Heap->Prop),K q h->wpS P (Op.equalIn (9999+1) T (.agg xs) (.agg H)) h K)(V:evl tm x=.agg xs)(M:evl tm y=.agg H):
 Exd P tm ⟨d,.binOp .neq T x y T',ty,pos,aft,gd⟩ h (.bool (!q)):=by
 refine xxx V M (fun K z=>xhm O z) ?_;simp only[binOp,Op.equal,Op.maxDepth];refine xbq (e _ _ ?_);exact xcq ⟨rfl,rfl⟩
end
section
variable{T:TypeId}{w:Nat}{v:Value}{es:List (List Value)}{X:Pcs}{p p':Ab}
theorem Ac.inP(o:Ac T w v es X)(V:∀x∈X,p x.1=some x.2):∃a cap,v=.slice a es.length cap/\Sl p a es.length w es:=by
 obtain⟨hw,⟨rfl,rfl,rfl⟩|⟨b,cs,cap,rest,rfl,rfl,H,hlen,M⟩⟩:=o
 ·exact⟨none,0,rfl,.nil _ _ _⟩
 ·refine⟨some ⟨b,0,none⟩,cap,rfl,rfl,hw,fun _=>rfl,?_⟩;intro i e hi j x O;show At _ (((⟨b,0,none⟩:Addr).add (i*w)).add j)=_;rw[xsx,xsx];unfold At;simp only[V (b,.cells cs.toArray T (0,0)) s_,Option.isSome_none,Bool.false_eq_true,if_false,List.getElem?_toArray,Nat.zero_add];rw[H,List.getElem?_append_left]
  ·exact xej hw hi O
  ·exact(List.getElem?_eq_some_iff.1 (xej hw hi O)).1
end
def Refs(p:Ab)(es:List (List Value))(xss:List (List Int)):Prop:=es.length=xss.length/\ ∀i,i<xss.length-> ∃a c,es[i]?=some [.slice a (xss.getD i []).length c]/\As p a (xss.getD i []).length (xss.getD i [])
def Inn(p:Ab)(es:List (List Value))(xss:List (List Int))(Z:Pcs):Prop:=∀p',PLe p p'->(∀x∈Z,p' x.1=some x.2)->Refs p' es xss
section
variable{p:Ab}{es fs:List (List Value)}{xss yss:List (List Int)}{Z Y:Pcs}
theorem Inn.nil:Inn p [] [] []:=fun _ _ _=>⟨rfl,fun i hi=>absurd hi s_⟩
theorem Inn.one{a:Option Addr}{n c:Nat}{xs:List Int}(D:As p a n xs):Inn p [[.slice a n c]] [xs] []:=fun p' M _=>by
 have H:=D.len;refine⟨rfl,fun i hi=>?_⟩;obtain rfl:i=0:=by simpa using hi
 exact⟨a,c,by simp[H],by simpa[H]using D.mono M⟩
theorem Inn.app(x:Inn p es xss Z)(y:Inn p fs yss Y):Inn p (es++fs) (xss++yss) (Z++Y):=fun p' le O=>by
 obtain⟨V,r1⟩:=x p' le fun q M=>O q (by simp[M]);obtain⟨l2,r2⟩:=y p' le fun q M=>O q (by simp[M]);refine⟨by simp[V,l2],fun i hi=>?_⟩;by_cases h:i<xss.length
 ·obtain⟨a,c,e,I⟩:=r1 i h;have H:(xss++yss).getD i []=xss.getD i []:=by rw[List.getD_eq_getElem?_getD,List.getElem?_append_left h,<- List.getD_eq_getElem?_getD]
  exact⟨a,c,by rw[H,List.getElem?_append_left om];exact e,by rw[H];exact I⟩
 ·rw[List.length_append]at hi;obtain⟨a,c,e,I⟩:=r2 (i-xss.length) om;have H:(xss++yss).getD i []=yss.getD (i-xss.length) []:=by rw[List.getD_eq_getElem?_getD,List.getElem?_append_right om,<- List.getD_eq_getElem?_getD]
  exact⟨a,c,by rw[H,List.getElem?_append_right om,V];exact e,by rw[H];exact I⟩
end
section
variable{P:Program}{h:Heap}{z9:Heap}{zz:List Nat}{p:Ab}{C A:Pcs}
theorem yek(a:Addr)(w:Nat):a.add (0*w)=a:=by
 rw[Nat.zero_mul];cases a with
 |mk b off spot=>unfold Addr.add;cases spot<;>simp
theorem xv7(a:Option Addr)(c w:Nat):Ft a c 0 w=a:=by
 unfold Ft;split
 ·rfl
 ·cases a with
  |none=>rfl
  |some a=>simp only[Option.map_some,yek]
theorem xzn{tm:List Value}{d:Option Tmp}{ty:TypeId}{pos:String}{aft:Array Edge}{gd:Option (Nat×Bool)}{t e:TypeId}{x y z:Operand}{w n c:Nat}{k k':IntKind}{a:Option Addr}(H:P.underlying t=some (.slice e))(hs:Bi P e=some w)(hx:evl tm x=.slice a n c)
 (O:evl tm y=.int k ((n:Nat):Int))(M:evl tm z=.int k' ((n:Nat):Int))(h2:n<=c):Exd P tm ⟨d,.slice t x none (some y) (some z),ty,pos,aft,gd⟩ h (.slice a n n):=by
 refine xtz (s:=Instr.sliceAt t (.slice a n c) none (some (.int k ((n:Nat):Int))) (some (.int k' ((n:Nat):Int)))) (by simp only[execOp,hx,O,M,Option.map_none,Option.map_some]) ?_;unfold Instr.sliceAt;refine xbq (xfq H ?_);simp only;unfold Instr.slice;refine xbq (xfq H ?_);simp only;refine xbq (xix (K:=fun q h'=>q=(0,n,n)/\h'=h) ?_ fun q h'⟨eq,V⟩=>?_)
 ·unfold Instr.sliceBounds;refine xbq (xhz (Int.natCast_nonneg _) om ?_);rw[Int.toNat_natCast];simp only;refine xbq (xhz (Int.natCast_nonneg _) om ?_);rw[Int.toNat_natCast];exact xbq (xcq (xcq ⟨rfl,rfl⟩))
 ·subst eq;subst V;simp only;refine xbq (xax hs ?_);refine xcq ⟨?_,rfl⟩;have:=xv7 a n w;unfold Ft at this;rw[this,Nat.sub_zero]
end
section
variable{P:Program}{md:Md}{ops:List Oper}{tm':List Value}{z9:Heap}{zz:List Nat}{p:Ab}{A:Pcs}{ty:TypeId}{pos:String}{aft:Array Edge}{gd:Option (Nat×Bool)}
variable{md':Md}{f:FuncId}{r:Rd}{df:List Deferred}{k:List Item}{cs:List Frame}{Stop:Goroutine->Heap->Prop}{rest:List Oper}{C:Pcs}
end
theorem yeh{Q:Prop}{T:TypeId}{w n:Nat}{v:Value}{es:List (List Value)}{X L:Pcs}{p:Ab}{z9 h:Heap}{zz:List Nat}(o:Ac T w v es X)(hn:es.length=n)(s:St z9 zz p h L)(V:∀x∈X,x∈L)
 (c:∀p' a cap,Per p' h->PLe p p'->v=.slice a n cap->Sl p' a n w es->Q):Q:=by
 subst hn;rcases o.2 with⟨_,_,e⟩|⟨b,cs,cap,rest,_,e,_⟩
 ·obtain⟨a,cap,e1,sl⟩:=o.inP (p:=p) (by rw[e];simp);exact c p a cap s.per (.refl p) e1 sl
 ·obtain⟨i,hi⟩:=List.mem_iff_getElem?.1 (V (b,.cells (List.toArray cs) T (0,0)) (by rw[e];simp));obtain⟨a,H,M,sl⟩:=o.inP (p:=Gv p b (.cells (List.toArray cs) T (0,0))) (by rw[e];intro x O;rw[List.mem_singleton.1 O];exact xav);exact c _ a H (s.Tb hi) (s.leO hi) M sl
theorem ykw{Q:Prop}{T:TypeId}{w n:Nat}{v:Value}{es:List (List Value)}{X L:Pcs}{p:Ab}{z9 h:Heap}{zz:List Nat}(o:Ac T w v es X)(hn:es.length=n)(s:St z9 zz p h L)(hX:∀x∈X,x∈L){bt:Nat}{ob:Obj}(hb:(bt,ob)∈L)
 (c:∀p' a cap,Per p' h->PLe p p'->v=.slice a n cap->Sl p' a n w es->p' bt=some ob->Q):Q:=by
 subst hn;have own:∀x∈L,h[x.1]?=some x.2/\p x.1=none:=fun x H=>⟨(s.own x H).1,(s.own x H).2.1⟩
 let p':Ab:=fun b=>if b=bt then some ob else match X.find? (fun x=>x.1==b)with
  |some x=>some x.2
  |none=>p b
 have a2:Per p' h:=fun b o' e=>by
  simp only[p']at e;split at e
  ·rename_i M;subst M;cases e;exact(own _ hb).1
  ·split at e
   ·rename_i x H;have V:=List.mem_of_find?_eq_some H;have he:=List.find?_some H;simp only[beq_iff_eq]at he;cases e;subst he;exact(own x (hX x V)).1
   ·exact s.per b o' e
 have a3:PLe p p':=fun b o' e=>by
  simp only[p'];rw[if_neg (fun M=>by subst M;rw[(own _ hb).2]at e;cases e)];split
  ·rename_i x H;have V:=List.mem_of_find?_eq_some H;have he:=List.find?_some H;simp only[beq_iff_eq]at he;subst he;rw[(own x (hX x V)).2]at e;cases e
  ·exact e
 have a4:∀x∈X,p' x.1=some x.2:=fun x H=>by
  have key:∀y:Nat×Obj,y∈L->y.1=x.1->y.2=x.2:=fun y O e=>by
   have h1:=(own y O).1;have h2:=(own x (hX x H)).1
   rw[e,h2]at h1;exact(Option.some.inj h1).symm
  simp only[p'];split
  ·rename_i e;exact congrArg some (key (bt,ob) hb e.symm)
  ·split
   ·rename_i y O;have V:=List.mem_of_find?_eq_some O;have he:=List.find?_some O;simp only[beq_iff_eq]at he;exact congrArg some (key y (hX y V) he)
   ·rename_i O;have:=List.find?_eq_none.1 O x H;simp at this
 obtain⟨a,cap,e1,sl⟩:=o.inP (p:=p') a4;exact c p' a cap a2 a3 e1 sl (by simp[p'])
theorem xir{Q:Prop}{L Z:Pcs}{p:Ab}{z9 h:Heap}{zz:List Nat}(s:St z9 zz p h L)(V:∀x∈Z,x∈L)(c:∀p',Per p' h->PLe p p'->(∀x∈Z,p' x.1=some x.2)->Q):Q:=by
 have own:∀x∈L,h[x.1]?=some x.2/\p x.1=none:=fun x H=>⟨(s.own x H).1,(s.own x H).2.1⟩
 let p':Ab:=fun b=>match Z.find? (fun x=>x.1==b)with
  |some x=>some x.2
  |none=>p b
 refine c p' (fun b o' e=>?_) (fun b o' e=>?_) (fun x H=>?_)
 ·simp only[p']at e;split at e
  ·rename_i x H;have M:=List.mem_of_find?_eq_some H;have he:=List.find?_some H;simp only[beq_iff_eq]at he;cases e;subst he;exact(own x (V x M)).1
  ·exact s.per b o' e
 ·simp only[p'];split
  ·rename_i x H;have M:=List.mem_of_find?_eq_some H;have he:=List.find?_some H;simp only[beq_iff_eq]at he;subst he;rw[(own x (V x M)).2]at e;cases e
  ·exact e
 ·simp only[p'];split
  ·rename_i y O;have M:=List.mem_of_find?_eq_some O;have he:=List.find?_some O;simp only[beq_iff_eq]at he;have h1:=(own y (V y M)).1;have h2:=(own x (V x H)).1
   rw[he,h2]at h1;exact congrArg some (Option.some.inj h1).symm
  ·rename_i O;have:=List.find?_eq_none.1 O x H;simp at this
theorem yes{Q:Prop}{T T':TypeId}{w w' n n':Nat}{v v':Value}{es es':List (List Value)}{X X' L:Pcs}{p:Ab}{z9 h:Heap}{zz:List Nat}(o:Ac T w v es X)(hn:es.length=n)(o':Ac T' w' v' es' X')(M:es'.length=n')(s:St z9 zz p h L)(hX:∀x∈X++X',x∈L)
 (c:∀p' a cap a' H,Per p' h->PLe p p'->v=.slice a n cap->v'=.slice a' n' H->Sl p' a n w es->Sl p' a' n' w' es'->Q):Q:=
 xir s hX fun p' hp le hz=>by
  subst hn;subst M;obtain⟨a,cap,e1,sl⟩:=o.inP (p:=p') fun x V=>hz x (List.mem_append_left _ V);obtain⟨a',H,e2,O⟩:=o'.inP (p:=p') fun x V=>hz x (List.mem_append_right _ V);exact c p' a cap a' H hp le e1 e2 sl O
section
variable{P:Program}{f:FuncId}{r:Rd}{df:List Deferred}{k:List Item}{cs:List Frame}{Stop:Goroutine->Heap->Prop}{ops rest:List Oper}{tm:List Value}
 {z9:Heap}{zz:List Nat}{p:Ab}{L:Pcs}{ty:TypeId}{pos:String}{aft:Array Edge}{gd:Option (Nat×Bool)}
def Nq(p:Ab)(a:Option Addr)(n:Nat)(l:List UInt8):Prop:=Sl p a n 1 (bcs l)
theorem Nq.len{a:Option Addr}{n:Nat}{l:List UInt8}(s:Nq p a n l):l.length=n:=by have:=Sl.len s;simpa[bcs]using this
theorem Nq.get{a:Option Addr}{n i:Nat}{l:List UInt8}(s:Nq p a n l)(H:i<n):At p ((adr a).add (i*1))=some (.int .u8 (((l.getD i 0).toNat:Nat):Int)):=by
 have M:=s.len;exact Sl.get s i [.int .u8 (((l.getD i 0).toNat:Nat):Int)] (by rw[bcs,List.getElem?_map,List.getD_eq_getElem?_getD,List.getElem?_eq_getElem om];rfl) 0 _ rfl
end
section
variable{P:Program}{h z9:Heap}{zz:List Nat}{p:Ab}{A X C:Pcs}{tm:List Value}{d:Option Tmp}{ty:TypeId}{pos:String}{aft:Array Edge}{gd:Option (Nat×Bool)}
theorem xkg{f:Value->ByteArray->Sem (ForInStep ByteArray)}(hf:∀(n:Int)(r:ByteArray)(K:ForInStep ByteArray->Heap->Prop),K (.yield (r.push (UInt8.ofNat n.toNat))) h->wpS P (f (.int .u8 n) r) h K):
 ∀(l:List UInt8)(m:List UInt8)(K:ByteArray->Heap->Prop),K (bs (m++l)) h->wpS P (forIn (l.map fun b=>Value.int .u8 ((b.toNat:Nat):Int)) (bs m) f) h K:=by
 intro l
 induction l with
 |nil=>intro m K k;rw[List.append_nil]at k;exact xcq k
 |cons b l ih=>
   intro m K k;rw[List.map_cons,List.forIn_cons];refine xbq (hf _ _ _ ?_);have e:(bs m).push (UInt8.ofNat (((b.toNat:Nat):Int)).toNat)=bs (m++[b]):=by
    apply ByteArray.ext;simp[bs]
   rw[e];refine ih _ _ ?_;rw[List.append_assoc];exact k
theorem xm7{M H e:TypeId}{x:Operand}{v:Value}{l:List UInt8}(o:Ac e 1 v (bcs l) X)(s:St z9 zz p h (A++(X++C)))(hs:P.underlying M=some (.slice e))(hd:P.underlying H=some .string)(he:P.underlying e=some (.int .u8))(hx:evl tm x=v):
 Exd P tm ⟨d,.convert M H x,ty,pos,aft,gd⟩ h (sv l):=by
 refine xtz (s:=convert M H v) (by simp only[execOp,hx]) ?_;unfold convert;refine xbq (xfq hs ?_);refine xbq (xfq hd ?_);obtain⟨hw,⟨rfl,h0,rfl⟩|⟨b,cs,cap,rest,rfl,rfl,V,hlen,_⟩⟩:=o
 ·have:l=[]:=by simpa[bcs]using h0
  subst this;simp only;refine xbq (xfq he ?_);exact xcq ⟨rfl,rfl⟩
 ·simp only;refine xbq (xfq he ?_);simp only[Conv.bytesToString];have O:=xnq hw;have hL:(A++([(b,Obj.cells (List.toArray cs) e (0,0))]++C))[A.length]?=some (b,.cells (List.toArray cs) e (0,0)):=by
   rw[List.getElem?_append_right (Nat.le_refl _)];simp
  refine xbq (xlz (vs:=(bcs l).flatten) (by rw[O];simp) (fun j u hj=>?_) ?_)
  ·rw[xsx];refine s.Ff hL ?_;rw[List.getElem?_toArray,V,Nat.zero_add,List.getElem?_append_left (List.getElem?_eq_some_iff.1 hj).1];exact hj
  ·have hf:∀l:List UInt8,(bcs l).flatten=l.map fun b=>Value.int .u8 ((b.toNat:Nat):Int):=fun l=>by
    induction l with
    |nil=>rfl
    |cons a l ih=>simp only[bcs]at ih⊢;simp[ih]
   rw[hf];simp only[List.forIn_toArray];refine xbq ?_;exact xkg (fun n r K k=>xcq k) l [] _ (xcq ⟨rfl,rfl⟩)
end
end Go.X
