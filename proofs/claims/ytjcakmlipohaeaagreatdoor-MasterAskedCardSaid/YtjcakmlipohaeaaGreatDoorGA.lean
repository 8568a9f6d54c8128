/-
  Part of proofs about a town's master: a calculus for walks beside goroutines that are only leaving, and the walks. No condition.
-/
import Derived.Test.YtjcakmlipohaeaaGreatDoorGO
import Derived.Conc.Beside
import Derived.IntWalk
import Derived.Orders
import Derived.Laws.StructEq
import Derived.Lib.ConvBytes
import Derived.Calls
import Derived.Carry
namespace Go.X
open Go.Conc
abbrev Heap:=Array Obj
def cell?(h:Heap)(a:Addr):Option Value:=
 match h[a.block]? with
 |some (.cells c _ _)=>if a.spot.isSome then none else c[a.off]?
 |_=>none
def frozenAt(h:Heap)(a:Addr):Bool:=
 match h[a.block]? with
 |some (.cells _ _ (lo,hi))=>lo<=a.off&&a.off<hi
 |_=>false
def setCell(h:Heap)(a:Addr)(v:Value):Heap:=
 h.modify a.block fun
  |.cells c elem frozen=>.cells (if a.spot.isSome then c else c.setIfInBounds a.off v) elem frozen
  |o=>o
def freezeH(h:Heap)(a:Addr)(n:Nat):Heap:=
 if n=0 then h else
 h.modify a.block fun
  |.cells c elem (lo,hi)=>.cells c elem (if lo==hi then(a.off,a.off+n)else(min lo a.off,max hi (a.off+n)))
  |o=>o
def isOne:Value->Bool
 |.agg _=>false
 |.tuple _=>false
 |_=>true
def seenAt(h:Heap)(a:Addr):Prop:=∃c e f,h[a.block]?=some (.cells c e f)/\0<c.size
def sureF(h:Heap)(a:Addr):Prop:=((cell? h a).isSome=true/\frozenAt h a=false)\/ ∃c e,h[a.block]?=some (.cells c e (0,0))/\0<c.size
def okMark:Mark->Bool
 |.extern _=>true
 |.noRoom=>true
 |_=>false
def wpS{α:Type}(P:Program):Sem α->Heap->(α->Heap->Prop)->Prop
 |.pure a,h,K=>K a h
 |.load m a k,h,K=>m=.plain/\ ∃v,cell? h a=some v/\wpS P (k v) h K
 |.store m a v k,h,K=>m=.plain/\isOne v=true/\(∃u,cell? h a=some u)/\frozenAt h a=false/\wpS P k (setCell h a v) K
 |.new o k,h,K=>wpS P (k h.size) (h.push o) K
 |.shape r k,h,K=>match h[r]? with
   |some (.cells c e _)=>0<c.size/\wpS P (k (some (e,c.size))) h K
   |_=>wpS P (k none) h K
 |.freeze a n k,h,K=>(∃c e f,h[a.block]?=some (.cells c e f)/\0<c.size/\f≠(0,c.size))/\wpS P k (freezeH h a n) K
 |.frozen a k,h,K=>seenAt h a/\(sureF h a->wpS P (k false) h K)/\(¬ sureF h a-> ∀b,wpS P (k b) h K)
 |.getObj r k,h,K=>match h[r]? with
   |some (.cells ..)=>False
   |some o=>o.isChan=false/\wpS P (k o) h K
   |none=>False
 |.setObj r o k,h,K=>match h[r]? with
   |some (.cells ..)=>False
   |some o'=>o'.isChan=false/\o.isChan=false/\wpS P k (h.setIfInBounds r o) K
   |none=>False
 |.choose q k,h,K=>if q.forced then wpS P (k 0) h K else ∀t,wpS P (k (q.cut t)) h K
 |.sys _ _,_,_=>False
 |.program k,h,K=>wpS P (k P) h K
 |.mark m k,h,K=>okMark m=true/\wpS P k h K
 |.halt _,_,_=>False
section
variable{α β:Type}{P:Program}
theorem xfx{s:Sem α}:∀{h:Heap}{K K':α->Heap->Prop},wpS P s h K->(∀a h,K a h->K' a h)->wpS P s h K':=by
 induction s with
 |pure a=>exact fun x y=>y _ _ x
 |load m a k ih=>exact fun⟨x,v,y,z⟩q=>⟨x,v,y,ih v z q⟩
 |store m a v k ih=>exact fun⟨x,o,y,z,t⟩q=>⟨x,o,y,z,ih t q⟩
 |new o k ih=>exact fun x q=>ih _ x q
 |shape r k ih=>
   intro h K K' x q
   unfold wpS at x⊢
   split at x
   ·exact⟨x.1,ih _ x.2 q⟩
   ·exact ih _ x q
 |freeze a n k ih=>exact fun x q=>⟨x.1,ih x.2 q⟩
 |frozen a k ih=>exact fun x q=>⟨x.1,fun e=>ih _ (x.2.1 e) q,fun e b=>ih _ (x.2.2 e b) q⟩
 |getObj r k ih=>
   intro h K K' x q
   unfold wpS at x⊢
   split at x
   ·exact x
   ·exact⟨x.1,ih _ x.2 q⟩
   ·exact x
 |setObj r o k ih=>
   intro h K K' x q
   unfold wpS at x⊢
   split at x
   ·exact x
   ·exact⟨x.1,x.2.1,ih x.2.2 q⟩
   ·exact x
 |choose qn k ih=>
   intro h K K' x q
   unfold wpS at x⊢
   split at x
   ·rename_i hf;rw[if_pos hf];exact ih _ x q
   ·rename_i hf;rw[if_neg hf];exact fun t=>ih _ (x t) q
 |sys c k ih=>exact fun x _=>x.elim
 |program k ih=>exact fun x q=>ih _ x q
 |mark m k ih=>exact fun⟨x,y⟩q=>⟨x,ih y q⟩
 |halt h=>exact fun x _=>x.elim
theorem xtd{s:Sem α}{f:α->Sem β}:∀{h:Heap}{K:β->Heap->Prop},wpS P s h (fun a h'=>wpS P (f a) h' K)->wpS P (s.bind f) h K:=by
 induction s with
 |pure a=>exact id
 |load m a k ih=>exact fun⟨x,v,y,z⟩=>⟨x,v,y,ih v z⟩
 |store m a v k ih=>exact fun⟨x,o,y,z,t⟩=>⟨x,o,y,z,ih t⟩
 |new o k ih=>exact fun x=>ih _ x
 |shape r k ih=>
   intro h K x
   unfold Sem.bind
   unfold wpS at x⊢
   split at x
   ·exact⟨x.1,ih _ x.2⟩
   ·exact ih _ x
 |freeze a n k ih=>exact fun x=>⟨x.1,ih x.2⟩
 |frozen a k ih=>exact fun x=>⟨x.1,fun e=>ih _ (x.2.1 e),fun e b=>ih _ (x.2.2 e b)⟩
 |getObj r k ih=>
   intro h K x
   unfold Sem.bind
   unfold wpS at x⊢
   split at x
   ·exact x
   ·exact⟨x.1,ih _ x.2⟩
   ·exact x
 |setObj r o k ih=>
   intro h K x
   unfold Sem.bind
   unfold wpS at x⊢
   split at x
   ·exact x
   ·exact⟨x.1,x.2.1,ih x.2.2⟩
   ·exact x
 |choose qn k ih=>
   intro h K x
   unfold Sem.bind
   unfold wpS at x⊢
   split at x
   ·rename_i hf;rw[if_pos hf];exact ih _ x
   ·rename_i hf;rw[if_neg hf];exact fun t=>ih _ (x t)
 |sys c k ih=>exact fun x=>x.elim
 |program k ih=>exact fun x=>ih _ x
 |mark m k ih=>exact fun⟨x,y⟩=>⟨x,ih y⟩
 |halt h=>exact fun x=>x.elim
theorem xbq{s:Sem α}{f:α->Sem β}{h:Heap}{K:β->Heap->Prop}(x:wpS P s h (fun a h'=>wpS P (f a) h' K)):wpS P (s >>= f) h K:=xtd x
theorem xcq{a:α}{h:Heap}{K:α->Heap->Prop}(x:K a h):wpS P (pure a) h K:=x
structure Vw where
 dead:Nat->Prop
 still:Nat->Prop
def Vw.of(S:Nat->Prop):Vw:=⟨S,fun _=>False⟩
structure Veil(S:Vw)(h r:Heap):Prop where
 size:h.size=r.size
 same:∀b,¬ S.dead b-> ¬ S.still b->h[b]?=r[b]?
 shun:∀b,S.dead b->h[b]?=some (.cells #[] 0 (0,0))
 frz:∀b,S.still b-> ∃c e f,r[b]?=some (.cells c e f)/\h[b]?=some (.cells c e (0,c.size))
theorem Veil.refl(h:Heap):Veil (.of fun _=>False) h h:=⟨rfl,fun _ _ _=>rfl,fun _ x=>x.elim,fun _ x=>x.elim⟩
variable{S:Vw}{h r:Heap}
theorem Veil.cell(V:Veil S h r){a:Addr}{v:Value}(x:cell? h a=some v):cell? r a=some v/\ ¬ S.dead a.block:=by
 by_cases hs:S.dead a.block
 ·have hb:=V.shun _ hs
  unfold cell? at x
  rw[hb]at x
  simp at x
 ·refine⟨?_,hs⟩
  by_cases ht:S.still a.block
  ·obtain⟨c,e,f,hr,hh⟩:=V.frz _ ht
   unfold cell? at x⊢
   rw[hh]at x;rw[hr]
   exact x
  ·unfold cell? at x⊢
   rw[<- V.same _ hs ht]
   exact x
theorem yzk{a:Addr}{v:Value}(x:cell? h a=some v):a.block<h.size:=by
 unfold cell? at x
 split at x
 ·rename_i c e f hb;exact(Array.getElem?_eq_some_iff.1 hb).1
 ·cases x
theorem Veil.seen(V:Veil S h r){a:Addr}(x:seenAt h a):¬ S.dead a.block:=by
 intro hs
 obtain⟨c,e,f,hb,hc⟩:=x
 rw[V.shun _ hs]at hb
 cases hb
 simp at hc
theorem Veil.frozen(V:Veil S h r){a:Addr}(hs:¬ S.dead a.block)(ht:¬ S.still a.block):frozenAt h a=frozenAt r a:=by
 unfold frozenAt;rw[V.same _ hs ht]
theorem Veil.thaw(V:Veil S h r){a:Addr}{v:Value}(x:cell? h a=some v)(hf:frozenAt h a=false):¬ S.still a.block:=by
 intro ht
 obtain⟨c,e,f,hr,hh⟩:=V.frz _ ht
 unfold cell? at x
 unfold frozenAt at hf
 rw[hh]at x hf
 simp only at x hf
 split at x
 ·cases x
 ·have:=(Array.getElem?_eq_some_iff.1 x).1
  simp at hf
  omega
theorem getElem?_modify'(h:Heap)(i j:Nat)(f:Obj->Obj):(h.modify i f)[j]?=if i=j then h[j]?.map f else h[j]?:=by
 rw[Array.getElem?_modify]
theorem Veil.modify(V:Veil S h r){i:Nat}(f:Obj->Obj)(hs:¬ S.dead i)(ht:¬ S.still i):Veil S (h.modify i f) (r.modify i f):=by
 refine⟨by simp[V.size],fun b hb hb'=>?_,fun b hb=>?_,fun b hb=>?_⟩
 ·rw[getElem?_modify',getElem?_modify',V.same _ hb hb']
 ·have hne:i≠b:=fun e=>hs (e ▸ hb)
  rw[getElem?_modify',if_neg hne]
  exact V.shun _ hb
 ·have hne:i≠b:=fun e=>ht (e ▸ hb)
  rw[getElem?_modify',if_neg hne,getElem?_modify',if_neg hne]
  exact V.frz _ hb
theorem Veil.setCell(V:Veil S h r){a:Addr}(v:Value)(hs:¬ S.dead a.block)(ht:¬ S.still a.block):Veil S (X.setCell h a v) (X.setCell r a v):=V.modify _ hs ht
theorem Veil.freeze(V:Veil S h r){a:Addr}(n:Nat)(hs:¬ S.dead a.block)(ht:¬ S.still a.block):Veil S (freezeH h a n) (freezeH r a n):=by
 unfold freezeH
 split
 ·exact V
 ·exact V.modify _ hs ht
theorem Veil.lt(V:Veil S h r){b:Nat}(hb:S.dead b):b<r.size:=by
 rw[<- V.size];exact(Array.getElem?_eq_some_iff.1 (V.shun _ hb)).1
theorem Veil.lts(V:Veil S h r){b:Nat}(hb:S.still b):b<r.size:=by
 obtain⟨c,e,f,hr,_⟩:=V.frz _ hb
 exact(Array.getElem?_eq_some_iff.1 hr).1
theorem Veil.push(V:Veil S h r)(o:Obj):Veil S (h.push o) (r.push o):=by
 refine⟨by simp[V.size],fun b hb hb'=>?_,fun b hb=>?_,fun b hb=>?_⟩
 ·rw[Array.getElem?_push,Array.getElem?_push,V.size,V.same _ hb hb']
 ·have:=V.lt hb
  rw[Array.getElem?_push,V.size,if_neg om]
  exact V.shun _ hb
 ·have:=V.lts hb
  rw[Array.getElem?_push,Array.getElem?_push,V.size,if_neg om,if_neg om]
  exact V.frz _ hb
theorem Veil.setObj(V:Veil S h r){b:Nat}(o:Obj)(hs:¬ S.dead b)(ht:¬ S.still b):Veil S (h.setIfInBounds b o) (r.setIfInBounds b o):=by
 refine⟨by simp[V.size],fun c hc hc'=>?_,fun c hc=>?_,fun c hc=>?_⟩
 ·rw[Array.getElem?_setIfInBounds,Array.getElem?_setIfInBounds,V.size,V.same _ hc hc']
 ·have hne:b≠c:=fun e=>hs (e ▸ hc)
  rw[Array.getElem?_setIfInBounds_ne hne]
  exact V.shun _ hc
 ·have hne:b≠c:=fun e=>ht (e ▸ hc)
  rw[Array.getElem?_setIfInBounds_ne hne,Array.getElem?_setIfInBounds_ne hne]
  exact V.frz _ hc
theorem Veil.obj(V:Veil S h r){b:Nat}{o:Obj}(hn:∀c e f,o=.cells c e f->False)(ho:h[b]?=some o):¬ S.dead b/\ ¬ S.still b:=by
 refine⟨fun hs=>?_,fun ht=>?_⟩
 ·rw[V.shun _ hs]at ho
  exact hn _ _ _ (Option.some.inj ho).symm
 ·obtain⟨c,e,f,_,hh⟩:=V.frz _ ht
  rw[hh]at ho
  exact hn _ _ _ (Option.some.inj ho).symm
structure Keep(h h':Heap):Prop where
 size:h.size<=h'.size
 keep:∀b,b<h.size->h'[b]?=h[b]?
theorem Keep.refl(h:Heap):Keep h h:=⟨Nat.le_refl _,fun _ _=>rfl⟩
theorem Keep.trans{a b c:Heap}(x:Keep a b)(y:Keep b c):Keep a c:=⟨Nat.le_trans x.size y.size,fun i hi=>(y.keep i (Nat.lt_of_lt_of_le hi x.size)).trans (x.keep i hi)⟩
def ShunOf(S:Nat->Prop):Loc->Prop:=fun l=>∃a:Addr,l=.cell a/\S a.block
structure Calm(w w':World):Prop where
 os:w'.os=w.os
 tape:w'.tape=w.tape
 output:w'.output=w.output
 size:w.heap.size<=w'.heap.size
theorem Calm.refl(w:World):Calm w w:=⟨rfl,rfl,rfl,Nat.le_refl _⟩
theorem Calm.trans{a b c:World}(x:Calm a b)(y:Calm b c):Calm a c:=
 ⟨y.os.trans x.os,y.tape.trans x.tape,y.output.trans x.output,Nat.le_trans x.size y.size⟩
structure Quiet(S:Vw)(w w':World):Prop where
 calm:Calm w w'
 stand:∀b,b<w.heap.size->S.dead b\/S.still b->w'.heap[b]?=w.heap[b]?
theorem Quiet.size{S:Vw}{w w':World}(x:Quiet S w w'):w.heap.size<=w'.heap.size:=x.calm.size
theorem Quiet.refl{S:Vw}(w:World):Quiet S w w:=⟨.refl w,fun _ _ _=>rfl⟩
theorem Quiet.trans{S:Vw}{a b c:World}(x:Quiet S a b)(y:Quiet S b c):Quiet S a c:=
 ⟨x.calm.trans y.calm,fun i hi z=>(y.stand i (Nat.lt_of_lt_of_le hi x.size) z).trans (x.stand i hi z)⟩
def EvX(S:Vw)(B:Nat)(e:Event):Prop:=
 match e.loc with
 |.cell a=>e.sync=false/\ ¬ S.dead a.block/\a.block<B/\(e.write=true-> ¬ S.still a.block)
 |.obj b=>e.sync=false/\ ¬ S.dead b/\b<B/\ ¬ S.still b
 |.mark m=>okMark m=true
 |_=>False
theorem yxc{S:Vw}{B B':Nat}(hB:B<=B'){e:Event}(x:EvX S B e):EvX S B' e:=by
 unfold EvX at x⊢
 split at x
 ·exact⟨x.1,x.2.1,Nat.lt_of_lt_of_le x.2.2.1 hB,x.2.2.2⟩
 ·exact⟨x.1,x.2.1,Nat.lt_of_lt_of_le x.2.2.1 hB,x.2.2.2⟩
 ·exact x
 ·exact x.elim
theorem yak{S:Vw}{B:Nat}{e:Event}(x:EvX S B e):EvL (ShunOf S.dead) B e:=by
 obtain⟨loc,wrZ,sy⟩:=e
 unfold EvX at x
 split at x
 ·rename_i a ha
  simp only at ha x;subst ha
  obtain⟨rfl,hs,hb,_⟩:=x
  refine⟨?_,by simp,by simp,hb⟩
  intro y hy hsh
  simp[MemAct.ofEvent,MemAct.touch?]at hy
  subst hy
  obtain⟨b,hb',hsb⟩:=hsh
  cases hb'
  exact absurd hsb hs
 ·rename_i b hb'
  simp only at hb' x;subst hb'
  obtain⟨rfl,hs,hb,_⟩:=x
  refine⟨?_,by simp,by simp,by simpa[MemAct.ofEvent,MemAct.low,Loc.low]using hb⟩
  intro y hy hsh
  simp[MemAct.ofEvent,MemAct.touch?]at hy
  subst hy
  obtain⟨_,hb',_⟩:=hsh
  cases hb'
 ·rename_i m hm
  simp only at hm;subst hm
  cases m<;>simp_all[okMark]
  all_goals
   refine⟨?_,by simp,by simp,trivial⟩
   intro x hx
   simp[MemAct.ofEvent,MemAct.touch?]at hx
 ·exact x.elim
theorem xv1{h:Heap}{a:Addr}{v:Value}{b:Nat}(hne:b≠a.block):(setCell h a v)[b]?=h[b]?:=by
 unfold setCell;rw[getElem?_modify',if_neg (Ne.symm hne)]
theorem xe8{h:Heap}{a:Addr}{n b:Nat}(hne:b≠a.block):(freezeH h a n)[b]?=h[b]?:=by
 unfold freezeH;split
 ·rfl
 ·rw[getElem?_modify',if_neg (Ne.symm hne)]
theorem xbd(s:Sem α):∀{h:Heap}{K:α->Heap->Prop}{w:World}(es₀:Array Event),wpS P s h K->Veil S h w.heap->
 ∃a h' w' es,s.runT P w es₀=(.ok a w',es₀++es)/\s.run P w=.ok a w'/\K a h'/\Veil S h' w'.heap/\Quiet S w w'/\ ∀e∈es,EvX S w'.heap.size e:=by
 induction s with
 |pure a=>exact fun{h K w}es₀ x V=>⟨a,h,w,#[],by simp[Sem.runT],rfl,x,V,.refl _,by simp⟩
 |load m a k ih=>
   intro h K w es₀ ⟨hm,v,hc,x⟩ V
   obtain⟨hcr,hs⟩:=V.cell hc
   have hcw:w.cell? a=some v:=hcr
   obtain⟨y,h',w',es,e1,e2,e3,e4,e5,e6⟩:=ih v (es₀.push ⟨.cell a,false,m==.atomic⟩) x V
   subst hm
   refine⟨y,h',w',#[⟨.cell a,false,false⟩]++es,?_,?_,e3,e4,e5,?_⟩
   ·simp only[Sem.runT,hcw,e1,Prod.mk.injEq,true_and]
    rw[<- Array.append_assoc];congr 1
   ·simp only[Sem.run,hcw,e2]
   ·intro e he
    rcases Array.mem_append.1 he with he|he
    ·simp at he;subst he
     exact⟨rfl,hs,Nat.lt_of_lt_of_le (yzk hcr) e5.size,fun x=>by cases x⟩
    ·exact e6 e he
 |store m a v k ih=>
   intro h K w es₀ ⟨hm,hv,⟨u,hu⟩,hf,x⟩ V
   obtain⟨hur,hs⟩:=V.cell hu
   have huw:w.cell? a=some u:=hur
   have ht:=V.thaw hu hf
   have hfw:w.frozen? a=false:=(V.frozen hs ht).symm.trans hf
   have V':Veil S (X.setCell h a v) (w.setCell a v).heap:=V.setCell v hs ht
   obtain⟨y,h',w',es,e1,e2,e3,e4,e5,e6⟩:=ih (es₀.push ⟨.cell a,true,m==.atomic⟩) x V'
   subst hm
   have hsz:(w.setCell a v).heap.size=w.heap.size:=by simp[World.setCell]
   refine⟨y,h',w',#[⟨.cell a,true,false⟩]++es,?_,?_,e3,e4,⟨⟨e5.calm.os,e5.calm.tape,e5.calm.output,by rw[<- hsz];exact e5.size⟩,fun b hb z=>(e5.stand b (by rw[hsz];exact hb) z).trans (xv1 (h:=w.heap) fun e=>by subst e;exact z.elim hs ht)⟩,?_⟩
   ·cases v<;>simp[isOne]at hv
    all_goals
     simp only[Sem.runT,huw,hfw,Bool.false_eq_true,if_false,e1,Prod.mk.injEq,true_and]
     rw[<- Array.append_assoc];congr 1
   ·cases v<;>simp[isOne]at hv
    all_goals simp only[Sem.run,huw,hfw,Bool.false_eq_true,if_false,e2]
   ·intro e he
    rcases Array.mem_append.1 he with he|he
    ·simp at he;subst he
     exact⟨rfl,hs,Nat.lt_of_lt_of_le (yzk hur) (by rw[<- hsz];exact e5.size),fun _=>ht⟩
    ·exact e6 e he
 |new o k ih=>
   intro h K w es₀ x V
   have V':Veil S (h.push o) ({w with heap:=w.heap.push o}:World).heap:=V.push o
   have x':wpS P (k w.heap.size) (h.push o) K:=by rw[<- V.size];exact x
   obtain⟨y,h',w',es,e1,e2,e3,e4,e5,e6⟩:=ih w.heap.size es₀ x' V'
   exact⟨y,h',w',es,by simp only[Sem.runT,e1],by simp only[Sem.run,e2],e3,e4,⟨⟨e5.calm.os,e5.calm.tape,e5.calm.output,by have:=e5.size;simp at this;omega⟩,fun b hb z=>(e5.stand b (by simp;omega) z).trans (by simp only[Array.getElem?_push];rw[if_neg om])⟩,e6⟩
 |shape r k ih=>
   intro h K w es₀ x V
   unfold wpS at x
   have key:∃z,w.shape? r=z/\wpS P (k z) h K:=by
    split at x
    ·rename_i c e f hr
     have hs:¬ S.dead r:=by
      intro hs
      have hb:=V.shun _ hs
      rw[hr]at hb
      simp at hb
      have:=x.1
      rw[hb.1]at this
      simp at this
     refine⟨_,?_,x.2⟩
     unfold World.shape?
     by_cases ht:S.still r
     ·obtain⟨c',e',f',hr',hh⟩:=V.frz _ ht
      rw[hh]at hr
      cases hr
      rw[hr']
     ·rw[<- V.same _ hs ht,hr]
    ·rename_i hn
     refine⟨_,?_,x⟩
     have hs:¬ S.dead r:=by
      intro hs
      exact hn _ _ _ (V.shun _ hs)
     have ht:¬ S.still r:=by
      intro ht
      obtain⟨c',e',f',hr',hh⟩:=V.frz _ ht
      exact hn _ _ _ hh
     unfold World.shape?
     rw[<- V.same _ hs ht]
     split
     ·rename_i c e f hr
      exact absurd hr (hn _ _ _)
     ·rfl
   obtain⟨z,hz,x'⟩:=key
   obtain⟨y,h',w',es,e1,e2,e3,e4,e5,e6⟩:=ih z es₀ x' V
   exact⟨y,h',w',es,by simp only[Sem.runT,hz,e1],by simp only[Sem.run,hz,e2],e3,e4,e5,e6⟩
 |freeze a n k ih=>
   intro h K w es₀ ⟨⟨c,e,f,hc,hc0,hcf⟩,x⟩ V
   have hs:=V.seen ⟨c,e,f,hc,hc0⟩
   have ht:¬ S.still a.block:=by
    intro ht
    obtain⟨c',e',f',_,hh⟩:=V.frz _ ht
    rw[hh]at hc
    cases hc
    exact hcf rfl
   have hfz:(w.freeze a n).heap=freezeH w.heap a n:=by unfold World.freeze freezeH;split<;>rfl
   have V':Veil S (freezeH h a n) (w.freeze a n).heap:=by rw[hfz];exact V.freeze n hs ht
   obtain⟨y,h',w',es,e1,e2,e3,e4,e5,e6⟩:=ih es₀ x V'
   have h1:(w.freeze a n).os=w.os:=by unfold World.freeze;split<;>rfl
   have h2:(w.freeze a n).tape=w.tape:=by unfold World.freeze;split<;>rfl
   have h3:(w.freeze a n).output=w.output:=by unfold World.freeze;split<;>rfl
   have h4:(w.freeze a n).heap.size=w.heap.size:=by unfold World.freeze;split<;>simp
   exact⟨y,h',w',es,by simp only[Sem.runT,e1],by simp only[Sem.run,e2],e3,e4,⟨⟨e5.calm.os.trans h1,e5.calm.tape.trans h2,e5.calm.output.trans h3,by rw[<- h4];exact e5.size⟩,fun b hb z=>(e5.stand b (by rw[h4];exact hb) z).trans (by rw[hfz];exact xe8 fun e=>by subst e;exact z.elim hs ht)⟩,e6⟩
 |frozen a k ih=>
   intro h K w es₀ ⟨hsee,xt,xf⟩ V
   have x:wpS P (k (w.frozen? a)) h K:=by
    by_cases hc:sureF h a
    ·have hfw:w.frozen? a=false:=by
      rcases hc with hc|⟨c,e,hb,hp⟩
      ·obtain⟨v,hv⟩:=Option.isSome_iff_exists.1 hc.1
       exact(V.frozen (V.seen hsee) (V.thaw hv hc.2)).symm.trans hc.2
      ·have ht:¬ S.still a.block:=fun ht=>by
        obtain⟨c',e',f,_,hh⟩:=V.frz _ ht
        rw[hb]at hh
        injection hh with hh
        injection hh with e1 _ e2
        have e3:=(Prod.mk.inj e2).2
        rw[<- e1]at e3
        omega
       have z:=V.frozen (a:=a) (V.seen hsee) ht
       refine z.symm.trans ?_
       unfold frozenAt
       rw[hb]
       simp
     rw[hfw]
     exact xt hc
    ·exact xf hc _
   obtain⟨y,h',w',es,e1,e2,e3,e4,e5,e6⟩:=ih (w.frozen? a) es₀ x V
   exact⟨y,h',w',es,by simp only[Sem.runT,e1],by simp only[Sem.run,e2],e3,e4,e5,e6⟩
 |getObj r k ih=>
   intro h K w es₀ x V
   unfold wpS at x
   split at x
   ·exact x.elim
   ·rename_i o hn ho
    obtain⟨hs,ht⟩:=V.obj hn ho
    have how:w.heap[r]?=some o:=(V.same _ hs ht).symm.trans ho
    obtain⟨y,h',w',es,e1,e2,e3,e4,e5,e6⟩:=ih o (es₀.push ⟨.obj r,false,o.isChan⟩) x.2 V
    refine⟨y,h',w',#[⟨.obj r,false,false⟩]++es,?_,?_,e3,e4,e5,?_⟩
    ·rw[x.1]at e1
     simp only[Sem.runT,how,x.1]
     cases o<;>first|exact absurd rfl (hn _ _ _)|(simp only[e1,Prod.mk.injEq,true_and];rw[<- Array.append_assoc];congr 1)
    ·simp only[Sem.run,how]
     cases o<;>first|exact absurd rfl (hn _ _ _)|exact e2
    ·intro e he
     rcases Array.mem_append.1 he with he|he
     ·simp at he;subst he
      exact⟨rfl,hs,Nat.lt_of_lt_of_le (Array.getElem?_eq_some_iff.1 how).1 e5.size,ht⟩
     ·exact e6 e he
   ·exact x.elim
 |setObj r o k ih=>
   intro h K w es₀ x V
   unfold wpS at x
   split at x
   ·exact x.elim
   ·rename_i o' hn ho
    obtain⟨hs,ht⟩:=V.obj hn ho
    have how:w.heap[r]?=some o':=(V.same _ hs ht).symm.trans ho
    have V':Veil S (h.setIfInBounds r o) ({w with heap:=w.heap.setIfInBounds r o}:World).heap:=V.setObj o hs ht
    obtain⟨y,h',w',es,e1,e2,e3,e4,e5,e6⟩:=ih (es₀.push ⟨.obj r,true,o.isChan⟩) x.2.2 V'
    have hsz:w.heap.size<=w'.heap.size:=by have:=e5.size;simp at this;exact this
    refine⟨y,h',w',#[⟨.obj r,true,false⟩]++es,?_,?_,e3,e4,⟨⟨e5.calm.os,e5.calm.tape,e5.calm.output,hsz⟩,fun b hb z=>(e5.stand b (by simp;exact hb) z).trans (by simp only;rw[Array.getElem?_setIfInBounds_ne fun e=>by subst e;exact z.elim hs ht])⟩,?_⟩
    ·rw[x.2.1]at e1
     simp only[Sem.runT,how,x.2.1]
     cases o'<;>first|exact absurd rfl (hn _ _ _)|(simp only[e1,Prod.mk.injEq,true_and];rw[<- Array.append_assoc];congr 1)
    ·simp only[Sem.run,how]
     cases o'<;>first|exact absurd rfl (hn _ _ _)|exact e2
    ·intro e he
     rcases Array.mem_append.1 he with he|he
     ·simp at he;subst he
      exact⟨rfl,hs,Nat.lt_of_lt_of_le (Array.getElem?_eq_some_iff.1 how).1 hsz,ht⟩
     ·exact e6 e he
   ·exact x.elim
 |choose q k ih=>
   intro h K w es₀ x V
   unfold wpS at x
   by_cases hf:q.forced=true
   ·rw[if_pos hf]at x
    obtain⟨y,h',w',es,e1,e2,e3,e4,e5,e6⟩:=ih 0 es₀ x V
    exact⟨y,h',w',es,by simp only[Sem.runT,hf,if_true,e1],by simp only[Sem.run,hf,if_true,e2],e3,e4,e5,e6⟩
   ·rw[if_neg hf]at x
    have V':Veil S h ({w with drawn:=w.drawn+1}:World).heap:=V
    obtain⟨y,h',w',es,e1,e2,e3,e4,e5,e6⟩:=ih _ es₀ (x (w.tape w.drawn q)) V'
    exact⟨y,h',w',es,by simp only[Sem.runT,if_neg hf,e1],by simp only[Sem.run,if_neg hf,e2],e3,e4,⟨⟨e5.calm.os,e5.calm.tape,e5.calm.output,e5.size⟩,e5.stand⟩,e6⟩
 |sys c k ih=>exact fun es₀ x=>x.elim
 |program k ih=>
   intro h K w es₀ x V
   obtain⟨y,h',w',es,e1,e2,e3,e4,e5,e6⟩:=ih P es₀ x V
   exact⟨y,h',w',es,by simp only[Sem.runT,e1],by simp only[Sem.run,e2],e3,e4,e5,e6⟩
 |mark m k ih=>
   intro h K w es₀ ⟨hm,x⟩ V
   obtain⟨y,h',w',es,e1,e2,e3,e4,e5,e6⟩:=ih (es₀.push ⟨.mark m,false,true⟩) x V
   refine⟨y,h',w',#[⟨.mark m,false,true⟩]++es,?_,by simp only[Sem.run,e2],e3,e4,e5,?_⟩
   ·simp only[Sem.runT,e1,Prod.mk.injEq,true_and]
    rw[<- Array.append_assoc];congr 1
   ·intro e he
    rcases Array.mem_append.1 he with he|he
    ·simp at he;subst he;exact hm
    ·exact e6 e he
 |halt h=>exact fun es₀ x=>x.elim
end
end Go.X
namespace Go.X
open Go.Conc
open Go.ConcN (sumTo upd sumTo_upd upd_ne upd_same)
structure Scene(P:Program)(S:Nat->Prop)(gs:Array Goroutine)(w:World)(t:Trace)(q:Nat->Nat)(g:Goroutine)(h:Heap):Prop where
 main:gs[0]?=some g
 leav:Leavers P t gs q
 past:Past (ShunOf S) w.heap.size t
 veil:Veil (.of S) h w.heap
inductive Md where
 |main (sp:Bool)
 |own (m:Bool)
 |lone
def Md.isMain:Md->Bool
 |.main _=>true
 |.own m=>m
 |.lone=>true
def Own(P:Program)(main:Bool)(g:Goroutine)(h:Heap)(K:Goroutine->Heap->Prop):Prop:=
 g.status=.running/\ ∀h₁,Keep h h₁-> ∀(S:Vw)(w:World),Veil S h₁ w.heap->
  ∃g' h' w' es,stepG P main g w=.go g' w' es/\K g' h'/\Veil S h' w'.heap/\Quiet S w w'/\ ∀e∈es,EvX S w'.heap.size e
theorem Own.mono{P:Program}{main:Bool}{g:Goroutine}{h:Heap}{K K':Goroutine->Heap->Prop}(x:Own P main g h K)(y:∀g h,K g h->K' g h):Own P main g h K':=
 ⟨x.1,fun h₁ k S w V=>by obtain⟨g',h',w',es,a,b,c⟩:=x.2 h₁ k S w V;exact⟨g',h',w',es,a,y _ _ b,c⟩⟩
def Reach(P:Program):Md->(g:Goroutine)->(h:Heap)->(Stop:Goroutine->Heap->Prop)->Prop
 |.main sp,g,h,Stop=>
   ∀(S:Nat->Prop)(gs:Array Goroutine)(w:World)(sl:Option (Nat×Nat))(t:Trace)(q:Nat->Nat),Scene P S gs w t q g h->
    ∃(N:Nat)(S':Nat->Prop)(gs':Array Goroutine)(w':World)(sl':Option (Nat×Nat))(t':Trace)(q':Nat->Nat)(g':Goroutine)(h':Heap),
     runNT P N (crowd gs w sl) t=(.next (crowd gs' w' sl'),t')/\Scene P S' gs' w' t' q' g' h'/\Stop g' h'/\Quiet (.of S) w w'/\
     (sp=false->gs'.size=gs.size)/\ ∀b,S b->S' b
 |.own m,g,h,Stop=>∀Z:Goroutine->Heap->Prop,(∀g h,Stop g h->Z g h)->(∀g h,Own P m g h Z->Z g h)->Z g h
 |.lone,g,h,Stop=>∀w:World,w.heap=h-> ∃g' w',Steps P (solo g w) (solo g' w')/\Stop g' w'.heap/\Calm w w'
theorem xyh{S:Vw}(w:World)(d:Nat):Quiet S w (w.at d):=⟨⟨rfl,rfl,rfl,Nat.le_refl _⟩,fun _ _ _=>rfl⟩
theorem Quiet.mono{S S':Vw}{w w':World}(x:Quiet S w w')(h:∀b,S'.dead b\/S'.still b->S.dead b\/S.still b):Quiet S' w w':=⟨x.calm,fun b hb y=>x.stand b hb (h b y)⟩
theorem Quiet.of{S S':Nat->Prop}{w w':World}(x:Quiet (.of S) w w')(h:∀b,S' b->S b):Quiet (.of S') w w':=x.mono fun b y=>y.imp (h b) id
section
variable{P:Program}{md:Md}{sp:Bool}{g:Goroutine}{h:Heap}{Stop Stop':Goroutine->Heap->Prop}
theorem xhk(x:Stop g h):Reach P md g h Stop:=by
 cases md with
 |main sp=>exact fun S gs w sl t q sc=>⟨0,S,gs,w,sl,t,q,g,h,rfl,sc,x,.refl _,fun _=>rfl,fun _ y=>y⟩
 |own m=>exact fun Z z1 _=>z1 _ _ x
 |lone=>exact fun w hw=>⟨g,w,.refl _ _,hw ▸ x,.refl _⟩
theorem xbm(x:Own P true g h fun g' h'=>Reach P (.main sp) g' h' Stop):Reach P (.main sp) g h Stop:=by
 obtain⟨hrun,hown⟩:=x
 intro S gs w sl t q sc
 suffices H:∀(M:Nat)(gs:Array Goroutine)(w:World)(sl:Option (Nat×Nat))(t:Trace)(q:Nat->Nat),sumTo gs.size q<=M->Scene P S gs w t q g h->
  ∃(N:Nat)(S':Nat->Prop)(gs':Array Goroutine)(w':World)(sl':Option (Nat×Nat))(t':Trace)(q':Nat->Nat)(g':Goroutine)(h':Heap),
   runNT P N (crowd gs w sl) t=(.next (crowd gs' w' sl'),t')/\Scene P S' gs' w' t' q' g' h'/\Stop g' h'/\Quiet (.of S) w w'/\
   (sp=false->gs'.size=gs.size)/\ ∀b,S b->S' b from H _ gs w sl t q (Nat.le_refl _) sc
 intro M
 induction M using Nat.strongRecOn with
 |_ M ih=>
   intro gs w sl t q hM sc
   obtain⟨h0,hL,hP,hV⟩:=sc
   have haw:∀g∈gs,awake g:=by
    intro y hy
    obtain⟨i,hi,rfl⟩:=Array.mem_iff_getElem.1 hy
    rcases Nat.eq_zero_or_pos i with rfl|hpos
    ·have:gs[0]=g:=by simpa[Array.getElem?_eq_getElem hi]using h0
     rw[this];exact awake_of (.inl hrun)
    ·exact awake_of ((hL.old i _ hpos (Array.getElem?_eq_getElem hi)).status.elim .inl fun x=>.inr (.inr x))
   obtain⟨i,a,d,sl',hi,ha,hst⟩:=crowd_pick (P:=P) (w:=w) (sl:=sl) haw ⟨0,g,h0,hrun⟩
   rcases Nat.eq_zero_or_pos i with rfl|hpos
   ·obtain rfl:a=g:=by rw[h0]at hi;exact(Option.some.inj hi).symm
    obtain⟨g',h',w',es,hgo,hK,hV',hc,hes⟩:=hown h (.refl _) (.of S) (w.at d) hV
    have hrunT:=runT_crowd_go (P:=P) (sl:=sl') (i:=0) hi (show stepG P (0==0) a (w.at d)=_ from hgo)
    have hsz:((gs.map (woken P a g' w')).setIfInBounds 0 g').size=gs.size:=by simp
    have hlt:0<gs.size:=(Array.getElem?_eq_some_iff.1 h0).1
    have sc':Scene P S ((gs.map (woken P a g' w')).setIfInBounds 0 g') w' (t++MemOp.ofEvents 0 a.frame.fn a.frame.place es) q g' h':=by
     refine⟨by simp[hlt],⟨fun j x hj hx=>?_,fun j hj=>?_⟩,(hP.mono hc.size).own fun e he=>yak (hes e he),hV'⟩
     ·have hne:0≠j:=om
      rw[Array.getElem?_setIfInBounds_ne hne,Array.getElem?_map]at hx
      obtain⟨y,hy,rfl⟩:=Option.map_eq_some_iff.1 hx
      have hq:=hL.old j y hj hy
      rw[woken_quitsD hq,Deaf_other t om _ (fun op hop=>by obtain⟨e,_,rfl⟩:=Go.Conc.mem_ofEvents hop;rfl)]
      exact hq
     ·rw[Deaf_other t (g':=0) (by simp at hj;omega) _ (fun op hop=>by obtain⟨e,_,rfl⟩:=Go.Conc.mem_ofEvents hop;rfl)]
      exact hL.above j (by simpa using hj)
    obtain⟨N,S2,gs2,w2,sl2,t2,q2,g2,h2,a2,b2,c2,d2,e2,f2⟩:=hK S _ w' sl' _ q sc'
    refine⟨N+1,S2,gs2,w2,sl2,t2,q2,g2,h2,by simp only[runNT,hst,hrunT];exact a2,b2,c2,((xyh w d).trans hc).trans d2,fun z=>(e2 z).trans hsz,f2⟩
   ·have hq:=hL.old i a hpos hi
    have hi0:(i==0)=false:=by simp;omega
    have hlt:i<gs.size:=(Array.getElem?_eq_some_iff.1 hi).1
    cases hqi:q i with
    |zero=>rw[hqi]at hq;rw[hq.1]at ha;cases ha
    |succ k=>
      rw[hqi]at hq
      rcases hq with⟨hf,_⟩|⟨_,g',es,hm,hstp,hq'⟩
      ·rw[hf]at ha;cases ha
      have hrunT:=runT_crowd_go (P:=P) (sl:=sl') (i:=i) hi (by rw[hi0];exact hstp (w.at d))
      have hsz:((gs.map (woken P a g' (w.at d))).setIfInBounds i g').size=gs.size:=by simp
      have hsum:sumTo gs.size (upd q i k)+(k+1)=sumTo gs.size q+k:=by
       have:=sumTo_upd q k id hlt
       simpa[hqi]using this
      have sc':Scene P S ((gs.map (woken P a g' (w.at d))).setIfInBounds i g') (w.at d) (t++MemOp.ofEvents i a.frame.fn a.frame.place es) (upd q i k) g h:=by
       refine⟨?_,⟨fun j x hj hx=>?_,fun j hj=>?_⟩,hP.mute om hm,hV⟩
       ·have hne:i≠0:=om
        rw[Array.getElem?_setIfInBounds_ne hne,Array.getElem?_map,h0]
        simp[woken_run hrun]
       ·by_cases hji:i=j
        ·subst hji
         rw[Array.getElem?_setIfInBounds_self_of_lt (by simpa using hlt)]at hx
         obtain rfl:=Option.some.inj hx
         rw[upd_same,Deaf_own]
         exact hq'
        ·rw[Array.getElem?_setIfInBounds_ne hji,Array.getElem?_map]at hx
         obtain⟨y,hy,rfl⟩:=Option.map_eq_some_iff.1 hx
         have hqj:=hL.old j y hj hy
         rw[woken_quitsD hqj,upd_ne q k (Ne.symm hji),Deaf_other t hji _ (fun op hop=>by obtain⟨e,_,rfl⟩:=Go.Conc.mem_ofEvents hop;rfl)]
         exact hqj
       ·rw[Deaf_other t (g':=i) (by simp at hj;omega) _ (fun op hop=>by obtain⟨e,_,rfl⟩:=Go.Conc.mem_ofEvents hop;rfl)]
        exact hL.above j (by simpa using hj)
      obtain⟨N,S2,gs2,w2,sl2,t2,q2,g2,h2,a2,b2,c2,d2,e2,f2⟩:=ih (sumTo gs.size (upd q i k)) om _ (w.at d) sl' _ (upd q i k) (by rw[hsz];exact Nat.le_refl _) sc'
      exact⟨N+1,S2,gs2,w2,sl2,t2,q2,g2,h2,by simp only[runNT,hst,hrunT];exact a2,b2,c2,(xyh w d).trans d2,fun z=>(e2 z).trans hsz,f2⟩
theorem xo9{g g':Goroutine}{w w':World}{es:Array Event}(hr:g.status=.running)(x:stepG P true g w=.go g' w' es):step P (solo g w)=.next (solo g' w'):=by
 rw[step,stepT_solo hr,runT_solo_go x]
theorem xcm(x:Own P true g h fun g' h'=>Reach P .lone g' h' Stop):Reach P .lone g h Stop:=by
 obtain⟨hr,ho⟩:=x
 rintro w rfl
 obtain⟨g',h',w',es,e,k,V,q,_⟩:=ho w.heap (.refl _) (.of fun _=>False) w (.refl _)
 obtain rfl:h'=w'.heap:=by
  apply Array.ext_getElem?
  exact fun i=>V.same i (fun z=>z) (fun z=>z)
 obtain⟨g2,w2,a2,b2,c2⟩:=k w' rfl
 exact⟨g2,w2,.head (xo9 hr e) a2,b2,q.calm.trans c2⟩
theorem xbj(x:Own P md.isMain g h fun g' h'=>Reach P md g' h' Stop):Reach P md g h Stop:=by
 cases md with
 |main sp=>exact xbm x
 |own m=>exact fun Z z1 z2=>z2 _ _ (x.mono fun g' h' r=>r Z z1 z2)
 |lone=>exact xcm x
end
end Go.X
namespace Go.X
open Go.Conc
def F(b:Frame)(tm:Array Value)(df:List Deferred)(k:List Item):Frame:={b with tmps:=tm,defers:=df,todo:=k,mode:=.run}
def FR(b:Frame)(tm:Array Value)(df:List Deferred)(k:List Item):Frame:={b with tmps:=tm,defers:=df,todo:=k,mode:=.returning}
def ev(tm:Array Value):Operand->Value
 |.tmp t=>tm.getD t undef
 |.const v=>v
 |.global g=>.pointer (some ⟨g,0,none⟩)
 |.func f=>.func (.func f) #[] #[]
def put(tm:Array Value)(dst:Option Tmp)(v:Value):Array Value:=
 match dst with
 |some d=>tm.setIfInBounds d v
 |none=>tm
class Stb(Φ:Heap->Prop):Prop where
 stb:∀h h',Φ h->Keep h h'->Φ h'
def RS(P:Program)(md:Md)(g:Goroutine)(Φ:Heap->Prop)(Stop:Goroutine->Heap->Prop):Prop:=∀h,Φ h->Reach P md g h Stop
instance{α:Type}{Φ:α->Heap->Prop}[s:∀x,Stb (Φ x)]:Stb (fun h=>∃x,Φ x h):=⟨fun h h'⟨x,y⟩k=>⟨x,(s x).stb h h' y k⟩⟩
instance{c:Prop}{Φ:Heap->Prop}[s:Stb Φ]:Stb (fun h=>c/\Φ h):=⟨fun h h'⟨x,y⟩k=>⟨x,s.stb h h' y k⟩⟩
theorem xl7{α:Type}{P:Program}{md:Md}{g:Goroutine}{Ψ:α->Heap->Prop}{Stop:Goroutine->Heap->Prop}(n:∀x,RS P md g (Ψ x) Stop):RS P md g (fun h=>∃x,Ψ x h) Stop:=fun h⟨x,y⟩=>n x h y
theorem yaf{c:Prop}{P:Program}{md:Md}{g:Goroutine}{Φ:Heap->Prop}{Stop:Goroutine->Heap->Prop}(n:c->RS P md g Φ Stop):RS P md g (fun h=>c/\Φ h) Stop:=fun h⟨x,y⟩=>n x h y
section
variable{P:Program}{md:Md}{b:Frame}{tm:Array Value}{df:List Deferred}{k:List Item}{cs:List Frame}{h:Heap}{Φ:Heap->Prop}{Stop:Goroutine->Heap->Prop}
theorem yyj:(F b tm df k).eval=ev tm:=by funext x;cases x<;>rfl
theorem xab{S:Vw}{fn:FuncId}{B:Nat}{es:Array Event}(x:∀e∈es,EvX S B e):∀e∈seen P fn es,EvX S B e:=by
 unfold seen
 refine Array.foldl_induction (motive:=fun _(s:Bool×Array Event)=>∀e∈s.2,EvX S B e) (by simp) ?_
 rintro i ⟨q,kept⟩ hs
 simp only at hs⊢
 split
 ·exact hs
 ·simp only
  split
  ·exact hs
  ·intro e he
   rcases Array.mem_push.1 he with he|rfl
   ·exact hs e he
   ·exact x _ (Array.getElem_mem _)
theorem xsc[hs:Stb Φ]{g g':Goroutine}(hr:g.status=.running)(he:∀w,stepG P md.isMain g w=.go g' w #[])(x:RS P md g' Φ Stop):RS P md g Φ Stop:=
 fun h y=>xbj ⟨hr,fun h₁ k₁ S w V=>⟨g',h₁,w,#[],he w,x h₁ (hs.stb _ _ y k₁),V,.refl _,by simp⟩⟩
section
variable[Stb Φ]
theorem yun{x y:Code}(r:RS P md (G (F b tm df (.code x::.code y::k)) cs) Φ Stop):RS P md (G (F b tm df (.code (.seq x y)::k)) cs) Φ Stop:=
 xsc rfl (fun w=>by simp[G,stepG,stepG.exec,F]) r
theorem yxg(r:RS P md (G (F b tm df k) cs) Φ Stop):RS P md (G (F b tm df (.code .skip::k)) cs) Φ Stop:=
 xsc rfl (fun w=>by simp[G,stepG,stepG.exec,F]) r
theorem xk7{id:Nat}(r:RS P md (G (F b tm df k) cs) Φ Stop):RS P md (G (F b tm df (.inBlock id::k)) cs) Φ Stop:=
 xsc rfl (fun w=>by simp[G,stepG,stepG.exec,F]) r
theorem ylw{id:Nat}{c:Code}(r:RS P md (G (F b tm df (.code c::.inBlock id::k)) cs) Φ Stop):RS P md (G (F b tm df (.code (.block id c)::k)) cs) Φ Stop:=
 xsc rfl (fun w=>by simp[G,stepG,stepG.exec,F]) r
theorem xx1{c:Code}(r:RS P md (G (F b tm df (.code c::.inLoop c::k)) cs) Φ Stop):RS P md (G (F b tm df (.code (.loop c)::k)) cs) Φ Stop:=
 xsc rfl (fun w=>by simp[G,stepG,stepG.exec,F]) r
theorem xtl{c:Code}(r:RS P md (G (F b tm df (.code c::.inLoop c::k)) cs) Φ Stop):RS P md (G (F b tm df (.inLoop c::k)) cs) Φ Stop:=
 xsc rfl (fun w=>by simp[G,stepG,stepG.exec,F]) r
theorem yyg{id:Nat}{k':List Item}(hk:exitTo id k=some k')(r:RS P md (G (F b tm df k') cs) Φ Stop):RS P md (G (F b tm df (.code (.exit id)::k)) cs) Φ Stop:=
 xsc rfl (fun w=>by simp[G,stepG,stepG.exec,F,hk]) r
theorem yah{c:Operand}{x y:Code}{t:Bool}(hc:ev tm c=.bool t)(r:RS P md (G (F b tm df (.code (if t then x else y)::k)) cs) Φ Stop):
 RS P md (G (F b tm df (.code (.cond c x y)::k)) cs) Φ Stop:=
 xsc rfl (fun w=>by
  have h':(F b tm df (.code (.cond c x y)::k)).eval c=.bool t:=by rw[yyj];exact hc
  simp only[F]at h'
  simp[G,stepG,stepG.exec,F,h']) r
theorem yaq{id:Nat}{ops:Array Oper}(r:RS P md (G (F b tm df (.inRegion ops (List.range ops.size)::k)) cs) Φ Stop):
 RS P md (G (F b tm df (.code (.region id ops false)::k)) cs) Φ Stop:=
 xsc rfl (fun w=>by simp[G,stepG,stepG.exec,F]) r
theorem xyd{ops:Array Oper}(r:RS P md (G (F b tm df k) cs) Φ Stop):RS P md (G (F b tm df (.inRegion ops []::k)) cs) Φ Stop:=
 xsc rfl (fun w=>by simp[G,stepG,stepG.exec,F]) r
theorem xb4{id:Nat}{ops:Array Oper}(r:∀t,RS P md (G (F b tm df (.inRegion ops (Region.schedule (P.follows .mixedOrders) ops t)::k)) cs) Φ Stop):
 RS P md (G (F b tm df (.code (.region id ops true)::k)) cs) Φ Stop:=
 fun h y=>xbj ⟨rfl,fun h₁ k₁ S w V=>⟨_,h₁,{w with drawn:=w.drawn+1},#[],by
  simp[G,stepG,stepG.exec,F,choose,Sem.run,Question.forced,Question.cut],r (w.tape w.drawn (.order b.fn id)) h₁ (Stb.stb _ _ y k₁),V,⟨⟨rfl,rfl,rfl,Nat.le_refl _⟩,fun _ _ _=>rfl⟩,by simp⟩⟩
theorem xhr{ops:Array Oper}{i:Nat}{rest:List Nat}{o:Oper}(ho:ops[i]?=some o)(hw:Region.wanted o (yielded ops tm)=false)
 (r:RS P md (G (F b (put tm o.dst undef) df (.inRegion ops rest::k)) cs) Φ Stop):RS P md (G (F b tm df (.inRegion ops (i::rest)::k)) cs) Φ Stop:=
 xsc rfl (fun w=>by
  simp only[G,stepG,stepG.exec,F,ho,Option.map_some,hw,Option.getD_some,Frame.finish,Option.bind_some,put]
  rfl) r
theorem xcx{ops:Array Oper}{i:Nat}{rest:List Nat}{o:Oper}(ho:ops[i]?=some o)(v:Value):
 (F b tm df (.inRegion ops (i::rest)::k)).finish v=F b (put tm o.dst v) df (.inRegion ops rest::k):=by
 simp only[Frame.finish,F,ho,Option.bind_some,put]
 cases o.dst<;>rfl
def Upon(P:Program)(md:Md)(fr:Frame)(cs:List Frame)(Stop:Goroutine->Heap->Prop):Next->Heap->Prop
 |.value v,h=>Reach P md (G (fr.finish v) cs) h Stop
 |.skip,h=>Reach P md (G (fr.finish undef) cs) h Stop
 |.enter f args,h=>Reach P md (G (Frame.enter P f args .normal) (fr::cs)) h Stop
 |.round l f tmps assign body,h=>Reach P md (G (Frame.round l f tmps assign body .normal) (fr::cs)) h Stop
 |_,_=>False
theorem xc4{fr:Frame}{s:Sem Next}(hk:fr.kind≠.early)(hnc:(match fr.todo with|.call _ true _ _::_=>false|_=>true)=true)
 (hs:∀w,stepG P md.isMain (G fr cs) w=stepG.apply P true fr cs none s w)(x:∀h,Φ h->wpS P s h (Upon P md fr cs Stop)):RS P md (G fr cs) Φ Stop:=by
 intro h y
 refine xbj ⟨rfl,fun h₁ k₁ S w V=>?_⟩
 obtain⟨n,h',w',es,e1,e2,e3,e4,e5,e6⟩:=xbd s #[] (x h₁ (Stb.stb _ _ y k₁)) V
 have hk':(fr.kind==CallKind.early)=false:=by simpa using hk
 rw[hs w]
 simp only[Array.empty_append]at e1
 cases n<;>first|exact e3.elim|skip
 all_goals
  refine⟨_,h',w',seen P fr.fn es,?_,e3,e4,e5,xab e6⟩
  simp only[stepG.apply,if_true,e1,hk',Bool.false_eq_true,if_false,GStep.after,G,Array.append_empty]
  try
   split
   ·rename_i he;rw[he]at hnc;simp at hnc
   ·rfl
theorem xir{ops:Array Oper}{i:Nat}{rest:List Nat}{o:Oper}(ho:ops[i]?=some o)(hw:Region.wanted o (yielded ops tm)=true)(hk:b.kind≠.early)
 (hnd:b.roundOf=none\/(match o.op with|.defer _=>false|_=>true)=true)
 (x:∀h,Φ h->wpS P (execOp (ev tm) o) h (Upon P md (F b tm df (.inRegion ops (i::rest)::k)) cs Stop)):
 RS P md (G (F b tm df (.inRegion ops (i::rest)::k)) cs) Φ Stop:=by
 refine xc4 hk rfl (fun w=>?_) x
 have he:Frame.eval (F b tm df (.inRegion ops (i::rest)::k))=ev tm:=yyj
 simp only[F]at he
 simp only[G,stepG,stepG.exec,F,ho,Option.map_some,hw,Option.getD_some,if_true,stepG.oper,Frame.oper?,he]
 rcases hnd with hn|hn
 ·rw[hn]
 ·cases hrn:b.roundOf with
  |none=>rfl
  |some l=>
    revert hn
    cases o.op<;>simp
theorem ytn{ops:Array Oper}{i:Nat}{rest:List Nat}{o:Oper}(ho:ops[i]?=some o)(hw:Region.wanted o (yielded ops tm)=true)(hk:b.kind≠.early)
 (hnd:(match o.op with|.defer _=>false|_=>true)=true)
 (x:∀h,Φ h->wpS P (execOp (ev tm) o) h fun n h'=>∃v,n=.value v/\Reach P md (G (F b (put tm o.dst v) df (.inRegion ops rest::k)) cs) h' Stop):
 RS P md (G (F b tm df (.inRegion ops (i::rest)::k)) cs) Φ Stop:=
 xir ho hw hk (.inr hnd) fun h y=>xfx (x h y) fun n h'⟨v,e,r⟩=>by subst e;show Reach P md (G ((F b tm df _).finish v) cs) h' Stop;rw[xcx ho];exact r
theorem ywg{ops:Array Oper}{i:Nat}{rest:List Nat}{o:Oper}(ho:ops[i]?=some o)(hw:Region.wanted o (yielded ops tm)=true)(hk:b.kind≠.early)
 (hnd:(match o.op with|.defer _=>false|_=>true)=true)
 (x:∀h,Φ h->wpS P (execOp (ev tm) o) h fun n h'=>n=.skip/\Reach P md (G (F b (put tm o.dst undef) df (.inRegion ops rest::k)) cs) h' Stop):
 RS P md (G (F b tm df (.inRegion ops (i::rest)::k)) cs) Φ Stop:=
 xir ho hw hk (.inr hnd) fun h y=>xfx (x h y) fun n h'⟨e,r⟩=>by subst e;show Reach P md (G ((F b tm df _).finish undef) cs) h' Stop;rw[xcx ho];exact r
def CallsX(P:Program)(md:Md)(f:FuncId)(args:Array Value)(h:Heap)(R:Value->Heap->Prop):Prop:=
 ∀(c:Frame)(cs:List Frame)(Stop:Goroutine->Heap->Prop),(∀v h',R v h'->Reach P md (G (c.finish v) cs) h' Stop)->
  Reach P md (G (Frame.enter P f args .normal) (c::cs)) h Stop
theorem CallsX.mono{f:FuncId}{args:Array Value}{R R':Value->Heap->Prop}(x:CallsX P md f args h R)(y:∀v h',R v h'->R' v h'):CallsX P md f args h R':=
 fun c cs Stop z=>x c cs Stop fun v h' r=>z v h' (y v h' r)
theorem ybq{ops:Array Oper}{i:Nat}{rest:List Nat}{o:Oper}{f:FuncId}{args:Array Value}{R:Value->Heap->Prop}
 (ho:ops[i]?=some o)(hw:Region.wanted o (yielded ops tm)=true)(hk:b.kind≠.early)
 (hnd:(match o.op with|.defer _=>false|_=>true)=true)
 (x:∀h,Φ h->wpS P (execOp (ev tm) o) h fun n h'=>n=.enter f args/\h'=h)(c:∀h,Φ h->CallsX P md f args h R)
 (r:∀v h',R v h'->Reach P md (G (F b (put tm o.dst v) df (.inRegion ops rest::k)) cs) h' Stop):
 RS P md (G (F b tm df (.inRegion ops (i::rest)::k)) cs) Φ Stop:=
 xir ho hw hk (.inr hnd) fun h y=>xfx (x h y) fun n h'⟨e,eh⟩=>by
  subst e;subst eh
  exact c _ y _ _ _ fun v h' q=>by rw[xcx ho];exact r v h' q
theorem xsl{c:Frame}{fn:Func}{td:List Item}(hf:P.funcs[b.fn]?=some fn)(hk:b.kind=.normal)
 (x:∀h,Φ h->wpS P (results fn tm) h fun v h'=>Reach P md (G (c.finish v) cs) h' Stop):RS P md (G (FR b tm [] td) (c::cs)) Φ Stop:=by
 intro h y
 refine xbj ⟨rfl,fun h₁ k₁ S w V=>?_⟩
 obtain⟨v,h',w',es,e1,e2,e3,e4,e5,e6⟩:=xbd (results fn tm) #[] (x h₁ (Stb.stb _ _ y k₁)) V
 refine⟨_,h',w',seen P b.fn es,?_,e3,e4,e5,xab e6⟩
 simp only[Array.empty_append]at e1
 simp only[G,stepG,unwind,FR,hf,e1,doReturn,hk,GStep.after,Array.append_empty]
theorem xdh{c:Frame}{td:List Item}{r:Nat}{ds:List Deferred}(hr:∀h,Φ h->h[r]?=some (.deferred (some [])))
 (x:∀h,Φ h->Reach P md (G (FR b tm ds td) (c::cs)) (h.setIfInBounds r (.deferred none)) Stop):RS P md (G (FR b tm ({target:=.collected r,args:=#[]}::ds) td) (c::cs)) Φ Stop:=by
 intro h y
 refine xbj ⟨rfl,fun h₁ k₁ S w V=>?_⟩
 have y₁:=Stb.stb _ _ y k₁
 have hr₁:=hr h₁ y₁
 have hx:wpS P (Instr.takeDeferred r) h₁ fun l h'=>l=[]/\h'=h₁.setIfInBounds r (.deferred none):=by
  unfold Instr.takeDeferred
  refine xbq ?_
  simp only[getObj,wpS,hr₁]
  refine⟨rfl,?_⟩
  refine xbq ?_
  simp only[setObj,wpS,hr₁]
  refine⟨rfl,rfl,?_⟩
  exact xcq ⟨rfl,rfl⟩
 obtain⟨v,h',w',es,e1,e2,⟨rfl,rfl⟩,e4,e5,e6⟩:=xbd _ #[] hx V
 refine⟨_,_,w',seen P b.fn es,?_,x h₁ y₁,e4,e5,xab e6⟩
 simp only[Array.empty_append]at e1
 simp only[G,stepG,unwind,FR,e1,GStep.after,Array.append_empty,List.nil_append]
theorem xz9{hro:b.roundOf=none}(x:∀td,RS P md (G (FR b tm df td) cs) Φ Stop):RS P md (G (F b tm df (.code .ret::k)) cs) Φ Stop:=
 xsc rfl (fun w=>by simp[G,stepG,stepG.exec,F,FR,hro]) (x (.code .ret::k))
theorem yzd{hro:b.roundOf=none}(x:∀td,RS P md (G (FR b tm df td) cs) Φ Stop):RS P md (G (F b tm df []) cs) Φ Stop:=
 xsc rfl (fun w=>by simp[G,stepG,stepG.exec,F,FR,hro]) (x [])
end
end
inductive Rd where
 |none
 |some (l:Nat)
 |dfd
def Rd.round:Rd->Option Nat
 |.some l=>Option.some l
 |_=>Option.none
def Rd.kind:Rd->CallKind
 |.dfd=>.deferred
 |_=>.normal
def B(f:FuncId)(r:Rd):Frame:={fn:=f,tmps:=#[],todo:=[],defers:=[],mode:=.run,kind:=r.kind,roundOf:=r.round}
theorem xpw{f:FuncId}{r:Rd}:(B f r).kind≠.early:=by cases r<;>simp[B,Rd.kind]
def FL(f:FuncId)(r:Rd)(tm:List Value)(df:List Deferred)(k:List Item):Frame:=F (B f r) tm.toArray df k
def evl(tm:List Value):Operand->Value
 |.tmp t=>tm.getD t undef
 |.const v=>v
 |.global g=>.pointer (some ⟨g,0,none⟩)
 |.func f=>.func (.func f) #[] #[]
def putl(tm:List Value)(dst:Option Tmp)(v:Value):List Value:=
 match dst with
 |some d=>tm.set d v
 |none=>tm
theorem xfz(tm:List Value):ev tm.toArray=evl tm:=by
 funext x
 cases x<;>simp[ev,evl,Array.getD_eq_getD_getElem?,List.getD_eq_getElem?_getD]
theorem xzq(tm:List Value)(dst:Option Tmp)(v:Value):put tm.toArray dst v=(putl tm dst v).toArray:=by
 cases dst<;>simp[put,putl]
def yieldl(ops:List Oper)(tm:List Value)(j:Nat):Option Bool:=
 match((ops[j]?).bind (·.dst)).bind (tm[·]?)with
 |some (.bool b)=>some b
 |_=>none
def Met(ops:List Oper)(tm:List Value)(o:Oper)(t:Bool):Prop:=
 match o.guard with
 |none=>t=true
 |some (j,want)=>(yieldl ops tm j==some want)=t
theorem xgl(ops:List Oper)(tm:List Value):yielded ops.toArray tm.toArray=yieldl ops tm:=by
 funext j;simp[yielded,yieldl];rfl
theorem xxq{ops:List Oper}{tm:List Value}{o:Oper}{t:Bool}(m:Met ops tm o t):Region.wanted o (yielded ops.toArray tm.toArray)=t:=by
 rw[xgl]
 unfold Met at m
 unfold Region.wanted
 split at m
 ·rename_i e;rw[e];exact m.symm
 ·rename_i e;rw[e];exact m
theorem xoq{ops:List Oper}{tm:List Value}{o:Oper}(h:o.guard=none):Met ops tm o true:=by unfold Met;rw[h]
def Ex(P:Program)(tm:List Value)(o:Oper)(h:Heap)(K:Value->Heap->Prop):Prop:=
 wpS P (execOp (evl tm) o) h fun n h'=>∃v,n=.value v/\K v h'
def Exd(P:Program)(tm:List Value)(o:Oper)(h:Heap)(v:Value):Prop:=Ex P tm o h fun v' h'=>v'=v/\h'=h
def noDefer:Op->Bool
 |.defer _=>false
 |_=>true
section
variable(P:Program)(md:Md)(f:FuncId)(r:Rd)(df:List Deferred)(k:List Item)(cs:List Frame)(Stop:Goroutine->Heap->Prop)
def RL(ops rest:List Oper)(tm:List Value)(Φ:Heap->Prop):Prop:=
 ∀pre,ops=pre++rest->RS P md (G (FL f r tm df (.inRegion ops.toArray (List.range' pre.length rest.length)::k)) cs) Φ Stop
end
section
variable{P:Program}{md:Md}{f:FuncId}{r:Rd}{df:List Deferred}{k:List Item}{cs:List Frame}{Stop:Goroutine->Heap->Prop}
 {ops rest:List Oper}{tm tm':List Value}{h:Heap}{Φ:Heap->Prop}{o:Oper}
theorem yrw[Stb Φ]{id:Nat}{l:List Oper}(x:RL P md f r df k cs Stop l l tm Φ):RS P md (G (FL f r tm df (.code (.region id l.toArray false)::k)) cs) Φ Stop:=by
 refine yaq ?_
 have:=x [] rfl
 simpa[FL,List.range_eq_range']using this
theorem ytp[Stb Φ](x:RS P md (G (FL f r tm df k) cs) Φ Stop):RL P md f r df k cs Stop ops [] tm Φ:=
 fun _ _=>xyd x
theorem xef{pre:List Oper}(e:ops=pre++o::rest):ops.toArray[pre.length]?=some o:=by subst e;simp
theorem xzv{pre:List Oper}:List.range' pre.length (o::rest).length=pre.length::List.range' (pre.length+1) rest.length:=by simp[List.range'_succ]
theorem xfj[Stb Φ]{K:Value->Heap->Prop}(hm:Met ops tm o true)(hd:noDefer o.op=true)(hx:∀h,Φ h->Ex P tm o h K)
 (n:∀v,RL P md f r df k cs Stop ops rest (putl tm o.dst v) (K v)):RL P md f r df k cs Stop ops (o::rest) tm Φ:=by
 intro pre e
 rw[xzv]
 refine ytn (xef e) (xxq hm) xpw (by revert hd;cases o.op<;>simp[noDefer]) fun h y=>?_
 rw[xfz]
 refine xfx (hx h y) fun n' h'⟨v,e',hK⟩=>⟨v,e',?_⟩
 have:=n v (pre++[o]) (by simp[e]) h' hK
 rw[xzq]
 simpa[FL]using this
theorem ymf[Stb Φ]{v:Value}(hm:Met ops tm o true)(hx:∀h,Φ h->Exd P tm o h v)(ht:putl tm o.dst v=tm')(n:RL P md f r df k cs Stop ops rest tm' Φ)(hd:noDefer o.op=true:=by rfl):
 RL P md f r df k cs Stop ops (o::rest) tm Φ:=
 xfj (K:=fun v' h'=>v'=v/\Φ h') hm hd (fun h y=>xfx (hx h y) fun _ _⟨v',e1,e2,e3⟩=>⟨v',e1,e2,by rw[e3];exact y⟩) fun v' pre e h⟨e1,y⟩=>by subst e1;rw[ht];exact n pre e h y
theorem ysh[Stb Φ]{K:Heap->Prop}(hm:Met ops tm o true)(hd:noDefer o.op=true)(hx:∀h,Φ h->wpS P (execOp (evl tm) o) h fun n h'=>n=.skip/\K h')
 (ht:putl tm o.dst undef=tm')(n:RL P md f r df k cs Stop ops rest tm' K):RL P md f r df k cs Stop ops (o::rest) tm Φ:=by
 intro pre e
 rw[xzv]
 refine ywg (xef e) (xxq hm) xpw (by revert hd;cases o.op<;>simp[noDefer]) fun h y=>?_
 rw[xfz]
 refine xfx (hx h y) fun n' h'⟨e',hK⟩=>⟨e',?_⟩
 have:=n (pre++[o]) (by simp[e]) h' hK
 rw[xzq,ht]
 simpa[FL]using this
theorem xid[Stb Φ](hm:Met ops tm o false)(ht:putl tm o.dst undef=tm')(n:RL P md f r df k cs Stop ops rest tm' Φ):RL P md f r df k cs Stop ops (o::rest) tm Φ:=by
 intro pre e
 rw[xzv]
 refine xhr (xef e) (xxq hm) ?_
 have:=n (pre++[o]) (by simp[e])
 rw[xzq,ht]
 simpa[FL]using this
theorem xwj{α:Type}{Ψ:α->Heap->Prop}(n:∀x,RL P md f r df k cs Stop ops rest tm (Ψ x)):RL P md f r df k cs Stop ops rest tm (fun h=>∃x,Ψ x h):=fun pre e h⟨x,y⟩=>n x pre e h y
theorem xgz{c:Prop}(n:c->RL P md f r df k cs Stop ops rest tm Φ):RL P md f r df k cs Stop ops rest tm (fun h=>c/\Φ h):=fun pre e h⟨x,y⟩=>n x pre e h y
theorem xc2{Ψ:Heap->Prop}(n:RL P md f r df k cs Stop ops rest tm Φ)(hi:∀h,Ψ h->Φ h):RL P md f r df k cs Stop ops rest tm Ψ:=fun pre e h y=>n pre e h (hi h y)
theorem xjg{g:Goroutine}{Ψ:Heap->Prop}(n:RS P md g Φ Stop)(hi:∀h,Ψ h->Φ h):RS P md g Ψ Stop:=fun h y=>n h (hi h y)
def callable(P:Program)(g:FuncId):Bool:=
 match P.funcs[g]? with
 | some fn => fn.name != "runtime.NumGoroutine" && fn.body.isSome
 |none=>false
theorem xnb{g:FuncId}{args:Array Value}{K:Next->Heap->Prop}(hc:callable P g=true)(x:K (.enter g args) h):wpS P (callFunc g args) h K:=by
 unfold callable at hc
 unfold callFunc
 refine xbq ?_
 show wpS P program h _
 simp only[program,wpS]
 split at hc
 ·rename_i fn hfn
  simp only[Bool.and_eq_true,bne_iff_ne,ne_eq]at hc
  rw[hfn]
  simp only
  rw[if_neg (by simpa using hc.1),if_neg (by have:=hc.2;cases hb:fn.body<;>simp_all)]
  exact xcq x
 ·cases hc
theorem xrv{args:List Operand}{ats:Array TypeId}{d:Option Tmp}{ty:TypeId}{pos:String}{aft:Array Edge}{gd:Option (Nat×Bool)}{x:Operand}{g:FuncId}{first cap vs:List Value}
 (hx:evl tm x=.func (.func g) first.toArray cap.toArray)(hvs:first++(args.map (evl tm)++cap)=vs)(hg:callable P g=true):
 wpS P (execOp (evl tm) ⟨d,.call ⟨.value x,args.toArray,ats⟩,ty,pos,aft,gd⟩) h fun n h'=>n=.enter g vs.toArray/\h'=h:=by
 simp only[execOp]
 refine xbq ?_
 unfold resolve
 simp only[hx,Deferred.ofValue]
 refine xcq ?_
 simp only[invoke]
 refine xnb hg ⟨?_,rfl⟩
 rw[<- hvs];simp
theorem xvw[Stb Φ]{args:List Operand}{ats:Array TypeId}{d:Option Tmp}{ty:TypeId}{pos:String}{aft:Array Edge}{gd:Option (Nat×Bool)}{x:Operand}{g:FuncId}{first cap vs:List Value}{R:Value->Heap->Prop}
 (hm:Met ops tm ⟨d,.call ⟨.value x,args.toArray,ats⟩,ty,pos,aft,gd⟩ true)(hx:evl tm x=.func (.func g) first.toArray cap.toArray)(hvs:first++(args.map (evl tm)++cap)=vs)(hg:callable P g=true)
 (hc:∀h,Φ h->CallsX P md g vs.toArray h R)(n:∀v,RL P md f r df k cs Stop ops rest (putl tm d v) (R v)):
 RL P md f r df k cs Stop ops (⟨d,.call ⟨.value x,args.toArray,ats⟩,ty,pos,aft,gd⟩::rest) tm Φ:=by
 intro pre e
 rw[xzv]
 refine ybq (xef e) (xxq hm) xpw rfl (fun h y=>by rw[xfz];exact xrv hx hvs hg) hc fun v h' hR=>?_
 have:=n v (pre++[⟨d,.call ⟨.value x,args.toArray,ats⟩,ty,pos,aft,gd⟩]) (by simp[e]) h' hR
 rw[xzq]
 simpa[FL]using this
theorem xl4[sb:Stb Φ]{args:List Operand}{ats:Array TypeId}{d:Option Tmp}{ty:TypeId}{pos:String}{aft:Array Edge}{gd:Option (Nat×Bool)}{x:Operand}{g:FuncId}{first cap vs:List Value}{v:Value}
 (hm:Met ops tm ⟨d,.call ⟨.value x,args.toArray,ats⟩,ty,pos,aft,gd⟩ true)(hx:evl tm x=.func (.func g) first.toArray cap.toArray)(hvs:first++(args.map (evl tm)++cap)=vs)(hg:callable P g=true)
 (hc:∀h,Φ h->CallsX P md g vs.toArray h fun v' h'=>v'=v/\Keep h h')(ht:putl tm d v=tm')(n:RL P md f r df k cs Stop ops rest tm' Φ):
 RL P md f r df k cs Stop ops (⟨d,.call ⟨.value x,args.toArray,ats⟩,ty,pos,aft,gd⟩::rest) tm Φ:=
 xvw (R:=fun v' h'=>v'=v/\Φ h') hm hx hvs hg (fun h y=>(hc h y).mono fun _ h'⟨e1,e2⟩=>⟨e1,sb.stb _ _ y e2⟩) fun v' pre e h⟨e1,y⟩=>by subst e1;rw[ht];exact n pre e h y
section
variable[Stb Φ]
theorem yur{x y:Code}(z:RS P md (G (FL f r tm df (.code x::.code y::k)) cs) Φ Stop):RS P md (G (FL f r tm df (.code (.seq x y)::k)) cs) Φ Stop:=yun z
theorem yml(z:RS P md (G (FL f r tm df k) cs) Φ Stop):RS P md (G (FL f r tm df (.code .skip::k)) cs) Φ Stop:=yxg z
theorem xh8{id:Nat}(z:RS P md (G (FL f r tm df k) cs) Φ Stop):RS P md (G (FL f r tm df (.inBlock id::k)) cs) Φ Stop:=xk7 z
theorem yec{id:Nat}{c:Code}(z:RS P md (G (FL f r tm df (.code c::.inBlock id::k)) cs) Φ Stop):RS P md (G (FL f r tm df (.code (.block id c)::k)) cs) Φ Stop:=ylw z
theorem ysl{id:Nat}{k':List Item}(hk:exitTo id k=some k')(z:RS P md (G (FL f r tm df k') cs) Φ Stop):RS P md (G (FL f r tm df (.code (.exit id)::k)) cs) Φ Stop:=yyg hk z
theorem yqt{c:Operand}{x y:Code}{t:Bool}(hc:evl tm c=.bool t)(h1:t=true->RS P md (G (FL f r tm df (.code x::k)) cs) Φ Stop)(h2:t=false->RS P md (G (FL f r tm df (.code y::k)) cs) Φ Stop):
 RS P md (G (FL f r tm df (.code (.cond c x y)::k)) cs) Φ Stop:=by
 refine yah (t:=t) (by rw[xfz];exact hc) ?_
 cases t
 ·exact h2 rfl
 ·exact h1 rfl
theorem yql{c:Code}{m₀:Nat}(I:Nat->List Value->Heap->Prop)[sI:∀m tm,Stb (I m tm)](start:∀h,Φ h->I m₀ tm h)
 (round:∀m tm,(∀m' tm',m'<m->RS P md (G (FL f r tm' df (.inLoop c::k)) cs) (I m' tm') Stop)->RS P md (G (FL f r tm df (.code c::.inLoop c::k)) cs) (I m tm) Stop):
 RS P md (G (FL f r tm df (.code (.loop c)::k)) cs) Φ Stop:=by
 refine xx1 ?_
 suffices H:∀m tm,RS P md (G (FL f r tm df (.code c::.inLoop c::k)) cs) (I m tm) Stop from fun h y=>H _ _ h (start h y)
 intro m
 induction m using Nat.strongRecOn with
 |_ m ih=>exact fun tm=>round m tm fun m' tm' hlt=>xtl (ih m' hlt tm')
end
theorem xqd{fn:Func}{c:Code}{args:Array Value}{tm:List Value}{R:Value->Heap->Prop}(hf:P.funcs[f]?=some fn)(hb:fn.body=some c)
 (ht:args.toList++List.replicate (fn.ntmps-args.size) undef=tm)
 (x:∀(c₀:Frame)(cs:List Frame)(Stop:Goroutine->Heap->Prop),(∀v h',R v h'->Reach P md (G (c₀.finish v) cs) h' Stop)->
  RS P md (G (FL f .none tm [] [.code c]) (c₀::cs)) Φ Stop)(h0:Φ h):CallsX P md f args h R:=by
 intro c₀ cs Stop K
 have:=x c₀ cs Stop K h h0
 have e:Frame.enter P f args .normal=FL f .none tm [] [.code c]:=by
  unfold Frame.enter
  simp only[hf,hb,Option.map_some,Option.bind_some,Option.getD_some,FL,F,B,<- ht]
  simp[Rd.kind,Rd.round]
 rw[e];exact this
def Res(P:Program)(h:Heap)(tm:List Value):List ResultVar->List Value->Prop
 |[],vs=>vs=[]
 |.tmp t::rs,vs=>∃v vs',vs=v::vs'/\tm.getD t undef=v/\Res P h tm rs vs'
 |.cell a t::rs,vs=>∃v vs',vs=v::vs'/\wpS P (do loadVar t (<- asAddr (tm.getD a undef))) h (fun v' h'=>v'=v/\h'=h)/\Res P h tm rs vs'
theorem xct{rs:List ResultVar}:∀{vs:List Value}{acc:Array Value}{K:Array Value->Heap->Prop},Res P h tm rs vs->K (acc++vs.toArray) h->
 wpS P (rs.foldlM (fun(bs:Array Value)a=>bs.push <$> (match a with
  |.tmp t=>pure (tm.toArray.getD t undef)
  |.cell a t=>do loadVar t (<- asAddr (tm.toArray.getD a undef)):Sem Value)) acc) h K:=by
 induction rs with
 |nil=>intro vs acc K e x;simp only[Res]at e;subst e;exact xcq (by simpa using x)
 |cons a rs ih=>
   intro vs acc K e x
   rw[List.foldlM_cons]
   have hget:∀t,tm.toArray.getD t undef=tm.getD t undef:=fun t=>by simp[Array.getD_eq_getD_getElem?,List.getD_eq_getElem?_getD]
   cases a with
   |tmp t=>
     obtain⟨v,vs',rfl,hv,hr⟩:=e
     refine xbq ?_
     show wpS P (Sem.bind _ _) h _
     refine xtd ?_
     refine xcq ?_
     refine xcq ?_
     refine ih hr ?_
     rw[hget,hv]
     simpa using x
   |cell a t=>
     obtain⟨v,vs',rfl,hv,hr⟩:=e
     refine xbq ?_
     show wpS P (Sem.bind _ _) h _
     refine xtd ?_
     have hv':wpS P (do loadVar t (<- asAddr (tm.toArray.getD a undef))) h (fun v' h'=>v'=v/\h'=h):=by rw[hget];exact hv
     refine xfx hv' fun v' h'⟨e1,e2⟩=>?_
     subst e1;subst e2
     refine xcq ?_
     refine ih hr ?_
     simpa using x
def packs:List Value->Value
 |[v]=>v
 |vs=>.tuple vs.toArray
theorem xcd{fn:Func}{rs:List ResultVar}{vs:List Value}{v:Value}{K:Value->Heap->Prop}(hr:fn.results=rs.toArray)(e:Res P h tm rs vs)(hv:packs vs=v)(x:K v h):
 wpS P (results fn tm.toArray) h K:=by
 unfold results
 refine xbq ?_
 rw[hr,Array.mapM_eq_foldlM,List.foldlM_toArray]
 refine xct e ?_
 refine xcq ?_
 subst hv
 simp only[Array.empty_append]
 match vs,x with
 |[],x=>exact x
 |[_],x=>exact x
 |_::_::_,x=>simpa[packs]using x
theorem yvf[Stb Φ]{c₀:Frame}{fn:Func}{rs:List ResultVar}{vs:List Value}{v:Value}(hf:P.funcs[f]?=some fn)(hr:fn.results=rs.toArray)(e:∀h,Φ h->Res P h tm rs vs)(hv:packs vs=v)
 (x:RS P md (G (c₀.finish v) cs) Φ Stop):RS P md (G (FL f .none tm [] (.code .ret::k)) (c₀::cs)) Φ Stop:=
 xz9 (hro:=rfl) fun _=>xsl hf rfl fun h y=>xcd hr (e h y) hv (x h y)
theorem yrl[Stb Φ]{c₀:Frame}{fn:Func}{rs:List ResultVar}{vs:List Value}{v:Value}(hf:P.funcs[f]?=some fn)(hr:fn.results=rs.toArray)(e:∀h,Φ h->Res P h tm rs vs)(hv:packs vs=v)
 (x:RS P md (G (c₀.finish v) cs) Φ Stop):RS P md (G (FL f .none tm [] []) (c₀::cs)) Φ Stop:=
 yzd (hro:=rfl) fun _=>xsl hf rfl fun h y=>xcd hr (e h y) hv (x h y)
end
abbrev PHeap:=Nat->Option Obj
def pcell(p:PHeap)(a:Addr):Option Value:=
 match p a.block with
 |some (.cells c _ _)=>if a.spot.isSome then none else c[a.off]?
 |_=>none
def PLe(p p':PHeap):Prop:=∀b o,p b=some o->p' b=some o
theorem PLe.refl(p:PHeap):PLe p p:=fun _ _ x=>x
theorem PLe.trans{p q r:PHeap}(x:PLe p q)(y:PLe q r):PLe p r:=fun b o z=>y b o (x b o z)
theorem PLe.cell{p p':PHeap}(x:PLe p p'){a:Addr}{v:Value}(y:pcell p a=some v):pcell p' a=some v:=by
 unfold pcell at y⊢
 split at y
 ·rename_i c t z hb;rw[x _ _ hb];exact y
 ·cases y
structure St(h₀:Heap)(B₀:List Nat)(p:PHeap)(h:Heap)(L:List (Nat×Obj)):Prop where
 keep:∀b,b<h₀.size->b∉B₀->h[b]?=h₀[b]?
 size:h₀.size<=h.size
 per:∀b o,p b=some o->h[b]?=some o
 own:∀x∈L,h[x.1]?=some x.2/\p x.1=none/\(h₀.size<=x.1\/x.1∈B₀)
 nod:(L.map (·.1)).Nodup
section
variable{h₀ h h':Heap}{B₀:List Nat}{p p':PHeap}{L:List (Nat×Obj)}
theorem xix{b:Nat}{o:Obj}(x:h[b]?=some o):b<h.size:=(Array.getElem?_eq_some_iff.1 x).1
theorem St.kept(s:St h₀ [] p h L):Keep h₀ h:=⟨s.size,fun b hb=>s.keep b hb (by simp)⟩
theorem St.start(h:Heap)(p:PHeap)(hp:∀b o,p b=some o->h[b]?=some o):St h [] p h []:=
 ⟨fun _ _ _=>rfl,Nat.le_refl _,hp,by simp,by simp⟩
theorem St.drop{x:Nat×Obj}(s:St h₀ B₀ p h (x::L)):St h₀ B₀ p h L:=
 ⟨s.keep,s.size,s.per,fun y hy=>s.own y (by simp[hy]),by have:=s.nod;simp at this;exact this.2⟩
theorem St.sub{L':List (Nat×Obj)}(s:St h₀ B₀ p h L)(hs:L'.Sublist L):St h₀ B₀ p h L':=
 ⟨s.keep,s.size,s.per,fun y hy=>s.own y (hs.subset hy),s.nod.sublist (hs.map _)⟩
theorem St.perm{L':List (Nat×Obj)}(s:St h₀ B₀ p h L)(hs:L.Perm L'):St h₀ B₀ p h L':=
 ⟨s.keep,s.size,s.per,fun y hy=>s.own y (hs.mem_iff.2 hy),(hs.map (·.1)).nodup_iff.1 s.nod⟩
theorem St.call(s:St h₀ B₀ p h L)(k:Keep h h'):St h₀ B₀ p h' L:=
 ⟨fun b hb hn=>(k.keep b (Nat.lt_of_lt_of_le hb s.size)).trans (s.keep b hb hn),Nat.le_trans s.size k.size,
  fun b o x=>(k.keep b (xix (s.per b o x))).trans (s.per b o x),
  fun x hx=>⟨(k.keep _ (xix (s.own x hx).1)).trans (s.own x hx).1,(s.own x hx).2⟩,s.nod⟩
instance:Stb (fun h=>St h₀ B₀ p h L):=⟨fun _ _ s k=>s.call k⟩
theorem St.push(s:St h₀ B₀ p h L)(o:Obj):St h₀ B₀ p (h.push o) ((h.size,o)::L):=by
 have k:Keep h (h.push o):=⟨by simp,fun b hb=>by rw[Array.getElem?_push,if_neg om]⟩
 have s':=s.call k
 refine⟨s'.keep,s'.size,s'.per,?_,?_⟩
 ·intro x hx
  rcases List.mem_cons.1 hx with rfl|hx
  ·refine⟨by simp,?_,.inl s.size⟩
   cases hp:p h.size with
   |none=>rfl
   |some y=>exact absurd (xix (s.per _ _ hp)) (by simp)
  ·exact s'.own x hx
 ·simp only[List.map_cons,List.nodup_cons]
  refine⟨?_,s.nod⟩
  intro hm
  obtain⟨x,hx,e⟩:=List.mem_map.1 hm
  have:=xix (s.own x hx).1
  omega
theorem mem_of_get?{α:Type}{l:List α}{i:Nat}{x:α}(h:l[i]?=some x):x∈l:=List.mem_of_getElem? h
theorem St.at(s:St h₀ B₀ p h L){i b:Nat}{o:Obj}(hL:L[i]?=some (b,o)):h[b]?=some o:=(s.own _ (mem_of_get? hL)).1
theorem ygz{l:List Nat}(hn:l.Nodup){i j x:Nat}(hi:l[i]?=some x)(hj:l[j]?=some x):i=j:=by
 obtain⟨hi',ei⟩:=List.getElem?_eq_some_iff.1 hi
 obtain⟨hj',ej⟩:=List.getElem?_eq_some_iff.1 hj
 have h:=List.pairwise_iff_getElem.1 hn
 rcases Nat.lt_trichotomy i j with hlt|rfl|hlt
 ·exact absurd (ei.trans ej.symm) (h i j hi' hj' hlt)
 ·rfl
 ·exact absurd (ej.trans ei.symm) (h j i hj' hi' hlt)
theorem St.turn(s:St h₀ B₀ p h L){i b:Nat}{o o':Obj}(hL:L[i]?=some (b,o))(hb:h'[b]?=some o')(hs:h'.size=h.size)
 (hne:∀c,c≠b->h'[c]?=h[c]?):St h₀ B₀ p h' (L.set i (b,o')):=by
 have ho:=s.own _ (mem_of_get? hL)
 have hp:∀c o,p c=some o->c≠b:=fun c o hc e=>by subst e;rw[ho.2.1]at hc;cases hc
 refine⟨fun c hc hn=>?_,by rw[hs];exact s.size,fun c o hc=>by rw[hne c (hp c o hc)];exact s.per c o hc,?_,?_⟩
 ·by_cases e:c=b
  ·subst e
   rcases ho.2.2 with x|x
   ·omega
   ·exact absurd x hn
  ·rw[hne c e];exact s.keep c hc hn
 ·intro x hx
  obtain⟨j,hj⟩:=List.getElem?_of_mem hx
  rw[List.getElem?_set]at hj
  split at hj
  ·split at hj
   ·cases hj;exact⟨hb,ho.2⟩
   ·cases hj
  ·rename_i hij
   have hx':=s.own x (mem_of_get? hj)
   have hxb:x.1≠b:=by
    intro e
    refine hij (ygz s.nod (i:=i) (j:=j) (x:=b) ?_ ?_)
    ·rw[List.getElem?_map,hL];rfl
    ·rw[List.getElem?_map,hj];simp[e]
   rw[hne _ hxb];exact hx'
 ·have:(L.set i (b,o')).map (·.1)=L.map (·.1):=by
   rw[List.map_set]
   refine List.ext_getElem? fun j=>?_
   rw[List.getElem?_set]
   split
   ·rename_i e;subst e
    simp only[List.length_map,List.getElem?_map,hL,Option.map_some]
    rw[if_pos (List.getElem?_eq_some_iff.1 hL).1]
   ·rfl
  rw[this];exact s.nod
theorem xw1{b off:Nat}{cs:Array Value}{T:TypeId}{z:Nat×Nat}{v:Value}(hb:h[b]?=some (.cells cs T z)):
 (setCell h ⟨b,off,none⟩ v)[b]?=some (.cells (cs.setIfInBounds off v) T z):=by
 unfold setCell
 rw[getElem?_modify',if_pos rfl,hb];rfl
theorem xj7{b off c:Nat}{v:Value}(hc:c≠b):(setCell h ⟨b,off,none⟩ v)[c]?=h[c]?:=by
 unfold setCell
 rw[getElem?_modify',if_neg (fun e=>hc e.symm)]
theorem xot{a:Addr}{v:Value}:(setCell h a v).size=h.size:=by simp[setCell]
theorem St.store(s:St h₀ B₀ p h L){i b off:Nat}{cs:Array Value}{T:TypeId}{z:Nat×Nat}{v:Value}(hL:L[i]?=some (b,.cells cs T z)):
 St h₀ B₀ p (setCell h ⟨b,off,none⟩ v) (L.set i (b,.cells (cs.setIfInBounds off v) T z)):=
 s.turn hL (xw1 (s.at hL)) xot fun _=>xj7
theorem St.grow(s:St h₀ B₀ p h L)(_hle:PLe p p')(hp:∀b o,p' b=some o->h[b]?=some o)(hn:∀x∈L,p' x.1=none):St h₀ B₀ p' h L:=
 ⟨s.keep,s.size,hp,fun x hx=>⟨(s.own x hx).1,hn x hx,(s.own x hx).2.2⟩,s.nod⟩
def padd(p:PHeap)(b:Nat)(o:Obj):PHeap:=fun c=>if c=b then some o else p c
theorem xvr{b:Nat}{o:Obj}(hb:p b=none):PLe p (padd p b o):=fun c x hc=>by
 unfold padd;rw[if_neg];exact hc
 intro e;subst e;rw[hb]at hc;cases hc
theorem xrk{b:Nat}{o:Obj}:padd p b o b=some o:=if_pos rfl
theorem St.last{b:Nat}{o:Obj}(s:St h₀ B₀ p h ((b,o)::L)):PLe p (padd p b o)/\St h₀ B₀ (padd p b o) h L:=by
 have ho:=s.own (b,o) (by simp)
 refine⟨xvr ho.2.1,s.drop.grow (xvr ho.2.1) ?_ ?_⟩
 ·intro c x hc
  unfold padd at hc
  split at hc
  ·rename_i e;subst e;cases hc;exact ho.1
  ·exact s.per c x hc
 ·intro x hx
  unfold padd
  have hn:=s.nod
  simp only[List.map_cons,List.nodup_cons]at hn
  rw[if_neg (fun e=>hn.1 (List.mem_map.2 ⟨x,hx,e⟩))]
  exact(s.own x (by simp[hx])).2.1
theorem St.cell(s:St h₀ B₀ p h L){a:Addr}{v:Value}(x:pcell p a=some v):cell? h a=some v:=by
 unfold pcell at x
 unfold cell?
 split at x
 ·rename_i c t z hb;rw[s.per _ _ hb];exact x
 ·cases x
theorem St.ocell(s:St h₀ B₀ p h L){i b off:Nat}{cs:Array Value}{T:TypeId}{z:Nat×Nat}{v:Value}(hL:L[i]?=some (b,.cells cs T z))(hv:cs[off]?=some v):
 cell? h ⟨b,off,none⟩=some v:=by
 unfold cell?;rw[s.at hL];exact hv
end
def aggT(P:Program)(t:TypeId):Option Bool:=(P.underlying t).map fun|.struct _=>true|.array _ _=>true|_=>false
def sizeT(P:Program)(t:TypeId):Option Nat:=(P.info? t).map (·.size)
def bytesT(P:Program)(t:TypeId):Option Nat:=(P.info? t).map (·.bytes)
def zeroT(P:Program)(t:TypeId):Option Value:=(P.info? t).bind (·.zero)
def placesT(P:Program)(t:TypeId):Option (List (Nat×Nat)):=
 match P.underlying t with
 |some (.struct fs)=>fs.toList.mapM fun f=>(sizeT P f.type).map fun n=>(f.offset,n)
 |_=>none
section
variable{P:Program}{h:Heap}
theorem xeq{t:TypeId}{d:TypeDesc}{K:TypeDesc->Heap->Prop}(ht:P.underlying t=some d)(x:K d h):wpS P (underlying t) h K:=by
 unfold underlying
 refine xbq ?_
 simp only[program,wpS,ht]
 exact xcq x
theorem xkx{t:TypeId}{i:TypeInfo}{K:TypeInfo->Heap->Prop}(ht:P.info? t=some i)(x:K i h):wpS P (typeInfo t) h K:=by
 unfold typeInfo
 refine xbq ?_
 simp only[program,wpS,ht]
 exact xcq x
theorem xwq{t:TypeId}{n:Nat}{K:Nat->Heap->Prop}(ht:sizeT P t=some n)(x:K n h):wpS P (sizeOf t) h K:=by
 unfold sizeT at ht
 cases hi:P.info? t with
 |none=>rw[hi]at ht;cases ht
 |some i=>
   rw[hi]at ht;cases ht
   unfold sizeOf
   refine xbq (xkx hi ?_)
   exact xcq x
theorem xaz{t:TypeId}{v:Value}{K:Value->Heap->Prop}(ht:zeroT P t=some v)(x:K v h):wpS P (zeroValue t) h K:=by
 unfold zeroT at ht
 cases hi:P.info? t with
 |none=>rw[hi]at ht;cases ht
 |some i=>
   rw[hi]at ht
   unfold zeroValue
   refine xbq (xkx hi ?_)
   simp only[Option.bind_some]at ht
   simp only[ht]
   exact xcq x
theorem xkb{t:TypeId}{b:Bool}{K:Bool->Heap->Prop}(ht:aggT P t=some b)(x:K b h):wpS P (isAgg t) h K:=by
 unfold aggT at ht
 cases hu:P.underlying t with
 |none=>rw[hu]at ht;cases ht
 |some d=>
   rw[hu]at ht
   unfold isAgg
   refine xbq (xeq hu ?_)
   cases d<;>simp at ht<;>subst ht<;>exact xcq x
theorem xdw{a:Addr}:∀{n i:Nat}{vs:List Value}{acc:Array Value}{K:Array Value->Heap->Prop},vs.length=n->
 (∀j v,vs[j]?=some v->cell? h (a.add (i+j))=some v)->K (acc++vs.toArray) h->wpS P (loadCellsFrom a i n acc) h K
 |0,i,vs,acc,K,hn,_,x=>by
   obtain rfl:=List.eq_nil_of_length_eq_zero hn
   exact xcq (by simpa using x)
 |n+1,i,vs,acc,K,hn,hc,x=>by
   match vs,hn with
   |v::vs,hn=>
     unfold loadCellsFrom
     refine xbq ?_
     refine⟨rfl,v,by simpa using hc 0 v rfl,?_⟩
     refine xdw (vs:=vs) (by simpa using hn) (fun j u hj=>?_) (by simpa using x)
     have:=hc (j+1) u (by simpa using hj)
     rwa[show i+1+j=i+(j+1) from by omega]
theorem xqz{a:Addr}{n:Nat}{vs:List Value}{K:Array Value->Heap->Prop}(hn:vs.length=n)(hc:∀j v,vs[j]?=some v->cell? h (a.add j)=some v)(x:K vs.toArray h):
 wpS P (loadCells a n) h K:=xdw hn (by simpa using hc) (by simpa using x)
theorem xbh{t:TypeId}{a:Addr}{v:Value}{K:Value->Heap->Prop}(ht:aggT P t=some false)(hc:cell? h a=some v)(x:K v h):wpS P (loadVar t a) h K:=by
 unfold loadVar
 refine xbq (xkb ht ?_)
 exact⟨rfl,v,hc,x⟩
theorem xah{t:TypeId}{a:Addr}{n:Nat}{vs:List Value}{K:Value->Heap->Prop}(ht:aggT P t=some true)(hs:sizeT P t=some n)(hn:vs.length=n)
 (hc:∀j v,vs[j]?=some v->cell? h (a.add j)=some v)(x:K (.agg vs.toArray) h):wpS P (loadVar t a) h K:=by
 unfold loadVar
 refine xbq (xkb ht ?_)
 simp only[if_true]
 refine xbq (xwq hs ?_)
 refine xbq (xqz hn hc ?_)
 exact xcq x
theorem xrx(b off n:Nat):(⟨b,off,none⟩:Addr).add n=⟨b,off+n,none⟩:=by unfold Addr.add;split<;>simp_all
end
end Go.X
namespace Go.X
open Go.Conc
open Go.RowKit (wrap64)
section
variable{P:Program}{tm:List Value}{h:Heap}{d:Option Tmp}{ty:TypeId}{pos:String}{aft:Array Edge}{gd:Option (Nat×Bool)}
theorem yjt{x:Bool}(h:x=false):(!x)=true:=by rw[h];rfl
theorem wrZ{n:Int}(h: -9223372036854775808<=n/\n<=9223372036854775807):IntKind.i64.wrap n=n:=IntWalk.i64_in n h
theorem xuz{o:Oper}{v:Value}{s:Sem Value}(e:execOp (evl tm) o=(do pure (.value (<- s))))(x:wpS P s h fun v' h'=>v'=v/\h'=h):Exd P tm o h v:=by
 unfold Exd Ex
 rw[e]
 refine xbq (xfx x fun v' h'⟨e1,e2⟩=>?_)
 exact xcq ⟨v',rfl,e1,e2⟩
theorem yoc{x:Operand}{v:Value}(hx:evl tm x=v):Exd P tm ⟨d,.move x,ty,pos,aft,gd⟩ h v:=by
 unfold Exd Ex;simp only[execOp];exact xcq ⟨_,rfl,hx,rfl⟩
theorem xq8{x:Operand}{v:Value}(hx:evl tm x=v):Exd P tm ⟨d,.assign x,ty,pos,aft,gd⟩ h v:=by
 unfold Exd Ex;simp only[execOp];exact xcq ⟨_,rfl,hx,rfl⟩
theorem xb6{c a b:Operand}{t:Bool}{v:Value}(hc:evl tm c=.bool t)(hv:(if t then evl tm a else evl tm b)=v):Exd P tm ⟨d,.pick c a b,ty,pos,aft,gd⟩ h v:=by
 unfold Exd Ex
 simp only[execOp,hc]
 refine xbq ?_
 refine xcq ?_
 refine xcq ⟨_,rfl,?_,rfl⟩
 rw[<- hv]
theorem xlp{c a b:Operand}{t:Bool}{v:Value}(hc:evl tm c=.bool t)(ht:t=true)(ha:evl tm a=v):Exd P tm ⟨d,.pick c a b,ty,pos,aft,gd⟩ h v:=xb6 hc (by rw[ht];exact ha)
theorem xmp{c a b:Operand}{t:Bool}{v:Value}(hc:evl tm c=.bool t)(ht:t=false)(hb:evl tm b=v):Exd P tm ⟨d,.pick c a b,ty,pos,aft,gd⟩ h v:=xb6 hc (by rw[ht];exact hb)
theorem xux{op:BinOp}{T T':TypeId}{x y:Operand}{v a b:Value}(hx:evl tm x=a)(hy:evl tm y=b)(hg:∀K:Unit->Heap->Prop,K () h->wpS P (eqGuard op T x y a b) h K)
 (hv:wpS P (binOp op T a b) h fun v' h'=>v'=v/\h'=h):Exd P tm ⟨d,.binOp op T x y T',ty,pos,aft,gd⟩ h v:=by
 refine xuz (s:=do eqGuard op T x y a b;binOp op T a b) (by simp only[execOp,hx,hy]) ?_
 refine xbq (hg _ ?_)
 exact hv
theorem xex{op:BinOp}{T:TypeId}{x y:Operand}{a b:Value}(ho:(match op with|.eql=>false|.neq=>false|_=>true)=true){K:Unit->Heap->Prop}(k:K () h):wpS P (eqGuard op T x y a b) h K:=by
 unfold eqGuard
 cases op<;>first|exact absurd ho (by decide)|(rw[if_pos (by rfl)];exact xcq k)
theorem xvj{op:BinOp}{T:TypeId}{x y:Operand}{k k':IntKind}{a b:Int}{K:Unit->Heap->Prop}(z:K () h):wpS P (eqGuard op T x y (.int k a) (.int k' b)) h K:=by
 unfold eqGuard
 cases op<;>first|(rw[if_pos (by rfl)];exact xcq z)|(rw[if_neg (by decide)];exact xcq z)
theorem ibeq(a b:Int):(a==b)=decide (a=b):=by rw[Bool.eq_iff_iff];simp
theorem yxj{k:IntKind}{T T':TypeId}{x y:Operand}{a b n:Int}(hx:evl tm x=.int k a)(hy:evl tm y=.int k b)(hn:k.wrap (a+b)=n):Exd P tm ⟨d,.binOp .add T x y T',ty,pos,aft,gd⟩ h (.int k n):=
 xux hx hy (fun K z=>xex rfl z) (by simp only[binOp,ne_eq,not_true_eq_false,if_false,Op.intArith,hn];exact xcq ⟨rfl,rfl⟩)
theorem yoj{k:IntKind}{T T':TypeId}{x y:Operand}{a b n:Int}(hx:evl tm x=.int k a)(hy:evl tm y=.int k b)(hn:k.wrap (a-b)=n):Exd P tm ⟨d,.binOp .sub T x y T',ty,pos,aft,gd⟩ h (.int k n):=
 xux hx hy (fun K z=>xex rfl z) (by simp only[binOp,ne_eq,not_true_eq_false,if_false,Op.intArith,hn];exact xcq ⟨rfl,rfl⟩)
theorem ypj{k:IntKind}{T T':TypeId}{x y:Operand}{a b n:Int}(hx:evl tm x=.int k a)(hy:evl tm y=.int k b)(hn:k.wrap (a*b)=n):Exd P tm ⟨d,.binOp .mul T x y T',ty,pos,aft,gd⟩ h (.int k n):=
 xux hx hy (fun K z=>xex rfl z) (by simp only[binOp,ne_eq,not_true_eq_false,if_false,Op.intArith,hn];exact xcq ⟨rfl,rfl⟩)
theorem yem{k:IntKind}{T T':TypeId}{x y:Operand}{a b:Int}(hx:evl tm x=.int k a)(hy:evl tm y=.int k b):Exd P tm ⟨d,.binOp .lss T x y T',ty,pos,aft,gd⟩ h (.bool (decide (a<b))):=
 xux hx hy (fun K z=>xex rfl z) (by simp only[binOp,ne_eq,not_true_eq_false,if_false,Op.intCmp];exact xcq ⟨rfl,rfl⟩)
theorem yfm{k:IntKind}{T T':TypeId}{x y:Operand}{a b:Int}(hx:evl tm x=.int k a)(hy:evl tm y=.int k b):Exd P tm ⟨d,.binOp .leq T x y T',ty,pos,aft,gd⟩ h (.bool (decide (a<=b))):=
 xux hx hy (fun K z=>xex rfl z) (by simp only[binOp,ne_eq,not_true_eq_false,if_false,Op.intCmp];exact xcq ⟨rfl,rfl⟩)
theorem ygm{k:IntKind}{T T':TypeId}{x y:Operand}{a b:Int}(hx:evl tm x=.int k a)(hy:evl tm y=.int k b):Exd P tm ⟨d,.binOp .gtr T x y T',ty,pos,aft,gd⟩ h (.bool (decide (b<a))):=
 xux hx hy (fun K z=>xex rfl z) (by simp only[binOp,ne_eq,not_true_eq_false,if_false,Op.intCmp];exact xcq ⟨rfl,rfl⟩)
theorem yhm{k:IntKind}{T T':TypeId}{x y:Operand}{a b:Int}(hx:evl tm x=.int k a)(hy:evl tm y=.int k b):Exd P tm ⟨d,.binOp .geq T x y T',ty,pos,aft,gd⟩ h (.bool (decide (b<=a))):=
 xux hx hy (fun K z=>xex rfl z) (by simp only[binOp,ne_eq,not_true_eq_false,if_false,Op.intCmp];exact xcq ⟨rfl,rfl⟩)
theorem yim{k:IntKind}{T T':TypeId}{x y:Operand}{a b:Int}(hx:evl tm x=.int k a)(hy:evl tm y=.int k b):Exd P tm ⟨d,.binOp .eql T x y T',ty,pos,aft,gd⟩ h (.bool (decide (a=b))):=
 xux hx hy (fun K z=>xvj z) (by simp only[binOp,ne_eq,not_true_eq_false,if_false,Op.intCmp];exact xcq ⟨by rw[ibeq],rfl⟩)
theorem yam{k:IntKind}{T T':TypeId}{x y:Operand}{a b:Int}(hx:evl tm x=.int k a)(hy:evl tm y=.int k b):Exd P tm ⟨d,.binOp .neq T x y T',ty,pos,aft,gd⟩ h (.bool (decide (a≠b))):=
 xux hx hy (fun K z=>xvj z) (by simp only[binOp,ne_eq,not_true_eq_false,if_false,Op.intCmp];exact xcq ⟨by simp[bne,ibeq],rfl⟩)
theorem yzl{T:TypeId}{x:Operand}{b:Bool}(hx:evl tm x=.bool b):Exd P tm ⟨d,.unOp .not T x,ty,pos,aft,gd⟩ h (.bool (!b)):=
 xuz (s:=pure (.bool (!b))) (by simp only[execOp,hx,Op.unary]) (xcq ⟨rfl,rfl⟩)
theorem xs2{k:IntKind}{T:TypeId}{x:Operand}{a n:Int}(hx:evl tm x=.int k a)(hn:k.wrap (0-a)=n):Exd P tm ⟨d,.unOp .neg T x,ty,pos,aft,gd⟩ h (.int k n):=
 xuz (s:=pure (.int k n)) (by simp only[execOp,hx,Op.unary,Op.intArith,hn]) (xcq ⟨rfl,rfl⟩)
theorem xaj{b:Builtin}{args:Array Operand}{ats:Array TypeId}{v:Value}{s:Sem Value}
 (e:∀cs,builtin b ats ty cs (args.map (evl tm))=(do pure (.value (<- s))))(x:wpS P s h fun v' h'=>v'=v/\h'=h):
 Exd P tm ⟨d,.call {callee:=.builtin b,args:=args,argTypes:=ats},ty,pos,aft,gd⟩ h v:=by
 unfold Exd Ex
 simp only[execOp,resolve]
 refine xbq (xcq ?_)
 simp only[invoke]
 rw[e]
 refine xbq (xfx x fun v' h'⟨e1,e2⟩=>?_)
 exact xcq ⟨v',rfl,e1,e2⟩
theorem xt2{t e:TypeId}{x:Operand}{a:Option Addr}{n c:Nat}(ht:P.underlying t=some (.slice e))(hx:evl tm x=.slice a n c):
 Exd P tm ⟨d,.call {callee:=.builtin .len,args:=#[x],argTypes:=#[t]},ty,pos,aft,gd⟩ h (.int .i64 n):=by
 refine xaj (s:=Builtin.len_ #[t] ty #[.slice a n c]) (fun cs=>by simp only[builtin,List.map_toArray,List.map_cons,List.map_nil,hx]) ?_
 simp only[Builtin.len_]
 refine xbq (xeq ht ?_)
 exact xcq ⟨rfl,rfl⟩
theorem yrc{t:TypeId}{x:Operand}{s:ByteArray}(ht:P.underlying t=some .string)(hx:evl tm x=.string s):
 Exd P tm ⟨d,.call {callee:=.builtin .len,args:=#[x],argTypes:=#[t]},ty,pos,aft,gd⟩ h (.int .i64 s.size):=by
 refine xaj (s:=Builtin.len_ #[t] ty #[.string s]) (fun cs=>by simp only[builtin,List.map_toArray,List.map_cons,List.map_nil,hx]) ?_
 simp only[Builtin.len_]
 refine xbq (xeq ht ?_)
 exact xcq ⟨rfl,rfl⟩
theorem yqj{ats:Array TypeId}{k k':IntKind}{x y:Operand}{a b:Int}(hx:evl tm x=.int k a)(hy:evl tm y=.int k' b):
 Exd P tm ⟨d,.call {callee:=.builtin .min,args:=#[x,y],argTypes:=ats},ty,pos,aft,gd⟩ h (.int k (min a b)):=by
 refine xaj (s:=pure (.int k (min a b))) (fun cs=>?_) (xcq ⟨rfl,rfl⟩)
 have e:(if b<a then b else a)=min a b:=by rw[Int.min_def];split<;>split<;>omega
 simp[builtin,hx,hy,Builtin.min_,Builtin.min2,e]
theorem ydm{ats:Array TypeId}{k k':IntKind}{x y:Operand}{a b:Int}(hx:evl tm x=.int k a)(hy:evl tm y=.int k' b):
 Exd P tm ⟨d,.call {callee:=.builtin .max,args:=#[x,y],argTypes:=ats},ty,pos,aft,gd⟩ h (.int k (max a b)):=by
 refine xaj (s:=pure (.int k (max a b))) (fun cs=>?_) (xcq ⟨rfl,rfl⟩)
 have e:(if b>a then b else a)=max a b:=by rw[Int.max_def];split<;>split<;>omega
 simp[builtin,hx,hy,Builtin.max_,Builtin.max2,e]
theorem xv2{x:Operand}{i:Nat}{vs:Array Value}{v:Value}(hx:evl tm x=.tuple vs)(hv:vs[i]?=some v):Exd P tm ⟨d,.extract x i,ty,pos,aft,gd⟩ h v:=
 xuz (s:=pure v) (by simp only[execOp,hx,Instr.extract,hv]) (xcq ⟨rfl,rfl⟩)
theorem xnh{fn:Fn}{first cap:List Operand}{a b:List Value}(ha:first.map (evl tm)=a)(hb:cap.map (evl tm)=b):Exd P tm ⟨d,.makeFunc fn first.toArray cap.toArray,ty,pos,aft,gd⟩ h (.func fn a.toArray b.toArray):=
 xuz (s:=pure (.func fn a.toArray b.toArray)) (by simp only[execOp,Instr.makeFunc,<- ha,<- hb,List.map_toArray]) (xcq ⟨rfl,rfl⟩)
theorem xph{fs:List Field}:∀{pl:List (Nat×Nat)}{acc:Array (Nat×Nat)}{K:Array (Nat×Nat)->Heap->Prop},
 (fs.mapM fun f=>(sizeT P f.type).map fun n=>(f.offset,n))=some pl->K (acc++pl.toArray) h->
 wpS P (fs.foldlM (fun(bs:Array (Nat×Nat))f=>bs.push <$> (do pure (f.offset,<- sizeOf f.type):Sem (Nat×Nat))) acc) h K:=by
 induction fs with
 |nil=>intro pl acc K e x;simp at e;subst e;exact xcq (by simpa using x)
 |cons f fs ih=>
   intro pl acc K e x
   simp only[List.mapM_cons,Option.bind_eq_bind]at e
   cases hs:sizeT P f.type with
   |none=>rw[hs]at e;cases e
   |some n=>
     rw[hs]at e
     simp only[Option.map_some,Option.bind_some]at e
     cases hr:(fs.mapM fun f=>(sizeT P f.type).map fun n=>(f.offset,n))with
     |none=>rw[hr]at e;cases e
     |some pl'=>
       rw[hr]at e
       simp at e
       subst e
       rw[List.foldlM_cons]
       refine xbq ?_
       show wpS P (Sem.bind _ _) h _
       refine xtd ?_
       refine xbq (xwq hs ?_)
       refine xcq ?_
       refine xcq ?_
       exact ih hr (by simpa using x)
theorem xwf{t:TypeId}{parts:List (Nat×Operand)}{z:Value}{pl:List (Nat×Nat)}{cells:Array Value}{vs:List (Nat×Value)}(hz:zeroT P t=some z)(hp:placesT P t=some pl)
 (hvs:(parts.map fun(i,x)=>(i,evl tm x))=vs)(hf:Instr.fill (fun i=>pl[i]?) z.cells vs=some cells):Exd P tm ⟨d,.build t parts.toArray,ty,pos,aft,gd⟩ h (.agg cells):=by
 unfold placesT at hp
 split at hp
 ·rename_i fs hu
  refine xuz (s:=Instr.build t (parts.toArray.map fun(i,x)=>(i,evl tm x))) rfl ?_
  unfold Instr.build
  refine xbq (xaz hz ?_)
  refine xbq (xeq hu ?_)
  refine xbq ?_
  rw[Array.mapM_eq_foldlM,<- Array.foldlM_toList]
  refine xph hp ?_
  simp only[Array.empty_append,List.map_toArray,hvs,List.getElem?_toArray,hf]
  exact xcq ⟨rfl,rfl⟩
 ·cases hp
theorem ytj{t ft:TypeId}{x:Operand}{i:Nat}{cs:Array Value}{off:Nat}{v:Value}{fs:Array Field}{fd:Field}(hu:P.underlying t=some (.struct fs))(hi:fs[i]?=some fd)(hft:fd.type=ft)(hof:fd.offset=off)
 (ha:aggT P ft=some false)(hx:evl tm x=.agg cs)(hv:cs[off]?=some v):Exd P tm ⟨d,.field t x i,ty,pos,aft,gd⟩ h v:=by
 refine xuz (s:=Instr.field t (.agg cs) i) (by simp only[execOp,hx]) ?_
 unfold Instr.field
 refine xbq (xeq hu ?_)
 simp only[hi,asAgg,part,hft,hof]
 refine xbq (xcq ?_)
 refine xbq (xkb ha ?_)
 simp only[Bool.false_eq_true,if_false,hv]
 exact xcq ⟨rfl,rfl⟩
def fieldT(P:Program)(s:TypeId)(i:Nat):Option (Nat×Nat):=
 match P.underlying s with
 |some (.struct fs)=>(fs[i]?).bind fun f=>(sizeT P f.type).map fun n=>(f.offset,n)
 |_=>none
theorem xxk{s:TypeId}{x:Operand}{i o n:Nat}{a a':Addr}(hf:fieldT P s i=some (o,n+1))(hx:evl tm x=.pointer (some a))(ha:a.add o=a'):
 Exd P tm ⟨d,.fieldAddr s x i,ty,pos,aft,gd⟩ h (.pointer (some a')):=by
 unfold fieldT at hf
 split at hf
 ·rename_i fs hu
  cases hi:fs[i]? with
  |none=>rw[hi]at hf;cases hf
  |some fd=>
    rw[hi]at hf
    cases hs:sizeT P fd.type with
    |none=>simp[hs]at hf
    |some m=>
      simp[hs]at hf
      obtain⟨h1,rfl⟩:=hf
      refine xuz (s:=Instr.fieldAt s (.pointer (some a)) i) (by simp only[execOp,hx]) ?_
      unfold Instr.fieldAt
      refine xbq (xeq hu ?_)
      simp only[hi,Instr.sureAddr]
      refine xbq (xcq ?_)
      refine xbq ?_
      unfold fieldPlace
      refine xbq (xwq hs ?_)
      rw[if_neg om]
      refine xcq ?_
      refine xcq ⟨?_,rfl⟩
      rw[h1,ha]
 ·cases hf
theorem xzj{t e:TypeId}{x y:Operand}{w n c:Nat}{k:IntKind}{i:Int}{a a':Addr}(ht:P.underlying t=some (.slice e))(hs:sizeT P e=some w)(hx:evl tm x=.slice (some a) n c)(hy:evl tm y=.int k i)
 (h0:0<=i)(h1:i<n)(ha:a.add (i.toNat*w)=a'):Exd P tm ⟨d,.indexAddr t x y,ty,pos,aft,gd⟩ h (.pointer (some a')):=by
 refine xuz (s:=Instr.indexAt t (.slice (some a) n c) (.int k i)) (by simp only[execOp,hx,hy]) ?_
 unfold Instr.indexAt
 refine xbq (xcq ?_)
 simp only
 refine xbq (xeq ht ?_)
 simp only
 refine xbq (xcq ?_)
 simp only
 refine xbq (xeq ht ?_)
 rw[if_pos ⟨h0,h1⟩]
 refine xbq (xwq hs ?_)
 exact xcq ⟨by rw[ha],rfl⟩
theorem xlk{t e:TypeId}{x y:Operand}{w n c i:Nat}{k:IntKind}{a:Addr}(ht:P.underlying t=some (.slice e))(hs:sizeT P e=some w)(hx:evl tm x=.slice (some a) n c)(hy:evl tm y=.int k (i:Nat))
 (h1:i<n):Exd P tm ⟨d,.indexAddr t x y,ty,pos,aft,gd⟩ h (.pointer (some (a.add (i*w)))):=
 xzj ht hs hx hy om om (by rw[Int.toNat_natCast])
theorem xvf{t:TypeId}{x:Operand}{a:Addr}{v:Value}(ht:aggT P t=some false)(hx:evl tm x=.pointer (some a))(hc:cell? h a=some v):Exd P tm ⟨d,.load t x,ty,pos,aft,gd⟩ h v:=by
 refine xuz (s:=Instr.loadAt t (.pointer (some a))) (by simp only[execOp,hx]) ?_
 unfold Instr.loadAt
 refine xbq (xcq ?_)
 exact xbh ht hc ⟨rfl,rfl⟩
theorem xuf{t:TypeId}{x:Operand}{a:Addr}{n:Nat}{vs:List Value}(ht:aggT P t=some true)(hs:sizeT P t=some n)(hn:vs.length=n)(hx:evl tm x=.pointer (some a))
 (hc:∀j v,vs[j]?=some v->cell? h (a.add j)=some v):Exd P tm ⟨d,.load t x,ty,pos,aft,gd⟩ h (.agg vs.toArray):=by
 refine xuz (s:=Instr.loadAt t (.pointer (some a))) (by simp only[execOp,hx]) ?_
 unfold Instr.loadAt
 refine xbq (xcq ?_)
 exact xah ht hs hn hc ⟨rfl,rfl⟩
section
variable{h₀:Heap}{B₀:List Nat}{p:PHeap}{L:List (Nat×Obj)}
theorem xzb{t:TypeId}{x:Operand}{i b off:Nat}{cs:Array Value}{T:TypeId}{z:Nat×Nat}{v:Value}(s:St h₀ B₀ p h L)(ht:aggT P t=some false)(hx:evl tm x=.pointer (some ⟨b,off,none⟩))
 (hL:L[i]?=some (b,.cells cs T z))(hv:cs[off]?=some v):Exd P tm ⟨d,.load t x,ty,pos,aft,gd⟩ h v:=
 xvf ht hx (s.ocell hL hv)
theorem xzw{t:TypeId}{x:Operand}{i b off n:Nat}{cs:Array Value}{T:TypeId}{z:Nat×Nat}{vs:List Value}(s:St h₀ B₀ p h L)(ht:aggT P t=some true)(hs:sizeT P t=some n)(hx:evl tm x=.pointer (some ⟨b,off,none⟩))
 (hL:L[i]?=some (b,.cells cs T z))(hv:(cs.toList.drop off).take n=vs)(hn:vs.length=n):Exd P tm ⟨d,.load t x,ty,pos,aft,gd⟩ h (.agg vs.toArray):=
 xuf ht hs hn hx fun j v hj=>by
  rw[xrx]
  refine s.ocell hL ?_
  subst hv
  rw[List.getElem?_take]at hj
  split at hj
  ·rw[List.getElem?_drop]at hj;simpa using hj
  ·cases hj
theorem xyb{t:TypeId}{x:Operand}{a:Addr}{v:Value}(s:St h₀ B₀ p h L)(ht:aggT P t=some false)(hx:evl tm x=.pointer (some a))(hv:pcell p a=some v):Exd P tm ⟨d,.load t x,ty,pos,aft,gd⟩ h v:=
 xvf ht hx (s.cell hv)
theorem xyw{t:TypeId}{x:Operand}{a:Addr}{n:Nat}{vs:List Value}(s:St h₀ B₀ p h L)(ht:aggT P t=some true)(hs:sizeT P t=some n)(hx:evl tm x=.pointer (some a))
 (hn:vs.length=n)(hv:∀j v,vs[j]?=some v->pcell p (a.add j)=some v):Exd P tm ⟨d,.load t x,ty,pos,aft,gd⟩ h (.agg vs.toArray):=
 xuf ht hs hn hx fun j v hj=>s.cell (hv j v hj)
variable{md:Md}{f:FuncId}{r:Rd}{df:List Deferred}{k:List Item}{cs:List Frame}{Stop:Goroutine->Heap->Prop}{ops rest:List Oper}{tm':List Value}
theorem xpz{T:TypeId}{cells:Array Value}{K:Addr->Heap->Prop}(x:K ⟨h.size,0,none⟩ (h.push (.cells cells T))):wpS P (newRow T cells) h K:=by
 unfold newRow
 refine xbq ?_
 exact xcq (P:=P) x
theorem yup{dd:Nat}{T:TypeId}{x:Operand}{v:Value}(hm:Met ops tm ⟨some dd,.box T x,ty,pos,aft,gd⟩ true)(hx:evl tm x=v)
 (n:∀b,RL P md f r df k cs Stop ops rest (tm.set dd (.pointer (some ⟨b,0,none⟩))) (fun h=>St h₀ B₀ p h ((b,.cells v.cells T (0,0))::L))):
 RL P md f r df k cs Stop ops (⟨some dd,.box T x,ty,pos,aft,gd⟩::rest) tm (fun h=>St h₀ B₀ p h L):=by
 refine xfj (K:=fun v' h'=>∃b,v'=.pointer (some ⟨b,0,none⟩)/\St h₀ B₀ p h' ((b,.cells v.cells T (0,0))::L)) hm rfl (fun h s=>?_) fun v'=>xwj fun b=>xgz fun e=>by subst e;exact n b
 unfold Ex
 simp only[execOp,hx]
 refine xbq ?_
 unfold Instr.box newVar
 refine xbq (xpz ?_)
 refine xcq ?_
 exact xcq ⟨_,rfl,_,rfl,s.push _⟩
theorem yvw{dd:Nat}{T:TypeId}{z:Value}{cells:Array Value}(hm:Met ops tm ⟨some dd,.alloc T,ty,pos,aft,gd⟩ true)(hz:zeroT P T=some z)(hc:z.cells=cells)
 (n:∀b,RL P md f r df k cs Stop ops rest (tm.set dd (.pointer (some ⟨b,0,none⟩))) (fun h=>St h₀ B₀ p h ((b,.cells cells T (0,0))::L))):
 RL P md f r df k cs Stop ops (⟨some dd,.alloc T,ty,pos,aft,gd⟩::rest) tm (fun h=>St h₀ B₀ p h L):=by
 refine xfj (K:=fun v' h'=>∃b,v'=.pointer (some ⟨b,0,none⟩)/\St h₀ B₀ p h' ((b,.cells cells T (0,0))::L)) hm rfl (fun h s=>?_) fun v'=>xwj fun b=>xgz fun e=>by subst e;exact n b
 unfold Ex
 simp only[execOp]
 refine xbq ?_
 unfold Instr.alloc
 refine xbq (xaz hz ?_)
 simp only
 unfold newVar
 rw[hc]
 refine xbq (xpz ?_)
 refine xcq ?_
 exact xcq ⟨_,rfl,_,rfl,s.push _⟩
theorem xsh(cs:Array Value)(i:Nat)(v:Value):cs.setIfInBounds i v=(cs.toList.set i v).toArray:=by
 apply Array.ext';simp
def setl(cs:List Value)(off:Nat):List Value->List Value
 |[]=>cs
 |v::vs=>setl (cs.set off v) (off+1) vs
theorem xmz{b:Nat}{T:TypeId}{i:Nat}:∀{vs:List Value}{off j:Nat}{h:Heap}{cs:List Value}{L:List (Nat×Obj)}{K:Unit->Heap->Prop},St h₀ B₀ p h L->L[i]?=some (b,.cells cs.toArray T (0,0))->
 off+j+vs.length<=cs.length->(∀v∈vs,isOne v=true)->
 (∀h',St h₀ B₀ p h' (L.set i (b,.cells (setl cs (off+j) vs).toArray T (0,0)))->K () h')->wpS P (storeCells ⟨b,off,none⟩ vs j) h K
 |[],off,j,h,cs,L,K,s,hL,_,_,n=>by
   refine xcq (n h ?_)
   have:L.set i (b,.cells (setl cs (off+j) []).toArray T (0,0))=L:=by
    refine List.ext_getElem? fun m=>?_
    rw[List.getElem?_set]
    split
    ·rename_i e;subst e;rw[if_pos (List.getElem?_eq_some_iff.1 hL).1,hL];rfl
    ·rfl
   rw[this];exact s
 |v::vs,off,j,h,cs,L,K,s,hL,hlen,h1,n=>by
   unfold storeCells
   refine xbq ?_
   rw[xrx]
   have hi:i<L.length:=(List.getElem?_eq_some_iff.1 hL).1
   simp only[List.length_cons]at hlen
   refine⟨rfl,h1 v (by simp),⟨cs[off+j],s.ocell hL (by simp)⟩,?_,?_⟩
   ·unfold frozenAt;rw[s.at hL];simp
   ·show wpS P (storeCells _ vs (j+1)) _ K
    have s':=s.store (off:=off+j) (v:=v) hL
    rw[xsh]at s'
    refine xmz (i:=i) (T:=T) s' (cs:=cs.set (off+j) v) (by rw[List.getElem?_set_self hi]) (by simp;omega) (fun u hu=>h1 u (by simp[hu])) fun h' s''=>n h' ?_
    rw[List.set_set]at s''
    exact s''
theorem xk4{T T':TypeId}{x y:Operand}{i b off:Nat}{cs' cs2:List Value}{v:Value}{nsz:Nat}(hm:Met ops tm ⟨none,.store T x y,ty,pos,aft,gd⟩ true)(hs:sizeT P T=some nsz)
 (hx:evl tm x=.pointer (some ⟨b,off,none⟩))(hy:evl tm y=v)(hL:L[i]?=some (b,.cells cs'.toArray T' (0,0)))(hv:v.cells.size=nsz)(h1:v.cells.toList.all isOne=true)(hlen:off+v.cells.size<=cs'.length)(h2:setl cs' off v.cells.toList=cs2)
 (n:RL P md f r df k cs Stop ops rest tm (fun h=>St h₀ B₀ p h (L.set i (b,.cells cs2.toArray T' (0,0))))):
 RL P md f r df k cs Stop ops (⟨none,.store T x y,ty,pos,aft,gd⟩::rest) tm (fun h=>St h₀ B₀ p h L):=by
 refine ysh (K:=fun h'=>St h₀ B₀ p h' (L.set i (b,.cells cs2.toArray T' (0,0)))) hm rfl (fun h s=>?_) rfl n
 simp only[execOp,hx,hy]
 refine xbq ?_
 unfold Instr.storeAt
 refine xbq (xcq ?_)
 unfold storeVar
 refine xbq (xwq hs ?_)
 rw[if_neg (by simpa using hv)]
 refine xmz s hL (by simpa using hlen) (fun u hu=>List.all_eq_true.1 h1 u hu) fun h' s'=>?_
 refine xcq ⟨rfl,?_⟩
 rw[Nat.add_zero,h2]at s'
 exact s'
end
end
end Go.X
namespace Go.X
open Go.Conc
def adr(a:Option Addr):Addr:=a.getD ⟨0,0,none⟩
theorem xu1(a:Option Addr)(n c:Nat)(h:a=some (adr a)):Value.slice a n c=.slice (some (adr a)) n c:=by rw[<- h]
def Per(p:PHeap)(h:Heap):Prop:=∀b o,p b=some o->h[b]?=some o
structure Sl(p:PHeap)(a:Option Addr)(n:Nat)(w:Nat)(es:List (List Value)):Prop where
 len:es.length=n
 wid:∀e∈es,e.length=w
 ne:0<n->a=some (adr a)
 get:∀i e,es[i]?=some e-> ∀j x,e[j]?=some x->pcell p ((((adr a).add (i*w))).add j)=some x
theorem Sl.mono{p p':PHeap}{a:Option Addr}{n w:Nat}{es:List (List Value)}(hp:PLe p p')(s:Sl p a n w es):Sl p' a n w es:=
 ⟨s.len,s.wid,s.ne,fun i e hi j x hj=>hp.cell (s.get i e hi j x hj)⟩
theorem Sl.nil(p:PHeap)(w:Nat)(a:Option Addr):Sl p a 0 w []:=⟨rfl,by simp,fun h=>absurd h om,by simp⟩
theorem xg3(a:Addr)(m n:Nat):(a.add m).add n=a.add (m+n):=by
 unfold Addr.add
 by_cases hm:m=0
 ·subst hm;simp
 ·by_cases hn:n=0
  ·subst hn;simp
  ·rw[if_neg hm,if_neg hn,if_neg om]
   simp[Nat.add_assoc]
theorem Sl.cut{p:PHeap}{a:Option Addr}{n w:Nat}{es:List (List Value)}(s:Sl p a n w es){lo hi:Nat}(h1:lo<=hi)(h2:hi<=n){a':Option Addr}(ha:lo<hi->a'=some ((adr a).add (lo*w))):
 Sl p a' (hi-lo) w ((es.drop lo).take (hi-lo)):=by
 refine⟨by rw[List.length_take,List.length_drop,s.len];omega,fun e he=>s.wid e (List.mem_of_mem_drop (List.mem_of_mem_take he)),fun h=>by rw[ha om];rfl,?_⟩
 intro i e hi' j x hj
 rw[List.getElem?_take]at hi'
 split at hi'
 ·rename_i hlt
  rw[List.getElem?_drop]at hi'
  have:=s.get _ e hi' j x hj
  rw[ha om]
  show pcell p ((((adr a).add (lo*w)).add (i*w)).add j)=_
  rw[xg3 (adr a),<- Nat.add_mul]
  exact this
 ·cases hi'
def Ints(p:PHeap)(a:Option Addr)(n:Nat)(xs:List Int):Prop:=Sl p a n 1 (xs.map fun x=>[.int .i64 x])
theorem Ints.len{p:PHeap}{a:Option Addr}{n:Nat}{xs:List Int}(s:Ints p a n xs):xs.length=n:=by have:=Sl.len s;simpa using this
theorem Ints.mono{p p':PHeap}{a:Option Addr}{n:Nat}{xs:List Int}(hp:PLe p p')(s:Ints p a n xs):Ints p' a n xs:=Sl.mono hp s
theorem Ints.ne{p:PHeap}{a:Option Addr}{n:Nat}{xs:List Int}(s:Ints p a n xs)(hk:0<n):a=some (adr a):=Sl.ne s hk
theorem Ints.get{p:PHeap}{a:Option Addr}{n k:Nat}{xs:List Int}(s:Ints p a n xs)(hk:k<n):pcell p ((adr a).add (k*1))=some (.int .i64 (xs.getD k 0)):=by
 have hl:=s.len
 have:=Sl.get s k [.int .i64 (xs.getD k 0)] (by rw[List.getElem?_map,List.getD_eq_getElem?_getD,List.getElem?_eq_getElem om];rfl) 0 _ rfl
 exact this
def OwnS(T:TypeId)(w:Nat)(v:Value)(es:List (List Value))(X:List (Nat×Obj)):Prop:=
 (∀e∈es,e.length=w)/\
 ((v=.slice none 0 0/\es=[]/\X=[])\/
  ∃b cs cap rest,v=.slice (some ⟨b,0,none⟩) es.length cap/\X=[(b,.cells (List.toArray cs) T (0,0))]/\cs=es.flatten++rest/\cs.length=cap*w/\(w=1->cap<=9223372036854775807))
theorem OwnS.empty(T:TypeId)(w:Nat):OwnS T w (.slice none 0 0) [] []:=⟨by simp,.inl ⟨rfl,rfl,rfl⟩⟩
theorem xmq{es:List (List Value)}{w:Nat}(h:∀e∈es,e.length=w):es.flatten.length=es.length*w:=by
 induction es with
 |nil=>simp
 |cons e es ih=>simp only[List.flatten_cons,List.length_append,List.length_cons,ih fun x hx=>h x (by simp[hx]),h e (by simp),Nat.add_mul,Nat.one_mul];omega
theorem xzz{w:Nat}:∀{es:List (List Value)},(∀e∈es,e.length=w)-> ∀{i:Nat}{e:List Value},es[i]?=some e-> ∀{j:Nat}{x:Value},e[j]?=some x->es.flatten[i*w+j]?=some x
 |[],_,i,e,hi,_,_,_=>by simp at hi
 |e₀::es,h,i,e,hi,j,x,hj=>by
   have h0:=h e₀ (by simp)
   cases i with
   |zero=>
     simp at hi;subst hi
     rw[List.flatten_cons,Nat.zero_mul,Nat.zero_add,List.getElem?_append_left (List.getElem?_eq_some_iff.1 hj).1]
     exact hj
   |succ i=>
     simp at hi
     have:=xzz (fun x hx=>h x (by simp[hx])) hi hj
     rw[List.flatten_cons,List.getElem?_append_right (by rw[h0,Nat.succ_mul];omega),h0,Nat.succ_mul]
     rw[show i*w+w+j-w=i*w+j from by omega]
     exact this
theorem OwnS.last{h₀ h:Heap}{B₀:List Nat}{p:PHeap}{L X:List (Nat×Obj)}{T:TypeId}{w:Nat}{v:Value}{es:List (List Value)}(o:OwnS T w v es X)(s:St h₀ B₀ p h (X++L)):
 ∃p' a cap,PLe p p'/\St h₀ B₀ p' h L/\v=.slice a es.length cap/\Sl p' a es.length w es/\(∀b,p b=none->b<h₀.size->b∉B₀->p' b=none):=by
 obtain⟨hw,⟨rfl,rfl,rfl⟩|⟨b,cs,cap,rest,rfl,rfl,hcs,hlen,_⟩⟩:=o
 ·exact⟨p,none,0,.refl _,s,rfl,.nil _ _ _,fun b hb _ _=>hb⟩
 ·have hb:=s.own (b,.cells cs.toArray T (0,0)) (by simp)
  obtain⟨hle,s'⟩:=s.last
  refine⟨_,some ⟨b,0,none⟩,cap,hle,s',rfl,⟨rfl,hw,fun _=>rfl,?_⟩,?_⟩
  ·intro i e hi j x hj
   show pcell _ (((⟨b,0,none⟩:Addr).add (i*w)).add j)=_
   rw[xrx,xrx]
   unfold pcell
   simp only[xrk,Option.isSome_none,Bool.false_eq_true,if_false,List.getElem?_toArray,Nat.zero_add]
   rw[hcs,List.getElem?_append_left]
   ·exact xzz hw hi hj
   ·exact(List.getElem?_eq_some_iff.1 (xzz hw hi hj)).1
  ·intro c hc hlt hn
   unfold padd
   rw[if_neg]
   ·exact hc
   ·intro e;subst e
    rcases hb.2.2 with x|x
    ·exact absurd hlt om
    ·exact hn x
section
variable{P:Program}{h₀ h:Heap}{B₀:List Nat}{p:PHeap}{A X C:List (Nat×Obj)}
theorem xn2{need cap by':Nat}(hc:cap<need)(hn:need*by'<=2^40)(hb:by'<=2^20):Builtin.nextslicecap need cap*by'<=2^48:=by
 have g:∀r c,c<=need->Builtin.growBy need r c<=2*need+192*1+192:=by
  intro r
  induction r with
  |zero=>intro c hc;simp only[Builtin.growBy];omega
  |succ r ih=>
    intro c hc
    simp only[Builtin.growBy]
    split
    ·omega
    ·rename_i hlt
     by_cases h2:c+(c+768) / 4<=need
     ·exact ih _ h2
     ·cases r with
      |zero=>simp only[Builtin.growBy];omega
      |succ r=>simp only[Builtin.growBy];rw[if_pos om];omega
 have h1:Builtin.nextslicecap need cap<=2*need+384:=by
  unfold Builtin.nextslicecap
  split
  ·omega
  ·split
   ·omega
   ·have:=g 4 cap om;omega
 calc Builtin.nextslicecap need cap*by'<=(2*need+384)*by':=Nat.mul_le_mul_right _ h1
  _=2*(need*by')+384*by':=by rw[Nat.add_mul,Nat.mul_assoc]
  _<=2^48:=om
theorem xmj(z:Array Value)(n:Nat):(Builtin.zeroCells z n).toList.length=n*z.size:=by simp[Builtin.zeroCells]
theorem xiv:∀{vs:List Value}{a r:List Value},vs.length<=r.length->setl (a++r) a.length vs=a++(vs++r.drop vs.length)
 |[],a,r,_=>by simp[setl]
 |v::vs,a,r,hl=>by
   match r,hl with
   |x::r,hl=>
     simp only[setl]
     rw[List.set_append_right _ _ (Nat.le_refl _),Nat.sub_self,List.set_cons_zero]
     have:=xiv (vs:=vs) (a:=a++[v]) (r:=r) (by simpa using hl)
     simp only[List.length_append,List.length_singleton,List.append_assoc,List.singleton_append]at this
     rw[this];simp
theorem xil{sT xT eT ty:TypeId}{D:TypeDesc}{w m by':Nat}{v x z:Value}{es news:List (List Value)}{K:Value->Heap->Prop}(hT:P.underlying sT=some (.slice eT))(hs:sizeT P eT=some w)(hz:zeroT P eT=some z)(hzs:z.cells.size=w)
 (hby:bytesT P eT=some by')(hx:P.underlying xT=some D)(hD:∀k,D≠.int k)(o:OwnS eT w v es X)(s:St h₀ B₀ p h (A++(X++C)))
 (hlen:∀K:Nat->Heap->Prop,K m h->wpS P (Builtin.lenOf x) h K)(hsrc:∀K:Array Value->Heap->Prop,K news.flatten.toArray h->wpS P (Builtin.firstCells w m x) h K)
 (hm:news.length=m)(hw:∀e∈news,e.length=w)(h1:∀u∈news.flatten,isOne u=true)(room:(es.length+m)*by'<=2^40)(hb2:0<by'/\by'<=2^20)
 (n:∀v' X' h',OwnS eT w v' (es++news) X'->St h₀ B₀ p h' (A++(X'++C))->K v' h'):wpS P (Builtin.append_ #[sT,xT] ty #[v,x]) h K:=by
 have hinfo:∃i,P.info? eT=some i/\i.bytes=by':=by
  unfold bytesT at hby
  cases hi:P.info? eT with
  |none=>rw[hi]at hby;cases hby
  |some i=>rw[hi]at hby;exact⟨i,rfl,by simpa using hby⟩
 obtain⟨i,hi,hib⟩:=hinfo
 have hnf:=xmq hw
 have hwe:=o.1
 have hfl:es.flatten.length=es.length*w:=xmq hwe
 have hwall:∀e∈es++news,e.length=w:=fun e he=>(List.mem_append.1 he).elim (o.1 e) (hw e)
 have hneed:es.length+m<=2^40:=Nat.le_trans (Nat.le_mul_of_pos_right _ hb2.1) room
 have base:∃base cap,v=.slice base es.length cap/\(∀K:Array Value->Heap->Prop,K es.flatten.toArray h->wpS P (Builtin.firstCells w es.length v) h K)/\
  ((base=none/\es=[]/\X=[]/\cap=0)\/ ∃b cs rest,base=some ⟨b,0,none⟩/\X=[(b,.cells (List.toArray cs) eT (0,0))]/\cs=es.flatten++rest/\cs.length=cap*w/\(w=1->cap<=9223372036854775807)):=by
  obtain⟨_,⟨rfl,rfl,rfl⟩|⟨b,cs,cap,rest,rfl,rfl,hcs,hcl,hcc⟩⟩:=o
  ·exact⟨none,0,rfl,fun K hK=>xcq hK,.inl ⟨rfl,rfl,rfl,rfl⟩⟩
  ·refine⟨_,cap,rfl,fun K hK=>?_,.inr ⟨b,cs,rest,rfl,rfl,hcs,hcl,hcc⟩⟩
   have hL:(A++([(b,Obj.cells (List.toArray cs) eT (0,0))]++C))[A.length]?=some (b,.cells (List.toArray cs) eT (0,0)):=by
    rw[List.getElem?_append_right (Nat.le_refl _)];simp
   show wpS P (loadCells ⟨b,0,none⟩ (es.length*w)) h K
   refine xqz hfl (fun j u hj=>?_) hK
   rw[xrx]
   refine s.ocell hL ?_
   rw[List.getElem?_toArray,hcs,Nat.zero_add,List.getElem?_append_left (List.getElem?_eq_some_iff.1 hj).1]
   exact hj
 obtain⟨base,cap,rfl,hold,hbase⟩:=base
 unfold Builtin.append_
 simp only[List.getElem?_toArray,List.getElem?_cons_zero,List.getElem?_cons_succ]
 refine xbq (xeq hT ?_)
 simp only
 refine xbq (xwq hs ?_)
 refine xbq (xeq hx ?_)
 refine xbq (xfx (K:=fun zr h'=>zr=false/\h'=h) (xcq ⟨by cases D<;>first|rfl|exact absurd rfl (hD _),rfl⟩) fun zr h'⟨ez,eh⟩=>?_)
 subst ez
 have eh:=eh.symm
 subst eh
 simp only[Bool.false_eq_true,if_false,Bool.not_false,if_true]
 refine xbq (hlen _ ?_)
 by_cases hc:es.length+m<=cap
 ·rw[if_pos hc]
  refine xbq (hsrc _ ?_)
  rcases hbase with⟨rfl,rfl,rfl,rfl⟩|⟨b,cs,rest,rfl,rfl,hcs,hcl,hcc⟩
  ·have hm0:m=0:=by simp at hc;exact hc
   have:news=[]:=List.eq_nil_of_length_eq_zero om
   subst this
   subst hm0
   exact xcq (n _ [] h (OwnS.empty _ _) s)
  ·have hL:(A++([(b,Obj.cells (List.toArray cs) eT (0,0))]++C))[A.length]?=some (b,.cells (List.toArray cs) eT (0,0)):=by
    rw[List.getElem?_append_right (Nat.le_refl _)];simp
   refine xbq ?_
   rw[xrx]
   have hmul:(es.length+m)*w<=cap*w:=Nat.mul_le_mul_right _ hc
   rw[Nat.add_mul]at hmul
   have hrl:rest.length=cap*w-es.length*w:=by
    have:cs.length=es.flatten.length+rest.length:=by rw[hcs];simp
    omega
   refine xmz (i:=A.length) s hL (by simp only[Nat.zero_add,Nat.add_zero,hnf,hm,hcl];omega) h1 fun h' s'=>?_
   refine xcq (n _ [(b,.cells (List.toArray (setl cs (0+es.length*w+0) news.flatten)) eT (0,0))] h' ⟨hwall,.inr ⟨b,_,cap,rest.drop news.flatten.length,?_,rfl,?_,?_,hcc⟩⟩ ?_)
   ·simp[hm]
   ·rw[Nat.zero_add,Nat.add_zero,hcs,<- hfl,xiv (by rw[hnf,hm];omega)]
    simp
   ·rw[Nat.zero_add,Nat.add_zero,hcs,<- hfl,xiv (by rw[hnf,hm];omega)]
    simp only[List.length_append,List.length_drop,hfl,hnf,hm,hrl]
    omega
   ·have e2:(A++([(b,Obj.cells (List.toArray cs) eT (0,0))]++C)).set A.length (b,.cells (List.toArray (setl cs (0+es.length*w+0) news.flatten)) eT (0,0))=A++([(b,.cells (List.toArray (setl cs (0+es.length*w+0) news.flatten)) eT (0,0))]++C):=by
     rw[List.set_append_right _ _ (Nat.le_refl _)];simp
    rw[e2]at s'
    exact s'
 ·rw[if_neg hc]
  refine xbq (xkx hi ?_)
  rw[if_neg (by
   intro hh
   have:(IntKind.i64.max:Int)=9223372036854775807:=by decide
   rw[this]at hh
   omega)]
  refine xbq (xkx hi ?_)
  rw[hib,if_neg (by have:=xn2 (by':=by') (by omega:cap<es.length+m) room hb2.2;omega)]
  refine xbq ?_
  show wpS P (choose _) h _
  simp only[choose,wpS,Question.forced,Bool.false_eq_true,if_false,Question.cut]
  intro t
  generalize hnc:es.length+m+t%(2^63-(es.length+m))=nc
  have hnc':es.length+m<=nc:=om
  have hncl:nc<=9223372036854775807:=by
   have:t%(2^63-(es.length+m))<2^63-(es.length+m):=Nat.mod_lt _ om
   omega
  refine xbq (xkx hi ?_)
  refine xbq ?_
  have ask:∀(b:Nat)(K:Unit->Heap->Prop),K () h->wpS P (askRoom b) h K:=by
   intro b K hK
   unfold askRoom
   split
   ·exact⟨rfl,hK⟩
   ·exact xcq hK
  refine ask _ _ ?_
  refine xbq (hold _ ?_)
  refine xbq (hsrc _ ?_)
  refine xbq (xaz hz ?_)
  refine xbq (xpz ?_)
  refine xcq (n _ [(h.size,.cells (List.toArray (es.flatten++news.flatten++(Builtin.zeroCells z.cells (nc-(es.length+m))).toList)) eT (0,0))] _ ⟨hwall,.inr ⟨h.size,_,nc,(Builtin.zeroCells z.cells (nc-(es.length+m))).toList,?_,rfl,by simp,?_,fun _=>hncl⟩⟩ ?_)
  ·simp[hm]
  ·simp only[List.length_append,xmq o.1,hnf,hm,xmj,hzs]
   rw[<- Nat.add_mul,<- Nat.add_mul];congr 1;omega
  ·have s1:=s.push (.cells (List.toArray (es.flatten++news.flatten++(Builtin.zeroCells z.cells (nc-(es.length+m))).toList)) eT (0,0))
   have s2:=s1.sub (L':=(h.size,.cells (List.toArray (es.flatten++news.flatten++(Builtin.zeroCells z.cells (nc-(es.length+m))).toList)) eT (0,0))::(A++C)) (by
    refine List.Sublist.cons_cons _ ?_
    exact(List.Sublist.refl A).append (List.sublist_append_right X C))
   have s3:=s2.perm (L':=A++([(h.size,.cells (List.toArray (es.flatten++news.flatten++(Builtin.zeroCells z.cells (nc-(es.length+m))).toList)) eT (0,0))]++C)) (by
    simpa using(List.perm_middle (l₁:=A) (l₂:=C)).symm)
   have e1:(List.toArray es.flatten++List.toArray news.flatten++Builtin.zeroCells z.cells (nc-(es.length+m)))=List.toArray (es.flatten++news.flatten++(Builtin.zeroCells z.cells (nc-(es.length+m))).toList):=by
    apply Array.ext';simp
   rw[e1];exact s3
structure Src(P:Program)(h:Heap)(w m:Nat)(x:Value)(news:List (List Value)):Prop where
 lenOf:∀K:Nat->Heap->Prop,K m h->wpS P (Builtin.lenOf x) h K
 cells:∀K:Array Value->Heap->Prop,K news.flatten.toArray h->wpS P (Builtin.firstCells w m x) h K
 len:news.length=m
 wid:∀e∈news,e.length=w
theorem xz6{sT xT eT eX ty:TypeId}{w m by':Nat}{v x z:Value}{es news:List (List Value)}{K:Value->Heap->Prop}(hT:P.underlying sT=some (.slice eT))(hs:sizeT P eT=some w)(hz:zeroT P eT=some z)(hzs:z.cells.size=w)
 (hby:bytesT P eT=some by')(hx:P.underlying xT=some (.slice eX))(o:OwnS eT w v es X)(s:St h₀ B₀ p h (A++(X++C)))
 (hlen:∀K:Nat->Heap->Prop,K m h->wpS P (Builtin.lenOf x) h K)(hsrc:∀K:Array Value->Heap->Prop,K news.flatten.toArray h->wpS P (Builtin.firstCells w m x) h K)
 (hm:news.length=m)(hw:∀e∈news,e.length=w)(h1:∀u∈news.flatten,isOne u=true)(room:(es.length+m)*by'<=2^40)(hb2:0<by'/\by'<=2^20)
 (n:∀v' X' h',OwnS eT w v' (es++news) X'->St h₀ B₀ p h' (A++(X'++C))->K v' h'):wpS P (Builtin.append_ #[sT,xT] ty #[v,x]) h K:=
 xil hT hs hz hzs hby hx (fun _ e=>by cases e) o s hlen hsrc hm hw h1 room hb2 n
theorem xhp{w:Nat}(hw0:0<w):∀{es:List (List Value)},(∀e∈es,e.length=w)-> ∀{j:Nat}{x:Value},es.flatten[j]?=some x-> ∃e,es[j / w]?=some e/\e[j%w]?=some x
 |[],_,j,x,hj=>by simp at hj
 |e::es,h,j,x,hj=>by
   have h0:=h e (by simp)
   rw[List.flatten_cons]at hj
   by_cases hlt:j<w
   ·rw[List.getElem?_append_left om]at hj
    exact⟨e,by rw[Nat.div_eq_of_lt hlt];rfl,by rw[Nat.mod_eq_of_lt hlt];exact hj⟩
   ·rw[List.getElem?_append_right om,h0]at hj
    obtain⟨e',h1,h2⟩:=xhp hw0 (fun x hx=>h x (by simp[hx])) hj
    refine⟨e',?_,?_⟩
    ·rw[show j / w=(j-w) / w+1 from by
      rw[<- Nat.add_div_right _ hw0];congr 1;omega]
     simpa using h1
    ·rw[show j%w=(j-w)%w from by
      rw[<- Nat.add_mod_right (j-w)];congr 1;omega]
     exact h2
theorem xeg{a:Option Addr}{m cap w:Nat}{news:List (List Value)}(s:St h₀ B₀ p h C)(hw0:0<w)(d:Sl p a m w news):Src P h w m (.slice a m cap) news:=by
 refine⟨fun K hK=>xcq hK,fun K hK=>?_,d.len,d.wid⟩
 by_cases h0:m=0
 ·subst h0
  have:news=[]:=List.eq_nil_of_length_eq_zero d.len
  subst this
  cases a with
  |none=>exact xcq hK
  |some a=>
    show wpS P (loadCells a (0*w)) h K
    exact xqz (vs:=[]) (by simp) (by simp) hK
 ·rw[d.ne om]
  show wpS P (loadCells (adr a) (m*w)) h K
  refine xqz (by rw[xmq d.wid,d.len]) (fun j u hj=>?_) hK
  obtain⟨e,h1,h2⟩:=xhp hw0 d.wid hj
  have:=s.cell (d.get _ e h1 _ u h2)
  rw[xg3]at this
  rwa[show j / w*w+j%w=j from by rw[Nat.mul_comm];exact Nat.div_add_mod j w]at this
theorem yqg{w:Nat}:Src P h w 0 (.slice none 0 0) []:=⟨fun K hK=>xcq hK,fun K hK=>xcq hK,rfl,by simp⟩
section
variable{md:Md}{f:FuncId}{r:Rd}{df:List Deferred}{k:List Item}{cs:List Frame}{Stop:Goroutine->Heap->Prop}{ops rest:List Oper}{tm:List Value}
 {ty:TypeId}{pos:String}{aft:Array Edge}{gd:Option (Nat×Bool)}
def bcs(l:List UInt8):List (List Value):=l.map fun x=>[.int .u8 ((x.toNat:Nat):Int)]
theorem xuj(l:List UInt8):(bcs l).length=l.length:=by simp[bcs]
end
end
def preds(o:Oper):List Nat:=(o.after.toList.filter (Region.binds .any)).map (·.on)
def looks(ops:List Oper)(o:Oper):List Tmp:=
 o.op.operands.toList.filterMap (fun|.tmp t=>some t|_=>none)++(match o.guard with|some (j,_)=>((ops[j]?).bind (·.dst)).toList|none=>[])
def noSel:Op->Bool
 |.select .. => false
 |_=>true
def behind(cl:List (List Nat))(o:Oper)(j:Nat):Bool:=(preds o).contains j||(preds o).any fun k=>(cl.getD k []).contains j
def stable(ops:List Oper)(m:Nat)(cl:List (List Nat)):Bool:=
 (ops.zipIdx.all fun(o,i)=>
  (preds o).all (· < i)&&(cl.getD i []).all (fun j=>decide (j<i)&&behind cl o j) &&
  (if m<=i then(List.range i).all fun j=>behind cl o j else
   noSel o.op&&ops.zipIdx.all fun(o',j)=>!decide (j<m)||(match o'.dst with
    |some d=>(decide (i=j)||decide (o.dst≠some d))&&(!(looks ops o).contains d||(preds o).contains j)
    |none=>true)))
theorem xk0{o:Oper}{j:Nat}:j∈preds o<-> ∃e∈o.after,Region.binds .any e=true/\e.on=j:=by
 unfold preds
 simp only[List.mem_map,List.mem_filter,Array.mem_toList_iff]
 constructor
 ·rintro⟨e,⟨h1,h2⟩,h3⟩;exact⟨e,h1,h2,h3⟩
 ·rintro⟨e,h1,h2,h3⟩;exact⟨e,⟨h1,h2⟩,h3⟩
section
variable{ops:List Oper}{m:Nat}{cl:List (List Nat)}
theorem xyq(hs:stable ops m cl=true){i:Nat}{o:Oper}(ho:ops[i]?=some o):
 (∀j∈preds o,j<i)/\(m<=i-> ∀j<i,behind cl o j=true)/\
 (i<m->noSel o.op=true/\ ∀(j:Nat)(o':Oper)(d:Nat),j<m->ops[j]?=some o'->o'.dst=some d->(i=j\/o.dst≠some d)/\(d∈looks ops o->j∈preds o)):=by
 unfold stable at hs
 rw[List.all_eq_true]at hs
 have hmem:(o,i)∈ops.zipIdx:=by rw[List.mem_zipIdx_iff_getElem?];exact ho
 have h:=hs (o,i) hmem
 simp only[Bool.and_eq_true,List.all_eq_true,decide_eq_true_eq]at h
 refine⟨h.1.1,fun hm=>?_,fun hm=>?_⟩
 ·rw[if_pos hm]at h
  intro j hj
  exact List.all_eq_true.1 h.2 j (List.mem_range.2 hj)
 ·rw[if_neg om]at h
  have h2:=h.2
  rw[Bool.and_eq_true]at h2
  refine⟨h2.1,fun j o' d hj ho' hd=>?_⟩
  have hmem':(o',j)∈ops.zipIdx:=by rw[List.mem_zipIdx_iff_getElem?];exact ho'
  have h3:=List.all_eq_true.1 h2.2 (o',j) hmem'
  simp only[hd,hj,decide_true,Bool.not_true,Bool.false_or,Bool.and_eq_true,Bool.or_eq_true,decide_eq_true_eq,Bool.not_eq_true',List.contains_eq_mem,decide_eq_false_iff_not]at h3
  refine⟨h3.1,fun hl=>?_⟩
  rcases h3.2 with x|x
  ·exact absurd hl (by simpa using x)
  ·simpa using x
theorem xjt(hs:stable ops m cl=true){i j:Nat}{o:Oper}(ho:ops[i]?=some o)(hj:j∈cl.getD i []):j<i/\behind cl o j=true:=by
 unfold stable at hs
 rw[List.all_eq_true]at hs
 have hmem:(o,i)∈ops.zipIdx:=by rw[List.mem_zipIdx_iff_getElem?];exact ho
 have h:=hs (o,i) hmem
 simp only[Bool.and_eq_true,List.all_eq_true,decide_eq_true_eq]at h
 exact h.1.2 j hj
theorem xvg{o:Oper}{j:Nat}:behind cl o j=true<->j∈preds o\/ ∃k∈preds o,j∈cl.getD k []:=by
 unfold behind
 simp only[Bool.or_eq_true,List.any_eq_true,List.contains_iff_mem]
theorem xyk(hs:stable ops m cl=true){l:Array Bool}(hsz:l.size=ops.length)(hl:∀(j:Nat)(o:Oper),l.getD j false=true->ops[j]?=some o-> ∀x∈preds o,l.getD x false=true):
 ∀(n:Nat)(o:Oper)(j:Nat),(∀x∈preds o,x<n/\l.getD x false=true)->behind cl o j=true->l.getD j false=true:=by
 intro n
 induction n with
 |zero=>
   intro o j hp hb
   rcases xvg.1 hb with h|⟨k,h,_⟩
   ·exact(hp j h).2
   ·exact absurd (hp k h).1 om
 |succ n ih=>
   intro o j hp hb
   rcases xvg.1 hb with h|⟨k,h,h2⟩
   ·exact(hp j h).2
   ·obtain⟨hk,hkl⟩:=hp k h
    have hk2:k<ops.length:=by
     rcases Nat.lt_or_ge k l.size with h|h
     ·omega
     ·simp[Array.getD,Nat.not_lt.2 h]at hkl
    have ho:=List.getElem?_eq_getElem hk2
    exact ih ops[k] j (fun x hx=>⟨Nat.lt_of_lt_of_le ((xyq hs ho).1 x hx) om,hl k _ hkl ho x hx⟩) (xjt hs ho h2).2
inductive Ord (ops:List Oper) (m:Nat):Array Bool->List Nat->Prop
 |nil {l:Array Bool} (h:∀j<m,l.getD j false=true):Ord ops m l []
 |cons {l:Array Bool} {i:Nat} {s:List Nat} {o:Oper} (hi:i<m) (ho:ops[i]?=some o) (hn:l.getD i true=false) (hp:∀j∈preds o,l.getD j false=true) (hs:Ord ops m (l.setIfInBounds i true) s):Ord ops m l (i::s)
theorem xod{l:Array Bool}{i:Nat}(hi:i<l.size):l.getD i true=l.getD i false:=by simp[Array.getD,hi]
theorem xff{l:Array Bool}{i:Nat}:i∈Region.ready .any ops.toArray l<->l.getD i true=false/\ ∃o,ops[i]?=some o/\ ∀j∈preds o,l.getD j false=true:=by
 rw[mem_ready]
 constructor
 ·rintro⟨h1,o,h2,h3⟩
  refine⟨h1,o,by simpa using h2,fun j hj=>?_⟩
  obtain⟨e,he,hb,rfl⟩:=xk0.1 hj
  exact h3 e he hb
 ·rintro⟨h1,o,h2,h3⟩
  exact⟨h1,o,by simpa using h2,fun e he hb=>h3 _ (xk0.2 ⟨e,he,hb,rfl⟩)⟩
theorem ycj(fuel t:Nat)(l:Array Bool):Region.linearise.go .any ops.toArray (fuel+1) t l []=(match(Region.ready .any ops.toArray l)[t%(Region.ready .any ops.toArray l).length]? with
  |some i=>i::Region.linearise.go .any ops.toArray fuel (t / (Region.ready .any ops.toArray l).length) (l.setIfInBounds i true) []
  |none=>[]):=by
 simp only[Region.linearise.go]
 change (match(Region.ready .any ops.toArray l)[t%(Region.ready .any ops.toArray l).length]? with
  |some i=>Region.linearise.go .any ops.toArray fuel (t / (Region.ready .any ops.toArray l).length) (l.setIfInBounds i true) [i]
  |none=>[].reverse)=_
 split
 ·rw[linearise_go_acc];simp
 ·rfl
def openN(l:Array Bool)(n:Nat):Nat:=(List.range n).countP fun i=>!l.getD i false
theorem ygb{l:Array Bool}{n i:Nat}(hi:i<n)(hl:l.size=n)(h:l.getD i true=false):openN (l.setIfInBounds i true) n+1<=openN l n:=by
 unfold openN
 have key:∀k,k<=n->(List.range k).countP (fun j=>!(l.setIfInBounds i true).getD j false)+(if i<k then 1 else 0)<=(List.range k).countP (fun j=>!l.getD j false):=by
  intro k
  induction k with
  |zero=>intro _;simp
  |succ k ih=>
    intro hk
    have ih:=ih om
    rw[List.range_succ,List.countP_append,List.countP_append]
    simp only[List.countP_singleton]
    by_cases e:i=k
    ·subst e
     have h1:(l.setIfInBounds i true).getD i false=true:=by simp[Array.getD,hl,hi]
     have h2:l.getD i false=false:=by rw[<- xod om];exact h
     rw[h1,h2]
     simp at ih⊢
     omega
    ·rw[getD_set_ne false e]
     have h3:(if i<k+1 then 1 else 0)=(if i<k then 1 else 0):=by
      by_cases h:i<k
      ·rw[if_pos h,if_pos om]
      ·rw[if_neg h,if_neg om]
     rw[h3];omega
 have:=key n (Nat.le_refl _)
 rw[if_pos hi]at this
 exact this
theorem yhb{l:Array Bool}{n i:Nat}(hi:i<n)(h:l.getD i false=false):0<openN l n:=by
 unfold openN
 rw[List.countP_pos_iff]
 exact⟨i,by simpa using hi,by simp[h]⟩
theorem xd7(hs:stable ops m cl=true):∀(fuel t c:Nat)(l:Array Bool),m<=c->c<=ops.length->l.size=ops.length->(∀j,l.getD j false=decide (j<c))->ops.length-c<=fuel->
 Region.linearise.go .any ops.toArray fuel t l []=List.range' c (ops.length-c):=by
 intro fuel
 induction fuel with
 |zero=>intro t c l _ _ _ _ hf;rw[show ops.length-c=0 from by omega];rfl
 |succ fuel ih=>
   intro t c l hm hc hl hd hf
   rw[ycj]
   by_cases he:c=ops.length
   ·have:Region.ready .any ops.toArray l=[]:=by
     rw[List.eq_nil_iff_forall_not_mem]
     intro i hi
     obtain⟨h1,o,ho,_⟩:=xff.1 hi
     have hlt:=(List.getElem?_eq_some_iff.1 ho).1
     rw[xod om,hd]at h1
     simp at h1;omega
    rw[this,show ops.length-c=0 from by omega];rfl
   ·have hlt:c<ops.length:=om
    have hr:Region.ready .any ops.toArray l=[c]:=by
     have hmem:∀i,i∈Region.ready .any ops.toArray l<->i=c:=by
      intro i
      rw[xff]
      constructor
      ·rintro⟨h1,o,ho,hp⟩
       have hil:=(List.getElem?_eq_some_iff.1 ho).1
       rw[xod om,hd]at h1
       simp at h1
       rcases Nat.lt_or_ge c i with hci|hci
       ·have:=xyk hs hl (fun j o' hj ho' x hx=>by
         rw[hd]at hj⊢;simp at hj⊢;exact Nat.lt_trans ((xyq hs ho').1 x hx) hj) i o c (fun x hx=>⟨(xyq hs ho).1 x hx,hp x hx⟩) ((xyq hs ho).2.1 om c hci)
        rw[hd]at this;simp at this
       ·omega
      ·rintro rfl
       refine⟨by rw[xod om,hd];simp,_,List.getElem?_eq_getElem hlt,fun j hj=>?_⟩
       rw[hd];simpa using(xyq hs (List.getElem?_eq_getElem hlt)).1 j hj
     have hnd:(Region.ready .any ops.toArray l).Nodup:=by unfold Region.ready;exact List.nodup_range.sublist List.filter_sublist
     match hre:Region.ready .any ops.toArray l,hmem,hnd with
     |[],hmem,_=>exact absurd ((hmem c).2 rfl) (by simp)
     |[x],hmem,_=>rw[(hmem x).1 (by simp)]
     |x::y::z,hmem,hnd=>
       have h1:=(hmem x).1 (by simp)
       have h2:=(hmem y).1 (by simp)
       subst h1;subst h2
       simp at hnd
    rw[hr]
    simp only[List.length_singleton,Nat.mod_one,List.getElem?_cons_zero]
    rw[ih _ (c+1) _ om om (by simpa using hl) (fun j=>?_) om]
    ·rw[show ops.length-c=ops.length-(c+1)+1 from by omega,List.range'_succ]
    ·by_cases e:c=j
     ·subst e;simp[Array.getD,hl,hlt]
     ·rw[getD_set_ne false e,hd]
      by_cases h:j<c
      ·rw[decide_eq_true h,decide_eq_true om]
      ·rw[decide_eq_false h,decide_eq_false om]
theorem xj2(hs:stable ops m cl=true)(hm:m<=ops.length):∀(fuel t:Nat)(l:Array Bool),l.size=ops.length->(∀j,m<=j->l.getD j false=false)->(∀(j:Nat)(o:Oper),l.getD j false=true->ops[j]?=some o-> ∀x∈preds o,l.getD x false=true)->openN l ops.length<=fuel->
 ∃s,Region.linearise.go .any ops.toArray fuel t l []=s++List.range' m (ops.length-m)/\Ord ops m l s:=by
 intro fuel
 induction fuel with
 |zero=>
   intro t l hl htail _ hf
   have hall:∀j,j<ops.length->l.getD j false=true:=fun j hj=>by
    cases h:l.getD j false
    ·have:=yhb hj h;omega
    ·rfl
   have hme:m=ops.length:=by
    rcases Nat.lt_or_ge m ops.length with h|h
    ·have:=hall m h;rw[htail m (Nat.le_refl _)]at this;cases this
    ·omega
   exact⟨[],by rw[hme,Nat.sub_self];rfl,.nil fun j hj=>hall j om⟩
 |succ fuel ih=>
   intro t l hl htail hcl hf
   by_cases hall:∀j<m,l.getD j false=true
   ·refine⟨[],?_,.nil hall⟩
    rw[List.nil_append]
    refine xd7 hs _ _ m l (Nat.le_refl _) hm hl (fun j=>?_) ?_
    ·by_cases h:j<m
     ·rw[hall j h,decide_eq_true h]
     ·rw[htail j om,decide_eq_false h]
    ·have:ops.length-m<=openN l ops.length:=by
      unfold openN
      have e:List.range ops.length=List.range m++(List.range (ops.length-m)).map (m+ ·):=by
       rw[<- List.range_add,show m+(ops.length-m)=ops.length from by omega]
      rw[e,List.countP_append]
      have:((List.range (ops.length-m)).map (m+ ·)).countP (fun i=>!l.getD i false)=ops.length-m:=by
       rw[List.countP_eq_length.2]
       ·simp
       ·intro x hx
        obtain⟨y,_,rfl⟩:=List.mem_map.1 hx
        rw[htail _ om];rfl
      omega
     omega
   ·
     have hex:∃i,i<m/\l.getD i false=false/\ ∀j<i,l.getD j false=true:=by
      have:∃i,i<m/\l.getD i false=false:=by
       refine Classical.byContradiction fun hn=>hall fun j hj=>?_
       cases h:l.getD j false
       ·exact absurd ⟨j,hj,h⟩ hn
       ·rfl
      obtain⟨i,hi,hf⟩:=this
      induction i using Nat.strongRecOn with
      |_ i ih=>
        by_cases hlow:∀j<i,l.getD j false=true
        ·exact⟨i,hi,hf,hlow⟩
        ·have:∃j,j<i/\l.getD j false=false:=by
          refine Classical.byContradiction fun hn=>hlow fun j hj=>?_
          cases h:l.getD j false
          ·exact absurd ⟨j,hj,h⟩ hn
          ·rfl
         obtain⟨j,hj,hjf⟩:=this
         exact ih j hj om hjf
     obtain⟨i₀,hi₀,hf₀,hlow₀⟩:=hex
     have hr₀:i₀∈Region.ready .any ops.toArray l:=by
      rw[xff]
      refine⟨by rw[xod om];exact hf₀,_,List.getElem?_eq_getElem om,fun j hj=>hlow₀ j ((xyq hs (List.getElem?_eq_getElem om)).1 j hj)⟩
     rw[ycj]
     cases hre:(Region.ready .any ops.toArray l)[t%(Region.ready .any ops.toArray l).length]? with
     |none=>
       have hlen:0<(Region.ready .any ops.toArray l).length:=List.length_pos_of_mem hr₀
       have:=Nat.mod_lt t hlen
       rw[List.getElem?_eq_none_iff]at hre
       omega
     |some i=>
       obtain⟨h1,o,ho,hp⟩:=xff.1 (List.mem_of_getElem? hre)
       have hil:=(List.getElem?_eq_some_iff.1 ho).1
       have him:i<m:=by
        rcases Nat.lt_or_ge i m with h|h
        ·exact h
        ·have:=xyk hs hl hcl i o i₀ (fun x hx=>⟨(xyq hs ho).1 x hx,hp x hx⟩) ((xyq hs ho).2.1 h i₀ om)
         rw[hf₀]at this;cases this
       obtain⟨s,e,hord⟩:=ih (t / (Region.ready .any ops.toArray l).length) (l.setIfInBounds i true) (by simpa using hl) (fun j hj=>by rw[getD_set_ne false om];exact htail j hj) (fun j o' hj ho' x hx=>by
        by_cases e':i=j
        ·subst e'
         rw[ho]at ho';cases ho'
         have hx':=hp x hx
         by_cases e2:i=x
         ·subst e2;simp[Array.getD,hl,hil]
         ·rw[getD_set_ne false e2];exact hx'
        ·rw[getD_set_ne false e']at hj
         by_cases e2:i=x
         ·subst e2;simp[Array.getD,hl,hil]
         ·rw[getD_set_ne false e2];exact hcl j o' hj ho' x hx) (by
        have:=ygb hil hl h1;omega)
       refine⟨i::s,?_,.cons him ho h1 hp hord⟩
       simp only
       rw[e];rfl
theorem xh0(hs:stable ops m cl=true)(hm:m<=ops.length)(t:Nat):
 ∃s,Region.linearise .any ops.toArray t=s++List.range' m (ops.length-m)/\Ord ops m (Array.replicate ops.length false) s:=by
 unfold Region.linearise
 have:=xj2 hs hm ops.length t (Array.replicate ops.length false) (by simp) (fun j _=>by simp[Array.getD]) (fun j _ hj=>by simp[Array.getD]at hj) (by
  unfold openN;have:=List.countP_le_length (p:=fun i=>!(Array.replicate ops.length false).getD i false) (l:=List.range ops.length);simpa using this)
 simpa using this
end
def OpTo(P:Program)(md:Md)(tm:List Value)(o:Oper)(Base:Heap->Prop)(v:Value):Prop:=
 ∀h,Base h->Ex P tm o h (fun v' h'=>v'=v/\Base h')\/
  (∃g args,(wpS P (execOp (evl tm) o) h fun n h'=>n=.enter g args/\h'=h)/\CallsX P md g args h (fun v' h'=>v'=v/\Base h'))\/
  ∀(c:Frame)(cs:List Frame)(Stop:Goroutine->Heap->Prop),(∀v' h',v'=v/\Base h'->Reach P md (G (c.finish v') cs) h' Stop)->wpS P (execOp (evl tm) o) h (Upon P md c cs Stop)
section
variable{P:Program}{md:Md}{Base:Heap->Prop}{ops:List Oper}{m:Nat}
theorem xjk(tm:List Value)(d:Option Tmp)(v:Value):(putl tm d v).length=tm.length:=by cases d<;>simp[putl]
theorem xik{tm:List Value}{d:Option Tmp}{v:Value}{x:Nat}(h:d≠some x):(putl tm d v)[x]?=tm[x]?:=by
 cases d with
 |none=>rfl
 |some y=>simp only[putl];rw[List.getElem?_set_ne];intro e;exact h (by rw[e])
theorem yas{tm tm':List Value}{t:Nat}(h:tm[t]?=tm'[t]?):evl tm (.tmp t)=evl tm' (.tmp t):=by
 simp only[evl,List.getD_eq_getElem?_getD,h]
theorem ymb{o:Op}(h:noSel o=true)(cs:Array SelectCase)(b:Bool):o≠.select cs b:=by intro e;subst e;simp[noSel]at h
theorem xns{tm tm':List Value}{o:Oper}(hs:noSel o.op=true)(h:∀t∈looks ops o,tm[t]?=tm'[t]?):execOp (evl tm) o=execOp (evl tm') o:=by
 refine execOp_congr o (ymb hs) fun x hx=>?_
 cases x with
 |tmp t=>exact yas (h t (by unfold looks;rw[List.mem_append];exact .inl (List.mem_filterMap.2 ⟨.tmp t,by simpa using hx,rfl⟩)))
 |const v=>rfl
 |global g=>rfl
 |func f=>rfl
theorem xkh{tm tm':List Value}{o:Oper}{t:Bool}(h:∀x∈looks ops o,tm[x]?=tm'[x]?)(m:Met ops tm' o t):Met ops tm o t:=by
 unfold Met at m⊢
 split at m
 ·exact m
 ·rename_i j want hg
  rw[<- m]
  unfold yieldl
  cases hd:(ops[j]?).bind (·.dst)with
  |none=>rfl
  |some d=>
    have:tm[d]?=tm'[d]?:=h d (by unfold looks;rw[hg,List.mem_append];exact .inr (by simp[hd]))
    simp only[Option.bind_some,this]
section
variable{f:FuncId}{r:Rd}{df:List Deferred}{k:List Item}{cs:List Frame}{Stop:Goroutine->Heap->Prop}{tm tmF:List Value}
end
end
section
variable{P:Program}{md:Md}{Base:Heap->Prop}{ops full rest:List Oper}{f:FuncId}{r:Rd}{df:List Deferred}{k:List Item}{cs:List Frame}{Stop:Goroutine->Heap->Prop}{tm tm':List Value}
end
abbrev Pcs:=List (Nat×Obj)
def fills(ops:List Oper)(val:Nat->Value):Nat->List Value->List Value
 |0,tm=>tm
 |m+1,tm=>putl (fills ops val m tm) ((ops[m]?).bind (·.dst)) (val m)
theorem xsk(ops:List Oper)(val:Nat->Value)(tm:List Value):∀m,(fills ops val m tm).length=tm.length
 |0=>rfl
 |m+1=>by simp only[fills,xjk,xsk ops val tm m]
theorem xtm{ops:List Oper}{val:Nat->Value}{tm:List Value}{x:Nat}:∀{m:Nat},(∀(j:Nat)(o:Oper),j<m->ops[j]?=some o->o.dst≠some x)->(fills ops val m tm)[x]?=tm[x]?
 |0,_=>rfl
 |m+1,h=>by
   simp only[fills]
   rw[xik,xtm fun j o hj=>h j o om]
   intro e
   cases ho:ops[m]? with
   |none=>rw[ho]at e;cases e
   |some o=>rw[ho]at e;exact h m o om ho e
theorem xms{ops:List Oper}{val:Nat->Value}{tm:List Value}{x i:Nat}{o:Oper}:∀{m:Nat},i<m->ops[i]?=some o->o.dst=some x->(∀(j:Nat)(o':Oper),j<m->ops[j]?=some o'->o'.dst=some x->j=i)->x<tm.length->
 (fills ops val m tm)[x]?=some (val i)
 |0,h,_,_,_,_=>om
 |m+1,h,ho,hd,hu,hx=>by
   simp only[fills]
   by_cases e:i=m
   ·subst e
    rw[ho]
    simp only[Option.bind_some,hd,putl]
    rw[List.getElem?_set_self (by rw[xsk];exact hx)]
   ·rw[xik,xms om ho hd (fun j o' hj=>hu j o' om) hx]
    intro e'
    cases ho':ops[m]? with
    |none=>rw[ho']at e';cases e'
    |some o'=>rw[ho']at e';exact e (hu m o' om ho' e').symm
def mixok(ops:List Oper)(m:Nat)(ini:List Nat)(use:Nat->List Nat)(fin:List Nat):Bool:=
 decide ini.Nodup&&ini.all (fun x=>decide (m<=x))&&decide fin.Nodup &&
 (ops.zipIdx.all fun(o,i)=>!decide (i<m)||((decide (use i).Nodup)&&(use i).all fun x=>(ini.contains x||(decide (x<m)&&(preds o).contains x))&&(List.range m).all fun k=>decide (k=i)||!(use k).contains x)) &&
 (fin.all fun x=>(ini.contains x||decide (x<m))&&(List.range m).all fun k=>!(use k).contains x) &&
 ((List.range m++ini).all fun x=>fin.contains x||(List.range m).any fun k=>(use k).contains x)
theorem xr4{α:Type}[DecidableEq α]:∀{u ls:List α},u.Nodup->(∀x∈u,x∈ls)-> ∃r,ls.Perm (u++r)
 |[],ls,_,_=>⟨ls,.refl _⟩
 |x::u,ls,hn,hs=>by
   have h1:=List.perm_cons_erase (hs x (by simp))
   have hn':=List.nodup_cons.1 hn
   obtain⟨r,hr⟩:=xr4 (ls:=ls.erase x) hn'.2 fun y hy=>by
    rw[List.mem_erase_of_ne (fun e=>by subst e;exact hn'.1 hy)];exact hs y (by simp[hy])
   exact⟨r,h1.trans (hr.cons x)⟩
def Exv(P:Program)(tm:List Value)(o:Oper)(h:Heap)(K:Value->Heap->Prop):Prop:=
 wpS P (execOp (evl tm) o) h fun n h'=>∃v,(n=.value v\/(n=.skip/\v=undef))/\K v h'
theorem Ex.exv{P:Program}{tm:List Value}{o:Oper}{h:Heap}{K:Value->Heap->Prop}(x:Ex P tm o h K):Exv P tm o h K:=xfx x fun _ _⟨v,e,y⟩=>⟨v,.inl e,y⟩
def Mixes(F:Nat->Oper->Prop):Nat->List Oper->Prop
 |_,[]=>True
 |i,o::rest=>(noDefer o.op=true/\F i o)/\Mixes F (i+1) rest
theorem Mixes.at{F:Nat->Oper->Prop}:∀{l:List Oper}{b i:Nat}{o:Oper},Mixes F b l->l[i]?=some o->noDefer o.op=true/\F (b+i) o
 |[],_,_,_,_,h=>by simp at h
 |o::l,b,0,_,m,h=>by simp at h;subst h;exact m.1
 |o::l,b,i+1,_,m,h=>by
   have:=Mixes.at (i:=i) m.2 (by simpa using h)
   rw[show b+(i+1)=b+1+i from by omega];exact this
section
variable{P:Program}{md:Md}{ops:List Oper}{m:Nat}{f:FuncId}{r:Rd}{df:List Deferred}{k:List Item}{cs:List Frame}{Stop:Goroutine->Heap->Prop}{tm:List Value}
 {h₀:Heap}{B₀:List Nat}{p:PHeap}{A C:Pcs}{ini fin:List Nat}{X:Nat->Pcs}{use:Nat->List Nat}{Q:Nat->Value->Pcs->Prop}{tmF:(Nat->Value)->List Value}
theorem yob(hk:mixok ops m ini use fin=true):ini.Nodup/\(∀x∈ini,m<=x)/\fin.Nodup/\
 (∀(i:Nat)(o:Oper),i<m->ops[i]?=some o->(use i).Nodup/\ ∀x∈use i,(x∈ini\/(x<m/\x∈preds o))/\ ∀k<m,k≠i->x∉use k)/\
 (∀x∈fin,(x∈ini\/x<m)/\ ∀k<m,x∉use k)/\(∀x,(x<m\/x∈ini)->x∈fin\/ ∃k<m,x∈use k):=by
 unfold mixok at hk
 simp only[Bool.and_eq_true,decide_eq_true_eq,List.all_eq_true]at hk
 obtain⟨⟨⟨⟨⟨h1,h2⟩,h3⟩,h4⟩,h5⟩,h6⟩:=hk
 refine⟨h1,h2,h3,fun i o hi ho=>?_,fun x hx=>?_,fun x hx=>?_⟩
 ·have hmem:(o,i)∈ops.zipIdx:=by rw[List.mem_zipIdx_iff_getElem?];exact ho
  have h:=h4 (o,i) hmem
  simp only[hi,decide_true,Bool.not_true,Bool.false_or,Bool.and_eq_true,decide_eq_true_eq,List.all_eq_true,Bool.or_eq_true,List.mem_range,Bool.not_eq_true',List.contains_eq_mem,decide_eq_false_iff_not]at h
  exact⟨h.1,fun x hx=>⟨(h.2 x hx).1,fun k hk hne=>((h.2 x hx).2 k hk).resolve_left hne⟩⟩
 ·have h:=h5 x hx
  simp only[Bool.or_eq_true,decide_eq_true_eq,List.mem_range,Bool.not_eq_true',List.contains_eq_mem,decide_eq_false_iff_not]at h
  exact h
 ·have h:=h6 x (by rw[List.mem_append,List.mem_range];exact hx)
  simp only[Bool.or_eq_true,List.any_eq_true,List.mem_range,List.contains_eq_mem,decide_eq_true_eq]at h
  exact h
def Emp(Q:Nat->Value->Pcs->Prop):List Nat->Prop
 |[]=>True
 |j::l=>(∀v x,Q j v x->x=[])/\Emp Q l
theorem Emp.flat{Q:Nat->Value->Pcs->Prop}{val:Nat->Value}{piece:Nat->Pcs}:∀{l:List Nat},Emp Q l->(∀j∈l,Q j (val j) (piece j))->l.flatMap piece=[]
 |[],_,_=>rfl
 |j::l,e,h=>by
   rw[List.flatMap_cons,e.1 _ _ (h j (by simp)),Emp.flat e.2 fun i hi=>h i (by simp[hi])];rfl
section
variable{tm':List Value}{U:Pcs}{q:Value->Pcs->Prop}{o:Oper}{ty:TypeId}{pos:String}{aft:Array Edge}{gd:Option (Nat×Bool)}
theorem OwnS.build{T:TypeId}{w b n:Nat}{es:List (List Value)}{cells:Array Value}(hc:cells=es.flatten.toArray)(hw:∀e∈es,e.length=w)(hn:es.length=n)(hb:n*w<=2^24):OwnS T w (.slice (some ⟨b,0,none⟩) n n) es [(b,.cells cells T (0,0))]:=by
 subst hn
 exact⟨hw,.inr ⟨b,es.flatten,es.length,[],rfl,by rw[hc],by simp,xmq hw,fun e=>by subst e;omega⟩⟩
theorem xvh{h:Heap}{w:Nat}{T:TypeId}{x:Value}{news:List (List Value)}{Y L₁ L₂:Pcs}(o:OwnS T w x news Y)(s:St h₀ B₀ p h (L₁++(Y++L₂))):Src P h w news.length x news:=by
 obtain⟨hw,⟨rfl,rfl,rfl⟩|⟨b,cs,cap,rest,rfl,rfl,hcs,hlen,hcap⟩⟩:=o
 ·exact yqg
 ·refine⟨fun K hK=>xcq hK,fun K hK=>?_,rfl,hw⟩
  show wpS P (loadCells ⟨b,0,none⟩ (news.length*w)) h K
  refine xqz (xmq hw) (fun j u hj=>?_) hK
  rw[xrx]
  refine s.ocell (i:=L₁.length) (cs:=cs.toArray) (T:=T) (z:=(0,0)) ?_ ?_
  ·rw[List.getElem?_append_right (Nat.le_refl _)];simp
  ·rw[List.getElem?_toArray,hcs,Nat.zero_add,List.getElem?_append_left (List.getElem?_eq_some_iff.1 hj).1]
   exact hj
theorem xxf{dd:Nat}{sT xT eT eX:TypeId}{w m' by':Nat}{xo yo:Operand}{v x z:Value}{es news:List (List Value)}{h:Heap}{X' C':Pcs}(A':Pcs)
 (hT:P.underlying sT=some (.slice eT))(hs:sizeT P eT=some w)(hz:zeroT P eT=some z)(hzs:z.cells.size=w)(hby:bytesT P eT=some by')(hx:P.underlying xT=some (.slice eX))
 (ev1:evl tm' xo=v)(ev2:evl tm' yo=x)(o:OwnS eT w v es X')(s:St h₀ B₀ p h (A'++(X'++C')))(src:Src P h w m' x news)(h1:∀u∈news.flatten,isOne u=true)
 (room:(es.length+m')*by'<=2^40)(hb2:0<by'/\by'<=2^20){K:Value->Heap->Prop}
 (n:∀v' X' h',OwnS eT w v' (es++news) X'->St h₀ B₀ p h' (A'++(X'++C'))->K v' h'):
 Ex P tm' ⟨some dd,.call ⟨.builtin .append,#[xo,yo],#[sT,xT]⟩,ty,pos,aft,gd⟩ h K:=by
 unfold Ex
 simp only[execOp,resolve]
 refine xbq (xcq ?_)
 simp only[invoke,builtin]
 refine xbq ?_
 have e:(#[xo,yo]:Array Operand).map (evl tm')=#[v,x]:=by simp[ev1,ev2]
 rw[e]
 refine xz6 hT hs hz hzs hby hx o s src.lenOf src.cells src.len src.wid h1 room hb2 fun v' X' h' o' s'=>?_
 exact xcq ⟨v',rfl,n v' X' h' o' s'⟩
end
end
theorem xl2{l:List Value}(h:l.all isOne=true):∀u∈l,isOne u=true:=fun u hu=>List.all_eq_true.1 h u hu
def nums(f:Nat->Int)(k:Nat):List Int:=(List.range k).map f
theorem yxz(xs:List Int):∀u∈(xs.map fun x=>[Value.int .i64 x]).flatten,isOne u=true:=by
 intro u hu
 rw[List.mem_flatten]at hu
 obtain⟨l,hl,hu⟩:=hu
 obtain⟨x,_,rfl⟩:=List.mem_map.1 hl
 rw[List.mem_singleton.1 hu];rfl
theorem OwnS.as{T:TypeId}{w:Nat}{v:Value}{es es':List (List Value)}{X:List (Nat×Obj)}(o:OwnS T w v es X)(e:es=es'):OwnS T w v es' X:=by subst e;exact o
theorem OwnS.val{T:TypeId}{w:Nat}{v:Value}{es:List (List Value)}{X:List (Nat×Obj)}(o:OwnS T w v es X):∃a cap,v=.slice a es.length cap/\(0<es.length->a=some (adr a)):=by
 obtain⟨_,⟨rfl,rfl,rfl⟩|⟨b,cs,cap,rest,rfl,rfl,hcs,hlen,hcap⟩⟩:=o
 ·exact⟨_,_,rfl,fun h=>absurd h (by simp)⟩
 ·exact⟨_,_,rfl,fun _=>rfl⟩
structure New(h h':Heap)(X:Pcs):Prop where
 keep:Keep h h'
 own:∀x∈X,h'[x.1]?=some x.2/\h.size<=x.1
 nod:(X.map (·.1)).Nodup
section
variable{h₀ h h':Heap}{B₀:List Nat}{p:PHeap}{A X C L:Pcs}
theorem St.new(s:St h₀ [] p h X):New h₀ h X:=⟨s.kept,fun x hx=>⟨(s.own x hx).1,(s.own x hx).2.2.resolve_right (by simp)⟩,s.nod⟩
theorem St.callN(s:St h₀ B₀ p h L)(n:New h h' X):St h₀ B₀ p h' (X++L):=by
 have s':=s.call n.keep
 refine⟨s'.keep,s'.size,s'.per,fun x hx=>?_,?_⟩
 ·rcases List.mem_append.1 hx with hx|hx
  ·obtain⟨h1,h2⟩:=n.own x hx
   refine⟨h1,?_,.inl (Nat.le_trans s.size h2)⟩
   cases hp:p x.1 with
   |none=>rfl
   |some o=>exact absurd (xix (s.per _ _ hp)) (Nat.not_lt.2 h2)
  ·exact s'.own x hx
 ·rw[List.map_append,List.nodup_append]
  refine⟨n.nod,s.nod,fun a ha b hb e=>?_⟩
  subst e
  obtain⟨x,hx,rfl⟩:=List.mem_map.1 ha
  obtain⟨y,hy,e⟩:=List.mem_map.1 hb
  have h1:=(n.own x hx).2
  have h2:=xix (s.own y hy).1
  omega
end
section
variable{P:Program}{md:Md}{ops rest:List Oper}{f:FuncId}{r:Rd}{df:List Deferred}{k:List Item}{cs:List Frame}{Stop:Goroutine->Heap->Prop}{tm:List Value}
 {h₀:Heap}{B₀:List Nat}{p:PHeap}{A C X Y:Pcs}{ty:TypeId}{pos:String}{aft:Array Edge}{gd:Option (Nat×Bool)}
theorem yen(n:Nat)(g:Nat->Value):(Array.range n).map g=((List.range n).map g).toArray:=by apply Array.ext';simp
theorem xj6{dd:Nat}{sT eT:TypeId}{w n:Nat}{parts:List (Nat×Operand)}{vs:List (Nat×Value)}{z:Value}{cells:Array Value}{es:List (List Value)}{h:Heap}
 (hT:P.underlying sT=some (.slice eT))(hs:sizeT P eT=some w)(hz:zeroT P eT=some z)(hsm:n*w<=2^24)(hvs:(parts.map fun(i,x)=>(i,evl tm x))=vs)
 (hf:Instr.fill (fun i=>some (i*w,w)) ((List.range (n*w)).map (z.cells[· % z.cells.size]!)).toArray vs=some cells)(hc:cells=es.flatten.toArray)(hw:(es.all fun e=>e.length==w)=true)(hn:es.length=n)
 (s:St h₀ B₀ p h C){K:Value->Heap->Prop}(nx:∀v X h',OwnS eT w v es X->St h₀ B₀ p h' (X++C)->K v h'):Ex P tm ⟨some dd,.buildSlice sT n parts.toArray,ty,pos,aft,gd⟩ h K:=by
 have hw':∀e∈es,e.length=w:=fun e he=>by simpa using List.all_eq_true.1 hw e he
 have fin:∀b,OwnS eT w (.slice (some ⟨b,0,none⟩) n n) es [(b,.cells cells eT (0,0))]:=fun b=>OwnS.build hc hw' hn (by simpa using hsm)
 rw[<- yen]at hf
 unfold Ex
 simp only[execOp]
 refine xbq ?_
 unfold Instr.buildSlice
 refine xbq (xeq hT ?_)
 simp only
 refine xbq (xwq hs ?_)
 rw[if_neg om]
 by_cases h0:n*w=0
 ·rw[if_pos h0]
  refine xbq (xcq ?_)
  have hcell:Instr.fill (fun i=>some (i*w,w)) ((Array.range (n*w)).map ((#[]:Array Value)[· % (#[]:Array Value).size]!)) vs=some cells:=by
   rw[<- hf,h0,show Array.range 0=(#[]:Array Nat) from by simp,Array.map_empty,Array.map_empty]
  simp only[List.map_toArray,hvs,hcell]
  refine xbq (xpz ?_)
  refine xcq ?_
  exact xcq ⟨_,rfl,nx _ _ _ (fin _) (s.push _)⟩
 ·rw[if_neg h0]
  refine xbq (xaz hz ?_)
  refine xbq (xcq ?_)
  simp only[List.map_toArray,hvs,hf]
  refine xbq (xpz ?_)
  refine xcq ?_
  exact xcq ⟨_,rfl,nx _ _ _ (fin _) (s.push _)⟩
theorem xa0{dd:Nat}{sT eT:TypeId}{w n:Nat}{parts:List (Nat×Operand)}{vs:List (Nat×Value)}{z:Value}{cells:Array Value}{es:List (List Value)}(A:Pcs)
 (hm:Met ops tm ⟨some dd,.buildSlice sT n parts.toArray,ty,pos,aft,gd⟩ true)
 (hT:P.underlying sT=some (.slice eT))(hs:sizeT P eT=some w)(hz:zeroT P eT=some z)(hsm:n*w<=2^24)(hvs:(parts.map fun(i,x)=>(i,evl tm x))=vs)
 (hf:Instr.fill (fun i=>some (i*w,w)) ((List.range (n*w)).map (z.cells[· % z.cells.size]!)).toArray vs=some cells)(hc:cells=es.flatten.toArray)(hw:(es.all fun e=>e.length==w)=true)(hn:es.length=n)
 (nx:∀v X,OwnS eT w v es X->RL P md f r df k cs Stop ops rest (tm.set dd v) (fun h=>St h₀ B₀ p h (A++(X++C)))):
 RL P md f r df k cs Stop ops (⟨some dd,.buildSlice sT n parts.toArray,ty,pos,aft,gd⟩::rest) tm (fun h=>St h₀ B₀ p h (A++C)):=
 xfj (K:=fun v h'=>∃X,OwnS eT w v es X/\St h₀ B₀ p h' (A++(X++C))) hm rfl (fun h s=>xj6 hT hs hz hsm hvs hf hc hw hn s fun v X h' o s'=>⟨X,o,s'.perm (by
  rw[<- List.append_assoc,<- List.append_assoc];exact List.Perm.append_right C List.perm_append_comm)⟩) fun v=>xwj fun X=>xgz fun o=>nx v X o
theorem xp7{dd:Nat}{sT xT eT eX:TypeId}{w by':Nat}{xo yo:Operand}{v x z:Value}{es news:List (List Value)}(A X Y:Pcs)(hm:Met ops tm ⟨some dd,.call ⟨.builtin .append,#[xo,yo],#[sT,xT]⟩,ty,pos,aft,gd⟩ true)
 (hT:P.underlying sT=some (.slice eT))(hs:sizeT P eT=some w)(hz:zeroT P eT=some z)(hzs:z.cells.size=w)(hby:bytesT P eT=some by')(hx:P.underlying xT=some (.slice eX))
 (ev1:evl tm xo=v)(ev2:evl tm yo=x)(o1:OwnS eT w v es X)(o2:OwnS eT w x news Y)(h1:∀u∈news.flatten,isOne u=true)
 (room:(es.length+news.length)*by'<=2^40)(hb2:0<by'/\by'<=2^20)
 (nx:∀v' X',OwnS eT w v' (es++news) X'->RL P md f r df k cs Stop ops rest (tm.set dd v') (fun h=>St h₀ B₀ p h (A++(X'++C)))):
 RL P md f r df k cs Stop ops (⟨some dd,.call ⟨.builtin .append,#[xo,yo],#[sT,xT]⟩,ty,pos,aft,gd⟩::rest) tm (fun h=>St h₀ B₀ p h (A++(X++(Y++C)))):=
 xfj (K := fun v' h' =>∃X', OwnS eT w v' (es ++ news) X' /\ St h₀ B₀ p h' (A ++ (X' ++ C))) hm rfl (fun h s => xxf A hT hs hz hzs hby hx ev1 ev2 o1 s (xvh (L₁ := A ++ X) o2 (by rw[List.append_assoc]; exact s)) h1 room hb2 fun v' X' h' o' s' => ⟨X', o', s'.sub
  ((List.Sublist.refl A).append ((List.Sublist.refl X').append (List.sublist_append_right Y C)))⟩) fun v'=>xwj fun X'=>xgz fun o'=>nx v' X' o'
theorem xo7{dd:Nat}{sT xT eT eX:TypeId}{w by' n cap:Nat}{a:Option Addr}{xo yo:Operand}{v z:Value}{es news:List (List Value)}(A X:Pcs)(hm:Met ops tm ⟨some dd,.call ⟨.builtin .append,#[xo,yo],#[sT,xT]⟩,ty,pos,aft,gd⟩ true)
 (hT:P.underlying sT=some (.slice eT))(hs:sizeT P eT=some w)(hz:zeroT P eT=some z)(hzs:z.cells.size=w)(hby:bytesT P eT=some by')(hx:P.underlying xT=some (.slice eX))
 (ev1:evl tm xo=v)(ev2:evl tm yo=.slice a n cap)(o1:OwnS eT w v es X)(o2:Sl p a n w news)(h1:∀u∈news.flatten,isOne u=true)
 (room:(es.length+n)*by'<=2^40)(hb2:0<by'/\by'<=2^20)(hw0:0<w)
 (nx:∀v' X',OwnS eT w v' (es++news) X'->RL P md f r df k cs Stop ops rest (tm.set dd v') (fun h=>St h₀ B₀ p h (A++(X'++C)))):
 RL P md f r df k cs Stop ops (⟨some dd,.call ⟨.builtin .append,#[xo,yo],#[sT,xT]⟩,ty,pos,aft,gd⟩::rest) tm (fun h=>St h₀ B₀ p h (A++(X++C))):=
 xfj (K:=fun v' h'=>∃X',OwnS eT w v' (es++news) X'/\St h₀ B₀ p h' (A++(X'++C))) hm rfl (fun _ s=>xxf A hT hs hz hzs hby hx ev1 ev2 o1 s (xeg s hw0 o2) h1 room hb2 fun _ X' _ o' s'=>⟨X',o',s'⟩) fun v'=>xwj fun X'=>xgz fun o'=>nx v' X' o'
end
def CallV(P:Program)(md:Md)(fv:Value)(args:List Value)(h:Heap)(R:Value->Heap->Prop):Prop:=
 ∀(c:Frame)(cs:List Frame)(Stop:Goroutine->Heap->Prop),(∀v h',R v h'->Reach P md (G (c.finish v) cs) h' Stop)->
  wpS P (do let d <- Deferred.ofValue fv args.toArray;invoke d.target d.args) h (Upon P md c cs Stop)
section
variable{P:Program}{md:Md}{h:Heap}{R R':Value->Heap->Prop}
theorem CallV.mono{fv:Value}{args:List Value}(x:CallV P md fv args h R)(y:∀v h',R v h'->R' v h'):CallV P md fv args h R':=
 fun c cs Stop z=>x c cs Stop fun v h' r=>z v h' (y v h' r)
theorem xgq{g:FuncId}{first cap args:List Value}(hg:callable P g=true)(x:CallsX P md g (first++(args++cap)).toArray h R):CallV P md (.func (.func g) first.toArray cap.toArray) args h R:=by
 intro c cs Stop z
 refine xbq ?_
 unfold Deferred.ofValue
 refine xcq ?_
 simp only[invoke]
 refine xnb hg ?_
 show Reach P md (G (Frame.enter P g _ .normal) (c::cs)) h Stop
 have e:(first.toArray++args.toArray++cap.toArray)=(first++(args++cap)).toArray:=by simp
 rw[e]
 exact x c cs Stop z
end
section
variable{P:Program}{md:Md}{f:FuncId}{r:Rd}{df:List Deferred}{k:List Item}{cs:List Frame}{Stop:Goroutine->Heap->Prop}
 {ops rest:List Oper}{tm tm':List Value}{h:Heap}{Φ:Heap->Prop}{h₀:Heap}{B₀:List Nat}{p:PHeap}{L:Pcs}
theorem xdf[Stb Φ]{args:List Operand}{ats:Array TypeId}{d:Option Tmp}{ty:TypeId}{pos:String}{aft:Array Edge}{gd:Option (Nat×Bool)}{x:Operand}{fv:Value}{vs:List Value}{R:Value->Heap->Prop}
 (hm:Met ops tm ⟨d,.call ⟨.value x,args.toArray,ats⟩,ty,pos,aft,gd⟩ true)(hx:evl tm x=fv)(hvs:args.map (evl tm)=vs)
 (hc:∀h,Φ h->CallV P md fv vs h R)(n:∀v,RL P md f r df k cs Stop ops rest (putl tm d v) (R v)):
 RL P md f r df k cs Stop ops (⟨d,.call ⟨.value x,args.toArray,ats⟩,ty,pos,aft,gd⟩::rest) tm Φ:=by
 intro pre e
 rw[xzv]
 refine xir (xef e) (xxq hm) xpw (.inr rfl) fun h y=>?_
 rw[xfz]
 have:=hc h y (F (B f r) tm.toArray df (.inRegion ops.toArray (pre.length::List.range' (pre.length+1) rest.length)::k)) cs Stop fun v h' hR=>by
  rw[xcx (xef e),xzq]
  have:=n v (pre++[⟨d,.call ⟨.value x,args.toArray,ats⟩,ty,pos,aft,gd⟩]) (by simp[e]) h' hR
  simpa[FL]using this
 simp only[execOp,resolve,hx,List.map_toArray,hvs]
 exact this
theorem xd3{l:Nat}{lp:Loop}{vs:List Value}{R:Value->Heap->Prop}(hl:h[l]?=some (.loop lp))(hp:vs.length=lp.params.size)
 (ht:((lp.params.zip vs.toArray).foldl (fun tmps(t,a)=>tmps.setIfInBounds t a) lp.tmps)=tm'.toArray)
 (x:∀(c:Frame)(cs:List Frame)(Stop:Goroutine->Heap->Prop),(∀v h',R v h'->Reach P md (G (c.finish v) cs) h' Stop)->
  RS P md (G (FL lp.fn (.some l) tm' [] [.code lp.assign,.beginRound,.code lp.body]) (c::cs)) Φ Stop)(h0:Φ h):CallV P md (.func (.yield l) #[] #[]) vs h R:=by
 intro c cs Stop z
 refine xbq ?_
 unfold Deferred.ofValue
 refine xcq ?_
 simp only[invoke]
 unfold Instr.yield Instr.getLoop
 refine xbq ?_
 refine xbq ?_
 simp only[getObj,wpS,hl]
 refine⟨rfl,?_⟩
 refine xcq ?_
 rw[if_neg (by simpa using hp)]
 refine xcq ?_
 show Reach P md (G (Frame.round l lp.fn _ lp.assign lp.body .normal) (c::cs)) h Stop
 have e:(#[]:Array Value)++vs.toArray=vs.toArray:=by simp
 rw[e,ht]
 exact x c cs Stop z h h0
theorem xdd{l:Nat}{lp:Loop}{K:Loop->Heap->Prop}(hl:h[l]?=some (.loop lp))(x:K lp h):wpS P (Instr.getLoop l) h K:=by
 unfold Instr.getLoop
 refine xbq ?_
 simp only[getObj,wpS,hl]
 exact⟨rfl,xcq x⟩
theorem xad{l:Nat}{lp lp':Loop}{K:Unit->Heap->Prop}(hl:h[l]?=some (.loop lp))(x:K () (h.setIfInBounds l (.loop lp'))):wpS P (setObj l (.loop lp')) h K:=by
 simp only[setObj,wpS,hl]
 exact⟨rfl,rfl,x⟩
theorem St.setObj(s:St h₀ B₀ p h L){i b:Nat}{o o':Obj}(hL:L[i]?=some (b,o)):St h₀ B₀ p (h.setIfInBounds b o') (L.set i (b,o')):=
 s.turn hL (by rw[Array.getElem?_setIfInBounds_self_of_lt (xix (s.at hL))]) (by simp) fun c hc=>by rw[Array.getElem?_setIfInBounds_ne (Ne.symm hc)]
theorem yfc{l i:Nat}{lp:Loop}(hL:L[i]?=some (l,.loop lp))(hr:lp.state=.ready)
 (x:RS P md (G (FL f (.some l) tm df k) cs) (fun h=>St h₀ B₀ p h (L.set i (l,.loop {lp with state:=.busy}))) Stop):
 RS P md (G (FL f (.some l) tm df (.beginRound::k)) cs) (fun h=>St h₀ B₀ p h L) Stop:=by
 refine xc4 (show(B f (.some l)).kind≠.early from xpw) rfl (fun w=>rfl) fun h s=>?_
 show wpS P (do Instr.beginRound l;pure Next.skip) h _
 refine xbq ?_
 unfold Instr.beginRound
 refine xbq (xdd (s.at hL) ?_)
 refine xbq (xad (s.at hL) ?_)
 rw[hr]
 refine xcq ?_
 refine xcq ?_
 exact x _ (s.setObj hL)
theorem xa4{l i:Nat}{lp lp':Loop}{c:Frame}{jump:Option Code}{v:Value}(hL:L[i]?=some (l,.loop lp))(hv:v=.bool jump.isNone)(hl:{lp with state:=if jump.isNone then .ready else .done,pending:=jump}=lp')
 (hstep:∀w,stepG P md.isMain (G (FL f (.some l) tm df k) (c::cs)) w=(let(r,es):=(Instr.endRound l jump).runT P w #[]
  GStep.after (seen P f es) <| match r with
  |.ok v w=>doReturn P md.isMain (FL f (.some l) tm df k) (c::cs) none v w
  | .halt _ w => .ended (.stuck "range over a function: no such loop" ((FL f (.some l) tm df k).pos P)) w))
 (x:RS P md (G (c.finish v) cs) (fun h=>St h₀ B₀ p h (L.set i (l,.loop lp'))) Stop):
 RS P md (G (FL f (.some l) tm df k) (c::cs)) (fun h=>St h₀ B₀ p h L) Stop:=by
 intro h s
 refine xbj ⟨rfl,fun h₁ k₁ S w V=>?_⟩
 have s₁:=s.call k₁
 have hx:wpS P (Instr.endRound l jump) h₁ fun v' h'=>v'=v/\St h₀ B₀ p h' (L.set i (l,.loop lp')):=by
  unfold Instr.endRound
  refine xbq (xdd (s₁.at hL) ?_)
  refine xbq (xad (s₁.at hL) ?_)
  refine xcq ⟨hv.symm,?_⟩
  rw[<- hl]
  exact s₁.setObj hL
 obtain⟨v',h',w',es,e1,e2,⟨e3,e4⟩,e5,e6,e7⟩:=xbd _ #[] hx V
 subst e3
 refine⟨_,h',w',seen P f es,?_,x h' e4,e5,e6,xab e7⟩
 rw[hstep w]
 simp only[Array.empty_append]at e1
 simp only[e1,GStep.after,doReturn,FL,F,B,Rd.kind,Rd.round,G,Array.append_empty]
theorem ypl{l i:Nat}{lp lp':Loop}{c:Frame}(hL:L[i]?=some (l,.loop lp))(hl:{lp with state:=.ready,pending:=none}=lp')
 (x:RS P md (G (c.finish (.bool true)) cs) (fun h=>St h₀ B₀ p h (L.set i (l,.loop lp'))) Stop):
 RS P md (G (FL f (.some l) tm df []) (c::cs)) (fun h=>St h₀ B₀ p h L) Stop:=
 xa4 hL rfl (jump:=none) (by simpa using hl) (fun _=>rfl) x
theorem ynl{l i:Nat}{lp lp':Loop}{c:Frame}(hL:L[i]?=some (l,.loop lp))(hl:{lp with state:=.done,pending:=some .ret}=lp')
 (x:RS P md (G (c.finish (.bool false)) cs) (fun h=>St h₀ B₀ p h (L.set i (l,.loop lp'))) Stop):
 RS P md (G (FL f (.some l) tm df (.code .ret::k)) (c::cs)) (fun h=>St h₀ B₀ p h L) Stop:=
 xa4 hL rfl (jump:=some .ret) (by simpa using hl) (fun _=>rfl) x
theorem xrm{l i:Nat}{lp:Loop}(hL:L[i]?=some (l,.loop lp))(hb:lp.state≠.busy)
 (x:RS P md (G (FL f r tm df ((lp.pending.map Item.code).toList++k)) cs) (fun h=>St h₀ B₀ p h (L.set i (l,.loop {lp with state:=.exhausted}))) Stop):
 RS P md (G (FL f r tm df (.endRangeFunc l::k)) cs) (fun h=>St h₀ B₀ p h L) Stop:=by
 intro h s
 refine xbj ⟨rfl,fun h₁ k₁ S w V=>?_⟩
 have s₁:=s.call k₁
 have hx:wpS P (Instr.endLoop l) h₁ fun v' h'=>v'=lp.pending/\St h₀ B₀ p h' (L.set i (l,.loop {lp with state:=.exhausted})):=by
  unfold Instr.endLoop
  refine xbq (xdd (s₁.at hL) ?_)
  rw[if_neg (by cases h:lp.state<;>simp_all)]
  refine xbq (xad (s₁.at hL) ?_)
  exact xcq ⟨rfl,s₁.setObj hL⟩
 obtain⟨v',h',w',es,e1,e2,⟨e3,e4⟩,e5,e6,e7⟩:=xbd _ #[] hx V
 subst e3
 refine⟨_,h',w',seen P f es,?_,x h' e4,e5,e6,xab e7⟩
 simp only[Array.empty_append]at e1
 simp only[G,stepG,stepG.exec,FL,F,B,e1,GStep.after,Array.append_empty]
def loopOf(f:FuncId)(tm:List Value)(params:Array Tmp)(assign body:Code)(r:Nat):Loop:={state:=.ready,pending:=none,fn:=f,tmps:=tm.toArray,params,assign,body,defers:=r}
theorem xw8:∀(l:List (Nat×Value))(tm:List Value),l.foldl (fun(tmps:Array Value)(q:Nat×Value)=>tmps.setIfInBounds q.1 q.2) tm.toArray=(l.foldl (fun tm q=>tm.set q.1 q.2) tm).toArray
 |[],_=>rfl
 |q::l,tm=>by
   simp only[List.foldl_cons]
   rw[<- xw8 l];simp
theorem xan{l d:Nat}{lp:Loop}{vs:List Value}{R:Value->Heap->Prop}{params:List Tmp}{assign body:Code}(hl:h[l]?=some (.loop lp))(e:lp=loopOf f tm params.toArray assign body d)(hp:vs.length=params.length)
 (ht:(params.zip vs).foldl (fun tm q=>tm.set q.1 q.2) tm=tm')
 (x:∀(c:Frame)(cs:List Frame)(Stop:Goroutine->Heap->Prop),(∀v h',R v h'->Reach P md (G (c.finish v) cs) h' Stop)->
  RS P md (G (FL f (.some l) tm' [] [.code assign,.beginRound,.code body]) (c::cs)) Φ Stop)(h0:Φ h):CallV P md (.func (.yield l) #[] #[]) vs h R:=by
 subst e;exact xd3 hl (by simpa[loopOf]using hp) (by
  show((params.toArray.zip vs.toArray).foldl (fun(tmps:Array Value)(q:Nat×Value)=>tmps.setIfInBounds q.1 q.2) tm.toArray)=_
  rw[List.zip_toArray,List.foldl_toArray,xw8,ht]) x h0
theorem xjp{l i:Nat}{lp:Loop}(hL:L[i]?=some (l,.loop lp))(hb:lp.state≠.busy)(hp:lp.pending=none)
 (x:RS P md (G (FL f r tm df k) cs) (fun h=>St h₀ B₀ p h (L.set i (l,.loop {lp with state:=.exhausted}))) Stop):
 RS P md (G (FL f r tm df (.endRangeFunc l::k)) cs) (fun h=>St h₀ B₀ p h L) Stop:=xrm hL hb (by
 have e:(lp.pending.map Item.code).toList++k=k:=by rw[hp];rfl
 rw[e];exact x)
theorem xi8{l i:Nat}{lp:Loop}{j:Code}(hL:L[i]?=some (l,.loop lp))(hb:lp.state≠.busy)(hp:lp.pending=some j)
 (x:RS P md (G (FL f r tm df (.code j::k)) cs) (fun h=>St h₀ B₀ p h (L.set i (l,.loop {lp with state:=.exhausted}))) Stop):
 RS P md (G (FL f r tm df (.endRangeFunc l::k)) cs) (fun h=>St h₀ B₀ p h L) Stop:=xrm hL hb (by
 have e:(lp.pending.map Item.code).toList++k=.code j::k:=by rw[hp];rfl
 rw[e];exact x)
def mark(r:Nat):Deferred:={target:=.collected r,args:=#[]}
theorem xw5{rr:Rd}{fop:Operand}{params:Array Tmp}{assign body:Code}{R:Nat->Nat->Loop->Value->Heap->Prop}
 (hc:∀r l lp h,lp=loopOf f tm params assign body r->St h₀ B₀ p h ((l,.loop lp)::(r,.deferred (some []))::L)->CallV P md (evl tm fop) [.func (.yield l) #[] #[]] h (R r l lp))
 (n:∀r l lp v,lp=loopOf f tm params assign body r->RS P md (G (FL f rr tm (mark r::df) (.endRangeFunc l::k)) cs) (R r l lp v) Stop)(hrr:rr.round=Option.none:=by rfl):
 RS P md (G (FL f rr tm df (.code (.rangeFunc fop params assign body)::k)) cs) (fun h=>St h₀ B₀ p h L) Stop:=by
 intro h s
 refine xbj ⟨rfl,fun h₁ k₁ S w V=>?_⟩
 have s₁:=s.call k₁
 have hx:wpS P (Instr.enterLoop f tm.toArray params assign body none) h₁ fun a h'=>∃r l,a=(l,[mark r])/\
  St h₀ B₀ p h' ((l,.loop (loopOf f tm params assign body r))::(r,.deferred (some []))::L):=by
  unfold Instr.enterLoop
  refine xbq ?_
  refine xbq ?_
  simp only[newObj]
  refine xcq ?_
  refine xbq ?_
  simp only[wpS]
  exact xcq ⟨_,_,rfl,(s₁.push _).push _⟩
 obtain⟨a,h',w',es,e1,e2,⟨r,l,rfl,e4⟩,e5,e6,e7⟩:=xbd _ #[] hx V
 have hup:=hc r l _ h' rfl e4 (FL f rr tm (mark r::df) (.inRangeFunc l::k)) cs Stop fun v h2 y=>n r l _ v rfl h2 y
 obtain⟨nx,h2,w2,es2,g1,g2,g3,g4,g5,g6⟩:=xbd _ #[] hup e5
 simp only[Array.empty_append]at e1 g1
 have hstep:stepG P md.isMain (G (FL f rr tm df (.code (.rangeFunc fop params assign body)::k)) cs) w=
  GStep.after (seen P f es) (stepG.apply P true (FL f rr tm (mark r::df) (.inRangeFunc l::k)) cs none (do let d <- Deferred.ofValue (evl tm fop) #[.func (.yield l) #[] #[]];invoke d.target d.args) w'):=by
  have he:Frame.eval (FL f rr tm (mark r::df) (.inRangeFunc l::k))=evl tm:=by rw[<- xfz];exact yyj
  simp only[G,stepG,stepG.exec,FL,F,B,hrr,e1]
  simp only[FL,F,B,hrr]at he
  simp only[resolve,List.map_toArray,List.map_cons,List.map_nil]
  have e3:({fn:=f,tmps:=tm.toArray,todo:=.inRangeFunc l::k,defers:=[mark r]++df,mode:=.run,kind:=rr.kind,roundOf:=Option.none}:Frame).eval=evl tm:=he
  rw[e3]
  rfl
 have hev:∀e∈seen P f es++seen P f es2,EvX S w2.heap.size e:=fun e he=>by
  rcases Array.mem_append.1 he with he|he
  ·exact yxc g5.size (xab e7 e he)
  ·exact xab g6 e he
 have hkk:(rr.kind==CallKind.early)=false:=by cases rr<;>rfl
 rw[hstep]
 cases nx<;>first|exact g3.elim|skip
 all_goals
  refine⟨_,h2,w2,seen P f es++seen P f es2,?_,g3,g4,e6.trans g5,hev⟩
  simp only[stepG.apply,if_true]
  simp only[g1,GStep.after,FL,F,B,hrr,hkk,Bool.false_eq_true,if_false,G,Array.append_empty]
  try rfl
end
section
variable{h₀ h h':Heap}{B₀:List Nat}{p:PHeap}{L:Pcs}
end
section
variable{P:Program}{tm:List Value}{d:Option Tmp}{ty:TypeId}{pos:String}{aft:Array Edge}{gd:Option (Nat×Bool)}{h:Heap}
theorem xmh{x:Operand}{a:Addr}(hx:evl tm x=.pointer (some a)):Exd P tm ⟨d,.nilCheck x,ty,pos,aft,gd⟩ h (.pointer (some a)):=by
 unfold Exd Ex;simp only[execOp,hx];exact xcq ⟨_,rfl,rfl,rfl⟩
variable{md:Md}{f:FuncId}{r:Rd}{df:List Deferred}{k:List Item}{cs:List Frame}{Stop:Goroutine->Heap->Prop}{ops rest:List Oper}{tm':List Value}{Φ:Heap->Prop}
theorem xzt[sb:Stb Φ]{args:List Operand}{ats:Array TypeId}{x:Operand}{fv v:Value}{vs:List Value}
 (hm:Met ops tm ⟨d,.call ⟨.value x,args.toArray,ats⟩,ty,pos,aft,gd⟩ true)(hx:evl tm x=fv)(hvs:args.map (evl tm)=vs)
 (hc:∀h,Φ h->CallV P md fv vs h fun v' h'=>v'=v/\Keep h h')(ht:putl tm d v=tm')(n:RL P md f r df k cs Stop ops rest tm' Φ):
 RL P md f r df k cs Stop ops (⟨d,.call ⟨.value x,args.toArray,ats⟩,ty,pos,aft,gd⟩::rest) tm Φ:=
 xdf (R:=fun v' h'=>v'=v/\Φ h') hm hx hvs (fun h y=>(hc h y).mono fun _ h'⟨e1,e2⟩=>⟨e1,sb.stb _ _ y e2⟩) fun v' pre e h⟨e1,y⟩=>by subst e1;rw[ht];exact n pre e h y
end
def adrV:Value->Addr
 |.slice (some a) _ _=>a
 |_=>⟨0,0,none⟩
theorem xqm{w:Nat}{y:Value}:∀{es:List (List Value)},(∀e∈es,e.length=w)-> ∀{i j:Nat}{e:List Value},es[i]?=some e->j<e.length->es.flatten.set (i*w+j) y=(es.set i (e.set j y)).flatten
 |[],_,i,_,e,hi,_=>by simp at hi
 |e₀::es,h,i,j,e,hi,hj=>by
   have h0:=h e₀ (by simp)
   cases i with
   |zero=>
     simp at hi;subst hi
     rw[Nat.zero_mul,Nat.zero_add,List.flatten_cons,List.set_cons_zero,List.flatten_cons,List.set_append_left _ _ hj]
   |succ i=>
     simp at hi
     have:=xqm (y:=y) (fun x hx=>h x (by simp[hx])) hi hj
     rw[List.flatten_cons,List.set_cons_succ,List.flatten_cons,List.set_append_right _ _ (by rw[h0,Nat.succ_mul];omega),<- this]
     congr 2
     rw[h0,Nat.succ_mul];omega
theorem OwnS.has{T:TypeId}{w i:Nat}{v:Value}{es:List (List Value)}{X:List (Nat×Obj)}(o:OwnS T w v es X)(hi:i<es.length):
 ∃b cs cap rest,v=.slice (some ⟨b,0,none⟩) es.length cap/\X=[(b,.cells (List.toArray cs) T (0,0))]/\cs=es.flatten++rest/\cs.length=cap*w/\(w=1->cap<=9223372036854775807):=by
 obtain⟨_,⟨_,h,_⟩|h⟩:=o
 ·subst h;simp at hi
 ·exact h
section
variable{P:Program}{md:Md}{f:FuncId}{r:Rd}{df:List Deferred}{k:List Item}{cs:List Frame}{Stop:Goroutine->Heap->Prop}
 {ops rest:List Oper}{tm tm':List Value}{h:Heap}{h₀:Heap}{B₀:List Nat}{p:PHeap}{A X C L:Pcs}{d:Option Tmp}{ty:TypeId}{pos:String}{aft:Array Edge}{gd:Option (Nat×Bool)}
 {T:TypeId}{w:Nat}{v:Value}{es:List (List Value)}
theorem ysc{t e:TypeId}{x:Operand}(o:OwnS T w v es X)(ht:P.underlying t=some (.slice e))(hx:evl tm x=v):
 Exd P tm ⟨d,.call ⟨.builtin .len,#[x],#[t]⟩,ty,pos,aft,gd⟩ h (.int .i64 (es.length:Nat)):=by
 obtain⟨a,cap,e,_⟩:=o.val
 exact xt2 ht (hx.trans e)
theorem ytc{t e:TypeId}{x:Operand}{n:Nat}(o:OwnS T w v es X)(hn:es.length=n)(ht:P.underlying t=some (.slice e))(hx:evl tm x=v):
 Exd P tm ⟨d,.call ⟨.builtin .len,#[x],#[t]⟩,ty,pos,aft,gd⟩ h (.int .i64 (n:Nat)):=by subst hn;exact ysc o ht hx
theorem xmc{t e:TypeId}{x y:Operand}{i:Nat}(o:OwnS T w v es X)(ht:P.underlying t=some (.slice e))(hs:sizeT P e=some w)(hx:evl tm x=v)(hy:evl tm y=.int .i64 (i:Nat))(hi:i<es.length):
 Exd P tm ⟨d,.indexAddr t x y,ty,pos,aft,gd⟩ h (.pointer (some ((adrV v).add (i*w)))):=by
 obtain⟨b,cs,cap,rest,e1,_⟩:=o.has hi
 rw[e1]at hx⊢
 exact xlk ht hs hx hy hi
theorem yrj{t:TypeId}{x:Operand}{i j:Nat}{e:List Value}{u:Value}{a:Addr}(o:OwnS T w v es X)(s:St h₀ B₀ p h (A++(X++C)))(ht:aggT P t=some false)(hx:evl tm x=.pointer (some a))(ha:((adrV v).add (i*w)).add j=a)
 (hi:es[i]?=some e)(hj:e[j]?=some u):Exd P tm ⟨d,.load t x,ty,pos,aft,gd⟩ h u:=by
 obtain⟨b,cs,cap,rest,e1,e2,e3,e4,e5⟩:=o.has (List.getElem?_eq_some_iff.1 hi).1
 subst e1;subst e2;subst ha
 refine xvf ht hx ?_
 simp only[adrV]
 rw[xrx,xrx]
 refine s.ocell (i:=A.length) (cs:=cs.toArray) (T:=T) (z:=(0,0)) (by rw[List.getElem?_append_right (Nat.le_refl _)];simp) ?_
 have:=xzz o.1 hi hj
 rw[List.getElem?_toArray,e3,Nat.zero_add,List.getElem?_append_left (List.getElem?_eq_some_iff.1 this).1]
 exact this
theorem ysw(o:OwnS T w v es X)(n:∀p' a cap,PLe p p'->v=.slice a es.length cap->Sl p' a es.length w es->RL P md f r df k cs Stop ops rest tm (fun h=>St h₀ B₀ p' h (A++C))):
 RL P md f r df k cs Stop ops rest tm (fun h=>St h₀ B₀ p h (A++(X++C))):=fun pre e h s=>by
 obtain⟨p',a,cap,h1,h2,h3,h4,_⟩:=o.last (s.perm (by rw[<- List.append_assoc,<- List.append_assoc];exact List.Perm.append_right C List.perm_append_comm):St h₀ B₀ p h (X++(A++C)))
 exact n p' a cap h1 h3 h4 pre e h h2
theorem ykw{g:Goroutine}(o:OwnS T w v es X)(n:∀p' a cap,PLe p p'->v=.slice a es.length cap->Sl p' a es.length w es->RS P md g (fun h=>St h₀ B₀ p' h (A++C)) Stop):
 RS P md g (fun h=>St h₀ B₀ p h (A++(X++C))) Stop:=fun h s=>by
 obtain⟨p',a,cap,h1,h2,h3,h4,_⟩:=o.last (s.perm (by rw[<- List.append_assoc,<- List.append_assoc];exact List.Perm.append_right C List.perm_append_comm):St h₀ B₀ p h (X++(A++C)))
 exact n p' a cap h1 h3 h4 h h2
theorem ytw{n:Nat}(o:OwnS T w v es X)(hn:es.length=n)(nx:∀p' a cap,PLe p p'->v=.slice a n cap->Sl p' a n w es->RL P md f r df k cs Stop ops rest tm (fun h=>St h₀ B₀ p' h (A++C))):
 RL P md f r df k cs Stop ops rest tm (fun h=>St h₀ B₀ p h (A++(X++C))):=by subst hn;exact ysw o nx
theorem St.forget{p':PHeap}(s:St h₀ B₀ p' h L)(le:PLe p p'):St h₀ B₀ p h L:=
 ⟨s.keep,s.size,fun b o e=>s.per b o (le b o e),fun x hx=>⟨(s.own x hx).1,(by
  cases e:p x.1 with
  |none=>rfl
  |some o=>have h:=(s.own x hx).2.1;rw[le _ _ e]at h;cases h),(s.own x hx).2.2⟩,s.nod⟩
theorem St.perO{b i:Nat}{o:Obj}(s:St h₀ B₀ p h L)(hL:L[i]?=some (b,o)):Per (padd p b o) h:=fun c x hc=>by
 unfold padd at hc
 split at hc
 ·rename_i e;subst e;cases hc;exact s.at hL
 ·exact s.per c x hc
theorem St.leO{b i:Nat}{o:Obj}(s:St h₀ B₀ p h L)(hL:L[i]?=some (b,o)):PLe p (padd p b o):=xvr (s.own _ (mem_of_get? hL)).2.1
end
section
variable{P:Program}{md:Md}{Base:Heap->Prop}{ops rest:List Oper}{tm tm' tmF:List Value}{d:Option Tmp}{ty:TypeId}{pos:String}{aft:Array Edge}{gd:Option (Nat×Bool)}
theorem xq0{T e T':TypeId}{x:Operand}{a:Option Addr}{n c:Nat}{h:Heap}(hT:P.underlying T=some (.slice e))(hx:evl tm x=.slice a n c):
 Exd P tm ⟨d,.binOp .eql T x (.const (.slice none 0 0)) T',ty,pos,aft,gd⟩ h (.bool a.isNone):=by
 refine xux hx rfl (fun K z=>?_) ?_
 ·unfold eqGuard
  rw[if_neg (by decide)]
  exact xcq z
 ·simp only[evl,binOp,Op.equal,Op.maxDepth]
  refine xbq ?_
  rw[show(10000:Nat)=9999+1 from rfl]
  unfold Op.equalIn
  refine xbq (xeq hT ?_)
  cases a with
  |none=>exact xcq (xcq ⟨rfl,rfl⟩)
  |some a=>exact xcq (xcq ⟨rfl,rfl⟩)
end
section
variable{P:Program}{md:Md}{Base:Heap->Prop}{ops full rest:List Oper}{f:FuncId}{r:Rd}{df:List Deferred}{k:List Item}{cs:List Frame}{Stop:Goroutine->Heap->Prop}{tm tm':List Value}
end
inductive Bd (tm:List Value):Option Operand->Nat->Nat->Prop
 |none (d:Nat):Bd tm none d d
 |some {o:Operand} {k:IntKind} {z:Int} (d:Nat) (h:evl tm o=.int k z) (h0:0<=z):Bd tm (some o) d z.toNat
 |nat {o:Operand} {k:IntKind} {z:Nat} (d:Nat) (h:evl tm o=.int k (z:Nat)):Bd tm (some o) d z
def cutA(a:Option Addr)(c l w:Nat):Option Addr:=if c=l then a else a.map (·.add (l*w))
section
variable{P:Program}{h:Heap}{tm:List Value}{d:Option Tmp}{ty:TypeId}{pos:String}{aft:Array Edge}{gd:Option (Nat×Bool)}
theorem xhz{k:IntKind}{z:Int}{y:Nat}{code:BoundsCode}{K:Nat->Heap->Prop}(h0:0<=z)(h1:z<=(y:Nat))(x:K z.toNat h):wpS P (Instr.sliceBound (.int k z) y code) h K:=by
 unfold Instr.sliceBound
 refine xbq (xcq ?_)
 simp only
 rw[if_pos ⟨h0,h1⟩]
 exact xcq x
theorem xcv{b:Bool}{n c l r:Nat}{lo hi:Option Operand}{K:Nat×Nat×Nat->Heap->Prop}(bl:Bd tm lo 0 l)(bh:Bd tm hi n r)(h1:l<=r)(h2:r<=c)(x:K (l,r,c) h):
 wpS P (Instr.sliceBounds b n c (lo.map (evl tm)) (hi.map (evl tm)) none) h K:=by
 unfold Instr.sliceBounds
 refine xbq (xcq ?_)
 have low:∀(b':Bool),wpS P (match lo.map (evl tm)with|some v=>do {let l <- Instr.sliceBound v r (if b' then .slice3C else .sliceB);pure (l,r,c)} | none=>do {let l <- pure 0;pure (l,r,c)}) h K:=by
  intro b'
  cases bl with
  |none=>exact xbq (xcq (xcq x))
  |some _ e h0=>simp only[Option.map_some,e];exact xbq (xhz h0 om (xcq x))
  |nat _ e=>simp only[Option.map_some,e];exact xbq (xhz (Int.natCast_nonneg _) om (xcq (by simpa using x)))
 cases bh with
 |none=>
   simp only[Option.map_none]
   refine xbq (xcq ?_)
   exact low _
 |some _ e h0=>
   simp only[Option.map_some,e]
   refine xbq (xhz h0 om ?_)
   exact low _
 |nat _ e=>
   simp only[Option.map_some,e]
   refine xbq (xhz (Int.natCast_nonneg _) om ?_)
   rw[Int.toNat_natCast]
   exact low _
theorem xlw{t e:TypeId}{x:Operand}{lo hi:Option Operand}{w n c l r:Nat}{a:Option Addr}(ht:P.underlying t=some (.slice e))(hs:sizeT P e=some w)(hx:evl tm x=.slice a n c)(bl:Bd tm lo 0 l)(bh:Bd tm hi n r)
 (h1:l<=r)(h2:r<=c):Exd P tm ⟨d,.slice t x lo hi none,ty,pos,aft,gd⟩ h (.slice (cutA a c l w) (r-l) (c-l)):=by
 refine xuz (s:=Instr.sliceAt t (.slice a n c) (lo.map (evl tm)) (hi.map (evl tm)) none) (by simp only[execOp,hx,Option.map_none]) ?_
 unfold Instr.sliceAt
 refine xbq (xeq ht ?_)
 simp only
 unfold Instr.slice
 refine xbq (xeq ht ?_)
 simp only
 refine xbq (xcv bl bh h1 h2 ?_)
 simp only
 refine xbq (xwq hs ?_)
 exact xcq ⟨rfl,rfl⟩
theorem xn8{t:TypeId}{x:Operand}{lo hi:Option Operand}{l r:Nat}{s:ByteArray}(ht:P.underlying t=some .string)(hx:evl tm x=.string s)(bl:Bd tm lo 0 l)(bh:Bd tm hi s.size r)
 (h1:l<=r)(h2:r<=s.size):Exd P tm ⟨d,.slice t x lo hi none,ty,pos,aft,gd⟩ h (.string (s.extract l r)):=by
 refine xuz (s:=Instr.sliceAt t (.string s) (lo.map (evl tm)) (hi.map (evl tm)) none) (by simp only[execOp,hx,Option.map_none]) ?_
 unfold Instr.sliceAt
 refine xbq (xeq ht ?_)
 simp only
 unfold Instr.slice
 refine xbq (xeq ht ?_)
 simp only[Option.isSome_none,Bool.false_eq_true,if_false]
 refine xbq (xcv bl bh h1 h2 ?_)
 exact xcq ⟨rfl,rfl⟩
theorem Sl.part{p:PHeap}{a:Option Addr}{n c w l r:Nat}{es:List (List Value)}(s:Sl p a n w es)(hc:n<=c)(h1:l<=r)(h2:r<=n):Sl p (cutA a c l w) (r-l) w ((es.drop l).take (r-l)):=
 s.cut h1 h2 fun hlt=>by unfold cutA;rw[if_neg om,s.ne om];rfl
end
section
variable{P:Program}{md:Md}{f:FuncId}{r:Rd}{df:List Deferred}{k:List Item}{cs:List Frame}{Stop:Goroutine->Heap->Prop}{ops rest:List Oper}{tm:List Value}
 {h₀:Heap}{B₀:List Nat}{p:PHeap}{A X C:Pcs}{T:TypeId}{w:Nat}{v:Value}{es:List (List Value)}{n:Nat}{g:Goroutine}
theorem OwnS.room(o:OwnS T w v es X)(hw:0<w){a:Option Addr}{m cap:Nat}(e:v=.slice a m cap):m<=cap:=by
 obtain⟨h1,⟨rfl,rfl,rfl⟩|⟨b,cs,cap',rest,rfl,rfl,hcs,hlen,hcap⟩⟩:=o
 ·cases e;exact Nat.le_refl _
 ·cases e
  have h2:=xmq h1
  have h3:cs.length=es.flatten.length+rest.length:=by rw[hcs];simp
  have:es.length*w<=cap*w:=om
  exact Nat.le_of_mul_le_mul_right this hw
end
theorem xyx:∀{vs:List Value}{e:List Value}{j:Nat},(setl e j vs).length=e.length
 |[],_,_=>rfl
 |v::vs,e,j=>by simp only[setl];rw[xyx];simp
theorem xxb{w:Nat}:∀{vs:List Value}{es:List (List Value)}{i j:Nat}{e:List Value},(∀e∈es,e.length=w)->es[i]?=some e->j+vs.length<=e.length->setl es.flatten (i*w+j) vs=(es.set i (setl e j vs)).flatten
 |[],es,i,j,e,_,hi,_=>by
   have:es.set i e=es:=by
    refine List.ext_getElem? fun m=>?_
    rw[List.getElem?_set]
    split
    ·rename_i h;subst h;rw[if_pos (List.getElem?_eq_some_iff.1 hi).1,hi]
    ·rfl
   simp only[setl];rw[this]
 |v::vs,es,i,j,e,h,hi,hj=>by
   have hil:=(List.getElem?_eq_some_iff.1 hi).1
   have he:e.length=w:=h e (List.mem_of_getElem? hi)
   simp only[List.length_cons]at hj
   simp only[setl]
   rw[xqm h hi om]
   have h2:∀z∈es.set i (e.set j v),z.length=w:=fun z hz=>by
    rcases List.mem_or_eq_of_mem_set hz with q|q
    ·exact h z q
    ·subst q;simpa using he
   have:=xxb (vs:=vs) (es:=es.set i (e.set j v)) (i:=i) (j:=j+1) (e:=e.set j v) h2 (by rw[List.getElem?_set,if_pos rfl,if_pos hil]) (by simp;omega)
   rw[Nat.add_assoc,this,List.set_set]
section
variable{P:Program}{md:Md}{f:FuncId}{r:Rd}{df:List Deferred}{k:List Item}{cs:List Frame}{Stop:Goroutine->Heap->Prop}{ops rest:List Oper}{tm:List Value}
 {h₀:Heap}{B₀:List Nat}{p:PHeap}{A X C:Pcs}{T:TypeId}{w:Nat}{v:Value}{es:List (List Value)}{d:Option Tmp}{ty:TypeId}{pos:String}{aft:Array Edge}{gd:Option (Nat×Bool)}{h:Heap}
theorem xu2{t e:TypeId}{x y:Operand}{i:Int}(o:OwnS T w v es X)(ht:P.underlying t=some (.slice e))(hs:sizeT P e=some w)(hx:evl tm x=v)(hy:evl tm y=.int .i64 i)(h0:0<=i)(hi:i.toNat<es.length):
 Exd P tm ⟨d,.indexAddr t x y,ty,pos,aft,gd⟩ h (.pointer (some ((adrV v).add (i.toNat*w)))):=
 xmc (i:=i.toNat) o ht hs hx (by rw[hy,Int.toNat_of_nonneg h0]) hi
theorem xn7{T':TypeId}{x y:Operand}{i j nsz:Nat}{e vs:List Value}{u:Value}{a:Addr}(o:OwnS T w v es X)(hm:Met ops tm ⟨none,.store T' x y,ty,pos,aft,gd⟩ true)(hs:sizeT P T'=some nsz)(hx:evl tm x=.pointer (some a))(ha:((adrV v).add (i*w)).add j=a)
 (hy:evl tm y=u)(hu:u.cells=vs.toArray)(hn:vs.length=nsz)(h1:vs.all isOne=true)(hi:es[i]?=some e)(hj:j+vs.length<=e.length)
 (n:∀X',OwnS T w v (es.set i (setl e j vs)) X'->RL P md f r df k cs Stop ops rest tm (fun h=>St h₀ B₀ p h (A++(X'++C)))):
 RL P md f r df k cs Stop ops (⟨none,.store T' x y,ty,pos,aft,gd⟩::rest) tm (fun h=>St h₀ B₀ p h (A++(X++C))):=by
 have hil:=(List.getElem?_eq_some_iff.1 hi).1
 obtain⟨b,cs',cap,rs,e1,e2,e3,e4,ec⟩:=o.has hil
 have he:e.length=w:=o.1 e (List.mem_of_getElem? hi)
 have hfl:es.flatten.length=es.length*w:=xmq o.1
 have hmul:(i+1)*w<=es.length*w:=Nat.mul_le_mul_right _ hil
 rw[Nat.add_mul,Nat.one_mul]at hmul
 subst e1;subst e2;subst ha
 have e5:setl cs' (i*w+j) vs=(es.set i (setl e j vs)).flatten++rs:=by
  rw[e3,<- xxb o.1 hi hj]
  have:∀(vs l:List Value)(m:Nat),m+vs.length<=l.length->setl (l++rs) m vs=setl l m vs++rs:=by
   intro vs
   induction vs with
   |nil=>intro l m _;rfl
   |cons v vs ih=>
     intro l m hl
     simp only[List.length_cons]at hl
     simp only[setl]
     rw[List.set_append_left _ _ om,ih _ _ (by simp;omega)]
  exact this vs _ _ om
 have o':OwnS T w (.slice (some ⟨b,0,none⟩) es.length cap) (es.set i (setl e j vs)) [(b,.cells (setl cs' (i*w+j) vs).toArray T (0,0))]:=by
  refine⟨fun z hz=>?_,.inr ⟨b,setl cs' (i*w+j) vs,cap,rs,by simp,rfl,e5,by rw[xyx];exact e4,ec⟩⟩
  rcases List.mem_or_eq_of_mem_set hz with h|h
  ·exact o.1 z h
  ·subst h;rw[xyx];exact he
 have hx':evl tm x=.pointer (some ⟨b,i*w+j,none⟩):=by
  rw[hx];simp only[adrV];rw[xrx,xrx,Nat.zero_add]
 refine xk4 (i:=A.length) (b:=b) (off:=i*w+j) (cs':=cs') (T':=T) hm hs hx' hy (by rw[List.getElem?_append_right (Nat.le_refl _)];simp) (by rw[hu];simpa using hn) (by rw[hu];exact h1) (by rw[hu,e3,List.length_append];simp only[List.size_toArray];omega) (by rw[hu]) ?_
 have e6:(A++([(b,Obj.cells (List.toArray cs') T (0,0))]++C)).set A.length (b,.cells (setl cs' (i*w+j) vs).toArray T (0,0))=A++([(b,.cells (setl cs' (i*w+j) vs).toArray T (0,0))]++C):=by
  rw[List.set_append_right _ _ (Nat.le_refl _)];simp
 rw[e6]
 exact n _ o'
end
end Go.X
namespace Go.X
class AggC(P:Program)(t:TypeId)(b:outParam Bool):Prop where h:aggT P t=some b
class SizeC(P:Program)(t:TypeId)(n:outParam Nat):Prop where h:sizeT P t=some n
class ZeroC(P:Program)(t:TypeId)(v:outParam Value):Prop where h:zeroT P t=some v
class ByC(P:Program)(t:TypeId)(n:outParam Nat):Prop where h:bytesT P t=some n
class SlcC(P:Program)(t:TypeId)(e:outParam TypeId):Prop where h:P.underlying t=some (.slice e)
class PlC(P:Program)(t:TypeId)(l:outParam (List (Nat×Nat))):Prop where h:placesT P t=some l
class FldC(P:Program)(s:TypeId)(i:Nat)(o n:outParam Nat):Prop where h:fieldT P s i=some (o,n+1)
class FiC(P:Program)(t:TypeId)(i:Nat)(o:outParam Nat):Prop where h:∃fs fd,P.underlying t=some (.struct fs)/\fs[i]?=some fd/\fd.offset=o/\aggT P fd.type=some false
end Go.X
namespace Go.X
open Go.Conc
theorem xsf{α:Type}{d:α}{xs ys:List α}(h1:xs.length=ys.length)(h2:∀i,i<xs.length->xs.getD i d=ys.getD i d):xs=ys:=by
 refine List.ext_getElem h1 fun i a b=>?_
 have:=h2 i a
 rw[List.getD_eq_getElem?_getD,List.getD_eq_getElem?_getD,List.getElem?_eq_getElem a,List.getElem?_eq_getElem b]at this
 exact this
def bs(l:List UInt8):ByteArray:=⟨l.toArray⟩
theorem xpv(l:List UInt8):(bs l).size=l.length:=by simp[bs,ByteArray.size]
theorem yvs(l:List UInt8)(i:Nat):(bs l)[i]?=l[i]?:=by
 by_cases h:i<l.length
 ·rw[getElem?_pos (bs l) i (by rw[xpv];exact h),List.getElem?_eq_getElem h];rfl
 ·rw[getElem?_neg (bs l) i (by rw[xpv];exact h),List.getElem?_eq_none om]
theorem yav(l m:List UInt8):bs l++bs m=bs (l++m):=by
 apply ByteArray.ext
 simp[bs]
theorem xug(l:List UInt8)(a b:Nat):(bs l).extract a b=bs ((l.drop a).take (b-a)):=by
 apply ByteArray.ext
 rw[ByteArray.data_extract]
 apply Array.ext'
 simp[bs]
theorem ygg(l m:List UInt8):((bs l).toList==(bs m).toList)=decide (l=m):=by
 rw[<- beq_toListBytes]
 have e:(bs l==bs m)=(l.toArray==m.toArray):=rfl
 rw[e,Bool.eq_iff_iff]
 simp
def sv(l:List UInt8):Value:=.string (bs l)
section
variable{P:Program}{h:Heap}{tm:List Value}{d:Option Tmp}{ty:TypeId}{pos:String}{aft:Array Edge}{gd:Option (Nat×Bool)}{l m:List UInt8}
theorem xd6{t:TypeId}{x:Operand}(ht:P.underlying t=some .string)(hx:evl tm x=sv l):Exd P tm ⟨d,.call ⟨.builtin .len,#[x],#[t]⟩,ty,pos,aft,gd⟩ h (.int .i64 (l.length:Nat)):=by
 have:=yrc (P:=P) (tm:=tm) (d:=d) (ty:=ty) (pos:=pos) (aft:=aft) (gd:=gd) (h:=h) ht hx
 rwa[xpv]at this
theorem xos{t:TypeId}{x:Operand}{lo hi:Option Operand}{a r:Nat}(ht:P.underlying t=some .string)(hx:evl tm x=sv l)(bl:Bd tm lo 0 a)(bh:Bd tm hi l.length r)(h1:a<=r)(h2:r<=l.length):
 Exd P tm ⟨d,.slice t x lo hi none,ty,pos,aft,gd⟩ h (sv ((l.drop a).take (r-a))):=by
 have:=xn8 (P:=P) (tm:=tm) (d:=d) (ty:=ty) (pos:=pos) (aft:=aft) (gd:=gd) (h:=h) ht hx bl (by rw[xpv];exact bh) h1 (by rw[xpv];exact h2)
 rwa[xug]at this
theorem xnp{t:TypeId}{x y:Operand}{k:IntKind}{i:Int}(ht:P.underlying t=some .string)(hx:evl tm x=sv l)(hy:evl tm y=.int k i)(h0:0<=i)(h1:i<l.length):
 Exd P tm ⟨d,.index t x y,ty,pos,aft,gd⟩ h (.int .u8 ((l.getD i.toNat 0).toNat:Nat)):=by
 refine xuz (s:=Instr.index t (sv l) (.int k i)) (by simp only[execOp,hx,hy]) ?_
 unfold Instr.index
 refine xbq (xcq ?_)
 simp only
 refine xbq (xeq ht ?_)
 simp only[sv]
 have e:(bs l)[i.toNat]?=some (l.getD i.toNat 0):=by
  rw[yvs,List.getD_eq_getElem?_getD,List.getElem?_eq_getElem om];rfl
 rw[if_pos h0,e]
 exact xcq ⟨rfl,rfl⟩
theorem xg6{T T':TypeId}{x y:Operand}(hx:evl tm x=sv l)(hy:evl tm y=sv m)(hb:l.length+m.length<=9223372036854775807):Exd P tm ⟨d,.binOp .add T x y T',ty,pos,aft,gd⟩ h (sv (l++m)):=by
 refine xux hx hy (fun K z=>xex rfl z) ?_
 simp only[sv,binOp,Op.stringOp,xpv]
 rw[if_neg (by
  have:(IntKind.i64.max:Int)=9223372036854775807:=by decide
  rw[this];omega),yav]
 exact xcq ⟨rfl,rfl⟩
theorem xu3{op:BinOp}{T:TypeId}{x y:Operand}{a b:ByteArray}{K:Unit->Heap->Prop}(z:K () h):wpS P (eqGuard op T x y (.string a) (.string b)) h K:=by
 unfold eqGuard
 cases op<;>first|(rw[if_pos (by rfl)];exact xcq z)|(rw[if_neg (by decide)];exact xcq z)
theorem xe6{T T':TypeId}{x y:Operand}(hx:evl tm x=sv l)(hy:evl tm y=sv m):Exd P tm ⟨d,.binOp .eql T x y T',ty,pos,aft,gd⟩ h (.bool (decide (l=m))):=by
 refine xux hx hy (fun K z=>xu3 z) ?_
 simp only[sv,binOp,Op.stringOp,ygg]
 exact xcq ⟨rfl,rfl⟩
theorem xc6{T T':TypeId}{x y:Operand}(hx:evl tm x=sv l)(hy:evl tm y=sv m):Exd P tm ⟨d,.binOp .neq T x y T',ty,pos,aft,gd⟩ h (.bool (!decide (l=m))):=by
 refine xux hx hy (fun K z=>xu3 z) ?_
 simp only[sv,binOp,Op.stringOp,ygg]
 exact xcq ⟨rfl,rfl⟩
theorem xf6{src dst:TypeId}{x:Operand}{k k':IntKind}{a n:Int}(hs:∃t,P.underlying src=some t)(hd:P.underlying dst=some (.int k'))(hx:evl tm x=.int k a)(hn:k'.wrap a=n):Exd P tm ⟨d,.convert src dst x,ty,pos,aft,gd⟩ h (.int k' n):=by
 obtain⟨t,hs⟩:=hs
 refine xuz (s:=convert src dst (.int k a)) (by simp only[execOp,hx]) ?_
 unfold convert
 refine xbq (xeq hs ?_)
 refine xbq (xeq hd ?_)
 simp only[Conv.intToInt]
 exact xcq ⟨by rw[hn],rfl⟩
theorem yyl{k:IntKind}{T T':TypeId}{x y:Operand}{a b n:Int}(hx:evl tm x=.int k a)(hy:evl tm y=.int k b)(h0:b≠0)(hn:k.wrap (a.tdiv b)=n):Exd P tm ⟨d,.binOp .quo T x y T',ty,pos,aft,gd⟩ h (.int k n):=by
 refine xux hx hy (fun K z=>xvj z) ?_
 simp only[binOp,ne_eq,not_true,if_false,Op.intDiv,h0]
 exact xcq ⟨by rw[hn],rfl⟩
theorem yxl{k:IntKind}{T T':TypeId}{x y:Operand}{a b n:Int}(hx:evl tm x=.int k a)(hy:evl tm y=.int k b)(h0:b≠0)(hn:a.tmod b=n):Exd P tm ⟨d,.binOp .rem T x y T',ty,pos,aft,gd⟩ h (.int k n):=by
 refine xux hx hy (fun K z=>xvj z) ?_
 simp only[binOp,ne_eq,not_true,if_false,Op.intDiv,h0]
 exact xcq ⟨by rw[hn],rfl⟩
theorem ynj{t:TypeId}{x hi:Operand}{r:Nat}(ht:P.underlying t=some .string)(hx:evl tm x=sv l)(bh:Bd tm (some hi) l.length r)(h2:r<=l.length):Exd P tm ⟨d,.slice t x none (some hi) none,ty,pos,aft,gd⟩ h (sv (l.take r)):=by
 have:=xos (P:=P) (tm:=tm) (d:=d) (ty:=ty) (pos:=pos) (aft:=aft) (gd:=gd) (h:=h) ht hx (.none 0) bh (Nat.zero_le _) h2
 simpa using this
theorem ywj{t:TypeId}{x lo:Operand}{a:Nat}(ht:P.underlying t=some .string)(hx:evl tm x=sv l)(bl:Bd tm (some lo) 0 a)(h2:a<=l.length):Exd P tm ⟨d,.slice t x (some lo) none none,ty,pos,aft,gd⟩ h (sv (l.drop a)):=by
 have:=xos (P:=P) (tm:=tm) (d:=d) (ty:=ty) (pos:=pos) (aft:=aft) (gd:=gd) (h:=h) ht hx bl (.none l.length) h2 (Nat.le_refl _)
 rwa[List.take_of_length_le (by simp)]at this
theorem yan(b:UInt8):b.toNat<=255:=by have:b.toNat<256:=b.toNat_lt;omega
theorem wrB(b:UInt8):IntKind.i64.wrap ((b.toNat:Nat):Int)=((b.toNat:Nat):Int):=wrZ (by have:=yan b;omega)
theorem wr8{n:Int}(h:0<=n/\n<=255):IntKind.u8.wrap n=n:=by
 simp only[IntKind.wrap,IntKind.bits,IntKind.signed]
 simp
 omega
end
theorem wrU{n:Int}(h:0<=n/\n<=18446744073709551615):IntKind.u64.wrap n=n:=by
 show(n%((2:Int)^64))=n
 exact Int.emod_eq_of_lt h.1 om
def marksL(rs:List Nat):List Deferred:=rs.map mark
def marksP(rs:List Nat):Pcs:=rs.map fun r=>(r,.deferred (some []))
section
variable{P:Program}{md:Md}{f:FuncId}{r:Rd}{k:List Item}{cs:List Frame}{Stop:Goroutine->Heap->Prop}{tm:List Value}{Φ:Heap->Prop}[Stb Φ]
 {h₀ h:Heap}{B₀:List Nat}{p:PHeap}{L A C X Y M:Pcs}
theorem ybc{c:Code}{m₀:Nat}{rs₀:List Nat}(I:Nat->List Nat->List Value->Heap->Prop)(start:∀h,Φ h->I m₀ rs₀ tm h)[∀m rs tm,Stb (I m rs tm)]
 (round:∀m rs tm,(∀m' rs' tm',m'<m->RS P md (G (FL f r tm' (marksL rs') (.inLoop c::k)) cs) (I m' rs' tm') Stop)->RS P md (G (FL f r tm (marksL rs) (.code c::.inLoop c::k)) cs) (I m rs tm) Stop):
 RS P md (G (FL f r tm (marksL rs₀) (.code (.loop c)::k)) cs) Φ Stop:=by
 refine xx1 ?_
 suffices H:∀m rs tm,RS P md (G (FL f r tm (marksL rs) (.code c::.inLoop c::k)) cs) (I m rs tm) Stop from fun h y=>H _ _ _ h (start h y)
 intro m
 induction m using Nat.strongRecOn with
 |_ m ih=>exact fun rs tm=>round m rs tm fun m' rs' tm' hlt=>xtl (ih m' hlt rs' tm')
theorem xz3{c₀:Frame}{td:List Item}{df:List Deferred}:∀{rs:List Nat}{L:Pcs},RS P md (G (FR (B f r) tm.toArray df td) (c₀::cs)) (fun h=>St h₀ B₀ p h L) Stop->
 RS P md (G (FR (B f r) tm.toArray (marksL rs++df) td) (c₀::cs)) (fun h=>St h₀ B₀ p h (marksP rs++L)) Stop
 |[],_,x=>x
 |_::rs,_,x=>xdh (fun _ s=>s.at (i:=0) rfl) fun _ s=>xz3 (rs:=rs) x _ (s.setObj (i:=0) rfl).drop
theorem yac{c₀:Frame}{fn:Func}{rv:List ResultVar}{vs:List Value}{v:Value}{rs:List Nat}(hf:P.funcs[f]?=some fn)(hr:fn.results=rv.toArray)
 (e:∀h,St h₀ B₀ p h L->Res P h tm rv vs)(hv:packs vs=v)
 (x:RS P md (G (c₀.finish v) cs) (fun h=>St h₀ B₀ p h L) Stop):RS P md (G (FL f .none tm (marksL rs) (.code .ret::k)) (c₀::cs)) (fun h=>St h₀ B₀ p h (marksP rs++L)) Stop:=
 xz9 (hro:=rfl) fun td=>by
  have:=xz3 (P:=P) (md:=md) (f:=f) (r:=.none) (cs:=cs) (Stop:=Stop) (tm:=tm) (c₀:=c₀) (td:=td) (df:=[]) (rs:=rs) (L:=L) (h₀:=h₀) (B₀:=B₀) (p:=p)
   (xsl (Φ:=fun h=>St h₀ B₀ p h L) hf rfl fun h y=>xcd hr (e h y) hv (x h y))
  rw[List.append_nil]at this
  exact this
end
section
variable{P:Program}{tm:List Value}{h:Heap}{d:Option Tmp}{ty:TypeId}{pos:String}{aft:Array Edge}{gd:Option (Nat×Bool)}
theorem ymv(n:Int):IntKind.u64.wrap n=n%18446744073709551616:=rfl
theorem xh6{T T':TypeId}{x y:Operand}{a b:Nat}(hx:evl tm x=.int .u64 ((a:Nat):Int))(hy:evl tm y=.int .u64 ((b:Nat):Int))(ha:a<18446744073709551616)(hb:b<18446744073709551616):
 Exd P tm ⟨d,.binOp .and T x y T',ty,pos,aft,gd⟩ h (.int .u64 ((a &&& b:Nat):Int)):=
 xux hx hy (fun K z=>xex rfl z) (by
  simp only[binOp,ne_eq,not_true_eq_false,if_false,Op.intBits]
  refine xcq ⟨?_,rfl⟩
  have e:((BitVec.ofInt IntKind.u64.bits ((a:Nat):Int)) &&& (BitVec.ofInt IntKind.u64.bits ((b:Nat):Int))).toNat=a &&& b:=by
   rw[BitVec.toNat_and,BitVec.ofInt_natCast,BitVec.ofInt_natCast,BitVec.toNat_ofNat,BitVec.toNat_ofNat,Nat.mod_eq_of_lt (show a<2^IntKind.u64.bits from ha),Nat.mod_eq_of_lt (show b<2^IntKind.u64.bits from hb)]
  rw[e,wrU ⟨om,by have:=Nat.and_le_left (n:=a) (m:=b);omega⟩])
theorem xa6{T T':TypeId}{x y:Operand}{k k':IntKind}{a s:Nat}(hx:evl tm x=.int k ((a:Nat):Int))(hy:evl tm y=.int k' ((s:Nat):Int))(hs:s<=k.bits):
 Exd P tm ⟨d,.binOp .shr T x y T',ty,pos,aft,gd⟩ h (.int k ((a / 2^s:Nat):Int)):=
 xux hx hy (fun K z=>xex rfl z) (by
  simp only[binOp,Op.shift]
  rw[if_neg om]
  refine xcq ⟨?_,rfl⟩
  rw[Int.toNat_natCast,Nat.min_eq_left hs,Int.fdiv_eq_ediv_of_nonneg _ (by exact Int.pow_nonneg (by decide))]
  simp)
theorem yic{T T':TypeId}{x y:Operand}{k':IntKind}{s:Nat}(hx:evl tm x=.int .u64 1)(hy:evl tm y=.int k' ((s:Nat):Int))(hs:s<=63):
 Exd P tm ⟨d,.binOp .shl T x y T',ty,pos,aft,gd⟩ h (.int .u64 ((2^s:Nat):Int)):=
 xux hx hy (fun K z=>xex rfl z) (by
  simp only[binOp,Op.shift]
  rw[if_neg om]
  refine xcq ⟨?_,rfl⟩
  have h1:2^s<=2^63:=Nat.pow_le_pow_right (by decide) hs
  have h2:s<=IntKind.u64.bits:=by show s<=64;omega
  rw[Int.toNat_natCast,Nat.min_eq_left h2,wrU (by
   have e:(1:Int)*2^s=((2^s:Nat):Int):=by simp
   have h3:(2:Nat)^63=9223372036854775808:=by decide
   rw[e]
   exact⟨Int.natCast_nonneg _,Int.ofNat_le.2 (show 2^s<=18446744073709551615 from by omega)⟩)]
  simp)
theorem ync{T T':TypeId}{x y:Operand}{a b:Nat}(hx:evl tm x=.int .u64 ((a:Nat):Int))(hy:evl tm y=.int .u64 ((b:Nat):Int)):
 Exd P tm ⟨d,.binOp .mul T x y T',ty,pos,aft,gd⟩ h (.int .u64 ((a*b%18446744073709551616:Nat):Int)):=ypj hx hy (by rw[ymv];simp)
theorem ykc{T:TypeId}{x:Operand}{a:Nat}(hx:evl tm x=.int .u64 ((a:Nat):Int))(h0:0<a)(h1:a<18446744073709551616):Exd P tm ⟨d,.unOp .neg T x,ty,pos,aft,gd⟩ h (.int .u64 ((18446744073709551616-a:Nat):Int)):=
 xs2 hx (by rw[ymv];omega)
theorem xoh{t e:TypeId}{x y:Operand}{w len i:Nat}{k:IntKind}{a:Addr}(ht:P.underlying t=some (.array len e))(hs:sizeT P e=some w)(hx:evl tm x=.pointer (some a))(hy:evl tm y=.int k ((i:Nat):Int))(h1:i<len):
 Exd P tm ⟨d,.indexAddr t x y,ty,pos,aft,gd⟩ h (.pointer (some (a.add (i*w)))):=by
 refine xuz (s:=Instr.indexAt t (.pointer (some a)) (.int k ((i:Nat):Int))) (by simp only[execOp,hx,hy]) ?_
 unfold Instr.indexAt
 refine xbq (xcq ?_)
 simp only
 refine xbq (xeq ht ?_)
 simp only[Instr.sureAddr]
 refine xbq ?_
 refine xbq (xcq ?_)
 simp only
 refine xbq (xeq ht ?_)
 simp only
 rw[if_pos ⟨om,om⟩]
 refine xbq (xwq hs ?_)
 exact xcq ⟨by rw[Int.toNat_natCast],rfl⟩
end
def Qr(anc:Nat->List Nat)(Q:Nat->(Nat->Value)->(Nat->Pcs)->Value->Pcs->Prop)(val:Nat->Value)(piece:Nat->Pcs)(i:Nat):Value->Pcs->Prop:=
 Q i (fun j=>if(anc i).contains j=true then val j else undef) (fun j=>if(anc i).contains j=true then piece j else [])
theorem yud{anc:Nat->List Nat}{Q:Nat->(Nat->Value)->(Nat->Pcs)->Value->Pcs->Prop}{val val':Nat->Value}{piece piece':Nat->Pcs}{i:Nat}(h:∀y,(anc i).contains y=true->val y=val' y/\piece y=piece' y):
 Qr anc Q val piece i=Qr anc Q val' piece' i:=by
 unfold Qr
 have e1:(fun j=>if(anc i).contains j=true then val j else undef)=(fun j=>if(anc i).contains j=true then val' j else undef):=by
  funext j;split
  ·rename_i hj;exact(h j hj).1
  ·rfl
 have e2:(fun j=>if(anc i).contains j=true then piece j else [])=(fun j=>if(anc i).contains j=true then piece' j else []):=by
  funext j;split
  ·rename_i hj;exact(h j hj).2
  ·rfl
 rw[e1,e2]
def ancok(ops:List Oper)(m:Nat)(cl:List (List Nat))(anc:Nat->List Nat):Bool:=
 ops.zipIdx.all fun(o,i)=>!decide (i<m)||(anc i).all fun j=>behind cl o j
theorem xw6{ops:List Oper}{m:Nat}{cl:List (List Nat)}{anc:Nat->List Nat}(h:ancok ops m cl anc=true){i j:Nat}{o:Oper}(hi:i<m)(ho:ops[i]?=some o)(hj:(anc i).contains j=true):behind cl o j=true:=by
 unfold ancok at h
 rw[List.all_eq_true]at h
 have:=h (o,i) (by rw[List.mem_zipIdx_iff_getElem?];exact ho)
 simp only[hi,decide_true,Bool.not_true,Bool.false_or,List.all_eq_true]at this
 exact this j (by simpa using hj)
theorem ydv{ops:List Oper}{m:Nat}{cl:List (List Nat)}(hs:stable ops m cl=true){i j:Nat}{o:Oper}(ho:ops[i]?=some o)(h:behind cl o j=true):j<i:=by
 rcases(xvg).1 h with h|⟨k,hk,h⟩
 ·exact(xyq hs ho).1 j h
 ·have h1:=(xyq hs ho).1 k hk
  obtain⟨ok,hok⟩:∃ok,ops[k]?=some ok:=⟨_,List.getElem?_eq_getElem (Nat.lt_trans h1 (List.getElem?_eq_some_iff.1 ho).1)⟩
  exact Nat.lt_trans (xjt hs hok h).1 h1
def OpMix2(P:Program)(md:Md)(ops:List Oper)(tmF:(Nat->Value)->List Value)(h₀:Heap)(B₀:List Nat)(p:PHeap)(A:Pcs)(ini:List Nat)(X:Nat->Pcs)(use:Nat->List Nat)(anc:Nat->List Nat)(Q:Nat->(Nat->Value)->(Nat->Pcs)->Value->Pcs->Prop)(i:Nat)(o:Oper):Prop:=
 ∀val piece,(∀j,(anc i).contains j=true->Qr anc Q val piece j (val j) (piece j))->(∀j∈ini,piece j=X j)->
  (Met ops (tmF val) o true/\ ∀C h,St h₀ B₀ p h ((use i).flatMap piece++(A++C))->
   Exv P (tmF val) o h (fun v h'=>∃x,Qr anc Q val piece i v x/\St h₀ B₀ p h' (x++(A++C)))\/
   (∃g args,(wpS P (execOp (evl (tmF val)) o) h fun n h'=>n=.enter g args/\h'=h)/\CallsX P md g args h (fun v h'=>∃x,Qr anc Q val piece i v x/\St h₀ B₀ p h' (x++(A++C))))\/
   ∀(c:Frame)(cs:List Frame)(Stop:Goroutine->Heap->Prop),(∀v h',(∃x,Qr anc Q val piece i v x/\St h₀ B₀ p h' (x++(A++C)))->Reach P md (G (c.finish v) cs) h' Stop)->wpS P (execOp (evl (tmF val)) o) h (Upon P md c cs Stop))\/
  (Met ops (tmF val) o false/\(use i).flatMap piece=[]/\Qr anc Q val piece i undef [])
section
variable{P:Program}{md:Md}{ops:List Oper}{m:Nat}{f:FuncId}{r:Rd}{df:List Deferred}{k:List Item}{cs:List Frame}{Stop:Goroutine->Heap->Prop}{tm:List Value}
 {h₀:Heap}{B₀:List Nat}{p:PHeap}{A C:Pcs}{ini:List Nat}{X:Nat->Pcs}{use:Nat->List Nat}{anc:Nat->List Nat}{Q:Nat->(Nat->Value)->(Nat->Pcs)->Value->Pcs->Prop}{tmF:(Nat->Value)->List Value}
theorem ygj{rid:Nat}(m:Nat)(cl:List (List Nat))(ini fin emp:List Nat)(X:Nat->Pcs)(use:Nat->List Nat)(anc:Nat->List Nat)(Q:Nat->(Nat->Value)->(Nat->Pcs)->Value->Pcs->Prop)(tmF:(Nat->Value)->List Value)
 (hmix:P.follows .mixedOrders=true)(hst:stable ops m cl=true)(hm:m<=ops.length)(hk:mixok ops m ini use (fin++emp)=true)(hemp:emp.all (fun j=>decide (j<m))=true)(hanc:ancok ops m cl anc=true)(hemp2:∀val piece,Emp (Qr anc Q val piece) emp)(htm:∀val,fills ops val m tm=tmF val)
 (hdl:(ops.all fun o=>match o.dst with|some d=>decide (d<tm.length)|none=>true)=true)
 (st:Mixes (OpMix2 P md ops tmF h₀ B₀ p A ini X use anc Q) 0 (ops.take m))
 (n:∀val piece,(∀j<m,Qr anc Q val piece j (val j) (piece j))->(∀j∈ini,piece j=X j)->RL P md f r df k cs Stop ops (ops.drop m) (tmF val) (fun h=>St h₀ B₀ p h (fin.flatMap piece++(A++C)))):
 RS P md (G (FL f r tm df (.code (.region rid ops.toArray true)::k)) cs) (fun h=>St h₀ B₀ p h (ini.flatMap X++(A++C))) Stop:=by
 refine xb4 fun t=>?_
 unfold Region.schedule
 rw[hmix]
 simp only[Bool.true_or,if_true]
 obtain⟨s,e,hord⟩:=xh0 hst hm t
 rw[e]
 obtain⟨k1,k2,k3,k4,k5,k6⟩:=yob hk
 have hops:∀{i:Nat}{o:Oper},i<m->ops[i]?=some o->noDefer o.op=true/\OpMix2 P md ops tmF h₀ B₀ p A ini X use anc Q i o:=fun{i o}hi ho=>by
  have:=Mixes.at (i:=i) st (by rw[List.getElem?_take,if_pos hi];exact ho)
  rw[Nat.zero_add]at this;exact this
 have hdist:∀(i j:Nat)(o o':Oper)(d:Nat),i<m->j<m->ops[i]?=some o->ops[j]?=some o'->o.dst=some d->o'.dst=some d->i=j:=fun i j o o' d hi hj ho ho' hd hd'=>
  (((xyq hst ho).2.2 hi).2 j o' d hj ho' hd').1.resolve_right fun hne=>hne hd
 have hdlt:∀{i:Nat}{o:Oper}{d:Nat},ops[i]?=some o->o.dst=some d->d<tm.length:=fun{i o d}ho hd=>by
  have:=List.all_eq_true.1 hdl o (List.mem_of_getElem? ho)
  simpa[hd]using this
 have main:∀(s:List Nat)(l:Array Bool)(tmc:List Value)(val:Nat->Value)(piece:Nat->Pcs)(ls:List Nat),Ord ops m l s->l.size=ops.length->tmc.length=tm.length->
  (∀x,(∃(j:Nat)(o:Oper),j<m/\l.getD j false=true/\ops[j]?=some o/\o.dst=some x)->tmc[x]?=(tmF val)[x]?)->
  (∀x,(∀(j:Nat)(o:Oper),j<m->l.getD j false=true->ops[j]?=some o->o.dst≠some x)->tmc[x]?=tm[x]?)->
  (∀j<m,l.getD j false=true->Qr anc Q val piece j (val j) (piece j))->(∀j∈ini,piece j=X j)->ls.Nodup->
  (∀x,x∈ls<->(x∈ini\/(x<m/\l.getD x false=true))/\ ∀k<m,l.getD k false=true->x∉use k)->
  (∀k<m,l.getD k false=true-> ∀x∈use k,x∈ini\/(x<m/\l.getD x false=true))->
  (∀(k:Nat)(o:Oper),l.getD k false=true->ops[k]?=some o-> ∀x∈preds o,l.getD x false=true)->
  RS P md (G (FL f r tmc df (.inRegion ops.toArray (s++List.range' m (ops.length-m))::k)) cs) (fun h=>St h₀ B₀ p h (ls.flatMap piece++(A++C))) Stop:=by
  intro s
  induction s with
  |nil=>
    intro l tmc val piece ls hord _ hl h1 h2 hQ hX hnd hls _ _
    cases hord with
    |nil hall=>
    have:tmc=tmF val:=by
     refine List.ext_getElem? fun x=>?_
     by_cases hx:∃(j:Nat)(o:Oper),j<m/\ops[j]?=some o/\o.dst=some x
     ·obtain⟨j,o,hj,ho,hd⟩:=hx
      exact h1 x ⟨j,o,hj,hall j hj,ho,hd⟩
     ·rw[h2 x fun j o hj _ ho hd=>hx ⟨j,o,hj,ho,hd⟩,<- htm,xtm]
      exact fun j o hj ho hd=>hx ⟨j,o,hj,ho,hd⟩
    subst this
    rw[List.nil_append]
    have hp:ls.Perm (fin++emp):=by
     refine(List.perm_ext_iff_of_nodup hnd k3).2 fun x=>?_
     rw[hls]
     constructor
     ·rintro⟨hx,hu⟩
      rcases k6 x (hx.elim .inr fun y=>.inl y.1)with y|⟨k,hk,y⟩
      ·exact y
      ·exact absurd y (hu k hk (hall k hk))
     ·intro hx
      obtain⟨y,z⟩:=k5 x hx
      exact⟨y.imp id fun y=>⟨y,hall x y⟩,fun k hk _=>z k hk⟩
    have:=n val piece (fun j hj=>hQ j hj (hall j hj)) hX (ops.take m) (List.take_append_drop m ops).symm
    rw[List.length_take,Nat.min_eq_left hm,List.length_drop]at this
    have he:emp.flatMap piece=[]:=(hemp2 val piece).flat fun j hj=>hQ j (by simpa using List.all_eq_true.1 hemp j hj) (hall j (by simpa using List.all_eq_true.1 hemp j hj))
    exact fun h y=>this h (y.perm (by
     have:=(hp.flatMap_right piece).append_right (A++C)
     rwa[List.flatMap_append,he,List.append_nil]at this))
  |cons i s ih=>
    intro l tmc val piece ls hord hsz hl h1 h2 hQ hX hnd hls hcl hpc
    cases hord with
    |@cons _ _ _ o hi ho hn hp hs=>
    have hil:=(List.getElem?_eq_some_iff.1 ho).1
    have hni:l.getD i false=false:=by rw[<- xod om];exact hn
    have hlooks:=((xyq hst ho).2.2 hi)
    have hag:∀x∈looks ops o,tmc[x]?=(tmF val)[x]?:=by
     intro x hx
     by_cases hw:∃(j:Nat)(o':Oper),j<m/\ops[j]?=some o'/\o'.dst=some x
     ·obtain⟨j,o',hj,ho',hd⟩:=hw
      have hpj:=(hlooks.2 j o' x hj ho' hd).2 hx
      exact h1 x ⟨j,o',hj,hp j hpj,ho',hd⟩
     ·rw[h2 x fun j o' hj _ ho' hd=>hw ⟨j,o',hj,ho',hd⟩,<- htm,xtm]
      exact fun j o hj ho hd=>hw ⟨j,o,hj,ho,hd⟩
    have hset:∀j,i≠j->(l.setIfInBounds i true).getD j false=l.getD j false:=fun j e=>getD_set_ne false e
    have hself:(l.setIfInBounds i true).getD i false=true:=by simp[Array.getD,hsz,hil]
    obtain⟨u1,u2⟩:=k4 i o hi ho
    have husein:∀x∈use i,x∈ls:=fun x hx=>by
     rw[hls]
     obtain⟨a,b⟩:=u2 x hx
     refine⟨a.imp id fun a=>⟨a.1,hp x a.2⟩,fun k hk hd hxk=>?_⟩
     by_cases e:k=i
     ·subst e;rw[hni]at hd;cases hd
     ·exact b k hk e hxk
    obtain⟨rest,hperm⟩:=xr4 u1 husein
    have hnd2:=hperm.nodup_iff.1 hnd
    have hrest:∀x,x∈rest<->x∈ls/\x∉use i:=fun x=>by
     rw[hperm.mem_iff,List.mem_append]
     constructor
     ·intro hx
      exact⟨.inr hx,fun hu=>(List.nodup_append.1 hnd2).2.2 x hu x hx rfl⟩
     ·rintro⟨a|a,b⟩
      ·exact absurd a b
      ·exact a
    have hiini:i∉ini:=fun e=>by have:=k2 i e;omega
    have hils:i∉ls:=fun e=>by
     have:=((hls i).1 e).1
     rcases this with a|a
     ·exact hiini a
     ·rw[hni]at a;cases a.2
    have hanl:∀(j:Nat)(oj:Oper),j<m->ops[j]?=some oj->(j=i\/l.getD j false=true)-> ∀y,(anc j).contains y=true->l.getD y false=true:=fun j oj hj hoj hjl y hy=>by
     have hb:=xw6 hanc hj hoj hy
     refine xyk hst hsz hpc j oj y (fun x hx=>⟨(xyq hst hoj).1 x hx,?_⟩) hb
     rcases hjl with rfl|hjl
     ·rw[ho]at hoj;cases hoj;exact hp x hx
     ·exact hpc j oj hjl hoj x hx
    have next:∀v x,Qr anc Q val piece i v x->RS P md (G (FL f r (putl tmc o.dst v) df (.inRegion ops.toArray (s++List.range' m (ops.length-m))::k)) cs) (fun h=>St h₀ B₀ p h (x++(A++(rest.flatMap piece++C)))) Stop:=by
     intro v x hq
     have hv:∀j,i≠j->(fun j=>if j=i then v else val j) j=val j:=fun j e=>if_neg fun e'=>e e'.symm
     have hx':∀j,i≠j->(fun j=>if j=i then x else piece j) j=piece j:=fun j e=>if_neg fun e'=>e e'.symm
     have:=ih (l.setIfInBounds i true) (putl tmc o.dst v) (fun j=>if j=i then v else val j) (fun j=>if j=i then x else piece j) (i::rest) hs (by simpa using hsz) (by rw[xjk];exact hl)
      (fun y hy=>by
       obtain⟨j,o',hj,hlj,ho',hd⟩:=hy
       rw[<- htm,xms hj ho' hd (fun j' o'' hj' ho'' hd'=>hdist j' j o'' o' y hj' hj ho'' ho' hd' hd) (hdlt ho' hd)]
       by_cases e:i=j
       ·subst e
        rw[ho]at ho';cases ho'
        rw[hd]
        simp only[putl,if_true]
        rw[List.getElem?_set_self (by rw[hl];exact hdlt ho hd)]
       ·have hne:o.dst≠some y:=fun hd'=>e (hdist i j o o' y hi hj ho ho' hd' hd)
        rw[hset j e]at hlj
        rw[xik hne,h1 y ⟨j,o',hj,hlj,ho',hd⟩,<- htm,xms hj ho' hd (fun j' o'' hj' ho'' hd'=>hdist j' j o'' o' y hj' hj ho'' ho' hd' hd) (hdlt ho' hd)]
        rw[if_neg fun e'=>e e'.symm])
      (fun y hy=>by
       have hne:o.dst≠some y:=hy i o hi hself ho
       rw[xik hne]
       refine h2 y fun j o' hj hlj ho'=>hy j o' hj ?_ ho'
       by_cases e:i=j
       ·subst e;exact hself
       ·rw[hset j e];exact hlj)
      (fun j hj hlj=>by
       obtain⟨oj,hoj⟩:∃oj,ops[j]?=some oj:=⟨_,List.getElem?_eq_getElem (Nat.lt_of_lt_of_le hj hm)⟩
       have hjl:j=i\/l.getD j false=true:=by
        by_cases e:i=j
        ·exact .inl e.symm
        ·rw[hset j e]at hlj;exact .inr hlj
       have hne:∀y,(anc j).contains y=true->i≠y:=fun y hy e=>by
        have:=hanl j oj hj hoj hjl y hy
        subst e;rw[hni]at this;cases this
       have hr:=yud (Q:=Q) (anc:=anc) (i:=j) (val:=val) (piece:=piece) (val':=fun j=>if j=i then v else val j) (piece':=fun j=>if j=i then x else piece j) fun y hy=>⟨(hv y (hne y hy)).symm,(hx' y (hne y hy)).symm⟩
       by_cases e:i=j
       ·subst e;simp only[if_true];rw[<- hr];exact hq
       ·rw[hset j e]at hlj
        have:=hQ j hj hlj;rw[<- hr,if_neg (fun e'=>e e'.symm),if_neg (fun e'=>e e'.symm)];exact this)
      (fun j hj=>(hx' j (fun e=>by subst e;exact hiini hj)).trans (hX j hj))
      (List.nodup_cons.2 ⟨fun e=>hils ((hrest i).1 e).1,(List.nodup_append.1 hnd2).2.1⟩)
      (fun y=>by
       rw[List.mem_cons,hrest,hls]
       constructor
       ·rintro(rfl|⟨⟨a,b⟩,c⟩)
        ·refine⟨.inr ⟨hi,hself⟩,fun k' hk' hd hy=>?_⟩
         by_cases e:y=k'
         ·subst e
          rcases(u2 y hy).1 with a|a
          ·exact hiini a
          ·exact absurd ((xyq hst ho).1 y a.2) (Nat.lt_irrefl _)
         ·rw[hset k' e]at hd
          rcases hcl k' hk' hd y hy with a|a
          ·exact hiini a
          ·rw[hni]at a;cases a.2
        ·refine⟨a.imp id fun a=>⟨a.1,?_⟩,fun k' hk' hd=>?_⟩
         ·by_cases e:i=y
          ·subst e;exact hself
          ·rw[hset y e];exact a.2
         ·by_cases e:i=k'
          ·subst e;exact c
          ·rw[hset k' e]at hd;exact b k' hk' hd
       ·rintro⟨a,b⟩
        by_cases e:y=i
        ·exact .inl e
        ·refine .inr ⟨⟨a.imp id fun a=>⟨a.1,?_⟩,fun k' hk' hd=>b k' hk' ?_⟩,b i hi hself⟩
         ·have:=a.2;rw[hset y (fun e'=>e e'.symm)]at this;exact this
         ·by_cases e':i=k'
          ·subst e';exact hself
          ·rw[hset k' e'];exact hd)
      (fun k' hk' hd y hy=>by
       by_cases e:i=k'
       ·subst e
        obtain⟨a,_⟩:=u2 y hy
        refine a.imp id fun a=>⟨a.1,?_⟩
        by_cases e':i=y
        ·subst e';exact hself
        ·rw[hset y e'];exact hp y a.2
       ·rw[hset k' e]at hd
        refine(hcl k' hk' hd y hy).imp id fun a=>⟨a.1,?_⟩
        by_cases e':i=y
        ·subst e';exact hself
        ·rw[hset y e'];exact a.2)
      (fun k' o' hd ho' y hy=>by
       have hy2:l.getD y false=true:=by
        by_cases e:i=k'
        ·subst e;rw[ho]at ho';cases ho';exact hp y hy
        ·rw[hset k' e]at hd;exact hpc k' o' hd ho' y hy
       by_cases e':i=y
       ·subst e';exact hself
       ·rw[hset y e'];exact hy2)
     have hfm:rest.flatMap (fun j=>if j=i then x else piece j)=rest.flatMap piece:=by
      have hni':i∉rest:=fun e=>hils ((hrest i).1 e).1
      clear this hperm hnd2 hrest
      induction rest with
      |nil=>rfl
      |cons a r ih'=>
        simp only[List.flatMap_cons]
        rw[ih' (fun e=>hni' (by simp[e])),if_neg (fun e=>hni' (by simp[e]))]
     intro h y
     refine this h ?_
     rw[List.flatMap_cons,hfm]
     simp only[if_true]
     refine y.perm ?_
     rw[List.append_assoc]
     refine List.Perm.append_left x ?_
     rw[<- List.append_assoc,<- List.append_assoc]
     exact List.Perm.append_right C List.perm_append_comm
    have hmixi:=hops hi ho
    have ho2:ops.toArray[i]?=some o:=by simpa using ho
    have hpre:∀h,St h₀ B₀ p h (ls.flatMap piece++(A++C))->St h₀ B₀ p h ((use i).flatMap piece++(A++(rest.flatMap piece++C))):=fun h y=>by
     refine y.perm ?_
     refine((hperm.flatMap_right piece).append_right _).trans ?_
     rw[List.flatMap_append,List.append_assoc]
     refine List.Perm.append_left _ ?_
     rw[<- List.append_assoc,<- List.append_assoc]
     exact List.Perm.append_right C List.perm_append_comm
    have hnd:=hmixi.1
    rcases hmixi.2 val piece (fun j hj=>by
     have hlj:=hanl i o hi ho (.inl rfl) j hj
     exact hQ j (Nat.lt_trans (ydv hst ho (xw6 hanc hi ho hj)) hi) hlj) hX with⟨hmet,hop⟩|⟨hmet,hu,hq⟩
    ·have hmet':=xkh hag hmet
     refine xir ho2 (xxq hmet') xpw (.inr (by revert hnd;cases o.op<;>simp[noDefer])) fun h hb=>?_
     rw[xfz,xns (ops:=ops) hlooks.1 hag]
     rcases hop _ h (hpre h hb)with hx|⟨g,args,hx,hc⟩|hx
     ·refine xfx hx fun n' h'⟨v',e',x,hq,hb'⟩=>?_
      rcases e' with rfl|⟨rfl,rfl⟩
      ·show Reach P md (G ((F (B f r) tmc.toArray df _).finish v') cs) h' Stop
       rw[xcx ho2,xzq]
       exact next v' x hq h' hb'
      ·show Reach P md (G ((F (B f r) tmc.toArray df _).finish undef) cs) h' Stop
       rw[xcx ho2,xzq]
       exact next undef x hq h' hb'
     ·refine xfx hx fun n' h'⟨e',e2⟩=>?_
      subst e';subst e2
      refine hc _ _ _ fun v' h'⟨x,hq,hb'⟩=>?_
      rw[xcx ho2,xzq]
      exact next v' x hq h' hb'
     ·refine hx _ _ _ fun v' h'⟨x,hq,hb'⟩=>?_
      rw[xcx ho2,xzq]
      exact next v' x hq h' hb'
    ·refine xhr ho2 (xxq (xkh hag hmet)) ?_
     rw[xzq]
     intro h hb
     have:=next undef [] hq h
     refine this ?_
     have:=hpre h hb
     rw[hu]at this
     simpa using this
 intro h y
 refine main s _ tm (fun _=>undef) X ini hord (by simp) rfl (fun x hx=>by obtain⟨j,o,hj,hl,_⟩:=hx;simp[Array.getD]at hl) (fun _ _=>rfl) (fun j _ hl=>by simp[Array.getD]at hl) (fun _ _=>rfl) k1
  (fun x=>⟨fun hx=>⟨.inl hx,fun k _ hl=>by simp[Array.getD]at hl⟩,fun hx=>hx.1.elim id fun a=>by simp[Array.getD]at a⟩) (fun k _ hl=>by simp[Array.getD]at hl) (fun k _ hl=>by simp[Array.getD]at hl) h y
end
theorem ycx{w:Nat}{zc:List Value}(hz:zc.length=w)(hw:0<w):∀n:Nat,(List.range (n*w)).map (fun i=>zc.toArray[i%zc.toArray.size]!)=(List.replicate n zc).flatten
 |0=>by simp
 |n+1=>by
   have e:(n+1)*w=n*w+w:=by rw[Nat.add_mul,Nat.one_mul]
   rw[e,List.range_add,List.map_append,ycx hz hw n,List.replicate_succ',List.flatten_append]
   congr 1
   rw[List.flatten_singleton,List.map_map]
   refine List.ext_getElem? fun i=>?_
   rw[List.getElem?_map]
   by_cases hi:i<w
   ·have h1:(n*w+i)%w=i:=by rw[Nat.add_comm,Nat.add_mul_mod_self_right,Nat.mod_eq_of_lt hi]
    rw[List.getElem?_eq_getElem (by simpa using hi),List.getElem?_eq_getElem om]
    simp only[List.getElem_range,Option.map_some,Function.comp,List.size_toArray,hz,h1]
    congr 1
    rw[getElem!_pos zc.toArray i (by simp;omega)];simp
   ·rw[List.getElem?_eq_none (by simp;omega),List.getElem?_eq_none om];rfl
section
variable{P:Program}{md:Md}{f:FuncId}{r:Rd}{df:List Deferred}{k:List Item}{cs:List Frame}{Stop:Goroutine->Heap->Prop}{ops rest:List Oper}{tm:List Value}
 {h₀ h:Heap}{B₀:List Nat}{p:PHeap}{A C:Pcs}{ty:TypeId}{pos:String}{aft:Array Edge}{gd:Option (Nat×Bool)}
theorem xi6{dd:Option Nat}{sT eT:TypeId}{x y:Operand}{n w by':Nat}{z:Value}{zc:List Value}{L:Pcs}(hT:P.underlying sT=some (.slice eT))(hs:sizeT P eT=some w)(hz:zeroT P eT=some z)(hzs:z.cells=zc.toArray)(hzl:zc.length=w)(hw0:0<w)(hw5:w<=100)
 (hb:bytesT P eT=some by')(hx:evl tm x=.int .i64 ((n:Nat):Int))(hy:evl tm y=.int .i64 ((n:Nat):Int))(hn:n<=1000)(hb2:by'<=2^20)(s:St h₀ B₀ p h L):
 Ex P tm ⟨dd,.makeSlice sT x y,ty,pos,aft,gd⟩ h fun v h'=>∃X,OwnS eT w v (List.replicate n zc) X/\St h₀ B₀ p h' (X++L):=by
 have hfl:((List.replicate n zc).flatten).length=n*w:=by simp[hzl]
 have hbuild:∀b,OwnS eT w (.slice (some ⟨b,0,none⟩) n n) (List.replicate n zc) [(b,.cells (List.replicate n zc).flatten.toArray eT (0,0))]:=fun b=>
  OwnS.build rfl (fun e he=>by rw[List.eq_of_mem_replicate he];exact hzl) (by simp) (by have:=Nat.mul_le_mul hn hw5;omega)
 obtain⟨info,hi,hib⟩:∃i,P.info? eT=some i/\i.bytes=by':=by
  unfold bytesT at hb
  cases e:P.info? eT with
  |none=>rw[e]at hb;cases hb
  |some i=>rw[e]at hb;exact⟨i,rfl,Option.some.inj hb⟩
 have hw:IntKind.i64.wrap ((n:Nat):Int)=((n:Nat):Int):=wrZ om
 have hmul:by'*n<=2^20*1000:=Nat.mul_le_mul hb2 hn
 unfold Ex
 simp only[execOp,hx,hy]
 refine xbq ?_
 unfold Instr.makeSlice
 refine xbq (xeq hT ?_)
 simp only[asInt]
 refine xbq (xcq ?_)
 refine xbq (xcq ?_)
 refine xbq (xkx hi ?_)
 simp only[hw,hib]
 rw[if_neg (by
  have h1:¬ ((n:Nat):Int)<0:=om
  have h2:¬ ((by':Nat):Int)*((n:Nat):Int)>2^48:=by
   have:((by':Nat):Int)*((n:Nat):Int)=((by'*n:Nat):Int):=by simp
   rw[this];omega
  simp only[Bool.or_eq_true,decide_eq_true_eq]
  rintro((z|z)|z)
  ·rcases z with z|z
   ·exact h1 z
   ·exact h2 z
  ·exact h1 z
  ·omega)]
 have ask:∀(b:Nat)(K:Unit->Heap->Prop),K () h->wpS P (askRoom b) h K:=by
  intro b K hK
  unfold askRoom
  split
  ·exact⟨rfl,hK⟩
  ·exact xcq hK
 refine xbq (ask _ _ ?_)
 refine xbq (xwq hs ?_)
 simp only[Int.toNat_natCast]
 by_cases h0:n*w=0
 ·have hn0:n=0:=(Nat.mul_eq_zero.1 h0).resolve_right om
  subst hn0
  simp only[Nat.zero_mul,if_true]
  refine xbq (xcq ?_)
  rw[show(Array.range 0).map ((#[]:Array Value)[· % (#[]:Array Value).size]!)=(List.replicate 0 zc).flatten.toArray from by rw[show Array.range 0=(#[]:Array Nat) from by simp,Array.map_empty];rfl]
  refine xbq (xpz ?_)
  refine xcq ?_
  exact xcq ⟨_,rfl,_,hbuild h.size,s.push _⟩
 ·rw[if_neg h0]
  refine xbq (xaz hz ?_)
  refine xbq (xcq ?_)
  have hc:(Array.range (n*w)).map (z.cells[· % z.cells.size]!)=(List.replicate n zc).flatten.toArray:=by
   rw[hzs]
   apply Array.ext'
   simp only[Array.toList_map,Array.toList_range]
   exact ycx hzl hw0 n
  rw[hc]
  refine xbq (xpz ?_)
  refine xcq ?_
  exact xcq ⟨_,rfl,_,hbuild h.size,s.push _⟩
end
section
variable{P:Program}{h:Heap}
theorem xat{t:TypeId}{cs:Array Value}{off n:Nat}{K:Value->Heap->Prop}(ha:aggT P t=some true)(hs:sizeT P t=some n)(x:K (.agg (cs.extract off (off+n))) h):wpS P (part t cs off) h K:=by
 unfold part
 refine xbq (xkb ha ?_)
 rw[if_pos rfl]
 exact xbq (xwq hs (xcq x))
theorem xhj{t:TypeId}{cs:Array Value}{off:Nat}{v:Value}{K:Value->Heap->Prop}(ha:aggT P t=some false)(hv:cs[off]?=some v)(x:K v h):wpS P (part t cs off) h K:=by
 unfold part
 refine xbq (xkb ha ?_)
 rw[if_neg (by simp),hv]
 exact xcq x
theorem xdv{K:Program->Heap->Prop}(x:K P h):wpS P program h K:=by simp only[program,wpS];exact x
def EqOk(P:Program)(d:Nat)(xs ys:Array Value):List Field->Bool->Prop
 |[],r=>r=true
 | f :: fs, r => f.name ≠ "_" /\ ∃a b q, (∀h(K : Value -> Heap -> Prop), K a h -> wpS P (part f.type xs f.offset) h K) /\ (∀h(K : Value -> Heap -> Prop), K b h -> wpS P (part f.type ys f.offset) h K) /\
  (∀h(K:Bool->Heap->Prop),K q h->wpS P (Op.equalIn d f.type a b) h K)/\(q=false/\r=false\/q=true/\EqOk P d xs ys fs r)
theorem xmk{d:Nat}{t:TypeId}{fs:Array Field}{xs ys:Array Value}{r:Bool}{K:Bool->Heap->Prop}(ht:P.underlying t=some (.struct fs))(hp:P.stoodInHeld t=false)(e:EqOk P d xs ys fs.toList r)(k:K r h):
 wpS P (Op.equalIn (d+1) t (.agg xs) (.agg ys)) h K:=by
 simp only[Op.equalIn]
 refine xbq (xeq ht ?_)
 simp only
 refine xbq (xdv ?_)
 rw[if_neg (by rw[hp];simp)]
 rw[<- Array.forIn_toList]
 generalize fs.toList=l at e
 refine xbq ?_
 induction l generalizing h with
 |nil=>
   rw[show r=true from e]at k
   simp only[List.forIn_nil]
   exact xcq (xcq k)
 |cons f l ih=>
   obtain⟨hn,a,b,q,ha,hb,hq,hr⟩:=e
   simp only[List.forIn_cons]
   refine xbq ?_
   rw[if_pos hn]
   refine xbq (ha _ _ ?_)
   refine xbq (hb _ _ ?_)
   refine xbq (hq _ _ ?_)
   rcases hr with⟨rfl,rfl⟩|⟨rfl,hr⟩
   ·exact xcq (xcq (xcq k))
   ·exact xcq (ih k hr)
theorem xlb{d:Nat}{t:TypeId}{k:IntKind}{a b:Int}{K:Bool->Heap->Prop}(ht:P.underlying t=some (.int k))(x:K (decide (a=b)) h):wpS P (Op.equalIn (d+1) t (.int k a) (.int k b)) h K:=by
 simp only[Op.equalIn]
 refine xbq (xeq ht ?_)
 simp only[if_true,ibeq]
 exact xcq x
variable{tm:List Value}{d:Option Tmp}{ty:TypeId}{pos:String}{aft:Array Edge}{gd:Option (Nat×Bool)}
theorem xwm{op:BinOp}{T:TypeId}{x y:Operand}{xs ys:Array Value}{K:Unit->Heap->Prop}(hg:P.eqGuardType P.depth T=false)(z:K () h):wpS P (eqGuard op T x y (.agg xs) (.agg ys)) h K:=by
 unfold eqGuard
 cases op<;>first|(rw[if_pos (by rfl)];exact xcq z)|(rw[if_neg (by decide)];refine xbq (xdv (xbq (xdv ?_)));rw[if_pos (by rw[hg];rfl)];exact xcq z)
theorem yvj{T T':TypeId}{x y:Operand}{xs ys:Array Value}{q:Bool}(hg:P.eqGuardType P.depth T=false)(e:∀h(K:Bool->Heap->Prop),K q h->wpS P (Op.equalIn (9999+1) T (.agg xs) (.agg ys)) h K)(hx:evl tm x=.agg xs)(hy:evl tm y=.agg ys):
 Exd P tm ⟨d,.binOp .eql T x y T',ty,pos,aft,gd⟩ h (.bool q):=by
 refine xux hx hy (fun K z=>xwm hg z) ?_
 simp only[binOp,Op.equal,Op.maxDepth]
 refine xbq (e _ _ ?_)
 exact xcq ⟨rfl,rfl⟩
theorem xo8{T T':TypeId}{x y:Operand}{xs ys:Array Value}{q:Bool}(hg:P.eqGuardType P.depth T=false)(e:∀h(K:Bool->Heap->Prop),K q h->wpS P (Op.equalIn (9999+1) T (.agg xs) (.agg ys)) h K)(hx:evl tm x=.agg xs)(hy:evl tm y=.agg ys):
 Exd P tm ⟨d,.binOp .neq T x y T',ty,pos,aft,gd⟩ h (.bool (!q)):=by
 refine xux hx hy (fun K z=>xwm hg z) ?_
 simp only[binOp,Op.equal,Op.maxDepth]
 refine xbq (e _ _ ?_)
 exact xcq ⟨rfl,rfl⟩
end
section
variable{T:TypeId}{w:Nat}{v:Value}{es:List (List Value)}{X:Pcs}{p p':PHeap}
theorem OwnS.inP(o:OwnS T w v es X)(hp:∀x∈X,p x.1=some x.2):∃a cap,v=.slice a es.length cap/\Sl p a es.length w es:=by
 obtain⟨hw,⟨rfl,rfl,rfl⟩|⟨b,cs,cap,rest,rfl,rfl,hcs,hlen,hcap⟩⟩:=o
 ·exact⟨none,0,rfl,.nil _ _ _⟩
 ·refine⟨some ⟨b,0,none⟩,cap,rfl,rfl,hw,fun _=>rfl,?_⟩
  intro i e hi j x hj
  show pcell _ (((⟨b,0,none⟩:Addr).add (i*w)).add j)=_
  rw[xrx,xrx]
  unfold pcell
  simp only[hp (b,.cells cs.toArray T (0,0)) (by simp),Option.isSome_none,Bool.false_eq_true,if_false,List.getElem?_toArray,Nat.zero_add]
  rw[hcs,List.getElem?_append_left]
  ·exact xzz hw hi hj
  ·exact(List.getElem?_eq_some_iff.1 (xzz hw hi hj)).1
end
section
variable{p:PHeap}{es fs:List (List Value)}{xss yss:List (List Int)}{Z Y:Pcs}
end
section
variable{P:Program}{h:Heap}{h₀:Heap}{B₀:List Nat}{p:PHeap}{C A:Pcs}
theorem ylv(a:Addr)(w:Nat):a.add (0*w)=a:=by
 rw[Nat.zero_mul]
 cases a with
 |mk b off spot=>unfold Addr.add;cases spot<;>simp
theorem ycd(a:Option Addr)(c w:Nat):cutA a c 0 w=a:=by
 unfold cutA
 split
 ·rfl
 ·cases a with
  |none=>rfl
  |some a=>simp only[Option.map_some,ylv]
theorem xkp{tm:List Value}{d:Option Tmp}{ty:TypeId}{pos:String}{aft:Array Edge}{gd:Option (Nat×Bool)}{t e:TypeId}{x y z:Operand}{w n c:Nat}{k k':IntKind}{a:Option Addr}(ht:P.underlying t=some (.slice e))(hs:sizeT P e=some w)(hx:evl tm x=.slice a n c)
 (hy:evl tm y=.int k ((n:Nat):Int))(hz:evl tm z=.int k' ((n:Nat):Int))(h2:n<=c):Exd P tm ⟨d,.slice t x none (some y) (some z),ty,pos,aft,gd⟩ h (.slice a n n):=by
 refine xuz (s:=Instr.sliceAt t (.slice a n c) none (some (.int k ((n:Nat):Int))) (some (.int k' ((n:Nat):Int)))) (by simp only[execOp,hx,hy,hz,Option.map_none,Option.map_some]) ?_
 unfold Instr.sliceAt
 refine xbq (xeq ht ?_)
 simp only
 unfold Instr.slice
 refine xbq (xeq ht ?_)
 simp only
 refine xbq (xfx (K:=fun q h'=>q=(0,n,n)/\h'=h) ?_ fun q h'⟨eq,eh⟩=>?_)
 ·unfold Instr.sliceBounds
  refine xbq (xhz (Int.natCast_nonneg _) om ?_)
  rw[Int.toNat_natCast]
  simp only
  refine xbq (xhz (Int.natCast_nonneg _) om ?_)
  rw[Int.toNat_natCast]
  exact xbq (xcq (xcq ⟨rfl,rfl⟩))
 ·subst eq;subst eh
  simp only
  refine xbq (xwq hs ?_)
  refine xcq ⟨?_,rfl⟩
  have:=ycd a n w
  unfold cutA at this
  rw[this,Nat.sub_zero]
end
section
variable{P:Program}{md:Md}{ops:List Oper}{tm':List Value}{h₀:Heap}{B₀:List Nat}{p:PHeap}{A:Pcs}{ty:TypeId}{pos:String}{aft:Array Edge}{gd:Option (Nat×Bool)}
variable{md':Md}{f:FuncId}{r:Rd}{df:List Deferred}{k:List Item}{cs:List Frame}{Stop:Goroutine->Heap->Prop}{rest:List Oper}{C:Pcs}
end
theorem yil{Q:Prop}{T:TypeId}{w n:Nat}{v:Value}{es:List (List Value)}{X L:Pcs}{p:PHeap}{h₀ h:Heap}{B₀:List Nat}(o:OwnS T w v es X)(hn:es.length=n)(s:St h₀ B₀ p h L)(hX:∀x∈X,x∈L)
 (c:∀p' a cap,Per p' h->PLe p p'->v=.slice a n cap->Sl p' a n w es->Q):Q:=by
 subst hn
 rcases o.2 with⟨_,_,e⟩|⟨b,cs,cap,rest,_,e,_⟩
 ·obtain⟨a,cap,e1,sl⟩:=o.inP (p:=p) (by rw[e];simp)
  exact c p a cap s.per (.refl p) e1 sl
 ·obtain⟨i,hi⟩:=List.mem_iff_getElem?.1 (hX (b,.cells (List.toArray cs) T (0,0)) (by rw[e];simp))
  obtain⟨a,cap',e3,sl⟩:=o.inP (p:=padd p b (.cells (List.toArray cs) T (0,0))) (by rw[e];intro x hx;rw[List.mem_singleton.1 hx];exact xrk)
  exact c _ a cap' (s.perO hi) (s.leO hi) e3 sl
theorem yrb{Q:Prop}{T:TypeId}{w n:Nat}{v:Value}{es:List (List Value)}{X L:Pcs}{p:PHeap}{h₀ h:Heap}{B₀:List Nat}(o:OwnS T w v es X)(hn:es.length=n)(s:St h₀ B₀ p h L)(hX:∀x∈X,x∈L){bt:Nat}{ob:Obj}(hb:(bt,ob)∈L)
 (c:∀p' a cap,Per p' h->PLe p p'->v=.slice a n cap->Sl p' a n w es->p' bt=some ob->Q):Q:=by
 subst hn
 have own:∀x∈L,h[x.1]?=some x.2/\p x.1=none:=fun x hx=>⟨(s.own x hx).1,(s.own x hx).2.1⟩
 let p':PHeap:=fun b=>if b=bt then some ob else match X.find? (fun x=>x.1==b)with
  |some x=>some x.2
  |none=>p b
 have hper:Per p' h:=fun b o' e=>by
  simp only[p']at e
  split at e
  ·rename_i hb';subst hb';cases e;exact(own _ hb).1
  ·split at e
   ·rename_i x hx
    have hm:=List.mem_of_find?_eq_some hx
    have he:=List.find?_some hx
    simp only[beq_iff_eq]at he
    cases e;subst he
    exact(own x (hX x hm)).1
   ·exact s.per b o' e
 have hle:PLe p p':=fun b o' e=>by
  simp only[p']
  rw[if_neg (fun hb'=>by subst hb';rw[(own _ hb).2]at e;cases e)]
  split
  ·rename_i x hx
   have hm:=List.mem_of_find?_eq_some hx
   have he:=List.find?_some hx
   simp only[beq_iff_eq]at he
   subst he
   rw[(own x (hX x hm)).2]at e;cases e
  ·exact e
 have hpx:∀x∈X,p' x.1=some x.2:=fun x hx=>by
  have key:∀y:Nat×Obj,y∈L->y.1=x.1->y.2=x.2:=fun y hy e=>by
   have h1:=(own y hy).1;have h2:=(own x (hX x hx)).1
   rw[e,h2]at h1;exact(Option.some.inj h1).symm
  simp only[p']
  split
  ·rename_i e;exact congrArg some (key (bt,ob) hb e.symm)
  ·split
   ·rename_i y hy
    have hm:=List.mem_of_find?_eq_some hy
    have he:=List.find?_some hy
    simp only[beq_iff_eq]at he
    exact congrArg some (key y (hX y hm) he)
   ·rename_i hy
    have:=List.find?_eq_none.1 hy x hx
    simp at this
 obtain⟨a,cap,e1,sl⟩:=o.inP (p:=p') hpx
 exact c p' a cap hper hle e1 sl (by simp[p'])
theorem xas{Q:Prop}{L Z:Pcs}{p:PHeap}{h₀ h:Heap}{B₀:List Nat}(s:St h₀ B₀ p h L)(hZ:∀x∈Z,x∈L)(c:∀p',Per p' h->PLe p p'->(∀x∈Z,p' x.1=some x.2)->Q):Q:=by
 have own:∀x∈L,h[x.1]?=some x.2/\p x.1=none:=fun x hx=>⟨(s.own x hx).1,(s.own x hx).2.1⟩
 let p':PHeap:=fun b=>match Z.find? (fun x=>x.1==b)with
  |some x=>some x.2
  |none=>p b
 refine c p' (fun b o' e=>?_) (fun b o' e=>?_) (fun x hx=>?_)
 ·simp only[p']at e
  split at e
  ·rename_i x hx
   have hm:=List.mem_of_find?_eq_some hx
   have he:=List.find?_some hx
   simp only[beq_iff_eq]at he
   cases e;subst he
   exact(own x (hZ x hm)).1
  ·exact s.per b o' e
 ·simp only[p']
  split
  ·rename_i x hx
   have hm:=List.mem_of_find?_eq_some hx
   have he:=List.find?_some hx
   simp only[beq_iff_eq]at he
   subst he
   rw[(own x (hZ x hm)).2]at e;cases e
  ·exact e
 ·simp only[p']
  split
  ·rename_i y hy
   have hm:=List.mem_of_find?_eq_some hy
   have he:=List.find?_some hy
   simp only[beq_iff_eq]at he
   have h1:=(own y (hZ y hm)).1;have h2:=(own x (hZ x hx)).1
   rw[he,h2]at h1
   exact congrArg some (Option.some.inj h1).symm
  ·rename_i hy
   have:=List.find?_eq_none.1 hy x hx
   simp at this
theorem ymt{Q:Prop}{T T':TypeId}{w w' n n':Nat}{v v':Value}{es es':List (List Value)}{X X' L:Pcs}{p:PHeap}{h₀ h:Heap}{B₀:List Nat}(o:OwnS T w v es X)(hn:es.length=n)(o':OwnS T' w' v' es' X')(hn':es'.length=n')(s:St h₀ B₀ p h L)(hX:∀x∈X++X',x∈L)
 (c:∀p' a cap a' cap',Per p' h->PLe p p'->v=.slice a n cap->v'=.slice a' n' cap'->Sl p' a n w es->Sl p' a' n' w' es'->Q):Q:=
 xas s hX fun p' hp le hz=>by
  subst hn;subst hn'
  obtain⟨a,cap,e1,sl⟩:=o.inP (p:=p') fun x hx=>hz x (List.mem_append_left _ hx)
  obtain⟨a',cap',e2,sl'⟩:=o'.inP (p:=p') fun x hx=>hz x (List.mem_append_right _ hx)
  exact c p' a cap a' cap' hp le e1 e2 sl sl'
section
variable{P:Program}{f:FuncId}{r:Rd}{df:List Deferred}{k:List Item}{cs:List Frame}{Stop:Goroutine->Heap->Prop}{ops rest:List Oper}{tm:List Value}
 {h₀:Heap}{B₀:List Nat}{p:PHeap}{L:Pcs}{ty:TypeId}{pos:String}{aft:Array Edge}{gd:Option (Nat×Bool)}
def Byts(p:PHeap)(a:Option Addr)(n:Nat)(l:List UInt8):Prop:=Sl p a n 1 (bcs l)
theorem Byts.len{a:Option Addr}{n:Nat}{l:List UInt8}(s:Byts p a n l):l.length=n:=by have:=Sl.len s;simpa[bcs]using this
theorem Byts.get{a:Option Addr}{n i:Nat}{l:List UInt8}(s:Byts p a n l)(hk:i<n):pcell p ((adr a).add (i*1))=some (.int .u8 (((l.getD i 0).toNat:Nat):Int)):=by
 have hl:=s.len
 exact Sl.get s i [.int .u8 (((l.getD i 0).toNat:Nat):Int)] (by rw[bcs,List.getElem?_map,List.getD_eq_getElem?_getD,List.getElem?_eq_getElem om];rfl) 0 _ rfl
end
section
variable{P:Program}{h h₀:Heap}{B₀:List Nat}{p:PHeap}{A X C:Pcs}{tm:List Value}{d:Option Tmp}{ty:TypeId}{pos:String}{aft:Array Edge}{gd:Option (Nat×Bool)}
theorem xdt(f:Value->ByteArray->Sem (ForInStep ByteArray))(hf:∀(n:Int)(r:ByteArray)(K:ForInStep ByteArray->Heap->Prop),K (.yield (r.push (UInt8.ofNat n.toNat))) h->wpS P (f (.int .u8 n) r) h K):
 ∀(l:List UInt8)(m:List UInt8)(K:ByteArray->Heap->Prop),K (bs (m++l)) h->wpS P (forIn (l.map fun b=>Value.int .u8 ((b.toNat:Nat):Int)) (bs m) f) h K:=by
 intro l
 induction l with
 |nil=>intro m K k;rw[List.append_nil]at k;exact xcq k
 |cons b l ih=>
   intro m K k
   rw[List.map_cons,List.forIn_cons]
   refine xbq (hf _ _ _ ?_)
   have e:(bs m).push (UInt8.ofNat (((b.toNat:Nat):Int)).toNat)=bs (m++[b]):=by
    apply ByteArray.ext
    simp[bs]
   rw[e]
   refine ih _ _ ?_
   rw[List.append_assoc]
   exact k
end
section
variable{P:Program}{h:Heap}{tm:List Value}{d:Option Tmp}{ty:TypeId}{pos:String}{aft:Array Edge}{gd:Option (Nat×Bool)}
theorem xy6{d:Nat}{t:TypeId}{a b:Bool}{K:Bool->Heap->Prop}(ht:P.underlying t=some .bool)(x:K (a==b) h):wpS P (Op.equalIn (d+1) t (.bool a) (.bool b)) h K:=by
 simp only[Op.equalIn]
 refine xbq (xeq ht ?_)
 exact xcq x
theorem xr0{op:BinOp}{T:TypeId}{x y:Operand}{a b:Bool}{K:Unit->Heap->Prop}(z:K () h):wpS P (eqGuard op T x y (.bool a) (.bool b)) h K:=by
 unfold eqGuard
 cases op<;>first|(rw[if_pos (by rfl)];exact xcq z)|(rw[if_neg (by decide)];exact xcq z)
end
end Go.X
