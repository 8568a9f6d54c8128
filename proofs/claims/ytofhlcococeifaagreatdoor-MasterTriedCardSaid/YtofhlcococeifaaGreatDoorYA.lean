/-
  Part of proofs about a town's master: a calculus for Bc beside goroutines that are only leaving, and the Bc. No condition.
-/
import Derived.Test.YtofhlcococeifaaGreatDoorYO
import Derived.Conc.Beside
import Derived.IntWalk
import Derived.Orders
import Derived.Laws.StructEq
import Derived.Lib.ConvBytes
import Derived.Calls
import Derived.Carry
set_option maxHeartbeats 1600000
namespace Go.X
open Go.Conc
variable{tmF:(Nat->Value)->List Value}{ats:Array TypeId}{ys:Array Value}{xss yss:List (List Int)}{cl:List (List Nat)}{es es' news:List (List Value)}{pl:List (Nat×Nat)}{xs:List Int}{ini rs₀ zz:List Nat}{l:List UInt8}{cap first tm tm' vs zc:List Value}{b by' dd i id j m₀ n nsz off w:Nat}{anc use:Nat->List Nat}{gd:Option (Nat×Bool)}{P:Program}{α:Type}{T T' dst eT eX sT src t ty xT:TypeId}{fv u v z:Value}{w':World}
abbrev Heap:=Array Obj
variable{h h' z9:Heap}{Base Φ Ψ:Heap->Prop}{K R R':Value->Heap->Prop}
def cell?(h:Heap)(a:Addr):Option Value:=
 match h[a.block]? with
 |some (.cells c _ _)=>if a.spot.isSome then none else c[a.off]?
 |_=>none
def frozenAt(h:Heap)(a:Addr):Bool:=
 match h[a.block]? with
 |some (.cells _ _ (lo,hi))=>lo<=a.off&&a.off<hi
 |_=>false
def setCell(h:Heap)(a:Addr)(v:Value):Heap:=
 h.modify a.block fun
  |.cells c H frozen=>.cells (if a.spot.isSome then c else c.setIfInBounds a.off v) H frozen
  |o=>o
def B6(h:Heap)(a:Addr)(n:Nat):Heap:=
 if n=0 then h else
 h.modify a.block fun
  |.cells c H (lo,hi)=>.cells c H (if lo==hi then(a.off,a.off+n)else(min lo a.off,max hi (a.off+n)))
  |o=>o
def Bj:Value->Bool
 |.agg _=>false
 |.tuple _=>false
 |_=>true
def seenAt(h:Heap)(a:Addr):Prop:=∃c e f,h[a.block]?=some (.cells c e f)/\0<c.size
def N8(h:Heap)(a:Addr):Prop:=((cell? h a).isSome=true/\frozenAt h a=false)\/ ∃c e,h[a.block]?=some (.cells c e (0,0))/\0<c.size
def Kb:Mark->Bool
 |.extern _=>true
 |.noRoom=>true
 |_=>false
def wpS{α:Type}(P:Program):Sem α->Heap->(α->Heap->Prop)->Prop
 |.pure a,h,K=>K a h
 |.load m a k,h,K=>m=.plain/\ ∃v,cell? h a=some v/\wpS P (k v) h K
 |.store m a v k,h,K=>m=.plain/\Bj v=true/\(∃u,cell? h a=some u)/\frozenAt h a=false/\wpS P k (setCell h a v) K
 |.new o k,h,K=>wpS P (k h.size) (h.push o) K
 |.shape r k,h,K=>match h[r]? with
   |some (.cells c e _)=>0<c.size/\wpS P (k (some (e,c.size))) h K
   |_=>wpS P (k none) h K
 |.freeze a n k,h,K=>(∃c e f,h[a.block]?=some (.cells c e f)/\0<c.size/\f≠(0,c.size))/\wpS P k (B6 h a n) K
 |.frozen a k,h,K=>seenAt h a/\(N8 h a->wpS P (k false) h K)/\(¬ N8 h a-> ∀b,wpS P (k b) h K)
 |.getObj r k,h,K=>match h[r]? with
   |some (.cells ..)=>False
   |some o=>o.isChan=false/\wpS P (k o) h K
   |none=>False
 |.setObj r o k,h,K=>match h[r]? with
   |some (.cells ..)=>False
   |some o'=>o'.isChan=false/\o.isChan=false/\wpS P k (h.setIfInBounds r o) K
   |none=>False
 |.choose q k,h,K=>if q.forced then wpS P (k 0) h K else ∀t,wpS P (k (q.cut t)) h K
 |.sys _ _,_,_=>False
 |.program k,h,K=>wpS P (k P) h K
 |.mark m k,h,K=>Kb m=true/\wpS P k h K
 |.halt _,_,_=>False
section
variable{β:Type}
theorem xex{s:Sem α}:∀{h:Heap}{K K':α->Heap->Prop},wpS P s h K->(∀a h,K a h->K' a h)->wpS P s h K':=by
 induction s with
 |pure a=>exact fun x y=>y _ _ x
 |load m a k ih=>exact fun⟨x,v,y,z⟩q=>⟨x,v,y,ih v z q⟩
 |store m a v k ih=>exact fun⟨x,o,y,z,t⟩q=>⟨x,o,y,z,ih t q⟩
 |new o k ih=>exact fun x q=>ih _ x q
 |shape r k ih=>
   intro h K K' x q;unfold wpS at x⊢;split at x
   ·exact⟨x.1,ih _ x.2 q⟩
   ·exact ih _ x q
 |freeze a n k ih=>exact fun x q=>⟨x.1,ih x.2 q⟩
 |frozen a k ih=>exact fun x q=>⟨x.1,fun e=>ih _ (x.2.1 e) q,fun e b=>ih _ (x.2.2 e b) q⟩
 |getObj r k ih=>
   intro h K K' x q;unfold wpS at x⊢;split at x
   ·exact x
   ·exact⟨x.1,ih _ x.2 q⟩
   ·exact x
 |setObj r o k ih=>
   intro h K K' x q;unfold wpS at x⊢;split at x
   ·exact x
   ·exact⟨x.1,x.2.1,ih x.2.2 q⟩
   ·exact x
 |choose qn k ih=>
   intro h K K' x q;unfold wpS at x⊢;split at x
   ·rename_i hf;rw[if_pos hf];exact ih _ x q
   ·rename_i hf;rw[if_neg hf];exact fun t=>ih _ (x t) q
 |sys c k ih=>exact fun x _=>x.elim
 |program k ih=>exact fun x q=>ih _ x q
 |mark m k ih=>exact fun⟨x,y⟩q=>⟨x,ih y q⟩
 |halt h=>exact fun x _=>x.elim
theorem xxd{s:Sem α}{f:α->Sem β}:∀{h:Heap}{K:β->Heap->Prop},wpS P s h (fun a h'=>wpS P (f a) h' K)->wpS P (s.bind f) h K:=by
 induction s with
 |pure a=>exact id
 |load m a k ih=>exact fun⟨x,v,y,z⟩=>⟨x,v,y,ih v z⟩
 |store m a v k ih=>exact fun⟨x,o,y,z,t⟩=>⟨x,o,y,z,ih t⟩
 |new o k ih=>exact fun x=>ih _ x
 |shape r k ih=>
   intro h K x;unfold Sem.bind;unfold wpS at x⊢;split at x
   ·exact⟨x.1,ih _ x.2⟩
   ·exact ih _ x
 |freeze a n k ih=>exact fun x=>⟨x.1,ih x.2⟩
 |frozen a k ih=>exact fun x=>⟨x.1,fun e=>ih _ (x.2.1 e),fun e b=>ih _ (x.2.2 e b)⟩
 |getObj r k ih=>
   intro h K x;unfold Sem.bind;unfold wpS at x⊢;split at x
   ·exact x
   ·exact⟨x.1,ih _ x.2⟩
   ·exact x
 |setObj r o k ih=>
   intro h K x;unfold Sem.bind;unfold wpS at x⊢;split at x
   ·exact x
   ·exact⟨x.1,x.2.1,ih x.2.2⟩
   ·exact x
 |choose qn k ih=>
   intro h K x;unfold Sem.bind;unfold wpS at x⊢;split at x
   ·rename_i hf;rw[if_pos hf];exact ih _ x
   ·rename_i hf;rw[if_neg hf];exact fun t=>ih _ (x t)
 |sys c k ih=>exact fun x=>x.elim
 |program k ih=>exact fun x=>ih _ x
 |mark m k ih=>exact fun⟨x,y⟩=>⟨x,ih y⟩
 |halt h=>exact fun x=>x.elim
theorem xaq{s:Sem α}{f:α->Sem β}{K:β->Heap->Prop}(x:wpS P s h (fun a h'=>wpS P (f a) h' K)):wpS P (s >>= f) h K:=xxd x
theorem xbq{a:α}{K:α->Heap->Prop}(x:K a h):wpS P (pure a) h K:=x
structure Vw where
 dead:Nat->Prop
 still:Nat->Prop
def Vw.of(S:Nat->Prop):Vw:=⟨S,fun _=>False⟩
structure Cq(S:Vw)(h r:Heap):Prop where
 size:h.size=r.size
 same:∀b,¬ S.dead b-> ¬ S.still b->h[b]?=r[b]?
 Kn:∀b,S.dead b->h[b]?=some (.cells #[] 0 (0,0))
 frz:∀b,S.still b-> ∃c e f,r[b]?=some (.cells c e f)/\h[b]?=some (.cells c e (0,c.size))
theorem Cq.refl(h:Heap):Cq (.of fun _=>False) h h:=⟨rfl,fun _ _ _=>rfl,fun _ x=>x.elim,fun _ x=>x.elim⟩
variable{S:Vw}{r:Heap}
theorem Cq.cell(V:Cq S h r){a:Addr}{v:Value}(x:cell? h a=some v):cell? r a=some v/\ ¬ S.dead a.block:=by
 by_cases hs:S.dead a.block
 ·have O:=V.Kn _ hs;unfold cell? at x;rw[O]at x;simp at x
 ·refine⟨?_,hs⟩;by_cases H:S.still a.block
  ·obtain⟨c,e,f,hr,M⟩:=V.frz _ H;unfold cell? at x⊢;rw[M]at x;rw[hr];exact x
  ·unfold cell? at x⊢;rw[<- V.same _ hs H];exact x
theorem yqw{a:Addr}(x:cell? h a=some v):a.block<h.size:=by
 unfold cell? at x;split at x
 ·rename_i c e f H;exact(Array.getElem?_eq_some_iff.1 H).1
 ·cases x
theorem Cq.seen(V:Cq S h r){a:Addr}(x:seenAt h a):¬ S.dead a.block:=by
 intro hs;obtain⟨c,e,f,H,hc⟩:=x;rw[V.Kn _ hs]at H;cases H;simp at hc
theorem Cq.frozen(V:Cq S h r){a:Addr}(hs:¬ S.dead a.block)(H:¬ S.still a.block):frozenAt h a=frozenAt r a:=by
 unfold frozenAt;rw[V.same _ hs H]
theorem Cq.thaw(V:Cq S h r){a:Addr}{v:Value}(x:cell? h a=some v)(hf:frozenAt h a=false):¬ S.still a.block:=by
 intro M;obtain⟨c,e,f,O,H⟩:=V.frz _ M;unfold cell? at x;unfold frozenAt at hf;rw[H]at x hf;simp only at x hf;split at x
 ·cases x
 ·have:=(Array.getElem?_eq_some_iff.1 x).1;simp at hf;omega
theorem getElem?_modify'(h:Heap)(i j:Nat)(f:Obj->Obj):(h.modify i f)[j]?=if i=j then h[j]?.map f else h[j]?:=by
 rw[Array.getElem?_modify]
theorem Cq.modify(V:Cq S h r){i:Nat}(f:Obj->Obj)(hs:¬ S.dead i)(ht:¬ S.still i):Cq S (h.modify i f) (r.modify i f):=by
 refine⟨by simp[V.size],fun b M O=>?_,fun b M=>?_,fun b M=>?_⟩
 ·rw[getElem?_modify',getElem?_modify',V.same _ M O]
 ·have H:i≠b:=fun e=>hs (e ▸ M);rw[getElem?_modify',if_neg H];exact V.Kn _ M
 ·have H:i≠b:=fun e=>ht (e ▸ M);rw[getElem?_modify',if_neg H,getElem?_modify',if_neg H];exact V.frz _ M
theorem Cq.setCell(V:Cq S h r){a:Addr}(v:Value)(hs:¬ S.dead a.block)(H:¬ S.still a.block):Cq S (X.setCell h a v) (X.setCell r a v):=V.modify _ hs H
theorem Cq.freeze(V:Cq S h r){a:Addr}(n:Nat)(hs:¬ S.dead a.block)(H:¬ S.still a.block):Cq S (B6 h a n) (B6 r a n):=by
 unfold B6;split
 ·exact V
 ·exact V.modify _ hs H
theorem Cq.lt(V:Cq S h r){b:Nat}(H:S.dead b):b<r.size:=by
 rw[<- V.size];exact(Array.getElem?_eq_some_iff.1 (V.Kn _ H)).1
theorem Cq.lts(V:Cq S h r){b:Nat}(H:S.still b):b<r.size:=by
 obtain⟨c,e,f,M,_⟩:=V.frz _ H;exact(Array.getElem?_eq_some_iff.1 M).1
theorem Cq.push(V:Cq S h r)(o:Obj):Cq S (h.push o) (r.push o):=by
 refine⟨by simp[V.size],fun b H M=>?_,fun b H=>?_,fun b H=>?_⟩
 ·rw[Array.getElem?_push,Array.getElem?_push,V.size,V.same _ H M]
 ·have:=V.lt H;rw[Array.getElem?_push,V.size,if_neg om];exact V.Kn _ H
 ·have:=V.lts H;rw[Array.getElem?_push,Array.getElem?_push,V.size,if_neg om,if_neg om];exact V.frz _ H
theorem Cq.setObj(V:Cq S h r){b:Nat}(o:Obj)(hs:¬ S.dead b)(O:¬ S.still b):Cq S (h.setIfInBounds b o) (r.setIfInBounds b o):=by
 refine⟨by simp[V.size],fun c hc M=>?_,fun c hc=>?_,fun c hc=>?_⟩
 ·rw[Array.getElem?_setIfInBounds,Array.getElem?_setIfInBounds,V.size,V.same _ hc M]
 ·have H:b≠c:=fun e=>hs (e ▸ hc);rw[Array.getElem?_setIfInBounds_ne H];exact V.Kn _ hc
 ·have H:b≠c:=fun e=>O (e ▸ hc);rw[Array.getElem?_setIfInBounds_ne H,Array.getElem?_setIfInBounds_ne H];exact V.frz _ hc
theorem Cq.obj(V:Cq S h r){b:Nat}{o:Obj}(hn:∀c e f,o=.cells c e f->False)(H:h[b]?=some o):¬ S.dead b/\ ¬ S.still b:=by
 refine⟨fun hs=>?_,fun O=>?_⟩
 ·rw[V.Kn _ hs]at H;exact hn _ _ _ (Option.some.inj H).symm
 ·obtain⟨c,e,f,_,M⟩:=V.frz _ O;rw[M]at H;exact hn _ _ _ (Option.some.inj H).symm
structure Av(h h':Heap):Prop where
 size:h.size<=h'.size
 C3:∀b,b<h.size->h'[b]?=h[b]?
theorem Av.refl(h:Heap):Av h h:=⟨Nat.le_refl _,fun _ _=>rfl⟩
theorem Av.trans{a b c:Heap}(x:Av a b)(y:Av b c):Av a c:=⟨Nat.le_trans x.size y.size,fun i hi=>(y.C3 i (Nat.lt_of_lt_of_le hi x.size)).trans (x.C3 i hi)⟩
def Kk(S:Nat->Prop):Loc->Prop:=fun l=>∃a:Addr,l=.cell a/\S a.block
structure Calm(w w':World):Prop where
 os:w'.os=w.os
 tape:w'.tape=w.tape
 output:w'.output=w.output
 size:w.heap.size<=w'.heap.size
theorem Calm.refl(w:World):Calm w w:=⟨rfl,rfl,rfl,Nat.le_refl _⟩
theorem Calm.trans{a b c:World}(x:Calm a b)(y:Calm b c):Calm a c:=
 ⟨y.os.trans x.os,y.tape.trans x.tape,y.output.trans x.output,Nat.le_trans x.size y.size⟩
structure Quiet(S:Vw)(w w':World):Prop where
 calm:Calm w w'
 F7:∀b,b<w.heap.size->S.dead b\/S.still b->w'.heap[b]?=w.heap[b]?
theorem Quiet.size{S:Vw}{w w':World}(x:Quiet S w w'):w.heap.size<=w'.heap.size:=x.calm.size
theorem Quiet.refl{S:Vw}(w:World):Quiet S w w:=⟨.refl w,fun _ _ _=>rfl⟩
theorem Quiet.trans{S:Vw}{a b c:World}(x:Quiet S a b)(y:Quiet S b c):Quiet S a c:=
 ⟨x.calm.trans y.calm,fun i hi z=>(y.F7 i (Nat.lt_of_lt_of_le hi x.size) z).trans (x.F7 i hi z)⟩
def EvX(S:Vw)(B:Nat)(e:Event):Prop:=
 match e.loc with
 |.cell a=>e.sync=false/\ ¬ S.dead a.block/\a.block<B/\(e.write=true-> ¬ S.still a.block)
 |.obj b=>e.sync=false/\ ¬ S.dead b/\b<B/\ ¬ S.still b
 |.mark m=>Kb m=true
 |_=>False
theorem ybg{S:Vw}{B H:Nat}(M:B<=H){e:Event}(x:EvX S B e):EvX S H e:=by
 unfold EvX at x⊢;split at x
 ·exact⟨x.1,x.2.1,Nat.lt_of_lt_of_le x.2.2.1 M,x.2.2.2⟩
 ·exact⟨x.1,x.2.1,Nat.lt_of_lt_of_le x.2.2.1 M,x.2.2.2⟩
 ·exact x
 ·exact x.elim
theorem yxv{S:Vw}{B:Nat}{e:Event}(x:EvX S B e):EvL (Kk S.dead) B e:=by
 obtain⟨a3,wrZ,sy⟩:=e;unfold EvX at x;split at x
 ·rename_i a ha;simp only at ha x;subst ha;obtain⟨rfl,hs,V,_⟩:=x;refine⟨?_,s_,s_,V⟩;intro y O M;simp[MemAct.ofEvent,MemAct.touch?]at O;subst O;obtain⟨b,H,a2⟩:=M;cases H;exact absurd a2 hs
 ·rename_i b H;simp only at H x;subst H;obtain⟨rfl,hs,V,_⟩:=x;refine⟨?_,s_,s_,by simpa[MemAct.ofEvent,MemAct.low,Loc.low]using V⟩;intro y O M;simp[MemAct.ofEvent,MemAct.touch?]at O;subst O;obtain⟨_,H,_⟩:=M;cases H
 ·rename_i m hm;simp only at hm;subst hm;cases m<;>simp_all[Kb]
  all_goals
   refine⟨?_,s_,s_,trivial⟩;intro x hx;simp[MemAct.ofEvent,MemAct.touch?]at hx
 ·exact x.elim
theorem xd3{a:Addr}(H:b≠a.block):(setCell h a v)[b]?=h[b]?:=by
 unfold setCell;rw[getElem?_modify',if_neg (Ne.symm H)]
theorem yaq{a:Addr}(H:b≠a.block):(B6 h a n)[b]?=h[b]?:=by
 unfold B6;split
 ·rfl
 ·rw[getElem?_modify',if_neg (Ne.symm H)]
theorem xgd(s:Sem α):∀{h:Heap}{K:α->Heap->Prop}{w:World}(O:Array Event),wpS P s h K->Cq S h w.heap->
 ∃a h' w' es,s.runT P w O=(.ok a w',O++es)/\s.run P w=.ok a w'/\K a h'/\Cq S h' w'.heap/\Quiet S w w'/\ ∀e∈es,EvX S w'.heap.size e:=by
 induction s with
 |pure a=>exact fun{h K w}O x V=>⟨a,h,w,#[],by simp[Sem.runT],rfl,x,V,.refl _,s_⟩
 |load m a k ih=>
   intro h K w O ⟨hm,v,hc,x⟩ V;obtain⟨a8,hs⟩:=V.cell hc;have a7:w.cell? a=some v:=a8;obtain⟨y,h',w',es,e1,e2,e3,e4,H,e6⟩:=ih v (O.push ⟨.cell a,false,m==.atomic⟩) x V;subst hm;refine⟨y,h',w',#[⟨.cell a,false,false⟩]++es,?_,?_,e3,e4,H,?_⟩
   ·simp only[Sem.runT,a7,e1,Prod.mk.injEq,true_and];rw[<- Array.append_assoc];congr 1
   ·simp only[Sem.run,a7,e2]
   ·intro e he;rcases Array.mem_append.1 he with he|he
    ·simp at he;subst he;exact⟨rfl,hs,Nat.lt_of_lt_of_le (yqw a8) H.size,fun x=>by cases x⟩
    ·exact e6 e he
 |store m a v k ih=>
   intro h K w O ⟨hm,hv,⟨u,hu⟩,hf,x⟩ V;obtain⟨b0,hs⟩:=V.cell hu;have a6:w.cell? a=some u:=b0;have M:=V.thaw hu hf;have a4:w.frozen? a=false:=(V.frozen hs M).symm.trans hf;have V':Cq S (X.setCell h a v) (w.setCell a v).heap:=V.setCell v hs M;obtain⟨y,h',w',es,e1,e2,e3,e4,H,e6⟩:=ih (O.push ⟨.cell a,true,m==.atomic⟩) x V';subst hm;have a3:(w.setCell a v).heap.size=w.heap.size:=by simp[World.setCell]
   refine⟨y,h',w',#[⟨.cell a,true,false⟩]++es,?_,?_,e3,e4,⟨⟨H.calm.os,H.calm.tape,H.calm.output,by rw[<- a3];exact H.size⟩,fun b hb z=>(H.F7 b (by rw[a3];exact hb) z).trans (xd3 (h:=w.heap) fun e=>by subst e;exact z.elim hs M)⟩,?_⟩
   ·cases v<;>simp[Bj]at hv
    all_goals
     simp only[Sem.runT,a6,a4,Bool.false_eq_true,if_false,e1,Prod.mk.injEq,true_and];rw[<- Array.append_assoc];congr 1
   ·cases v<;>simp[Bj]at hv
    all_goals simp only[Sem.run,a6,a4,Bool.false_eq_true,if_false,e2]
   ·intro e he;rcases Array.mem_append.1 he with he|he
    ·simp at he;subst he;exact⟨rfl,hs,Nat.lt_of_lt_of_le (yqw b0) (by rw[<- a3];exact H.size),fun _=>M⟩
    ·exact e6 e he
 |new o k ih=>
   intro h K w O x V;have V':Cq S (h.push o) ({w with heap:=w.heap.push o}:World).heap:=V.push o;have x':wpS P (k w.heap.size) (h.push o) K:=by rw[<- V.size];exact x
   obtain⟨y,h',w',es,e1,e2,e3,e4,H,e6⟩:=ih w.heap.size O x' V';exact⟨y,h',w',es,by simp only[Sem.runT,e1],by simp only[Sem.run,e2],e3,e4,⟨⟨H.calm.os,H.calm.tape,H.calm.output,by have:=H.size;simp at this;omega⟩,fun b hb z=>(H.F7 b (by simp;omega) z).trans (by simp only[Array.getElem?_push];rw[if_neg om])⟩,e6⟩
 |shape r k ih=>
   intro h K w O x V;unfold wpS at x;have key:∃z,w.shape? r=z/\wpS P (k z) h K:=by
    split at x
    ·rename_i c e f hr;have hs:¬ S.dead r:=by
      intro hs;have hb:=V.Kn _ hs;rw[hr]at hb;simp at hb;have:=x.1;rw[hb.1]at this;simp at this
     refine⟨_,?_,x.2⟩;unfold World.shape?;by_cases M:S.still r
     ·obtain⟨c',e',f',b3,hh⟩:=V.frz _ M;rw[hh]at hr;cases hr;rw[b3]
     ·rw[<- V.same _ hs M,hr]
    ·rename_i hn;refine⟨_,?_,x⟩;have hs:¬ S.dead r:=by
      intro hs;exact hn _ _ _ (V.Kn _ hs)
     have M:¬ S.still r:=by
      intro M;obtain⟨c',e',f',b3,hh⟩:=V.frz _ M;exact hn _ _ _ hh
     unfold World.shape?;rw[<- V.same _ hs M];split
     ·rename_i c e f hr;exact absurd hr (hn _ _ _)
     ·rfl
   obtain⟨z,hz,x'⟩:=key;obtain⟨y,h',w',es,e1,e2,e3,e4,H,e6⟩:=ih z O x' V;exact⟨y,h',w',es,by simp only[Sem.runT,hz,e1],by simp only[Sem.run,hz,e2],e3,e4,H,e6⟩
 |freeze a n k ih=>
   intro h K w O ⟨⟨c,e,f,hc,b5,b4⟩,x⟩ V;have hs:=V.seen ⟨c,e,f,hc,b5⟩;have M:¬ S.still a.block:=by
    intro M;obtain⟨c',e',f',_,hh⟩:=V.frz _ M;rw[hh]at hc;cases hc;exact b4 rfl
   have a9:(w.freeze a n).heap=B6 w.heap a n:=by unfold World.freeze B6;split<;>rfl
   have V':Cq S (B6 h a n) (w.freeze a n).heap:=by rw[a9];exact V.freeze n hs M
   obtain⟨y,h',w',es,e1,e2,e3,e4,H,e6⟩:=ih O x V';have h1:(w.freeze a n).os=w.os:=by unfold World.freeze;split<;>rfl
   have h2:(w.freeze a n).tape=w.tape:=by unfold World.freeze;split<;>rfl
   have h3:(w.freeze a n).output=w.output:=by unfold World.freeze;split<;>rfl
   have h4:(w.freeze a n).heap.size=w.heap.size:=by unfold World.freeze;split<;>simp
   exact⟨y,h',w',es,by simp only[Sem.runT,e1],by simp only[Sem.run,e2],e3,e4,⟨⟨H.calm.os.trans h1,H.calm.tape.trans h2,H.calm.output.trans h3,by rw[<- h4];exact H.size⟩,fun b hb z=>(H.F7 b (by rw[h4];exact hb) z).trans (by rw[a9];exact yaq fun e=>by subst e;exact z.elim hs M)⟩,e6⟩
 |frozen a k ih=>
   intro h K w O ⟨a5,xt,xf⟩ V;have x:wpS P (k (w.frozen? a)) h K:=by
    by_cases hc:N8 h a
    ·have a4:w.frozen? a=false:=by
      rcases hc with hc|⟨c,e,hb,hp⟩
      ·obtain⟨v,hv⟩:=Option.isSome_iff_exists.1 hc.1;exact(V.frozen (V.seen a5) (V.thaw hv hc.2)).symm.trans hc.2
      ·have M:¬ S.still a.block:=fun M=>by
        obtain⟨c',e',f,_,hh⟩:=V.frz _ M;rw[hb]at hh;injection hh with hh;injection hh with e1 _ e2;have e3:=(Prod.mk.inj e2).2;rw[<- e1]at e3;omega
       have z:=V.frozen (a:=a) (V.seen a5) M;refine z.symm.trans ?_;unfold frozenAt;rw[hb];simp
     rw[a4];exact xt hc
    ·exact xf hc _
   obtain⟨y,h',w',es,e1,e2,e3,e4,H,e6⟩:=ih (w.frozen? a) O x V;exact⟨y,h',w',es,by simp only[Sem.runT,e1],by simp only[Sem.run,e2],e3,e4,H,e6⟩
 |getObj r k ih=>
   intro h K w O x V;unfold wpS at x;split at x
   ·exact x.elim
   ·rename_i o hn ho;obtain⟨hs,M⟩:=V.obj hn ho;have a2:w.heap[r]?=some o:=(V.same _ hs M).symm.trans ho;obtain⟨y,h',w',es,e1,e2,e3,e4,H,e6⟩:=ih o (O.push ⟨.obj r,false,o.isChan⟩) x.2 V;refine⟨y,h',w',#[⟨.obj r,false,false⟩]++es,?_,?_,e3,e4,H,?_⟩
    ·rw[x.1]at e1;simp only[Sem.runT,a2,x.1];cases o<;>first|exact absurd rfl (hn _ _ _)|(simp only[e1,Prod.mk.injEq,true_and];rw[<- Array.append_assoc];congr 1)
    ·simp only[Sem.run,a2];cases o<;>first|exact absurd rfl (hn _ _ _)|exact e2
    ·intro e he;rcases Array.mem_append.1 he with he|he
     ·simp at he;subst he;exact⟨rfl,hs,Nat.lt_of_lt_of_le (Array.getElem?_eq_some_iff.1 a2).1 H.size,M⟩
     ·exact e6 e he
   ·exact x.elim
 |setObj r o k ih=>
   intro h K w O x V;unfold wpS at x;split at x
   ·exact x.elim
   ·rename_i o' hn ho;obtain⟨hs,M⟩:=V.obj hn ho;have a2:w.heap[r]?=some o':=(V.same _ hs M).symm.trans ho;have V':Cq S (h.setIfInBounds r o) ({w with heap:=w.heap.setIfInBounds r o}:World).heap:=V.setObj o hs M;obtain⟨y,h',w',es,e1,e2,e3,e4,H,e6⟩:=ih (O.push ⟨.obj r,true,o.isChan⟩) x.2.2 V';have a3:w.heap.size<=w'.heap.size:=by have:=H.size;simp at this;exact this
    refine⟨y,h',w',#[⟨.obj r,true,false⟩]++es,?_,?_,e3,e4,⟨⟨H.calm.os,H.calm.tape,H.calm.output,a3⟩,fun b hb z=>(H.F7 b (by simp;exact hb) z).trans (by simp only;rw[Array.getElem?_setIfInBounds_ne fun e=>by subst e;exact z.elim hs M])⟩,?_⟩
    ·rw[x.2.1]at e1;simp only[Sem.runT,a2,x.2.1];cases o'<;>first|exact absurd rfl (hn _ _ _)|(simp only[e1,Prod.mk.injEq,true_and];rw[<- Array.append_assoc];congr 1)
    ·simp only[Sem.run,a2];cases o'<;>first|exact absurd rfl (hn _ _ _)|exact e2
    ·intro e he;rcases Array.mem_append.1 he with he|he
     ·simp at he;subst he;exact⟨rfl,hs,Nat.lt_of_lt_of_le (Array.getElem?_eq_some_iff.1 a2).1 a3,M⟩
     ·exact e6 e he
   ·exact x.elim
 |choose q k ih=>
   intro h K w O x V;unfold wpS at x;by_cases hf:q.forced=true
   ·rw[if_pos hf]at x;obtain⟨y,h',w',es,e1,e2,e3,e4,H,e6⟩:=ih 0 O x V;exact⟨y,h',w',es,by simp only[Sem.runT,hf,if_true,e1],by simp only[Sem.run,hf,if_true,e2],e3,e4,H,e6⟩
   ·rw[if_neg hf]at x;have V':Cq S h ({w with drawn:=w.drawn+1}:World).heap:=V;obtain⟨y,h',w',es,e1,e2,e3,e4,H,e6⟩:=ih _ O (x (w.tape w.drawn q)) V';exact⟨y,h',w',es,by simp only[Sem.runT,if_neg hf,e1],by simp only[Sem.run,if_neg hf,e2],e3,e4,⟨⟨H.calm.os,H.calm.tape,H.calm.output,H.size⟩,H.F7⟩,e6⟩
 |sys c k ih=>exact fun O x=>x.elim
 |program k ih=>
   intro h K w O x V;obtain⟨y,h',w',es,e1,e2,e3,e4,H,e6⟩:=ih P O x V;exact⟨y,h',w',es,by simp only[Sem.runT,e1],by simp only[Sem.run,e2],e3,e4,H,e6⟩
 |mark m k ih=>
   intro h K w O ⟨hm,x⟩ V;obtain⟨y,h',w',es,e1,e2,e3,e4,H,e6⟩:=ih (O.push ⟨.mark m,false,true⟩) x V;refine⟨y,h',w',#[⟨.mark m,false,true⟩]++es,?_,by simp only[Sem.run,e2],e3,e4,H,?_⟩
   ·simp only[Sem.runT,e1,Prod.mk.injEq,true_and];rw[<- Array.append_assoc];congr 1
   ·intro e he;rcases Array.mem_append.1 he with he|he
    ·simp at he;subst he;exact hm
    ·exact e6 e he
 |halt h=>exact fun O x=>x.elim
end
variable{S:Vw}
open Go.ConcN (sumTo upd sumTo_upd upd_ne upd_same)
variable{aft:Array Edge}{fr zq:Frame}{fn:Func}{f:FuncId}{g g':Goroutine}{K' Stop':Goroutine->Heap->Prop}{L':List (Nat×Obj)}{df ds:List Deferred}{cs:List Frame}{td:List Item}{ops rest:List Oper}{args:List Operand}{rs:List ResultVar}{o':Obj}{o:Oper}{x:Operand}{d:Option Tmp}
structure H8(P:Program)(S:Nat->Prop)(gs:Array Goroutine)(w:World)(t:Trace)(q:Nat->Nat)(g:Goroutine)(h:Heap):Prop where
 main:gs[0]?=some g
 P7:Leavers P t gs q
 Bz:Past (Kk S) w.heap.size t
 Hj:Cq (.of S) h w.heap
inductive Md where
 |main (sp:Bool)
 |own (m:Bool)
 |lone
variable{md:Md}
def Md.Hd:Md->Bool
 |.main _=>true
 |.own m=>m
 |.lone=>true
def Own(P:Program)(main:Bool)(g:Goroutine)(h:Heap)(K:Goroutine->Heap->Prop):Prop:=
 g.status=.running/\ ∀H,Av h H-> ∀(S:Vw)(w:World),Cq S H w.heap->
  ∃g' h' w' es,stepG P main g w=.go g' w' es/\K g' h'/\Cq S h' w'.heap/\Quiet S w w'/\ ∀e∈es,EvX S w'.heap.size e
theorem Own.mono{P:Program}{main:Bool}{g:Goroutine}{h:Heap}{K K':Goroutine->Heap->Prop}(x:Own P main g h K)(y:∀g h,K g h->K' g h):Own P main g h K':=
 ⟨x.1,fun H k S w V=>by obtain⟨g',h',w',es,a,b,c⟩:=x.2 H k S w V;exact⟨g',h',w',es,a,y _ _ b,c⟩⟩
def Reach(P:Program):Md->(g:Goroutine)->(h:Heap)->(Stop:Goroutine->Heap->Prop)->Prop
 |.main sp,g,h,Stop=>
   ∀(S:Nat->Prop)(M:Array Goroutine)(w:World)(sl:Option (Nat×Nat))(t:Trace)(q:Nat->Nat),H8 P S M w t q g h->
    ∃(N:Nat)(S':Nat->Prop)(H:Array Goroutine)(w':World)(O:Option (Nat×Nat))(V:Trace)(q':Nat->Nat)(g':Goroutine)(h':Heap),
     runNT P N (crowd M w sl) t=(.next (crowd H w' O),V)/\H8 P S' H w' V q' g' h'/\Stop g' h'/\Quiet (.of S) w w'/\
     (sp=false->H.size=M.size)/\ ∀b,S b->S' b
 |.own m,g,h,Stop=>∀Z:Goroutine->Heap->Prop,(∀g h,Stop g h->Z g h)->(∀g h,Own P m g h Z->Z g h)->Z g h
 |.lone,g,h,Stop=>∀w:World,w.heap=h-> ∃g' w',Steps P (solo g w) (solo g' w')/\Stop g' w'.heap/\Calm w w'
theorem xtl(w:World)(d:Nat):Quiet S w (w.at d):=⟨⟨rfl,rfl,rfl,Nat.le_refl _⟩,fun _ _ _=>rfl⟩
theorem Quiet.mono{S H:Vw}{w w':World}(x:Quiet S w w')(h:∀b,H.dead b\/H.still b->S.dead b\/S.still b):Quiet H w w':=⟨x.calm,fun b M y=>x.F7 b M (h b y)⟩
theorem Quiet.of{S H:Nat->Prop}{w w':World}(x:Quiet (.of S) w w')(h:∀b,H b->S b):Quiet (.of H) w w':=x.mono fun b y=>y.imp (h b) id
section
variable{sp:Bool}{Stop:Goroutine->Heap->Prop}
theorem xrk(x:Stop g h):Reach P md g h Stop:=by
 cases md with
 |main sp=>exact fun S H w sl t q O=>⟨0,S,H,w,sl,t,q,g,h,rfl,O,x,.refl _,fun _=>rfl,fun _ y=>y⟩
 |own m=>exact fun Z M _=>M _ _ x
 |lone=>exact fun w hw=>⟨g,w,.refl _ _,hw ▸ x,.refl _⟩
theorem xan(x:Own P true g h fun g' h'=>Reach P (.main sp) g' h' Stop):Reach P (.main sp) g h Stop:=by
 obtain⟨a5,b8⟩:=x;intro S O w sl t q sc
 suffices H:∀(M:Nat)(O:Array Goroutine)(w:World)(sl:Option (Nat×Nat))(t:Trace)(q:Nat->Nat),sumTo O.size q<=M->H8 P S O w t q g h->
  ∃(N:Nat)(S':Nat->Prop)(b0:Array Goroutine)(w':World)(a4:Option (Nat×Nat))(t':Trace)(q':Nat->Nat)(g':Goroutine)(h':Heap),
   runNT P N (crowd O w sl) t=(.next (crowd b0 w' a4),t')/\H8 P S' b0 w' t' q' g' h'/\Stop g' h'/\Quiet (.of S) w w'/\
   (sp=false->b0.size=O.size)/\ ∀b,S b->S' b from H _ O w sl t q (Nat.le_refl _) sc
 intro M
 induction M using Nat.strongRecOn with
 |_ M ih=>
   intro O w sl t q hM sc;obtain⟨h0,hL,hP,hV⟩:=sc;have c6:∀g∈O,awake g:=by
    intro y hy;obtain⟨i,hi,rfl⟩:=Array.mem_iff_getElem.1 hy;rcases Nat.eq_zero_or_pos i with rfl|hpos
    ·have:O[0]=g:=by simpa[Array.getElem?_eq_getElem hi]using h0
     rw[this];exact awake_of (.inl a5)
    ·exact awake_of ((hL.old i _ hpos (Array.getElem?_eq_getElem hi)).status.elim .inl fun x=>.inr (.inr x))
   obtain⟨i,a,d,a4,hi,ha,b9⟩:=crowd_pick (P:=P) (w:=w) (sl:=sl) c6 ⟨0,g,h0,a5⟩;rcases Nat.eq_zero_or_pos i with rfl|hpos
   ·obtain rfl:a=g:=by rw[h0]at hi;exact(Option.some.inj hi).symm
    obtain⟨g',h',w',es,c5,hK,c8,hc,c4⟩:=b8 h (.refl _) (.of S) (w.at d) hV;have V:=runT_crowd_go (P:=P) (sl:=a4) (i:=0) hi (show stepG P (0==0) a (w.at d)=_ from c5);have a8:((O.map (woken P a g' w')).setIfInBounds 0 g').size=O.size:=by simp
    have a7:0<O.size:=(Array.getElem?_eq_some_iff.1 h0).1;have b4:H8 P S ((O.map (woken P a g' w')).setIfInBounds 0 g') w' (t++MemOp.ofEvents 0 a.frame.fn a.frame.place es) q g' h':=by
     refine⟨by simp[a7],⟨fun j x hj hx=>?_,fun j hj=>?_⟩,(hP.mono hc.size).own fun e he=>yxv (c4 e he),c8⟩
     ·have a9:0≠j:=om;rw[Array.getElem?_setIfInBounds_ne a9,Array.getElem?_map]at hx;obtain⟨y,hy,rfl⟩:=Option.map_eq_some_iff.1 hx;have hq:=hL.old j y hj hy;rw[woken_quitsD hq,Deaf_other t om _ (fun op a3=>by obtain⟨e,_,rfl⟩:=Go.Conc.mem_ofEvents a3;rfl)];exact hq
     ·rw[Deaf_other t (g':=0) (by simp at hj;omega) _ (fun op a3=>by obtain⟨e,_,rfl⟩:=Go.Conc.mem_ofEvents a3;rfl)];exact hL.above j (by simpa using hj)
    obtain⟨N,S2,b3,w2,b6,t2,q2,g2,h2,a2,b2,c2,d2,e2,f2⟩:=hK S _ w' a4 _ q b4;refine⟨N+1,S2,b3,w2,b6,t2,q2,g2,h2,by simp only[runNT,b9,V];exact a2,b2,c2,((xtl w d).trans hc).trans d2,fun z=>(e2 z).trans a8,f2⟩
   ·have hq:=hL.old i a hpos hi;have c3:(i==0)=false:=by simp;omega
    have a7:i<O.size:=(Array.getElem?_eq_some_iff.1 hi).1;cases b5:q i with
    |zero=>rw[b5]at hq;rw[hq.1]at ha;cases ha
    |succ k=>
      rw[b5]at hq;rcases hq with⟨hf,_⟩|⟨_,g',es,hm,c1,c7⟩
      ·rw[hf]at ha;cases ha
      have V:=runT_crowd_go (P:=P) (sl:=a4) (i:=i) hi (by rw[c3];exact c1 (w.at d));have a8:((O.map (woken P a g' (w.at d))).setIfInBounds i g').size=O.size:=by simp
      have c9:sumTo O.size (upd q i k)+(k+1)=sumTo O.size q+k:=by
       have:=sumTo_upd q k id a7;simpa[b5]using this
      have b4:H8 P S ((O.map (woken P a g' (w.at d))).setIfInBounds i g') (w.at d) (t++MemOp.ofEvents i a.frame.fn a.frame.place es) (upd q i k) g h:=by
       refine⟨?_,⟨fun j x hj hx=>?_,fun j hj=>?_⟩,hP.mute om hm,hV⟩
       ·have a9:i≠0:=om;rw[Array.getElem?_setIfInBounds_ne a9,Array.getElem?_map,h0];simp[woken_run a5]
       ·by_cases a6:i=j
        ·subst a6;rw[Array.getElem?_setIfInBounds_self_of_lt (by simpa using a7)]at hx;obtain rfl:=Option.some.inj hx;rw[upd_same,Deaf_own];exact c7
        ·rw[Array.getElem?_setIfInBounds_ne a6,Array.getElem?_map]at hx;obtain⟨y,hy,rfl⟩:=Option.map_eq_some_iff.1 hx;have b7:=hL.old j y hj hy;rw[woken_quitsD b7,upd_ne q k (Ne.symm a6),Deaf_other t a6 _ (fun op a3=>by obtain⟨e,_,rfl⟩:=Go.Conc.mem_ofEvents a3;rfl)];exact b7
       ·rw[Deaf_other t (g':=i) (by simp at hj;omega) _ (fun op a3=>by obtain⟨e,_,rfl⟩:=Go.Conc.mem_ofEvents a3;rfl)];exact hL.above j (by simpa using hj)
      obtain⟨N,S2,b3,w2,b6,t2,q2,g2,h2,a2,b2,c2,d2,e2,f2⟩:=ih (sumTo O.size (upd q i k)) om _ (w.at d) a4 _ (upd q i k) (by rw[a8];exact Nat.le_refl _) b4;exact⟨N+1,S2,b3,w2,b6,t2,q2,g2,h2,by simp only[runNT,b9,V];exact a2,b2,c2,(xtl w d).trans d2,fun z=>(e2 z).trans a8,f2⟩
theorem yux{w:World}{es:Array Event}(H:g.status=.running)(x:stepG P true g w=.go g' w' es):step P (solo g w)=.next (solo g' w'):=by
 rw[step,stepT_solo H,runT_solo_go x]
theorem xbn(x:Own P true g h fun g' h'=>Reach P .lone g' h' Stop):Reach P .lone g h Stop:=by
 obtain⟨O,ho⟩:=x;rintro w rfl;obtain⟨g',h',w',es,e,k,V,q,_⟩:=ho w.heap (.refl _) (.of fun _=>False) w (.refl _);obtain rfl:h'=w'.heap:=by
  apply Array.ext_getElem?;exact fun i=>V.same i (fun z=>z) (fun z=>z)
 obtain⟨H,w2,a2,b2,M⟩:=k w' rfl;exact⟨H,w2,.head (yux O e) a2,b2,q.calm.trans M⟩
theorem xnj(x:Own P md.Hd g h fun g' h'=>Reach P md g' h' Stop):Reach P md g h Stop:=by
 cases md with
 |main sp=>exact xan x
 |own m=>exact fun Z M H=>H _ _ (x.mono fun g' h' r=>r Z M H)
 |lone=>exact xbn x
end
def F(b:Frame)(tm:Array Value)(df:List Deferred)(k:List Item):Frame:={b with tmps:=tm,defers:=df,todo:=k,mode:=.run}
def FR(b:Frame)(tm:Array Value)(df:List Deferred)(k:List Item):Frame:={b with tmps:=tm,defers:=df,todo:=k,mode:=.returning}
def ev(tm:Array Value):Operand->Value
 |.tmp t=>tm.getD t undef
 |.const v=>v
 |.global g=>w_ g 0
 |.func f=>.func (.func f) #[] #[]
def put(tm:Array Value)(dst:Option Tmp)(v:Value):Array Value:=
 match dst with
 |some d=>tm.setIfInBounds d v
 |none=>tm
class Stb(Φ:Heap->Prop):Prop where
 stb:∀h h',Φ h->Av h h'->Φ h'
def RS(P:Program)(md:Md)(g:Goroutine)(Φ:Heap->Prop)(Stop:Goroutine->Heap->Prop):Prop:=∀h,Φ h->Reach P md g h Stop
instance{α:Type}{Φ:α->Heap->Prop}[s:∀x,Stb (Φ x)]:Stb (fun h=>∃x,Φ x h):=⟨fun h h'⟨x,y⟩k=>⟨x,(s x).stb h h' y k⟩⟩
instance{c:Prop}{Φ:Heap->Prop}[s:Stb Φ]:Stb (fun h=>c/\Φ h):=⟨fun h h'⟨x,y⟩k=>⟨x,s.stb h h' y k⟩⟩
theorem xf9{Ψ:α->Heap->Prop}{Stop:Goroutine->Heap->Prop}(n:∀x,RS P md g (Ψ x) Stop):RS P md g (fun h=>∃x,Ψ x h) Stop:=fun h⟨x,y⟩=>n x h y
theorem ykh{c:Prop}{Stop:Goroutine->Heap->Prop}(n:c->RS P md g Φ Stop):RS P md g (fun h=>c/\Φ h) Stop:=fun h⟨x,y⟩=>n x h y
section
variable{b:Frame}{tm:Array Value}{k:List Item}{Stop:Goroutine->Heap->Prop}
theorem yvv:(F b tm df k).eval=ev tm:=by funext x;cases x<;>rfl
theorem xeb{fn:FuncId}{B:Nat}{es:Array Event}(x:∀e∈es,EvX S B e):∀e∈seen P fn es,EvX S B e:=by
 unfold seen;refine Array.foldl_induction (motive:=fun _(s:Bool×Array Event)=>∀e∈s.2,EvX S B e) s_ ?_;rintro i ⟨q,kept⟩ hs;simp only at hs⊢;split
 ·exact hs
 ·simp only;split
  ·exact hs
  ·intro e he;rcases Array.mem_push.1 he with he|rfl
   ·exact hs e he
   ·exact x _ (Array.getElem_mem _)
theorem xyc[hs:Stb Φ](O:g.status=.running)(he:∀w,stepG P md.Hd g w=.go g' w #[])(x:RS P md g' Φ Stop):RS P md g Φ Stop:=
 fun h y=>xnj ⟨O,fun M H S w V=>⟨g',M,w,#[],he w,x M (hs.stb _ _ y H),V,.refl _,s_⟩⟩
section
variable[Stb Φ]
theorem yqs{x y:Code}(r:RS P md (G (F b tm df (.code x::.code y::k)) cs) Φ Stop):RS P md (G (F b tm df (.code (.seq x y)::k)) cs) Φ Stop:=
 xyc rfl (fun w=>by simp[G,stepG,stepG.exec,F]) r
theorem yim(r:RS P md (G (F b tm df k) cs) Φ Stop):RS P md (G (F b tm df (.code .skip::k)) cs) Φ Stop:=
 xyc rfl (fun w=>by simp[G,stepG,stepG.exec,F]) r
theorem xe9(r:RS P md (G (F b tm df k) cs) Φ Stop):RS P md (G (F b tm df (.inBlock id::k)) cs) Φ Stop:=
 xyc rfl (fun w=>by simp[G,stepG,stepG.exec,F]) r
theorem yic{c:Code}(r:RS P md (G (F b tm df (.code c::.inBlock id::k)) cs) Φ Stop):RS P md (G (F b tm df (.code (.block id c)::k)) cs) Φ Stop:=
 xyc rfl (fun w=>by simp[G,stepG,stepG.exec,F]) r
theorem xf3{c:Code}(r:RS P md (G (F b tm df (.code c::.inLoop c::k)) cs) Φ Stop):RS P md (G (F b tm df (.code (.loop c)::k)) cs) Φ Stop:=
 xyc rfl (fun w=>by simp[G,stepG,stepG.exec,F]) r
theorem xwm{c:Code}(r:RS P md (G (F b tm df (.code c::.inLoop c::k)) cs) Φ Stop):RS P md (G (F b tm df (.inLoop c::k)) cs) Φ Stop:=
 xyc rfl (fun w=>by simp[G,stepG,stepG.exec,F]) r
theorem yjm{k':List Item}(H:exitTo id k=some k')(r:RS P md (G (F b tm df k') cs) Φ Stop):RS P md (G (F b tm df (.code (.exit id)::k)) cs) Φ Stop:=
 xyc rfl (fun w=>by simp[G,stepG,stepG.exec,F,H]) r
theorem ylm{c:Operand}{x y:Code}{t:Bool}(hc:ev tm c=.bool t)(r:RS P md (G (F b tm df (.code (if t then x else y)::k)) cs) Φ Stop):
 RS P md (G (F b tm df (.code (.cond c x y)::k)) cs) Φ Stop:=
 xyc rfl (fun w=>by
  have h':(F b tm df (.code (.cond c x y)::k)).eval c=.bool t:=by rw[yvv];exact hc
  simp only[F]at h';simp[G,stepG,stepG.exec,F,h']) r
theorem ykz{ops:Array Oper}(r:RS P md (G (F b tm df (.inRegion ops (List.range ops.size)::k)) cs) Φ Stop):
 RS P md (G (F b tm df (.code (.region id ops false)::k)) cs) Φ Stop:=
 xyc rfl (fun w=>by simp[G,stepG,stepG.exec,F]) r
theorem xcf{ops:Array Oper}(r:RS P md (G (F b tm df k) cs) Φ Stop):RS P md (G (F b tm df (.inRegion ops []::k)) cs) Φ Stop:=
 xyc rfl (fun w=>by simp[G,stepG,stepG.exec,F]) r
theorem xls{ops:Array Oper}(r:∀t,RS P md (G (F b tm df (.inRegion ops (Region.schedule (P.follows .mixedOrders) ops t)::k)) cs) Φ Stop):
 RS P md (G (F b tm df (.code (.region id ops true)::k)) cs) Φ Stop:=
 fun h y=>xnj ⟨rfl,fun M H S w V=>⟨_,M,{w with drawn:=w.drawn+1},#[],by
  simp[G,stepG,stepG.exec,F,choose,Sem.run,Question.forced,Question.cut],r (w.tape w.drawn (.order b.fn id)) M (Stb.stb _ _ y H),V,⟨⟨rfl,rfl,rfl,Nat.le_refl _⟩,fun _ _ _=>rfl⟩,s_⟩⟩
theorem xjs{ops:Array Oper}{rest:List Nat}(H:ops[i]?=some o)(hw:Region.wanted o (yielded ops tm)=false)
 (r:RS P md (G (F b (put tm o.dst undef) df (.inRegion ops rest::k)) cs) Φ Stop):RS P md (G (F b tm df (.inRegion ops (i::rest)::k)) cs) Φ Stop:=
 xyc rfl (fun w=>by
  simp only[G,stepG,stepG.exec,F,H,Option.map_some,hw,Option.getD_some,Frame.finish,Option.bind_some,put];rfl) r
theorem xax{ops:Array Oper}{rest:List Nat}(H:ops[i]?=some o)(v:Value):
 (F b tm df (.inRegion ops (i::rest)::k)).finish v=F b (put tm o.dst v) df (.inRegion ops rest::k):=by
 simp only[Frame.finish,F,H,Option.bind_some,put];cases o.dst<;>rfl
def Ou(P:Program)(md:Md)(fr:Frame)(cs:List Frame)(Stop:Goroutine->Heap->Prop):Next->Heap->Prop
 |.value v,h=>Reach P md (G (fr.finish v) cs) h Stop
 |.skip,h=>Reach P md (G (fr.finish undef) cs) h Stop
 |.enter f args,h=>Reach P md (G (Frame.enter P f args .normal) (fr::cs)) h Stop
 |.round l f tmps assign body,h=>Reach P md (G (Frame.round l f tmps assign body .normal) (fr::cs)) h Stop
 |_,_=>False
theorem xu5{s:Sem Next}(hk:fr.kind≠.early)(H:(match fr.todo with|.call _ true _ _::_=>false|_=>true)=true)
 (hs:∀w,stepG P md.Hd (G fr cs) w=stepG.apply P true fr cs none s w)(x:∀h,Φ h->wpS P s h (Ou P md fr cs Stop)):RS P md (G fr cs) Φ Stop:=by
 intro h y;refine xnj ⟨rfl,fun zj M S w V=>?_⟩;obtain⟨n,h',w',es,e1,e2,e3,e4,e5,e6⟩:=xgd s #[] (x zj (Stb.stb _ _ y M)) V;have O:(fr.kind==CallKind.early)=false:=by simpa using hk
 rw[hs w];simp only[Array.empty_append]at e1;cases n<;>first|exact e3.elim|skip
 all_goals
  refine⟨_,h',w',seen P fr.fn es,?_,e3,e4,e5,xeb e6⟩;simp only[stepG.apply,if_true,e1,O,Bool.false_eq_true,if_false,GStep.after,G,Array.append_empty]
  try
   split
   ·rename_i he;rw[he]at H;simp at H
   ·rfl
theorem xks{ops:Array Oper}{rest:List Nat}(V:ops[i]?=some o)(hw:Region.wanted o (yielded ops tm)=true)(O:b.kind≠.early)
 (H:b.roundOf=none\/(match o.op with|.defer _=>false|_=>true)=true)
 (x:∀h,Φ h->wpS P (execOp (ev tm) o) h (Ou P md (F b tm df (.inRegion ops (i::rest)::k)) cs Stop)):
 RS P md (G (F b tm df (.inRegion ops (i::rest)::k)) cs) Φ Stop:=by
 refine xu5 O rfl (fun w=>?_) x;have he:Frame.eval (F b tm df (.inRegion ops (i::rest)::k))=ev tm:=yvv;simp only[F]at he;simp only[G,stepG,stepG.exec,F,V,Option.map_some,hw,Option.getD_some,if_true,stepG.oper,Frame.oper?,he];rcases H with hn|hn
 ·rw[hn]
 ·cases M:b.roundOf with
  |none=>rfl
  |some l=>
    revert hn;cases o.op<;>simp
theorem yps{ops:Array Oper}{rest:List Nat}(M:ops[i]?=some o)(hw:Region.wanted o (yielded ops tm)=true)(O:b.kind≠.early)
 (H:(match o.op with|.defer _=>false|_=>true)=true)
 (x:∀h,Φ h->wpS P (execOp (ev tm) o) h fun n h'=>∃v,n=.value v/\Reach P md (G (F b (put tm o.dst v) df (.inRegion ops rest::k)) cs) h' Stop):
 RS P md (G (F b tm df (.inRegion ops (i::rest)::k)) cs) Φ Stop:=
 xks M hw O (.inr H) fun h y=>xex (x h y) fun n h'⟨v,e,r⟩=>by subst e;show Reach P md (G ((F b tm df _).finish v) cs) h' Stop;rw[xax M];exact r
theorem yhm{ops:Array Oper}{rest:List Nat}(M:ops[i]?=some o)(hw:Region.wanted o (yielded ops tm)=true)(O:b.kind≠.early)
 (H:(match o.op with|.defer _=>false|_=>true)=true)
 (x:∀h,Φ h->wpS P (execOp (ev tm) o) h fun n h'=>n=.skip/\Reach P md (G (F b (put tm o.dst undef) df (.inRegion ops rest::k)) cs) h' Stop):
 RS P md (G (F b tm df (.inRegion ops (i::rest)::k)) cs) Φ Stop:=
 xks M hw O (.inr H) fun h y=>xex (x h y) fun n h'⟨e,r⟩=>by subst e;show Reach P md (G ((F b tm df _).finish undef) cs) h' Stop;rw[xax M];exact r
def Ac(P:Program)(md:Md)(f:FuncId)(args:Array Value)(h:Heap)(R:Value->Heap->Prop):Prop:=
 ∀(c:Frame)(cs:List Frame)(Stop:Goroutine->Heap->Prop),(∀v h',R v h'->Reach P md (G (c.finish v) cs) h' Stop)->
  Reach P md (G (Frame.enter P f args .normal) (c::cs)) h Stop
theorem Ac.mono{f:FuncId}{args:Array Value}{R R':Value->Heap->Prop}(x:Ac P md f args h R)(y:∀v h',R v h'->R' v h'):Ac P md f args h R':=
 fun c cs Stop z=>x c cs Stop fun v h' r=>z v h' (y v h' r)
theorem ylz{ops:Array Oper}{rest:List Nat}{args:Array Value}
 (M:ops[i]?=some o)(hw:Region.wanted o (yielded ops tm)=true)(O:b.kind≠.early)
 (H:(match o.op with|.defer _=>false|_=>true)=true)
 (x:∀h,Φ h->wpS P (execOp (ev tm) o) h fun n h'=>n=.enter f args/\h'=h)(c:∀h,Φ h->Ac P md f args h R)
 (r:∀v h',R v h'->Reach P md (G (F b (put tm o.dst v) df (.inRegion ops rest::k)) cs) h' Stop):
 RS P md (G (F b tm df (.inRegion ops (i::rest)::k)) cs) Φ Stop:=
 xks M hw O (.inr H) fun h y=>xex (x h y) fun n h'⟨e,V⟩=>by
  subst e;subst V;exact c _ y _ _ _ fun v h' q=>by rw[xax M];exact r v h' q
theorem xvm{c:Frame}(hf:P.funcs[b.fn]?=some fn)(hk:b.kind=.normal)
 (x:∀h,Φ h->wpS P (results fn tm) h fun v h'=>Reach P md (G (c.finish v) cs) h' Stop):RS P md (G (FR b tm [] td) (c::cs)) Φ Stop:=by
 intro h y;refine xnj ⟨rfl,fun zj H S w V=>?_⟩;obtain⟨v,h',w',es,M,e2,e3,O,e5,e6⟩:=xgd (results fn tm) #[] (x zj (Stb.stb _ _ y H)) V;refine⟨_,h',w',seen P b.fn es,?_,e3,O,e5,xeb e6⟩;simp only[Array.empty_append]at M;simp only[G,stepG,unwind,FR,hf,M,doReturn,hk,GStep.after,Array.append_empty]
theorem xvh{c:Frame}{r:Nat}(hr:∀h,Φ h->h[r]?=some (.deferred (some [])))
 (x:∀h,Φ h->Reach P md (G (FR b tm ds td) (c::cs)) (h.setIfInBounds r (.deferred none)) Stop):RS P md (G (FR b tm ({target:=.collected r,args:=#[]}::ds) td) (c::cs)) Φ Stop:=by
 intro h y;refine xnj ⟨rfl,fun zj O S w V=>?_⟩;have M:=Stb.stb _ _ y O;have H:=hr zj M;have hx:wpS P (Instr.takeDeferred r) zj fun l h'=>l=[]/\h'=zj.setIfInBounds r (.deferred none):=by
  unfold Instr.takeDeferred;refine xaq ?_;simp only[getObj,wpS,H];refine⟨rfl,?_⟩;refine xaq ?_;simp only[setObj,wpS,H];refine⟨rfl,rfl,?_⟩;exact xbq ⟨rfl,rfl⟩
 obtain⟨v,h',w',es,e1,e2,⟨rfl,rfl⟩,e4,e5,e6⟩:=xgd _ #[] hx V;refine⟨_,_,w',seen P b.fn es,?_,x zj M,e4,e5,xeb e6⟩;simp only[Array.empty_append]at e1;simp only[G,stepG,unwind,FR,e1,GStep.after,Array.append_empty,List.nil_append]
theorem yjz{hro:b.roundOf=none}(x:∀td,RS P md (G (FR b tm df td) cs) Φ Stop):RS P md (G (F b tm df (.code .ret::k)) cs) Φ Stop:=
 xyc rfl (fun w=>by simp[G,stepG,stepG.exec,F,FR,hro]) (x (.code .ret::k))
theorem yjh{hro:b.roundOf=none}(x:∀td,RS P md (G (FR b tm df td) cs) Φ Stop):RS P md (G (F b tm df []) cs) Φ Stop:=
 xyc rfl (fun w=>by simp[G,stepG,stepG.exec,F,FR,hro]) (x [])
end
end
inductive Rd where
 |none
 |some (l:Nat)
 |dfd
def Rd.round:Rd->Option Nat
 |.some l=>Option.some l
 |_=>Option.none
def Rd.kind:Rd->CallKind
 |.dfd=>.deferred
 |_=>.normal
def B(f:FuncId)(r:Rd):Frame:={fn:=f,tmps:=#[],todo:=[],defers:=[],mode:=.run,kind:=r.kind,roundOf:=r.round}
theorem xtw{r:Rd}:(B f r).kind≠.early:=by cases r<;>simp[B,Rd.kind]
def FL(f:FuncId)(r:Rd)(tm:List Value)(df:List Deferred)(k:List Item):Frame:=F (B f r) tm.toArray df k
def evl(tm:List Value):Operand->Value
 |.tmp t=>tm.getD t undef
 |.const v=>v
 |.global g=>w_ g 0
 |.func f=>.func (.func f) #[] #[]
def Cz(tm:List Value)(dst:Option Tmp)(v:Value):List Value:=
 match dst with
 |some d=>tm.set d v
 |none=>tm
theorem xbz(tm:List Value):ev tm.toArray=evl tm:=by
 funext x;cases x<;>simp[ev,evl,Array.getD_eq_getD_getElem?,List.getD_eq_getElem?_getD]
theorem xyq(tm:List Value)(dst:Option Tmp)(v:Value):put tm.toArray dst v=(Cz tm dst v).toArray:=by
 cases dst<;>simp[put,Cz]
def Eh(ops:List Oper)(tm:List Value)(j:Nat):Option Bool:=
 match((ops[j]?).bind (·.dst)).bind (tm[·]?)with
 |some (.bool b)=>some b
 |_=>none
def Met(ops:List Oper)(tm:List Value)(o:Oper)(t:Bool):Prop:=
 match o.guard with
 |none=>t=true
 |some (j,want)=>(Eh ops tm j==some want)=t
theorem xfm(ops:List Oper)(tm:List Value):yielded ops.toArray tm.toArray=Eh ops tm:=by
 funext j;simp[yielded,Eh];rfl
theorem xxq{t:Bool}(m:Met ops tm o t):Region.wanted o (yielded ops.toArray tm.toArray)=t:=by
 rw[xfm];unfold Met at m;unfold Region.wanted;split at m
 ·rename_i e;rw[e];exact m.symm
 ·rename_i e;rw[e];exact m
theorem xoq(h:o.guard=none):Met ops tm o true:=by unfold Met;rw[h]
def Ex(P:Program)(tm:List Value)(o:Oper)(h:Heap)(K:Value->Heap->Prop):Prop:=
 wpS P (execOp (evl tm) o) h fun n h'=>∃v,n=.value v/\K v h'
def Exd(P:Program)(tm:List Value)(o:Oper)(h:Heap)(v:Value):Prop:=Ex P tm o h fun v' h'=>v'=v/\h'=h
def Bq:Op->Bool
 |.defer _=>false
 |_=>true
section
variable(P:Program)(md:Md)(f:FuncId)(r:Rd)(df:List Deferred)(k:List Item)(cs:List Frame)(Stop:Goroutine->Heap->Prop)
def RL(ops rest:List Oper)(tm:List Value)(Φ:Heap->Prop):Prop:=
 ∀H,ops=H++rest->RS P md (G (FL f r tm df (.inRegion ops.toArray (List.range' H.length rest.length)::k)) cs) Φ Stop
end
section
variable{r:Rd}{k:List Item}{Stop:Goroutine->Heap->Prop}
theorem yoc[Stb Φ]{l:List Oper}(x:RL P md f r df k cs Stop l l tm Φ):RS P md (G (FL f r tm df (.code (.region id l.toArray false)::k)) cs) Φ Stop:=by
 refine ykz ?_;have:=x [] rfl;simpa[FL,List.range_eq_range']using this
theorem yit[Stb Φ](x:RS P md (G (FL f r tm df k) cs) Φ Stop):RL P md f r df k cs Stop ops [] tm Φ:=
 fun _ _=>xcf x
theorem xhf{H:List Oper}(e:ops=H++o::rest):ops.toArray[H.length]?=some o:=by subst e;simp
theorem xlw{H:List Oper}:List.range' H.length (o::rest).length=H.length::List.range' (H.length+1) rest.length:=by simp[List.range'_succ]
theorem xrj[Stb Φ](V:Met ops tm o true)(M:Bq o.op=true)(O:∀h,Φ h->Ex P tm o h K)
 (n:∀v,RL P md f r df k cs Stop ops rest (Cz tm o.dst v) (K v)):RL P md f r df k cs Stop ops (o::rest) tm Φ:=by
 intro H e;rw[xlw];refine yps (xhf e) (xxq V) xtw (by revert M;cases o.op<;>simp[Bq]) fun h y=>?_;rw[xbz];refine xex (O h y) fun n' h'⟨v,e',hK⟩=>⟨v,e',?_⟩
 have:=n v (H++[o]) (by simp[e]) h' hK;rw[xyq];simpa[FL]using this
theorem yqh[Stb Φ](hm:Met ops tm o true)(V:∀h,Φ h->Exd P tm o h v)(ht:Cz tm o.dst v=tm')(n:RL P md f r df k cs Stop ops rest tm' Φ)(O:Bq o.op=true:=by rfl):
 RL P md f r df k cs Stop ops (o::rest) tm Φ:=
 xrj (K:=fun v' h'=>v'=v/\Φ h') hm O (fun h y=>xex (V h y) fun _ _⟨v',H,e2,e3⟩=>⟨v',H,e2,by rw[e3];exact y⟩) fun v' M e h⟨H,y⟩=>by subst H;rw[ht];exact n M e h y
theorem yvm[Stb Φ]{K:Heap->Prop}(V:Met ops tm o true)(M:Bq o.op=true)(O:∀h,Φ h->wpS P (execOp (evl tm) o) h fun n h'=>n=.skip/\K h')
 (ht:Cz tm o.dst undef=tm')(n:RL P md f r df k cs Stop ops rest tm' K):RL P md f r df k cs Stop ops (o::rest) tm Φ:=by
 intro H e;rw[xlw];refine yhm (xhf e) (xxq V) xtw (by revert M;cases o.op<;>simp[Bq]) fun h y=>?_;rw[xbz];refine xex (O h y) fun n' h'⟨e',hK⟩=>⟨e',?_⟩
 have:=n (H++[o]) (by simp[e]) h' hK;rw[xyq,ht];simpa[FL]using this
theorem xub[Stb Φ](M:Met ops tm o false)(O:Cz tm o.dst undef=tm')(n:RL P md f r df k cs Stop ops rest tm' Φ):RL P md f r df k cs Stop ops (o::rest) tm Φ:=by
 intro H e;rw[xlw];refine xjs (xhf e) (xxq M) ?_;have:=n (H++[o]) (by simp[e]);rw[xyq,O];simpa[FL]using this
theorem xgk{Ψ:α->Heap->Prop}(n:∀x,RL P md f r df k cs Stop ops rest tm (Ψ x)):RL P md f r df k cs Stop ops rest tm (fun h=>∃x,Ψ x h):=fun H e h⟨x,y⟩=>n x H e h y
theorem xyx{c:Prop}(n:c->RL P md f r df k cs Stop ops rest tm Φ):RL P md f r df k cs Stop ops rest tm (fun h=>c/\Φ h):=fun H e h⟨x,y⟩=>n x H e h y
theorem xi3(n:RL P md f r df k cs Stop ops rest tm Φ)(hi:∀h,Ψ h->Φ h):RL P md f r df k cs Stop ops rest tm Ψ:=fun H e h y=>n H e h (hi h y)
theorem xyg(n:RS P md g Φ Stop)(hi:∀h,Ψ h->Φ h):RS P md g Ψ Stop:=fun h y=>n h (hi h y)
def Ao(P:Program)(g:FuncId):Bool:=
 match P.funcs[g]? with
 | some fn => fn.name != "runtime.NumGoroutine" && fn.body.isSome
 |none=>false
theorem xnb{g:FuncId}{args:Array Value}{K:Next->Heap->Prop}(hc:Ao P g=true)(x:K (.enter g args) h):wpS P (callFunc g args) h K:=by
 unfold Ao at hc;unfold callFunc;refine xaq ?_;show wpS P program h _;simp only[program,wpS];split at hc
 ·rename_i fn H;simp only[Bool.and_eq_true,bne_iff_ne,ne_eq]at hc;rw[H];simp only;rw[if_neg (by simpa using hc.1),if_neg (by have:=hc.2;cases M:fn.body<;>simp_all)];exact xbq x
 ·cases hc
theorem xuw{pos:String}{g:FuncId}
 (O:evl tm x=.func (.func g) first.toArray cap.toArray)(H:first++(args.map (evl tm)++cap)=vs)(M:Ao P g=true):
 wpS P (execOp (evl tm) ⟨d,.call ⟨.value x,args.toArray,ats⟩,ty,pos,aft,gd⟩) h fun n h'=>n=.enter g vs.toArray/\h'=h:=by
 simp only[execOp];refine xaq ?_;unfold resolve;simp only[O,Deferred.ofValue];refine xbq ?_;simp only[invoke];refine xnb M ⟨?_,rfl⟩;rw[<- H];simp
theorem xdv[Stb Φ]{pos:String}{g:FuncId}
 (hm:Met ops tm ⟨d,.call ⟨.value x,args.toArray,ats⟩,ty,pos,aft,gd⟩ true)(O:evl tm x=.func (.func g) first.toArray cap.toArray)(M:first++(args.map (evl tm)++cap)=vs)(hg:Ao P g=true)
 (hc:∀h,Φ h->Ac P md g vs.toArray h R)(n:∀v,RL P md f r df k cs Stop ops rest (Cz tm d v) (R v)):
 RL P md f r df k cs Stop ops (⟨d,.call ⟨.value x,args.toArray,ats⟩,ty,pos,aft,gd⟩::rest) tm Φ:=by
 intro H e;rw[xlw];refine ylz (xhf e) (xxq hm) xtw rfl (fun h y=>by rw[xbz];exact xuw O M hg) hc fun v h' V=>?_;have:=n v (H++[⟨d,.call ⟨.value x,args.toArray,ats⟩,ty,pos,aft,gd⟩]) (by simp[e]) h' V;rw[xyq];simpa[FL]using this
theorem xz5[sb:Stb Φ]{pos:String}{g:FuncId}
 (hm:Met ops tm ⟨d,.call ⟨.value x,args.toArray,ats⟩,ty,pos,aft,gd⟩ true)(V:evl tm x=.func (.func g) first.toArray cap.toArray)(O:first++(args.map (evl tm)++cap)=vs)(hg:Ao P g=true)
 (hc:∀h,Φ h->Ac P md g vs.toArray h fun v' h'=>v'=v/\Av h h')(ht:Cz tm d v=tm')(n:RL P md f r df k cs Stop ops rest tm' Φ):
 RL P md f r df k cs Stop ops (⟨d,.call ⟨.value x,args.toArray,ats⟩,ty,pos,aft,gd⟩::rest) tm Φ:=
 xdv (R:=fun v' h'=>v'=v/\Φ h') hm V O hg (fun h y=>(hc h y).mono fun _ h'⟨H,e2⟩=>⟨H,sb.stb _ _ y e2⟩) fun v' M e h⟨H,y⟩=>by subst H;rw[ht];exact n M e h y
section
variable[Stb Φ]
theorem yq0{x y:Code}(z:RS P md (G (FL f r tm df (.code x::.code y::k)) cs) Φ Stop):RS P md (G (FL f r tm df (.code (.seq x y)::k)) cs) Φ Stop:=yqs z
theorem yun(z:RS P md (G (FL f r tm df k) cs) Φ Stop):RS P md (G (FL f r tm df (.code .skip::k)) cs) Φ Stop:=yim z
theorem ydq(z:RS P md (G (FL f r tm df k) cs) Φ Stop):RS P md (G (FL f r tm df (.inBlock id::k)) cs) Φ Stop:=xe9 z
theorem yff{c:Code}(z:RS P md (G (FL f r tm df (.code c::.inBlock id::k)) cs) Φ Stop):RS P md (G (FL f r tm df (.code (.block id c)::k)) cs) Φ Stop:=yic z
theorem yap{k':List Item}(H:exitTo id k=some k')(z:RS P md (G (FL f r tm df k') cs) Φ Stop):RS P md (G (FL f r tm df (.code (.exit id)::k)) cs) Φ Stop:=yjm H z
theorem yd4{c:Operand}{x y:Code}{t:Bool}(hc:evl tm c=.bool t)(M:t=true->RS P md (G (FL f r tm df (.code x::k)) cs) Φ Stop)(H:t=false->RS P md (G (FL f r tm df (.code y::k)) cs) Φ Stop):
 RS P md (G (FL f r tm df (.code (.cond c x y)::k)) cs) Φ Stop:=by
 refine ylm (t:=t) (by rw[xbz];exact hc) ?_;cases t
 ·exact H rfl
 ·exact M rfl
theorem yyn{c:Code}(I:Nat->List Value->Heap->Prop)[sI:∀m tm,Stb (I m tm)](start:∀h,Φ h->I m₀ tm h)
 (M:∀m tm,(∀m' tm',m'<m->RS P md (G (FL f r tm' df (.inLoop c::k)) cs) (I m' tm') Stop)->RS P md (G (FL f r tm df (.code c::.inLoop c::k)) cs) (I m tm) Stop):
 RS P md (G (FL f r tm df (.code (.loop c)::k)) cs) Φ Stop:=by
 refine xf3 ?_
 suffices H:∀m tm,RS P md (G (FL f r tm df (.code c::.inLoop c::k)) cs) (I m tm) Stop from fun h y=>H _ _ h (start h y)
 intro m
 induction m using Nat.strongRecOn with
 |_ m ih=>exact fun tm=>M m tm fun m' tm' O=>xwm (ih m' O tm')
end
theorem xtd{c:Code}{args:Array Value}(hf:P.funcs[f]?=some fn)(M:fn.body=some c)
 (O:args.toList++List.replicate (fn.ntmps-args.size) undef=tm)
 (x:∀(zq:Frame)(cs:List Frame)(Stop:Goroutine->Heap->Prop),(∀v h',R v h'->Reach P md (G (zq.finish v) cs) h' Stop)->
  RS P md (G (FL f .none tm [] [.code c]) (zq::cs)) Φ Stop)(H:Φ h):Ac P md f args h R:=by
 intro zq cs Stop K;have:=x zq cs Stop K h H;have e:Frame.enter P f args .normal=FL f .none tm [] [.code c]:=by
  unfold Frame.enter;simp only[hf,M,Option.map_some,Option.bind_some,Option.getD_some,FL,F,B,<- O];simp[Rd.kind,Rd.round]
 rw[e];exact this
def Res(P:Program)(h:Heap)(tm:List Value):List ResultVar->List Value->Prop
 |[],vs=>vs=[]
 |.tmp t::rs,vs=>∃v H,vs=v::H/\tm.getD t undef=v/\Res P h tm rs H
 |.cell a t::rs,vs=>∃v H,vs=v::H/\wpS P (do loadVar t (<- asAddr (tm.getD a undef))) h (fun v' h'=>v'=v/\h'=h)/\Res P h tm rs H
theorem xe0:∀{vs:List Value}{acc:Array Value}{K:Array Value->Heap->Prop},Res P h tm rs vs->K (acc++vs.toArray) h->
 wpS P (rs.foldlM (fun(bs:Array Value)a=>bs.push <$> (match a with
  |.tmp t=>pure (tm.toArray.getD t undef)
  |.cell a t=>do loadVar t (<- asAddr (tm.toArray.getD a undef)):Sem Value)) acc) h K:=by
 induction rs with
 |nil=>intro vs acc K e x;simp only[Res]at e;subst e;exact xbq (by simpa using x)
 |cons a rs ih=>
   intro vs acc K e x;rw[List.foldlM_cons];have H:∀t,tm.toArray.getD t undef=tm.getD t undef:=fun t=>by simp[Array.getD_eq_getD_getElem?,List.getD_eq_getElem?_getD]
   cases a with
   |tmp t=>
     obtain⟨v,V,rfl,hv,O⟩:=e;refine xaq ?_;show wpS P (Sem.bind _ _) h _;refine xxd ?_;refine xbq ?_;refine xbq ?_;refine ih O ?_;rw[H,hv];simpa using x
   |cell a t=>
     obtain⟨v,V,rfl,hv,O⟩:=e;refine xaq ?_;show wpS P (Sem.bind _ _) h _;refine xxd ?_;have M:wpS P (do loadVar t (<- asAddr (tm.toArray.getD a undef))) h (fun v' h'=>v'=v/\h'=h):=by rw[H];exact hv
     refine xex M fun v' h'⟨e1,e2⟩=>?_;subst e1;subst e2;refine xbq ?_;refine ih O ?_;simpa using x
def F9:List Value->Value
 |[v]=>v
 |vs=>.tuple vs.toArray
theorem xhd(H:fn.results=rs.toArray)(e:Res P h tm rs vs)(hv:F9 vs=v)(x:K v h):
 wpS P (results fn tm.toArray) h K:=by
 unfold results;refine xaq ?_;rw[H,Array.mapM_eq_foldlM,List.foldlM_toArray];refine xe0 e ?_;refine xbq ?_;subst hv;simp only[Array.empty_append]
 match vs,x with
 |[],x=>exact x
 |[_],x=>exact x
 |_::_::_,x=>simpa[F9]using x
theorem ybl[Stb Φ](hf:P.funcs[f]?=some fn)(H:fn.results=rs.toArray)(e:∀h,Φ h->Res P h tm rs vs)(hv:F9 vs=v)
 (x:RS P md (G (zq.finish v) cs) Φ Stop):RS P md (G (FL f .none tm [] (.code .ret::k)) (zq::cs)) Φ Stop:=
 yjz (hro:=rfl) fun _=>xvm hf rfl fun h y=>xhd H (e h y) hv (x h y)
theorem yzn[Stb Φ](hf:P.funcs[f]?=some fn)(H:fn.results=rs.toArray)(e:∀h,Φ h->Res P h tm rs vs)(hv:F9 vs=v)
 (x:RS P md (G (zq.finish v) cs) Φ Stop):RS P md (G (FL f .none tm [] []) (zq::cs)) Φ Stop:=
 yjh (hro:=rfl) fun _=>xvm hf rfl fun h y=>xhd H (e h y) hv (x h y)
end
abbrev Ab:=Nat->Option Obj
variable{p p':Ab}
def Aw(p:Ab)(a:Addr):Option Value:=
 match p a.block with
 |some (.cells c _ _)=>if a.spot.isSome then none else c[a.off]?
 |_=>none
def PLe(p p':Ab):Prop:=∀b o,p b=some o->p' b=some o
theorem PLe.refl(p:Ab):PLe p p:=fun _ _ x=>x
theorem PLe.trans{p q r:Ab}(x:PLe p q)(y:PLe q r):PLe p r:=fun b o z=>y b o (x b o z)
theorem PLe.cell{p p':Ab}(x:PLe p p'){a:Addr}{v:Value}(y:Aw p a=some v):Aw p' a=some v:=by
 unfold Aw at y⊢;split at y
 ·rename_i c t z H;rw[x _ _ H];exact y
 ·cases y
structure St(z9:Heap)(zz:List Nat)(p:Ab)(h:Heap)(L:List (Nat×Obj)):Prop where
 C3:∀b,b<z9.size->b∉zz->h[b]?=z9[b]?
 size:z9.size<=h.size
 per:∀b o,p b=some o->h[b]?=some o
 own:∀x∈L,h[x.1]?=some x.2/\p x.1=none/\(z9.size<=x.1\/x.1∈zz)
 nod:(L.map (·.1)).Nodup
section
variable{L:List (Nat×Obj)}
theorem xix{o:Obj}(x:h[b]?=some o):b<h.size:=(Array.getElem?_eq_some_iff.1 x).1
theorem St.kept(s:St z9 [] p h L):Av z9 h:=⟨s.size,fun b H=>s.C3 b H s_⟩
theorem St.start(h:Heap)(p:Ab)(H:∀b o,p b=some o->h[b]?=some o):St h [] p h []:=
 ⟨fun _ _ _=>rfl,Nat.le_refl _,H,s_,s_⟩
theorem St.drop{x:Nat×Obj}(s:St z9 zz p h (x::L)):St z9 zz p h L:=
 ⟨s.C3,s.size,s.per,fun y H=>s.own y (by simp[H]),by have:=s.nod;simp at this;exact this.2⟩
theorem St.sub{L':List (Nat×Obj)}(s:St z9 zz p h L)(hs:L'.Sublist L):St z9 zz p h L':=
 ⟨s.C3,s.size,s.per,fun y H=>s.own y (hs.subset H),s.nod.sublist (hs.map _)⟩
theorem St.perm{L':List (Nat×Obj)}(s:St z9 zz p h L)(hs:L.Perm L'):St z9 zz p h L':=
 ⟨s.C3,s.size,s.per,fun y H=>s.own y (hs.mem_iff.2 H),(hs.map (·.1)).nodup_iff.1 s.nod⟩
theorem St.call(s:St z9 zz p h L)(k:Av h h'):St z9 zz p h' L:=
 ⟨fun b M hn=>(k.C3 b (Nat.lt_of_lt_of_le M s.size)).trans (s.C3 b M hn),Nat.le_trans s.size k.size,
  fun b o x=>(k.C3 b (xix (s.per b o x))).trans (s.per b o x),
  fun x H=>⟨(k.C3 _ (xix (s.own x H).1)).trans (s.own x H).1,(s.own x H).2⟩,s.nod⟩
instance:Stb (fun h=>St z9 zz p h L):=⟨fun _ _ s k=>s.call k⟩
theorem St.push(s:St z9 zz p h L)(o:Obj):St z9 zz p (h.push o) ((h.size,o)::L):=by
 have k:Av h (h.push o):=⟨s_,fun b hb=>by rw[Array.getElem?_push,if_neg om]⟩
 have M:=s.call k;refine⟨M.C3,M.size,M.per,?_,?_⟩
 ·intro x H;rcases List.mem_cons.1 H with rfl|H
  ·refine⟨s_,?_,.inl s.size⟩;cases V:p h.size with
   |none=>rfl
   |some y=>exact absurd (xix (s.per _ _ V)) s_
  ·exact M.own x H
 ·simp only[List.map_cons,List.nodup_cons];refine⟨?_,s.nod⟩;intro O;obtain⟨x,H,e⟩:=List.mem_map.1 O;have:=xix (s.own x H).1;omega
theorem mem_of_get?{l:List α}{x:α}(h:l[i]?=some x):x∈l:=List.mem_of_getElem? h
theorem St.at(s:St z9 zz p h L){i b:Nat}{o:Obj}(H:L[i]?=some (b,o)):h[b]?=some o:=(s.own _ (mem_of_get? H)).1
theorem ydk{l:List Nat}(hn:l.Nodup){x:Nat}(hi:l[i]?=some x)(hj:l[j]?=some x):i=j:=by
 obtain⟨H,V⟩:=List.getElem?_eq_some_iff.1 hi;obtain⟨M,O⟩:=List.getElem?_eq_some_iff.1 hj;have h:=List.pairwise_iff_getElem.1 hn;rcases Nat.lt_trichotomy i j with hlt|rfl|hlt
 ·exact absurd (V.trans O.symm) (h i j H M hlt)
 ·rfl
 ·exact absurd (O.trans V.symm) (h j i M H hlt)
theorem St.Ow(s:St z9 zz p h L){i b:Nat}{o o':Obj}(O:L[i]?=some (b,o))(hb:h'[b]?=some o')(hs:h'.size=h.size)
 (H:∀c,c≠b->h'[c]?=h[c]?):St z9 zz p h' (L.set i (b,o')):=by
 have ho:=s.own _ (mem_of_get? O);have hp:∀c o,p c=some o->c≠b:=fun c o hc e=>by subst e;rw[ho.2.1]at hc;cases hc
 refine⟨fun c hc hn=>?_,by rw[hs];exact s.size,fun c o hc=>by rw[H c (hp c o hc)];exact s.per c o hc,?_,?_⟩
 ·by_cases e:c=b
  ·subst e;rcases ho.2.2 with x|x
   ·omega
   ·exact absurd x hn
  ·rw[H c e];exact s.C3 c hc hn
 ·intro x hx;obtain⟨j,M⟩:=List.getElem?_of_mem hx;rw[List.getElem?_set]at M;split at M
  ·split at M
   ·cases M;exact⟨hb,ho.2⟩
   ·cases M
  ·rename_i a2;have a3:=s.own x (mem_of_get? M);have V:x.1≠b:=by
    intro e;refine a2 (ydk s.nod (i:=i) (j:=j) (x:=b) ?_ ?_)
    ·rw[List.getElem?_map,O];rfl
    ·rw[List.getElem?_map,M];simp[e]
   rw[H _ V];exact a3
 ·have:(L.set i (b,o')).map (·.1)=L.map (·.1):=by
   rw[List.map_set];refine List.ext_getElem? fun j=>?_;rw[List.getElem?_set];split
   ·rename_i e;subst e;simp only[List.length_map,List.getElem?_map,O,Option.map_some];rw[if_pos (List.getElem?_eq_some_iff.1 O).1]
   ·rfl
  rw[this];exact s.nod
theorem xe3{cs:Array Value}{z:Nat×Nat}(H:h[b]?=some (.cells cs T z)):
 (setCell h ⟨b,off,none⟩ v)[b]?=some (.cells (cs.setIfInBounds off v) T z):=by
 unfold setCell;rw[getElem?_modify',if_pos rfl,H];rfl
theorem xd9{c:Nat}(hc:c≠b):(setCell h ⟨b,off,none⟩ v)[c]?=h[c]?:=by
 unfold setCell;rw[getElem?_modify',if_neg (fun e=>hc e.symm)]
theorem xs0{a:Addr}:(setCell h a v).size=h.size:=by simp[setCell]
theorem St.store(s:St z9 zz p h L){i b off:Nat}{cs:Array Value}{T:TypeId}{z:Nat×Nat}{v:Value}(H:L[i]?=some (b,.cells cs T z)):
 St z9 zz p (setCell h ⟨b,off,none⟩ v) (L.set i (b,.cells (cs.setIfInBounds off v) T z)):=
 s.Ow H (xe3 (s.at H)) xs0 fun _=>xd9
theorem St.grow(s:St z9 zz p h L)(_hle:PLe p p')(M:∀b o,p' b=some o->h[b]?=some o)(hn:∀x∈L,p' x.1=none):St z9 zz p' h L:=
 ⟨s.C3,s.size,M,fun x H=>⟨(s.own x H).1,hn x H,(s.own x H).2.2⟩,s.nod⟩
def Hf(p:Ab)(b:Nat)(o:Obj):Ab:=fun c=>if c=b then some o else p c
theorem xws{o:Obj}(H:p b=none):PLe p (Hf p b o):=fun c x hc=>by
 unfold Hf;rw[if_neg];exact hc;intro e;subst e;rw[H]at hc;cases hc
theorem xyk{o:Obj}:Hf p b o b=some o:=if_pos rfl
theorem St.last{b:Nat}{o:Obj}(s:St z9 zz p h ((b,o)::L)):PLe p (Hf p b o)/\St z9 zz (Hf p b o) h L:=by
 have H:=s.own (b,o) s_;refine⟨xws H.2.1,s.drop.grow (xws H.2.1) ?_ ?_⟩
 ·intro c x hc;unfold Hf at hc;split at hc
  ·rename_i e;subst e;cases hc;exact H.1
  ·exact s.per c x hc
 ·intro x M;unfold Hf;have hn:=s.nod;simp only[List.map_cons,List.nodup_cons]at hn;rw[if_neg (fun e=>hn.1 (List.mem_map.2 ⟨x,M,e⟩))];exact(s.own x (by simp[M])).2.1
theorem St.cell(s:St z9 zz p h L){a:Addr}{v:Value}(x:Aw p a=some v):cell? h a=some v:=by
 unfold Aw at x;unfold cell?;split at x
 ·rename_i c t z H;rw[s.per _ _ H];exact x
 ·cases x
theorem St.Fs(s:St z9 zz p h L){i b off:Nat}{cs:Array Value}{T:TypeId}{z:Nat×Nat}{v:Value}(H:L[i]?=some (b,.cells cs T z))(hv:cs[off]?=some v):
 cell? h ⟨b,off,none⟩=some v:=by
 unfold cell?;rw[s.at H];exact hv
end
def Gs(P:Program)(t:TypeId):Option Bool:=(P.underlying t).map fun|.struct _=>true|.array _ _=>true|_=>false
def Bv(P:Program)(t:TypeId):Option Nat:=(P.info? t).map (·.size)
def D5(P:Program)(t:TypeId):Option Nat:=(P.info? t).map (·.bytes)
def Ep(P:Program)(t:TypeId):Option Value:=(P.info? t).bind (·.zero)
def Kz(P:Program)(t:TypeId):Option (List (Nat×Nat)):=
 match P.underlying t with
 |some (.struct fs)=>fs.toList.mapM fun f=>(Bv P f.type).map fun n=>(f.offset,n)
 |_=>none
theorem xcq{d:TypeDesc}{K:TypeDesc->Heap->Prop}(H:P.underlying t=some d)(x:K d h):wpS P (underlying t) h K:=by
 unfold underlying;refine xaq ?_;simp only[program,wpS,H];exact xbq x
theorem xkx{i:TypeInfo}{K:TypeInfo->Heap->Prop}(H:P.info? t=some i)(x:K i h):wpS P (typeInfo t) h K:=by
 unfold typeInfo;refine xaq ?_;simp only[program,wpS,H];exact xbq x
theorem xvq{K:Nat->Heap->Prop}(H:Bv P t=some n)(x:K n h):wpS P (sizeOf t) h K:=by
 unfold Bv at H;cases hi:P.info? t with
 |none=>rw[hi]at H;cases H
 |some i=>
   rw[hi]at H;cases H;unfold sizeOf;refine xaq (xkx hi ?_);exact xbq x
theorem xzx(H:Ep P t=some v)(x:K v h):wpS P (zeroValue t) h K:=by
 unfold Ep at H;cases hi:P.info? t with
 |none=>rw[hi]at H;cases H
 |some i=>
   rw[hi]at H;unfold zeroValue;refine xaq (xkx hi ?_);simp only[Option.bind_some]at H;simp only[H];exact xbq x
theorem xlb{b:Bool}{K:Bool->Heap->Prop}(H:Gs P t=some b)(x:K b h):wpS P (isAgg t) h K:=by
 unfold Gs at H;cases M:P.underlying t with
 |none=>rw[M]at H;cases H
 |some d=>
   rw[M]at H;unfold isAgg;refine xaq (xcq M ?_);cases d<;>simp at H<;>subst H<;>exact xbq x
theorem xpw{a:Addr}:∀{n i:Nat}{vs:List Value}{acc:Array Value}{K:Array Value->Heap->Prop},vs.length=n->
 (∀j v,vs[j]?=some v->cell? h (a.add (i+j))=some v)->K (acc++vs.toArray) h->wpS P (loadCellsFrom a i n acc) h K
 |0,i,vs,acc,K,hn,_,x=>by
   obtain rfl:=List.eq_nil_of_length_eq_zero hn;exact xbq (by simpa using x)
 |n+1,i,vs,acc,K,hn,hc,x=>by
   match vs,hn with
   |v::vs,hn=>
     unfold loadCellsFrom;refine xaq ?_;refine⟨rfl,v,by simpa using hc 0 v rfl,?_⟩;refine xpw (vs:=vs) (by simpa using hn) (fun j u H=>?_) (by simpa using x);have:=hc (j+1) u (by simpa using H);rwa[show i+1+j=i+(j+1) from by omega]
theorem xmz{a:Addr}{K:Array Value->Heap->Prop}(hn:vs.length=n)(hc:∀j v,vs[j]?=some v->cell? h (a.add j)=some v)(x:K vs.toArray h):
 wpS P (loadCells a n) h K:=xpw hn (by simpa using hc) (by simpa using x)
theorem xsh{a:Addr}(H:Gs P t=some false)(hc:cell? h a=some v)(x:K v h):wpS P (loadVar t a) h K:=by
 unfold loadVar;refine xaq (xlb H ?_);exact⟨rfl,v,hc,x⟩
theorem xrh{a:Addr}(H:Gs P t=some true)(hs:Bv P t=some n)(hn:vs.length=n)
 (hc:∀j v,vs[j]?=some v->cell? h (a.add j)=some v)(x:K (.agg vs.toArray) h):wpS P (loadVar t a) h K:=by
 unfold loadVar;refine xaq (xlb H ?_);simp only[if_true];refine xaq (xvq hs ?_);refine xaq (xmz hn hc ?_);exact xbq x
theorem xox(b off n:Nat):(⟨b,off,none⟩:Addr).add n=⟨b,off+n,none⟩:=by unfold Addr.add;split<;>simp_all
open Go.RowKit (wrap64)
variable{fs:Array Field}{params:Array Tmp}{op:BinOp}{code:BoundsCode}{assign body:Code}{fd:Field}{k':IntKind}{parts:List (Nat×Operand)}{full:List Oper}{rv:List ResultVar}{lp lp':Loop}{fop xo y yo:Operand}{a':Option Addr}{jump:Option Code}{s:Sem Value}{D:TypeDesc}
section
variable{pos:String}
theorem yw3{x:Bool}(h:x=false):(!x)=true:=by rw[h];rfl
theorem wrZ{n:Int}(h: -9223372036854775808<=n/\n<=9223372036854775807):IntKind.i64.wrap n=n:=IntWalk.i64_in n h
theorem xbj(e:execOp (evl tm) o=(do pure (.value (<- s))))(x:wpS P s h fun v' h'=>v'=v/\h'=h):Exd P tm o h v:=by
 unfold Exd Ex;rw[e];refine xaq (xex x fun v' h'⟨H,M⟩=>?_);exact xbq ⟨v',rfl,H,M⟩
theorem yrf(H:evl tm x=v):Exd P tm ⟨d,.move x,ty,pos,aft,gd⟩ h v:=by
 unfold Exd Ex;simp only[execOp];exact xbq ⟨_,rfl,H,rfl⟩
theorem ypq(H:evl tm x=v):Exd P tm ⟨d,.assign x,ty,pos,aft,gd⟩ h v:=by
 unfold Exd Ex;simp only[execOp];exact xbq ⟨_,rfl,H,rfl⟩
theorem xw7{c a b:Operand}{t:Bool}(hc:evl tm c=.bool t)(hv:(if t then evl tm a else evl tm b)=v):Exd P tm ⟨d,.pick c a b,ty,pos,aft,gd⟩ h v:=by
 unfold Exd Ex;simp only[execOp,hc];refine xaq ?_;refine xbq ?_;refine xbq ⟨_,rfl,?_,rfl⟩;rw[<- hv]
theorem xsr{c a b:Operand}{t:Bool}(hc:evl tm c=.bool t)(M:t=true)(H:evl tm a=v):Exd P tm ⟨d,.pick c a b,ty,pos,aft,gd⟩ h v:=xw7 hc (by rw[M];exact H)
theorem xtr{c a b:Operand}{t:Bool}(hc:evl tm c=.bool t)(M:t=false)(H:evl tm b=v):Exd P tm ⟨d,.pick c a b,ty,pos,aft,gd⟩ h v:=xw7 hc (by rw[M];exact H)
theorem xrx{a b:Value}(H:evl tm x=a)(M:evl tm y=b)(O:∀K:Unit->Heap->Prop,K () h->wpS P (eqGuard op T x y a b) h K)
 (hv:wpS P (binOp op T a b) h fun v' h'=>v'=v/\h'=h):Exd P tm ⟨d,.binOp op T x y T',ty,pos,aft,gd⟩ h v:=by
 refine xbj (s:=do eqGuard op T x y a b;binOp op T a b) (by simp only[execOp,H,M]) ?_;refine xaq (O _ ?_);exact hv
theorem xdx{a b:Value}(H:(match op with|.eql=>false|.neq=>false|_=>true)=true){K:Unit->Heap->Prop}(k:K () h):wpS P (eqGuard op T x y a b) h K:=by
 unfold eqGuard;cases op<;>first|exact absurd H d_|(rw[if_pos (by rfl)];exact xbq k)
theorem xjk{k:IntKind}{a b:Int}{K:Unit->Heap->Prop}(z:K () h):wpS P (eqGuard op T x y (.int k a) (.int k' b)) h K:=by
 unfold eqGuard;cases op<;>first|(rw[if_pos (by rfl)];exact xbq z)|(rw[if_neg d_];exact xbq z)
theorem Pj(a b:Int):(a==b)=decide (a=b):=by rw[Bool.eq_iff_iff];simp
theorem yuv{k:IntKind}{a b n:Int}(H:evl tm x=.int k a)(M:evl tm y=.int k b)(hn:k.wrap (a+b)=n):Exd P tm ⟨d,.binOp .add T x y T',ty,pos,aft,gd⟩ h (.int k n):=
 xrx H M (fun K z=>xdx rfl z) (by simp only[binOp,ne_eq,not_true_eq_false,if_false,Op.intArith,hn];exact xbq ⟨rfl,rfl⟩)
theorem ymv{k:IntKind}{a b n:Int}(H:evl tm x=.int k a)(M:evl tm y=.int k b)(hn:k.wrap (a-b)=n):Exd P tm ⟨d,.binOp .sub T x y T',ty,pos,aft,gd⟩ h (.int k n):=
 xrx H M (fun K z=>xdx rfl z) (by simp only[binOp,ne_eq,not_true_eq_false,if_false,Op.intArith,hn];exact xbq ⟨rfl,rfl⟩)
theorem ynv{k:IntKind}{a b n:Int}(H:evl tm x=.int k a)(M:evl tm y=.int k b)(hn:k.wrap (a*b)=n):Exd P tm ⟨d,.binOp .mul T x y T',ty,pos,aft,gd⟩ h (.int k n):=
 xrx H M (fun K z=>xdx rfl z) (by simp only[binOp,ne_eq,not_true_eq_false,if_false,Op.intArith,hn];exact xbq ⟨rfl,rfl⟩)
theorem ymp{k:IntKind}{a b:Int}(H:evl tm x=.int k a)(M:evl tm y=.int k b):Exd P tm ⟨d,.binOp .lss T x y T',ty,pos,aft,gd⟩ h (.bool (decide (a<b))):=
 xrx H M (fun K z=>xdx rfl z) (by simp only[binOp,ne_eq,not_true_eq_false,if_false,Op.intCmp];exact xbq ⟨rfl,rfl⟩)
theorem ynp{k:IntKind}{a b:Int}(H:evl tm x=.int k a)(M:evl tm y=.int k b):Exd P tm ⟨d,.binOp .leq T x y T',ty,pos,aft,gd⟩ h (.bool (decide (a<=b))):=
 xrx H M (fun K z=>xdx rfl z) (by simp only[binOp,ne_eq,not_true_eq_false,if_false,Op.intCmp];exact xbq ⟨rfl,rfl⟩)
theorem yop{k:IntKind}{a b:Int}(H:evl tm x=.int k a)(M:evl tm y=.int k b):Exd P tm ⟨d,.binOp .gtr T x y T',ty,pos,aft,gd⟩ h (.bool (decide (b<a))):=
 xrx H M (fun K z=>xdx rfl z) (by simp only[binOp,ne_eq,not_true_eq_false,if_false,Op.intCmp];exact xbq ⟨rfl,rfl⟩)
theorem ypp{k:IntKind}{a b:Int}(H:evl tm x=.int k a)(M:evl tm y=.int k b):Exd P tm ⟨d,.binOp .geq T x y T',ty,pos,aft,gd⟩ h (.bool (decide (b<=a))):=
 xrx H M (fun K z=>xdx rfl z) (by simp only[binOp,ne_eq,not_true_eq_false,if_false,Op.intCmp];exact xbq ⟨rfl,rfl⟩)
theorem yqp{k:IntKind}{a b:Int}(H:evl tm x=.int k a)(M:evl tm y=.int k b):Exd P tm ⟨d,.binOp .eql T x y T',ty,pos,aft,gd⟩ h (.bool (decide (a=b))):=
 xrx H M (fun K z=>xjk z) (by simp only[binOp,ne_eq,not_true_eq_false,if_false,Op.intCmp];exact xbq ⟨by rw[Pj],rfl⟩)
theorem yhp{k:IntKind}{a b:Int}(H:evl tm x=.int k a)(M:evl tm y=.int k b):Exd P tm ⟨d,.binOp .neq T x y T',ty,pos,aft,gd⟩ h (.bool (decide (a≠b))):=
 xrx H M (fun K z=>xjk z) (by simp only[binOp,ne_eq,not_true_eq_false,if_false,Op.intCmp];exact xbq ⟨by simp[bne,Pj],rfl⟩)
theorem ygp{b:Bool}(H:evl tm x=.bool b):Exd P tm ⟨d,.unOp .not T x,ty,pos,aft,gd⟩ h (.bool (!b)):=
 xbj (s:=pure (.bool (!b))) (by simp only[execOp,H,Op.unary]) (xbq ⟨rfl,rfl⟩)
theorem xb4{k:IntKind}{a n:Int}(H:evl tm x=.int k a)(hn:k.wrap (0-a)=n):Exd P tm ⟨d,.unOp .neg T x,ty,pos,aft,gd⟩ h (.int k n):=
 xbj (s:=pure (.int k n)) (by simp only[execOp,H,Op.unary,Op.intArith,hn]) (xbq ⟨rfl,rfl⟩)
theorem xtk{b:Builtin}{args:Array Operand}
 (e:∀cs,builtin b ats ty cs (args.map (evl tm))=(do pure (.value (<- s))))(x:wpS P s h fun v' h'=>v'=v/\h'=h):
 Exd P tm ⟨d,.call {callee:=.builtin b,args:=args,argTypes:=ats},ty,pos,aft,gd⟩ h v:=by
 unfold Exd Ex;simp only[execOp,resolve];refine xaq (xbq ?_);simp only[invoke];rw[e];refine xaq (xex x fun v' h'⟨H,M⟩=>?_);exact xbq ⟨v',rfl,H,M⟩
theorem ypv{e:TypeId}{a:Option Addr}{c:Nat}(M:P.underlying t=some (.slice e))(H:evl tm x=.slice a n c):
 Exd P tm ⟨d,.call {callee:=.builtin .len,args:=#[x],argTypes:=#[t]},ty,pos,aft,gd⟩ h (.J n):=by
 refine xtk (s:=Builtin.len_ #[t] ty #[.slice a n c]) (fun cs=>by simp only[builtin,List.map_toArray,List.map_cons,List.map_nil,H]) ?_;simp only[Builtin.len_];refine xaq (xcq M ?_);exact xbq ⟨rfl,rfl⟩
theorem ysf{s:ByteArray}(H:P.underlying t=some .string)(M:evl tm x=.string s):
 Exd P tm ⟨d,.call {callee:=.builtin .len,args:=#[x],argTypes:=#[t]},ty,pos,aft,gd⟩ h (.J s.size):=by
 refine xtk (s:=Builtin.len_ #[t] ty #[.string s]) (fun cs=>by simp only[builtin,List.map_toArray,List.map_cons,List.map_nil,M]) ?_;simp only[Builtin.len_];refine xaq (xcq H ?_);exact xbq ⟨rfl,rfl⟩
theorem ykp{k:IntKind}{a b:Int}(H:evl tm x=.int k a)(M:evl tm y=.int k' b):
 Exd P tm ⟨d,.call {callee:=.builtin .min,args:=#[x,y],argTypes:=ats},ty,pos,aft,gd⟩ h (.int k (min a b)):=by
 refine xtk (s:=pure (.int k (min a b))) (fun cs=>?_) (xbq ⟨rfl,rfl⟩);have e:(if b<a then b else a)=min a b:=by rw[Int.min_def];split<;>split<;>omega
 simp[builtin,H,M,Builtin.min_,Builtin.min2,e]
theorem ylp{k:IntKind}{a b:Int}(H:evl tm x=.int k a)(M:evl tm y=.int k' b):
 Exd P tm ⟨d,.call {callee:=.builtin .max,args:=#[x,y],argTypes:=ats},ty,pos,aft,gd⟩ h (.int k (max a b)):=by
 refine xtk (s:=pure (.int k (max a b))) (fun cs=>?_) (xbq ⟨rfl,rfl⟩);have e:(if b>a then b else a)=max a b:=by rw[Int.max_def];split<;>split<;>omega
 simp[builtin,H,M,Builtin.max_,Builtin.max2,e]
theorem xwn{vs:Array Value}(H:evl tm x=.tuple vs)(hv:vs[i]?=some v):Exd P tm ⟨d,.extract x i,ty,pos,aft,gd⟩ h v:=
 xbj (s:=pure v) (by simp only[execOp,H,Instr.extract,hv]) (xbq ⟨rfl,rfl⟩)
theorem xy1{fn:Fn}{first cap:List Operand}{a b:List Value}(M:first.map (evl tm)=a)(H:cap.map (evl tm)=b):Exd P tm ⟨d,.makeFunc fn first.toArray cap.toArray,ty,pos,aft,gd⟩ h (.func fn a.toArray b.toArray):=
 xbj (s:=pure (.func fn a.toArray b.toArray)) (by simp only[execOp,Instr.makeFunc,<- M,<- H,List.map_toArray]) (xbq ⟨rfl,rfl⟩)
theorem xil{fs:List Field}:∀{pl:List (Nat×Nat)}{acc:Array (Nat×Nat)}{K:Array (Nat×Nat)->Heap->Prop},
 (fs.mapM fun f=>(Bv P f.type).map fun n=>(f.offset,n))=some pl->K (acc++pl.toArray) h->
 wpS P (fs.foldlM (fun(bs:Array (Nat×Nat))f=>bs.push <$> (do pure (f.offset,<- sizeOf f.type):Sem (Nat×Nat))) acc) h K:=by
 induction fs with
 |nil=>intro pl acc K e x;simp at e;subst e;exact xbq (by simpa using x)
 |cons f fs ih=>
   intro pl acc K e x;simp only[List.mapM_cons,Option.bind_eq_bind]at e;cases hs:Bv P f.type with
   |none=>rw[hs]at e;cases e
   |some n=>
     rw[hs]at e;simp only[Option.map_some,Option.bind_some]at e;cases H:(fs.mapM fun f=>(Bv P f.type).map fun n=>(f.offset,n))with
     |none=>rw[H]at e;cases e
     |some pl'=>
       rw[H]at e;simp at e;subst e;rw[List.foldlM_cons];refine xaq ?_;show wpS P (Sem.bind _ _) h _;refine xxd ?_;refine xaq (xvq hs ?_);refine xbq ?_;refine xbq ?_;exact ih H (by simpa using x)
theorem xb2{cells:Array Value}{vs:List (Nat×Value)}(V:Ep P t=some z)(H:Kz P t=some pl)
 (M:(parts.map fun(i,x)=>(i,evl tm x))=vs)(hf:Instr.fill (fun i=>pl[i]?) z.cells vs=some cells):Exd P tm ⟨d,.build t parts.toArray,ty,pos,aft,gd⟩ h (.agg cells):=by
 unfold Kz at H;split at H
 ·rename_i fs O;refine xbj (s:=Instr.build t (parts.toArray.map fun(i,x)=>(i,evl tm x))) rfl ?_;unfold Instr.build;refine xaq (xzx V ?_);refine xaq (xcq O ?_);refine xaq ?_;rw[Array.mapM_eq_foldlM,<- Array.foldlM_toList];refine xil H ?_;simp only[Array.empty_append,List.map_toArray,M,List.getElem?_toArray,hf];exact xbq ⟨rfl,rfl⟩
 ·cases H
theorem yrv{O:TypeId}{cs:Array Value}(hu:P.underlying t=some (.struct fs))(hi:fs[i]?=some fd)(M:fd.type=O)(H:fd.offset=off)
 (ha:Gs P O=some false)(V:evl tm x=.agg cs)(hv:cs[off]?=some v):Exd P tm ⟨d,.field t x i,ty,pos,aft,gd⟩ h v:=by
 refine xbj (s:=Instr.field t (.agg cs) i) (by simp only[execOp,V]) ?_;unfold Instr.field;refine xaq (xcq hu ?_);simp only[hi,asAgg,part,M,H];refine xaq (xbq ?_);refine xaq (xlb ha ?_);simp only[Bool.false_eq_true,if_false,hv];exact xbq ⟨rfl,rfl⟩
def Ml(P:Program)(s:TypeId)(i:Nat):Option (Nat×Nat):=
 match P.underlying s with
 |some (.struct fs)=>(fs[i]?).bind fun f=>(Bv P f.type).map fun n=>(f.offset,n)
 |_=>none
theorem xpg{s:TypeId}{o:Nat}{a a':Addr}(hf:Ml P s i=some (o,n+1))(H:evl tm x=.pointer (some a))(V:a.add o=a'):
 Exd P tm ⟨d,.fieldAddr s x i,ty,pos,aft,gd⟩ h (.pointer (some a')):=by
 unfold Ml at hf;split at hf
 ·rename_i fs O;cases hi:fs[i]? with
  |none=>rw[hi]at hf;cases hf
  |some fd=>
    rw[hi]at hf;cases hs:Bv P fd.type with
    |none=>simp[hs]at hf
    |some m=>
      simp[hs]at hf;obtain⟨M,rfl⟩:=hf;refine xbj (s:=Instr.fieldAt s (.pointer (some a)) i) (by simp only[execOp,H]) ?_;unfold Instr.fieldAt;refine xaq (xcq O ?_);simp only[hi,Instr.sureAddr];refine xaq (xbq ?_);refine xaq ?_;unfold fieldPlace;refine xaq (xvq hs ?_);rw[if_neg om];refine xbq ?_;refine xbq ⟨?_,rfl⟩;rw[M,V]
 ·cases hf
theorem xdb{e:TypeId}{c:Nat}{k:IntKind}{i:Int}{a a':Addr}(H:P.underlying t=some (.slice e))(hs:Bv P e=some w)(M:evl tm x=.slice (some a) n c)(V:evl tm y=.int k i)
 (h0:0<=i)(O:i<n)(ha:a.add (i.toNat*w)=a'):Exd P tm ⟨d,.indexAddr t x y,ty,pos,aft,gd⟩ h (.pointer (some a')):=by
 refine xbj (s:=Instr.indexAt t (.slice (some a) n c) (.int k i)) (by simp only[execOp,M,V]) ?_;unfold Instr.indexAt;refine xaq (xbq ?_);simp only;refine xaq (xcq H ?_);simp only;refine xaq (xbq ?_);simp only;refine xaq (xcq H ?_);rw[if_pos ⟨h0,O⟩];refine xaq (xvq hs ?_);exact xbq ⟨by rw[ha],rfl⟩
theorem xnw{e:TypeId}{c:Nat}{k:IntKind}{a:Addr}(O:P.underlying t=some (.slice e))(hs:Bv P e=some w)(H:evl tm x=.slice (some a) n c)(M:evl tm y=.int k (i:Nat))
 (V:i<n):Exd P tm ⟨d,.indexAddr t x y,ty,pos,aft,gd⟩ h (.pointer (some (a.add (i*w)))):=
 xdb O hs H M om om (by rw[Int.toNat_natCast])
theorem xog{a:Addr}(H:Gs P t=some false)(M:evl tm x=.pointer (some a))(hc:cell? h a=some v):Exd P tm ⟨d,.load t x,ty,pos,aft,gd⟩ h v:=by
 refine xbj (s:=Instr.loadAt t (.pointer (some a))) (by simp only[execOp,M]) ?_;unfold Instr.loadAt;refine xaq (xbq ?_);exact xsh H hc ⟨rfl,rfl⟩
theorem xng{a:Addr}(M:Gs P t=some true)(hs:Bv P t=some n)(hn:vs.length=n)(H:evl tm x=.pointer (some a))
 (hc:∀j v,vs[j]?=some v->cell? h (a.add j)=some v):Exd P tm ⟨d,.load t x,ty,pos,aft,gd⟩ h (.agg vs.toArray):=by
 refine xbj (s:=Instr.loadAt t (.pointer (some a))) (by simp only[execOp,H]) ?_;unfold Instr.loadAt;refine xaq (xbq ?_);exact xrh M hs hn hc ⟨rfl,rfl⟩
section
variable{L:List (Nat×Obj)}
theorem xel{cs:Array Value}{z:Nat×Nat}(s:St z9 zz p h L)(M:Gs P t=some false)(H:evl tm x=w_ b off)
 (O:L[i]?=some (b,.cells cs T z))(hv:cs[off]?=some v):Exd P tm ⟨d,.load t x,ty,pos,aft,gd⟩ h v:=
 xog M H (s.Fs O hv)
theorem xmg{cs:Array Value}{z:Nat×Nat}(s:St z9 zz p h L)(V:Gs P t=some true)(hs:Bv P t=some n)(M:evl tm x=w_ b off)
 (O:L[i]?=some (b,.cells cs T z))(hv:(cs.toList.drop off).take n=vs)(hn:vs.length=n):Exd P tm ⟨d,.load t x,ty,pos,aft,gd⟩ h (.agg vs.toArray):=
 xng V hs hn M fun j v H=>by
  rw[xox];refine s.Fs O ?_;subst hv;rw[List.getElem?_take]at H;split at H
  ·rw[List.getElem?_drop]at H;simpa using H
  ·cases H
theorem xdl{a:Addr}(s:St z9 zz p h L)(M:Gs P t=some false)(H:evl tm x=.pointer (some a))(hv:Aw p a=some v):Exd P tm ⟨d,.load t x,ty,pos,aft,gd⟩ h v:=
 xog M H (s.cell hv)
theorem xlg{a:Addr}(s:St z9 zz p h L)(O:Gs P t=some true)(hs:Bv P t=some n)(H:evl tm x=.pointer (some a))
 (hn:vs.length=n)(hv:∀j v,vs[j]?=some v->Aw p (a.add j)=some v):Exd P tm ⟨d,.load t x,ty,pos,aft,gd⟩ h (.agg vs.toArray):=
 xng O hs hn H fun j v M=>s.cell (hv j v M)
variable{r:Rd}{k:List Item}{Stop:Goroutine->Heap->Prop}
theorem xtz{cells:Array Value}{K:Addr->Heap->Prop}(x:K ⟨h.size,0,none⟩ (h.push (.cells cells T))):wpS P (newRow T cells) h K:=by
 unfold newRow;refine xaq ?_;exact xbq (P:=P) x
theorem yjt(M:Met ops tm ⟨some dd,.box T x,ty,pos,aft,gd⟩ true)(H:evl tm x=v)
 (n:∀b,RL P md f r df k cs Stop ops rest (tm.set dd (w_ b 0)) (fun h=>St z9 zz p h ((b,.cells v.cells T (0,0))::L))):
 RL P md f r df k cs Stop ops (⟨some dd,.box T x,ty,pos,aft,gd⟩::rest) tm (fun h=>St z9 zz p h L):=by
 refine xrj (K:=fun v' h'=>∃b,v'=w_ b 0/\St z9 zz p h' ((b,.cells v.cells T (0,0))::L)) M rfl (fun h s=>?_) fun v'=>xgk fun b=>xyx fun e=>by subst e;exact n b
 unfold Ex;simp only[execOp,H];refine xaq ?_;unfold Instr.box newVar;refine xaq (xtz ?_);refine xbq ?_;exact xbq ⟨_,rfl,_,rfl,s.push _⟩
theorem ysc{cells:Array Value}(H:Met ops tm ⟨some dd,.alloc T,ty,pos,aft,gd⟩ true)(M:Ep P T=some z)(hc:z.cells=cells)
 (n:∀b,RL P md f r df k cs Stop ops rest (tm.set dd (w_ b 0)) (fun h=>St z9 zz p h ((b,.cells cells T (0,0))::L))):
 RL P md f r df k cs Stop ops (⟨some dd,.alloc T,ty,pos,aft,gd⟩::rest) tm (fun h=>St z9 zz p h L):=by
 refine xrj (K:=fun v' h'=>∃b,v'=w_ b 0/\St z9 zz p h' ((b,.cells cells T (0,0))::L)) H rfl (fun h s=>?_) fun v'=>xgk fun b=>xyx fun e=>by subst e;exact n b
 unfold Ex;simp only[execOp];refine xaq ?_;unfold Instr.alloc;refine xaq (xzx M ?_);simp only;unfold newVar;rw[hc];refine xaq (xtz ?_);refine xbq ?_;exact xbq ⟨_,rfl,_,rfl,s.push _⟩
theorem xjl(cs:Array Value)(i:Nat)(v:Value):cs.setIfInBounds i v=(cs.toList.set i v).toArray:=by
 apply Array.ext';simp
def Ce(cs:List Value)(off:Nat):List Value->List Value
 |[]=>cs
 |v::vs=>Ce (cs.set off v) (off+1) vs
theorem xpz{b:Nat}{T:TypeId}{i:Nat}:∀{vs:List Value}{off j:Nat}{h:Heap}{cs:List Value}{L:List (Nat×Obj)}{K:Unit->Heap->Prop},St z9 zz p h L->L[i]?=some (b,.cells cs.toArray T (0,0))->
 off+j+vs.length<=cs.length->(∀v∈vs,Bj v=true)->
 (∀h',St z9 zz p h' (L.set i (b,.cells (Ce cs (off+j) vs).toArray T (0,0)))->K () h')->wpS P (storeCells ⟨b,off,none⟩ vs j) h K
 |[],off,j,h,cs,L,K,s,hL,_,_,n=>by
   refine xbq (n h ?_);have:L.set i (b,.cells (Ce cs (off+j) []).toArray T (0,0))=L:=by
    refine List.ext_getElem? fun m=>?_;rw[List.getElem?_set];split
    ·rename_i e;subst e;rw[if_pos (List.getElem?_eq_some_iff.1 hL).1,hL];rfl
    ·rfl
   rw[this];exact s
 |v::vs,off,j,h,cs,L,K,s,hL,hlen,h1,n=>by
   unfold storeCells;refine xaq ?_;rw[xox];have hi:i<L.length:=(List.getElem?_eq_some_iff.1 hL).1;simp only[List.length_cons]at hlen;refine⟨rfl,h1 v s_,⟨cs[off+j],s.Fs hL s_⟩,?_,?_⟩
   ·unfold frozenAt;rw[s.at hL];simp
   ·show wpS P (storeCells _ vs (j+1)) _ K;have M:=s.store (off:=off+j) (v:=v) hL;rw[xjl]at M;refine xpz (i:=i) (T:=T) M (cs:=cs.set (off+j) v) (by rw[List.getElem?_set_self hi]) (by simp;omega) (fun u O=>h1 u (by simp[O])) fun h' H=>n h' ?_;rw[List.set_set]at H;exact H
theorem xy5{cs' H:List Value}(hm:Met ops tm ⟨none,.store T x y,ty,pos,aft,gd⟩ true)(hs:Bv P T=some nsz)
 (O:evl tm x=w_ b off)(hy:evl tm y=v)(hL:L[i]?=some (b,.cells cs'.toArray T' (0,0)))(hv:v.cells.size=nsz)(V:v.cells.toList.all Bj=true)(hlen:off+v.cells.size<=cs'.length)(h2:Ce cs' off v.cells.toList=H)
 (n:RL P md f r df k cs Stop ops rest tm (fun h=>St z9 zz p h (L.set i (b,.cells H.toArray T' (0,0))))):
 RL P md f r df k cs Stop ops (⟨none,.store T x y,ty,pos,aft,gd⟩::rest) tm (fun h=>St z9 zz p h L):=by
 refine yvm (K:=fun h'=>St z9 zz p h' (L.set i (b,.cells H.toArray T' (0,0)))) hm rfl (fun h s=>?_) rfl n;simp only[execOp,O,hy];refine xaq ?_;unfold Instr.storeAt;refine xaq (xbq ?_);unfold storeVar;refine xaq (xvq hs ?_);rw[if_neg (by simpa using hv)];refine xpz s hL (by simpa using hlen) (fun u hu=>List.all_eq_true.1 V u hu) fun h' M=>?_;refine xbq ⟨rfl,?_⟩;rw[Nat.add_zero,h2]at M;exact M
end
end
def adr(a:Option Addr):Addr:=a.getD ⟨0,0,none⟩
theorem ycc{a:Option Addr}(n c:Nat)(h:a=some (adr a)):Value.slice a n c=.slice (some (adr a)) n c:=by rw[<- h]
def Per(p:Ab)(h:Heap):Prop:=∀b o,p b=some o->h[b]?=some o
structure Sl(p:Ab)(a:Option Addr)(n:Nat)(w:Nat)(es:List (List Value)):Prop where
 len:es.length=n
 wid:∀e∈es,e.length=w
 ne:0<n->a=some (adr a)
 get:∀i e,es[i]?=some e-> ∀j x,e[j]?=some x->Aw p ((((adr a).add (i*w))).add j)=some x
theorem Sl.mono{p p':Ab}{a:Option Addr}{n w:Nat}{es:List (List Value)}(M:PLe p p')(s:Sl p a n w es):Sl p' a n w es:=
 ⟨s.len,s.wid,s.ne,fun i e hi j x H=>M.cell (s.get i e hi j x H)⟩
theorem Sl.nil(p:Ab)(w:Nat)(a:Option Addr):Sl p a 0 w []:=⟨rfl,s_,fun h=>absurd h om,s_⟩
theorem xq4(a:Addr)(m n:Nat):(a.add m).add n=a.add (m+n):=by
 unfold Addr.add;by_cases H:m=0
 ·subst H;simp
 ·by_cases hn:n=0
  ·subst hn;simp
  ·rw[if_neg H,if_neg hn,if_neg om];simp[Nat.add_assoc]
theorem Sl.cut{p:Ab}{a:Option Addr}{n w:Nat}{es:List (List Value)}(s:Sl p a n w es){lo hi:Nat}(h1:lo<=hi)(h2:hi<=n){a':Option Addr}(M:lo<hi->a'=some ((adr a).add (lo*w))):
 Sl p a' (hi-lo) w ((es.drop lo).take (hi-lo)):=by
 refine⟨by rw[List.length_take,List.length_drop,s.len];omega,fun e he=>s.wid e (List.mem_of_mem_drop (List.mem_of_mem_take he)),fun h=>by rw[M om];rfl,?_⟩;intro i e H j x O;rw[List.getElem?_take]at H;split at H
 ·rename_i V;rw[List.getElem?_drop]at H;have:=s.get _ e H j x O;rw[M om];show Aw p ((((adr a).add (lo*w)).add (i*w)).add j)=_;rw[xq4 (adr a),<- Nat.add_mul];exact this
 ·cases H
def Ax(p:Ab)(a:Option Addr)(n:Nat)(xs:List Int):Prop:=Sl p a n 1 (xs.map fun x=>[.J x])
theorem Ax.len{p:Ab}{a:Option Addr}{n:Nat}{xs:List Int}(s:Ax p a n xs):xs.length=n:=by have:=Sl.len s;simpa using this
theorem Ax.mono{p p':Ab}{a:Option Addr}{n:Nat}{xs:List Int}(H:PLe p p')(s:Ax p a n xs):Ax p' a n xs:=Sl.mono H s
theorem Ax.ne{p:Ab}{a:Option Addr}{n:Nat}{xs:List Int}(s:Ax p a n xs)(H:0<n):a=some (adr a):=Sl.ne s H
theorem Ax.get{p:Ab}{a:Option Addr}{n k:Nat}{xs:List Int}(s:Ax p a n xs)(M:k<n):Aw p ((adr a).add (k*1))=some (.J (xs.getD k 0)):=by
 have H:=s.len;have:=Sl.get s k [.J (xs.getD k 0)] (by rw[List.getElem?_map,List.getD_eq_getElem?_getD,List.getElem?_eq_getElem om];rfl) 0 _ rfl;exact this
def Aa(T:TypeId)(w:Nat)(v:Value)(es:List (List Value))(X:List (Nat×Obj)):Prop:=
 (∀e∈es,e.length=w)/\
 ((v=.slice none 0 0/\es=[]/\X=[])\/
  ∃b cs cap rest,v=.slice (some ⟨b,0,none⟩) es.length cap/\X=[(b,.cells (List.toArray cs) T (0,0))]/\cs=es.flatten++rest/\cs.length=cap*w/\(w=1->cap<=9223372036854775807))
theorem Aa.empty(T:TypeId)(w:Nat):Aa T w (.slice none 0 0) [] []:=⟨s_,.inl ⟨rfl,rfl,rfl⟩⟩
theorem xjq(h:∀e∈es,e.length=w):es.flatten.length=es.length*w:=by
 induction es with
 |nil=>simp
 |cons e es ih=>simp only[List.flatten_cons,List.length_append,List.length_cons,ih fun x H=>h x (by simp[H]),h e s_,Nat.add_mul,Nat.one_mul];omega
theorem xlj{w:Nat}:∀{es:List (List Value)},(∀e∈es,e.length=w)-> ∀{i:Nat}{e:List Value},es[i]?=some e-> ∀{j:Nat}{x:Value},e[j]?=some x->es.flatten[i*w+j]?=some x
 |[],_,i,e,hi,_,_,_=>by simp at hi
 |e₀::es,h,i,e,hi,j,x,hj=>by
   have H:=h e₀ s_;cases i with
   |zero=>
     simp at hi;subst hi;rw[List.flatten_cons,Nat.zero_mul,Nat.zero_add,List.getElem?_append_left (List.getElem?_eq_some_iff.1 hj).1];exact hj
   |succ i=>
     simp at hi;have:=xlj (fun x M=>h x (by simp[M])) hi hj;rw[List.flatten_cons,List.getElem?_append_right (by rw[H,Nat.succ_mul];omega),H,Nat.succ_mul];rw[show i*w+w+j-w=i*w+j from by omega];exact this
theorem Aa.last{z9 h:Heap}{zz:List Nat}{p:Ab}{L X:List (Nat×Obj)}{T:TypeId}{w:Nat}{v:Value}{es:List (List Value)}(o:Aa T w v es X)(s:St z9 zz p h (X++L)):
 ∃p' a cap,PLe p p'/\St z9 zz p' h L/\v=.slice a es.length cap/\Sl p' a es.length w es/\(∀b,p b=none->b<z9.size->b∉zz->p' b=none):=by
 obtain⟨hw,⟨rfl,rfl,rfl⟩|⟨b,cs,cap,rest,rfl,rfl,M,hlen,_⟩⟩:=o
 ·exact⟨p,none,0,.refl _,s,rfl,.nil _ _ _,fun b H _ _=>H⟩
 ·have H:=s.own (b,.cells cs.toArray T (0,0)) s_;obtain⟨O,s'⟩:=s.last;refine⟨_,some ⟨b,0,none⟩,cap,O,s',rfl,⟨rfl,hw,fun _=>rfl,?_⟩,?_⟩
  ·intro i e hi j x hj;show Aw _ (((⟨b,0,none⟩:Addr).add (i*w)).add j)=_;rw[xox,xox];unfold Aw;simp only[xyk,Option.isSome_none,Bool.false_eq_true,if_false,List.getElem?_toArray,Nat.zero_add];rw[M,List.getElem?_append_left]
   ·exact xlj hw hi hj
   ·exact(List.getElem?_eq_some_iff.1 (xlj hw hi hj)).1
  ·intro c hc V hn;unfold Hf;rw[if_neg]
   ·exact hc
   ·intro e;subst e;rcases H.2.2 with x|x
    ·exact absurd V om
    ·exact hn x
section
variable{A X C:List (Nat×Obj)}
theorem xv3{H cap:Nat}(hc:cap<H)(hn:H*by'<=2^45)(hb:by'<=2^20):Builtin.nextslicecap H cap*by'<=2^48:=by
 have g:∀r c,c<=H->Builtin.growBy H r c<=2*H+192*1+192:=by
  intro r
  induction r with
  |zero=>intro c hc;simp only[Builtin.growBy];omega
  |succ r ih=>
    intro c hc;simp only[Builtin.growBy];split
    ·omega
    ·rename_i O;by_cases V:c+(c+768) / 4<=H
     ·exact ih _ V
     ·cases r with
      |zero=>simp only[Builtin.growBy];omega
      |succ r=>simp only[Builtin.growBy];rw[if_pos om];omega
 have M:Builtin.nextslicecap H cap<=2*H+384:=by
  unfold Builtin.nextslicecap;split
  ·omega
  ·split
   ·omega
   ·have:=g 4 cap om;omega
 calc Builtin.nextslicecap H cap*by'<=(2*H+384)*by':=Nat.mul_le_mul_right _ M
  _=2*(H*by')+384*by':=by rw[Nat.add_mul,Nat.mul_assoc]
  _<=2^48:=om
theorem xwj(z:Array Value)(n:Nat):(Builtin.zeroCells z n).toList.length=n*z.size:=by simp[Builtin.zeroCells]
theorem xsv:∀{vs:List Value}{a r:List Value},vs.length<=r.length->Ce (a++r) a.length vs=a++(vs++r.drop vs.length)
 |[],a,r,_=>by simp[Ce]
 |v::vs,a,r,hl=>by
   match r,hl with
   |x::r,hl=>
     simp only[Ce];rw[List.set_append_right _ _ (Nat.le_refl _),Nat.sub_self,List.set_cons_zero];have:=xsv (vs:=vs) (a:=a++[v]) (r:=r) (by simpa using hl);simp only[List.length_append,List.length_singleton,List.append_assoc,List.singleton_append]at this;rw[this];simp
theorem xim{m:Nat}{x:Value}(hT:P.underlying sT=some (.slice eT))(hs:Bv P eT=some w)(hz:Ep P eT=some z)(b9:z.cells.size=w)
 (a2:D5 P eT=some by')(hx:P.underlying xT=some D)(hD:∀k,D≠.int k)(o:Aa eT w v es X)(s:St z9 zz p h (A++(X++C)))
 (hlen:∀K:Nat->Heap->Prop,K m h->wpS P (Builtin.lenOf x) h K)(a4:∀K:Array Value->Heap->Prop,K news.flatten.toArray h->wpS P (Builtin.firstCells w m x) h K)
 (hm:news.length=m)(hw:∀e∈news,e.length=w)(h1:∀u∈news.flatten,Bj u=true)(a5:(es.length+m)*by'<=2^45)(b0:0<by'/\by'<=2^20)
 (n:∀v' X' h',Aa eT w v' (es++news) X'->St z9 zz p h' (A++(X'++C))->K v' h'):wpS P (Builtin.append_ #[sT,xT] ty #[v,x]) h K:=by
 have a9:∃i,P.info? eT=some i/\i.bytes=by':=by
  unfold D5 at a2;cases hi:P.info? eT with
  |none=>rw[hi]at a2;cases a2
  |some i=>rw[hi]at a2;exact⟨i,rfl,by simpa using a2⟩
 obtain⟨i,hi,c3⟩:=a9;have O:=xjq hw;have b7:=o.1;have a3:es.flatten.length=es.length*w:=xjq b7;have V:∀e∈es++news,e.length=w:=fun e he=>(List.mem_append.1 he).elim (o.1 e) (hw e);have c2:es.length+m<=2^45:=Nat.le_trans (Nat.le_mul_of_pos_right _ b0.1) a5
 have H:∃H cap,v=.slice H es.length cap/\(∀K:Array Value->Heap->Prop,K es.flatten.toArray h->wpS P (Builtin.firstCells w es.length v) h K)/\
  ((H=none/\es=[]/\X=[]/\cap=0)\/ ∃b cs rest,H=some ⟨b,0,none⟩/\X=[(b,.cells (List.toArray cs) eT (0,0))]/\cs=es.flatten++rest/\cs.length=cap*w/\(w=1->cap<=9223372036854775807)):=by
  obtain⟨_,⟨rfl,rfl,rfl⟩|⟨b,cs,cap,rest,rfl,rfl,M,a8,a6⟩⟩:=o
  ·exact⟨none,0,rfl,fun K hK=>xbq hK,.inl ⟨rfl,rfl,rfl,rfl⟩⟩
  ·refine⟨_,cap,rfl,fun K hK=>?_,.inr ⟨b,cs,rest,rfl,rfl,M,a8,a6⟩⟩;have hL:(A++([(b,Obj.cells (List.toArray cs) eT (0,0))]++C))[A.length]?=some (b,.cells (List.toArray cs) eT (0,0)):=by
    rw[List.getElem?_append_right (Nat.le_refl _)];simp
   show wpS P (loadCells ⟨b,0,none⟩ (es.length*w)) h K;refine xmz a3 (fun j u hj=>?_) hK;rw[xox];refine s.Fs hL ?_;rw[List.getElem?_toArray,M,Nat.zero_add,List.getElem?_append_left (List.getElem?_eq_some_iff.1 hj).1];exact hj
 obtain⟨H,cap,rfl,b3,a7⟩:=H;unfold Builtin.append_;simp only[List.getElem?_toArray,List.getElem?_cons_zero,List.getElem?_cons_succ];refine xaq (xcq hT ?_);simp only;refine xaq (xvq hs ?_);refine xaq (xcq hx ?_);refine xaq (xex (K:=fun zr h'=>zr=false/\h'=h) (xbq ⟨by cases D<;>first|rfl|exact absurd rfl (hD _),rfl⟩) fun zr h'⟨ez,eh⟩=>?_);subst ez;have eh:=eh.symm;subst eh;simp only[Bool.false_eq_true,if_false,Bool.not_false,if_true];refine xaq (hlen _ ?_);by_cases hc:es.length+m<=cap
 ·rw[if_pos hc];refine xaq (a4 _ ?_);rcases a7 with⟨rfl,rfl,rfl,rfl⟩|⟨b,cs,rest,rfl,rfl,M,a8,a6⟩
  ·have b6:m=0:=by simp at hc;exact hc
   have:news=[]:=List.eq_nil_of_length_eq_zero om;subst this;subst b6;exact xbq (n _ [] h (Aa.empty _ _) s)
  ·have hL:(A++([(b,Obj.cells (List.toArray cs) eT (0,0))]++C))[A.length]?=some (b,.cells (List.toArray cs) eT (0,0)):=by
    rw[List.getElem?_append_right (Nat.le_refl _)];simp
   refine xaq ?_;rw[xox];have b5:(es.length+m)*w<=cap*w:=Nat.mul_le_mul_right _ hc;rw[Nat.add_mul]at b5;have c1:rest.length=cap*w-es.length*w:=by
    have:cs.length=es.flatten.length+rest.length:=by rw[M];simp
    omega
   refine xpz (i:=A.length) s hL (by simp only[Nat.zero_add,Nat.add_zero,O,hm,a8];omega) h1 fun h' s'=>?_;refine xbq (n _ [(b,.cells (List.toArray (Ce cs (0+es.length*w+0) news.flatten)) eT (0,0))] h' ⟨V,.inr ⟨b,_,cap,rest.drop news.flatten.length,?_,rfl,?_,?_,a6⟩⟩ ?_)
   ·simp[hm]
   ·rw[Nat.zero_add,Nat.add_zero,M,<- a3,xsv (by rw[O,hm];omega)];simp
   ·rw[Nat.zero_add,Nat.add_zero,M,<- a3,xsv (by rw[O,hm];omega)];simp only[List.length_append,List.length_drop,a3,O,hm,c1];omega
   ·have e2:(A++([(b,Obj.cells (List.toArray cs) eT (0,0))]++C)).set A.length (b,.cells (List.toArray (Ce cs (0+es.length*w+0) news.flatten)) eT (0,0))=A++([(b,.cells (List.toArray (Ce cs (0+es.length*w+0) news.flatten)) eT (0,0))]++C):=by
     rw[List.set_append_right _ _ (Nat.le_refl _)];simp
    rw[e2]at s';exact s'
 ·rw[if_neg hc];refine xaq (xkx hi ?_);rw[if_neg (by
   intro hh;have:(IntKind.i64.max:Int)=9223372036854775807:=by decide
   rw[this]at hh;omega)]
  refine xaq (xkx hi ?_);rw[c3,if_neg (by have:=xv3 (by':=by') (by omega:cap<es.length+m) a5 b0.2;omega)];refine xaq ?_;show wpS P (choose _) h _;simp only[choose,wpS,Question.forced,Bool.false_eq_true,if_false,Question.cut];intro t;generalize c5:es.length+m+t%(2^63-(es.length+m))=nc;have c4:es.length+m<=nc:=om;have b4:nc<=9223372036854775807:=by
   have:t%(2^63-(es.length+m))<2^63-(es.length+m):=Nat.mod_lt _ om;omega
  refine xaq (xkx hi ?_);refine xaq ?_;have b8:∀(b:Nat)(K:Unit->Heap->Prop),K () h->wpS P (askRoom b) h K:=by
   intro b K hK;unfold askRoom;split
   ·exact⟨rfl,hK⟩
   ·exact xbq hK
  refine b8 _ _ ?_;refine xaq (b3 _ ?_);refine xaq (a4 _ ?_);refine xaq (xzx hz ?_);refine xaq (xtz ?_);refine xbq (n _ [(h.size,.cells (List.toArray (es.flatten++news.flatten++(Builtin.zeroCells z.cells (nc-(es.length+m))).toList)) eT (0,0))] _ ⟨V,.inr ⟨h.size,_,nc,(Builtin.zeroCells z.cells (nc-(es.length+m))).toList,?_,rfl,s_,?_,fun _=>b4⟩⟩ ?_)
  ·simp[hm]
  ·simp only[List.length_append,xjq o.1,O,hm,xwj,b9];rw[<- Nat.add_mul,<- Nat.add_mul];congr 1;omega
  ·have s1:=s.push (.cells (List.toArray (es.flatten++news.flatten++(Builtin.zeroCells z.cells (nc-(es.length+m))).toList)) eT (0,0));have s2:=s1.sub (L':=(h.size,.cells (List.toArray (es.flatten++news.flatten++(Builtin.zeroCells z.cells (nc-(es.length+m))).toList)) eT (0,0))::(A++C)) (by
    refine List.Sublist.cons_cons _ ?_;exact(List.Sublist.refl A).append (List.sublist_append_right X C))
   have s3:=s2.perm (L':=A++([(h.size,.cells (List.toArray (es.flatten++news.flatten++(Builtin.zeroCells z.cells (nc-(es.length+m))).toList)) eT (0,0))]++C)) (by
    simpa using(List.perm_middle (l₁:=A) (l₂:=C)).symm)
   have e1:(List.toArray es.flatten++List.toArray news.flatten++Builtin.zeroCells z.cells (nc-(es.length+m)))=List.toArray (es.flatten++news.flatten++(Builtin.zeroCells z.cells (nc-(es.length+m))).toList):=by
    apply Array.ext';simp
   rw[e1];exact s3
structure Src(P:Program)(h:Heap)(w m:Nat)(x:Value)(news:List (List Value)):Prop where
 lenOf:∀K:Nat->Heap->Prop,K m h->wpS P (Builtin.lenOf x) h K
 cells:∀K:Array Value->Heap->Prop,K news.flatten.toArray h->wpS P (Builtin.firstCells w m x) h K
 len:news.length=m
 wid:∀e∈news,e.length=w
theorem xu8{m:Nat}{x:Value}(hT:P.underlying sT=some (.slice eT))(hs:Bv P eT=some w)(hz:Ep P eT=some z)(a2:z.cells.size=w)
 (V:D5 P eT=some by')(hx:P.underlying xT=some (.slice eX))(o:Aa eT w v es X)(s:St z9 zz p h (A++(X++C)))
 (hlen:∀K:Nat->Heap->Prop,K m h->wpS P (Builtin.lenOf x) h K)(M:∀K:Array Value->Heap->Prop,K news.flatten.toArray h->wpS P (Builtin.firstCells w m x) h K)
 (hm:news.length=m)(hw:∀e∈news,e.length=w)(h1:∀u∈news.flatten,Bj u=true)(H:(es.length+m)*by'<=2^45)(O:0<by'/\by'<=2^20)
 (n:∀v' X' h',Aa eT w v' (es++news) X'->St z9 zz p h' (A++(X'++C))->K v' h'):wpS P (Builtin.append_ #[sT,xT] ty #[v,x]) h K:=
 xim hT hs hz a2 V hx (fun _ e=>by cases e) o s hlen M hm hw h1 H O n
theorem xqr{w:Nat}(M:0<w):∀{es:List (List Value)},(∀e∈es,e.length=w)-> ∀{j:Nat}{x:Value},es.flatten[j]?=some x-> ∃e,es[j / w]?=some e/\e[j%w]?=some x
 |[],_,j,x,hj=>by simp at hj
 |e::es,h,j,x,hj=>by
   have h0:=h e s_;rw[List.flatten_cons]at hj;by_cases H:j<w
   ·rw[List.getElem?_append_left om]at hj;exact⟨e,by rw[Nat.div_eq_of_lt H];rfl,by rw[Nat.mod_eq_of_lt H];exact hj⟩
   ·rw[List.getElem?_append_right om,h0]at hj;obtain⟨e',V,h2⟩:=xqr M (fun x O=>h x (by simp[O])) hj;refine⟨e',?_,?_⟩
    ·rw[show j / w=(j-w) / w+1 from by
      rw[<- Nat.add_div_right _ M];congr 1;omega]
     simpa using V
    ·rw[show j%w=(j-w)%w from by
      rw[<- Nat.add_mod_right (j-w)];congr 1;omega]
     exact h2
theorem xug{a:Option Addr}{m cap:Nat}(s:St z9 zz p h C)(M:0<w)(d:Sl p a m w news):Src P h w m (.slice a m cap) news:=by
 refine⟨fun K H=>xbq H,fun K H=>?_,d.len,d.wid⟩;by_cases h0:m=0
 ·subst h0;have:news=[]:=List.eq_nil_of_length_eq_zero d.len;subst this;cases a with
  |none=>exact xbq H
  |some a=>
    show wpS P (loadCells a (0*w)) h K;exact xmz (vs:=[]) s_ s_ H
 ·rw[d.ne om];show wpS P (loadCells (adr a) (m*w)) h K;refine xmz (by rw[xjq d.wid,d.len]) (fun j u V=>?_) H;obtain⟨e,O,h2⟩:=xqr M d.wid V;have:=s.cell (d.get _ e O _ u h2);rw[xq4]at this;rwa[show j / w*w+j%w=j from by rw[Nat.mul_comm];exact Nat.div_add_mod j w]at this
theorem ycm:Src P h w 0 (.slice none 0 0) []:=⟨fun K H=>xbq H,fun K H=>xbq H,rfl,s_⟩
section
variable{r:Rd}{k:List Item}{Stop:Goroutine->Heap->Prop}{pos:String}
def bcs(l:List UInt8):List (List Value):=l.map fun x=>[.int .u8 ((x.toNat:Nat):Int)]
theorem xfk(l:List UInt8):(bcs l).length=l.length:=by simp[bcs]
end
end
def Bm(o:Oper):List Nat:=(o.after.toList.filter (Region.binds .any)).map (·.on)
def looks(ops:List Oper)(o:Oper):List Tmp:=
 o.op.operands.toList.filterMap (fun|.tmp t=>some t|_=>none)++(match o.guard with|some (j,_)=>((ops[j]?).bind (·.dst)).toList|none=>[])
def Gv:Op->Bool
 |.select .. => false
 |_=>true
def behind(cl:List (List Nat))(o:Oper)(j:Nat):Bool:=(Bm o).contains j||(Bm o).any fun k=>(cl.getD k []).contains j
def Bo(ops:List Oper)(m:Nat)(cl:List (List Nat)):Bool:=
 (ops.zipIdx.all fun(o,i)=>
  (Bm o).all (· < i)&&(cl.getD i []).all (fun j=>decide (j<i)&&behind cl o j) &&
  (if m<=i then(List.range i).all fun j=>behind cl o j else
   Gv o.op&&ops.zipIdx.all fun(o',j)=>!decide (j<m)||(match o'.dst with
    |some d=>(decide (i=j)||decide (o.dst≠some d))&&(!(looks ops o).contains d||(Bm o).contains j)
    |none=>true)))
theorem xo1:j∈Bm o<-> ∃e∈o.after,Region.binds .any e=true/\e.on=j:=by
 unfold Bm;simp only[List.mem_map,List.mem_filter,Array.mem_toList_iff];constructor
 ·rintro⟨e,⟨h1,h2⟩,h3⟩;exact⟨e,h1,h2,h3⟩
 ·rintro⟨e,h1,h2,h3⟩;exact⟨e,⟨h1,h2⟩,h3⟩
section
variable{m:Nat}
theorem xwq(hs:Bo ops m cl=true)(ho:ops[i]?=some o):
 (∀j∈Bm o,j<i)/\(m<=i-> ∀j<i,behind cl o j=true)/\
 (i<m->Gv o.op=true/\ ∀(j:Nat)(o':Oper)(d:Nat),j<m->ops[j]?=some o'->o'.dst=some d->(i=j\/o.dst≠some d)/\(d∈looks ops o->j∈Bm o)):=by
 unfold Bo at hs;rw[List.all_eq_true]at hs;have M:(o,i)∈ops.zipIdx:=by rw[List.mem_zipIdx_iff_getElem?];exact ho
 have h:=hs (o,i) M;simp only[Bool.and_eq_true,List.all_eq_true,decide_eq_true_eq]at h;refine⟨h.1.1,fun hm=>?_,fun hm=>?_⟩
 ·rw[if_pos hm]at h;intro j hj;exact List.all_eq_true.1 h.2 j (List.mem_range.2 hj)
 ·rw[if_neg om]at h;have h2:=h.2;rw[Bool.and_eq_true]at h2;refine⟨h2.1,fun j o' d hj V hd=>?_⟩;have H:(o',j)∈ops.zipIdx:=by rw[List.mem_zipIdx_iff_getElem?];exact V
  have O:=List.all_eq_true.1 h2.2 (o',j) H;simp only[hd,hj,decide_true,Bool.not_true,Bool.false_or,Bool.and_eq_true,Bool.or_eq_true,decide_eq_true_eq,Bool.not_eq_true',List.contains_eq_mem,decide_eq_false_iff_not]at O;refine⟨O.1,fun hl=>?_⟩;rcases O.2 with x|x
  ·exact absurd hl (by simpa using x)
  ·simpa using x
theorem xl0(hs:Bo ops m cl=true)(O:ops[i]?=some o)(M:j∈cl.getD i []):j<i/\behind cl o j=true:=by
 unfold Bo at hs;rw[List.all_eq_true]at hs;have H:(o,i)∈ops.zipIdx:=by rw[List.mem_zipIdx_iff_getElem?];exact O
 have h:=hs (o,i) H;simp only[Bool.and_eq_true,List.all_eq_true,decide_eq_true_eq]at h;exact h.1.2 j M
theorem xnh:behind cl o j=true<->j∈Bm o\/ ∃k∈Bm o,j∈cl.getD k []:=by
 unfold behind;simp only[Bool.or_eq_true,List.any_eq_true,List.contains_iff_mem]
theorem xjv(hs:Bo ops m cl=true){l:Array Bool}(a2:l.size=ops.length)(hl:∀(j:Nat)(o:Oper),l.getD j false=true->ops[j]?=some o-> ∀x∈Bm o,l.getD x false=true):
 ∀(n:Nat)(o:Oper)(j:Nat),(∀x∈Bm o,x<n/\l.getD x false=true)->behind cl o j=true->l.getD j false=true:=by
 intro n
 induction n with
 |zero=>
   intro o j M V;rcases xnh.1 V with h|⟨k,h,_⟩
   ·exact(M j h).2
   ·exact absurd (M k h).1 om
 |succ n ih=>
   intro o j M V;rcases xnh.1 V with h|⟨k,h,h2⟩
   ·exact(M j h).2
   ·obtain⟨hk,H⟩:=M k h;have O:k<ops.length:=by
     rcases Nat.lt_or_ge k l.size with h|h
     ·omega
     ·simp[Array.getD,Nat.not_lt.2 h]at H
    have ho:=List.getElem?_eq_getElem O;exact ih ops[k] j (fun x hx=>⟨Nat.lt_of_lt_of_le ((xwq hs ho).1 x hx) om,hl k _ H ho x hx⟩) (xl0 hs ho h2).2
inductive Ord (ops:List Oper) (m:Nat):Array Bool->List Nat->Prop
 |nil {l:Array Bool} (h:∀j<m,l.getD j false=true):Ord ops m l []
 |cons {l:Array Bool} {i:Nat} {s:List Nat} {o:Oper} (hi:i<m) (ho:ops[i]?=some o) (hn:l.getD i true=false) (hp:∀j∈Bm o,l.getD j false=true) (hs:Ord ops m (l.setIfInBounds i true) s):Ord ops m l (i::s)
theorem xcc{l:Array Bool}(hi:i<l.size):l.getD i true=l.getD i false:=by simp[Array.getD,hi]
theorem xif{l:Array Bool}:i∈Region.ready .any ops.toArray l<->l.getD i true=false/\ ∃o,ops[i]?=some o/\ ∀j∈Bm o,l.getD j false=true:=by
 rw[mem_ready];constructor
 ·rintro⟨h1,o,h2,h3⟩;refine⟨h1,o,by simpa using h2,fun j M=>?_⟩;obtain⟨e,he,H,rfl⟩:=xo1.1 M;exact h3 e he H
 ·rintro⟨h1,o,h2,h3⟩;exact⟨h1,o,by simpa using h2,fun e he H=>h3 _ (xo1.2 ⟨e,he,H,rfl⟩)⟩
theorem ywk(fuel t:Nat)(l:Array Bool):Region.linearise.go .any ops.toArray (fuel+1) t l []=(match(Region.ready .any ops.toArray l)[t%(Region.ready .any ops.toArray l).length]? with
  |some i=>i::Region.linearise.go .any ops.toArray fuel (t / (Region.ready .any ops.toArray l).length) (l.setIfInBounds i true) []
  |none=>[]):=by
 simp only[Region.linearise.go];change (match(Region.ready .any ops.toArray l)[t%(Region.ready .any ops.toArray l).length]? with
  |some i=>Region.linearise.go .any ops.toArray fuel (t / (Region.ready .any ops.toArray l).length) (l.setIfInBounds i true) [i]
  |none=>[].reverse)=_
 split
 ·rw[linearise_go_acc];simp
 ·rfl
def Hn(l:Array Bool)(n:Nat):Nat:=(List.range n).countP fun i=>!l.getD i false
theorem ygd{l:Array Bool}(hi:i<n)(V:l.size=n)(h:l.getD i true=false):Hn (l.setIfInBounds i true) n+1<=Hn l n:=by
 unfold Hn;have key:∀k,k<=n->(List.range k).countP (fun j=>!(l.setIfInBounds i true).getD j false)+(if i<k then 1 else 0)<=(List.range k).countP (fun j=>!l.getD j false):=by
  intro k
  induction k with
  |zero=>intro _;simp
  |succ k H=>
    intro hk;have H:=H om;rw[List.range_succ,List.countP_append,List.countP_append];simp only[List.countP_singleton];by_cases e:i=k
    ·subst e;have O:(l.setIfInBounds i true).getD i false=true:=by simp[Array.getD,V,hi]
     have h2:l.getD i false=false:=by rw[<- xcc om];exact h
     rw[O,h2];simp at H⊢;omega
    ·rw[getD_set_ne false e];have M:(if i<k+1 then 1 else 0)=(if i<k then 1 else 0):=by
      by_cases h:i<k
      ·rw[if_pos h,if_pos om]
      ·rw[if_neg h,if_neg om]
     rw[M];omega
 have:=key n (Nat.le_refl _);rw[if_pos hi]at this;exact this
theorem yhd{l:Array Bool}(hi:i<n)(h:l.getD i false=false):0<Hn l n:=by
 unfold Hn;rw[List.countP_pos_iff];exact⟨i,by simpa using hi,by simp[h]⟩
theorem xy8(hs:Bo ops m cl=true):∀(fuel t c:Nat)(l:Array Bool),m<=c->c<=ops.length->l.size=ops.length->(∀j,l.getD j false=decide (j<c))->ops.length-c<=fuel->
 Region.linearise.go .any ops.toArray fuel t l []=List.range' c (ops.length-c):=by
 intro fuel
 induction fuel with
 |zero=>intro t c l _ _ _ _ hf;rw[show ops.length-c=0 from by omega];rfl
 |succ fuel ih=>
   intro t c l hm hc hl O hf;rw[ywk];by_cases he:c=ops.length
   ·have:Region.ready .any ops.toArray l=[]:=by
     rw[List.eq_nil_iff_forall_not_mem];intro i hi;obtain⟨V,o,ho,_⟩:=xif.1 hi;have M:=(List.getElem?_eq_some_iff.1 ho).1;rw[xcc om,O]at V;simp at V;omega
    rw[this,show ops.length-c=0 from by omega];rfl
   ·have M:c<ops.length:=om;have hr:Region.ready .any ops.toArray l=[c]:=by
     have H:∀i,i∈Region.ready .any ops.toArray l<->i=c:=by
      intro i;rw[xif];constructor
      ·rintro⟨V,o,ho,hp⟩;have a4:=(List.getElem?_eq_some_iff.1 ho).1;rw[xcc om,O]at V;simp at V;rcases Nat.lt_or_ge c i with hci|hci
       ·have:=xjv hs hl (fun j o' hj a3 x hx=>by
         rw[O]at hj⊢;simp at hj⊢;exact Nat.lt_trans ((xwq hs a3).1 x hx) hj) i o c (fun x hx=>⟨(xwq hs ho).1 x hx,hp x hx⟩) ((xwq hs ho).2.1 om c hci)
        rw[O]at this;simp at this
       ·omega
      ·rintro rfl;refine⟨by rw[xcc om,O];simp,_,List.getElem?_eq_getElem M,fun j hj=>?_⟩;rw[O];simpa using(xwq hs (List.getElem?_eq_getElem M)).1 j hj
     have a2:(Region.ready .any ops.toArray l).Nodup:=by unfold Region.ready;exact List.nodup_range.sublist List.filter_sublist
     match a5:Region.ready .any ops.toArray l,H,a2 with
     |[],H,_=>exact absurd ((H c).2 rfl) s_
     |[x],H,_=>rw[(H x).1 s_]
     |x::y::z,H,a2=>
       have V:=(H x).1 s_;have h2:=(H y).1 s_;subst V;subst h2;simp at a2
    rw[hr];simp only[List.length_singleton,Nat.mod_one,List.getElem?_cons_zero];rw[ih _ (c+1) _ om om (by simpa using hl) (fun j=>?_) om]
    ·rw[show ops.length-c=ops.length-(c+1)+1 from by omega,List.range'_succ]
    ·by_cases e:c=j
     ·subst e;simp[Array.getD,hl,M]
     ·rw[getD_set_ne false e,O];by_cases h:j<c
      ·rw[decide_eq_true h,decide_eq_true om]
      ·rw[decide_eq_false h,decide_eq_false om]
theorem xr3(hs:Bo ops m cl=true)(hm:m<=ops.length):∀(fuel t:Nat)(l:Array Bool),l.size=ops.length->(∀j,m<=j->l.getD j false=false)->(∀(j:Nat)(o:Oper),l.getD j false=true->ops[j]?=some o-> ∀x∈Bm o,l.getD x false=true)->Hn l ops.length<=fuel->
 ∃s,Region.linearise.go .any ops.toArray fuel t l []=s++List.range' m (ops.length-m)/\Ord ops m l s:=by
 intro fuel
 induction fuel with
 |zero=>
   intro t l hl H _ hf;have M:∀j,j<ops.length->l.getD j false=true:=fun j O=>by
    cases h:l.getD j false
    ·have:=yhd O h;omega
    ·rfl
   have b4:m=ops.length:=by
    rcases Nat.lt_or_ge m ops.length with h|h
    ·have:=M m h;rw[H m (Nat.le_refl _)]at this;cases this
    ·omega
   exact⟨[],by rw[b4,Nat.sub_self];rfl,.nil fun j O=>M j om⟩
 |succ fuel ih=>
   intro t l hl H a9 hf;by_cases M:∀j<m,l.getD j false=true
   ·refine⟨[],?_,.nil M⟩;rw[List.nil_append];refine xy8 hs _ _ m l (Nat.le_refl _) hm hl (fun j=>?_) ?_
    ·by_cases h:j<m
     ·rw[M j h,decide_eq_true h]
     ·rw[H j om,decide_eq_false h]
    ·have:ops.length-m<=Hn l ops.length:=by
      unfold Hn;have e:List.range ops.length=List.range m++(List.range (ops.length-m)).map (m+ ·):=by
       rw[<- List.range_add,show m+(ops.length-m)=ops.length from by omega]
      rw[e,List.countP_append];have:((List.range (ops.length-m)).map (m+ ·)).countP (fun i=>!l.getD i false)=ops.length-m:=by
       rw[List.countP_eq_length.2]
       ·simp
       ·intro x hx;obtain⟨y,_,rfl⟩:=List.mem_map.1 hx;rw[H _ om];rfl
      omega
     omega
   ·
     have b3:∃i,i<m/\l.getD i false=false/\ ∀j<i,l.getD j false=true:=by
      have:∃i,i<m/\l.getD i false=false:=by
       refine Classical.byContradiction fun hn=>M fun j O=>?_;cases h:l.getD j false
       ·exact absurd ⟨j,O,h⟩ hn
       ·rfl
      obtain⟨i,hi,hf⟩:=this
      induction i using Nat.strongRecOn with
      |_ i ih=>
        by_cases a3:∀j<i,l.getD j false=true
        ·exact⟨i,hi,hf,a3⟩
        ·have:∃j,j<i/\l.getD j false=false:=by
          refine Classical.byContradiction fun hn=>a3 fun j O=>?_;cases h:l.getD j false
          ·exact absurd ⟨j,O,h⟩ hn
          ·rfl
         obtain⟨j,O,b0⟩:=this;exact ih j O om b0
     obtain⟨i₀,b5,V,a2⟩:=b3;have a6:i₀∈Region.ready .any ops.toArray l:=by
      rw[xif];refine⟨by rw[xcc om];exact V,_,List.getElem?_eq_getElem om,fun j O=>a2 j ((xwq hs (List.getElem?_eq_getElem om)).1 j O)⟩
     rw[ywk];cases a7:(Region.ready .any ops.toArray l)[t%(Region.ready .any ops.toArray l).length]? with
     |none=>
       have hlen:0<(Region.ready .any ops.toArray l).length:=List.length_pos_of_mem a6;have:=Nat.mod_lt t hlen;rw[List.getElem?_eq_none_iff]at a7;omega
     |some i=>
       obtain⟨h1,o,ho,hp⟩:=xif.1 (List.mem_of_getElem? a7);have a5:=(List.getElem?_eq_some_iff.1 ho).1;have b7:i<m:=by
        rcases Nat.lt_or_ge i m with h|h
        ·exact h
        ·have:=xjv hs hl a9 i o i₀ (fun x hx=>⟨(xwq hs ho).1 x hx,hp x hx⟩) ((xwq hs ho).2.1 h i₀ om);rw[V]at this;cases this
       obtain⟨s,e,a8⟩:=ih (t / (Region.ready .any ops.toArray l).length) (l.setIfInBounds i true) (by simpa using hl) (fun j O=>by rw[getD_set_ne false om];exact H j O) (fun j o' O a4 x hx=>by
        by_cases e':i=j
        ·subst e';rw[ho]at a4;cases a4;have b6:=hp x hx;by_cases e2:i=x
         ·subst e2;simp[Array.getD,hl,a5]
         ·rw[getD_set_ne false e2];exact b6
        ·rw[getD_set_ne false e']at O;by_cases e2:i=x
         ·subst e2;simp[Array.getD,hl,a5]
         ·rw[getD_set_ne false e2];exact a9 j o' O a4 x hx) (by
        have:=ygd a5 hl h1;omega)
       refine⟨i::s,?_,.cons b7 ho h1 hp a8⟩;simp only;rw[e];rfl
theorem xdn(hs:Bo ops m cl=true)(H:m<=ops.length)(t:Nat):
 ∃s,Region.linearise .any ops.toArray t=s++List.range' m (ops.length-m)/\Ord ops m (Array.replicate ops.length false) s:=by
 unfold Region.linearise;have:=xr3 hs H ops.length t (Array.replicate ops.length false) s_ (fun j _=>by simp[Array.getD]) (fun j _ M=>by simp[Array.getD]at M) (by
  unfold Hn;have:=List.countP_le_length (p:=fun i=>!(Array.replicate ops.length false).getD i false) (l:=List.range ops.length);simpa using this)
 simpa using this
end
def Nx(P:Program)(md:Md)(tm:List Value)(o:Oper)(Base:Heap->Prop)(v:Value):Prop:=
 ∀h,Base h->Ex P tm o h (fun v' h'=>v'=v/\Base h')\/
  (∃g args,(wpS P (execOp (evl tm) o) h fun n h'=>n=.enter g args/\h'=h)/\Ac P md g args h (fun v' h'=>v'=v/\Base h'))\/
  ∀(c:Frame)(cs:List Frame)(Stop:Goroutine->Heap->Prop),(∀v' h',v'=v/\Base h'->Reach P md (G (c.finish v') cs) h' Stop)->wpS P (execOp (evl tm) o) h (Ou P md c cs Stop)
section
variable{m:Nat}
theorem xkj(tm:List Value)(d:Option Tmp)(v:Value):(Cz tm d v).length=tm.length:=by cases d<;>simp[Cz]
theorem xxz{x:Nat}(h:d≠some x):(Cz tm d v)[x]?=tm[x]?:=by
 cases d with
 |none=>rfl
 |some y=>simp only[Cz];rw[List.getElem?_set_ne];intro e;exact h (by rw[e])
theorem yw0{t:Nat}(h:tm[t]?=tm'[t]?):evl tm (.tmp t)=evl tm' (.tmp t):=by
 simp only[evl,List.getD_eq_getElem?_getD,h]
theorem yld{o:Op}(h:Gv o=true)(cs:Array SelectCase)(b:Bool):o≠.select cs b:=by intro e;subst e;simp[Gv]at h
theorem xnt(hs:Gv o.op=true)(h:∀t∈looks ops o,tm[t]?=tm'[t]?):execOp (evl tm) o=execOp (evl tm') o:=by
 refine execOp_congr o (yld hs) fun x H=>?_;cases x with
 |tmp t=>exact yw0 (h t (by unfold looks;rw[List.mem_append];exact .inl (List.mem_filterMap.2 ⟨.tmp t,by simpa using H,rfl⟩)))
 |const v=>rfl
 |global g=>rfl
 |func f=>rfl
theorem xbl{t:Bool}(h:∀x∈looks ops o,tm[x]?=tm'[x]?)(m:Met ops tm' o t):Met ops tm o t:=by
 unfold Met at m⊢;split at m
 ·exact m
 ·rename_i j want H;rw[<- m];unfold Eh;cases M:(ops[j]?).bind (·.dst)with
  |none=>rfl
  |some d=>
    have:tm[d]?=tm'[d]?:=h d (by unfold looks;rw[H,List.mem_append];exact .inr (by simp[M]));simp only[Option.bind_some,this]
section
variable{r:Rd}{k:List Item}{Stop:Goroutine->Heap->Prop}{tmF:List Value}
end
end
section
variable{r:Rd}{k:List Item}{Stop:Goroutine->Heap->Prop}
end
abbrev Pcs:=List (Nat×Obj)
variable{Q:Nat->(Nat->Value)->(Nat->Pcs)->Value->Pcs->Prop}{piece:Nat->Pcs}{A C X' Y Z:Pcs}
def E9(ops:List Oper)(val:Nat->Value):Nat->List Value->List Value
 |0,tm=>tm
 |m+1,tm=>Cz (E9 ops val m tm) ((ops[m]?).bind (·.dst)) (val m)
theorem xnz(ops:List Oper)(val:Nat->Value)(tm:List Value):∀m,(E9 ops val m tm).length=tm.length
 |0=>rfl
 |m+1=>by simp only[E9,xkj,xnz ops val tm m]
theorem xgg{ops:List Oper}{val:Nat->Value}{tm:List Value}{x:Nat}:∀{m:Nat},(∀(j:Nat)(o:Oper),j<m->ops[j]?=some o->o.dst≠some x)->(E9 ops val m tm)[x]?=tm[x]?
 |0,_=>rfl
 |m+1,h=>by
   simp only[E9];rw[xxz,xgg fun j o M=>h j o om];intro e;cases H:ops[m]? with
   |none=>rw[H]at e;cases e
   |some o=>rw[H]at e;exact h m o om H e
theorem xam{ops:List Oper}{val:Nat->Value}{tm:List Value}{x i:Nat}{o:Oper}:∀{m:Nat},i<m->ops[i]?=some o->o.dst=some x->(∀(j:Nat)(o':Oper),j<m->ops[j]?=some o'->o'.dst=some x->j=i)->x<tm.length->
 (E9 ops val m tm)[x]?=some (val i)
 |0,h,_,_,_,_=>om
 |m+1,h,ho,hd,hu,hx=>by
   simp only[E9];by_cases e:i=m
   ·subst e;rw[ho];simp only[Option.bind_some,hd,Cz];rw[List.getElem?_set_self (by rw[xnz];exact hx)]
   ·rw[xxz,xam om ho hd (fun j o' O=>hu j o' om) hx];intro M;cases H:ops[m]? with
    |none=>rw[H]at M;cases M
    |some o'=>rw[H]at M;exact e (hu m o' om H M).symm
def H2(ops:List Oper)(m:Nat)(ini:List Nat)(use:Nat->List Nat)(fin:List Nat):Bool:=
 decide ini.Nodup&&ini.all (fun x=>decide (m<=x))&&decide fin.Nodup &&
 (ops.zipIdx.all fun(o,i)=>!decide (i<m)||((decide (use i).Nodup)&&(use i).all fun x=>(ini.contains x||(decide (x<m)&&(Bm o).contains x))&&(List.range m).all fun k=>decide (k=i)||!(use k).contains x)) &&
 (fin.all fun x=>(ini.contains x||decide (x<m))&&(List.range m).all fun k=>!(use k).contains x) &&
 ((List.range m++ini).all fun x=>fin.contains x||(List.range m).any fun k=>(use k).contains x)
theorem xi6{α:Type}[DecidableEq α]:∀{u ls:List α},u.Nodup->(∀x∈u,x∈ls)-> ∃r,ls.Perm (u++r)
 |[],ls,_,_=>⟨ls,.refl _⟩
 |x::u,ls,hn,hs=>by
   have O:=List.perm_cons_erase (hs x s_);have H:=List.nodup_cons.1 hn;obtain⟨r,V⟩:=xi6 (ls:=ls.erase x) H.2 fun y M=>by
    rw[List.mem_erase_of_ne (fun e=>by subst e;exact H.1 M)];exact hs y (by simp[M])
   exact⟨r,O.trans (V.cons x)⟩
def Exv(P:Program)(tm:List Value)(o:Oper)(h:Heap)(K:Value->Heap->Prop):Prop:=
 wpS P (execOp (evl tm) o) h fun n h'=>∃v,(n=.value v\/(n=.skip/\v=undef))/\K v h'
theorem Ex.exv{P:Program}{tm:List Value}{o:Oper}{h:Heap}{K:Value->Heap->Prop}(x:Ex P tm o h K):Exv P tm o h K:=xex x fun _ _⟨v,e,y⟩=>⟨v,.inl e,y⟩
def Ky(F:Nat->Oper->Prop):Nat->List Oper->Prop
 |_,[]=>True
 |i,o::rest=>(Bq o.op=true/\F i o)/\Ky F (i+1) rest
theorem Ky.at{F:Nat->Oper->Prop}:∀{l:List Oper}{b i:Nat}{o:Oper},Ky F b l->l[i]?=some o->Bq o.op=true/\F (b+i) o
 |[],_,_,_,_,h=>by simp at h
 |o::l,b,0,_,m,h=>by simp at h;subst h;exact m.1
 |o::l,b,i+1,_,m,h=>by
   have:=Ky.at (i:=i) m.2 (by simpa using h);rw[show b+(i+1)=b+1+i from by omega];exact this
section
variable{m:Nat}{r:Rd}{k:List Item}{Stop:Goroutine->Heap->Prop}{fin:List Nat}{X:Nat->Pcs}{Q:Nat->Value->Pcs->Prop}
theorem ynd(O:H2 ops m ini use fin=true):ini.Nodup/\(∀x∈ini,m<=x)/\fin.Nodup/\
 (∀(i:Nat)(o:Oper),i<m->ops[i]?=some o->(use i).Nodup/\ ∀x∈use i,(x∈ini\/(x<m/\x∈Bm o))/\ ∀k<m,k≠i->x∉use k)/\
 (∀x∈fin,(x∈ini\/x<m)/\ ∀k<m,x∉use k)/\(∀x,(x<m\/x∈ini)->x∈fin\/ ∃k<m,x∈use k):=by
 unfold H2 at O;simp only[Bool.and_eq_true,decide_eq_true_eq,List.all_eq_true]at O;obtain⟨⟨⟨⟨⟨h1,h2⟩,h3⟩,h4⟩,h5⟩,h6⟩:=O;refine⟨h1,h2,h3,fun i o hi ho=>?_,fun x H=>?_,fun x H=>?_⟩
 ·have M:(o,i)∈ops.zipIdx:=by rw[List.mem_zipIdx_iff_getElem?];exact ho
  have h:=h4 (o,i) M;simp only[hi,decide_true,Bool.not_true,Bool.false_or,Bool.and_eq_true,decide_eq_true_eq,List.all_eq_true,Bool.or_eq_true,List.mem_range,Bool.not_eq_true',List.contains_eq_mem,decide_eq_false_iff_not]at h;exact⟨h.1,fun x H=>⟨(h.2 x H).1,fun k O V=>((h.2 x H).2 k O).resolve_left V⟩⟩
 ·have h:=h5 x H;simp only[Bool.or_eq_true,decide_eq_true_eq,List.mem_range,Bool.not_eq_true',List.contains_eq_mem,decide_eq_false_iff_not]at h;exact h
 ·have h:=h6 x (by rw[List.mem_append,List.mem_range];exact H);simp only[Bool.or_eq_true,List.any_eq_true,List.mem_range,List.contains_eq_mem,decide_eq_true_eq]at h;exact h
def Emp(Q:Nat->Value->Pcs->Prop):List Nat->Prop
 |[]=>True
 |j::l=>(∀v x,Q j v x->x=[])/\Emp Q l
theorem Emp.flat{Q:Nat->Value->Pcs->Prop}{val:Nat->Value}{piece:Nat->Pcs}:∀{l:List Nat},Emp Q l->(∀j∈l,Q j (val j) (piece j))->l.flatMap piece=[]
 |[],_,_=>rfl
 |j::l,e,h=>by
   rw[List.flatMap_cons,e.1 _ _ (h j s_),Emp.flat e.2 fun i hi=>h i (by simp[hi])];rfl
section
variable{U:Pcs}{q:Value->Pcs->Prop}{pos:String}
theorem Aa.build{T:TypeId}{w b n:Nat}{es:List (List Value)}{cells:Array Value}(hc:cells=es.flatten.toArray)(hw:∀e∈es,e.length=w)(hn:es.length=n)(H:n*w<=2^24):Aa T w (.slice (some ⟨b,0,none⟩) n n) es [(b,.cells cells T (0,0))]:=by
 subst hn;exact⟨hw,.inr ⟨b,es.flatten,es.length,[],rfl,by rw[hc],s_,xjq hw,fun e=>by subst e;omega⟩⟩
theorem xql{x:Value}{L₁ L₂:Pcs}(o:Aa T w x news Y)(s:St z9 zz p h (L₁++(Y++L₂))):Src P h w news.length x news:=by
 obtain⟨hw,⟨rfl,rfl,rfl⟩|⟨b,cs,cap,rest,rfl,rfl,M,hlen,V⟩⟩:=o
 ·exact ycm
 ·refine⟨fun K H=>xbq H,fun K H=>?_,rfl,hw⟩;show wpS P (loadCells ⟨b,0,none⟩ (news.length*w)) h K;refine xmz (xjq hw) (fun j u O=>?_) H;rw[xox];refine s.Fs (i:=L₁.length) (cs:=cs.toArray) (T:=T) (z:=(0,0)) ?_ ?_
  ·rw[List.getElem?_append_right (Nat.le_refl _)];simp
  ·rw[List.getElem?_toArray,M,Nat.zero_add,List.getElem?_append_left (List.getElem?_eq_some_iff.1 O).1];exact O
theorem xqg{m':Nat}{x:Value}{C':Pcs}(A':Pcs)
 (hT:P.underlying sT=some (.slice eT))(hs:Bv P eT=some w)(hz:Ep P eT=some z)(a3:z.cells.size=w)(V:D5 P eT=some by')(hx:P.underlying xT=some (.slice eX))
 (a2:evl tm' xo=v)(M:evl tm' yo=x)(o:Aa eT w v es X')(s:St z9 zz p h (A'++(X'++C')))(src:Src P h w m' x news)(h1:∀u∈news.flatten,Bj u=true)
 (H:(es.length+m')*by'<=2^45)(O:0<by'/\by'<=2^20)
 (n:∀v' X' h',Aa eT w v' (es++news) X'->St z9 zz p h' (A'++(X'++C'))->K v' h'):
 Ex P tm' ⟨some dd,.call ⟨.builtin .append,#[xo,yo],#[sT,xT]⟩,ty,pos,aft,gd⟩ h K:=by
 unfold Ex;simp only[execOp,resolve];refine xaq (xbq ?_);simp only[invoke,builtin];refine xaq ?_;have e:(#[xo,yo]:Array Operand).map (evl tm')=#[v,x]:=by simp[a2,M]
 rw[e];refine xu8 hT hs hz a3 V hx o s src.lenOf src.cells src.len src.wid h1 H O fun v' X' h' o' s'=>?_;exact xbq ⟨v',rfl,n v' X' h' o' s'⟩
end
end
theorem xu3{l:List Value}(h:l.all Bj=true):∀u∈l,Bj u=true:=fun u H=>List.all_eq_true.1 h u H
def Du(f:Nat->Int)(k:Nat):List Int:=(List.range k).map f
theorem xzv(xs:List Int):∀u∈(xs.map fun x=>[Value.J x]).flatten,Bj u=true:=by
 intro u H;rw[List.mem_flatten]at H;obtain⟨l,M,H⟩:=H;obtain⟨x,_,rfl⟩:=List.mem_map.1 M;rw[List.mem_singleton.1 H];rfl
theorem Aa.as{T:TypeId}{w:Nat}{v:Value}{es es':List (List Value)}{X:List (Nat×Obj)}(o:Aa T w v es X)(e:es=es'):Aa T w v es' X:=by subst e;exact o
theorem Aa.val{T:TypeId}{w:Nat}{v:Value}{es:List (List Value)}{X:List (Nat×Obj)}(o:Aa T w v es X):∃a cap,v=.slice a es.length cap/\(0<es.length->a=some (adr a)):=by
 obtain⟨_,⟨rfl,rfl,rfl⟩|⟨b,cs,cap,rest,rfl,rfl,M,hlen,H⟩⟩:=o
 ·exact⟨_,_,rfl,fun h=>absurd h s_⟩
 ·exact⟨_,_,rfl,fun _=>rfl⟩
structure New(h h':Heap)(X:Pcs):Prop where
 C3:Av h h'
 own:∀x∈X,h'[x.1]?=some x.2/\h.size<=x.1
 nod:(X.map (·.1)).Nodup
section
variable{X L:Pcs}
theorem St.new(s:St z9 [] p h X):New z9 h X:=⟨s.kept,fun x H=>⟨(s.own x H).1,(s.own x H).2.2.resolve_right s_⟩,s.nod⟩
theorem St.K4(s:St z9 zz p h L)(n:New h h' X):St z9 zz p h' (X++L):=by
 have M:=s.call n.C3;refine⟨M.C3,M.size,M.per,fun x H=>?_,?_⟩
 ·rcases List.mem_append.1 H with H|H
  ·obtain⟨V,O⟩:=n.own x H;refine⟨V,?_,.inl (Nat.le_trans s.size O)⟩;cases hp:p x.1 with
   |none=>rfl
   |some o=>exact absurd (xix (s.per _ _ hp)) (Nat.not_lt.2 O)
  ·exact M.own x H
 ·rw[List.map_append,List.nodup_append];refine⟨n.nod,s.nod,fun a ha b hb e=>?_⟩;subst e;obtain⟨x,H,rfl⟩:=List.mem_map.1 ha;obtain⟨y,hy,e⟩:=List.mem_map.1 hb;have V:=(n.own x H).2;have O:=xix (s.own y hy).1;omega
end
section
variable{r:Rd}{k:List Item}{Stop:Goroutine->Heap->Prop}{X:Pcs}{pos:String}
theorem ytr(n:Nat)(g:Nat->Value):(Array.range n).map g=((List.range n).map g).toArray:=by apply Array.ext';simp
theorem xa8{vs:List (Nat×Value)}{cells:Array Value}
 (hT:P.underlying sT=some (.slice eT))(hs:Bv P eT=some w)(hz:Ep P eT=some z)(V:n*w<=2^24)(M:(parts.map fun(i,x)=>(i,evl tm x))=vs)
 (hf:Instr.fill (fun i=>some (i*w,w)) ((List.range (n*w)).map (z.cells[· % z.cells.size]!)).toArray vs=some cells)(hc:cells=es.flatten.toArray)(hw:(es.all fun e=>e.length==w)=true)(hn:es.length=n)
 (s:St z9 zz p h C)(nx:∀v X h',Aa eT w v es X->St z9 zz p h' (X++C)->K v h'):Ex P tm ⟨some dd,.buildSlice sT n parts.toArray,ty,pos,aft,gd⟩ h K:=by
 have a2:∀e∈es,e.length=w:=fun e he=>by simpa using List.all_eq_true.1 hw e he
 have fin:∀b,Aa eT w (.slice (some ⟨b,0,none⟩) n n) es [(b,.cells cells eT (0,0))]:=fun b=>Aa.build hc a2 hn (by simpa using V);rw[<- ytr]at hf;unfold Ex;simp only[execOp];refine xaq ?_;unfold Instr.buildSlice;refine xaq (xcq hT ?_);simp only;refine xaq (xvq hs ?_);rw[if_neg om];by_cases O:n*w=0
 ·rw[if_pos O];refine xaq (xbq ?_);have H:Instr.fill (fun i=>some (i*w,w)) ((Array.range (n*w)).map ((#[]:Array Value)[· % (#[]:Array Value).size]!)) vs=some cells:=by
   rw[<- hf,O,show Array.range 0=(#[]:Array Nat) from by simp,Array.map_empty,Array.map_empty]
  simp only[List.map_toArray,M,H];refine xaq (xtz ?_);refine xbq ?_;exact xbq ⟨_,rfl,nx _ _ _ (fin _) (s.push _)⟩
 ·rw[if_neg O];refine xaq (xzx hz ?_);refine xaq (xbq ?_);simp only[List.map_toArray,M,hf];refine xaq (xtz ?_);refine xbq ?_;exact xbq ⟨_,rfl,nx _ _ _ (fin _) (s.push _)⟩
theorem xc1{vs:List (Nat×Value)}{cells:Array Value}
 (hm:Met ops tm ⟨some dd,.buildSlice sT n parts.toArray,ty,pos,aft,gd⟩ true)
 (V:P.underlying sT=some (.slice eT))(hs:Bv P eT=some w)(hz:Ep P eT=some z)(H:n*w<=2^24)(M:(parts.map fun(i,x)=>(i,evl tm x))=vs)
 (hf:Instr.fill (fun i=>some (i*w,w)) ((List.range (n*w)).map (z.cells[· % z.cells.size]!)).toArray vs=some cells)(hc:cells=es.flatten.toArray)(hw:(es.all fun e=>e.length==w)=true)(hn:es.length=n)
 (nx:∀v X,Aa eT w v es X->RL P md f r df k cs Stop ops rest (tm.set dd v) (fun h=>St z9 zz p h (A++(X++C)))):
 RL P md f r df k cs Stop ops (⟨some dd,.buildSlice sT n parts.toArray,ty,pos,aft,gd⟩::rest) tm (fun h=>St z9 zz p h (A++C)):=
 xrj (K:=fun v h'=>∃X,Aa eT w v es X/\St z9 zz p h' (A++(X++C))) hm rfl (fun h s=>xa8 V hs hz H M hf hc hw hn s fun v X h' o O=>⟨X,o,O.perm (by
  rw[<- List.append_assoc,<- List.append_assoc];exact List.Perm.append_right C List.perm_append_comm)⟩) fun v=>xgk fun X=>xyx fun o=>nx v X o
theorem xi9{x:Value}(A X Y:Pcs)(hm:Met ops tm ⟨some dd,.call ⟨.builtin .append,#[xo,yo],#[sT,xT]⟩,ty,pos,aft,gd⟩ true)
 (hT:P.underlying sT=some (.slice eT))(hs:Bv P eT=some w)(hz:Ep P eT=some z)(a3:z.cells.size=w)(V:D5 P eT=some by')(hx:P.underlying xT=some (.slice eX))
 (a2:evl tm xo=v)(M:evl tm yo=x)(o1:Aa eT w v es X)(o2:Aa eT w x news Y)(h1:∀u∈news.flatten,Bj u=true)
 (H:(es.length+news.length)*by'<=2^45)(O:0<by'/\by'<=2^20)
 (nx:∀v' X',Aa eT w v' (es++news) X'->RL P md f r df k cs Stop ops rest (tm.set dd v') (fun h=>St z9 zz p h (A++(X'++C)))):
 RL P md f r df k cs Stop ops (⟨some dd,.call ⟨.builtin .append,#[xo,yo],#[sT,xT]⟩,ty,pos,aft,gd⟩::rest) tm (fun h=>St z9 zz p h (A++(X++(Y++C)))):=
 xrj (K := fun v' h' =>∃X', Aa eT w v' (es ++ news) X' /\ St z9 zz p h' (A ++ (X' ++ C))) hm rfl (fun h s => xqg A hT hs hz a3 V hx a2 M o1 s (xql (L₁ := A ++ X) o2 (by rw[List.append_assoc]; exact s)) h1 H O fun v' X' h' o' s' => ⟨X', o', s'.sub
  ((List.Sublist.refl A).append ((List.Sublist.refl X').append (List.sublist_append_right Y C)))⟩) fun v'=>xgk fun X'=>xyx fun o'=>nx v' X' o'
theorem xh9{cap:Nat}{a:Option Addr}(A X:Pcs)(hm:Met ops tm ⟨some dd,.call ⟨.builtin .append,#[xo,yo],#[sT,xT]⟩,ty,pos,aft,gd⟩ true)
 (hT:P.underlying sT=some (.slice eT))(hs:Bv P eT=some w)(hz:Ep P eT=some z)(a3:z.cells.size=w)(V:D5 P eT=some by')(hx:P.underlying xT=some (.slice eX))
 (a2:evl tm xo=v)(M:evl tm yo=.slice a n cap)(o1:Aa eT w v es X)(o2:Sl p a n w news)(h1:∀u∈news.flatten,Bj u=true)
 (H:(es.length+n)*by'<=2^45)(O:0<by'/\by'<=2^20)(a4:0<w)
 (nx:∀v' X',Aa eT w v' (es++news) X'->RL P md f r df k cs Stop ops rest (tm.set dd v') (fun h=>St z9 zz p h (A++(X'++C)))):
 RL P md f r df k cs Stop ops (⟨some dd,.call ⟨.builtin .append,#[xo,yo],#[sT,xT]⟩,ty,pos,aft,gd⟩::rest) tm (fun h=>St z9 zz p h (A++(X++C))):=
 xrj (K:=fun v' h'=>∃X',Aa eT w v' (es++news) X'/\St z9 zz p h' (A++(X'++C))) hm rfl (fun _ s=>xqg A hT hs hz a3 V hx a2 M o1 s (xug s a4 o2) h1 H O fun _ X' _ o' s'=>⟨X',o',s'⟩) fun v'=>xgk fun X'=>xyx fun o'=>nx v' X' o'
end
def Be(P:Program)(md:Md)(fv:Value)(args:List Value)(h:Heap)(R:Value->Heap->Prop):Prop:=
 ∀(c:Frame)(cs:List Frame)(Stop:Goroutine->Heap->Prop),(∀v h',R v h'->Reach P md (G (c.finish v) cs) h' Stop)->
  wpS P (do let d <- Deferred.ofValue fv args.toArray;invoke d.target d.args) h (Ou P md c cs Stop)
theorem Be.mono{fv:Value}{args:List Value}(x:Be P md fv args h R)(y:∀v h',R v h'->R' v h'):Be P md fv args h R':=
 fun c cs Stop z=>x c cs Stop fun v h' r=>z v h' (y v h' r)
theorem xgq{g:FuncId}{args:List Value}(H:Ao P g=true)(x:Ac P md g (first++(args++cap)).toArray h R):Be P md (.func (.func g) first.toArray cap.toArray) args h R:=by
 intro c cs Stop z;refine xaq ?_;unfold Deferred.ofValue;refine xbq ?_;simp only[invoke];refine xnb H ?_;show Reach P md (G (Frame.enter P g _ .normal) (c::cs)) h Stop;have e:(first.toArray++args.toArray++cap.toArray)=(first++(args++cap)).toArray:=by simp
 rw[e];exact x c cs Stop z
section
variable{r:Rd}{k:List Item}{Stop:Goroutine->Heap->Prop}{L:Pcs}
theorem xgf[Stb Φ]{pos:String}
 (hm:Met ops tm ⟨d,.call ⟨.value x,args.toArray,ats⟩,ty,pos,aft,gd⟩ true)(O:evl tm x=fv)(M:args.map (evl tm)=vs)
 (hc:∀h,Φ h->Be P md fv vs h R)(n:∀v,RL P md f r df k cs Stop ops rest (Cz tm d v) (R v)):
 RL P md f r df k cs Stop ops (⟨d,.call ⟨.value x,args.toArray,ats⟩,ty,pos,aft,gd⟩::rest) tm Φ:=by
 intro H e;rw[xlw];refine xks (xhf e) (xxq hm) xtw (.inr rfl) fun h y=>?_;rw[xbz];have:=hc h y (F (B f r) tm.toArray df (.inRegion ops.toArray (H.length::List.range' (H.length+1) rest.length)::k)) cs Stop fun v h' V=>by
  rw[xax (xhf e),xyq];have:=n v (H++[⟨d,.call ⟨.value x,args.toArray,ats⟩,ty,pos,aft,gd⟩]) (by simp[e]) h' V;simpa[FL]using this
 simp only[execOp,resolve,O,List.map_toArray,M];exact this
theorem xo4{l:Nat}(M:h[l]?=some (.loop lp))(O:vs.length=lp.params.size)
 (V:((lp.params.zip vs.toArray).foldl (fun tmps(t,a)=>tmps.setIfInBounds t a) lp.tmps)=tm'.toArray)
 (x:∀(c:Frame)(cs:List Frame)(Stop:Goroutine->Heap->Prop),(∀v h',R v h'->Reach P md (G (c.finish v) cs) h' Stop)->
  RS P md (G (FL lp.fn (.some l) tm' [] [.code lp.assign,.beginRound,.code lp.body]) (c::cs)) Φ Stop)(H:Φ h):Be P md (.func (.yield l) #[] #[]) vs h R:=by
 intro c cs Stop z;refine xaq ?_;unfold Deferred.ofValue;refine xbq ?_;simp only[invoke];unfold Instr.yield Instr.getLoop;refine xaq ?_;refine xaq ?_;simp only[getObj,wpS,M];refine⟨rfl,?_⟩;refine xbq ?_;rw[if_neg (by simpa using O)];refine xbq ?_;show Reach P md (G (Frame.round l lp.fn _ lp.assign lp.body .normal) (c::cs)) h Stop;have e:(#[]:Array Value)++vs.toArray=vs.toArray:=by simp
 rw[e,V];exact x c cs Stop z h H
theorem xid{l:Nat}{K:Loop->Heap->Prop}(H:h[l]?=some (.loop lp))(x:K lp h):wpS P (Instr.getLoop l) h K:=by
 unfold Instr.getLoop;refine xaq ?_;simp only[getObj,wpS,H];exact⟨rfl,xbq x⟩
theorem xfd{l:Nat}{K:Unit->Heap->Prop}(H:h[l]?=some (.loop lp))(x:K () (h.setIfInBounds l (.loop lp'))):wpS P (setObj l (.loop lp')) h K:=by
 simp only[setObj,wpS,H];exact⟨rfl,rfl,x⟩
theorem St.setObj(s:St z9 zz p h L){i b:Nat}{o o':Obj}(H:L[i]?=some (b,o)):St z9 zz p (h.setIfInBounds b o') (L.set i (b,o')):=
 s.Ow H (by rw[Array.getElem?_setIfInBounds_self_of_lt (xix (s.at H))]) s_ fun c hc=>by rw[Array.getElem?_setIfInBounds_ne (Ne.symm hc)]
theorem ygf{l:Nat}(H:L[i]?=some (l,.loop lp))(M:lp.state=.ready)
 (x:RS P md (G (FL f (.some l) tm df k) cs) (fun h=>St z9 zz p h (L.set i (l,.loop {lp with state:=.busy}))) Stop):
 RS P md (G (FL f (.some l) tm df (.beginRound::k)) cs) (fun h=>St z9 zz p h L) Stop:=by
 refine xu5 (show(B f (.some l)).kind≠.early from xtw) rfl (fun w=>rfl) fun h s=>?_;show wpS P (do Instr.beginRound l;pure Next.skip) h _;refine xaq ?_;unfold Instr.beginRound;refine xaq (xid (s.at H) ?_);refine xaq (xfd (s.at H) ?_);rw[M];refine xbq ?_;refine xbq ?_;exact x _ (s.setObj H)
theorem xt5{l:Nat}{c:Frame}(hL:L[i]?=some (l,.loop lp))(hv:v=.bool jump.isNone)(hl:{lp with state:=if jump.isNone then .ready else .done,pending:=jump}=lp')
 (hstep:∀w,stepG P md.Hd (G (FL f (.some l) tm df k) (c::cs)) w=(let(r,es):=(Instr.endRound l jump).runT P w #[]
  GStep.after (seen P f es) <| match r with
  |.ok v w=>doReturn P md.Hd (FL f (.some l) tm df k) (c::cs) none v w
  | .halt _ w => .ended (.stuck "range over a function: no such loop" ((FL f (.some l) tm df k).pos P)) w))
 (x:RS P md (G (c.finish v) cs) (fun h=>St z9 zz p h (L.set i (l,.loop lp'))) Stop):
 RS P md (G (FL f (.some l) tm df k) (c::cs)) (fun h=>St z9 zz p h L) Stop:=by
 intro h s;refine xnj ⟨rfl,fun zj k₁ S w V=>?_⟩;have s₁:=s.call k₁;have hx:wpS P (Instr.endRound l jump) zj fun v' h'=>v'=v/\St z9 zz p h' (L.set i (l,.loop lp')):=by
  unfold Instr.endRound;refine xaq (xid (s₁.at hL) ?_);refine xaq (xfd (s₁.at hL) ?_);refine xbq ⟨hv.symm,?_⟩;rw[<- hl];exact s₁.setObj hL
 obtain⟨v',h',w',es,e1,e2,⟨e3,e4⟩,e5,e6,e7⟩:=xgd _ #[] hx V;subst e3;refine⟨_,h',w',seen P f es,?_,x h' e4,e5,e6,xeb e7⟩;rw[hstep w];simp only[Array.empty_append]at e1;simp only[e1,GStep.after,doReturn,FL,F,B,Rd.kind,Rd.round,G,Array.append_empty]
theorem yxn{l:Nat}{c:Frame}(M:L[i]?=some (l,.loop lp))(H:{lp with state:=.ready,pending:=none}=lp')
 (x:RS P md (G (c.finish (.bool true)) cs) (fun h=>St z9 zz p h (L.set i (l,.loop lp'))) Stop):
 RS P md (G (FL f (.some l) tm df []) (c::cs)) (fun h=>St z9 zz p h L) Stop:=
 xt5 M rfl (jump:=none) (by simpa using H) (fun _=>rfl) x
theorem yvn{l:Nat}{c:Frame}(M:L[i]?=some (l,.loop lp))(H:{lp with state:=.done,pending:=some .ret}=lp')
 (x:RS P md (G (c.finish (.bool false)) cs) (fun h=>St z9 zz p h (L.set i (l,.loop lp'))) Stop):
 RS P md (G (FL f (.some l) tm df (.code .ret::k)) (c::cs)) (fun h=>St z9 zz p h L) Stop:=
 xt5 M rfl (jump:=some .ret) (by simpa using H) (fun _=>rfl) x
theorem xsn{l:Nat}(O:L[i]?=some (l,.loop lp))(hb:lp.state≠.busy)
 (x:RS P md (G (FL f r tm df ((lp.pending.map Item.code).toList++k)) cs) (fun h=>St z9 zz p h (L.set i (l,.loop {lp with state:=.exhausted}))) Stop):
 RS P md (G (FL f r tm df (.endRangeFunc l::k)) cs) (fun h=>St z9 zz p h L) Stop:=by
 intro h s;refine xnj ⟨rfl,fun zj M S w V=>?_⟩;have H:=s.call M;have hx:wpS P (Instr.endLoop l) zj fun v' h'=>v'=lp.pending/\St z9 zz p h' (L.set i (l,.loop {lp with state:=.exhausted})):=by
  unfold Instr.endLoop;refine xaq (xid (H.at O) ?_);rw[if_neg (by cases h:lp.state<;>simp_all)];refine xaq (xfd (H.at O) ?_);exact xbq ⟨rfl,H.setObj O⟩
 obtain⟨v',h',w',es,e1,e2,⟨e3,e4⟩,e5,e6,e7⟩:=xgd _ #[] hx V;subst e3;refine⟨_,h',w',seen P f es,?_,x h' e4,e5,e6,xeb e7⟩;simp only[Array.empty_append]at e1;simp only[G,stepG,stepG.exec,FL,F,B,e1,GStep.after,Array.append_empty]
def Fy(f:FuncId)(tm:List Value)(params:Array Tmp)(assign body:Code)(r:Nat):Loop:={state:=.ready,pending:=none,fn:=f,tmps:=tm.toArray,params,assign,body,defers:=r}
theorem ywq:∀(l:List (Nat×Value))(tm:List Value),l.foldl (fun(tmps:Array Value)(q:Nat×Value)=>tmps.setIfInBounds q.1 q.2) tm.toArray=(l.foldl (fun tm q=>tm.set q.1 q.2) tm).toArray
 |[],_=>rfl
 |q::l,tm=>by
   simp only[List.foldl_cons];rw[<- ywq l];simp
theorem xbp{l d:Nat}{params:List Tmp}(M:h[l]?=some (.loop lp))(e:lp=Fy f tm params.toArray assign body d)(O:vs.length=params.length)
 (V:(params.zip vs).foldl (fun tm q=>tm.set q.1 q.2) tm=tm')
 (x:∀(c:Frame)(cs:List Frame)(Stop:Goroutine->Heap->Prop),(∀v h',R v h'->Reach P md (G (c.finish v) cs) h' Stop)->
  RS P md (G (FL f (.some l) tm' [] [.code assign,.beginRound,.code body]) (c::cs)) Φ Stop)(H:Φ h):Be P md (.func (.yield l) #[] #[]) vs h R:=by
 subst e;exact xo4 M (by simpa[Fy]using O) (by
  show((params.toArray.zip vs.toArray).foldl (fun(tmps:Array Value)(q:Nat×Value)=>tmps.setIfInBounds q.1 q.2) tm.toArray)=_;rw[List.zip_toArray,List.foldl_toArray,ywq,V]) x H
theorem xrr{l:Nat}(H:L[i]?=some (l,.loop lp))(M:lp.state≠.busy)(O:lp.pending=none)
 (x:RS P md (G (FL f r tm df k) cs) (fun h=>St z9 zz p h (L.set i (l,.loop {lp with state:=.exhausted}))) Stop):
 RS P md (G (FL f r tm df (.endRangeFunc l::k)) cs) (fun h=>St z9 zz p h L) Stop:=xsn H M (by
 have e:(lp.pending.map Item.code).toList++k=k:=by rw[O];rfl
 rw[e];exact x)
theorem yeq{l:Nat}{j:Code}(H:L[i]?=some (l,.loop lp))(M:lp.state≠.busy)(O:lp.pending=some j)
 (x:RS P md (G (FL f r tm df (.code j::k)) cs) (fun h=>St z9 zz p h (L.set i (l,.loop {lp with state:=.exhausted}))) Stop):
 RS P md (G (FL f r tm df (.endRangeFunc l::k)) cs) (fun h=>St z9 zz p h L) Stop:=xsn H M (by
 have e:(lp.pending.map Item.code).toList++k=.code j::k:=by rw[O];rfl
 rw[e];exact x)
def mark(r:Nat):Deferred:={target:=.collected r,args:=#[]}
theorem xp7{H:Rd}{R:Nat->Nat->Loop->Value->Heap->Prop}
 (hc:∀r l lp h,lp=Fy f tm params assign body r->St z9 zz p h ((l,.loop lp)::(r,.deferred (some []))::L)->Be P md (evl tm fop) [.func (.yield l) #[] #[]] h (R r l lp))
 (n:∀r l lp v,lp=Fy f tm params assign body r->RS P md (G (FL f H tm (mark r::df) (.endRangeFunc l::k)) cs) (R r l lp v) Stop)(O:H.round=Option.none:=by rfl):
 RS P md (G (FL f H tm df (.code (.rangeFunc fop params assign body)::k)) cs) (fun h=>St z9 zz p h L) Stop:=by
 intro h s;refine xnj ⟨rfl,fun zj a4 S w V=>?_⟩;have a2:=s.call a4
 have hx:wpS P (Instr.enterLoop f tm.toArray params assign body none) zj fun a h'=>∃r l,a=(l,[mark r])/\
  St z9 zz p h' ((l,.loop (Fy f tm params assign body r))::(r,.deferred (some []))::L):=by
  unfold Instr.enterLoop;refine xaq ?_;refine xaq ?_;simp only[newObj];refine xbq ?_;refine xaq ?_;simp only[wpS];exact xbq ⟨_,_,rfl,(a2.push _).push _⟩
 obtain⟨a,h',w',es,e1,e2,⟨r,l,rfl,e4⟩,e5,e6,e7⟩:=xgd _ #[] hx V;have a5:=hc r l _ h' rfl e4 (FL f H tm (mark r::df) (.inRangeFunc l::k)) cs Stop fun v h2 y=>n r l _ v rfl h2 y;obtain⟨nx,h2,w2,a3,g1,g2,g3,g4,g5,g6⟩:=xgd _ #[] a5 e5;simp only[Array.empty_append]at e1 g1
 have M:stepG P md.Hd (G (FL f H tm df (.code (.rangeFunc fop params assign body)::k)) cs) w=
  GStep.after (seen P f es) (stepG.apply P true (FL f H tm (mark r::df) (.inRangeFunc l::k)) cs none (do let d <- Deferred.ofValue (evl tm fop) #[.func (.yield l) #[] #[]];invoke d.target d.args) w'):=by
  have he:Frame.eval (FL f H tm (mark r::df) (.inRangeFunc l::k))=evl tm:=by rw[<- xbz];exact yvv
  simp only[G,stepG,stepG.exec,FL,F,B,O,e1];simp only[FL,F,B,O]at he;simp only[resolve,List.map_toArray,List.map_cons,List.map_nil];have e3:({fn:=f,tmps:=tm.toArray,todo:=.inRangeFunc l::k,defers:=[mark r]++df,mode:=.run,kind:=H.kind,roundOf:=Option.none}:Frame).eval=evl tm:=he;rw[e3];rfl
 have a6:∀e∈seen P f es++seen P f a3,EvX S w2.heap.size e:=fun e he=>by
  rcases Array.mem_append.1 he with he|he
  ·exact ybg g5.size (xeb e7 e he)
  ·exact xeb g6 e he
 have a7:(H.kind==CallKind.early)=false:=by cases H<;>rfl
 rw[M];cases nx<;>first|exact g3.elim|skip
 all_goals
  refine⟨_,h2,w2,seen P f es++seen P f a3,?_,g3,g4,e6.trans g5,a6⟩;simp only[stepG.apply,if_true];simp only[g1,GStep.after,FL,F,B,O,a7,Bool.false_eq_true,if_false,G,Array.append_empty]
  try rfl
end
section
variable{L:Pcs}
end
section
variable{pos:String}
theorem xx1{a:Addr}(H:evl tm x=.pointer (some a)):Exd P tm ⟨d,.nilCheck x,ty,pos,aft,gd⟩ h (.pointer (some a)):=by
 unfold Exd Ex;simp only[execOp,H];exact xbq ⟨_,rfl,rfl,rfl⟩
variable{r:Rd}{k:List Item}{Stop:Goroutine->Heap->Prop}
theorem xb1[sb:Stb Φ]
 (hm:Met ops tm ⟨d,.call ⟨.value x,args.toArray,ats⟩,ty,pos,aft,gd⟩ true)(V:evl tm x=fv)(O:args.map (evl tm)=vs)
 (hc:∀h,Φ h->Be P md fv vs h fun v' h'=>v'=v/\Av h h')(ht:Cz tm d v=tm')(n:RL P md f r df k cs Stop ops rest tm' Φ):
 RL P md f r df k cs Stop ops (⟨d,.call ⟨.value x,args.toArray,ats⟩,ty,pos,aft,gd⟩::rest) tm Φ:=
 xgf (R:=fun v' h'=>v'=v/\Φ h') hm V O (fun h y=>(hc h y).mono fun _ h'⟨H,e2⟩=>⟨H,sb.stb _ _ y e2⟩) fun v' M e h⟨H,y⟩=>by subst H;rw[ht];exact n M e h y
end
def E4:Value->Addr
 |.slice (some a) _ _=>a
 |_=>⟨0,0,none⟩
theorem xqn{w:Nat}{y:Value}:∀{es:List (List Value)},(∀e∈es,e.length=w)-> ∀{i j:Nat}{e:List Value},es[i]?=some e->j<e.length->es.flatten.set (i*w+j) y=(es.set i (e.set j y)).flatten
 |[],_,i,_,e,hi,_=>by simp at hi
 |e₀::es,h,i,j,e,hi,hj=>by
   have H:=h e₀ s_;cases i with
   |zero=>
     simp at hi;subst hi;rw[Nat.zero_mul,Nat.zero_add,List.flatten_cons,List.set_cons_zero,List.flatten_cons,List.set_append_left _ _ hj]
   |succ i=>
     simp at hi;have:=xqn (y:=y) (fun x M=>h x (by simp[M])) hi hj;rw[List.flatten_cons,List.set_cons_succ,List.flatten_cons,List.set_append_right _ _ (by rw[H,Nat.succ_mul];omega),<- this];congr 2;rw[H,Nat.succ_mul];omega
theorem Aa.has{T:TypeId}{w i:Nat}{v:Value}{es:List (List Value)}{X:List (Nat×Obj)}(o:Aa T w v es X)(hi:i<es.length):
 ∃b cs cap rest,v=.slice (some ⟨b,0,none⟩) es.length cap/\X=[(b,.cells (List.toArray cs) T (0,0))]/\cs=es.flatten++rest/\cs.length=cap*w/\(w=1->cap<=9223372036854775807):=by
 obtain⟨_,⟨_,h,_⟩|h⟩:=o
 ·subst h;simp at hi
 ·exact h
section
variable{r:Rd}{k:List Item}{Stop:Goroutine->Heap->Prop}{X L:Pcs}{pos:String}
theorem yuf{e:TypeId}(o:Aa T w v es X)(M:P.underlying t=some (.slice e))(H:evl tm x=v):
 Exd P tm ⟨d,.call ⟨.builtin .len,#[x],#[t]⟩,ty,pos,aft,gd⟩ h (.J (es.length:Nat)):=by
 obtain⟨a,cap,e,_⟩:=o.val;exact ypv M (H.trans e)
theorem yvf{e:TypeId}(o:Aa T w v es X)(hn:es.length=n)(M:P.underlying t=some (.slice e))(H:evl tm x=v):
 Exd P tm ⟨d,.call ⟨.builtin .len,#[x],#[t]⟩,ty,pos,aft,gd⟩ h (.J (n:Nat)):=by subst hn;exact yuf o M H
theorem xuc{e:TypeId}(o:Aa T w v es X)(V:P.underlying t=some (.slice e))(hs:Bv P e=some w)(H:evl tm x=v)(M:evl tm y=.J (i:Nat))(hi:i<es.length):
 Exd P tm ⟨d,.indexAddr t x y,ty,pos,aft,gd⟩ h (.pointer (some ((E4 v).add (i*w)))):=by
 obtain⟨b,cs,cap,rest,O,_⟩:=o.has hi;rw[O]at H⊢;exact xnw V hs H M hi
theorem yov{e:List Value}{a:Addr}(o:Aa T w v es X)(s:St z9 zz p h (A++(X++C)))(ht:Gs P t=some false)(H:evl tm x=.pointer (some a))(O:((E4 v).add (i*w)).add j=a)
 (hi:es[i]?=some e)(M:e[j]?=some u):Exd P tm ⟨d,.load t x,ty,pos,aft,gd⟩ h u:=by
 obtain⟨b,cs,cap,rest,V,e2,e3,e4,e5⟩:=o.has (List.getElem?_eq_some_iff.1 hi).1;subst V;subst e2;subst O;refine xog ht H ?_;simp only[E4];rw[xox,xox];refine s.Fs (i:=A.length) (cs:=cs.toArray) (T:=T) (z:=(0,0)) (by rw[List.getElem?_append_right (Nat.le_refl _)];simp) ?_;have:=xlj o.1 hi M;rw[List.getElem?_toArray,e3,Nat.zero_add,List.getElem?_append_left (List.getElem?_eq_some_iff.1 this).1];exact this
theorem ypc(o:Aa T w v es X)(n:∀p' a cap,PLe p p'->v=.slice a es.length cap->Sl p' a es.length w es->RL P md f r df k cs Stop ops rest tm (fun h=>St z9 zz p' h (A++C))):
 RL P md f r df k cs Stop ops rest tm (fun h=>St z9 zz p h (A++(X++C))):=fun H e h s=>by
 obtain⟨p',a,cap,V,h2,M,O,_⟩:=o.last (s.perm (by rw[<- List.append_assoc,<- List.append_assoc];exact List.Perm.append_right C List.perm_append_comm):St z9 zz p h (X++(A++C)));exact n p' a cap V M O H e h h2
theorem yhc(o:Aa T w v es X)(n:∀p' a cap,PLe p p'->v=.slice a es.length cap->Sl p' a es.length w es->RS P md g (fun h=>St z9 zz p' h (A++C)) Stop):
 RS P md g (fun h=>St z9 zz p h (A++(X++C))) Stop:=fun h s=>by
 obtain⟨p',a,cap,O,V,H,M,_⟩:=o.last (s.perm (by rw[<- List.append_assoc,<- List.append_assoc];exact List.Perm.append_right C List.perm_append_comm):St z9 zz p h (X++(A++C)));exact n p' a cap O H M h V
theorem yqc(o:Aa T w v es X)(hn:es.length=n)(H:∀p' a cap,PLe p p'->v=.slice a n cap->Sl p' a n w es->RL P md f r df k cs Stop ops rest tm (fun h=>St z9 zz p' h (A++C))):
 RL P md f r df k cs Stop ops rest tm (fun h=>St z9 zz p h (A++(X++C))):=by subst hn;exact ypc o H
theorem St.forget{p':Ab}(s:St z9 zz p' h L)(M:PLe p p'):St z9 zz p h L:=
 ⟨s.C3,s.size,fun b o e=>s.per b o (M b o e),fun x H=>⟨(s.own x H).1,(by
  cases e:p x.1 with
  |none=>rfl
  |some o=>have h:=(s.own x H).2.1;rw[M _ _ e]at h;cases h),(s.own x H).2.2⟩,s.nod⟩
theorem St.Qq{b i:Nat}{o:Obj}(s:St z9 zz p h L)(H:L[i]?=some (b,o)):Per (Hf p b o) h:=fun c x hc=>by
 unfold Hf at hc;split at hc
 ·rename_i e;subst e;cases hc;exact s.at H
 ·exact s.per c x hc
theorem St.leO{b i:Nat}{o:Obj}(s:St z9 zz p h L)(H:L[i]?=some (b,o)):PLe p (Hf p b o):=xws (s.own _ (mem_of_get? H)).2.1
end
section
variable{tmF:List Value}{pos:String}
theorem xz1{e:TypeId}{a:Option Addr}{c:Nat}(M:P.underlying T=some (.slice e))(H:evl tm x=.slice a n c):
 Exd P tm ⟨d,.binOp .eql T x (.const (.slice none 0 0)) T',ty,pos,aft,gd⟩ h (.bool a.isNone):=by
 refine xrx H rfl (fun K z=>?_) ?_
 ·unfold eqGuard;rw[if_neg d_];exact xbq z
 ·simp only[evl,binOp,Op.equal,Op.maxDepth];refine xaq ?_;rw[show(10000:Nat)=9999+1 from rfl];unfold Op.equalIn;refine xaq (xcq M ?_);cases a with
  |none=>exact xbq (xbq ⟨rfl,rfl⟩)
  |some a=>exact xbq (xbq ⟨rfl,rfl⟩)
end
section
variable{r:Rd}{k:List Item}{Stop:Goroutine->Heap->Prop}
end
inductive Bd (tm:List Value):Option Operand->Nat->Nat->Prop
 |none (d:Nat):Bd tm none d d
 |some {o:Operand} {k:IntKind} {z:Int} (d:Nat) (h:evl tm o=.int k z) (h0:0<=z):Bd tm (some o) d z.toNat
 |nat {o:Operand} {k:IntKind} {z:Nat} (d:Nat) (h:evl tm o=.int k (z:Nat)):Bd tm (some o) d z
def Cf(a:Option Addr)(c l w:Nat):Option Addr:=if c=l then a else a.map (·.add (l*w))
section
variable{pos:String}
theorem xiz{k:IntKind}{z:Int}{y:Nat}{K:Nat->Heap->Prop}(M:0<=z)(H:z<=(y:Nat))(x:K z.toNat h):wpS P (Instr.sliceBound (.int k z) y code) h K:=by
 unfold Instr.sliceBound;refine xaq (xbq ?_);simp only;rw[if_pos ⟨M,H⟩];exact xbq x
theorem xnv{b:Bool}{c l r:Nat}{lo hi:Option Operand}{K:Nat×Nat×Nat->Heap->Prop}(M:Bd tm lo 0 l)(bh:Bd tm hi n r)(O:l<=r)(V:r<=c)(x:K (l,r,c) h):
 wpS P (Instr.sliceBounds b n c (lo.map (evl tm)) (hi.map (evl tm)) none) h K:=by
 unfold Instr.sliceBounds;refine xaq (xbq ?_);have H:∀(b':Bool),wpS P (match lo.map (evl tm)with|some v=>do {let l <- Instr.sliceBound v r (if b' then .slice3C else .sliceB);pure (l,r,c)} | none=>do {let l <- pure 0;pure (l,r,c)}) h K:=by
  intro b';cases M with
  |none=>exact xaq (xbq (xbq x))
  |some _ e h0=>simp only[Option.map_some,e];exact xaq (xiz h0 om (xbq x))
  |nat _ e=>simp only[Option.map_some,e];exact xaq (xiz (Int.natCast_nonneg _) om (xbq (by simpa using x)))
 cases bh with
 |none=>
   simp only[Option.map_none];refine xaq (xbq ?_);exact H _
 |some _ e h0=>
   simp only[Option.map_some,e];refine xaq (xiz h0 om ?_);exact H _
 |nat _ e=>
   simp only[Option.map_some,e];refine xaq (xiz (Int.natCast_nonneg _) om ?_);rw[Int.toNat_natCast];exact H _
theorem xzk{e:TypeId}{lo hi:Option Operand}{c l r:Nat}{a:Option Addr}(H:P.underlying t=some (.slice e))(hs:Bv P e=some w)(M:evl tm x=.slice a n c)(V:Bd tm lo 0 l)(bh:Bd tm hi n r)
 (O:l<=r)(h2:r<=c):Exd P tm ⟨d,.slice t x lo hi none,ty,pos,aft,gd⟩ h (.slice (Cf a c l w) (r-l) (c-l)):=by
 refine xbj (s:=Instr.sliceAt t (.slice a n c) (lo.map (evl tm)) (hi.map (evl tm)) none) (by simp only[execOp,M,Option.map_none]) ?_;unfold Instr.sliceAt;refine xaq (xcq H ?_);simp only;unfold Instr.slice;refine xaq (xcq H ?_);simp only;refine xaq (xnv V bh O h2 ?_);simp only;refine xaq (xvq hs ?_);exact xbq ⟨rfl,rfl⟩
theorem ykq{lo hi:Option Operand}{l r:Nat}{s:ByteArray}(H:P.underlying t=some .string)(M:evl tm x=.string s)(V:Bd tm lo 0 l)(bh:Bd tm hi s.size r)
 (O:l<=r)(h2:r<=s.size):Exd P tm ⟨d,.slice t x lo hi none,ty,pos,aft,gd⟩ h (.string (s.extract l r)):=by
 refine xbj (s:=Instr.sliceAt t (.string s) (lo.map (evl tm)) (hi.map (evl tm)) none) (by simp only[execOp,M,Option.map_none]) ?_;unfold Instr.sliceAt;refine xaq (xcq H ?_);simp only;unfold Instr.slice;refine xaq (xcq H ?_);simp only[Option.isSome_none,Bool.false_eq_true,if_false];refine xaq (xnv V bh O h2 ?_);exact xbq ⟨rfl,rfl⟩
theorem Sl.part{p:Ab}{a:Option Addr}{n c w l r:Nat}{es:List (List Value)}(s:Sl p a n w es)(hc:n<=c)(H:l<=r)(M:r<=n):Sl p (Cf a c l w) (r-l) w ((es.drop l).take (r-l)):=
 s.cut H M fun O=>by unfold Cf;rw[if_neg om,s.ne om];rfl
end
section
variable{r:Rd}{k:List Item}{Stop:Goroutine->Heap->Prop}{X:Pcs}
theorem Aa.room(o:Aa T w v es X)(hw:0<w){a:Option Addr}{m cap:Nat}(e:v=.slice a m cap):m<=cap:=by
 obtain⟨V,⟨rfl,rfl,rfl⟩|⟨b,cs,M,rest,rfl,rfl,H,hlen,O⟩⟩:=o
 ·cases e;exact Nat.le_refl _
 ·cases e;have h2:=xjq V;have h3:cs.length=es.flatten.length+rest.length:=by rw[H];simp
  have:es.length*w<=cap*w:=om;exact Nat.le_of_mul_le_mul_right this hw
end
theorem xwx:∀{vs:List Value}{e:List Value}{j:Nat},(Ce e j vs).length=e.length
 |[],_,_=>rfl
 |v::vs,e,j=>by simp only[Ce];rw[xwx];simp
theorem xdc{w:Nat}:∀{vs:List Value}{es:List (List Value)}{i j:Nat}{e:List Value},(∀e∈es,e.length=w)->es[i]?=some e->j+vs.length<=e.length->Ce es.flatten (i*w+j) vs=(es.set i (Ce e j vs)).flatten
 |[],es,i,j,e,_,hi,_=>by
   have:es.set i e=es:=by
    refine List.ext_getElem? fun m=>?_;rw[List.getElem?_set];split
    ·rename_i h;subst h;rw[if_pos (List.getElem?_eq_some_iff.1 hi).1,hi]
    ·rfl
   simp only[Ce];rw[this]
 |v::vs,es,i,j,e,h,hi,hj=>by
   have H:=(List.getElem?_eq_some_iff.1 hi).1;have he:e.length=w:=h e (List.mem_of_getElem? hi);simp only[List.length_cons]at hj;simp only[Ce];rw[xqn h hi om];have M:∀z∈es.set i (e.set j v),z.length=w:=fun z O=>by
    rcases List.mem_or_eq_of_mem_set O with q|q
    ·exact h z q
    ·subst q;simpa using he
   have:=xdc (vs:=vs) (es:=es.set i (e.set j v)) (i:=i) (j:=j+1) (e:=e.set j v) M (by rw[List.getElem?_set,if_pos rfl,if_pos H]) (by simp;omega);rw[Nat.add_assoc,this,List.set_set]
section
variable{r:Rd}{k:List Item}{Stop:Goroutine->Heap->Prop}{X:Pcs}{pos:String}
theorem xc4{e:TypeId}{i:Int}(o:Aa T w v es X)(V:P.underlying t=some (.slice e))(hs:Bv P e=some w)(H:evl tm x=v)(M:evl tm y=.J i)(O:0<=i)(hi:i.toNat<es.length):
 Exd P tm ⟨d,.indexAddr t x y,ty,pos,aft,gd⟩ h (.pointer (some ((E4 v).add (i.toNat*w)))):=
 xuc (i:=i.toNat) o V hs H (by rw[M,Int.toNat_of_nonneg O]) hi
theorem xg9{e:List Value}{a:Addr}(o:Aa T w v es X)(hm:Met ops tm ⟨none,.store T' x y,ty,pos,aft,gd⟩ true)(hs:Bv P T'=some nsz)(hx:evl tm x=.pointer (some a))(ha:((E4 v).add (i*w)).add j=a)
 (hy:evl tm y=u)(O:u.cells=vs.toArray)(hn:vs.length=nsz)(h1:vs.all Bj=true)(hi:es[i]?=some e)(hj:j+vs.length<=e.length)
 (n:∀X',Aa T w v (es.set i (Ce e j vs)) X'->RL P md f r df k cs Stop ops rest tm (fun h=>St z9 zz p h (A++(X'++C)))):
 RL P md f r df k cs Stop ops (⟨none,.store T' x y,ty,pos,aft,gd⟩::rest) tm (fun h=>St z9 zz p h (A++(X++C))):=by
 have H:=(List.getElem?_eq_some_iff.1 hi).1;obtain⟨b,cs',cap,rs,e1,e2,e3,e4,ec⟩:=o.has H;have he:e.length=w:=o.1 e (List.mem_of_getElem? hi);have a2:es.flatten.length=es.length*w:=xjq o.1;have M:(i+1)*w<=es.length*w:=Nat.mul_le_mul_right _ H;rw[Nat.add_mul,Nat.one_mul]at M;subst e1;subst e2;subst ha;have e5:Ce cs' (i*w+j) vs=(es.set i (Ce e j vs)).flatten++rs:=by
  rw[e3,<- xdc o.1 hi hj];have:∀(vs l:List Value)(m:Nat),m+vs.length<=l.length->Ce (l++rs) m vs=Ce l m vs++rs:=by
   intro vs
   induction vs with
   |nil=>intro l m _;rfl
   |cons v vs ih=>
     intro l m hl;simp only[List.length_cons]at hl;simp only[Ce];rw[List.set_append_left _ _ om,ih _ _ (by simp;omega)]
  exact this vs _ _ om
 have o':Aa T w (.slice (some ⟨b,0,none⟩) es.length cap) (es.set i (Ce e j vs)) [(b,.cells (Ce cs' (i*w+j) vs).toArray T (0,0))]:=by
  refine⟨fun z hz=>?_,.inr ⟨b,Ce cs' (i*w+j) vs,cap,rs,s_,rfl,e5,by rw[xwx];exact e4,ec⟩⟩;rcases List.mem_or_eq_of_mem_set hz with h|h
  ·exact o.1 z h
  ·subst h;rw[xwx];exact he
 have V:evl tm x=.pointer (some ⟨b,i*w+j,none⟩):=by
  rw[hx];simp only[E4];rw[xox,xox,Nat.zero_add]
 refine xy5 (i:=A.length) (b:=b) (off:=i*w+j) (cs':=cs') (T':=T) hm hs V hy (by rw[List.getElem?_append_right (Nat.le_refl _)];simp) (by rw[O];simpa using hn) (by rw[O];exact h1) (by rw[O,e3,List.length_append];simp only[List.size_toArray];omega) (by rw[O]) ?_;have e6:(A++([(b,Obj.cells (List.toArray cs') T (0,0))]++C)).set A.length (b,.cells (Ce cs' (i*w+j) vs).toArray T (0,0))=A++([(b,.cells (Ce cs' (i*w+j) vs).toArray T (0,0))]++C):=by
  rw[List.set_append_right _ _ (Nat.le_refl _)];simp
 rw[e6];exact n _ o'
end
class Cd(P:Program)(t:TypeId)(b:outParam Bool):Prop where h:Gs P t=some b
class Ak(P:Program)(t:TypeId)(n:outParam Nat):Prop where h:Bv P t=some n
class Bg(P:Program)(t:TypeId)(v:outParam Value):Prop where h:Ep P t=some v
class ByC(P:Program)(t:TypeId)(n:outParam Nat):Prop where h:D5 P t=some n
class Ca(P:Program)(t:TypeId)(e:outParam TypeId):Prop where h:P.underlying t=some (.slice e)
class PlC(P:Program)(t:TypeId)(l:outParam (List (Nat×Nat))):Prop where h:Kz P t=some l
class B4(P:Program)(s:TypeId)(i:Nat)(o n:outParam Nat):Prop where h:Ml P s i=some (o,n+1)
class FiC(P:Program)(t:TypeId)(i:Nat)(o:outParam Nat):Prop where h:∃fs fd,P.underlying t=some (.struct fs)/\fs[i]?=some fd/\fd.offset=o/\Gs P fd.type=some false
theorem xjg{d:α}{xs ys:List α}(H:xs.length=ys.length)(M:∀i,i<xs.length->xs.getD i d=ys.getD i d):xs=ys:=by
 refine List.ext_getElem H fun i a b=>?_;have:=M i a;rw[List.getD_eq_getElem?_getD,List.getD_eq_getElem?_getD,List.getElem?_eq_getElem a,List.getElem?_eq_getElem b]at this;exact this
def bs(l:List UInt8):ByteArray:=⟨l.toArray⟩
theorem xdw(l:List UInt8):(bs l).size=l.length:=by simp[bs,ByteArray.size]
theorem yx2(s:ByteArray):bs s.data.toList=s:=by cases s;simp[bs]
theorem yy2(l:List UInt8)(i:Nat):(bs l)[i]?=l[i]?:=by
 by_cases h:i<l.length
 ·rw[getElem?_pos (bs l) i (by rw[xdw];exact h),List.getElem?_eq_getElem h];rfl
 ·rw[getElem?_neg (bs l) i (by rw[xdw];exact h),List.getElem?_eq_none om]
theorem yrw(l m:List UInt8):bs l++bs m=bs (l++m):=by
 apply ByteArray.ext;simp[bs]
theorem xmh(l:List UInt8)(a b:Nat):(bs l).extract a b=bs ((l.drop a).take (b-a)):=by
 apply ByteArray.ext;rw[ByteArray.data_extract];apply Array.ext';simp[bs]
theorem yjl(l m:List UInt8):((bs l).toList==(bs m).toList)=decide (l=m):=by
 rw[<- beq_toListBytes];have e:(bs l==bs m)=(l.toArray==m.toArray):=rfl;rw[e,Bool.eq_iff_iff];simp
def sv(l:List UInt8):Value:=.string (bs l)
section
variable{pos:String}{m:List UInt8}
theorem ytf(H:P.underlying t=some .string)(M:evl tm x=sv l):Exd P tm ⟨d,.call ⟨.builtin .len,#[x],#[t]⟩,ty,pos,aft,gd⟩ h (.J (l.length:Nat)):=by
 have:=ysf (P:=P) (tm:=tm) (d:=d) (ty:=ty) (pos:=pos) (aft:=aft) (gd:=gd) (h:=h) H M;rwa[xdw]at this
theorem xot{lo hi:Option Operand}{a r:Nat}(ht:P.underlying t=some .string)(H:evl tm x=sv l)(O:Bd tm lo 0 a)(bh:Bd tm hi l.length r)(M:a<=r)(V:r<=l.length):
 Exd P tm ⟨d,.slice t x lo hi none,ty,pos,aft,gd⟩ h (sv ((l.drop a).take (r-a))):=by
 have:=ykq (P:=P) (tm:=tm) (d:=d) (ty:=ty) (pos:=pos) (aft:=aft) (gd:=gd) (h:=h) ht H O (by rw[xdw];exact bh) M (by rw[xdw];exact V);rwa[xmh]at this
theorem yoq{k:IntKind}{i:Int}(O:P.underlying t=some .string)(H:evl tm x=sv l)(M:evl tm y=.int k i)(V:0<=i)(h1:i<l.length):
 Exd P tm ⟨d,.index t x y,ty,pos,aft,gd⟩ h (.int .u8 ((l.getD i.toNat 0).toNat:Nat)):=by
 refine xbj (s:=Instr.index t (sv l) (.int k i)) (by simp only[execOp,H,M]) ?_;unfold Instr.index;refine xaq (xbq ?_);simp only;refine xaq (xcq O ?_);simp only[sv];have e:(bs l)[i.toNat]?=some (l.getD i.toNat 0):=by
  rw[yy2,List.getD_eq_getElem?_getD,List.getElem?_eq_getElem om];rfl
 rw[if_pos V,e];exact xbq ⟨rfl,rfl⟩
theorem yag(H:evl tm x=sv l)(M:evl tm y=sv m)(O:l.length+m.length<=9223372036854775807):Exd P tm ⟨d,.binOp .add T x y T',ty,pos,aft,gd⟩ h (sv (l++m)):=by
 refine xrx H M (fun K z=>xdx rfl z) ?_;simp only[sv,binOp,Op.stringOp,xdw];rw[if_neg (by
  have:(IntKind.i64.max:Int)=9223372036854775807:=by decide
  rw[this];omega),yrw]
 exact xbq ⟨rfl,rfl⟩
theorem xi5{a b:ByteArray}{K:Unit->Heap->Prop}(z:K () h):wpS P (eqGuard op T x y (.string a) (.string b)) h K:=by
 unfold eqGuard;cases op<;>first|(rw[if_pos (by rfl)];exact xbq z)|(rw[if_neg d_];exact xbq z)
theorem ywf(M:evl tm x=sv l)(H:evl tm y=sv m):Exd P tm ⟨d,.binOp .eql T x y T',ty,pos,aft,gd⟩ h (.bool (decide (l=m))):=by
 refine xrx M H (fun K z=>xi5 z) ?_;simp only[sv,binOp,Op.stringOp,yjl];exact xbq ⟨rfl,rfl⟩
theorem ymf(M:evl tm x=sv l)(H:evl tm y=sv m):Exd P tm ⟨d,.binOp .neq T x y T',ty,pos,aft,gd⟩ h (.bool (!decide (l=m))):=by
 refine xrx M H (fun K z=>xi5 z) ?_;simp only[sv,binOp,Op.stringOp,yjl];exact xbq ⟨rfl,rfl⟩
theorem xx7{k:IntKind}{a n:Int}(hs:∃t,P.underlying src=some t)(H:P.underlying dst=some (.int k'))(M:evl tm x=.int k a)(hn:k'.wrap a=n):Exd P tm ⟨d,.convert src dst x,ty,pos,aft,gd⟩ h (.int k' n):=by
 obtain⟨t,hs⟩:=hs;refine xbj (s:=convert src dst (.int k a)) (by simp only[execOp,M]) ?_;unfold convert;refine xaq (xcq hs ?_);refine xaq (xcq H ?_);simp only[Conv.intToInt];exact xbq ⟨by rw[hn],rfl⟩
theorem yfp{k:IntKind}{a b n:Int}(H:evl tm x=.int k a)(M:evl tm y=.int k b)(O:b≠0)(hn:k.wrap (a.tdiv b)=n):Exd P tm ⟨d,.binOp .quo T x y T',ty,pos,aft,gd⟩ h (.int k n):=by
 refine xrx H M (fun K z=>xjk z) ?_;simp only[binOp,ne_eq,not_true,if_false,Op.intDiv,O];exact xbq ⟨by rw[hn],rfl⟩
theorem yep{k:IntKind}{a b n:Int}(H:evl tm x=.int k a)(M:evl tm y=.int k b)(O:b≠0)(hn:a.tmod b=n):Exd P tm ⟨d,.binOp .rem T x y T',ty,pos,aft,gd⟩ h (.int k n):=by
 refine xrx H M (fun K z=>xjk z) ?_;simp only[binOp,ne_eq,not_true,if_false,Op.intDiv,O];exact xbq ⟨by rw[hn],rfl⟩
theorem ylv{hi:Operand}{r:Nat}(O:P.underlying t=some .string)(H:evl tm x=sv l)(bh:Bd tm (some hi) l.length r)(M:r<=l.length):Exd P tm ⟨d,.slice t x none (some hi) none,ty,pos,aft,gd⟩ h (sv (l.take r)):=by
 have:=xot (P:=P) (tm:=tm) (d:=d) (ty:=ty) (pos:=pos) (aft:=aft) (gd:=gd) (h:=h) O H (.none 0) bh (Nat.zero_le _) M;simpa using this
theorem ytv{lo:Operand}{a:Nat}(V:P.underlying t=some .string)(H:evl tm x=sv l)(M:Bd tm (some lo) 0 a)(O:a<=l.length):Exd P tm ⟨d,.slice t x (some lo) none none,ty,pos,aft,gd⟩ h (sv (l.drop a)):=by
 have:=xot (P:=P) (tm:=tm) (d:=d) (ty:=ty) (pos:=pos) (aft:=aft) (gd:=gd) (h:=h) V H M (.none l.length) O (Nat.le_refl _);rwa[List.take_of_length_le s_]at this
theorem ypr(b:UInt8):b.toNat<=255:=by have:b.toNat<256:=b.toNat_lt;omega
theorem wrB{b:UInt8}:IntKind.i64.wrap ((b.toNat:Nat):Int)=((b.toNat:Nat):Int):=wrZ (by have:=ypr b;omega)
theorem wr8{n:Int}(h:0<=n/\n<=255):IntKind.u8.wrap n=n:=by
 simp only[IntKind.wrap,IntKind.bits,IntKind.signed];simp;omega
end
theorem wrU{n:Int}(h:0<=n/\n<=18446744073709551615):IntKind.u64.wrap n=n:=by
 show(n%((2:Int)^64))=n;exact Int.emod_eq_of_lt h.1 om
def E1(rs:List Nat):List Deferred:=rs.map mark
def Dg(rs:List Nat):Pcs:=rs.map fun r=>(r,.deferred (some []))
section
variable{r:Rd}{k:List Item}{Stop:Goroutine->Heap->Prop}[Stb Φ]{L X M:Pcs}
theorem ycf{c:Code}(I:Nat->List Nat->List Value->Heap->Prop)(start:∀h,Φ h->I m₀ rs₀ tm h)[∀m rs tm,Stb (I m rs tm)]
 (O:∀m rs tm,(∀m' M tm',m'<m->RS P md (G (FL f r tm' (E1 M) (.inLoop c::k)) cs) (I m' M tm') Stop)->RS P md (G (FL f r tm (E1 rs) (.code c::.inLoop c::k)) cs) (I m rs tm) Stop):
 RS P md (G (FL f r tm (E1 rs₀) (.code (.loop c)::k)) cs) Φ Stop:=by
 refine xf3 ?_
 suffices H:∀m rs tm,RS P md (G (FL f r tm (E1 rs) (.code c::.inLoop c::k)) cs) (I m rs tm) Stop from fun h y=>H _ _ _ h (start h y)
 intro m
 induction m using Nat.strongRecOn with
 |_ m ih=>exact fun rs tm=>O m rs tm fun m' M tm' V=>xwm (ih m' V M tm')
theorem xs5{zq:Frame}{td:List Item}{df:List Deferred}:∀{rs:List Nat}{L:Pcs},RS P md (G (FR (B f r) tm.toArray df td) (zq::cs)) (fun h=>St z9 zz p h L) Stop->
 RS P md (G (FR (B f r) tm.toArray (E1 rs++df) td) (zq::cs)) (fun h=>St z9 zz p h (Dg rs++L)) Stop
 |[],_,x=>x
 |_::rs,_,x=>xvh (fun _ s=>s.at (i:=0) rfl) fun _ s=>xs5 (rs:=rs) x _ (s.setObj (i:=0) rfl).drop
theorem ybf{rs:List Nat}(hf:P.funcs[f]?=some fn)(H:fn.results=rv.toArray)
 (e:∀h,St z9 zz p h L->Res P h tm rv vs)(hv:F9 vs=v)
 (x:RS P md (G (zq.finish v) cs) (fun h=>St z9 zz p h L) Stop):RS P md (G (FL f .none tm (E1 rs) (.code .ret::k)) (zq::cs)) (fun h=>St z9 zz p h (Dg rs++L)) Stop:=
 yjz (hro:=rfl) fun td=>by
  have:=xs5 (P:=P) (md:=md) (f:=f) (r:=.none) (cs:=cs) (Stop:=Stop) (tm:=tm) (zq:=zq) (td:=td) (df:=[]) (rs:=rs) (L:=L) (z9:=z9) (zz:=zz) (p:=p)
   (xvm (Φ:=fun h=>St z9 zz p h L) hf rfl fun h y=>xhd H (e h y) hv (x h y))
  rw[List.append_nil]at this;exact this
end
section
variable{pos:String}
theorem yfb(n:Int):IntKind.u64.wrap n=n%18446744073709551616:=rfl
theorem xy7{a:Nat}(H:evl tm x=.int .u64 ((a:Nat):Int))(O:evl tm y=.int .u64 ((b:Nat):Int))(V:a<18446744073709551616)(M:b<18446744073709551616):
 Exd P tm ⟨d,.binOp .and T x y T',ty,pos,aft,gd⟩ h (.int .u64 ((a &&& b:Nat):Int)):=
 xrx H O (fun K z=>xdx rfl z) (by
  simp only[binOp,ne_eq,not_true_eq_false,if_false,Op.intBits];refine xbq ⟨?_,rfl⟩;have e:((BitVec.ofInt IntKind.u64.bits ((a:Nat):Int)) &&& (BitVec.ofInt IntKind.u64.bits ((b:Nat):Int))).toNat=a &&& b:=by
   rw[BitVec.toNat_and,BitVec.ofInt_natCast,BitVec.ofInt_natCast,BitVec.toNat_ofNat,BitVec.toNat_ofNat,Nat.mod_eq_of_lt (show a<2^IntKind.u64.bits from V),Nat.mod_eq_of_lt (show b<2^IntKind.u64.bits from M)]
  rw[e,wrU ⟨om,by have:=Nat.and_le_left (n:=a) (m:=b);omega⟩])
theorem xv7{k:IntKind}{a s:Nat}(H:evl tm x=.int k ((a:Nat):Int))(M:evl tm y=.int k' ((s:Nat):Int))(hs:s<=k.bits):
 Exd P tm ⟨d,.binOp .shr T x y T',ty,pos,aft,gd⟩ h (.int k ((a / 2^s:Nat):Int)):=
 xrx H M (fun K z=>xdx rfl z) (by
  simp only[binOp,Op.shift];rw[if_neg om];refine xbq ⟨?_,rfl⟩;rw[Int.toNat_natCast,Nat.min_eq_left hs,Int.fdiv_eq_ediv_of_nonneg _ (by exact Int.pow_nonneg d_)];simp)
theorem ykf{s:Nat}(H:evl tm x=.int .u64 1)(M:evl tm y=.int k' ((s:Nat):Int))(hs:s<=63):
 Exd P tm ⟨d,.binOp .shl T x y T',ty,pos,aft,gd⟩ h (.int .u64 ((2^s:Nat):Int)):=
 xrx H M (fun K z=>xdx rfl z) (by
  simp only[binOp,Op.shift];rw[if_neg om];refine xbq ⟨?_,rfl⟩;have h1:2^s<=2^63:=Nat.pow_le_pow_right d_ hs;have O:s<=IntKind.u64.bits:=by show s<=64;omega
  rw[Int.toNat_natCast,Nat.min_eq_left O,wrU (by
   have e:(1:Int)*2^s=((2^s:Nat):Int):=by simp
   have V:(2:Nat)^63=9223372036854775808:=by decide
   rw[e];exact⟨Int.natCast_nonneg _,Int.ofNat_le.2 (show 2^s<=18446744073709551615 from by omega)⟩)]
  simp)
theorem yqf{a:Nat}(M:evl tm x=.int .u64 ((a:Nat):Int))(H:evl tm y=.int .u64 ((b:Nat):Int)):
 Exd P tm ⟨d,.binOp .mul T x y T',ty,pos,aft,gd⟩ h (.int .u64 ((a*b%18446744073709551616:Nat):Int)):=ynv M H (by rw[yfb];simp)
theorem ynf{a:Nat}(H:evl tm x=.int .u64 ((a:Nat):Int))(O:0<a)(M:a<18446744073709551616):Exd P tm ⟨d,.unOp .neg T x,ty,pos,aft,gd⟩ h (.int .u64 ((18446744073709551616-a:Nat):Int)):=
 xb4 H (by rw[yfb];omega)
theorem xfl{e:TypeId}{len:Nat}{k:IntKind}{a:Addr}(H:P.underlying t=some (.array len e))(hs:Bv P e=some w)(M:evl tm x=.pointer (some a))(O:evl tm y=.int k ((i:Nat):Int))(V:i<len):
 Exd P tm ⟨d,.indexAddr t x y,ty,pos,aft,gd⟩ h (.pointer (some (a.add (i*w)))):=by
 refine xbj (s:=Instr.indexAt t (.pointer (some a)) (.int k ((i:Nat):Int))) (by simp only[execOp,M,O]) ?_;unfold Instr.indexAt;refine xaq (xbq ?_);simp only;refine xaq (xcq H ?_);simp only[Instr.sureAddr];refine xaq ?_;refine xaq (xbq ?_);simp only;refine xaq (xcq H ?_);simp only;rw[if_pos ⟨om,om⟩];refine xaq (xvq hs ?_);exact xbq ⟨by rw[Int.toNat_natCast],rfl⟩
end
def Qr(anc:Nat->List Nat)(Q:Nat->(Nat->Value)->(Nat->Pcs)->Value->Pcs->Prop)(val:Nat->Value)(piece:Nat->Pcs)(i:Nat):Value->Pcs->Prop:=
 Q i (fun j=>if(anc i).contains j=true then val j else undef) (fun j=>if(anc i).contains j=true then piece j else [])
theorem yah{val val':Nat->Value}{piece':Nat->Pcs}(h:∀y,(anc i).contains y=true->val y=val' y/\piece y=piece' y):
 Qr anc Q val piece i=Qr anc Q val' piece' i:=by
 unfold Qr;have M:(fun j=>if(anc i).contains j=true then val j else undef)=(fun j=>if(anc i).contains j=true then val' j else undef):=by
  funext j;split
  ·rename_i H;exact(h j H).1
  ·rfl
 have O:(fun j=>if(anc i).contains j=true then piece j else [])=(fun j=>if(anc i).contains j=true then piece' j else []):=by
  funext j;split
  ·rename_i H;exact(h j H).2
  ·rfl
 rw[M,O]
def Ke(ops:List Oper)(m:Nat)(cl:List (List Nat))(anc:Nat->List Nat):Bool:=
 ops.zipIdx.all fun(o,i)=>!decide (i<m)||(anc i).all fun j=>behind cl o j
theorem xp8{m:Nat}(h:Ke ops m cl anc=true)(hi:i<m)(H:ops[i]?=some o)(M:(anc i).contains j=true):behind cl o j=true:=by
 unfold Ke at h;rw[List.all_eq_true]at h;have:=h (o,i) (by rw[List.mem_zipIdx_iff_getElem?];exact H);simp only[hi,decide_true,Bool.not_true,Bool.false_or,List.all_eq_true]at this;exact this j (by simpa using M)
theorem yuw{m:Nat}(hs:Bo ops m cl=true)(H:ops[i]?=some o)(h:behind cl o j=true):j<i:=by
 rcases(xnh).1 h with h|⟨k,hk,h⟩
 ·exact(xwq hs H).1 j h
 ·have O:=(xwq hs H).1 k hk;obtain⟨V,M⟩:∃V,ops[k]?=some V:=⟨_,List.getElem?_eq_getElem (Nat.lt_trans O (List.getElem?_eq_some_iff.1 H).1)⟩
  exact Nat.lt_trans (xl0 hs M h).1 O
def Nq(P:Program)(md:Md)(ops:List Oper)(tmF:(Nat->Value)->List Value)(z9:Heap)(zz:List Nat)(p:Ab)(A:Pcs)(ini:List Nat)(X:Nat->Pcs)(use:Nat->List Nat)(anc:Nat->List Nat)(Q:Nat->(Nat->Value)->(Nat->Pcs)->Value->Pcs->Prop)(i:Nat)(o:Oper):Prop:=
 ∀val piece,(∀j,(anc i).contains j=true->Qr anc Q val piece j (val j) (piece j))->(∀j∈ini,piece j=X j)->
  (Met ops (tmF val) o true/\ ∀C h,St z9 zz p h ((use i).flatMap piece++(A++C))->
   Exv P (tmF val) o h (fun v h'=>∃x,Qr anc Q val piece i v x/\St z9 zz p h' (x++(A++C)))\/
   (∃g args,(wpS P (execOp (evl (tmF val)) o) h fun n h'=>n=.enter g args/\h'=h)/\Ac P md g args h (fun v h'=>∃x,Qr anc Q val piece i v x/\St z9 zz p h' (x++(A++C))))\/
   ∀(c:Frame)(cs:List Frame)(Stop:Goroutine->Heap->Prop),(∀v h',(∃x,Qr anc Q val piece i v x/\St z9 zz p h' (x++(A++C)))->Reach P md (G (c.finish v) cs) h' Stop)->wpS P (execOp (evl (tmF val)) o) h (Ou P md c cs Stop))\/
  (Met ops (tmF val) o false/\(use i).flatMap piece=[]/\Qr anc Q val piece i undef [])
section
variable{m:Nat}{r:Rd}{k:List Item}{Stop:Goroutine->Heap->Prop}{X:Nat->Pcs}
theorem xrn{rid:Nat}(m:Nat)(cl:List (List Nat))(ini fin c9:List Nat)(X:Nat->Pcs)(use:Nat->List Nat)(anc:Nat->List Nat)(Q:Nat->(Nat->Value)->(Nat->Pcs)->Value->Pcs->Prop)(tmF:(Nat->Value)->List Value)
 (f1:P.follows .mixedOrders=true)(b6:Bo ops m cl=true)(hm:m<=ops.length)(hk:H2 ops m ini use (fin++c9)=true)(d7:c9.all (fun j=>decide (j<m))=true)(d9:Ke ops m cl anc=true)(e6:∀val piece,Emp (Qr anc Q val piece) c9)(d5:∀val,E9 ops val m tm=tmF val)
 (f8:(ops.all fun o=>match o.dst with|some d=>decide (d<tm.length)|none=>true)=true)
 (st:Ky (Nq P md ops tmF z9 zz p A ini X use anc Q) 0 (ops.take m))
 (n:∀val piece,(∀j<m,Qr anc Q val piece j (val j) (piece j))->(∀j∈ini,piece j=X j)->RL P md f r df k cs Stop ops (ops.drop m) (tmF val) (fun h=>St z9 zz p h (fin.flatMap piece++(A++C)))):
 RS P md (G (FL f r tm df (.code (.region rid ops.toArray true)::k)) cs) (fun h=>St z9 zz p h (ini.flatMap X++(A++C))) Stop:=by
 refine xls fun t=>?_;unfold Region.schedule;rw[f1];simp only[Bool.true_or,if_true];obtain⟨s,e,a9⟩:=xdn b6 hm t;rw[e];obtain⟨k1,k2,k3,k4,k5,k6⟩:=ynd hk;have f2:∀{i:Nat}{o:Oper},i<m->ops[i]?=some o->Bq o.op=true/\Nq P md ops tmF z9 zz p A ini X use anc Q i o:=fun{i o}hi ho=>by
  have:=Ky.at (i:=i) st (by rw[List.getElem?_take,if_pos hi];exact ho);rw[Nat.zero_add]at this;exact this
 have b5:∀(i j:Nat)(o o':Oper)(d:Nat),i<m->j<m->ops[i]?=some o->ops[j]?=some o'->o.dst=some d->o'.dst=some d->i=j:=fun i j o o' d hi V ho H M b3=>
  (((xwq b6 ho).2.2 hi).2 j o' d V H b3).1.resolve_right fun a8=>a8 M
 have c5:∀{i:Nat}{o:Oper}{d:Nat},ops[i]?=some o->o.dst=some d->d<tm.length:=fun{i o d}ho M=>by
  have:=List.all_eq_true.1 f8 o (List.mem_of_getElem? ho);simpa[M]using this
 have main:∀(s:List Nat)(l:Array Bool)(a3:List Value)(val:Nat->Value)(piece:Nat->Pcs)(ls:List Nat),Ord ops m l s->l.size=ops.length->a3.length=tm.length->
  (∀x,(∃(j:Nat)(o:Oper),j<m/\l.getD j false=true/\ops[j]?=some o/\o.dst=some x)->a3[x]?=(tmF val)[x]?)->
  (∀x,(∀(j:Nat)(o:Oper),j<m->l.getD j false=true->ops[j]?=some o->o.dst≠some x)->a3[x]?=tm[x]?)->
  (∀j<m,l.getD j false=true->Qr anc Q val piece j (val j) (piece j))->(∀j∈ini,piece j=X j)->ls.Nodup->
  (∀x,x∈ls<->(x∈ini\/(x<m/\l.getD x false=true))/\ ∀k<m,l.getD k false=true->x∉use k)->
  (∀k<m,l.getD k false=true-> ∀x∈use k,x∈ini\/(x<m/\l.getD x false=true))->
  (∀(k:Nat)(o:Oper),l.getD k false=true->ops[k]?=some o-> ∀x∈Bm o,l.getD x false=true)->
  RS P md (G (FL f r a3 df (.inRegion ops.toArray (s++List.range' m (ops.length-m))::k)) cs) (fun h=>St z9 zz p h (ls.flatMap piece++(A++C))) Stop:=by
  intro s
  induction s with
  |nil=>
    intro l a3 val piece ls a9 _ hl h1 h2 hQ hX c4 c1 _ _;cases a9 with
    |nil hall=>
    have:a3=tmF val:=by
     refine List.ext_getElem? fun x=>?_;by_cases hx:∃(j:Nat)(o:Oper),j<m/\ops[j]?=some o/\o.dst=some x
     ·obtain⟨j,o,V,ho,M⟩:=hx;exact h1 x ⟨j,o,V,hall j V,ho,M⟩
     ·rw[h2 x fun j o V _ ho M=>hx ⟨j,o,V,ho,M⟩,<- d5,xgg];exact fun j o V ho M=>hx ⟨j,o,V,ho,M⟩
    subst this;rw[List.nil_append];have hp:ls.Perm (fin++c9):=by
     refine(List.perm_ext_iff_of_nodup c4 k3).2 fun x=>?_;rw[c1];constructor
     ·rintro⟨hx,hu⟩;rcases k6 x (hx.elim .inr fun y=>.inl y.1)with y|⟨k,hk,y⟩
      ·exact y
      ·exact absurd y (hu k hk (hall k hk))
     ·intro hx;obtain⟨y,z⟩:=k5 x hx;exact⟨y.imp id fun y=>⟨y,hall x y⟩,fun k hk _=>z k hk⟩
    have:=n val piece (fun j V=>hQ j V (hall j V)) hX (ops.take m) (List.take_append_drop m ops).symm;rw[List.length_take,Nat.min_eq_left hm,List.length_drop]at this;have he:c9.flatMap piece=[]:=(e6 val piece).flat fun j V=>hQ j (by simpa using List.all_eq_true.1 d7 j V) (hall j (by simpa using List.all_eq_true.1 d7 j V));exact fun h y=>this h (y.perm (by
     have:=(hp.flatMap_right piece).append_right (A++C);rwa[List.flatMap_append,he,List.append_nil]at this))
  |cons i s ih=>
    intro l a3 val piece ls a9 f0 hl h1 h2 hQ hX c4 c1 f4 e5;cases a9 with
    |@cons _ _ _ o hi ho hn hp hs=>
    have g0:=(List.getElem?_eq_some_iff.1 ho).1;have d6:l.getD i false=false:=by rw[<- xcc om];exact hn
    have b7:=((xwq b6 ho).2.2 hi)
    have e8:∀x∈looks ops o,a3[x]?=(tmF val)[x]?:=by
     intro x hx;by_cases hw:∃(j:Nat)(o':Oper),j<m/\ops[j]?=some o'/\o'.dst=some x
     ·obtain⟨j,o',V,H,M⟩:=hw;have f5:=(b7.2 j o' x V H M).2 hx;exact h1 x ⟨j,o',V,hp j f5,H,M⟩
     ·rw[h2 x fun j o' V _ H M=>hw ⟨j,o',V,H,M⟩,<- d5,xgg];exact fun j o V ho M=>hw ⟨j,o,V,ho,M⟩
    have O:∀j,i≠j->(l.setIfInBounds i true).getD j false=l.getD j false:=fun j e=>getD_set_ne false e;have a2:(l.setIfInBounds i true).getD i false=true:=by simp[Array.getD,f0,g0]
    obtain⟨u1,u2⟩:=k4 i o hi ho;have d0:∀x∈use i,x∈ls:=fun x hx=>by
     rw[c1];obtain⟨a,b⟩:=u2 x hx;refine⟨a.imp id fun a=>⟨a.1,hp x a.2⟩,fun k hk M f7=>?_⟩;by_cases e:k=i
     ·subst e;rw[d6]at M;cases M
     ·exact b k hk e f7
    obtain⟨rest,a6⟩:=xi6 u1 d0;have c3:=a6.nodup_iff.1 c4;have a7:∀x,x∈rest<->x∈ls/\x∉use i:=fun x=>by
     rw[a6.mem_iff,List.mem_append];constructor
     ·intro hx;exact⟨.inr hx,fun hu=>(List.nodup_append.1 c3).2.2 x hu x hx rfl⟩
     ·rintro⟨a|a,b⟩
      ·exact absurd a b
      ·exact a
    have a5:i∉ini:=fun e=>by have:=k2 i e;omega
    have e1:i∉ls:=fun e=>by
     have:=((c1 i).1 e).1;rcases this with a|a
     ·exact a5 a
     ·rw[d6]at a;cases a.2
    have d8:∀(j:Nat)(oj:Oper),j<m->ops[j]?=some oj->(j=i\/l.getD j false=true)-> ∀y,(anc j).contains y=true->l.getD y false=true:=fun j oj V b4 c7 y hy=>by
     have hb:=xp8 d9 V b4 hy;refine xjv b6 f0 e5 j oj y (fun x hx=>⟨(xwq b6 b4).1 x hx,?_⟩) hb;rcases c7 with rfl|c7
     ·rw[ho]at b4;cases b4;exact hp x hx
     ·exact e5 j oj c7 b4 x hx
    have next:∀v x,Qr anc Q val piece i v x->RS P md (G (FL f r (Cz a3 o.dst v) df (.inRegion ops.toArray (s++List.range' m (ops.length-m))::k)) cs) (fun h=>St z9 zz p h (x++(A++(rest.flatMap piece++C)))) Stop:=by
     intro v x hq;have hv:∀j,i≠j->(fun j=>if j=i then v else val j) j=val j:=fun j e=>if_neg fun e'=>e e'.symm;have f3:∀j,i≠j->(fun j=>if j=i then x else piece j) j=piece j:=fun j e=>if_neg fun e'=>e e'.symm
     have:=ih (l.setIfInBounds i true) (Cz a3 o.dst v) (fun j=>if j=i then v else val j) (fun j=>if j=i then x else piece j) (i::rest) hs (by simpa using f0) (by rw[xkj];exact hl)
      (fun y hy=>by
       obtain⟨j,o',V,a4,H,M⟩:=hy;rw[<- d5,xam V H M (fun j' e4 e9 c6 b3=>b5 j' j e4 o' y e9 V c6 H b3 M) (c5 H M)];by_cases e:i=j
       ·subst e;rw[ho]at H;cases H;rw[M];simp only[Cz,if_true];rw[List.getElem?_set_self (by rw[hl];exact c5 ho M)]
       ·have a8:o.dst≠some y:=fun b3=>e (b5 i j o o' y hi V ho H b3 M);rw[O j e]at a4;rw[xxz a8,h1 y ⟨j,o',V,a4,H,M⟩,<- d5,xam V H M (fun j' e4 e9 c6 b3=>b5 j' j e4 o' y e9 V c6 H b3 M) (c5 H M)];rw[if_neg fun e'=>e e'.symm])
      (fun y hy=>by
       have a8:o.dst≠some y:=hy i o hi a2 ho;rw[xxz a8];refine h2 y fun j o' V a4 H=>hy j o' V ?_ H;by_cases e:i=j
       ·subst e;exact a2
       ·rw[O j e];exact a4)
      (fun j V a4=>by
       obtain⟨oj,b4⟩:∃oj,ops[j]?=some oj:=⟨_,List.getElem?_eq_getElem (Nat.lt_of_lt_of_le V hm)⟩
       have c7:j=i\/l.getD j false=true:=by
        by_cases e:i=j
        ·exact .inl e.symm
        ·rw[O j e]at a4;exact .inr a4
       have a8:∀y,(anc j).contains y=true->i≠y:=fun y hy e=>by
        have:=d8 j oj V b4 c7 y hy;subst e;rw[d6]at this;cases this
       have hr:=yah (Q:=Q) (anc:=anc) (i:=j) (val:=val) (piece:=piece) (val':=fun j=>if j=i then v else val j) (piece':=fun j=>if j=i then x else piece j) fun y hy=>⟨(hv y (a8 y hy)).symm,(f3 y (a8 y hy)).symm⟩
       by_cases e:i=j
       ·subst e;simp only[if_true];rw[<- hr];exact hq
       ·rw[O j e]at a4;have:=hQ j V a4;rw[<- hr,if_neg (fun e'=>e e'.symm),if_neg (fun e'=>e e'.symm)];exact this)
      (fun j V=>(f3 j (fun e=>by subst e;exact a5 V)).trans (hX j V))
      (List.nodup_cons.2 ⟨fun e=>e1 ((a7 i).1 e).1,(List.nodup_append.1 c3).2.1⟩)
      (fun y=>by
       rw[List.mem_cons,a7,c1];constructor
       ·rintro(rfl|⟨⟨a,b⟩,c⟩)
        ·refine⟨.inr ⟨hi,a2⟩,fun k' b0 M hy=>?_⟩;by_cases e:y=k'
         ·subst e;rcases(u2 y hy).1 with a|a
          ·exact a5 a
          ·exact absurd ((xwq b6 ho).1 y a.2) (Nat.lt_irrefl _)
         ·rw[O k' e]at M;rcases f4 k' b0 M y hy with a|a
          ·exact a5 a
          ·rw[d6]at a;cases a.2
        ·refine⟨a.imp id fun a=>⟨a.1,?_⟩,fun k' b0 M=>?_⟩
         ·by_cases e:i=y
          ·subst e;exact a2
          ·rw[O y e];exact a.2
         ·by_cases e:i=k'
          ·subst e;exact c
          ·rw[O k' e]at M;exact b k' b0 M
       ·rintro⟨a,b⟩;by_cases e:y=i
        ·exact .inl e
        ·refine .inr ⟨⟨a.imp id fun a=>⟨a.1,?_⟩,fun k' b0 M=>b k' b0 ?_⟩,b i hi a2⟩
         ·have:=a.2;rw[O y (fun e'=>e e'.symm)]at this;exact this
         ·by_cases e':i=k'
          ·subst e';exact a2
          ·rw[O k' e'];exact M)
      (fun k' b0 M y hy=>by
       by_cases e:i=k'
       ·subst e;obtain⟨a,_⟩:=u2 y hy;refine a.imp id fun a=>⟨a.1,?_⟩
        by_cases e':i=y
        ·subst e';exact a2
        ·rw[O y e'];exact hp y a.2
       ·rw[O k' e]at M;refine(f4 k' b0 M y hy).imp id fun a=>⟨a.1,?_⟩
        by_cases e':i=y
        ·subst e';exact a2
        ·rw[O y e'];exact a.2)
      (fun k' o' M H y hy=>by
       have f9:l.getD y false=true:=by
        by_cases e:i=k'
        ·subst e;rw[ho]at H;cases H;exact hp y hy
        ·rw[O k' e]at M;exact e5 k' o' M H y hy
       by_cases e':i=y
       ·subst e';exact a2
       ·rw[O y e'];exact f9)
     have f6:rest.flatMap (fun j=>if j=i then x else piece j)=rest.flatMap piece:=by
      have e0:i∉rest:=fun e=>e1 ((a7 i).1 e).1;clear this a6 c3 a7
      induction rest with
      |nil=>rfl
      |cons a r ih'=>
        simp only[List.flatMap_cons];rw[ih' (fun e=>e0 (by simp[e])),if_neg (fun e=>e0 (by simp[e]))]
     intro h y;refine this h ?_;rw[List.flatMap_cons,f6];simp only[if_true];refine y.perm ?_;rw[List.append_assoc];refine List.Perm.append_left x ?_;rw[<- List.append_assoc,<- List.append_assoc];exact List.Perm.append_right C List.perm_append_comm
    have c8:=f2 hi ho;have b8:ops.toArray[i]?=some o:=by simpa using ho
    have e3:∀h,St z9 zz p h (ls.flatMap piece++(A++C))->St z9 zz p h ((use i).flatMap piece++(A++(rest.flatMap piece++C))):=fun h y=>by
     refine y.perm ?_;refine((a6.flatMap_right piece).append_right _).trans ?_;rw[List.flatMap_append,List.append_assoc];refine List.Perm.append_left _ ?_;rw[<- List.append_assoc,<- List.append_assoc];exact List.Perm.append_right C List.perm_append_comm
    have c4:=c8.1;rcases c8.2 val piece (fun j V=>by
     have a4:=d8 i o hi ho (.inl rfl) j V;exact hQ j (Nat.lt_trans (yuw b6 ho (xp8 d9 hi ho V)) hi) a4) hX with⟨c2,g1⟩|⟨c2,hu,hq⟩
    ·have e7:=xbl e8 c2;refine xks b8 (xxq e7) xtw (.inr (by revert c4;cases o.op<;>simp[Bq])) fun h hb=>?_;rw[xbz,xnt (ops:=ops) b7.1 e8];rcases g1 _ h (e3 h hb)with hx|⟨g,args,hx,hc⟩|hx
     ·refine xex hx fun n' h'⟨v',e',x,hq,b9⟩=>?_;rcases e' with rfl|⟨rfl,rfl⟩
      ·show Reach P md (G ((F (B f r) a3.toArray df _).finish v') cs) h' Stop;rw[xax b8,xyq];exact next v' x hq h' b9
      ·show Reach P md (G ((F (B f r) a3.toArray df _).finish undef) cs) h' Stop;rw[xax b8,xyq];exact next undef x hq h' b9
     ·refine xex hx fun n' h'⟨e',e2⟩=>?_;subst e';subst e2;refine hc _ _ _ fun v' h'⟨x,hq,b9⟩=>?_;rw[xax b8,xyq];exact next v' x hq h' b9
     ·refine hx _ _ _ fun v' h'⟨x,hq,b9⟩=>?_;rw[xax b8,xyq];exact next v' x hq h' b9
    ·refine xjs b8 (xxq (xbl e8 c2)) ?_;rw[xyq];intro h hb;have:=next undef [] hq h
     refine this ?_;have:=e3 h hb;rw[hu]at this;simpa using this
 intro h y
 refine main s _ tm (fun _=>undef) X ini a9 s_ rfl (fun x hx=>by obtain⟨j,o,V,hl,_⟩:=hx;simp[Array.getD]at hl) (fun _ _=>rfl) (fun j _ hl=>by simp[Array.getD]at hl) (fun _ _=>rfl) k1
  (fun x=>⟨fun hx=>⟨.inl hx,fun k _ hl=>by simp[Array.getD]at hl⟩,fun hx=>hx.1.elim id fun a=>by simp[Array.getD]at a⟩) (fun k _ hl=>by simp[Array.getD]at hl) (fun k _ hl=>by simp[Array.getD]at hl) h y
end
theorem ywz{w:Nat}{zc:List Value}(H:zc.length=w)(hw:0<w):∀n:Nat,(List.range (n*w)).map (fun i=>zc.toArray[i%zc.toArray.size]!)=(List.replicate n zc).flatten
 |0=>by simp
 |n+1=>by
   have e:(n+1)*w=n*w+w:=by rw[Nat.add_mul,Nat.one_mul]
   rw[e,List.range_add,List.map_append,ywz H hw n,List.replicate_succ',List.flatten_append];congr 1;rw[List.flatten_singleton,List.map_map];refine List.ext_getElem? fun i=>?_;rw[List.getElem?_map];by_cases hi:i<w
   ·have M:(n*w+i)%w=i:=by rw[Nat.add_comm,Nat.add_mul_mod_self_right,Nat.mod_eq_of_lt hi]
    rw[List.getElem?_eq_getElem (by simpa using hi),List.getElem?_eq_getElem om];simp only[List.getElem_range,Option.map_some,Function.comp,List.size_toArray,H,M];congr 1;rw[getElem!_pos zc.toArray i (by simp;omega)];simp
   ·rw[List.getElem?_eq_none (by simp;omega),List.getElem?_eq_none om];rfl
section
variable{r:Rd}{k:List Item}{Stop:Goroutine->Heap->Prop}{pos:String}
theorem xz7{dd:Option Nat}{L:Pcs}(hT:P.underlying sT=some (.slice eT))(hs:Bv P eT=some w)(hz:Ep P eT=some z)(a5:z.cells=zc.toArray)(M:zc.length=w)(a2:0<w)(a4:w<=100)
 (O:D5 P eT=some by')(hx:evl tm x=.J ((n:Nat):Int))(hy:evl tm y=.J ((n:Nat):Int))(hn:n<=1000)(a3:by'<=2^20)(s:St z9 zz p h L):
 Ex P tm ⟨dd,.makeSlice sT x y,ty,pos,aft,gd⟩ h fun v h'=>∃X,Aa eT w v (List.replicate n zc) X/\St z9 zz p h' (X++L):=by
 have a9:((List.replicate n zc).flatten).length=n*w:=by simp[M]
 have H:∀b,Aa eT w (.slice (some ⟨b,0,none⟩) n n) (List.replicate n zc) [(b,.cells (List.replicate n zc).flatten.toArray eT (0,0))]:=fun b=>
  Aa.build rfl (fun e he=>by rw[List.eq_of_mem_replicate he];exact M) s_ (by have:=Nat.mul_le_mul hn a4;omega)
 obtain⟨info,hi,a7⟩:∃i,P.info? eT=some i/\i.bytes=by':=by
  unfold D5 at O;cases e:P.info? eT with
  |none=>rw[e]at O;cases O
  |some i=>rw[e]at O;exact⟨i,rfl,Option.some.inj O⟩
 have hw:IntKind.i64.wrap ((n:Nat):Int)=((n:Nat):Int):=wrZ om;have a8:by'*n<=2^20*1000:=Nat.mul_le_mul a3 hn;unfold Ex;simp only[execOp,hx,hy];refine xaq ?_;unfold Instr.makeSlice;refine xaq (xcq hT ?_);simp only[asInt];refine xaq (xbq ?_);refine xaq (xbq ?_);refine xaq (xkx hi ?_);simp only[hw,a7];rw[if_neg (by
  have h1:¬ ((n:Nat):Int)<0:=om;have h2:¬ ((by':Nat):Int)*((n:Nat):Int)>2^48:=by
   have:((by':Nat):Int)*((n:Nat):Int)=((by'*n:Nat):Int):=by simp
   rw[this];omega
  simp only[Bool.or_eq_true,decide_eq_true_eq];rintro((z|z)|z)
  ·rcases z with z|z
   ·exact h1 z
   ·exact h2 z
  ·exact h1 z
  ·omega)]
 have V:∀(b:Nat)(K:Unit->Heap->Prop),K () h->wpS P (askRoom b) h K:=by
  intro b K hK;unfold askRoom;split
  ·exact⟨rfl,hK⟩
  ·exact xbq hK
 refine xaq (V _ _ ?_);refine xaq (xvq hs ?_);simp only[Int.toNat_natCast];by_cases h0:n*w=0
 ·have a6:n=0:=(Nat.mul_eq_zero.1 h0).resolve_right om;subst a6;simp only[Nat.zero_mul,if_true];refine xaq (xbq ?_);rw[show(Array.range 0).map ((#[]:Array Value)[· % (#[]:Array Value).size]!)=(List.replicate 0 zc).flatten.toArray from by rw[show Array.range 0=(#[]:Array Nat) from by simp,Array.map_empty];rfl];refine xaq (xtz ?_);refine xbq ?_;exact xbq ⟨_,rfl,_,H h.size,s.push _⟩
 ·rw[if_neg h0];refine xaq (xzx hz ?_);refine xaq (xbq ?_);have hc:(Array.range (n*w)).map (z.cells[· % z.cells.size]!)=(List.replicate n zc).flatten.toArray:=by
   rw[a5];apply Array.ext';simp only[Array.toList_map,Array.toList_range];exact ywz M a2 n
  rw[hc];refine xaq (xtz ?_);refine xbq ?_;exact xbq ⟨_,rfl,_,H h.size,s.push _⟩
end
section
theorem xc0{cs:Array Value}(H:Gs P t=some true)(hs:Bv P t=some n)(x:K (.agg (cs.extract off (off+n))) h):wpS P (part t cs off) h K:=by
 unfold part;refine xaq (xlb H ?_);rw[if_pos rfl];exact xaq (xvq hs (xbq x))
theorem xlz{cs:Array Value}(H:Gs P t=some false)(hv:cs[off]?=some v)(x:K v h):wpS P (part t cs off) h K:=by
 unfold part;refine xaq (xlb H ?_);rw[if_neg s_,hv];exact xbq x
theorem xov{K:Program->Heap->Prop}(x:K P h):wpS P program h K:=by simp only[program,wpS];exact x
def Pa(P:Program)(d:Nat)(xs ys:Array Value):List Field->Bool->Prop
 |[],r=>r=true
 | f :: fs, r => f.name ≠ "_" /\ ∃a b q, (∀h(K : Value -> Heap -> Prop), K a h -> wpS P (part f.type xs f.offset) h K) /\ (∀h(K : Value -> Heap -> Prop), K b h -> wpS P (part f.type ys f.offset) h K) /\
  (∀h(K:Bool->Heap->Prop),K q h->wpS P (Op.equalIn d f.type a b) h K)/\(q=false/\r=false\/q=true/\Pa P d xs ys fs r)
theorem xbk{d:Nat}{xs:Array Value}{r:Bool}{K:Bool->Heap->Prop}(ht:P.underlying t=some (.struct fs))(hp:P.stoodInHeld t=false)(e:Pa P d xs ys fs.toList r)(k:K r h):
 wpS P (Op.equalIn (d+1) t (.agg xs) (.agg ys)) h K:=by
 simp only[Op.equalIn];refine xaq (xcq ht ?_);simp only;refine xaq (xov ?_);rw[if_neg (by rw[hp];simp)];rw[<- Array.forIn_toList];generalize fs.toList=l at e;refine xaq ?_
 induction l generalizing h with
 |nil=>
   rw[show r=true from e]at k;simp only[List.forIn_nil];exact xbq (xbq k)
 |cons f l ih=>
   obtain⟨hn,a,b,q,O,M,V,H⟩:=e;simp only[List.forIn_cons];refine xaq ?_;rw[if_pos hn];refine xaq (O _ _ ?_);refine xaq (M _ _ ?_);refine xaq (V _ _ ?_);rcases H with⟨rfl,rfl⟩|⟨rfl,H⟩
   ·exact xbq (xbq (xbq k))
   ·exact xbq (ih k H)
theorem xpv{d:Nat}{k:IntKind}{a b:Int}{K:Bool->Heap->Prop}(H:P.underlying t=some (.int k))(x:K (decide (a=b)) h):wpS P (Op.equalIn (d+1) t (.int k a) (.int k b)) h K:=by
 simp only[Op.equalIn];refine xaq (xcq H ?_);simp only[if_true,Pj];exact xbq x
variable{pos:String}
theorem xxn{xs:Array Value}{K:Unit->Heap->Prop}(H:P.eqGuardType P.depth T=false)(z:K () h):wpS P (eqGuard op T x y (.agg xs) (.agg ys)) h K:=by
 unfold eqGuard;cases op<;>first|(rw[if_pos (by rfl)];exact xbq z)|(rw[if_neg d_];refine xaq (xov (xaq (xov ?_)));rw[if_pos (by rw[H];rfl)];exact xbq z)
theorem xa2{xs:Array Value}{q:Bool}(O:P.eqGuardType P.depth T=false)(e:∀h(K:Bool->Heap->Prop),K q h->wpS P (Op.equalIn (9999+1) T (.agg xs) (.agg ys)) h K)(H:evl tm x=.agg xs)(M:evl tm y=.agg ys):
 Exd P tm ⟨d,.binOp .eql T x y T',ty,pos,aft,gd⟩ h (.bool q):=by
 refine xrx H M (fun K z=>xxn O z) ?_;simp only[binOp,Op.equal,Op.maxDepth];refine xaq (e _ _ ?_);exact xbq ⟨rfl,rfl⟩
theorem ymq{xs:Array Value}{q:Bool}(O:P.eqGuardType P.depth T=false)(e:∀h(K:Bool->Heap->Prop),K q h->wpS P (Op.equalIn (9999+1) T (.agg xs) (.agg ys)) h K)(H:evl tm x=.agg xs)(M:evl tm y=.agg ys):
 Exd P tm ⟨d,.binOp .neq T x y T',ty,pos,aft,gd⟩ h (.bool (!q)):=by
 refine xrx H M (fun K z=>xxn O z) ?_;simp only[binOp,Op.equal,Op.maxDepth];refine xaq (e _ _ ?_);exact xbq ⟨rfl,rfl⟩
end
section
variable{X:Pcs}
theorem Aa.inP(o:Aa T w v es X)(V:∀x∈X,p x.1=some x.2):∃a cap,v=.slice a es.length cap/\Sl p a es.length w es:=by
 obtain⟨hw,⟨rfl,rfl,rfl⟩|⟨b,cs,cap,rest,rfl,rfl,H,hlen,O⟩⟩:=o
 ·exact⟨none,0,rfl,.nil _ _ _⟩
 ·refine⟨some ⟨b,0,none⟩,cap,rfl,rfl,hw,fun _=>rfl,?_⟩;intro i e hi j x M;show Aw _ (((⟨b,0,none⟩:Addr).add (i*w)).add j)=_;rw[xox,xox];unfold Aw;simp only[V (b,.cells cs.toArray T (0,0)) s_,Option.isSome_none,Bool.false_eq_true,if_false,List.getElem?_toArray,Nat.zero_add];rw[H,List.getElem?_append_left]
  ·exact xlj hw hi M
  ·exact(List.getElem?_eq_some_iff.1 (xlj hw hi M)).1
end
def Refs(p:Ab)(es:List (List Value))(xss:List (List Int)):Prop:=es.length=xss.length/\ ∀i,i<xss.length-> ∃a c,es[i]?=some [.slice a (xss.getD i []).length c]/\Ax p a (xss.getD i []).length (xss.getD i [])
def Inn(p:Ab)(es:List (List Value))(xss:List (List Int))(Z:Pcs):Prop:=∀p',PLe p p'->(∀x∈Z,p' x.1=some x.2)->Refs p' es xss
section
variable{p:Ab}{es fs:List (List Value)}{xss yss:List (List Int)}{Z Y:Pcs}
theorem Inn.nil:Inn p [] [] []:=fun _ _ _=>⟨rfl,fun i hi=>absurd hi s_⟩
theorem Inn.one{a:Option Addr}{n c:Nat}{xs:List Int}(D:Ax p a n xs):Inn p [[.slice a n c]] [xs] []:=fun p' M _=>by
 have H:=D.len;refine⟨rfl,fun i hi=>?_⟩;obtain rfl:i=0:=by simpa using hi
 exact⟨a,c,by simp[H],by simpa[H]using D.mono M⟩
theorem Inn.app(x:Inn p es xss Z)(y:Inn p fs yss Y):Inn p (es++fs) (xss++yss) (Z++Y):=fun p' le V=>by
 obtain⟨O,r1⟩:=x p' le fun q M=>V q (by simp[M]);obtain⟨l2,r2⟩:=y p' le fun q M=>V q (by simp[M]);refine⟨by simp[O,l2],fun i hi=>?_⟩;by_cases h:i<xss.length
 ·obtain⟨a,c,e,I⟩:=r1 i h;have H:(xss++yss).getD i []=xss.getD i []:=by rw[List.getD_eq_getElem?_getD,List.getElem?_append_left h,<- List.getD_eq_getElem?_getD]
  exact⟨a,c,by rw[H,List.getElem?_append_left om];exact e,by rw[H];exact I⟩
 ·rw[List.length_append]at hi;obtain⟨a,c,e,I⟩:=r2 (i-xss.length) om;have H:(xss++yss).getD i []=yss.getD (i-xss.length) []:=by rw[List.getD_eq_getElem?_getD,List.getElem?_append_right om,<- List.getD_eq_getElem?_getD]
  exact⟨a,c,by rw[H,List.getElem?_append_right om,O];exact e,by rw[H];exact I⟩
theorem Inn.as{Y:Pcs}(x:Inn p es xss Z)(e:xss=yss)(H:Z=Y):Inn p es yss Y:=by subst e;subst H;exact x
structure Tab1(p:Ab)(a:Option Addr)(k:Nat)(A:Nat->Option Addr)(C:Nat->Nat)(N:Nat->Nat)(xss:Nat->List Int):Prop where
 ne:0<k->a=some (adr a)
 cell:∀i,i<k->Aw p ((adr a).add (i*1))=some (.slice (A i) (N i) (C i))
 ints:∀i,i<k->Ax p (A i) (N i) (xss i)
theorem Tab1.mono{p':Ab}{a:Option Addr}{k:Nat}{A:Nat->Option Addr}{C N:Nat->Nat}{xs:Nat->List Int}(h:PLe p p')(t:Tab1 p a k A C N xs):Tab1 p' a k A C N xs:=
 ⟨t.ne,fun i hi=>h.cell (t.cell i hi),fun i hi=>(t.ints i hi).mono h⟩
end
theorem ycb(a:Addr)(w:Nat):a.add (0*w)=a:=by
 rw[Nat.zero_mul];cases a with
 |mk b off spot=>unfold Addr.add;cases spot<;>simp
theorem xl4(a:Option Addr)(c w:Nat):Cf a c 0 w=a:=by
 unfold Cf;split
 ·rfl
 ·cases a with
  |none=>rfl
  |some a=>simp only[Option.map_some,ycb]
theorem ylq{pos:String}{e:TypeId}{z:Operand}{c:Nat}{k:IntKind}{a:Option Addr}(H:P.underlying t=some (.slice e))(hs:Bv P e=some w)(M:evl tm x=.slice a n c)
 (hy:evl tm y=.int k ((n:Nat):Int))(O:evl tm z=.int k' ((n:Nat):Int))(h2:n<=c):Exd P tm ⟨d,.slice t x none (some y) (some z),ty,pos,aft,gd⟩ h (.slice a n n):=by
 refine xbj (s:=Instr.sliceAt t (.slice a n c) none (some (.int k ((n:Nat):Int))) (some (.int k' ((n:Nat):Int)))) (by simp only[execOp,M,hy,O,Option.map_none,Option.map_some]) ?_;unfold Instr.sliceAt;refine xaq (xcq H ?_);simp only;unfold Instr.slice;refine xaq (xcq H ?_);simp only;refine xaq (xex (K:=fun q h'=>q=(0,n,n)/\h'=h) ?_ fun q h'⟨eq,V⟩=>?_)
 ·unfold Instr.sliceBounds;refine xaq (xiz (Int.natCast_nonneg _) om ?_);rw[Int.toNat_natCast];simp only;refine xaq (xiz (Int.natCast_nonneg _) om ?_);rw[Int.toNat_natCast];exact xaq (xbq (xbq ⟨rfl,rfl⟩))
 ·subst eq;subst V;simp only;refine xaq (xvq hs ?_);refine xbq ⟨?_,rfl⟩;have:=xl4 a n w;unfold Cf at this;rw[this,Nat.sub_zero]
section
variable{pos:String}
variable{md':Md}{r:Rd}{k:List Item}{Stop:Goroutine->Heap->Prop}
end
theorem yqn{Q:Prop}{X L:Pcs}(o:Aa T w v es X)(hn:es.length=n)(s:St z9 zz p h L)(hX:∀x∈X,x∈L)
 (c:∀p' a cap,Per p' h->PLe p p'->v=.slice a n cap->Sl p' a n w es->Q):Q:=by
 subst hn;rcases o.2 with⟨_,_,e⟩|⟨b,cs,cap,rest,_,e,_⟩
 ·obtain⟨a,cap,O,sl⟩:=o.inP (p:=p) (by rw[e];simp);exact c p a cap s.per (.refl p) O sl
 ·obtain⟨i,hi⟩:=List.mem_iff_getElem?.1 (hX (b,.cells (List.toArray cs) T (0,0)) (by rw[e];simp));obtain⟨a,H,V,sl⟩:=o.inP (p:=Hf p b (.cells (List.toArray cs) T (0,0))) (by rw[e];intro x M;rw[List.mem_singleton.1 M];exact xyk);exact c _ a H (s.Qq hi) (s.leO hi) V sl
theorem yrd{Q:Prop}{X L:Pcs}(o:Aa T w v es X)(hn:es.length=n)(s:St z9 zz p h L)(hX:∀x∈X,x∈L){bt:Nat}{ob:Obj}(hb:(bt,ob)∈L)
 (c:∀p' a cap,Per p' h->PLe p p'->v=.slice a n cap->Sl p' a n w es->p' bt=some ob->Q):Q:=by
 subst hn;have own:∀x∈L,h[x.1]?=some x.2/\p x.1=none:=fun x H=>⟨(s.own x H).1,(s.own x H).2.1⟩
 let p':Ab:=fun b=>if b=bt then some ob else match X.find? (fun x=>x.1==b)with
  |some x=>some x.2
  |none=>p b
 have a2:Per p' h:=fun b o' e=>by
  simp only[p']at e;split at e
  ·rename_i M;subst M;cases e;exact(own _ hb).1
  ·split at e
   ·rename_i x H;have V:=List.mem_of_find?_eq_some H;have he:=List.find?_some H;simp only[beq_iff_eq]at he;cases e;subst he;exact(own x (hX x V)).1
   ·exact s.per b o' e
 have a4:PLe p p':=fun b o' e=>by
  simp only[p'];rw[if_neg (fun M=>by subst M;rw[(own _ hb).2]at e;cases e)];split
  ·rename_i x H;have V:=List.mem_of_find?_eq_some H;have he:=List.find?_some H;simp only[beq_iff_eq]at he;subst he;rw[(own x (hX x V)).2]at e;cases e
  ·exact e
 have a3:∀x∈X,p' x.1=some x.2:=fun x H=>by
  have key:∀y:Nat×Obj,y∈L->y.1=x.1->y.2=x.2:=fun y O e=>by
   have h1:=(own y O).1;have h2:=(own x (hX x H)).1
   rw[e,h2]at h1;exact(Option.some.inj h1).symm
  simp only[p'];split
  ·rename_i e;exact congrArg some (key (bt,ob) hb e.symm)
  ·split
   ·rename_i y O;have V:=List.mem_of_find?_eq_some O;have he:=List.find?_some O;simp only[beq_iff_eq]at he;exact congrArg some (key y (hX y V) he)
   ·rename_i O;have:=List.find?_eq_none.1 O x H;simp at this
 obtain⟨a,cap,e1,sl⟩:=o.inP (p:=p') a3;exact c p' a cap a2 a4 e1 sl (by simp[p'])
theorem xct{Q:Prop}{L:Pcs}(s:St z9 zz p h L)(O:∀x∈Z,x∈L)(c:∀p',Per p' h->PLe p p'->(∀x∈Z,p' x.1=some x.2)->Q):Q:=by
 have own:∀x∈L,h[x.1]?=some x.2/\p x.1=none:=fun x H=>⟨(s.own x H).1,(s.own x H).2.1⟩
 let p':Ab:=fun b=>match Z.find? (fun x=>x.1==b)with
  |some x=>some x.2
  |none=>p b
 refine c p' (fun b o' e=>?_) (fun b o' e=>?_) (fun x H=>?_)
 ·simp only[p']at e;split at e
  ·rename_i x H;have M:=List.mem_of_find?_eq_some H;have he:=List.find?_some H;simp only[beq_iff_eq]at he;cases e;subst he;exact(own x (O x M)).1
  ·exact s.per b o' e
 ·simp only[p'];split
  ·rename_i x H;have M:=List.mem_of_find?_eq_some H;have he:=List.find?_some H;simp only[beq_iff_eq]at he;subst he;rw[(own x (O x M)).2]at e;cases e
  ·exact e
 ·simp only[p'];split
  ·rename_i y V;have M:=List.mem_of_find?_eq_some V;have he:=List.find?_some V;simp only[beq_iff_eq]at he;have h1:=(own y (O y M)).1;have h2:=(own x (O x H)).1
   rw[he,h2]at h1;exact congrArg some (Option.some.inj h1).symm
  ·rename_i V;have:=List.find?_eq_none.1 V x H;simp at this
theorem yz3{Q:Prop}{w' n':Nat}{v':Value}{X L:Pcs}(o:Aa T w v es X)(hn:es.length=n)(o':Aa T' w' v' es' X')(O:es'.length=n')(s:St z9 zz p h L)(hX:∀x∈X++X',x∈L)
 (c:∀p' a cap a' H,Per p' h->PLe p p'->v=.slice a n cap->v'=.slice a' n' H->Sl p' a n w es->Sl p' a' n' w' es'->Q):Q:=
 xct s hX fun p' hp le hz=>by
  subst hn;subst O;obtain⟨a,cap,e1,sl⟩:=o.inP (p:=p') fun x M=>hz x (List.mem_append_left _ M);obtain⟨a',H,e2,V⟩:=o'.inP (p:=p') fun x M=>hz x (List.mem_append_right _ M);exact c p' a cap a' H hp le e1 e2 sl V
section
variable{r:Rd}{k:List Item}{Stop:Goroutine->Heap->Prop}{L:Pcs}{pos:String}
def Lu(p:Ab)(a:Option Addr)(n:Nat)(l:List UInt8):Prop:=Sl p a n 1 (bcs l)
theorem Lu.len{a:Option Addr}{n:Nat}{l:List UInt8}(s:Lu p a n l):l.length=n:=by have:=Sl.len s;simpa[bcs]using this
theorem Lu.mono{p':Ab}{a:Option Addr}{n:Nat}{l:List UInt8}(H:PLe p p')(s:Lu p a n l):Lu p' a n l:=Sl.mono H s
theorem Lu.ne{a:Option Addr}{n:Nat}{l:List UInt8}(s:Lu p a n l)(H:0<n):a=some (adr a):=Sl.ne s H
theorem Lu.get{a:Option Addr}{n i:Nat}{l:List UInt8}(s:Lu p a n l)(M:i<n):Aw p ((adr a).add (i*1))=some (.int .u8 (((l.getD i 0).toNat:Nat):Int)):=by
 have H:=s.len;exact Sl.get s i [.int .u8 (((l.getD i 0).toNat:Nat):Int)] (by rw[bcs,List.getElem?_map,List.getD_eq_getElem?_getD,List.getElem?_eq_getElem om];rfl) 0 _ rfl
end
section
variable{X:Pcs}{pos:String}
theorem xth{f:Value->ByteArray->Sem (ForInStep ByteArray)}(hf:∀(n:Int)(r:ByteArray)(K:ForInStep ByteArray->Heap->Prop),K (.yield (r.push (UInt8.ofNat n.toNat))) h->wpS P (f (.int .u8 n) r) h K):
 ∀(l:List UInt8)(m:List UInt8)(K:ByteArray->Heap->Prop),K (bs (m++l)) h->wpS P (forIn (l.map fun b=>Value.int .u8 ((b.toNat:Nat):Int)) (bs m) f) h K:=by
 intro l
 induction l with
 |nil=>intro m K k;rw[List.append_nil]at k;exact xbq k
 |cons b l ih=>
   intro m K k;rw[List.map_cons,List.forIn_cons];refine xaq (hf _ _ _ ?_);have e:(bs m).push (UInt8.ofNat (((b.toNat:Nat):Int)).toNat)=bs (m++[b]):=by
    apply ByteArray.ext;simp[bs]
   rw[e];refine ih _ _ ?_;rw[List.append_assoc];exact k
theorem yiq{e:TypeId}(o:Aa e 1 v (bcs l) X)(s:St z9 zz p h (A++(X++C)))(hs:P.underlying src=some (.slice e))(V:P.underlying dst=some .string)(he:P.underlying e=some (.int .u8))(hx:evl tm x=v):
 Exd P tm ⟨d,.convert src dst x,ty,pos,aft,gd⟩ h (sv l):=by
 refine xbj (s:=convert src dst v) (by simp only[execOp,hx]) ?_;unfold convert;refine xaq (xcq hs ?_);refine xaq (xcq V ?_);obtain⟨hw,⟨rfl,h0,rfl⟩|⟨b,cs,cap,rest,rfl,rfl,H,hlen,_⟩⟩:=o
 ·have:l=[]:=by simpa[bcs]using h0
  subst this;simp only;refine xaq (xcq he ?_);exact xbq ⟨rfl,rfl⟩
 ·simp only;refine xaq (xcq he ?_);simp only[Conv.bytesToString];have M:=xjq hw;have hL:(A++([(b,Obj.cells (List.toArray cs) e (0,0))]++C))[A.length]?=some (b,.cells (List.toArray cs) e (0,0)):=by
   rw[List.getElem?_append_right (Nat.le_refl _)];simp
  refine xaq (xmz (vs:=(bcs l).flatten) (by rw[M];simp) (fun j u O=>?_) ?_)
  ·rw[xox];refine s.Fs hL ?_;rw[List.getElem?_toArray,H,Nat.zero_add,List.getElem?_append_left (List.getElem?_eq_some_iff.1 O).1];exact O
  ·have hf:∀l:List UInt8,(bcs l).flatten=l.map fun b=>Value.int .u8 ((b.toNat:Nat):Int):=fun l=>by
    induction l with
    |nil=>rfl
    |cons a l ih=>simp only[bcs]at ih⊢;simp[ih]
   rw[hf];simp only[List.forIn_toArray];refine xaq ?_;exact xth (fun n r K k=>xbq k) l [] _ (xbq ⟨rfl,rfl⟩)
end
section
variable{pos:String}
theorem xt8{d:Nat}{a b:Bool}{K:Bool->Heap->Prop}(H:P.underlying t=some .bool)(x:K (a==b) h):wpS P (Op.equalIn (d+1) t (.bool a) (.bool b)) h K:=by
 simp only[Op.equalIn];refine xaq (xcq H ?_);exact xbq x
theorem xc2{a b:Bool}{K:Unit->Heap->Prop}(z:K () h):wpS P (eqGuard op T x y (.bool a) (.bool b)) h K:=by
 unfold eqGuard;cases op<;>first|(rw[if_pos (by rfl)];exact xbq z)|(rw[if_neg d_];exact xbq z)
end
end Go.X
