/-
  Part of proofs about a town's master: a calculus for walks beside goroutines that are only leaving, and the walks. No condition.
-/
import Derived.Test.YtjcakmlipohaeaaGreatDoorGA
import Derived.Conc.LeavingOf
import Derived.Deep.Slices
import Derived.Lib.SmallJoins
import Derived.Conc.CrowdRun
import Derived.Conc.TokenTrace
import Derived.Conc.WgGenN3
import Derived.Conc.CrowdStepC2
import Derived.Conc.DeferLaws
import Derived.Conc.Own2
import Derived.Test.YtjcakmlipohaeaaGreatDoorChecked
import Derived.Conc.WgLib
namespace Go.X
open Go.Conc Go.RowKit
def AtFin(P:Program)(v:Value)(g:Goroutine):Prop:=g.status=.running/\ ∀w:World,stepG P true g w=.ended (.done v) w #[]
def StopE(P:Program)(R:Value->Heap->Prop)(g:Goroutine)(h:Heap):Prop:=∃v,AtFin P v g/\R v h
def EntersX(P:Program)(md:Md)(f:FuncId)(args:Array Value)(h:Heap)(R:Value->Heap->Prop):Prop:=Reach P md (G (Frame.enter P f args .normal) []) h (StopE P R)
section
variable{P:Program}{md:Md}{f:FuncId}{h:Heap}{Φ:Heap->Prop}{tm:List Value}{k:List Item}{R:Value->Heap->Prop}
theorem ywr{fn:Func}{t:Nat}{v:Value}{td:List Item}(hi:P.inits.idxOf? f=none)(hf:P.funcs[f]?=some fn)(hr:fn.results=#[.tmp t])(hv:tm.getD t undef=v):AtFin P v (G (FR (B f .none) tm.toArray [] td) []):=by
 refine⟨rfl,fun w=>?_⟩
 have e:(results fn tm.toArray).runT P w #[]=(.ok v w,#[]):=by
  unfold results
  simp[hr,<- hv]
 have es:seen P (B f .none).fn #[]=#[]:=by simp[seen]
 simp only[G,stepG,unwind,FR,show P.funcs[(B f .none).fn]?=some fn from hf,e,doReturn,GStep.after,es,show P.inits.idxOf? (B f .none).fn=none from hi]
 rfl
theorem xs0{fn:Func}{c:Code}{args:Array Value}(hf:P.funcs[f]?=some fn)(hb:fn.body=some c)(ht:args.toList++List.replicate (fn.ntmps-args.size) undef=tm)
 (x:(∀v h',R v h'->R v h')->RS P md (G (FL f .none tm [] [.code c]) []) Φ (StopE P R))(h0:Φ h):EntersX P md f args h R:=by
 have:=x (fun _ _ y=>y) h h0
 have e:Frame.enter P f args .normal=FL f .none tm [] [.code c]:=by
  unfold Frame.enter
  simp only[hf,hb,Option.map_some,Option.bind_some,Option.getD_some,FL,F,B,<- ht]
  simp[Rd.kind,Rd.round]
 unfold EntersX
 rw[e];exact this
theorem yol[Stb Φ]{fn:Func}{t:Nat}{vs:List Value}{v:Value}(hi:P.inits.idxOf? f=none)(hf:P.funcs[f]?=some fn)(hr:fn.results=#[.tmp t])(e:∀h,Φ h->Res P h tm [.tmp t] vs)(hv:packs vs=v)
 (x:∀h,Φ h->R v h):RS P md (G (FL f .none tm [] (.code .ret::k)) []) Φ (StopE P R):=
 xz9 (hro:=rfl) fun _=>fun h y=>xhk (by
  obtain⟨v',vs',rfl,h1,h2⟩:=e h y
  obtain rfl:vs'=[]:=h2
  subst hv
  exact⟨_,ywr hi hf hr h1,x h y⟩)
end
def nilO:Obj->Obj
 |.cells c e f=>if c.size=0 then .cells #[] 0 (0,0)else .cells c e f
 |o=>o
def nilV(r:Heap):Heap:=r.map nilO
def Empty(r:Heap)(b:Nat):Prop:=∃e f,r[b]?=some (.cells #[] e f)
theorem xd5{r:Heap}{b:Nat}:(nilV r)[b]?=(r[b]?).map nilO:=by simp[nilV]
theorem xj0{r:Heap}:(nilV r).size=r.size:=by simp[nilV]
theorem xkf{r:Heap}{b:Nat}(h:¬ Empty r b):(nilV r)[b]?=r[b]?:=by
 rw[xd5]
 cases e:r[b]? with
 |none=>rfl
 |some o=>
   cases o with
   |cells c t f=>
     have hc:c.size≠0:=fun hz=>h ⟨t,f,by rw[e,Array.eq_empty_of_size_eq_zero hz]⟩
     simp[nilO,hc]
   |_=>rfl
theorem yhz(r:Heap):Veil (.of (Empty r)) (nilV r) r:=by
 refine⟨xj0,fun b hd _=>xkf hd,fun b hd=>?_,fun b hs=>hs.elim⟩
 obtain⟨e,f,he⟩:=hd
 rw[xd5,he]
 simp[nilO]
theorem ydb(Sh:Loc->Prop)(B:Nat):Past Sh B #[]:=
 ⟨fun said=>by rintro⟨i,j,_,⟨a,b,ha,_⟩,_⟩;simp[Trace.act?]at ha,fun i a ha=>by simp[touchAt,Trace.act?]at ha,fun i g hg=>by simp[Trace.g?]at hg,rfl,by simp⟩
section
variable{P:Program}{f:FuncId}{args:Array Value}{w:World}{R:Value->Heap->Prop}
theorem xbw(x:EntersX P (.main true) f args (nilV w.heap) R)(hR:∀v h',R v h'->Keep (nilV w.heap) h'):
 ∃N last o w' t',runNT P (N+1) (solo (G (Frame.enter P f args .normal) []) w) #[]=(.ended o w',t')/\runN P N (solo (G (Frame.enter P f args .normal) []) w)=.next last/\step P last=.ended o w'/\
  Go.Conc.Good P (fun v w'=>Below w.heap.size w w'/\ ∃h',R v h') last o w' t':=by
 have sc:Scene P (Empty w.heap) #[G (Frame.enter P f args .normal) []] w #[] (fun _=>0) (G (Frame.enter P f args .normal) []) (nilV w.heap):=⟨rfl,leavers_one P _,ydb _ _,yhz _⟩
 obtain⟨N,S',gs',w1,sl',t',q',g',h',hrun,sc',⟨v,hfin,hv⟩,hq,_,hS⟩:=x _ _ w none _ _ sc
 have post:∀w₁,AtRel w1 w₁->Below w.heap.size w w₁:=by
  rintro _ ⟨d,rfl⟩
  refine⟨hq.calm.os,hq.calm.tape,hq.calm.output,hq.calm.size,fun k hk=>?_⟩
  show w1.heap[k]?=w.heap[k]?
  by_cases he:Empty w.heap k
  ·exact hq.stand k hk (.inl he)
  ·have h1:=(hR v h' hv).keep k (by rw[xj0];exact hk)
   have h2:¬ S' k:=fun hs=>by
    have h3:=sc'.veil.shun k hs
    rw[h1,xkf he]at h3
    exact he ⟨_,_,h3⟩
   exact(sc'.veil.same k h2 (fun y=>y)).symm.trans (h1.trans (xkf he))
 obtain⟨N2,last,o,w2,t2,h1,h2,h3,h4⟩:=beside_ends (P:=P) (Shun:=ShunOf S') (B:=w1.heap.size) (D:=fun _ _ _=>False) (Post:=fun v w'=>Below w.heap.size w w'/\ ∃h',R v h') (n:=0) (fun _ _ _ y=>y.elim) (sl:=sl') sc'.main sc'.leav sc'.past
  (fun w₁ hr=>⟨hfin.1,v,#[],hfin.2 w₁,by simp,post w₁ hr,h',hv⟩)
 refine⟨N+N2,last,o,w2,t2,?_,?_,h3,h4⟩
 ·rw[Nat.add_assoc,runNT_add,solo_eq_crowd,hrun];exact h1
 ·rw[runN_add,<- runNT_fst P N _ #[],solo_eq_crowd,hrun];exact h2
end
end Go.X
namespace Go.X
open Go.Conc Go.RowKit Go.ChangeShapes Go.WideShapes Go.ChangeAt
def vwP(W:World):PHeap:=fun b=>(nilV W.heap)[b]?
theorem xl1(W:World):Per (vwP W) (nilV W.heap):=fun _ _ e=>e
theorem ycb{W:World}{a:Addr}{v:Value}(h:W.cell? a=some v):pcell (vwP W) a=some v:=by
 unfold World.cell? at h
 unfold pcell vwP
 cases e:W.heap[a.block]? with
 |none=>rw[e]at h;cases h
 |some o=>
   rw[e]at h
   cases o with
   |cells c t f=>
     have hne:¬ Empty W.heap a.block:=by
      rintro⟨t',f',h'⟩
      rw[e]at h'
      obtain⟨rfl,rfl,rfl⟩:c=#[]/\t=t'/\f=f':=by simpa using h'
      revert h;simp
     rw[xkf hne,e]
     exact h
   |_=>cases h
theorem xg5{f:Nat->Option Value}:∀{l:List Nat}{r:List Value},l.mapM f=some r->r.length=l.length/\ ∀(j:Nat)(x:Value),r[j]?=some x-> ∃i,l[j]?=some i/\f i=some x
 |[],r,h=>by simp at h;subst h;simp
 |i::l,r,h=>by
   simp only[List.mapM_cons,Option.bind_eq_bind,Option.bind_eq_some_iff]at h
   obtain⟨y,hy,ys,hys,e⟩:=h
   obtain rfl:y::ys=r:=by simpa using e
   obtain⟨h1,h2⟩:=xg5 hys
   refine⟨by simp[h1],fun j x hx=>?_⟩
   cases j with
   |zero=>simp at hx;subst hx;exact⟨i,rfl,hy⟩
   |succ j=>exact h2 j x (by simpa using hx)
theorem xy0{W:World}{a:Addr}{n:Nat}{cs:List Value}(h:W.cells? 0 a n=some cs):cs.length=n/\ ∀(j:Nat)(x:Value),cs[j]?=some x->W.cell? (a.add j)=some x:=by
 unfold World.cells? at h
 rw[if_pos (Nat.zero_le _)]at h
 obtain⟨h1,h2⟩:=xg5 h
 refine⟨by simpa using h1,fun j x hx=>?_⟩
 obtain⟨i,hi,hf⟩:=h2 j x hx
 obtain⟨_,rfl⟩:j<n/\j=i:=by simpa[List.getElem?_range']using List.getElem?_eq_some_iff.1 hi
 exact hf
theorem yct{W:World}{a:Addr}{n w:Nat}{E:Nat->List Value}(h:∀i,i<n->W.cells? 0 (a.add (i*w)) w=some (E i)):Sl (vwP W) (some a) n w ((List.range n).map E):=by
 refine⟨by simp,fun e he=>?_,fun _=>rfl,fun i e he j x hx=>?_⟩
 ·obtain⟨i,hi,rfl⟩:=List.mem_map.1 he
  exact(xy0 (h i (List.mem_range.1 hi))).1
 ·rw[List.getElem?_map]at he
  obtain⟨i',hi',rfl⟩:=Option.map_eq_some_iff.1 he
  obtain⟨hlt,rfl⟩:i<n/\i=i':=by simpa using List.getElem?_eq_some_iff.1 hi'
  exact ycb ((xy0 (h i hlt)).2 j x hx)
theorem yqn(p:PHeap)(w:Nat):Sl p none 0 w []:=⟨rfl,by simp,fun h=>absurd h om,fun i e he=>by simp at he⟩
section
variable{H:Type}{enc:TypeId×Value->H}{P:Program}{W:World}
theorem ytv{t:TypeId}{m:Nat}{cs:List Value}{y:DataW H×List MemPlace}(ht:P.underlying t=some (.int .i64))(h:DataW.trod enc P W 0 (fun _=>true) true m t cs=some y):∃n:Int,cs=[.int .i64 n]:=by
 obtain⟨n,e,_,_⟩:=DataW.trod_int ht h
 exact⟨n,e⟩
theorem xxd(hl:laidOutB P=true){W':World}(hB:Below W.heap.size W W'):∀{ts:List TypeId}{vs:List Value}{ds:List (DataW H)}{ps:List MemPlace},(∀t∈ts,P.readableRec t=true/\t<P.types.size)->(∀x∈ps,x.block<W.heap.size)->
 DataW.TrodAll enc P W 0 (fun _=>true) true ts vs ds ps->DataW.TrodAll enc P W' 0 (fun b=>decide (b<W.heap.size)) true ts vs ds ps
 |[],[],[],_,_,_,h=>h
 |_::_,[],_,_,_,_,h=>by cases h
 |[],_::_,_,_,_,_,h=>by cases h
 |[],[],_::_,_,_,_,h=>by cases h
 |_::_,_::_,[],_,_,_,h=>by cases h
 |t::ts,v::vs,d::ds,ps,hr,hlt,⟨p,q,h1,h2,e⟩=>by
   subst e
   exact⟨p,q,Below.trod hl (hr t (by simp)).1 (hr t (by simp)).2 h1 hB (fun x hx=>hlt x (by simp[hx])),xxd hl hB (fun t' ht'=>hr t' (by simp[ht'])) (fun x hx=>hlt x (by simp[hx])) h2,rfl⟩
theorem xbs{fn:Func}{s:ChangeSpec}{W':World}{args:Array Value}{ds gs:List (DataW H)}{before:List MemPlace}{fresh handsOn:Bool}{tb:TypeId}(hl:laidOutB P=true)(hvars:s.vars=[])
 (hts:∀t∈fn.params.toList,P.readableRec t=true/\t<P.types.size)(hrt:fn.resultTypes=#[tb])(hub:P.underlying tb=some .bool)(hW:DataW.Whole enc P fn.params.toList s.vars false W args.toList ds gs before)
 (hs:s.fn H (ds++gs)={results:=[.lit (.bool true)],args:=ds})(hB:Below W.heap.size W W'):s.post enc P fn false fresh handsOn false W args (.bool true) W':=by
 have hW':=hW
 obtain⟨p,q,hA,hV,rfl,_,_⟩:=hW
 rw[hvars]at hV
 obtain rfl:q=[]:=by
  cases gs with
  |nil=>exact hV
  |cons _ _=>exact hV.elim
 refine⟨ds,gs,p++[],[],p,[],hW',?_,?_,?_,hB.frame _,fun h=>by cases h⟩
 ·rw[hs,hrt]
  exact⟨[],[],⟨1,by simp[DataW.trod,hub,Value.cells]⟩,rfl,rfl⟩
 ·rw[hs]
  exact xxd hl hB hts (fun x hx=>hW'.lt x (by simp[hx])) hA
 ·rw[hs,hvars];rfl
end
end Go.X
namespace Go.X
open Go.Conc
open Go.ConcN (RelBy fork_knows)
open Go.ConcR (stA)
def LocIn(b:Nat):Loc->Prop
 |.cell a=>a.block=b
 |.obj r=>r=b
 |_=>False
theorem LocIn.mem{b:Nat}:∀{l:Loc},LocIn b l->l.isMemory=true
 |.cell _,_|.obj _,_=>rfl
theorem xp0:∀{l:Loc},l.isMemory=true-> ∃b,LocIn b l
 |.cell a,_=>⟨a.block,rfl⟩
 |.obj r,_=>⟨r,rfl⟩
def gn(p:Nat):Nat->Nat
 |0=>0
 |k+1=>p+k
theorem yzj{S:Vw}{B:Nat}{e:Event}(x:EvX S B e){y:Touch}(h:(MemAct.ofEvent e).touch?=some y):
 ∃b,LocIn b y.loc/\ ¬ S.dead b/\b<B/\(y.write=true-> ¬ S.still b)/\y.kind=.plain:=by
 obtain⟨loc,wr,sy⟩:=e
 unfold EvX at x
 split at x
 ·rename_i a ha
  simp only at ha x;subst ha
  obtain⟨rfl,hs,hb,ht⟩:=x
  simp[MemAct.ofEvent,MemAct.touch?]at h
  subst h
  exact⟨a.block,rfl,hs,hb,ht,rfl⟩
 ·rename_i b hb'
  simp only at hb' x;subst hb'
  obtain⟨rfl,hs,hb,ht⟩:=x
  simp[MemAct.ofEvent,MemAct.touch?]at h
  subst h
  exact⟨b,rfl,hs,hb,fun _=>ht,rfl⟩
 ·rename_i m hm
  simp only at hm;subst hm
  cases m<;>simp_all[okMark,MemAct.ofEvent,MemAct.touch?]
 ·exact x.elim
theorem xw2{S:Vw}{B:Nat}{e:Event}(x:EvX S B e):(∀a,MemAct.ofEvent e≠.mark (.release a))/\e.loc≠.mark .disable/\e.loc≠.mark .enable:=by
 obtain⟨loc,wr,sy⟩:=e
 unfold EvX at x
 split at x
 ·rename_i a ha
  simp only at ha x;subst ha
  obtain⟨rfl,hs,hb,ht⟩:=x
  exact⟨by simp[MemAct.ofEvent],by simp,by simp⟩
 ·rename_i b hb'
  simp only at hb' x;subst hb'
  obtain⟨rfl,hs,hb,ht⟩:=x
  exact⟨by simp[MemAct.ofEvent],by simp,by simp⟩
 ·rename_i m hm
  simp only at hm;subst hm
  cases m<;>simp_all[okMark,MemAct.ofEvent]
 ·exact x.elim
structure TI(Sh:Nat->Prop)(Wg n₀ p j:Nat)(V:Nat->Vw)(B:Nat)(t:Trace):Prop where
 clean:∀said,¬ Race said t
 mine:∀k,k<=j-> ∀i a b,touchAt t i=some a->LocIn b a.loc-> ¬ (V k).dead b->((V k).still b->a.write=true)->Knows t (gn p k) i
 known:∀i a b,touchAt t i=some a->LocIn b a.loc->Knows t 0 i\/((Sh b\/b=Wg)/\(∃x,a.loc=.cell x)/\a.kind=.atomic)\/ ∃k,k<j/\t.g? i=some (p+k)/\t.counts i
 over:∀i g,t.g? i=some g->g≠0->t.counts i->(∃q,t.g? q=some 0/\HappensBefore t i q)\/ ∃k,k<j/\g=p+k
 wgq:∀i a,touchAt t i=some a->LocIn Wg a.loc->(a.kind≠.plain/\(a.kind=.said->t.g? i=some 0))\/ ∀k,k<=j->Knows t (gn p k) i
 seen:∀op∈t,op.act.low B
 norel:∀k,n₀<=k->t.act? k≠some (.mark (.release (stA Wg)))
 size:n₀<=t.size
section
variable{Sh:Nat->Prop}{Wg n₀ p j:Nat}{V V':Nat->Vw}{B B':Nat}{t u:Trace}
theorem LocIn.uniq{b c:Nat}:∀{l:Loc},LocIn b l->LocIn c l->b=c
 |.cell _,x,y|.obj _,x,y=>by cases x;cases y;rfl
theorem yjz{i g:Nat}(h:t.g? i=some g):i<t.size:=by
 obtain⟨z,hz,_⟩:=Option.map_eq_some_iff.1 h
 exact lt_size_of_getElem? hz
theorem yjl{i:Nat}(h:∃q,t.g? q=some 0/\HappensBefore t i q):∃q,(t++u).g? q=some 0/\HappensBefore (t++u) i q:=by
 obtain⟨q,hq,hb⟩:=h
 exact⟨q,by rw[g?_old (yjz hq)];exact hq,hb_app u hb⟩
theorem yez(h:∀k,n₀<=k->t.act? k≠some (.mark (.release (stA Wg))))(hu:∀op∈u,op.act≠.mark (.release (stA Wg))):∀k,n₀<=k->(t++u).act? k≠some (.mark (.release (stA Wg))):=by
 intro k hk hi
 obtain⟨op,ho,hoa⟩:=Option.map_eq_some_iff.1 hi
 rcases getElem?_append_cases ho with⟨_,ho'⟩|⟨_,hou⟩
 ·exact h k hk (by rw[act?_of ho',hoa])
 ·exact hu op hou hoa
theorem TI.grow(h:TI Sh Wg n₀ p j V B t)(hB:B<=B')(hV:∀m,m<=j->(∀b,(V m).dead b->(V' m).dead b)/\ ∀b,(V m).still b->(V' m).still b)
 (clean:∀said,¬ Race said (t++u))
 (mine:∀m,m<=j-> ∀i op x b,t.size<=i->(t++u)[i]?=some op->op∈u->op.act.touch?=some x->LocIn b x.loc-> ¬ (V' m).dead b->((V' m).still b->x.write=true)->Knows (t++u) (gn p m) i)
 (known:∀i op x b,t.size<=i->(t++u)[i]?=some op->op∈u->op.act.touch?=some x->LocIn b x.loc->
  Knows (t++u) 0 i\/((Sh b\/b=Wg)/\(∃y,x.loc=.cell y)/\x.kind=.atomic)\/ ∃k,k<j/\(t++u).g? i=some (p+k)/\(t++u).counts i)
 (over:∀i op,t.size<=i->(t++u)[i]?=some op->op∈u->op.g≠0->(t++u).counts i-> ∃k,k<j/\op.g=p+k)
 (wgq:∀i op x,t.size<=i->(t++u)[i]?=some op->op∈u->op.act.touch?=some x->LocIn Wg x.loc->x.kind≠.plain/\(x.kind=.said->op.g=0))
 (seen:∀op∈u,op.act.low B')(norel:∀op∈u,op.act≠.mark (.release (stA Wg))):TI Sh Wg n₀ p j V' B' (t++u):=by
 refine⟨clean,fun m hm i a b ha hb hd hs=>?_,fun i a b ha hb=>?_,fun i g hg hne hc=>?_,fun i a ha hb=>?_,fun op hop=>?_,yez h.norel norel,by simp only[Array.size_append];have:=h.size;omega⟩
 ·obtain⟨x,hx,hxa⟩:=touch_of ha
  rcases getElem?_append_cases hx with⟨_,hx'⟩|⟨hi,hxu⟩
  ·exact(h.mine m hm i a b (by rw[touchAt_of hx'];exact hxa) hb (fun z=>hd ((hV m hm).1 b z)) (fun z=>hs ((hV m hm).2 b z))).app u
  ·exact mine m hm i x a b hi hx hxu hxa hb hd hs
 ·obtain⟨x,hx,hxa⟩:=touch_of ha
  rcases getElem?_append_cases hx with⟨hi,hx'⟩|⟨hi,hxu⟩
  ·rcases h.known i a b (by rw[touchAt_of hx'];exact hxa) hb with z|z|⟨k,hk,z1,z2⟩
   ·exact .inl (z.app u)
   ·exact .inr (.inl z)
   ·exact .inr (.inr ⟨k,hk,by rw[g?_old hi];exact z1,(counts_old hi).2 z2⟩)
  ·exact known i x a b hi hx hxu hxa hb
 ·obtain⟨x,hx,rfl⟩:=Option.map_eq_some_iff.1 hg
  rcases getElem?_append_cases hx with⟨hi,hx'⟩|⟨hi,hxu⟩
  ·exact(h.over i x.g (by simp[Trace.g?,hx']) hne ((counts_old hi).1 hc)).imp yjl id
  ·exact .inr (over i x hi hx hxu hne hc)
 ·obtain⟨x,hx,hxa⟩:=touch_of ha
  rcases getElem?_append_cases hx with⟨hi,hx'⟩|⟨hi,hxu⟩
  ·exact(h.wgq i a (by rw[touchAt_of hx'];exact hxa) hb).imp (fun z=>⟨z.1,fun y=>by rw[g?_old hi];exact z.2 y⟩) fun z k hk=>(z k hk).app u
  ·have:=wgq i x a hi hx hxu hxa hb
   exact .inl ⟨this.1,fun y=>by simp[Trace.g?,hx,this.2 y]⟩
 ·rcases Array.mem_append.1 hop with hop|hop
  ·exact MemAct.low_mono hB (h.seen op hop)
  ·exact seen op hop
theorem TI.step(h:TI Sh Wg n₀ p j V B t){k:Nat}(hk:k<=j)(hB:B<=B')(hV:∀m,m<=j->(∀b,(V m).dead b->(V' m).dead b)/\ ∀b,(V m).still b->(V' m).still b)
 (hd:∀m,m<=j->m≠k-> ∀b,b<B'-> ¬ (V k).dead b-> ¬ (V' m).dead b->(V k).still b/\(V' m).still b)(hw:(V k).dead Wg)
 {fn:FuncId}{pos:String}{es:Array Event}(hes:∀e∈es,EvX (V k) B' e):TI Sh Wg n₀ p j V' B' (t++MemOp.ofEvents (gn p k) fn pos es):=by
 have hu:∀op∈MemOp.ofEvents (gn p k) fn pos es,op.g=gn p k/\ ∃e∈es,op.act=.ofEvent e:=fun op hop=>by
  obtain⟨e,he,rfl⟩:=Go.Conc.mem_ofEvents hop;exact⟨rfl,e,he,rfl⟩
 have ht:∀op∈MemOp.ofEvents (gn p k) fn pos es,∀x,op.act.touch?=some x-> ∃b,LocIn b x.loc/\ ¬ (V k).dead b/\b<B'/\(x.write=true-> ¬ (V k).still b)/\x.kind=.plain:=fun op hop x hx=>by
  obtain⟨_,e,he,ha⟩:=hu op hop
  exact yzj (hes e he) (ha ▸ hx)
 refine h.grow hB hV (fun said=>?_) ?_ ?_ ?_ ?_ ?_ ?_
 ·refine noRace_append (h.clean said) (fun op hop=>(hu op hop).1) fun i a ha op hop b hb hc=>?_
  obtain⟨c,hc1,hc2,_,hc4,_⟩:=ht op hop b hb
  refine h.mine k hk i a c ha (by rw[hc.1];exact hc1) hc2 fun hs=>?_
  rcases hc.2.2.1 with z|z
  ·exact z
  ·exact absurd hs (hc4 z)
 ·intro m hm i op x b hi hx hop hxa hb hdd hss
  by_cases e:m=k
  ·subst e
   have:=knows_own hx
   rw[(hu op hop).1]at this
   exact this
  ·obtain⟨c,hc1,hc2,hc3,hc4,_⟩:=ht op hop x hxa
   obtain rfl:=hb.uniq hc1
   have:=hd m hm e b hc3 hc2 hdd
   exact absurd this.1 (hc4 (hss this.2))
 ·intro i op x b hi hx hop hxa hb
  obtain⟨c,hc1,hc2,hc3,hc4,hc5⟩:=ht op hop x hxa
  cases k with
  |zero=>
    have:=knows_own hx
    rw[(hu op hop).1]at this
    exact .inl this
  |succ k'=>exact .inr (.inr ⟨k',om,by unfold Trace.g?;rw[hx,Option.map_some,(hu op hop).1];rfl,x,by simp[Trace.act?,hx,hxa],hb.mem,.inl (by rw[hc5];simp)⟩)
 ·intro i op hi hx hop hne hc
  rw[(hu op hop).1]at hne⊢
  cases k with
  |zero=>exact absurd rfl hne
  |succ k'=>exact⟨k',om,rfl⟩
 ·intro i op x hi hx hop hxa hb
  obtain⟨c,hc1,hc2,_⟩:=ht op hop x hxa
  obtain rfl:=hb.uniq hc1
  exact absurd hw hc2
 ·intro op hop
  obtain⟨_,e,he,ha⟩:=hu op hop
  rw[ha];exact(yak (hes e he)).2.2.2
 ·intro op hop
  obtain⟨_,e,he,ha⟩:=hu op hop
  rw[ha];exact(xw2 (hes e he)).1 _
theorem TI.mute(h:TI Sh Wg n₀ p j V B t)(hn:∀op∈u,op.act.touch?=none)(hl:∀op∈u,op.act.low B)(hr:∀op∈u,op.act≠.mark (.release (stA Wg))):TI Sh Wg n₀ p j V B (t++u):=by
 refine h.grow (Nat.le_refl _) (fun _ _=>⟨fun _ z=>z,fun _ z=>z⟩) (fun said=>noRace_appendMute (h.clean said) hn) ?_ ?_ ?_ ?_ hl hr
 ·intro m hm i op x b hi hx hop hxa;rw[hn op hop]at hxa;cases hxa
 ·intro i op x b hi hx hop hxa;rw[hn op hop]at hxa;cases hxa
 ·intro i op hi hx hop hne hc
  obtain⟨x,hx',_⟩:=hc
  simp only[Trace.act?,hx,Option.map_some,Option.bind_some]at hx'
  rw[hn op hop]at hx';cases hx'
 ·intro i op x hi hx hop hxa;rw[hn op hop]at hxa;cases hxa
theorem TI.wg(h:TI Sh Wg n₀ p j V B t){k:Nat}(hk:k<=j)(hw:∀m,m<=j->(V m).dead Wg)(hu:∀op∈u,op.g=gn p k)
 (ht:∀op∈u,∀x,op.act.touch?=some x->(∃a:Addr,x.loc=.cell a/\a.block=Wg)/\x.kind≠.plain/\(x.kind=.said->gn p k=0))
 (hl:∀op∈u,op.act.low B)(hr:∀op∈u,op.act≠.mark (.release (stA Wg))):TI Sh Wg n₀ p j V B (t++u):=by
 refine h.grow (Nat.le_refl _) (fun _ _=>⟨fun _ z=>z,fun _ z=>z⟩) (fun said=>?_) ?_ ?_ ?_ ?_ hl hr
 ·refine noRace_append (h.clean said) hu fun i a ha op hop b hb hcf=>?_
  obtain⟨⟨c,hc1,hc2⟩,h2,h3⟩:=ht op hop b hb
  have hin:LocIn Wg a.loc:=by rw[hcf.1,hc1];exact hc2
  rcases h.wgq i a ha hin with⟨z1,z2⟩|z
  ·rcases hcf.2.2.2 with y|y|⟨_,y1,y2⟩
   ·exact absurd y z1
   ·exact absurd y h2
   ·have hg:=z2 y1
    obtain⟨x,hx,hxg⟩:=Option.map_eq_some_iff.1 hg
    have:=knows_own hx
    rw[hxg]at this
    rw[h3 y2];exact this
  ·exact z k hk
 ·intro m hm i op x b hi hx hop hxa hb hdd _
  obtain⟨⟨c,hc1,hc2⟩,_⟩:=ht op hop x hxa
  rw[hc1]at hb
  obtain rfl:Wg=b:=hc2.symm.trans hb
  exact absurd (hw m hm) hdd
 ·intro i op x b hi hx hop hxa hb
  obtain⟨⟨c,hc1,hc2⟩,h2,h3⟩:=ht op hop x hxa
  have hbW:b=Wg:=by rw[hc1]at hb;exact hb.symm.trans hc2
  cases hkd:x.kind with
  |plain=>exact absurd hkd h2
  |atomic=>exact .inr (.inl ⟨.inr hbW,⟨c,hc1⟩,rfl⟩)
  |said=>
    have:=knows_own hx
    rw[hu op hop,h3 hkd]at this
    exact .inl this
 ·intro i op _ _ hop hne _
  rw[hu op hop]at hne⊢
  cases k with
  |zero=>exact absurd rfl hne
  |succ k'=>exact⟨k',om,rfl⟩
 ·intro i op x hi hx hop hxa _
  obtain⟨_,h2,h3⟩:=ht op hop x hxa
  exact⟨h2,fun y=>by rw[hu op hop,h3 y]⟩
theorem TI.fork(h:TI Sh Wg n₀ p j V B t){x y:MemOp}(hx:x.g=0/\x.act=.go (p+j))(hy:y.g=p+j/\y.act=.start)(h0:Deaf t 0=0)(hk_:Deaf t (p+j)=0)
 (hV:∀m,m<=j->(∀b,(V m).dead b->(V' m).dead b)/\ ∀b,(V m).still b->(V' m).still b)
 (hc:∀b,¬ (V' (j+1)).dead b-> ¬ (V 0).dead b/\((V 0).still b->(V' (j+1)).still b)):TI Sh Wg n₀ p (j+1) V' B (t++#[x,y]):=by
 have hnt:∀op∈#[x,y],op.act.touch?=none:=by
  intro op hop
  simp only[List.mem_toArray,List.mem_cons,List.not_mem_nil,or_false]at hop
  rcases hop with rfl|rfl
  ·rw[hx.2];rfl
  ·rw[hy.2];rfl
 have hlow:∀op∈#[x,y],op.act.low B:=by
  intro op hop
  simp only[List.mem_toArray,List.mem_cons,List.not_mem_nil,or_false]at hop
  rcases hop with rfl|rfl
  ·rw[hx.2];trivial
  ·rw[hy.2];trivial
 have hr:∀op∈#[x,y],op.act≠.mark (.release (stA Wg)):=by
  intro op hop
  simp only[List.mem_toArray,List.mem_cons,List.not_mem_nil,or_false]at hop
  rcases hop with rfl|rfl
  ·rw[hx.2];simp
  ·rw[hy.2];simp
 have T:=h.mute hnt hlow hr
 have old:∀{i:Nat}{a:Touch},touchAt (t++#[x,y]) i=some a->touchAt t i=some a:=by
  intro i a ha
  obtain⟨z,hz,hza⟩:=touch_of ha
  rcases getElem?_append_cases hz with⟨_,hz'⟩|⟨_,hzu⟩
  ·rw[touchAt_of hz'];exact hza
  ·rw[hnt z hzu]at hza;cases hza
 refine⟨T.clean,fun m hm i a b ha hb hd hs=>?_,fun i a b ha hb=>?_,fun i g hg hne hcn=>(T.over i g hg hne hcn).imp id fun⟨k,a,b⟩=>⟨k,om,b⟩,fun i a ha hb=>?_,T.seen,T.norel,T.size⟩
 ·rcases Nat.lt_or_ge j m with hlt|hge
  ·obtain rfl:m=j+1:=om
   obtain⟨h1,h2⟩:=hc b hd
   exact fork_knows hx hy h0 hk_ (h.mine 0 (Nat.zero_le _) i a b (old ha) hb h1 fun z=>hs (h2 z))
  ·exact T.mine m hge i a b ha hb (fun z=>hd ((hV m hge).1 b z)) fun z=>hs ((hV m hge).2 b z)
 ·exact(T.known i a b ha hb).imp id (Or.imp id fun⟨k,hk,z⟩=>⟨k,om,z⟩)
 ·rcases h.wgq i a (old ha) hb with z|z
  ·refine .inl ⟨z.1,fun q=>?_⟩
   have hg:=z.2 q
   rw[g?_old (yjz hg)];exact hg
  ·refine .inr fun k hk=>?_
   rcases Nat.lt_or_ge j k with hlt|hge
   ·obtain rfl:k=j+1:=om
    exact fork_knows hx hy h0 hk_ (z 0 (Nat.zero_le _))
   ·exact(z k hge).app _
theorem TI.start{S:Nat->Prop}(h:Past (ShunOf S) B t)(hW:¬ S Wg){V0:Vw}(hV:∀b,¬ V0.dead b-> ¬ S b):TI S Wg t.size p 0 (fun _=>V0) B t:=by
 have key:∀i a b,touchAt t i=some a->LocIn b a.loc->Knows t 0 i\/(S b/\(∃x,a.loc=.cell x)/\a.kind=.atomic):=fun i a b ha hb=>by
  rcases h.known i a ha hb.mem with z|⟨⟨x,hx,hs⟩,z⟩
  ·exact .inl z
  ·refine .inr ⟨?_,⟨x,hx⟩,z⟩
   rw[hx]at hb
   obtain rfl:x.block=b:=hb
   exact hs
 refine⟨h.clean,fun k hk i a b ha hb hd _=>?_,fun i a b ha hb=>(key i a b ha hb).imp id fun z=>.inl ⟨.inl z.1,z.2⟩,fun i g hg hne hc=>.inl (h.over i g hg hne hc),fun i a ha hb=>.inr fun k hk=>?_,h.seen,fun k hk e=>?_,Nat.le_refl _⟩
 ·obtain rfl:k=0:=om
  exact(key i a b ha hb).elim id fun z=>absurd z.1 (hV b hd)
 ·obtain rfl:k=0:=om
  exact(key i a Wg ha hb).elim id fun z=>absurd z.1 hW
 ·have:=lt_of_act? e
  omega
def AcqAt(Wg n₀ p j:Nat)(t:Trace):Prop:=
 ∃q,t.act? q=some (.mark (.acquire (stA Wg)))/\t.g? q=some 0/\t.heard q/\ ∀k,k<j-> ∃r,n₀<=r/\RelBy (stA Wg) t (p+k) r/\r<q
theorem TI.finish(h:TI Sh Wg n₀ p j V B t)(ha:AcqAt Wg n₀ p j t)(h0:Deaf t 0=0){S:Nat->Prop}(hS:∀b,Sh b\/b=Wg->S b):Past (ShunOf S) B t:=by
 obtain⟨q,hq,hqg,hqh,hall⟩:=ha
 obtain⟨z,hz,hzg⟩:=Option.map_eq_some_iff.1 hqg
 have key:∀i k,k<j->t.g? i=some (p+k)->t.counts i->HappensBefore t i q:=fun i k hk hg hc=>by
  obtain⟨r,hr0,hr,hrq⟩:=hall k hk
  have edge:HappensBefore t r q:=.single (.inr ⟨.marked hrq (.inr hr.act) hq (fun m hm _=>h.norel m om),hr.heard,hqh⟩)
  have hle:i<=r:=Nat.le_of_not_lt fun hlt=>hr.after i hlt hg hc
  rcases Nat.lt_or_ge i r with hlt|hge
  ·exact .trans (.single (.inl ⟨hlt,p+k,hg,hr.g⟩)) edge
  ·obtain rfl:i=r:=om
   exact edge
 refine⟨h.clean,fun i a hi hm=>?_,fun i g hg hne hc=>?_,h0,h.seen⟩
 ·obtain⟨b,hb⟩:=xp0 hm
  rcases h.known i a b hi hb with y|⟨y1,⟨x,hx⟩,y2⟩|⟨k,hk,y1,y2⟩
  ·exact .inl y
  ·refine .inr ⟨⟨x,hx,hS _ ?_⟩,y2⟩
   rw[hx]at hb
   obtain rfl:x.block=b:=hb
   exact y1
  ·exact .inl ⟨q,z,hz,hzg,.inr (key i k hk y1 y2)⟩
 ·rcases h.over i g hg hne hc with y|⟨k,hk,rfl⟩
  ·exact y
  ·exact⟨q,hqg,key i k hk hg hc⟩
end
end Go.X
namespace Go.X
open Go.Conc
def nil0:Obj:=.cells #[] 0 (0,0)
def frzO:Obj->Obj
 |.cells c e _=>.cells c e (0,c.size)
 |_=>nil0
def cutV(A K:List Nat)(h:Heap):Heap:=h.mapIdx fun b o=>if b∈A then nil0 else if b∈K then o else frzO o
theorem xac{A K:List Nat}{h:Heap}:(cutV A K h).size=h.size:=by simp[cutV]
theorem xoc{A K:List Nat}{h:Heap}{b:Nat}:(cutV A K h)[b]?=(h[b]?).map fun o=>if b∈A then nil0 else if b∈K then o else frzO o:=by
 simp[cutV,Array.getElem?_mapIdx]
def Exc(h:Heap)(b:Nat):Prop:=∃c e,h[b]?=some (.cells c e (0,0))/\0<c.size
theorem Veil.exc{V:Vw}{h r:Heap}(v:Veil V h r){b:Nat}(x:Exc h b):¬ V.dead b/\ ¬ V.still b:=by
 obtain⟨c,e,hb,hc⟩:=x
 refine⟨fun hs=>?_,fun ht=>?_⟩
 ·rw[v.shun _ hs]at hb
  cases hb
  simp at hc
 ·obtain⟨c',e',f',_,hh⟩:=v.frz _ ht
  rw[hh]at hb
  simp only[Option.some.injEq,Obj.cells.injEq,Prod.mk.injEq]at hb
  obtain⟨rfl,_,_,hz⟩:=hb
  omega
def isCells:Obj->Bool
 |.cells .. => true
 |_=>false
def cutW(A K:List Nat)(h:Heap)(V:Vw):Vw:=
 ⟨fun b=>V.dead b\/(b<h.size/\(b∈A\/(b∉K/\ ∀o,h[b]?=some o->isCells o=false))),fun b=>b<h.size/\ ¬ V.dead b/\b∉A/\b∉K/\ ∃o,h[b]?=some o/\isCells o=true⟩
section
variable{A K:List Nat}{h r r':Heap}{V:Vw}
theorem Veil.cut(v:Veil V h r)(hK:∀b∈K,Exc h b):Veil (cutW A K h V) (cutV A K h) r:=by
 refine⟨by rw[xac];exact v.size,fun b hd hs=>?_,fun b hd=>?_,fun b hs=>?_⟩
 ·rw[xoc]
  rcases Nat.lt_or_ge b h.size with hlt|hge
  ·have hnd:¬ V.dead b:=fun x=>hd (.inl x)
   have hnA:b∉A:=fun x=>hd (.inr ⟨hlt,.inl x⟩)
   have hbK:b∈K:=by
    refine Classical.byContradiction fun hn=>?_
    cases ho:h[b]? with
    |none=>have:=Array.getElem?_eq_none_iff.1 ho;omega
    |some o=>
      cases hc:isCells o with
      |true=>exact hs ⟨hlt,hnd,hnA,hn,o,ho,hc⟩
      |false=>exact hd (.inr ⟨hlt,.inr ⟨hn,fun o' ho'=>by rw[ho]at ho';cases ho';exact hc⟩⟩)
   have hnt:=(v.exc (hK b hbK)).2
   rw[v.same b hnd hnt]
   cases r[b]? <;> simp[hnA,hbK]
  ·rw[Array.getElem?_eq_none hge,Array.getElem?_eq_none (by rw[<- v.size];exact hge)];rfl
 ·rw[xoc]
  rcases hd with hd|⟨hlt,hd⟩
  ·rw[v.shun b hd]
   simp only[Option.map_some]
   by_cases h1:b∈A
   ·rw[if_pos h1];rfl
   ·rw[if_neg h1]
    by_cases h2:b∈K
    ·rw[if_pos h2]
    ·rw[if_neg h2];rfl
  ·rw[Array.getElem?_eq_getElem hlt]
   simp only[Option.map_some]
   rcases hd with h1|⟨h2,h3⟩
   ·rw[if_pos h1];rfl
   ·by_cases h1:b∈A
    ·rw[if_pos h1];rfl
    ·rw[if_neg h1,if_neg h2]
     have:=h3 _ (Array.getElem?_eq_getElem hlt)
     cases ho:h[b]<;>first|rfl|(rw[ho]at this;cases this)
 ·obtain⟨hlt,hnd,h1,h2,o,ho,hc⟩:=hs
  cases o<;>first|(cases hc;done)|skip
  rename_i c e f
  have hc':(cutV A K h)[b]?=some (.cells c e (0,c.size)):=by rw[xoc,ho];simp[h1,h2,frzO]
  by_cases ht:V.still b
  ·obtain⟨c',e',f',hr,hh⟩:=v.frz b ht
   rw[hh]at ho
   cases ho
   exact⟨_,_,_,hr,hc'⟩
  ·exact⟨c,e,f,by rw[<- v.same b hnd ht];exact ho,hc'⟩
theorem xsg{b:Nat}(x:(cutW A K h V).still b):¬ (cutW A K h V).dead b:=by
 obtain⟨hlt,h1,h2,h3,o,ho,hc⟩:=x
 rintro(y|⟨_,y|⟨_,y⟩⟩)
 ·exact h1 y
 ·exact h2 y
 ·rw[y o ho]at hc;cases hc
theorem Veil.cut_still(v:Veil V h r)(ap:∀b,V.still b-> ¬ V.dead b)(hA:∀b∈A,Exc h b)(hK:∀b∈K,Exc h b){b:Nat}(x:V.still b):(cutW A K h V).still b:=by
 obtain⟨c,e,f,hr,hh⟩:=v.frz b x
 exact⟨(Array.getElem?_eq_some_iff.1 hh).1,ap b x,fun y=>(v.exc (hA b y)).2 x,fun y=>(v.exc (hK b y)).2 x,_,hh,rfl⟩
theorem xws{b:Nat}(hlt:b<h.size)(hd:¬ (cutW A K h V).dead b)(hn:b∉K):(cutW A K h V).still b:=by
 have h1:¬ V.dead b:=fun x=>hd (.inl x)
 have h2:b∉A:=fun x=>hd (.inr ⟨hlt,.inl x⟩)
 refine⟨hlt,h1,h2,hn,h[b],Array.getElem?_eq_getElem hlt,?_⟩
 cases hc:isCells h[b]with
 |true=>rfl
 |false=>exact absurd (.inr ⟨hlt,.inr ⟨hn,fun o ho=>by rw[Array.getElem?_eq_getElem hlt]at ho;cases ho;exact hc⟩⟩) hd
def extV(B B':Nat)(V:Vw):Vw:=⟨fun b=>V.dead b\/(B<=b/\b<B'),V.still⟩
def padH(n:Nat)(h:Heap):Heap:=h++Array.replicate (n-h.size) nil0
theorem padH_keep{n:Nat}:Keep h (padH n h):=⟨by simp[padH],fun b hb=>by unfold padH;rw[Array.getElem?_append_left hb]⟩
theorem xf0{n:Nat}(hn:h.size<=n):(padH n h).size=n:=by simp[padH];omega
theorem Veil.ext(v:Veil V h r)(ap:∀b,V.still b-> ¬ V.dead b)(hsz:r.size<=r'.size)(hs:∀b,b<r.size-> ¬ V.dead b->r'[b]?=r[b]?):Veil (extV r.size r'.size V) (padH r'.size h) r':=by
 have hz:=v.size
 refine⟨by rw[xf0 om],fun b hd ht=>?_,fun b hd=>?_,fun b ht=>?_⟩
 ·rcases Nat.lt_or_ge b r.size with hlt|hge
  ·rw[padH_keep.keep b om,v.same b (fun x=>hd (.inl x)) ht,hs b hlt fun x=>hd (.inl x)]
  ·have:r'.size<=b:=Nat.le_of_not_lt fun x=>hd (.inr ⟨hge,x⟩)
   rw[Array.getElem?_eq_none (by rw[xf0 om];exact this),Array.getElem?_eq_none this]
 ·rcases hd with hd|⟨h1,h2⟩
  ·rw[padH_keep.keep b (by have:=v.lt hd;omega)];exact v.shun b hd
  ·unfold padH
   rw[Array.getElem?_append_right om,Array.getElem?_replicate,if_pos om];rfl
 ·obtain⟨c,e,f,hr,hh⟩:=v.frz b ht
  have hlt:=v.lts ht
  exact⟨c,e,f,(hs b hlt (ap b ht)).trans hr,by rw[padH_keep.keep b om];exact hh⟩
theorem Veil.on(v:Veil V h r)(ap:∀b,V.still b-> ¬ V.dead b)(hsz:r'.size=r.size)(hs:∀b,¬ V.dead b->r'[b]?=r[b]?):Veil V h r':=
 ⟨v.size.trans hsz.symm,fun b hd ht=>(v.same b hd ht).trans (hs b hd).symm,v.shun,fun b ht=>by obtain⟨c,e,f,hr,hh⟩:=v.frz b ht;exact⟨c,e,f,(hs b (ap b ht)).trans hr,hh⟩⟩
end
section
variable{P:Program}(st:Nat->Option (Goroutine->Heap->Prop))
def RK(P:Program)(k:Nat)(x:Goroutine×Heap):Prop:=∀S,st k=some S->Reach P (.own (k==0)) x.1 x.2 S
variable{st}
def Ahead(P:Program)(st:Nat->Option (Goroutine->Heap->Prop))(J:(Nat->Goroutine×Heap)->Prop)(c:Nat->Goroutine×Heap)(k:Nat):Prop:=
 ∀S,st k=some S->S (c k).1 (c k).2\/Own P (k==0) (c k).1 (c k).2 fun g h=>Reach P (.own (k==0)) g h S/\ ∀c',c' k=(g,h)->(∀m,m<k->c' m=c m)->(∀m,RK st P m (c' m))->J c'
theorem ynb{J:(Nat->Goroutine×Heap)->Prop}{i:Nat}(H:∀c,(∀k,RK st P k (c k))->(∀k,k<i+1->Ahead P st J c k)->J c):
 ∀c,(∀k,RK st P k (c k))->(∀k,k<i->Ahead P st J c k)->J c:=by
 intro c hR hA
 cases hs:st i with
 |none=>
   refine H c hR fun k hk=>?_
   rcases Nat.lt_or_ge k i with hlt|hge
   ·exact hA k hlt
   ·obtain rfl:k=i:=om
    intro S hS;rw[hs]at hS;cases hS
 |some S=>
   have key:∀g h,Reach P (.own (i==0)) g h S-> ∀c:Nat->Goroutine×Heap,c i=(g,h)->(∀k,RK st P k (c k))->(∀k,k<i->Ahead P st J c k)->J c:=by
    intro g h r
    refine(r (fun g h=>Reach P (.own (i==0)) g h S/\ ∀c:Nat->Goroutine×Heap,c i=(g,h)->(∀k,RK st P k (c k))->(∀k,k<i->Ahead P st J c k)->J c) (fun g h s=>⟨xhk s,fun c e hR hA=>?_⟩) (fun g h o=>⟨?_,fun c e hR hA=>?_⟩)).2
    ·refine H c hR fun k hk=>?_
     rcases Nat.lt_or_ge k i with hlt|hge
     ·exact hA k hlt
     ·obtain rfl:k=i:=om
      intro S' hS';rw[hs]at hS';cases hS'
      exact .inl (by rw[e];exact s)
    ·exact xbj (md:=.own (i==0)) (o.mono fun _ _ x=>x.1)
    ·refine H c hR fun k hk=>?_
     rcases Nat.lt_or_ge k i with hlt|hge
     ·exact hA k hlt
     ·obtain rfl:k=i:=om
      intro S' hS';rw[hs]at hS';cases hS'
      refine .inr ?_
      rw[e]
      refine o.mono fun g' h' x=>⟨x.1,fun c' e' hm hR'=>x.2 c' e' hR' fun m hm'=>?_⟩
      intro S'' hS''
      have:=hA m hm' S'' hS''
      rw[hm m hm']
      exact this.imp id fun o'=>o'.mono fun g'' h'' y=>⟨y.1,fun c'' e'' hm'' hR''=>y.2 c'' e'' (fun a ha=>(hm'' a ha).trans (hm a (Nat.lt_trans ha hm'))) hR''⟩
   exact key _ _ (hR i S hs) c rfl hR hA
theorem nest{J:(Nat->Goroutine×Heap)->Prop}{n:Nat}(H:∀c,(∀k,RK st P k (c k))->(∀k,k<n->Ahead P st J c k)->J c):∀c,(∀k,RK st P k (c k))->J c:=by
 induction n with
 |zero=>exact fun c hR=>H c hR fun k hk=>absurd hk (Nat.not_lt_zero k)
 |succ n ih=>exact ih (ynb H)
end
end Go.X
namespace Go.X
open Go.Conc
open Go.ConcN (RelBy sumTo upd sumTo_upd upd_ne upd_same)
open Go.ConcR (KK wgBlock WgAt stA smA rd wr mk)
structure Site where
 ty:TypeId
 Wg:Nat
 S:Nat->Prop
 h₀:Heap
 Z:List Nat
 p:Nat
 n₀:Nat
def Site.Old(s:Site)(b:Nat):Prop:=b<s.h₀.size/\b≠s.Wg/\b∉s.Z
structure Crew(s:Site)(P:Program)(j:Nat)(V:Nat->Vw)(hv:Nat->Heap)(g:Nat->Goroutine)(dd:Nat->Nat)(q:Nat->Nat)(gs:Array Goroutine)(w:World)(t:Trace):Prop where
 pos:0<s.p
 size:gs.size=s.p+j
 at':∀k,k<=j->gs[gn s.p k]?=some (g k)
 lv:∀i x,0<i->i<s.p->gs[i]?=some x->QuitsD P (q i) (Deaf t i) x
 above:∀i,gs.size<=i->Deaf t i=0
 veil:∀k,k<=j->Veil (V k) (hv k) w.heap
 apart:∀k,k<=j-> ∀b,(V k).still b-> ¬ (V k).dead b
 dis:∀k m,k<=j->m<=j->k≠m-> ∀b,b<w.heap.size-> ¬ (V k).dead b-> ¬ (V m).dead b->(V k).still b/\(V m).still b
 wgd:∀k,k<=j->(V k).dead s.Wg
 old:∀b,s.Old b-> ¬ s.S b->w.heap[b]?=s.h₀[b]?
 oldV:∀k,k<=j-> ∀b,s.Old b->(V k).dead b\/(V k).still b
 sd:∀k,k<=j-> ∀b,s.S b->(V k).dead b
 h0sz:s.h₀.size<=w.heap.size
 ti:TI s.S s.Wg s.n₀ s.p j V w.heap.size t
 deaf:∀k,k<=j->Deaf t (gn s.p k)=dd k
theorem xu7{e:Event}(h:e.mute=true)(a:Addr):MemAct.ofEvent e≠.mark (.release a):=by
 obtain⟨loc,wr,sy⟩:=e
 cases loc<;>simp_all[Event.mute,MemAct.ofEvent]
 all_goals
  rename_i m
  cases m<;>simp_all
theorem xs5{p k m:Nat}(hp:0<p)(h:gn p k=gn p m):k=m:=by
 cases k<;>cases m<;>simp only[gn]at h<;>omega
theorem ytr{p k j:Nat}(hp:0<p)(h:k<=j):gn p k<p+j:=by
 cases k<;>simp only[gn]<;>omega
theorem ydj{p k:Nat}(hp:0<p):gn p k=0<->k=0:=by
 cases k<;>simp only[gn]<;>omega
theorem xr5{p k i:Nat}(hi:0<i)(hip:i<p):gn p k≠i:=by
 cases k<;>simp only[gn]<;>omega
theorem yll{p k:Nat}(hp:0<p):(gn p k==0)=(k==0):=by
 cases k<;>simp only[gn]<;>simp;omega
section
variable{s:Site}{P:Program}{j:Nat}{V:Nat->Vw}{hv:Nat->Heap}{g:Nat->Goroutine}{dd q:Nat->Nat}{gs:Array Goroutine}{w w':World}{t:Trace}{sl:Option (Nat×Nat)}
def wok(P:Program)(a a':Goroutine)(w':World)(k:Nat)(g:Nat->Goroutine):Nat->Goroutine:=upd (fun m=>woken P a a' w' (g m)) k a'
theorem xgs(f:Goroutine->Goroutine)(a:Nat)(x:Goroutine)(b:Nat)(hb:a≠b):((gs.map f).setIfInBounds a x)[b]?=(gs[b]?).map f:=by
 rw[Array.getElem?_setIfInBounds_ne hb,Array.getElem?_map]
theorem xt5(f:Goroutine->Goroutine)(a:Nat)(x:Goroutine)(ha:a<gs.size):((gs.map f).setIfInBounds a x)[a]?=some x:=by simp[ha]
theorem xuc{i:Nat}{fn:FuncId}{pos:String}{es:Array Event}:∀op∈MemOp.ofEvents i fn pos es,op.g=i:=fun op hop=>by
 obtain⟨e,_,rfl⟩:=Go.Conc.mem_ofEvents hop;rfl
theorem Crew.gs_step(C:Crew s P j V hv g dd q gs w t){k:Nat}(hk:k<=j){a':Goroutine}{fn:FuncId}{pos:String}{es:Array Event}:
 ((gs.map (woken P (g k) a' w')).setIfInBounds (gn s.p k) a').size=s.p+j/\
 (∀m,m<=j->((gs.map (woken P (g k) a' w')).setIfInBounds (gn s.p k) a')[gn s.p m]?=some (wok P (g k) a' w' k g m))/\
 (∀i x,0<i->i<s.p->((gs.map (woken P (g k) a' w')).setIfInBounds (gn s.p k) a')[i]?=some x->QuitsD P (q i) (Deaf (t++MemOp.ofEvents (gn s.p k) fn pos es) i) x)/\
 (∀i,((gs.map (woken P (g k) a' w')).setIfInBounds (gn s.p k) a').size<=i->Deaf (t++MemOp.ofEvents (gn s.p k) fn pos es) i=0)/\
 ∀m,m<=j->Deaf (t++MemOp.ofEvents (gn s.p k) fn pos es) (gn s.p m)=upd dd k (deafBehind (dd k) es) m:=by
 have hsz:((gs.map (woken P (g k) a' w')).setIfInBounds (gn s.p k) a').size=gs.size:=by simp
 have hlt:gn s.p k<gs.size:=by rw[C.size];exact ytr C.pos hk
 refine⟨hsz.trans C.size,fun m hm=>?_,fun i x hi hip hx=>?_,fun i hi=>?_,fun m hm=>?_⟩
 ·by_cases e:m=k
  ·subst e;rw[xt5 _ _ _ hlt];simp[wok,upd_same]
  ·rw[xgs _ _ _ _ (fun x=>e (xs5 C.pos x).symm),C.at' m hm];simp[wok,upd_ne _ _ e]
 ·rw[xgs _ _ _ _ (xr5 hi hip)]at hx
  obtain⟨y,hy,rfl⟩:=Option.map_eq_some_iff.1 hx
  have hq:=C.lv i y hi hip hy
  rw[woken_quitsD hq,Deaf_other t (xr5 hi hip) _ xuc]
  exact hq
 ·rw[hsz]at hi
  rw[Deaf_other t om _ xuc]
  exact C.above i hi
 ·by_cases e:m=k
  ·subst e;rw[Deaf_own,C.deaf m hm,upd_same]
  ·rw[Deaf_other t (fun x=>e (xs5 C.pos x).symm) _ xuc,C.deaf m hm,upd_ne _ _ e]
theorem Crew.own(C:Crew s P j V hv g dd q gs w t){k:Nat}(hk:k<=j){a':Goroutine}{h':Heap}{fn:FuncId}{pos:String}{es:Array Event}
 (hV:Veil (V k) h' w'.heap)(hq:Quiet (V k) w w')(hes:∀e∈es,EvX (V k) w'.heap.size e):
 Crew s P j (fun m=>if m=k then V k else extV w.heap.size w'.heap.size (V m)) (fun m=>if m=k then h' else padH w'.heap.size (hv m)) (wok P (g k) a' w' k g) dd q
  ((gs.map (woken P (g k) a' w')).setIfInBounds (gn s.p k) a') w' (t++MemOp.ofEvents (gn s.p k) fn pos es):=by
 obtain⟨g1,g2,g3,g4,g5⟩:=C.gs_step (w':=w') hk (a':=a') (fn:=fn) (pos:=pos) (es:=es)
 have hd:deafBehind (dd k) es=dd k:=deafBehind_still (fun e he=>⟨(xw2 (hes e he)).2.1,(xw2 (hes e he)).2.2⟩) _
 have same:∀m,m<=j->m≠k-> ∀b,b<w.heap.size-> ¬ (V m).dead b->w'.heap[b]?=w.heap[b]?:=fun m hm e b hb hdd=>by
  refine hq.stand b hb ?_
  by_cases hkd:(V k).dead b
  ·exact .inl hkd
  ·exact .inr (C.dis k m hk hm (Ne.symm e) b hb hkd hdd).1
 refine⟨C.pos,g1,g2,g3,g4,fun m hm=>?_,fun m hm b hs=>?_,fun m n hm hn hmn b hb h1 h2=>?_,fun m hm=>?_,fun b hb hS=>?_,fun m hm b hb=>?_,fun m hm b hb=>?_,Nat.le_trans C.h0sz hq.size,?_,fun m hm=>?_⟩
 ·by_cases e:m=k
  ·subst e;simp only[if_true];exact hV
  ·simp only[if_neg e]
   exact(C.veil m hm).ext (C.apart m hm) hq.size (same m hm e)
 ·by_cases e:m=k
  ·subst e;simp only[if_true]at hs⊢;exact C.apart m hm b hs
  ·simp only[if_neg e]at hs⊢
   rintro(x|⟨x,_⟩)
   ·exact C.apart m hm b hs x
   ·have:=(C.veil m hm).lts hs;omega
 ·have hmn':∀a,a<=j->a≠k-> ¬ (extV w.heap.size w'.heap.size (V a)).dead b-> ¬ (V a).dead b/\b<w.heap.size:=fun a _ _ x=>by
   refine⟨fun y=>x (.inl y),Nat.lt_of_not_le fun y=>x (.inr ⟨y,hb⟩)⟩
  by_cases e:m=k
  ·subst e
   have en:n≠m:=Ne.symm hmn
   simp only[if_true,if_neg en]at h1 h2⊢
   obtain⟨h2,hb'⟩:=hmn' n hn en h2
   exact C.dis m n hm hn hmn b hb' h1 h2
  ·by_cases en:n=k
   ·subst en
    simp only[if_true,if_neg e]at h1 h2⊢
    obtain⟨h1,hb'⟩:=hmn' m hm e h1
    exact C.dis m n hm hn hmn b hb' h1 h2
   ·simp only[if_neg e,if_neg en]at h1 h2⊢
    obtain⟨h1,hb'⟩:=hmn' m hm e h1
    obtain⟨h2,_⟩:=hmn' n hn en h2
    exact C.dis m n hm hn hmn b hb' h1 h2
 ·by_cases e:m=k
  ·subst e;simp only[if_true];exact C.wgd m hm
  ·simp only[if_neg e];exact .inl (C.wgd m hm)
 ·exact(hq.stand b (Nat.lt_of_lt_of_le hb.1 C.h0sz) (C.oldV k hk b hb)).trans (C.old b hb hS)
 ·by_cases e:m=k
  ·subst e;simp only[if_true];exact C.oldV m hm b hb
  ·simp only[if_neg e];exact(C.oldV m hm b hb).imp .inl id
 ·by_cases e:m=k
  ·subst e;simp only[if_true];exact C.sd m hm b hb
  ·simp only[if_neg e];exact .inl (C.sd m hm b hb)
 ·refine(C.ti).step hk hq.size (fun m _=>?_) (fun m hm e b hb h1 h2=>?_) (C.wgd k hk) hes
  ·by_cases e:m=k
   ·subst e;simp only[if_true];exact⟨fun _ x=>x,fun _ x=>x⟩
   ·simp only[if_neg e];exact⟨fun _ x=>.inl x,fun _ x=>x⟩
  ·simp only[if_neg e]at h2⊢
   exact C.dis k m hk hm (Ne.symm e) b (Nat.lt_of_not_le fun y=>h2 (.inr ⟨y,hb⟩)) h1 (fun y=>h2 (.inl y))
 ·rw[g5 m hm,hd]
  by_cases e:m=k
  ·subst e;rw[upd_same]
  ·rw[upd_ne _ _ e]
theorem Crew.book(C:Crew s P j V hv g dd q gs w t){k:Nat}(hk:k<=j){a':Goroutine}{fn:FuncId}{pos:String}{es:Array Event}
 (hsz:w'.heap.size=w.heap.size)(hb:∀b,b≠s.Wg->w'.heap[b]?=w.heap[b]?)
 (ht:∀e∈es,∀x,(MemAct.ofEvent e).touch?=some x->(∃a:Addr,x.loc=.cell a/\a.block=s.Wg)/\x.kind≠.plain/\(x.kind=.said->k=0))
 (hl:∀e∈es,(MemAct.ofEvent e).low w.heap.size)(hr:∀e∈es,MemAct.ofEvent e≠.mark (.release (stA s.Wg))):
 Crew s P j V hv (wok P (g k) a' w' k g) (upd dd k (deafBehind (dd k) es)) q ((gs.map (woken P (g k) a' w')).setIfInBounds (gn s.p k) a') w' (t++MemOp.ofEvents (gn s.p k) fn pos es):=by
 obtain⟨g1,g2,g3,g4,g5⟩:=C.gs_step (w':=w') hk (a':=a') (fn:=fn) (pos:=pos) (es:=es)
 refine⟨C.pos,g1,g2,g3,g4,fun m hm=>(C.veil m hm).on (C.apart m hm) hsz fun b hd=>hb b fun e=>hd (e ▸ C.wgd m hm),C.apart,fun m n hm hn hmn b hlt=>C.dis m n hm hn hmn b (hsz ▸ hlt),C.wgd,fun b hbo hS=>(hb b hbo.2.1).trans (C.old b hbo hS),C.oldV,C.sd,by rw[hsz];exact C.h0sz,?_,g5⟩
 rw[hsz]
 refine C.ti.wg hk C.wgd xuc (fun op hop x hx=>?_) (fun op hop=>?_) fun op hop=>?_
 ·obtain⟨e,he,rfl⟩:=Go.Conc.mem_ofEvents hop
  obtain⟨a,b,c⟩:=ht e he x hx
  exact⟨a,b,fun y=>(ydj C.pos).2 (c y)⟩
 ·obtain⟨e,he,rfl⟩:=Go.Conc.mem_ofEvents hop
  exact hl e he
 ·obtain⟨e,he,rfl⟩:=Go.Conc.mem_ofEvents hop
  exact hr e he
theorem Crew.slip(C:Crew s P j V hv g dd q gs w t){i m:Nat}(hi:0<i)(hip:i<s.p){a a':Goroutine}{fn:FuncId}{pos:String}{es:Array Event}(hm:∀e∈es,e.mute=true)(hq:QuitsD P m (deafBehind (Deaf t i) es) a'):
 Crew s P j V hv (fun k=>woken P a a' w (g k)) dd (upd q i m) ((gs.map (woken P a a' w)).setIfInBounds i a') w (t++MemOp.ofEvents i fn pos es):=by
 have hsz:((gs.map (woken P a a' w)).setIfInBounds i a').size=gs.size:=by simp
 refine⟨C.pos,hsz.trans C.size,fun k hk=>?_,fun i' x hi' hip' hx=>?_,fun i' hi'=>?_,C.veil,C.apart,C.dis,C.wgd,C.old,C.oldV,C.sd,C.h0sz,?_,fun k hk=>?_⟩
 ·rw[xgs _ _ _ _ (Ne.symm (xr5 hi hip)),C.at' k hk];rfl
 ·by_cases e:i'=i
  ·subst e
   rw[xt5 _ _ _ (by rw[C.size];omega)]at hx
   cases hx
   rw[upd_same,Deaf_own];exact hq
  ·rw[xgs _ _ _ _ (Ne.symm e)]at hx
   obtain⟨y,hy,rfl⟩:=Option.map_eq_some_iff.1 hx
   have hq':=C.lv i' y hi' hip' hy
   rw[woken_quitsD hq',Deaf_other t (Ne.symm e) _ xuc,upd_ne _ _ e]
   exact hq'
 ·rw[hsz]at hi'
  rw[Deaf_other t (by have:=C.size;omega) _ xuc]
  exact C.above i' hi'
 ·refine C.ti.mute (fun op hop=>?_) (fun op hop=>?_) fun op hop=>?_
  ·obtain⟨e,he,rfl⟩:=Go.Conc.mem_ofEvents hop;exact touch_mute (hm e he)
  ·obtain⟨e,he,rfl⟩:=Go.Conc.mem_ofEvents hop;exact low_mute (hm e he) _
  ·obtain⟨e,he,rfl⟩:=Go.Conc.mem_ofEvents hop
   exact xu7 (hm e he) _
 ·rw[Deaf_other t (Ne.symm (xr5 hi hip)) _ xuc];exact C.deaf k hk
theorem Crew.fork(C:Crew s P j V hv g dd q gs w t){X Z:List Nat}(hX:∀b∈X,Exc (hv 0) b)(hZ:∀b∈Z,Exc (hv 0) b)(h0:dd 0=0){a' child:Goroutine}{x y:MemOp}
 (hx:x.g=0/\x.act=.go (s.p+j))(hy:y.g=s.p+j/\y.act=.start):
 Crew s P (j+1) (fun m=>if m=0 then cutW X Z (hv 0) (V 0)else if m=j+1 then cutW Z X (hv 0) (V 0)else V m) (fun m=>if m=0 then cutV X Z (hv 0)else if m=j+1 then cutV Z X (hv 0)else hv m)
  (fun m=>if m=0 then a' else if m=j+1 then child else g m) (fun m=>if m=j+1 then 0 else dd m) q ((gs.setIfInBounds 0 a').push child) w (t++#[x,y]):=by
 have hst:∀op∈#[x,y],op.act≠.mark .disable/\op.act≠.mark .enable:=by
  intro op hop
  simp only[List.mem_toArray,List.mem_cons,List.not_mem_nil,or_false]at hop
  rcases hop with rfl|rfl
  ·rw[hx.2];exact⟨by simp,by simp⟩
  ·rw[hy.2];exact⟨by simp,by simp⟩
 have hD:∀i,Deaf (t++#[x,y]) i=Deaf t i:=fun i=>Go.ConcN.Deaf_still t i _ hst
 have v0:=C.veil 0 (Nat.zero_le _)
 have ap0:=C.apart 0 (Nat.zero_le _)
 have hsz0:=v0.size
 have hp:=C.pos
 have hgs:=C.size
 have stl:∀b,(V 0).still b->(cutW X Z (hv 0) (V 0)).still b:=fun b z=>v0.cut_still ap0 hX hZ z
 have stl':∀b,(V 0).still b->(cutW Z X (hv 0) (V 0)).still b:=fun b z=>v0.cut_still ap0 hZ hX z
 have disX:∀b,b<w.heap.size-> ¬ (cutW X Z (hv 0) (V 0)).dead b-> ¬ (cutW Z X (hv 0) (V 0)).dead b->(cutW X Z (hv 0) (V 0)).still b/\(cutW Z X (hv 0) (V 0)).still b:=fun b hb h1 h2=>by
  have hb':b<(hv 0).size:=om
  have n1:b∉X:=fun z=>h1 (.inr ⟨hb',.inl z⟩)
  have n2:b∉Z:=fun z=>h2 (.inr ⟨hb',.inl z⟩)
  exact⟨xws hb' h1 n2,xws hb' h2 n1⟩
 have disO:∀(A K:List Nat),(∀b∈A,Exc (hv 0) b)->(∀b∈K,Exc (hv 0) b)-> ∀m,m<=j->m≠0-> ∀b,b<w.heap.size-> ¬ (cutW A K (hv 0) (V 0)).dead b-> ¬ (V m).dead b->(cutW A K (hv 0) (V 0)).still b/\(V m).still b:=fun A K hA hK m hm e b hb h1 h2=>by
  have:=C.dis 0 m (Nat.zero_le _) hm (Ne.symm e) b hb (fun z=>h1 (.inl z)) h2
  exact⟨v0.cut_still ap0 hA hK this.1,this.2⟩
 refine⟨hp,by simp[hgs];omega,fun m hm=>?_,fun i z hi hip hz=>?_,fun i hi=>?_,fun m hm=>?_,fun m hm b hs=>?_,fun m n hm hn hmn b hb h1 h2=>?_,fun m hm=>?_,C.old,fun m hm b hb=>?_,fun m hm b hb=>?_,C.h0sz,?_,fun m hm=>?_⟩
 ·by_cases e0:m=0
  ·subst e0
   simp only[gn,if_true]
   rw[Array.getElem?_push,if_neg (by simp;omega),Array.getElem?_setIfInBounds_self_of_lt om]
  ·simp only[if_neg e0]
   by_cases e1:m=j+1
   ·subst e1
    simp only[gn,if_true]
    rw[Array.getElem?_push,if_pos (by simp[hgs])]
   ·simp only[if_neg e1]
    have hmj:m<=j:=om
    have hlt:=ytr hp hmj
    have hne:gn s.p m≠0:=fun z=>e0 ((ydj hp).1 z)
    rw[Array.getElem?_push,if_neg (by simp[hgs];omega),Array.getElem?_setIfInBounds_ne (Ne.symm hne)]
    exact C.at' m hmj
 ·rw[Array.getElem?_push,if_neg (by simp[hgs];omega),Array.getElem?_setIfInBounds_ne om]at hz
  rw[hD];exact C.lv i z hi hip hz
 ·rw[hD];exact C.above i (by simp at hi;omega)
 ·by_cases e0:m=0
  ·subst e0;simp only[if_true];exact v0.cut hZ
  ·simp only[if_neg e0]
   by_cases e1:m=j+1
   ·simp only[if_pos e1];exact v0.cut hX
   ·simp only[if_neg e1];exact C.veil m om
 ·by_cases e0:m=0
  ·subst e0;simp only[if_true]at hs⊢;exact xsg hs
  ·simp only[if_neg e0]at hs⊢
   by_cases e1:m=j+1
   ·simp only[if_pos e1]at hs⊢;exact xsg hs
   ·simp only[if_neg e1]at hs⊢;exact C.apart m om b hs
 ·by_cases m0:m=0
  ·subst m0
   simp only[if_true]at h1⊢
   have n0:n≠0:=Ne.symm hmn
   simp only[if_neg n0]at h2⊢
   by_cases n1:n=j+1
   ·simp only[if_pos n1]at h2⊢;exact disX b hb h1 h2
   ·simp only[if_neg n1]at h2⊢;exact disO X Z hX hZ n om n0 b hb h1 h2
  ·simp only[if_neg m0]at h1⊢
   by_cases m1:m=j+1
   ·simp only[if_pos m1]at h1⊢
    by_cases n0:n=0
    ·subst n0
     simp only[if_true]at h2⊢
     exact(disX b hb h2 h1).symm
    ·simp only[if_neg n0]at h2⊢
     have n1:n≠j+1:=fun z=>hmn (m1.trans z.symm)
     simp only[if_neg n1]at h2⊢
     exact disO Z X hZ hX n om n0 b hb h1 h2
   ·simp only[if_neg m1]at h1⊢
    by_cases n0:n=0
    ·subst n0
     simp only[if_true]at h2⊢
     exact(disO X Z hX hZ m om m0 b hb h2 h1).symm
    ·simp only[if_neg n0]at h2⊢
     by_cases n1:n=j+1
     ·simp only[if_pos n1]at h2⊢
      exact(disO Z X hZ hX m om m0 b hb h2 h1).symm
     ·simp only[if_neg n1]at h2⊢
      exact C.dis m n om om hmn b hb h1 h2
 ·by_cases e0:m=0
  ·subst e0;simp only[if_true];exact .inl (C.wgd 0 (Nat.zero_le _))
  ·simp only[if_neg e0]
   by_cases e1:m=j+1
   ·simp only[if_pos e1];exact .inl (C.wgd 0 (Nat.zero_le _))
   ·simp only[if_neg e1];exact C.wgd m om
 ·by_cases e0:m=0
  ·subst e0;simp only[if_true];exact(C.oldV 0 (Nat.zero_le _) b hb).imp .inl (stl b)
  ·simp only[if_neg e0]
   by_cases e1:m=j+1
   ·simp only[if_pos e1];exact(C.oldV 0 (Nat.zero_le _) b hb).imp .inl (stl' b)
   ·simp only[if_neg e1];exact C.oldV m om b hb
 ·by_cases e0:m=0
  ·subst e0;simp only[if_true];exact .inl (C.sd 0 (Nat.zero_le _) b hb)
  ·simp only[if_neg e0]
   by_cases e1:m=j+1
   ·simp only[if_pos e1];exact .inl (C.sd 0 (Nat.zero_le _) b hb)
   ·simp only[if_neg e1];exact C.sd m om b hb
 ·refine C.ti.fork hx hy ((C.deaf 0 (Nat.zero_le _)).trans h0) (C.above _ om) (fun m hm=>?_) fun b hd=>?_
  ·by_cases e0:m=0
   ·subst e0;simp only[if_true];exact⟨fun _ z=>.inl z,stl⟩
   ·simp only[if_neg e0]
    rw[if_neg om]
    exact⟨fun _ z=>z,fun _ z=>z⟩
  ·have:¬ (j+1=0):=om
   simp only[if_neg this,if_true]at hd⊢
   exact⟨fun z=>hd (.inl z),stl' b⟩
 ·rw[hD]
  by_cases e1:m=j+1
  ·subst e1;simp only[if_true,gn];exact C.above _ om
  ·simp only[if_neg e1];exact C.deaf m om
end
end Go.X
namespace Go.X
open Go.Conc Go.RowKit Go.Conc.Lib Go.ConcR.Gen Go.ConcN.Gen
open Go.ConcR (KK wgBlock WgAt stA smA rd wr mk DC0)
open Go.ConcN (WgLive st_flag st_waiters)
open Go.ConcN.Gen
def RLv(ty:TypeId)(Wg:Nat)(w w₁:World):Prop:=WgLive ty Wg w->WgLive ty Wg w₁
theorem xaq{ty:TypeId}{Wg:Nat}{w w₁:World}(h:WgLive ty Wg w)(r:RLv ty Wg w w₁):WgLive ty Wg w₁:=r h
section
variable(P:Program)(ty:TypeId)(Wg:Nat)(gb:Goroutine)
def AtBack(g:Goroutine)(w:World):Prop:=g=gb/\WgLive ty Wg w
def AtKeS(g:Goroutine)(w:World):Prop:=g.status=.running/\ ∃g',stepG P true g w=.go g' w #[mk .enable]/\ ∃m,Goes P true (RLv ty Wg) DC0 (AtBack ty Wg gb) m g' w
def AtRdS(g:Goroutine)(w:World):Prop:=g.status=.running/\ ∃g',stepG P true g w=.go g' w #[mk (.read (smA Wg))]/\ ∃m,Goes P true (RLv ty Wg) DC0 (AtKeS P ty Wg gb) m g' w
def AtA1(g:Goroutine)(w:World):Prop:=
 g.status=.running/\ ∀v:Nat,v<2147483647->WgAt ty Wg w (v*KK) 0->
  ∃g',stepG P true g w=.go g' (w.setCell (stA Wg) (.int .u64 ((v+1)*KK))) #[rd (stA Wg),wr (stA Wg)]/\
   (v=0-> ∃m,Goes P true (RLv ty Wg) DC0 (AtRdS P ty Wg gb) m g' (w.setCell (stA Wg) (.int .u64 ((v+1)*KK))))/\(v≠0-> ∃m,Goes P true (RLv ty Wg) DC0 (AtKeS P ty Wg gb) m g' (w.setCell (stA Wg) (.int .u64 ((v+1)*KK))))
def AtKdS(g:Goroutine)(w:World):Prop:=g.status=.running/\ ∃g',stepG P true g w=.go g' w #[mk .disable]/\ ∃m,Goes P true (RLv ty Wg) DC0 (AtA1 P ty Wg gb) m g' w
variable(AnchW:Goroutine->World->Prop)
def AtAcq(g:Goroutine)(w:World):Prop:=g.status=.running/\ ∃g',stepG P true g w=.go g' w #[mk (.acquire (stA Wg))]/\ ∃m,Goes P true (RLv ty Wg) DC0 (AtBack ty Wg gb) m g' w
def AtKe(g:Goroutine)(w:World):Prop:=g.status=.running/\ ∃g',stepG P true g w=.go g' w #[mk .enable]/\ ∃m,Goes P true (RLv ty Wg) DC0 (AtAcq P ty Wg gb) m g' w
def AtW4(g:Goroutine)(w:World):Prop:=g.status=.running/\(WgAt ty Wg w 0 0-> ∃g',stepG P true g w=.go g' w #[rd (stA Wg)]/\ ∃m,Goes P true (RLv ty Wg) DC0 (AtKe P ty Wg gb) m g' w)
def AtW3(g:Goroutine)(w:World):Prop:=
 g.status=.running/\g.offers=none/\((∃st,WgAt ty Wg w st 0)->stepG P true g w=.go {g with status:=.blocked} w #[])/\
  (WgAt ty Wg w 0 1-> ∃g',stepG P true g w=.go g' (w.setCell (smA Wg) (.int .u32 0)) (semEvents (smA Wg))/\ ∃m,Goes P true (RLv ty Wg) DC0 (AtW4 P ty Wg gb) m g' (w.setCell (smA Wg) (.int .u32 0)))
def AtWr(g:Goroutine)(w:World):Prop:=g.status=.running/\ ∃g',stepG P true g w=.go g' w #[mk (.write (smA Wg))]/\ ∃m,Goes P true (RLv ty Wg) DC0 (AtW3 P ty Wg gb) m g' w
def AtW2(vs:Nat)(g:Goroutine)(w:World):Prop:=
 g.status=.running/\ ∀v:Nat,v<2147483648->WgAt ty Wg w (v*KK) 0->
  (v=vs-> ∃g',stepG P true g w=.go g' (w.setCell (stA Wg) (.int .u64 (v*KK+1))) #[rd (stA Wg),wr (stA Wg)]/\ ∃m,Goes P true (RLv ty Wg) DC0 (AtWr P ty Wg gb) m g' (w.setCell (stA Wg) (.int .u64 (v*KK+1))))/\
  (v≠vs-> ∃g',stepG P true g w=.go g' w #[rd (stA Wg)]/\ ∃m,Goes P true (RLv ty Wg) DC0 AnchW m g' w)
def AtW1(g:Goroutine)(w:World):Prop:=
 g.status=.running/\ ∀v:Nat,v<2147483648->WgAt ty Wg w (v*KK) 0-> ∃g',stepG P true g w=.go g' w #[rd (stA Wg)]/\
  (v=0-> ∃m,Goes P true (RLv ty Wg) DC0 (AtKe P ty Wg gb) m g' w)/\(v≠0-> ∃m,Goes P true (RLv ty Wg) DC0 (AtW2 P ty Wg gb AnchW v) m g' w)
def AtKd(g:Goroutine)(w:World):Prop:=g.status=.running/\ ∃g',stepG P true g w=.go g' w #[mk .disable]/\ ∃m,Goes P true (RLv ty Wg) DC0 AnchW m g' w
end
section
variable(P:Program)(ty:TypeId)(Wg:Nat)
def AtD4(g:Goroutine)(w:World):Prop:=
 g.status=.running/\mayWake P g=true/\(WgAt ty Wg w 0 0-> ∃g',stepG P false g w=.go g' (w.setCell (smA Wg) (.int .u32 1)) (semEvents (smA Wg))/\ ∃q,QuitsD P q 1 g')
def AtD3(g:Goroutine)(w:World):Prop:=
 g.status=.running/\(WgAt ty Wg w 1 0-> ∃g',stepG P false g w=.go g' (w.setCell (stA Wg) (.int .u64 0)) #[wr (stA Wg)]/\ ∃m,Goes P false (RLv ty Wg) DC0 (AtD4 P ty Wg) m g' (w.setCell (stA Wg) (.int .u64 0)))
def AtD2(g:Goroutine)(w:World):Prop:=g.status=.running/\(WgAt ty Wg w 1 0-> ∃g',stepG P false g w=.go g' w #[rd (stA Wg)]/\ ∃m,Goes P false (RLv ty Wg) DC0 (AtD3 P ty Wg) m g' w)
def AtD1(g:Goroutine)(w:World):Prop:=
 g.status=.running/\ ∀v wt:Nat,wt<=1->v<2147483647->WgAt ty Wg w ((v+1)*KK+wt) 0->
  ∃g',stepG P false g w=.go g' (w.setCell (stA Wg) (.int .u64 (v*KK+wt))) #[rd (stA Wg),wr (stA Wg)]/\
   ((v=0/\wt=1)-> ∃m,Goes P false (RLv ty Wg) DC0 (AtD2 P ty Wg) m g' (w.setCell (stA Wg) (.int .u64 (v*KK+wt))))/\(¬ (v=0/\wt=1)-> ∃q,QuitsD P q 1 g')
def AtK1(g:Goroutine)(w:World):Prop:=g.status=.running/\ ∃g',stepG P false g w=.go g' w #[mk .disable]/\ ∃m,Goes P false (RLv ty Wg) DC0 (AtD1 P ty Wg) m g' w
def AtR0(g:Goroutine)(w:World):Prop:=g.status=.running/\ ∃g',stepG P false g w=.go g' w #[mk (.releaseMerge (stA Wg))]/\ ∃m,Goes P false (RLv ty Wg) DC0 (AtK1 P ty Wg) m g' w
end
def AnchX(L:WgLink)(Wg:Nat)(c:Frame)(cs:List Frame)(g:Goroutine)(w:World):Prop:=
 ∃T:Array Value,g=G ((base L.wait).at ⟨T,[]⟩ [.code (L7 L),.inLoop (L7 L),.inBlock 0]) (c::cs)/\T.size=84/\T[0]?=some (.pointer (some ⟨Wg,0,none⟩))/\WgLive L.tWg Wg w
end Go.X
namespace Go.X
open Go.Conc
open Go.ConcN (RelBy WD CTag Vc Ssum Fsum phi cnt sumTo upd sumTo_upd upd_ne upd_same WgLive)
open Go.ConcR (KK wgBlock WgAt stA smA rd wr mk DC0 Bk)
theorem xhx{ty:TypeId}{Wg:Nat}(w:World):RLv ty Wg w w:=id
theorem xgx{ty:TypeId}{Wg:Nat}(a b c:World)(x:RLv ty Wg a b)(y:RLv ty Wg b c):RLv ty Wg a c:=fun z=>y (x z)
theorem xsx{ty:TypeId}{Wg:Nat}(w:World)(d:Nat):RLv ty Wg w (w.at d):=id
section
variable(P:Program)(s:Site)(Ψ:Nat->Heap->Prop)(Kon:Goroutine->Prop)
def WDone(Φ:Heap->Prop)(g:Goroutine)(h:Heap):Prop:=
 (∀w,WgLive s.ty s.Wg w-> ∃m,Goes P false (RLv s.ty s.Wg) DC0 (AtR0 P s.ty s.Wg) m g w)/\Φ h
def WC(gb:Goroutine)(AnchW:Goroutine->World->Prop):Prop:=
 (∀g w,AnchW g w->g.status=.running)/\(∀g w,AnchW g w-> ∃m,Goes P true (RLv s.ty s.Wg) DC0 (AtW1 P s.ty s.Wg gb AnchW) m g w)/\Kon gb
def AtWaitX(g:Goroutine)(_:Heap):Prop:=
 ∃gb AnchW,WC P s Kon gb AnchW/\ ∀w,WgLive s.ty s.Wg w-> ∃m,Goes P true (RLv s.ty s.Wg) DC0 (AtKd P s.ty s.Wg AnchW) m g w
def AtGoX(k:Nat)(Next:Goroutine->Heap->Prop)(g:Goroutine)(h:Heap):Prop:=
 g.status=.running/\ ∃g' child X Z,(∀w,stepG P true g w=.spawn g' child w #[])/\(∀b∈X,Exc h b)/\(∀b∈Z,Exc h b)/\
  ∀h',Keep h h'->Reach P (.own false) child (cutV Z X h') (WDone P s (Ψ k))/\Next g' (cutV X Z h')
def Cont(k:Nat)(Next:Goroutine->Heap->Prop)(gb:Goroutine)(h:Heap):Prop:=∀h',Keep h h'->Reach P (.own true) gb h' (AtGoX P s Ψ k Next)
def AtAddX(k:Nat)(Next:Goroutine->Heap->Prop)(g:Goroutine)(h:Heap):Prop:=
 ∃gb,(∀w,WgLive s.ty s.Wg w-> ∃m,Goes P true (RLv s.ty s.Wg) DC0 (AtKdS P s.ty s.Wg gb) m g w)/\Cont P s Ψ k Next gb h
def Scr:Nat->Goroutine->Heap->Prop
 |0,g,h=>Reach P (.own true) g h (AtWaitX P s Kon)
 |r+1,g,h=>Reach P (.own true) g h (AtAddX P s Ψ (1-r) (Scr r))
inductive WSx (Φ:Heap->Prop) (key:Goroutine×Heap):Nat->Bool->Nat->Nat->Goroutine->Heap->World->Prop
 |walk {g:Goroutine} {h:Heap} {w:World}:g=key.1->Keep key.2 h->WSx Φ key 7 true 0 0 g h w
 |r0 {m:Nat} {g:Goroutine} {h:Heap} {w:World}:Φ h->Goes P false (RLv s.ty s.Wg) DC0 (AtR0 P s.ty s.Wg) m g w->WSx Φ key 7 false m 0 g h w
 |k1 {m:Nat} {g:Goroutine} {h:Heap} {w:World}:Φ h->Goes P false (RLv s.ty s.Wg) DC0 (AtK1 P s.ty s.Wg) m g w->WSx Φ key 6 false m 0 g h w
 |d1 {m:Nat} {g:Goroutine} {h:Heap} {w:World}:Φ h->Goes P false (RLv s.ty s.Wg) DC0 (AtD1 P s.ty s.Wg) m g w->WSx Φ key 5 false m 1 g h w
 |d2 {m:Nat} {g:Goroutine} {h:Heap} {w:World}:Φ h->Goes P false (RLv s.ty s.Wg) DC0 (AtD2 P s.ty s.Wg) m g w->WSx Φ key 4 false m 1 g h w
 |d3 {m:Nat} {g:Goroutine} {h:Heap} {w:World}:Φ h->Goes P false (RLv s.ty s.Wg) DC0 (AtD3 P s.ty s.Wg) m g w->WSx Φ key 3 false m 1 g h w
 |d4 {m:Nat} {g:Goroutine} {h:Heap} {w:World}:Φ h->Goes P false (RLv s.ty s.Wg) DC0 (AtD4 P s.ty s.Wg) m g w->WSx Φ key 2 false m 1 g h w
 |quit {q d:Nat} {g:Goroutine} {h:Heap} {w:World}:Φ h->QuitsD P q d g->WSx Φ key 1 false q d g h w
inductive Wk0 where
 |none
 |add (r:Nat)
 |go (r:Nat)
 |wait
def stop0:Wk0->Option (Goroutine->Heap->Prop)
 |.none=>.none
 |.add r=>some (AtAddX P s Ψ (1-r) (Scr P s Ψ Kon r))
 |.go r=>some (AtGoX P s Ψ (1-r) (Scr P s Ψ Kon r))
 |.wait=>some (AtWaitX P s Kon)
def stf(w0:Wk0)(j:Nat)(wk:Nat->Bool):Nat->Option (Goroutine->Heap->Prop)
 |0=>stop0 P s Ψ Kon w0
 |k+1=>if k<j/\wk k=true then some (WDone P s (Ψ k))else .none
inductive MSx (key:Goroutine×Heap):CTag->Wk0->Nat->Nat->Nat->Nat->Goroutine->Heap->World->Prop
 |wk5 {r:Nat} {g:Goroutine} {h:Heap} {w:World}:r<2->g=key.1->Keep key.2 h->MSx key (.sp r 5) (.add r) 1 (1-r) 0 0 g h w
 |kd5 {r m:Nat} {gb g:Goroutine} {h:Heap} {w:World}:r<2->Goes P true (RLv s.ty s.Wg) DC0 (AtKdS P s.ty s.Wg gb) m g w->Cont P s Ψ (1-r) (Scr P s Ψ Kon r) gb h->MSx key (.sp r 5) .none 0 (1-r) m 0 g h w
 |a1 {r m:Nat} {gb g:Goroutine} {h:Heap} {w:World}:r<2->Goes P true (RLv s.ty s.Wg) DC0 (AtA1 P s.ty s.Wg gb) m g w->Cont P s Ψ (1-r) (Scr P s Ψ Kon r) gb h->MSx key (.sp r 4) .none 0 (1-r) m 1 g h w
 |rd {r m:Nat} {gb g:Goroutine} {h:Heap} {w:World}:r<2->Goes P true (RLv s.ty s.Wg) DC0 (AtRdS P s.ty s.Wg gb) m g w->Cont P s Ψ (1-r) (Scr P s Ψ Kon r) gb h->MSx key (.sp r 3) .none 1 (1-r) m 1 g h w
 |kes {r m:Nat} {gb g:Goroutine} {h:Heap} {w:World}:r<2->Goes P true (RLv s.ty s.Wg) DC0 (AtKeS P s.ty s.Wg gb) m g w->Cont P s Ψ (1-r) (Scr P s Ψ Kon r) gb h->MSx key (.sp r 3) .none 0 (1-r) m 1 g h w
 |bk {r m:Nat} {gb g:Goroutine} {h:Heap} {w:World}:r<2->Goes P true (RLv s.ty s.Wg) DC0 (AtBack s.ty s.Wg gb) m g w->Cont P s Ψ (1-r) (Scr P s Ψ Kon r) gb h->MSx key (.sp r 2) .none 1 (1-r) m 0 g h w
 |wk2 {r:Nat} {g:Goroutine} {h:Heap} {w:World}:r<2->g=key.1->Keep key.2 h->MSx key (.sp r 2) (.go r) 0 (1-r) 0 0 g h w
 |wkW {g:Goroutine} {h:Heap} {w:World}:g=key.1->Keep key.2 h->MSx key .kd .wait 1 2 0 0 g h w
 |kd {m:Nat} {gb g:Goroutine} {AnchW:Goroutine->World->Prop} {h:Heap} {w:World}:WC P s Kon gb AnchW->Goes P true (RLv s.ty s.Wg) DC0 (AtKd P s.ty s.Wg AnchW) m g w->MSx key .kd .none 0 2 m 0 g h w
 |anch {m:Nat} {gb g:Goroutine} {AnchW:Goroutine->World->Prop} {h:Heap} {w:World}:WC P s Kon gb AnchW->Goes P true (RLv s.ty s.Wg) DC0 AnchW m g w->MSx key .anch .none 0 2 m 1 g h w
 |w1 {m:Nat} {gb g:Goroutine} {AnchW:Goroutine->World->Prop} {h:Heap} {w:World}:WC P s Kon gb AnchW->Goes P true (RLv s.ty s.Wg) DC0 (AtW1 P s.ty s.Wg gb AnchW) m g w->MSx key .w1 .none 0 2 m 1 g h w
 |w2 {vs m:Nat} {gb g:Goroutine} {AnchW:Goroutine->World->Prop} {h:Heap} {w:World}:WC P s Kon gb AnchW->Goes P true (RLv s.ty s.Wg) DC0 (AtW2 P s.ty s.Wg gb AnchW vs) m g w->MSx key (.w2 vs) .none 0 2 m 1 g h w
 |wr {m:Nat} {gb g:Goroutine} {h:Heap} {w:World}:Kon gb->Goes P true (RLv s.ty s.Wg) DC0 (AtWr P s.ty s.Wg gb) m g w->MSx key .w3 .none 1 2 (m+1) 1 g h w
 |w3 {m:Nat} {gb g:Goroutine} {h:Heap} {w:World}:Kon gb->Goes P true (RLv s.ty s.Wg) DC0 (AtW3 P s.ty s.Wg gb) m g w->MSx key .w3 .none 0 2 (m+1) 1 g h w
 |blk {gb g:Goroutine} {h:Heap} {w:World}:Kon gb->(∀w₁,RLv s.ty s.Wg w w₁->AtW3 P s.ty s.Wg gb g w₁)->MSx key .blk .none 0 2 0 1 {g with status:=.blocked} h w
 |w4 {m:Nat} {gb g:Goroutine} {h:Heap} {w:World}:Kon gb->Goes P true (RLv s.ty s.Wg) DC0 (AtW4 P s.ty s.Wg gb) m g w->MSx key .w4 .none 0 2 m 1 g h w
 |ke {m:Nat} {gb g:Goroutine} {h:Heap} {w:World}:Kon gb->Goes P true (RLv s.ty s.Wg) DC0 (AtKe P s.ty s.Wg gb) m g w->MSx key .ke .none 0 2 m 1 g h w
 |acq {m:Nat} {gb g:Goroutine} {h:Heap} {w:World}:Kon gb->Goes P true (RLv s.ty s.Wg) DC0 (AtAcq P s.ty s.Wg gb) m g w->MSx key .acq .none 0 2 m 0 g h w
 |ret {m:Nat} {gb g:Goroutine} {h:Heap} {w:World}:Kon gb->Goes P true (RLv s.ty s.Wg) DC0 (AtBack s.ty s.Wg gb) m g w->MSx key .ret .none 0 2 m 0 g h w
end
section
variable{P:Program}{s:Site}{Ψ:Nat->Heap->Prop}{Kon:Goroutine->Prop}{Φ:Heap->Prop}{key:Goroutine×Heap}{tag:CTag}{w0:Wk0}{fl j f d st m:Nat}{b:Bool}{g:Goroutine}{h h':Heap}{w w':World}
theorem WDone.stay(hΦ:∀h h',Keep h h'->Φ h->Φ h')(x:WDone P s Φ g h)(k:Keep h h'):WDone P s Φ g h':=⟨x.1,hΦ _ _ k x.2⟩
theorem Exc.stay{i:Nat}(x:Exc h i)(k:Keep h h'):Exc h' i:=by
 obtain⟨c,e,hb,hc⟩:=x
 exact⟨c,e,(k.keep i (Array.getElem?_eq_some_iff.1 hb).1).trans hb,hc⟩
theorem Cont.stay{k:Nat}{Next:Goroutine->Heap->Prop}(x:Cont P s Ψ k Next g h)(y:Keep h h'):Cont P s Ψ k Next g h':=fun h2 z=>x h2 (y.trans z)
theorem AtGoX.stay{k:Nat}{Next:Goroutine->Heap->Prop}(x:AtGoX P s Ψ k Next g h)(y:Keep h h'):AtGoX P s Ψ k Next g h':=by
 obtain⟨r,g',child,X,Z,a,b,c,d⟩:=x
 exact⟨r,g',child,X,Z,a,fun i hi=>(b i hi).stay y,fun i hi=>(c i hi).stay y,fun h2 z=>d h2 (y.trans z)⟩
theorem WSx.rely(hΦ:∀h h',Keep h h'->Φ h->Φ h')(x:WSx P s Φ key st b m d g h w)(r:RLv s.ty s.Wg w w')(k:Keep h h'):WSx P s Φ key st b m d g h' w':=by
 cases x with
 |walk a c=>exact .walk a (c.trans k)
 |r0 a c=>exact .r0 (hΦ _ _ k a) (Goes.rely xgx c r)
 |k1 a c=>exact .k1 (hΦ _ _ k a) (Goes.rely xgx c r)
 |d1 a c=>exact .d1 (hΦ _ _ k a) (Goes.rely xgx c r)
 |d2 a c=>exact .d2 (hΦ _ _ k a) (Goes.rely xgx c r)
 |d3 a c=>exact .d3 (hΦ _ _ k a) (Goes.rely xgx c r)
 |d4 a c=>exact .d4 (hΦ _ _ k a) (Goes.rely xgx c r)
 |quit a c=>exact .quit (hΦ _ _ k a) c
theorem xxj{b:Bool}{Stop:Goroutine->Heap->Prop}(hs:∀g h,Stop g h->g.status=.running)(x:Reach P (.own b) g h Stop):g.status=.running:=
 x (fun g _=>g.status=.running) hs fun _ _ o=>o.1
theorem WDone.running(hl:∃w,WgLive s.ty s.Wg w)(x:WDone P s Φ g h):g.status=.running:=by
 obtain⟨w,hw⟩:=hl
 obtain⟨m,hm⟩:=x.1 w hw
 exact Goes.running (fun _ _ x=>x.1) w (xhx w) hm
theorem WSx.status(hl:WgLive s.ty s.Wg w)(hk:b=true->Reach P (.own false) key.1 key.2 (WDone P s Φ))(x:WSx P s Φ key st b m d g h w):g.status=.running\/(g.status=.finished/\st=1):=by
 cases x with
 |walk a c=>subst a;exact .inl (xxj (fun _ _ z=>z.running ⟨w,hl⟩) (hk rfl))
 |r0 a c=>exact .inl (Goes.running (fun _ _ x=>x.1) w (xhx w) c)
 |k1 a c=>exact .inl (Goes.running (fun _ _ x=>x.1) w (xhx w) c)
 |d1 a c=>exact .inl (Goes.running (fun _ _ x=>x.1) w (xhx w) c)
 |d2 a c=>exact .inl (Goes.running (fun _ _ x=>x.1) w (xhx w) c)
 |d3 a c=>exact .inl (Goes.running (fun _ _ x=>x.1) w (xhx w) c)
 |d4 a c=>exact .inl (Goes.running (fun _ _ x=>x.1) w (xhx w) c)
 |quit a c=>exact c.status.imp id fun z=>⟨z,rfl⟩
theorem WSx.woken(hl:WgLive s.ty s.Wg w)(hk:b=true->Reach P (.own false) key.1 key.2 (WDone P s Φ))(x:WSx P s Φ key st b m d g h w)(a a':Goroutine)(w':World):woken P a a' w' g=g:=by
 unfold Go.Conc.woken
 split
 ·exact again_running _ ((x.status hl hk).imp id fun z=>z.1)
 ·rfl
theorem MSx.rely(x:MSx P s Ψ Kon key tag w0 fl j f d g h w)(r:RLv s.ty s.Wg w w')(k:Keep h h'):MSx P s Ψ Kon key tag w0 fl j f d g h' w':=by
 cases x with
 |wk5 a c e=>exact .wk5 a c (e.trans k)
 |kd5 a c e=>exact .kd5 a (Goes.rely xgx c r) (e.stay k)
 |a1 a c e=>exact .a1 a (Goes.rely xgx c r) (e.stay k)
 |rd a c e=>exact .rd a (Goes.rely xgx c r) (e.stay k)
 |kes a c e=>exact .kes a (Goes.rely xgx c r) (e.stay k)
 |bk a c e=>exact .bk a (Goes.rely xgx c r) (e.stay k)
 |wk2 a c e=>exact .wk2 a c (e.trans k)
 |wkW c e=>exact .wkW c (e.trans k)
 |kd a c=>exact .kd a (Goes.rely xgx c r)
 |anch a c=>exact .anch a (Goes.rely xgx c r)
 |w1 a c=>exact .w1 a (Goes.rely xgx c r)
 |w2 a c=>exact .w2 a (Goes.rely xgx c r)
 |wr a c=>exact .wr a (Goes.rely xgx c r)
 |w3 a c=>exact .w3 a (Goes.rely xgx c r)
 |blk a c=>exact .blk a fun w₂ h₂=>c w₂ (xgx _ _ _ r h₂)
 |w4 a c=>exact .w4 a (Goes.rely xgx c r)
 |ke a c=>exact .ke a (Goes.rely xgx c r)
 |acq a c=>exact .acq a (Goes.rely xgx c r)
 |ret a c=>exact .ret a (Goes.rely xgx c r)
theorem MSx.status(hl:WgLive s.ty s.Wg w)(hkon:∀gb,Kon gb->gb.status=.running)(hk:∀S,stop0 P s Ψ Kon w0=some S->Reach P (.own true) key.1 key.2 S)(x:MSx P s Ψ Kon key tag w0 fl j f d g h w):(g.status=.running/\tag≠.blk)\/(g.status=.blocked/\tag=.blk):=by
 have hb:∀{r:Nat}{gb:Goroutine}{h:Heap},Cont P s Ψ (1-r) (Scr P s Ψ Kon r) gb h->gb.status=.running:=fun c=>xxj (fun _ _ z=>z.1) (c _ (.refl _))
 cases x with
 |wk5 a c e=>
   subst c
   refine .inl ⟨xxj (fun g h z=>?_) (hk _ rfl),by simp⟩
   obtain⟨gb,z,_⟩:=z
   obtain⟨m,hm⟩:=z w hl
   exact Goes.running (fun _ _ x=>x.1) w (xhx w) hm
 |kd5 a c e=>exact .inl ⟨Goes.running (fun _ _ x=>x.1) w (xhx w) c,by simp⟩
 |a1 a c e=>exact .inl ⟨Goes.running (fun _ _ x=>x.1) w (xhx w) c,by simp⟩
 |rd a c e=>exact .inl ⟨Goes.running (fun _ _ x=>x.1) w (xhx w) c,by simp⟩
 |kes a c e=>exact .inl ⟨Goes.running (fun _ _ x=>x.1) w (xhx w) c,by simp⟩
 |bk a c e=>exact .inl ⟨Goes.running (fun _ _ x=>by rw[x.1];exact hb e) w (xhx w) c,by simp⟩
 |wk2 a c e=>subst c;exact .inl ⟨xxj (fun _ _ z=>z.1) (hk _ rfl),by simp⟩
 |wkW c e=>
   subst c
   refine .inl ⟨xxj (fun g h z=>?_) (hk _ rfl),by simp⟩
   obtain⟨gb,An,_,z⟩:=z
   obtain⟨m,hm⟩:=z w hl
   exact Goes.running (fun _ _ x=>x.1) w (xhx w) hm
 |kd a c=>exact .inl ⟨Goes.running (fun _ _ x=>x.1) w (xhx w) c,by simp⟩
 |anch a c=>exact .inl ⟨Goes.running a.1 w (xhx w) c,by simp⟩
 |w1 a c=>exact .inl ⟨Goes.running (fun _ _ x=>x.1) w (xhx w) c,by simp⟩
 |w2 a c=>exact .inl ⟨Goes.running (fun _ _ x=>x.1) w (xhx w) c,by simp⟩
 |wr a c=>exact .inl ⟨Goes.running (fun _ _ x=>x.1) w (xhx w) c,by simp⟩
 |w3 a c=>exact .inl ⟨Goes.running (fun _ _ x=>x.1) w (xhx w) c,by simp⟩
 |blk a c=>exact .inr ⟨rfl,rfl⟩
 |w4 a c=>exact .inl ⟨Goes.running (fun _ _ x=>x.1) w (xhx w) c,by simp⟩
 |ke a c=>exact .inl ⟨Goes.running (fun _ _ x=>x.1) w (xhx w) c,by simp⟩
 |acq a c=>exact .inl ⟨Goes.running (fun _ _ x=>x.1) w (xhx w) c,by simp⟩
 |ret a c=>exact .inl ⟨Goes.running (fun _ _ x=>by rw[x.1];exact hkon _ a) w (xhx w) c,by simp⟩
theorem MSx.wokenBy(hl:WgLive s.ty s.Wg w)(hkon:∀gb,Kon gb->gb.status=.running)(hk:∀S,stop0 P s Ψ Kon w0=some S->Reach P (.own true) key.1 key.2 S)(x:MSx P s Ψ Kon key tag w0 fl j f d g h w)(r:RLv s.ty s.Wg w w')(k:Keep h h')(a a':Goroutine):
 ∃tag' f',MSx P s Ψ Kon key tag' w0 fl j f' d (woken P a a' w' g) h' w'/\f'<=f+1/\(tag'=tag\/(tag=.blk/\tag'=.w3))/\(mayWake P a=true->a'.status=.running->tag'≠.blk):=by
 have x':=x.rely r k
 unfold Go.Conc.woken
 split
 ·rcases x'.status (r hl) hkon hk with⟨hs,hne⟩|⟨_,rfl⟩
  ·exact⟨tag,f,by rw[again_running _ (.inl hs)];exact x',om,.inl rfl,fun _ _=>hne⟩
  ·cases x' with
   |blk hb1 hb=>
     have h3:=hb w' (xhx w')
     exact⟨.w3,0+1,by rw[Go.ConcR.again_blocked h3.1 h3.2.1];exact .w3 hb1 (Goes.stop hb),om,.inr ⟨rfl,rfl⟩,fun _ _=>by simp⟩
 ·rename_i hc
  exact⟨tag,f,x',om,.inl rfl,fun h1 h2=>absurd (by simp[h1,h2]) hc⟩
end
section
variable(P:Program)(s:Site)(Ψ:Nat->Heap->Prop)(Kon:Goroutine->Prop)
def Joined(hw:Nat->Heap)(he:Heap):Prop:=
 s.h₀.size<=he.size/\(∀b,s.Old b->he[b]?=s.h₀[b]?)/\(∀k,k<2->Ψ k (hw k)/\ ∀b,Exc (hw k) b->he[b]?=(hw k)[b]?/\(b<s.h₀.size->b∈s.Z))/\ ∀b,Exc (hw 0) b-> ¬ Exc (hw 1) b
def Fin(gs:Array Goroutine)(w:World)(sl:Option (Nat×Nat))(t:Trace):Prop:=
 ∃(N:Nat)(S':Nat->Prop)(gs':Array Goroutine)(w':World)(sl':Option (Nat×Nat))(t':Trace)(q':Nat->Nat)(gb:Goroutine)(he:Heap)(hw:Nat->Heap),
  runNT P N (crowd gs w sl) t=(.next (crowd gs' w' sl'),t')/\Scene P S' gs' w' t' q' gb he/\Kon gb/\Joined s Ψ hw he/\Quiet (.of s.S) w w'/\ ∀b,s.S b->S' b
structure InvAt(w0:Wk0)(j:Nat)(wk:Nat->Bool)(c:Nat->Goroutine×Heap)(V:Nat->Vw)(hv:Nat->Heap)(g:Nat->Goroutine)(dd q:Nat->Nat)(D:Nat->WD)(tag:CTag)(fl f0:Nat)(st sm:Int)
 (gs:Array Goroutine)(w:World)(t:Trace):Prop where
 crew:Crew s P j V hv g dd q gs w t
 main:MSx P s Ψ Kon (c 0) tag w0 fl j f0 (dd 0) (g 0) (hv 0) w
 work:∀k,k<j->WSx P s (Ψ k) (c (k+1)) (D k).stage (wk k) (D k).fuel (dd (k+1)) (g (k+1)) (hv (k+1)) w
 rel:∀k,k<j->(D k).stage<=6-> ∃r,s.n₀<=r/\RelBy (stA s.Wg) t (s.p+k) r
 wg:WgAt s.ty s.Wg w st sm
 mode:Go.ConcN.Mode j D tag st sm
 acq:tag=.ret->AcqAt s.Wg s.n₀ s.p j t
def walks(j:Nat)(wk:Nat->Bool):Nat:=sumTo j fun k=>if wk k then 1 else 0
def rank(tag:CTag)(fl j:Nat)(wk:Nat->Bool)(D:Nat->WD):Nat:=4*(phi 2 (Vc j D) tag+Ssum j D)+fl+walks j wk
def fuel(p f0 j:Nat)(D:Nat->WD)(q:Nat->Nat):Nat:=f0+2*Fsum j D+2*sumTo p q
def Good'(M:Nat)(w0:Wk0)(j:Nat)(wk:Nat->Bool)(c:Nat->Goroutine×Heap)(μ:Nat)(gs:Array Goroutine)(w:World)(t:Trace):Prop:=
 ∃V hv g dd q D tag fl f0 st sm,InvAt P s Ψ Kon w0 j wk c V hv g dd q D tag fl f0 st sm gs w t/\rank tag fl j wk D=M/\fuel s.p f0 j D q=μ
def Lower(M μ:Nat)(w0:Wk0)(j:Nat)(wk:Nat->Bool)(c:Nat->Goroutine×Heap)(gs:Array Goroutine)(w:World)(t:Trace):Prop:=
 (∃M' w0' j' wk' c' μ',M'<M/\(∀k,RK (stf P s Ψ Kon w0' j' wk') P k (c' k))/\Good' P s Ψ Kon M' w0' j' wk' c' μ' gs w t)\/ ∃μ',μ'<μ/\Good' P s Ψ Kon M w0 j wk c μ' gs w t
end
section
variable{P:Program}{s:Site}{Ψ:Nat->Heap->Prop}{Kon:Goroutine->Prop}{w0:Wk0}{j:Nat}{wk:Nat->Bool}{c:Nat->Goroutine×Heap}{V:Nat->Vw}{hv:Nat->Heap}{g:Nat->Goroutine}{dd q:Nat->Nat}{D:Nat->WD}
 {tag:CTag}{fl f0:Nat}{st sm:Int}{gs:Array Goroutine}{w w':World}{t:Trace}{M μ:Nat}{sl:Option (Nat×Nat)}
theorem MSx.le{key:Goroutine×Heap}{f d:Nat}{g:Goroutine}{h:Heap}(x:MSx P s Ψ Kon key tag w0 fl j f d g h w):j<=2/\fl<=1/\(j+Go.ConcN.pend tag<=2):=by
 cases x<;>simp only[Go.ConcN.pend]<;>(try simp)<;>omega
theorem xyp(j:Nat)(wk:Nat->Bool):walks j wk<=j:=by
 have:=Go.ConcN.sumTo_le (f:=fun k=>if wk k then 1 else 0) (c:=1) (j:=j) fun i _=>by split<;>omega
 simpa[walks]using this
theorem Crew.draw(C:Crew s P j V hv g dd q gs w t)(d:Nat):Crew s P j V hv g dd q gs (w.at d) t:=
 ⟨C.pos,C.size,C.at',C.lv,C.above,C.veil,C.apart,C.dis,C.wgd,C.old,C.oldV,C.sd,C.h0sz,C.ti,C.deaf⟩
theorem InvAt.draw(hΨ:∀k h h',Keep h h'->Ψ k h->Ψ k h')(I:InvAt P s Ψ Kon w0 j wk c V hv g dd q D tag fl f0 st sm gs w t)(d:Nat):InvAt P s Ψ Kon w0 j wk c V hv g dd q D tag fl f0 st sm gs (w.at d) t:=
 ⟨I.crew.draw d,I.main.rely (xsx w d) (.refl _),fun k hk=>(I.work k hk).rely (hΨ k) (xsx w d) (.refl _),I.rel,I.wg,I.mode,I.acq⟩
theorem xy5{gs':Array Goroutine}{sl':Option (Nat×Nat)}{ops:Trace}(h:stepT P (crowd gs w sl)=(.next (crowd gs' w' sl'),ops))(hc:Quiet (.of s.S) w w')(x:Fin P s Ψ Kon gs' w' sl' (t++ops)):Fin P s Ψ Kon gs w sl t:=by
 obtain⟨N,S',gs2,w2,sl2,t2,q2,gb,he,hw,a,b,e,f,i,k⟩:=x
 exact⟨N+1,S',gs2,w2,sl2,t2,q2,gb,he,hw,by simp only[runNT,h];exact a,b,e,f,hc.trans i,k⟩
theorem AcqAt.app{u:Trace}{Wg n₀ p:Nat}(h:AcqAt Wg n₀ p j t)(hu:∀k r,k<j->RelBy (stA Wg) t (p+k) r->RelBy (stA Wg) (t++u) (p+k) r):AcqAt Wg n₀ p j (t++u):=by
 obtain⟨q,h1,h2,h3,h4⟩:=h
 have hq:=lt_of_act? h1
 exact⟨q,by rw[act?_old hq];exact h1,by rw[g?_old hq];exact h2,(heard_old hq).2 h3,fun k hk=>let⟨r,hr0,hr,hrq⟩:=h4 k hk;⟨r,hr0,hu k r hk hr,hrq⟩⟩
def BkX(Wg k:Nat)(e:Event):Prop:=Bk Wg e\/e=mk (.acquire (stA Wg))\/e=mk (.releaseMerge (stA Wg))\/(k=0/\(e=mk (.read (smA Wg))\/e=mk (.write (smA Wg))))
theorem BkX.ok{Wg k B:Nat}{e:Event}(h:BkX Wg k e)(hB:Wg<B):
 (∀x,(MemAct.ofEvent e).touch?=some x->(∃a:Addr,x.loc=.cell a/\a.block=Wg)/\x.kind≠.plain/\(x.kind=.said->k=0))/\(MemAct.ofEvent e).low B/\MemAct.ofEvent e≠.mark (.release (stA Wg)):=by
 rcases h with(h|h|⟨a,wr,rfl,ha⟩)|rfl|rfl|⟨hk,rfl|rfl⟩
 ·obtain⟨loc,wr,sy⟩:=e;simp only at h;subst h
  exact⟨by intro x hx;simp[MemAct.ofEvent,MemAct.touch?]at hx,trivial,by simp[MemAct.ofEvent]⟩
 ·obtain⟨loc,wr,sy⟩:=e;simp only at h;subst h
  exact⟨by intro x hx;simp[MemAct.ofEvent,MemAct.touch?]at hx,trivial,by simp[MemAct.ofEvent]⟩
 ·refine⟨fun x hx=>?_,?_,by simp[MemAct.ofEvent]⟩
  ·simp[MemAct.ofEvent,MemAct.touch?]at hx
   subst hx
   exact⟨⟨a,rfl,ha⟩,by simp,by simp⟩
  ·show a.block<B
   omega
 ·exact⟨by intro x hx;simp[mk,MemAct.ofEvent,MemAct.touch?]at hx,hB,by simp[mk,MemAct.ofEvent]⟩
 ·exact⟨by intro x hx;simp[mk,MemAct.ofEvent,MemAct.touch?]at hx,hB,by simp[mk,MemAct.ofEvent]⟩
 ·refine⟨fun x hx=>?_,hB,by simp[mk,MemAct.ofEvent]⟩
  simp[mk,MemAct.ofEvent,MemAct.touch?]at hx
  subst hx
  exact⟨⟨_,rfl,rfl⟩,by simp,fun _=>hk⟩
 ·refine⟨fun x hx=>?_,hB,by simp[mk,MemAct.ofEvent]⟩
  simp[mk,MemAct.ofEvent,MemAct.touch?]at hx
  subst hx
  exact⟨⟨_,rfl,rfl⟩,by simp,fun _=>hk⟩
theorem InvAt.lt(I:InvAt P s Ψ Kon w0 j wk c V hv g dd q D tag fl f0 st sm gs w t):s.Wg<w.heap.size:=(Array.getElem?_eq_some_iff.1 I.wg).1
theorem InvAt.live(I:InvAt P s Ψ Kon w0 j wk c V hv g dd q D tag fl f0 st sm gs w t):WgLive s.ty s.Wg w:=⟨_,_,I.wg⟩
theorem xlg(hR:∀k,RK (stf P s Ψ Kon w0 j wk) P k (c k)){k:Nat}(hk:k<j):wk k=true->Reach P (.own false) (c (k+1)).1 (c (k+1)).2 (WDone P s (Ψ k)):=
 fun h=>hR (k+1) _ (by simp[stf,hk,h])
theorem xzl(hR:∀k,RK (stf P s Ψ Kon w0 j wk) P k (c k)):∀S,stop0 P s Ψ Kon w0=some S->Reach P (.own true) (c 0).1 (c 0).2 S:=fun S h=>hR 0 S h
theorem xjl(hΨ:∀k h h',Keep h h'->Ψ k h->Ψ k h')(hkon:∀gb,Kon gb->gb.status=.running)(hR:∀k,RK (stf P s Ψ Kon w0 j wk) P k (c k))(I:InvAt P s Ψ Kon w0 j wk c V hv g dd q D tag fl f0 st sm gs w t){k:Nat}(hk:k<j)(hwk:wk k=false)
 {a':Goroutine}{es:Array Event}{s' m' d':Nat}{st' sm':Int}{fn:FuncId}{pos:String}(hAs:Aside s.Wg w w')(hbk:∀e∈es,BkX s.Wg (k+1) e)
 (hs':WSx P s (Ψ k) (c (k+1)) s' false m' d' a' (hv (k+1)) w')(hdd:deafBehind (dd (k+1)) es=d')
 (hrel:s'<=6-> ∃r,s.n₀<=r/\RelBy (stA s.Wg) (t++MemOp.ofEvents (s.p+k) fn pos es) (s.p+k) r)(hwg:WgAt s.ty s.Wg w' st' sm')
 (hmode:∀tag',(tag'=tag\/(tag=.blk/\tag'=.w3))->(mayWake P (g (k+1))=true->a'.status=.running->tag'≠.blk)->Go.ConcN.Mode j (upd D k ⟨s',m',0⟩) tag' st' sm')
 (hacq:tag=.ret->AcqAt s.Wg s.n₀ s.p j (t++MemOp.ofEvents (s.p+k) fn pos es))
 (hlt:(s'<(D k).stage/\cnt ⟨s',m',0⟩<=cnt (D k))\/(s'=(D k).stage/\m'+1=(D k).fuel)):
 Lower P s Ψ Kon (rank tag fl j wk D) (fuel s.p f0 j D q) w0 j wk c ((gs.map (woken P (g (k+1)) a' w')).setIfInBounds (s.p+k) a') w' (t++MemOp.ofEvents (s.p+k) fn pos es):=by
 have hRL:RLv s.ty s.Wg w w':=fun _=>⟨_,_,hwg⟩
 obtain⟨tag',f',hm',hf',htag,hwake⟩:=I.main.wokenBy I.live hkon (xzl hR) hRL (.refl _) (g (k+1)) a'
 have C':=I.crew.book (k:=k+1) (a':=a') (fn:=fn) (pos:=pos) om hAs.size hAs.block (fun e he=>((hbk e he).ok I.lt).1) (fun e he=>((hbk e he).ok I.lt).2.1) fun e he=>((hbk e he).ok I.lt).2.2
 have hN:InvAt P s Ψ Kon w0 j wk c V hv (wok P (g (k+1)) a' w' (k+1) g) (upd dd (k+1) (deafBehind (dd (k+1)) es)) q (upd D k ⟨s',m',0⟩) tag' fl f' st' sm' ((gs.map (woken P (g (k+1)) a' w')).setIfInBounds (s.p+k) a') w' (t++MemOp.ofEvents (s.p+k) fn pos es):=by
  refine⟨C',?_,fun m hm=>?_,fun m hm hst=>?_,hwg,hmode tag' htag hwake,fun e=>?_⟩
  ·have e0:wok P (g (k+1)) a' w' (k+1) g 0=woken P (g (k+1)) a' w' (g 0):=by unfold wok;rw[upd_ne _ _ om]
   rw[e0,upd_ne _ _ (by omega:(0:Nat)≠k+1)]
   exact hm'
  ·by_cases e:m=k
   ·subst e
    have e1:wok P (g (m+1)) a' w' (m+1) g (m+1)=a':=by unfold wok;rw[upd_same]
    rw[e1,upd_same,upd_same,hwk,hdd]
    exact hs'
   ·have e1:wok P (g (k+1)) a' w' (k+1) g (m+1)=g (m+1):=by
     unfold wok;rw[upd_ne _ _ om]
     exact(I.work m hm).woken I.live (xlg hR hm) _ _ _
    rw[e1,upd_ne _ _ (by omega:m+1≠k+1),upd_ne _ _ e]
    exact(I.work m hm).rely (hΨ m) hRL (.refl _)
  ·by_cases e:m=k
   ·subst e;rw[upd_same]at hst;exact hrel hst
   ·rw[upd_ne _ _ e]at hst
    obtain⟨r,hr0,hr⟩:=I.rel m hm hst
    exact⟨r,hr0,hr.appOther xuc om⟩
  ·rcases htag with rfl|⟨_,rfl⟩
   ·exact hacq e
   ·cases e
 have e1:=sumTo_upd D (⟨s',m',0⟩:WD) cnt hk
 have e2:=sumTo_upd D (⟨s',m',0⟩:WD) WD.stage hk
 have e3:=sumTo_upd D (⟨s',m',0⟩:WD) WD.fuel hk
 have hw:=xyp j wk
 have hl:=I.main.le
 rcases hlt with⟨h1,h2⟩|⟨h1,h2⟩
 ·refine .inl ⟨_,w0,j,wk,c,_,?_,hR,_,_,_,_,_,_,_,_,_,_,_,hN,rfl,rfl⟩
  simp only[rank]
  rw[Go.ConcN.phi_retag 2 _ htag]
  simp only[Vc,Ssum]at*
  have:=Go.ConcN.phi_mono 2 (v':=sumTo j fun a=>cnt (upd D k ⟨s',m',0⟩ a)) (v:=sumTo j fun a=>cnt (D a)) om tag
  omega
 ·have ec:cnt (⟨s',m',0⟩:WD)=cnt (D k):=by simp only[cnt,h1]
  have ev:Vc j (upd D k ⟨s',m',0⟩)=Vc j D:=by simp only[Vc]at *;omega
  have es':Ssum j (upd D k ⟨s',m',0⟩)=Ssum j D:=by simp only[Ssum]at *;omega
  refine .inr ⟨_,?_,_,_,_,_,_,_,_,_,_,_,_,hN,?_,rfl⟩
  ·simp only[fuel,Fsum]at*
   omega
  ·simp only[rank];rw[Go.ConcN.phi_retag 2 _ htag,ev,es']
theorem yiz(hΨ:∀k h h',Keep h h'->Ψ k h->Ψ k h')(hR:∀k,RK (stf P s Ψ Kon w0 j wk) P k (c k))(I:InvAt P s Ψ Kon w0 j wk c V hv g dd q D tag fl f0 st sm gs w t)
 {a':Goroutine}{es:Array Event}{tag':CTag}{fl' f':Nat}{w0':Wk0}{c0:Goroutine×Heap}{st' sm':Int}{fn:FuncId}{pos:String}(hAs:Aside s.Wg w w')(hbk:∀e∈es,BkX s.Wg 0 e)
 (hm':MSx P s Ψ Kon c0 tag' w0' fl' j f' (deafBehind (dd 0) es) a' (hv 0) w')(h0:∀S,stop0 P s Ψ Kon w0'=some S->Reach P (.own true) c0.1 c0.2 S)(hwg:WgAt s.ty s.Wg w' st' sm')(hmode:Go.ConcN.Mode j D tag' st' sm')
 (hacq:tag'=.ret->AcqAt s.Wg s.n₀ s.p j (t++MemOp.ofEvents 0 fn pos es))
 (hlt:phi 2 (Vc j D) tag'<phi 2 (Vc j D) tag\/(phi 2 (Vc j D) tag'=phi 2 (Vc j D) tag/\fl'<fl)\/(phi 2 (Vc j D) tag'=phi 2 (Vc j D) tag/\fl'=fl/\f'<f0/\w0'=w0/\c0=c 0)):
 Lower P s Ψ Kon (rank tag fl j wk D) (fuel s.p f0 j D q) w0 j wk c ((gs.map (woken P (g 0) a' w')).setIfInBounds 0 a') w' (t++MemOp.ofEvents 0 fn pos es):=by
 have hRL:RLv s.ty s.Wg w w':=fun _=>⟨_,_,hwg⟩
 have C':=I.crew.book (k:=0) (a':=a') (fn:=fn) (pos:=pos) (Nat.zero_le _) hAs.size hAs.block (fun e he=>((hbk e he).ok I.lt).1) (fun e he=>((hbk e he).ok I.lt).2.1) fun e he=>((hbk e he).ok I.lt).2.2
 have hN:InvAt P s Ψ Kon w0' j wk (upd c 0 c0) V hv (wok P (g 0) a' w' 0 g) (upd dd 0 (deafBehind (dd 0) es)) q D tag' fl' f' st' sm' ((gs.map (woken P (g 0) a' w')).setIfInBounds 0 a') w' (t++MemOp.ofEvents 0 fn pos es):=by
  refine⟨C',?_,fun m hm=>?_,fun m hm hst=>?_,hwg,hmode,hacq⟩
  ·have e0:wok P (g 0) a' w' 0 g 0=a':=by unfold wok;rw[upd_same]
   rw[e0,upd_same,upd_same];exact hm'
  ·have e1:wok P (g 0) a' w' 0 g (m+1)=g (m+1):=by
    unfold wok;rw[upd_ne _ _ om]
    exact(I.work m hm).woken I.live (xlg hR hm) _ _ _
   rw[e1,upd_ne _ _ (by omega:m+1≠0),upd_ne _ _ (by omega:m+1≠0)]
   exact(I.work m hm).rely (hΨ m) hRL (.refl _)
  ·obtain⟨r,hr0,hr⟩:=I.rel m hm hst
   exact⟨r,hr0,hr.appOther xuc (by have:=I.crew.pos;omega)⟩
 have hR':∀k,RK (stf P s Ψ Kon w0' j wk) P k (upd c 0 c0 k):=fun k=>by
  cases k with
  |zero=>rw[upd_same];exact h0
  |succ k=>rw[upd_ne _ _ (by omega:k+1≠0)];exact hR (k+1)
 have hw:=xyp j wk
 have hl:=I.main.le
 have hl':=hm'.le
 rcases hlt with h1|⟨h1,h2⟩|⟨h1,h2,h3,h4,h5⟩
 ·refine .inl ⟨_,w0',j,wk,_,_,?_,hR',_,_,_,_,_,_,_,_,_,_,_,hN,rfl,rfl⟩
  simp only[rank];omega
 ·refine .inl ⟨_,w0',j,wk,_,_,?_,hR',_,_,_,_,_,_,_,_,_,_,_,hN,rfl,rfl⟩
  simp only[rank];omega
 ·subst h2;subst h4;subst h5
  have ec:upd c 0 (c 0)=c:=by funext k;unfold upd;split<;>simp_all
  rw[ec]at hN
  exact .inr ⟨_,by simp only[fuel];omega,_,_,_,_,_,_,_,_,_,_,_,hN,by simp only[rank,h1],rfl⟩
end
end Go.X
namespace Go.X
open Go.Conc
open Go.ConcN (RelBy WD CTag Vc Ssum Fsum phi cnt pend sumTo upd sumTo_upd upd_ne upd_same WgLive isW3 isFin isOpen OpenSt AllQuit bk_dis bk_en bk_rd bk_rw bk_sem bk_cell Vc_upd Vc_le others_uncounted le_sumTo allQuit_of)
open Go.ConcR (KK wgBlock WgAt stA smA rd wr mk DC0 Bk bk_of_mute ofEvent_loc_mark ofEvent_mk)
theorem xdn{S:Nat->Prop}{b:Nat}{w w':World}(hb:¬ S b)(h:Aside b w w'):Quiet (.of S) w w':=⟨⟨h.os,h.tape,h.output,by rw[h.size];exact Nat.le_refl _⟩,fun k _ y=>h.block k fun e=>hb (e ▸ y.elim id fun z=>z.elim)⟩
theorem bkx{Wg k:Nat}{es:Array Event}(h:∀e∈es,Bk Wg e):∀e∈es,BkX Wg k e:=fun e he=>.inl (h e he)
section
variable{P:Program}{s:Site}{Ψ:Nat->Heap->Prop}{Kon:Goroutine->Prop}{w0:Wk0}{j:Nat}{wk:Nat->Bool}{c:Nat->Goroutine×Heap}{V:Nat->Vw}{hv:Nat->Heap}{g:Nat->Goroutine}{dd q:Nat->Nat}{D:Nat->WD}
 {tag:CTag}{fl f0:Nat}{st sm:Int}{gs:Array Goroutine}{w w':World}{t:Trace}{M μ:Nat}{sl:Option (Nat×Nat)}
def MainGo(P:Program)(s:Site)(Ψ:Nat->Heap->Prop)(Kon:Goroutine->Prop)(M μ:Nat)(w0:Wk0)(j:Nat)(wk:Nat->Bool)(c:Nat->Goroutine×Heap)(gs:Array Goroutine)(w:World)(t:Trace)(i:Nat)(a:Goroutine):Prop:=
 ∀d,∃a' w' es,stepG P (i==0) a (w.at d)=.go a' w' es/\Quiet (.of s.S) (w.at d) w'/\ ∀fn pos,Lower P s Ψ Kon M μ w0 j wk c ((gs.map (woken P a a' w')).setIfInBounds i a') w' (t++MemOp.ofEvents i fn pos es)
set_option maxHeartbeats 1600000 in
theorem ypb(hSW:¬ s.S s.Wg)(hΨ:∀k h h',Keep h h'->Ψ k h->Ψ k h')(hR:∀k,RK (stf P s Ψ Kon w0 j wk) P k (c k))(I:InvAt P s Ψ Kon w0 j wk c V hv g dd q D tag fl f0 st sm gs w t)(hrun:(g 0).status=.running)(hw0:w0=.none):
 MainGo P s Ψ Kon (rank tag fl j wk D) (fuel s.p f0 j D q) w0 j wk c gs w t 0 (g 0)\/Lower P s Ψ Kon (rank tag fl j wk D) (fuel s.p f0 j D q) w0 j wk c gs w t\/(tag=.ret/\j=2/\Kon (g 0)):=by
 subst hw0
 have hm:=I.main
 have hmode:=I.mode
 have hwg:=I.wg
 have hVj:=Vc_le j D
 generalize hd:dd 0=d0 at hm
 generalize hg:g 0=g0 at hm hrun⊢
 generalize hc:c 0=c0 at hm
 generalize hh:hv 0=h0 at hm
 have go:∀(d:Nat){a':Goroutine}{w':World}{es:Array Event}{tag':CTag}{fl' f':Nat}{st' sm':Int},stepG P true g0 (w.at d)=.go a' w' es->Aside s.Wg (w.at d) w'->(∀e∈es,BkX s.Wg 0 e)->MSx P s Ψ Kon c0 tag' .none fl' j f' (deafBehind d0 es) a' h0 w'->
  WgAt s.ty s.Wg w' st' sm'->Go.ConcN.Mode j D tag' st' sm'->(tag'=.ret-> ∀fn pos,AcqAt s.Wg s.n₀ s.p j (t++MemOp.ofEvents 0 fn pos es))->
  (phi 2 (Vc j D) tag'<phi 2 (Vc j D) tag\/(phi 2 (Vc j D) tag'=phi 2 (Vc j D) tag/\fl'<fl)\/(phi 2 (Vc j D) tag'=phi 2 (Vc j D) tag/\fl'=fl/\f'<f0))->
  ∃a' w' es,stepG P (0==0) g0 (w.at d)=.go a' w' es/\Quiet (.of s.S) (w.at d) w'/\ ∀fn pos,Lower P s Ψ Kon (rank tag fl j wk D) (fuel s.p f0 j D q) .none j wk c ((gs.map (woken P g0 a' w')).setIfInBounds 0 a') w' (t++MemOp.ofEvents 0 fn pos es):=by
  intro d a' w' es tag' fl' f' st' sm' hgo hAs hbk hm' hwg' hmode' hacq hlt
  refine⟨a',w',es,hgo,xdn hSW hAs,fun fn pos=>?_⟩
  have:=yiz (fn:=fn) (pos:=pos) (a':=a') (w0':=.none) (c0:=c 0) hΨ hR (I.draw hΨ d) hAs hbk (by rw[hd,hc,hh];exact hm') (fun S hS=>by cases hS) hwg' hmode' (fun e=>hacq e fn pos)
   (hlt.imp id (Or.imp id fun⟨x,y,z⟩=>⟨x,y,z,rfl,rfl⟩))
  rw[hg]at this
  exact this
 have nr:tag≠.ret-> ∀d,tag=.ret-> ∀fn pos,AcqAt s.Wg s.n₀ s.p j (t++MemOp.ofEvents 0 fn pos d):=fun h _ e=>absurd e h
 cases hm with
 |kd5 hr h e=>
   rcases Goes.cases h with hstop|⟨m',rfl,hstep⟩
   ·refine .inl fun d=>?_
    obtain⟨_,a',hgo,m₂,hk⟩:=hstop (w.at d) (xsx w d)
    exact go d hgo (.refl _ _) (bkx bk_dis) (.a1 hr hk e) hwg (hmode.reopen trivial trivial rfl (by simp)) (by simp) (.inl (by simp only[phi];omega))
   ·refine .inl fun d=>?_
    obtain⟨a',w',es,hgo,⟨rfl,rfl⟩,hg'⟩:=hstep (w.at d) (xsx w d)
    exact go d hgo (.refl _ _) (by simp) (.kd5 hr hg' e) hwg hmode (nr (by simp) _) (.inr (.inr ⟨rfl,rfl,om⟩))
 |a1 hr h e=>
   rename_i r gb
   rcases Goes.cases h with hstop|⟨m',rfl,hstep⟩
   ·refine .inl fun d=>?_
    obtain⟨_,hall⟩:=hstop (w.at d) (xsx w d)
    obtain⟨ho,rfl,rfl,_⟩:=hmode.open_inv trivial
    have hwg':WgAt s.ty s.Wg (w.at d) (((Vc (1-r) D+pend (.sp r 4):Nat):Int)*KK) 0:=hwg
    obtain⟨a',hgo,h1,h2⟩:=hall (Vc (1-r) D) om (by simpa[pend]using hwg')
    have eM:((((Vc (1-r) D:Nat):Int)+1)*KK)=((Vc (1-r) D+pend (.sp r 3):Nat):Int)*KK:=by simp[pend]
    have hmd:Go.ConcN.Mode (1-r) D (.sp r 3) ((((Vc (1-r) D:Nat):Int)+1)*KK) 0:=by rw[eM];exact .opn trivial ho (by simp)
    by_cases hv0:Vc (1-r) D=0
    ·obtain⟨m₂,hk⟩:=h1 hv0
     exact go d hgo (aside_setCell _ (stA s.Wg) _) (bkx bk_rw) (.rd hr hk e) (hwg'.setSt _) hmd (by simp) (.inl (by simp only[phi];omega))
    ·obtain⟨m₂,hk⟩:=h2 hv0
     exact go d hgo (aside_setCell _ (stA s.Wg) _) (bkx bk_rw) (.kes hr hk e) (hwg'.setSt _) hmd (by simp) (.inl (by simp only[phi];omega))
   ·refine .inl fun d=>?_
    obtain⟨a',w',es,hgo,⟨rfl,rfl⟩,hg'⟩:=hstep (w.at d) (xsx w d)
    exact go d hgo (.refl _ _) (by simp) (.a1 hr hg' e) hwg hmode (nr (by simp) _) (.inr (.inr ⟨rfl,rfl,om⟩))
 |rd hr h e=>
   rcases Goes.cases h with hstop|⟨m',rfl,hstep⟩
   ·refine .inl fun d=>?_
    obtain⟨_,a',hgo,m₂,hk⟩:=hstop (w.at d) (xsx w d)
    exact go d hgo (.refl _ _) (by intro x hx;simp at hx;subst hx;exact .inr (.inr (.inr ⟨rfl,.inl rfl⟩))) (.kes hr hk e) hwg hmode (by simp) (.inr (.inl ⟨rfl,om⟩))
   ·refine .inl fun d=>?_
    obtain⟨a',w',es,hgo,⟨rfl,rfl⟩,hg'⟩:=hstep (w.at d) (xsx w d)
    exact go d hgo (.refl _ _) (by simp) (.rd hr hg' e) hwg hmode (nr (by simp) _) (.inr (.inr ⟨rfl,rfl,om⟩))
 |kes hr h e=>
   rcases Goes.cases h with hstop|⟨m',rfl,hstep⟩
   ·refine .inl fun d=>?_
    obtain⟨_,a',hgo,m₂,hk⟩:=hstop (w.at d) (xsx w d)
    exact go d hgo (.refl _ _) (bkx bk_en) (.bk hr hk e) hwg (hmode.reopen trivial trivial rfl (by simp)) (by simp) (.inl (by simp only[phi];omega))
   ·refine .inl fun d=>?_
    obtain⟨a',w',es,hgo,⟨rfl,rfl⟩,hg'⟩:=hstep (w.at d) (xsx w d)
    exact go d hgo (.refl _ _) (by simp) (.kes hr hg' e) hwg hmode (nr (by simp) _) (.inr (.inr ⟨rfl,rfl,om⟩))
 |bk hr h e=>
   rename_i r gb
   rcases Goes.cases h with hstop|⟨m',rfl,hstep⟩
   ·
     refine .inr (.inl (.inl ⟨_,.go r,_,wk,upd c 0 (gb,h0),_,?_,fun k=>?_,V,hv,g,dd,q,D,.sp r 2,0,0,st,sm,⟨I.crew,?_,fun m hm=>by rw[upd_ne _ _ (by omega:m+1≠0)];exact I.work m hm,I.rel,hwg,hmode,by simp⟩,rfl,rfl⟩))
     ·simp only[rank];omega
     ·cases k with
      |zero=>intro S hS;rw[upd_same];cases hS;exact e _ (.refl _)
      |succ k=>rw[upd_ne _ _ (by omega:k+1≠0)];exact hR (k+1)
     ·rw[upd_same,hd,hh]
      have:=(hstop w (xhx w)).1
      rw[hg];exact .wk2 (key:=(gb,h0)) hr this (.refl _)
   ·refine .inl fun d=>?_
    obtain⟨a',w',es,hgo,⟨rfl,rfl⟩,hg'⟩:=hstep (w.at d) (xsx w d)
    exact go d hgo (.refl _ _) (by simp) (.bk hr hg' e) hwg hmode (nr (by simp) _) (.inr (.inr ⟨rfl,rfl,om⟩))
 |kd e h=>
   rcases Goes.cases h with hstop|⟨m',rfl,hstep⟩
   ·refine .inl fun d=>?_
    obtain⟨_,a',hgo,m₂,hk⟩:=hstop (w.at d) (xsx w d)
    exact go d hgo (.refl _ _) (bkx bk_dis) (.anch e hk) hwg (hmode.reopen trivial trivial rfl (by simp)) (by simp) (.inl (by simp only[phi];omega))
   ·refine .inl fun d=>?_
    obtain⟨a',w',es,hgo,⟨rfl,rfl⟩,hg'⟩:=hstep (w.at d) (xsx w d)
    exact go d hgo (.refl _ _) (by simp) (.kd e hg') hwg hmode (nr (by simp) _) (.inr (.inr ⟨rfl,rfl,om⟩))
 |anch e h=>
   rename_i gb An
   rcases Goes.cases h with hstop|⟨m',rfl,hstep⟩
   ·
     obtain⟨m₂,hk⟩:=e.2.1 _ w (hstop w (xhx w))
     refine .inr (.inl (.inl ⟨_,.none,_,wk,c,_,?_,hR,V,hv,g,dd,q,D,.w1,0,_,st,sm,⟨I.crew,by rw[hd,hc,hh,hg];exact .w1 e hk,I.work,I.rel,hwg,hmode.reopen trivial trivial rfl (by simp),by simp⟩,rfl,rfl⟩))
     simp only[rank,phi];omega
   ·refine .inl fun d=>?_
    obtain⟨a',w',es,hgo,⟨rfl,rfl⟩,hg'⟩:=hstep (w.at d) (xsx w d)
    exact go d hgo (.refl _ _) (by simp) (.anch e hg') hwg hmode (nr (by simp) _) (.inr (.inr ⟨rfl,rfl,om⟩))
 |w1 e h=>
   rcases Goes.cases h with hstop|⟨m',rfl,hstep⟩
   ·refine .inl fun d=>?_
    obtain⟨_,hall⟩:=hstop (w.at d) (xsx w d)
    obtain⟨ho,rfl,rfl,_⟩:=hmode.open_inv trivial
    have hwg':WgAt s.ty s.Wg (w.at d) (((Vc 2 D+pend .w1:Nat):Int)*KK) 0:=hwg
    obtain⟨a',hgo,h0',hne⟩:=hall (Vc 2 D) om (by simpa[pend]using hwg')
    by_cases hv:Vc 2 D=0
    ·obtain⟨m₂,hk⟩:=h0' hv
     refine go d hgo (.refl _ _) (bkx bk_rd) (.ke e.2.2 hk) hwg ?_ (by simp) (.inl (by simp only[phi];omega))
     have e:((Vc 2 D+pend .w1:Nat):Int)*KK=0:=by rw[hv];simp[pend]
     rw[e]
     exact .fin trivial (allQuit_of ho hv)
    ·obtain⟨m₂,hk⟩:=hne hv
     exact go d hgo (.refl _ _) (bkx bk_rd) (.w2 e hk) hwg (hmode.reopen trivial trivial rfl (fun vs e=>by cases e;omega)) (by simp) (.inl (by simp only[phi];omega))
   ·refine .inl fun d=>?_
    obtain⟨a',w',es,hgo,⟨rfl,rfl⟩,hg'⟩:=hstep (w.at d) (xsx w d)
    exact go d hgo (.refl _ _) (by simp) (.w1 e hg') hwg hmode (nr (by simp) _) (.inr (.inr ⟨rfl,rfl,om⟩))
 |w2 e h=>
   rename_i vs gb An
   rcases Goes.cases h with hstop|⟨m',rfl,hstep⟩
   ·refine .inl fun d=>?_
    obtain⟨_,hall⟩:=hstop (w.at d) (xsx w d)
    obtain⟨ho,rfl,rfl,hw2⟩:=hmode.open_inv trivial
    obtain⟨hle,h1⟩:=hw2 vs rfl
    have hwg':WgAt s.ty s.Wg (w.at d) (((Vc 2 D+pend (.w2 vs):Nat):Int)*KK) 0:=hwg
    obtain⟨hhit,hmiss⟩:=hall (Vc 2 D) om (by simpa[pend]using hwg')
    by_cases ev:Vc 2 D=vs
    ·obtain⟨a',hgo,m₂,hk⟩:=hhit ev
     exact go d hgo (aside_setCell _ (stA s.Wg) _) (bkx bk_rw) (.wr e.2.2 hk) (hwg'.setSt _) (.reg trivial ho om) (by simp) (.inl (by simp only[phi];omega))
    ·obtain⟨a',hgo,m₂,hk⟩:=hmiss ev
     exact go d hgo (.refl _ _) (bkx bk_rd) (.anch e hk) hwg (hmode.reopen trivial trivial rfl (by simp)) (by simp) (.inl (by simp only[phi];omega))
   ·refine .inl fun d=>?_
    obtain⟨a',w',es,hgo,⟨rfl,rfl⟩,hg'⟩:=hstep (w.at d) (xsx w d)
    exact go d hgo (.refl _ _) (by simp) (.w2 e hg') hwg hmode (nr (by simp) _) (.inr (.inr ⟨rfl,rfl,om⟩))
 |wr e h=>
   rcases Goes.cases h with hstop|⟨m',rfl,hstep⟩
   ·refine .inl fun d=>?_
    obtain⟨_,a',hgo,m₂,hk⟩:=hstop (w.at d) (xsx w d)
    exact go d hgo (.refl _ _) (by intro x hx;simp at hx;subst hx;exact .inr (.inr (.inr ⟨rfl,.inr rfl⟩))) (.w3 e hk) hwg hmode (by simp) (.inr (.inl ⟨rfl,om⟩))
   ·refine .inl fun d=>?_
    obtain⟨a',w',es,hgo,⟨rfl,rfl⟩,hg'⟩:=hstep (w.at d) (xsx w d)
    exact go d hgo (.refl _ _) (by simp) (.wr e hg') hwg hmode (nr (by simp) _) (.inr (.inr ⟨rfl,rfl,om⟩))
 |w3 e h=>
   rcases Goes.cases h with hstop|⟨m',rfl,hstep⟩
   ·refine .inl fun d=>?_
    obtain⟨_,hoff,hblk,htake⟩:=hstop (w.at d) (xsx w d)
    cases hmode with
    |opn h1 _ _=>exact h1.elim
    |reg h1 h2 h3=>exact go d (hblk ⟨_,hwg⟩) (.refl _ _) (by simp) (.blk e fun w₁ h₁=>hstop w₁ (xgx _ _ _ (xsx w d) h₁)) hwg (.reg trivial h2 h3) (by simp) (.inr (.inr ⟨rfl,rfl,om⟩))
    |last L h1 h2 h3 h4=>exact go d (hblk ⟨_,hwg⟩) (.refl _ _) (by simp) (.blk e fun w₁ h₁=>hstop w₁ (xgx _ _ _ (xsx w d) h₁)) hwg (.last L trivial h2 h3 h4) (by simp) (.inr (.inr ⟨rfl,rfl,om⟩))
    |sema h2=>
      obtain⟨a',hgo,m₂,hk⟩:=htake hwg
      have hwg':WgAt s.ty s.Wg (w.at d) 0 1:=hwg
      exact go d hgo (aside_setCell _ (smA s.Wg) _) (bkx bk_sem) (.w4 e hk) (hwg'.setSm 0) (.fin trivial h2) (by simp) (.inl (by simp only[phi];omega))
    |fin h1 _=>exact h1.elim
   ·refine .inl fun d=>?_
    obtain⟨a',w',es,hgo,⟨rfl,rfl⟩,hg'⟩:=hstep (w.at d) (xsx w d)
    exact go d hgo (.refl _ _) (by simp) (.w3 e hg') hwg hmode (nr (by simp) _) (.inr (.inr ⟨rfl,rfl,om⟩))
 |blk e h=>simp at hrun
 |w4 e h=>
   rcases Goes.cases h with hstop|⟨m',rfl,hstep⟩
   ·refine .inl fun d=>?_
    obtain⟨_,hx⟩:=hstop (w.at d) (xsx w d)
    obtain⟨hq,rfl,rfl⟩:=hmode.fin_inv trivial
    obtain⟨a',hgo,m₂,hk⟩:=hx hwg
    exact go d hgo (.refl _ _) (bkx bk_rd) (.ke e hk) hwg (.fin trivial hq) (by simp) (.inl (by simp only[phi];omega))
   ·refine .inl fun d=>?_
    obtain⟨a',w',es,hgo,⟨rfl,rfl⟩,hg'⟩:=hstep (w.at d) (xsx w d)
    exact go d hgo (.refl _ _) (by simp) (.w4 e hg') hwg hmode (nr (by simp) _) (.inr (.inr ⟨rfl,rfl,om⟩))
 |ke e h=>
   rcases Goes.cases h with hstop|⟨m',rfl,hstep⟩
   ·refine .inl fun d=>?_
    obtain⟨_,a',hgo,m₂,hk⟩:=hstop (w.at d) (xsx w d)
    obtain⟨hq,rfl,rfl⟩:=hmode.fin_inv trivial
    exact go d hgo (.refl _ _) (bkx bk_en) (.acq e hk) hwg (.fin trivial hq) (by simp) (.inl (by simp only[phi];omega))
   ·refine .inl fun d=>?_
    obtain⟨a',w',es,hgo,⟨rfl,rfl⟩,hg'⟩:=hstep (w.at d) (xsx w d)
    exact go d hgo (.refl _ _) (by simp) (.ke e hg') hwg hmode (nr (by simp) _) (.inr (.inr ⟨rfl,rfl,om⟩))
 |acq e h=>
   rcases Goes.cases h with hstop|⟨m',rfl,hstep⟩
   ·refine .inl fun d=>?_
    obtain⟨_,a',hgo,m₂,hk⟩:=hstop (w.at d) (xsx w d)
    obtain⟨hq,rfl,rfl⟩:=hmode.fin_inv trivial
    refine go d hgo (.refl _ _) (by intro x hx;simp at hx;subst hx;exact .inr (.inl rfl)) (.ret e hk) hwg (.fin trivial hq) (fun _ fn pos=>?_) (.inl (by simp only[phi];omega))
    have e1:MemOp.ofEvents 0 fn pos #[mk (.acquire (stA s.Wg))]=#[{g:=0,fn:=fn,pos:=pos,act:=.mark (.acquire (stA s.Wg))}]:=by rw[ofEvents_eq];simp[ofEvent_mk]
    have hy:(t++#[({g:=0,fn:=fn,pos:=pos,act:=.mark (.acquire (stA s.Wg))}:MemOp)])[t.size]?=some {g:=0,fn:=fn,pos:=pos,act:=.mark (.acquire (stA s.Wg))}:=by simp
    have hdeaf:Deaf t 0=0:=(I.crew.deaf 0 (Nat.zero_le _)).trans hd
    refine⟨t.size,by rw[e1,act?_of hy],by rw[e1];simp[Trace.g?],by rw[e1];exact⟨0,by simp[Trace.g?],by rw[deaf_old (Nat.le_refl _)];exact hdeaf⟩,fun i hi=>?_⟩
    obtain⟨r,hr0,hr⟩:=I.rel i hi (by rw[hq i hi];omega)
    exact⟨r,hr0,hr.appOther xuc (by have:=I.crew.pos;omega),lt_of_act? hr.act⟩
   ·refine .inl fun d=>?_
    obtain⟨a',w',es,hgo,⟨rfl,rfl⟩,hg'⟩:=hstep (w.at d) (xsx w d)
    exact go d hgo (.refl _ _) (by simp) (.acq e hg') hwg hmode (nr (by simp) _) (.inr (.inr ⟨rfl,rfl,om⟩))
 |ret e h=>
   rcases Goes.cases h with hstop|⟨m',rfl,hstep⟩
   ·exact .inr (.inr ⟨rfl,rfl,by rw[(hstop w (xhx w)).1];exact e⟩)
   ·refine .inl fun d=>?_
    obtain⟨a',w',es,hgo,⟨rfl,rfl⟩,hg'⟩:=hstep (w.at d) (xsx w d)
    refine go d hgo (.refl _ _) (by simp) (.ret e hg') hwg hmode (fun _ fn pos=>(I.acq rfl).app fun k r hk hr=>hr.appOther xuc (by have:=I.crew.pos;omega)) (.inr (.inr ⟨rfl,rfl,om⟩))
end
end Go.X
namespace Go.X
open Go.Conc
open Go.ConcN (RelBy WD CTag Vc Ssum Fsum phi cnt pend sumTo upd sumTo_upd upd_ne upd_same WgLive isW3 isFin isOpen OpenSt AllQuit bk_dis bk_en bk_rd bk_rw bk_sem bk_cell Vc_upd Vc_le others_uncounted le_sumTo allQuit_of sumTo_upd_out)
open Go.ConcR (KK wgBlock WgAt stA smA rd wr mk DC0 Bk bk_of_mute ofEvent_loc_mark ofEvent_mk)
section
variable{P:Program}{s:Site}{Ψ:Nat->Heap->Prop}{Kon:Goroutine->Prop}{w0:Wk0}{j:Nat}{wk:Nat->Bool}{c:Nat->Goroutine×Heap}{V:Nat->Vw}{hv:Nat->Heap}{g:Nat->Goroutine}{dd q:Nat->Nat}{D:Nat->WD}
 {tag:CTag}{fl f0:Nat}{st sm:Int}{gs:Array Goroutine}{w w':World}{t:Trace}{M μ:Nat}{sl:Option (Nat×Nat)}
set_option maxHeartbeats 1600000 in
theorem yov(hSW:¬ s.S s.Wg)(hΨ:∀k h h',Keep h h'->Ψ k h->Ψ k h')(hkon:∀gb,Kon gb->gb.status=.running)(hR:∀k,RK (stf P s Ψ Kon w0 j wk) P k (c k))(I:InvAt P s Ψ Kon w0 j wk c V hv g dd q D tag fl f0 st sm gs w t)
 {k:Nat}(hk:k<j)(hwk:wk k=false)(hrun:(g (k+1)).status=.running):MainGo P s Ψ Kon (rank tag fl j wk D) (fuel s.p f0 j D q) w0 j wk c gs w t (s.p+k) (g (k+1)):=by
 intro d
 have hp:=I.crew.pos
 have ep:(s.p+k==0)=false:=by simp;omega
 have hs:=I.work k hk
 have hmode:=I.mode
 have hwg:WgAt s.ty s.Wg (w.at d) st sm:=I.wg
 have hb:=I.main.le.2.2
 have hVj:=Vc_le j D
 have hdk:Deaf t (s.p+k)=dd (k+1):=I.crew.deaf (k+1) om
 generalize hst:(D k).stage=sg at hs
 generalize hfu:(D k).fuel=m at hs
 generalize hde:dd (k+1)=de at hs hdk
 rw[hwk]at hs
 have hs0:=hs
 rw[ep]
 have bookG:∀{g':Goroutine}{w':World}{es:Array Event}{s' m' dd':Nat}{st' sm':Int},stepG P false (g (k+1)) (w.at d)=.go g' w' es->Aside s.Wg (w.at d) w'->WgAt s.ty s.Wg w' st' sm'->(∀e∈es,Bk s.Wg e)->
  (∀jx e,es[jx]?=some e->(MemAct.ofEvent e).touch?=none\/0<deafBehind de (es.extract 0 jx))->WSx P s (Ψ k) (c (k+1)) s' false m' dd' g' (hv (k+1)) w'->deafBehind de es=dd'->sg<=6->
  (∀tag',(tag'=tag\/(tag=.blk/\tag'=.w3))->(mayWake P (g (k+1))=true->g'.status=.running->tag'≠.blk)->Go.ConcN.Mode j (upd D k ⟨s',m',0⟩) tag' st' sm')->(tag=.ret-> ∀fn pos,AcqAt s.Wg s.n₀ s.p j (t++MemOp.ofEvents (s.p+k) fn pos es))->((s'<sg/\cnt ⟨s',m',0⟩<=cnt (D k))\/(s'=sg/\m'+1=m))->
  ∃a' w' es,stepG P false (g (k+1)) (w.at d)=.go a' w' es/\Quiet (.of s.S) (w.at d) w'/\ ∀fn pos,Lower P s Ψ Kon (rank tag fl j wk D) (fuel s.p f0 j D q) w0 j wk c ((gs.map (woken P (g (k+1)) a' w')).setIfInBounds (s.p+k) a') w' (t++MemOp.ofEvents (s.p+k) fn pos es):=by
  intro g' w' es s' m' dd' st' sm' hgo hAs hwg' hbk hd hs' hdd h6 hmode' hacq' hlt
  refine⟨g',w',es,hgo,xdn hSW hAs,fun fn pos=>?_⟩
  exact xjl hΨ hkon hR (I.draw hΨ d) hk hwk hAs (bkx hbk) hs' (by rw[hde];exact hdd)
   (fun _=>let⟨r,hr0,hr⟩:=I.rel k hk om;⟨r,hr0,hr.book hdk _ _ hbk hd⟩) hwg' hmode' (fun e=>hacq' e fn pos) (by rw[hst,hfu];exact hlt)
 have book:∀{g':Goroutine}{w':World}{es:Array Event}{s' m' dd':Nat}{st' sm':Int},stepG P false (g (k+1)) (w.at d)=.go g' w' es->Aside s.Wg (w.at d) w'->WgAt s.ty s.Wg w' st' sm'->(∀e∈es,Bk s.Wg e)->
  (∀jx e,es[jx]?=some e->(MemAct.ofEvent e).touch?=none\/0<deafBehind de (es.extract 0 jx))->WSx P s (Ψ k) (c (k+1)) s' false m' dd' g' (hv (k+1)) w'->deafBehind de es=dd'->sg<=6->
  Go.ConcN.Mode j (upd D k ⟨s',m',0⟩) tag st' sm'->(tag=.ret-> ∀fn pos,AcqAt s.Wg s.n₀ s.p j (t++MemOp.ofEvents (s.p+k) fn pos es))->((s'<sg/\cnt ⟨s',m',0⟩<=cnt (D k))\/(s'=sg/\m'+1=m))->
  ∃a' w' es,stepG P false (g (k+1)) (w.at d)=.go a' w' es/\Quiet (.of s.S) (w.at d) w'/\ ∀fn pos,Lower P s Ψ Kon (rank tag fl j wk D) (fuel s.p f0 j D q) w0 j wk c ((gs.map (woken P (g (k+1)) a' w')).setIfInBounds (s.p+k) a') w' (t++MemOp.ofEvents (s.p+k) fn pos es):=
  fun hgo hAs hwg' hbk hd hs' hdd h6 hmode' hacq' hlt=>bookG hgo hAs hwg' hbk hd hs' hdd h6 (fun _ ht _=>hmode'.retag ht) hacq' hlt
 have same:∀m',Go.ConcN.Mode j (upd D k ⟨sg,m',0⟩) tag st sm:=fun m'=>by have:=hmode.same (i:=k) m' 0;rwa[hst]at this
 have nr:sg≠1->tag≠.ret:=fun h=>hmode.not_ret hk om
 have idle:∀{g':Goroutine}{m':Nat},stepG P false (g (k+1)) (w.at d)=.go g' (w.at d) #[]->WSx P s (Ψ k) (c (k+1)) sg false m' de g' (hv (k+1)) (w.at d)->m'+1=m->sg<=6->sg≠1->
  ∃a' w' es,stepG P false (g (k+1)) (w.at d)=.go a' w' es/\Quiet (.of s.S) (w.at d) w'/\ ∀fn pos,Lower P s Ψ Kon (rank tag fl j wk D) (fuel s.p f0 j D q) w0 j wk c ((gs.map (woken P (g (k+1)) a' w')).setIfInBounds (s.p+k) a') w' (t++MemOp.ofEvents (s.p+k) fn pos es):=by
  intro g' m' hgo hs' hm h6 h1
  exact book hgo (.refl _ _) hwg (by simp) (by simp) hs' rfl h6 (same m') (fun e=>absurd e (nr h1)) (.inr ⟨rfl,hm⟩)
 cases hs with
 |r0 hφ h=>
   rcases Goes.cases h with hstop|⟨m',rfl,hstep⟩
   ·obtain⟨_,g',hgo,m₂,hk2⟩:=hstop (w.at d) (xsx w d)
    refine⟨g',_,_,hgo,.refl _,fun fn pos=>xjl hΨ hkon hR (I.draw hΨ d) hk hwk (.refl _ _) (by intro e he;simp at he;subst he;exact .inr (.inr (.inl rfl))) (.k1 hφ hk2) (by rw[hde];rfl) (fun _=>⟨t.size,I.crew.ti.size,RelBy.new hdk _ _⟩) hwg
     (fun _ ht _=>(hmode.counted hk om (.inl rfl) _ _).retag ht) (fun e=>absurd e (nr om)) (.inl ⟨om,by simp[cnt,hst]⟩)⟩
   ·obtain⟨g',w',es,hgo,⟨rfl,rfl⟩,hg'⟩:=hstep (w.at d) (xsx w d)
    refine⟨g',_,_,hgo,.refl _,fun fn pos=>xjl hΨ hkon hR (I.draw hΨ d) hk hwk (.refl _ _) (by simp) (.r0 hφ hg') (by rw[hde];rfl) (fun h=>om) hwg (fun _ ht _=>Go.ConcN.Mode.retag (same m') ht) (fun e=>absurd e (nr om)) (.inr ⟨hst.symm,om⟩)⟩
 |k1 hφ h=>
   rcases Goes.cases h with hstop|⟨m',rfl,hstep⟩
   ·obtain⟨_,g',hgo,m₂,hk2⟩:=hstop (w.at d) (xsx w d)
    exact book hgo (.refl _ _) hwg bk_dis (by intro jx e he;exact .inl (by have:=Array.mem_of_getElem? he;simp at this;subst this;rfl)) (.d1 hφ hk2) rfl om
     (hmode.counted hk om (.inr rfl) _ _) (fun e=>absurd e (nr om)) (.inl ⟨om,by simp[cnt,hst]⟩)
   ·obtain⟨g',w',es,hgo,⟨rfl,rfl⟩,hg'⟩:=hstep (w.at d) (xsx w d)
    exact idle hgo (.k1 hφ hg') rfl om om
 |d1 hφ h=>
   rcases Goes.cases h with hstop|⟨m',rfl,hstep⟩
   ·obtain⟨_,hall⟩:=hstop (w.at d) (xsx w d)
    have hc1:cnt (D k)=1:=by simp[cnt,hst]
    have hV1:1<=Vc j D:=by have:=le_sumTo (f:=fun x=>cnt (D x)) hk;simp only[Vc];omega
    have df2:∀jx e,(#[rd (stA s.Wg),wr (stA s.Wg)]:Array Event)[jx]?=some e->(MemAct.ofEvent e).touch?=none\/0<deafBehind 1 ((#[rd (stA s.Wg),wr (stA s.Wg)]:Array Event).extract 0 jx):=by
     intro jx e he
     match jx,he with
     |0,_=>exact .inr (by simp[deafBehind])
     |1,_=>exact .inr (by simp[deafBehind,rd])
     |jx+2,he=>simp at he
    have hq0:∀q,cnt (⟨1,q,0⟩:WD)=0:=fun _=>rfl
    have opq:∀q,OpenSt j D->OpenSt j (upd D k ⟨1,q,0⟩):=fun q h a ha=>by
     by_cases e:a=k
     ·subst e;rw[upd_same];simp
     ·rw[upd_ne D _ e];exact h a ha
    cases hmode with
    |opn h1 h2 h3=>
      obtain⟨v,hv'⟩:∃v,Vc j D+pend tag=v+1:=⟨Vc j D+pend tag-1,om⟩
      rw[hv']at hwg
      have hw1:WgAt s.ty s.Wg (w.at d) (((v:Nat)+1)*KK+((0:Nat):Int)) 0:=by simpa using hwg
      obtain⟨g',hgo,_,hq⟩:=hall v 0 om om hw1
      obtain⟨q,hq⟩:=hq om
      have hv2:Vc j (upd D k ⟨1,q,0⟩)+pend tag=v:=by have:=Vc_upd D (⟨1,q,0⟩:WD) hk;have:=hq0 q;omega
      refine book hgo (aside_setCell _ (stA s.Wg) _) (hwg.setSt _) bk_rw df2 (.quit hφ hq) rfl om ?_ (fun e=>absurd e (nr om)) (.inl ⟨om,by simp[cnt]⟩)
      have e:((v:Nat):Int)*KK+((0:Nat):Int)=((Vc j (upd D k ⟨1,q,0⟩)+pend tag:Nat):Int)*KK:=by rw[hv2];simp
      rw[e]
      exact .opn h1 (opq q h2) (fun vs ev=>by have:=h3 vs ev;omega)
    |reg h1 h2 h3=>
      obtain⟨v,hv'⟩:∃v,Vc j D=v+1:=⟨Vc j D-1,om⟩
      rw[hv']at hwg
      have hw1:WgAt s.ty s.Wg (w.at d) (((v:Nat)+1)*KK+((1:Nat):Int)) 0:=by simpa using hwg
      obtain⟨g',hgo,hl,hq⟩:=hall v 1 om om hw1
      by_cases hv0:v=0
      ·subst hv0
       obtain⟨m₂,hk2⟩:=hl ⟨rfl,rfl⟩
       refine book hgo (aside_setCell _ (stA s.Wg) _) (hwg.setSt _) bk_rw df2 (.d2 hφ hk2) rfl om ?_ (fun e=>absurd e (nr om)) (.inl ⟨om,by simp[cnt]⟩)
       have hoth:∀a,a<j->a≠k->(D a).stage=1:=fun a ha e=>by
        have c0:=others_uncounted hk hv' hc1 a ha e
        have:=h2 a ha
        simp only[cnt]at c0
        split at c0<;>omega
       have:=Go.ConcN.Mode.last (j:=j) (D:=upd D k ⟨4,m₂,0⟩) (tag:=tag) k h1 hk (by rw[upd_same];simp) (fun a ha e=>by rw[upd_ne D _ e];exact hoth a ha e)
       rw[upd_same]at this
       simpa using this
      ·obtain⟨q,hq⟩:=hq om
       have hv2:Vc j (upd D k ⟨1,q,0⟩)=v:=by have:=Vc_upd D (⟨1,q,0⟩:WD) hk;have:=hq0 q;omega
       refine book hgo (aside_setCell _ (stA s.Wg) _) (hwg.setSt _) bk_rw df2 (.quit hφ hq) rfl om ?_ (fun e=>absurd e (nr om)) (.inl ⟨om,by simp[cnt]⟩)
       have e:((v:Nat):Int)*KK+((1:Nat):Int)=((Vc j (upd D k ⟨1,q,0⟩):Nat):Int)*KK+1:=by rw[hv2];simp
       rw[e]
       exact .reg h1 (opq q h2) om
    |last L _ h2 h3 h4=>
      by_cases e:k=L
      ·subst e;omega
      ·have:=h4 k hk e;omega
    |sema h2=>have:=h2 k hk;omega
    |fin _ h2=>have:=h2 k hk;omega
   ·obtain⟨g',w',es,hgo,⟨rfl,rfl⟩,hg'⟩:=hstep (w.at d) (xsx w d)
    exact idle hgo (.d1 hφ hg') rfl om om
 |d2 hφ h=>
   rcases Goes.cases h with hstop|⟨m',rfl,hstep⟩
   ·obtain⟨_,hx⟩:=hstop (w.at d) (xsx w d)
    obtain⟨hW3,hoth,rfl,rfl⟩:=hmode.isLast hk om
    simp only[hst]at hwg
    have hwg1:WgAt s.ty s.Wg (w.at d) 1 0:=by simpa using hwg
    obtain⟨g',hgo,m₂,hk2⟩:=hx hwg1
    refine book hgo (.refl _ _) hwg1 bk_rd (by intro jx e he;match jx,he with|0,_=>exact .inr (by simp[deafBehind])|jx+1,he=>simp at he) (.d3 hφ hk2) rfl om ?_ (fun e=>absurd e (nr om)) (.inl ⟨om,by simp[cnt]⟩)
    have:=Go.ConcN.Mode.last (j:=j) (D:=upd D k ⟨3,m₂,0⟩) (tag:=tag) k hW3 hk (by rw[upd_same];simp) (fun a ha e=>by rw[upd_ne D _ e];exact hoth a ha e)
    rw[upd_same]at this
    simpa using this
   ·obtain⟨g',w',es,hgo,⟨rfl,rfl⟩,hg'⟩:=hstep (w.at d) (xsx w d)
    exact idle hgo (.d2 hφ hg') rfl om om
 |d3 hφ h=>
   rcases Goes.cases h with hstop|⟨m',rfl,hstep⟩
   ·obtain⟨_,hx⟩:=hstop (w.at d) (xsx w d)
    obtain⟨hW3,hoth,rfl,rfl⟩:=hmode.isLast hk om
    simp only[hst]at hwg
    have hwg1:WgAt s.ty s.Wg (w.at d) 1 0:=by simpa using hwg
    obtain⟨g',hgo,m₂,hk2⟩:=hx hwg1
    refine book hgo (aside_setCell _ (stA s.Wg) _) (hwg1.setSt 0) (by intro e he;simp at he;subst he;exact bk_cell _ _ rfl) (by intro jx e he;match jx,he with|0,_=>exact .inr (by simp[deafBehind])|jx+1,he=>simp at he) (.d4 hφ hk2) rfl om ?_ (fun e=>absurd e (nr om)) (.inl ⟨om,by simp[cnt]⟩)
    have:=Go.ConcN.Mode.last (j:=j) (D:=upd D k ⟨2,m₂,0⟩) (tag:=tag) k hW3 hk (by rw[upd_same];simp) (fun a ha e=>by rw[upd_ne D _ e];exact hoth a ha e)
    rw[upd_same]at this
    simpa using this
   ·obtain⟨g',w',es,hgo,⟨rfl,rfl⟩,hg'⟩:=hstep (w.at d) (xsx w d)
    exact idle hgo (.d3 hφ hg') rfl om om
 |d4 hφ h=>
   rcases Goes.cases h with hstop|⟨m',rfl,hstep⟩
   ·obtain⟨_,hmw,hx⟩:=hstop (w.at d) (xsx w d)
    obtain⟨hW3,hoth,rfl,rfl⟩:=hmode.isLast hk om
    simp only[hst]at hwg
    have hwg1:WgAt s.ty s.Wg (w.at d) 0 0:=by simpa using hwg
    obtain⟨g',hgo,q,hq⟩:=hx hwg1
    have hrun':g'.status=.running:=by
     cases q with
     |zero=>exact absurd hq.2 (by decide)
     |succ q=>exact hq.elim (fun x=>absurd x.2 (by decide)) (fun x=>x.1)
    refine bookG hgo (aside_setCell _ (smA s.Wg) _) (hwg1.setSm 1) (es:=semEvents (smA s.Wg)) bk_sem ?_ (.quit hφ hq) (by simp[deafBehind,semEvents]) om ?_ (fun e=>absurd e (nr om)) (.inl ⟨om,by simp[cnt]⟩)
    ·intro jx e he
     match jx,he with
     |0,he=>simp[semEvents]at he;subst he;exact .inl rfl
     |1,_=>exact .inr (by simp[deafBehind,semEvents])
     |2,_=>exact .inr (by simp[deafBehind,semEvents])
     |3,he=>simp[semEvents]at he;subst he;exact .inl rfl
     |jx+4,he=>simp[semEvents]at he
    ·intro tag' ht hw
     have hnb:=hw hmw hrun'
     have e3:tag'=.w3:=by
      rcases ht with rfl|⟨_,rfl⟩
      ·cases tag'<;>first|rfl|exact hW3.elim|exact absurd rfl hnb
      ·rfl
     subst e3
     exact .sema fun a ha=>by
      by_cases e:a=k
      ·subst e;rw[upd_same]
      ·rw[upd_ne D _ e];exact hoth a ha e
   ·obtain⟨g',w',es,hgo,⟨rfl,rfl⟩,hg'⟩:=hstep (w.at d) (xsx w d)
    exact idle hgo (.d4 hφ hg') rfl om om
 |quit hφ h=>
   cases m with
   |zero=>rw[h.1]at hrun;cases hrun
   |succ q=>
     rcases h with⟨hf,_⟩|⟨_,g',es,hmute,hstep,hq⟩
     ·rw[hf]at hrun;cases hrun
     ·have hbk:∀e∈es,Bk s.Wg e:=fun e he=>bk_of_mute (hmute e he)
      have hno:∀jx e,es[jx]?=some e->(MemAct.ofEvent e).touch?=none\/0<deafBehind de (es.extract 0 jx):=fun jx e he=>.inl (touch_mute (hmute e (Array.mem_of_getElem? he)))
      refine book (hstep (w.at d)) (.refl _ _) hwg hbk hno (.quit hφ hq) rfl om (same q) (fun e fn pos=>(I.acq e).app fun i' r hi' hr=>?_) (.inr ⟨rfl,rfl⟩)
      by_cases e':i'=k
      ·subst e';exact hr.book hdk _ _ hbk hno
      ·exact hr.appOther xuc om
theorem ydw(hΨ:∀k h h',Keep h h'->Ψ k h->Ψ k h')(hkon:∀gb,Kon gb->gb.status=.running)(hR:∀k,RK (stf P s Ψ Kon w0 j wk) P k (c k))(I:InvAt P s Ψ Kon w0 j wk c V hv g dd q D tag fl f0 st sm gs w t)
 {i:Nat}(hi:0<i)(hip:i<s.p){a:Goroutine}(ha:gs[i]?=some a)(hrun:a.status=.running):MainGo P s Ψ Kon (rank tag fl j wk D) (fuel s.p f0 j D q) w0 j wk c gs w t i a:=by
 intro d
 have hq:=I.crew.lv i a hi hip ha
 have ep:(i==0)=false:=by simp;omega
 rw[ep]
 cases hqi:q i with
 |zero=>rw[hqi]at hq;rw[hq.1]at hrun;cases hrun
 |succ n=>
   rw[hqi]at hq
   rcases hq with⟨hf,_⟩|⟨_,a',es,hm,hstp,hq'⟩
   ·rw[hf]at hrun;cases hrun
   refine⟨a',w.at d,es,hstp _,.refl _,fun fn pos=>?_⟩
   have C':=(I.crew.draw d).slip hi hip (a:=a) (fn:=fn) (pos:=pos) hm hq'
   have Id:=I.draw hΨ d
   obtain⟨tag',f',hm',hf',htag,_⟩:=Id.main.wokenBy Id.live hkon (xzl hR) (xhx _) (.refl _) a a'
   have hsum:sumTo s.p (upd q i n)+(n+1)=sumTo s.p q+n:=by
    have:=sumTo_upd q n id hip
    simpa[hqi]using this
   refine .inr ⟨_,?_,V,hv,_,dd,_,D,tag',fl,f',st,sm,⟨C',hm',fun k hk=>?_,fun k hk hst=>?_,I.wg,I.mode.retag htag,fun e=>?_⟩,by simp only[rank];rw[Go.ConcN.phi_retag 2 _ htag],rfl⟩
   ·simp only[fuel];omega
   ·rw[(Id.work k hk).woken Id.live (xlg hR hk)]
    exact Id.work k hk
   ·obtain⟨r,hr0,hr⟩:=I.rel k hk hst
    exact⟨r,hr0,hr.appOther xuc om⟩
   ·rcases htag with rfl|⟨_,rfl⟩
    ·exact(I.acq e).app fun k r hk hr=>hr.appOther xuc om
    ·cases e
end
end Go.X
namespace Go.X
open Go.Conc
open Go.ConcN (RelBy WD CTag Vc Ssum Fsum phi cnt pend sumTo upd sumTo_upd upd_ne upd_same WgLive isW3 isFin isOpen OpenSt AllQuit sumTo_upd_out)
open Go.ConcR (KK wgBlock WgAt stA smA rd wr mk DC0 Bk)
section
variable{P:Program}{s:Site}{Ψ:Nat->Heap->Prop}{Kon:Goroutine->Prop}{w0:Wk0}{j:Nat}{wk:Nat->Bool}{c:Nat->Goroutine×Heap}{V:Nat->Vw}{hv:Nat->Heap}{g:Nat->Goroutine}{dd q:Nat->Nat}{D:Nat->WD}
 {tag:CTag}{fl f0:Nat}{st sm:Int}{gs:Array Goroutine}{w w':World}{t:Trace}{M μ:Nat}{sl:Option (Nat×Nat)}
theorem MSx.newkey{key:Goroutine×Heap}{f d:Nat}{g a':Goroutine}{h h':Heap}(hw:w0≠.none)(x:MSx P s Ψ Kon key tag w0 fl j f d g h w):MSx P s Ψ Kon (a',h') tag w0 fl j f d a' h' w':=by
 cases x<;>first|exact absurd rfl hw|skip
 ·rename_i a _ _;exact .wk5 a rfl (.refl _)
 ·rename_i a _ _;exact .wk2 a rfl (.refl _)
 ·exact .wkW rfl (.refl _)
theorem WSx.newkey{Φ:Heap->Prop}{key:Goroutine×Heap}{n m d:Nat}{g a':Goroutine}{h h':Heap}(x:WSx P s Φ key n true m d g h w):WSx P s Φ (a',h') n true m d a' h' w':=by
 cases x with
 |walk a c=>exact .walk rfl (.refl _)
theorem WSx.seven{Φ:Heap->Prop}{key:Goroutine×Heap}{n m d:Nat}{g:Goroutine}{h:Heap}(x:WSx P s Φ key n true m d g h w):n=7:=by cases x;rfl
theorem yeb(hΨ:∀k h h',Keep h h'->Ψ k h->Ψ k h')(hkon:∀gb,Kon gb->gb.status=.running)(hR:∀k,RK (stf P s Ψ Kon w0 j wk) P k (c k))(I:InvAt P s Ψ Kon w0 j wk c V hv g dd q D tag fl f0 st sm gs w t)
 {k:Nat}(hk:k<=j)(h0:k=0->w0≠.none)(h1:∀m,k=m+1->wk m=true){a':Goroutine}{h':Heap}{fn:FuncId}{pos:String}{es:Array Event}
 (hV:Veil (V k) h' w'.heap)(hq:Quiet (V k) w w')(hes:∀e∈es,EvX (V k) w'.heap.size e):
 ∃μ',Good' P s Ψ Kon (rank tag fl j wk D) w0 j wk (upd c k (a',h')) μ' ((gs.map (woken P (g k) a' w')).setIfInBounds (gn s.p k) a') w' (t++MemOp.ofEvents (gn s.p k) fn pos es):=by
 have C':=I.crew.own hk (a':=a') (fn:=fn) (pos:=pos) hV hq hes
 have hwg':WgAt s.ty s.Wg w' st sm:=(hq.stand s.Wg I.lt (.inl (I.crew.wgd k hk))).trans I.wg
 have hRL:RLv s.ty s.Wg w w':=fun _=>⟨_,_,hwg'⟩
 have hp:=I.crew.pos
 have hmain:∃tag' f',MSx P s Ψ Kon (upd c k (a',h') 0) tag' w0 fl j f' (dd 0) (wok P (g k) a' w' k g 0) ((fun m=>if m=k then h' else padH w'.heap.size (hv m)) 0) w'/\(tag'=tag\/(tag=.blk/\tag'=.w3)):=by
  by_cases e:k=0
  ·subst e
   refine⟨tag,f0,?_,.inl rfl⟩
   unfold wok
   rw[upd_same,upd_same]
   simp only[if_true]
   exact I.main.newkey (h0 rfl)
  ·obtain⟨tag',f',hm',_,htag,_⟩:=I.main.wokenBy I.live hkon (xzl hR) hRL (padH_keep (n:=w'.heap.size)) (g k) a'
   refine⟨tag',f',?_,htag⟩
   have e':¬ (0=k):=fun x=>e x.symm
   unfold wok
   rw[upd_ne _ _ e',upd_ne _ _ e']
   simp only[if_neg e']
   exact hm'
 obtain⟨tag',f',hm',htag⟩:=hmain
 refine⟨_,_,_,_,_,_,D,tag',fl,f',st,sm,⟨C',hm',fun m hm=>?_,fun m hm hst=>?_,hwg',I.mode.retag htag,fun e=>?_⟩,by simp only[rank];rw[Go.ConcN.phi_retag 2 _ htag],rfl⟩
 ·by_cases e:m+1=k
  ·subst e
   have hx:=I.work m hm
   rw[h1 m rfl]at hx⊢
   unfold wok
   rw[upd_same,upd_same]
   simp only[if_true]
   exact hx.newkey
  ·unfold wok
   rw[upd_ne _ _ e,upd_ne _ _ e]
   simp only[if_neg e]
   rw[(I.work m hm).woken I.live (xlg hR hm)]
   exact(I.work m hm).rely (hΨ m) hRL padH_keep
 ·have hne:gn s.p k≠s.p+m:=by
   intro e
   have e2:k=m+1:=xs5 hp e
   subst e2
   have hx:=I.work m hm
   rw[h1 m rfl]at hx
   have:=hx.seven
   omega
  obtain⟨r,hr0,hr⟩:=I.rel m hm hst
  exact⟨r,hr0,hr.appOther xuc hne⟩
 ·rcases htag with rfl|⟨_,rfl⟩
  ·refine(I.acq e).app fun m r hm hr=>hr.appOther xuc fun e2=>?_
   have e3:k=m+1:=xs5 hp e2
   subst e3
   have hx:=I.work m hm
   rw[h1 m rfl]at hx
   have h7:(D m).stage=7:=hx.seven
   subst e
   exact absurd rfl (I.mode.not_ret hm om)
  ·cases e
theorem xf7(I:InvAt P s Ψ Kon w0 j wk c V hv g dd q D tag fl f0 st sm gs w t)(hR:∀k,RK (stf P s Ψ Kon w0 j wk) P k (c k)){r:Nat}(hw0:w0=.go r)
 {g' child:Goroutine}{X Z:List Nat}(hX:∀b∈X,Exc (hv 0) b)(hZ:∀b∈Z,Exc (hv 0) b)(hc:Reach P (.own false) child (cutV Z X (hv 0)) (WDone P s (Ψ (1-r))))(hn:Scr P s Ψ Kon r g' (cutV X Z (hv 0)))
 {fn fn':FuncId}{pos pos':String}:
 ∃M' w0' j' wk' c' μ',M'<rank tag fl j wk D/\(∀k,RK (stf P s Ψ Kon w0' j' wk') P k (c' k))/\Good' P s Ψ Kon M' w0' j' wk' c' μ' ((gs.setIfInBounds 0 g').push child) w (t++#[{g:=0,fn:=fn,pos:=pos,act:=.go (s.p+j)},{g:=s.p+j,fn:=fn',pos:=pos',act:=.start}]):=by
 subst hw0
 have hm:=I.main
 have hp:=I.crew.pos
 generalize hd:dd 0=d0 at hm
 generalize hg:g 0=g0 at hm
 generalize hk0:c 0=c0 at hm
 generalize hh:hv 0=hh0 at hm
 cases hm with
 |wk2 hr _ _=>
   rw[<- hh]at*
   have C':=I.crew.fork hX hZ hd (a':=g') (child:=child) (x:={g:=0,fn:=fn,pos:=pos,act:=.go (s.p+(1-r))}) (y:={g:=s.p+(1-r),fn:=fn',pos:=pos',act:=.start}) ⟨rfl,rfl⟩ ⟨rfl,rfl⟩
   obtain⟨ho,hst,hsm,_⟩:=I.mode.open_inv trivial
   have hVj:=Go.ConcN.Vc_le (1-r) D
   have eV:Vc (1-r+1) (upd D (1-r) ⟨7,0,0⟩)=Vc (1-r) D+1:=by
    simp only[Vc,sumTo,upd_same]
    rw[sumTo_upd_out D _ cnt (Nat.le_refl _)];rfl
   have eS:Ssum (1-r+1) (upd D (1-r) ⟨7,0,0⟩)=Ssum (1-r) D+7:=by
    simp only[Ssum,sumTo,upd_same]
    rw[sumTo_upd_out D _ WD.stage (Nat.le_refl _)]
   have ho':OpenSt (1-r+1) (upd D (1-r) ⟨7,0,0⟩):=fun i hi=>by
    by_cases e:i=1-r
    ·subst e;rw[upd_same];simp
    ·rw[upd_ne D _ e];exact ho i om
   have est:∀tag',pend tag'=0->((Vc (1-r) D+pend (.sp r 2):Nat):Int)*KK=((Vc (1-r+1) (upd D (1-r) ⟨7,0,0⟩)+pend tag':Nat):Int)*KK:=fun tag' hp=>by rw[eV,hp];simp[pend]
   have hwl:=xyp (1-r+1) (upd wk (1-r) true)
   have hmode:∀tag',pend tag'=0->isOpen tag'->(∀vs,tag'≠.w2 vs)->Go.ConcN.Mode (1-r+1) (upd D (1-r) ⟨7,0,0⟩) tag' st sm:=fun tag' h1 h2 h3=>by
    rw[hst,hsm,est tag' h1]
    exact .opn h2 ho' fun vs e=>absurd e (h3 vs)
   have keys:∀(w0':Wk0),(∀S,stop0 P s Ψ Kon w0'=some S->Reach P (.own true) g' (cutV X Z (hv 0)) S)-> ∀k,RK (stf P s Ψ Kon w0' (1-r+1) (upd wk (1-r) true)) P k (upd (upd c 0 (g',cutV X Z (hv 0))) (1-r+1) (child,cutV Z X (hv 0)) k):=by
    intro w0' h k S hS
    cases k with
    |zero=>rw[upd_ne _ _ (by omega:0≠1-r+1),upd_same];exact h S hS
    |succ k=>
      by_cases e:k=1-r
      ·subst e
       rw[upd_same]
       simp[stf,upd_same]at hS
       subst hS
       exact hc
      ·rw[upd_ne _ _ (by omega:k+1≠1-r+1),upd_ne _ _ (by omega:k+1≠0)]
       refine hR (k+1) S ?_
       simp only[stf,upd_ne _ _ e]at hS⊢
       split at hS
       ·rename_i hh
        rw[if_pos ⟨om,hh.2⟩];exact hS
       ·cases hS
   have hN:∀(tag':CTag)(w0':Wk0)(fl':Nat),pend tag'=0->isOpen tag'->(∀vs,tag'≠.w2 vs)->tag'≠.ret->MSx P s Ψ Kon (g',cutV X Z (hv 0)) tag' w0' fl' (1-r+1) 0 0 g' (cutV X Z (hv 0)) w->
    InvAt P s Ψ Kon w0' (1-r+1) (upd wk (1-r) true) (upd (upd c 0 (g',cutV X Z (hv 0))) (1-r+1) (child,cutV Z X (hv 0)))
     (fun m=>if m=0 then cutW X Z (hv 0) (V 0)else if m=1-r+1 then cutW Z X (hv 0) (V 0)else V m) (fun m=>if m=0 then cutV X Z (hv 0)else if m=1-r+1 then cutV Z X (hv 0)else hv m)
     (fun m=>if m=0 then g' else if m=1-r+1 then child else g m) (fun m=>if m=1-r+1 then 0 else dd m) q (upd D (1-r) ⟨7,0,0⟩) tag' fl' 0 st sm ((gs.setIfInBounds 0 g').push child) w (t++#[{g:=0,fn:=fn,pos:=pos,act:=.go (s.p+(1-r))},{g:=s.p+(1-r),fn:=fn',pos:=pos',act:=.start}]):=by
    intro tag' w0' fl' h1 h2 h3 h4 hm'
    have ne1:¬ (0=1-r+1):=om
    refine⟨C',?_,fun m hm=>?_,fun m hm hs=>?_,I.wg,hmode tag' h1 h2 h3,fun e=>absurd e h4⟩
    ·rw[upd_ne _ _ ne1,upd_same]
     simp only[if_true,if_neg ne1]
     rw[hd];exact hm'
    ·have ne2:¬ (m+1=0):=om
     by_cases e:m=1-r
     ·subst e
      rw[upd_same,upd_same,upd_same]
      simp only[if_neg ne2,if_true]
      exact .walk rfl (.refl _)
     ·have ne3:¬ (m+1=1-r+1):=om
      rw[upd_ne _ _ e,upd_ne _ _ ne3,upd_ne _ _ ne2,upd_ne _ _ e]
      simp only[if_neg ne2,if_neg ne3]
      exact I.work m om
    ·by_cases e:m=1-r
     ·subst e;rw[upd_same]at hs;simp at hs
     ·rw[upd_ne _ _ e]at hs
      obtain⟨r',hr0,hr'⟩:=I.rel m om hs
      refine⟨r',hr0,hr'.appNot fun op hop=>?_⟩
      simp only[List.mem_toArray,List.mem_cons,List.not_mem_nil,or_false]at hop
      rcases hop with rfl|rfl
      ·simp only;omega
      ·simp only;omega
   rcases(by omega:r=0\/r=1)with rfl|rfl
   ·exact⟨_,.wait,_,_,_,_,by simp only[rank,phi];omega,keys .wait fun S hS=>by cases hS;exact hn,_,_,_,_,_,_,_,_,_,_,_,hN .kd .wait 1 rfl trivial (by simp) (by simp) (.wkW rfl (.refl _)),rfl,rfl⟩
   ·exact⟨_,.add 0,_,_,_,_,by simp only[rank,phi];omega,keys (.add 0) fun S hS=>by cases hS;exact hn,_,_,_,_,_,_,_,_,_,_,_,hN (.sp 0 5) (.add 0) 1 rfl trivial (by simp) (by simp) (.wk5 om rfl (.refl _)),rfl,rfl⟩
open Classical in
theorem yub(hS0:∀b,s.S b->s.h₀[b]?=some nil0)(I:InvAt P s Ψ Kon w0 2 wk c V hv g dd q D .ret fl f0 st sm gs w t)(hk:Kon (g 0))(sl:Option (Nat×Nat)):Fin P s Ψ Kon gs w sl t:=by
 have C:=I.crew
 have hp:=C.pos
 obtain⟨hq,rfl,rfl⟩:=I.mode.fin_inv trivial
 have hd0:dd 0=0:=by
  have hm:=I.main
  generalize dd 0=d at hm
  cases hm;rfl
 have hw:∀k,k<2->Ψ k (hv (k+1))/\ ∃n,QuitsD P n (dd (k+1)) (g (k+1)):=fun k hk2=>by
  have hx:=I.work k hk2
  rw[hq k hk2]at hx
  generalize wk k=b at hx
  generalize (D k).fuel=n at hx
  cases hx with
  |quit a c=>exact⟨a,_,c⟩
 let S':Nat->Prop:=fun b=>s.S b\/b=s.Wg\/(s.h₀.size<=b/\b<w.heap.size/\ ∀k,k<2->(V (k+1)).dead b\/(V (k+1)).still b)
 let he:Heap:=w.heap.mapIdx fun b o=>if S' b then nil0 else o
 have hesz:he.size=w.heap.size:=by simp[he]
 have heg:∀b,he[b]?=(w.heap[b]?).map fun o=>if S' b then nil0 else o:=fun b=>by simp[he,Array.getElem?_mapIdx]
 have hS'lt:∀b,S' b->b<w.heap.size:=fun b hb=>by
  rcases hb with h|h|h
  ·have:=hS0 b h
   exact Nat.lt_of_lt_of_le (Array.getElem?_eq_some_iff.1 this).1 C.h0sz
  ·rw[h];exact I.lt
  ·exact h.2.1
 have hV:Veil (.of S') he w.heap:=by
  refine⟨hesz,fun b hb _=>?_,fun b hb=>?_,fun b hb=>hb.elim⟩
  ·rw[heg];cases w.heap[b]? <;> simp[show ¬ S' b from hb]
  ·rw[heg,Array.getElem?_eq_getElem (hS'lt b hb)]
   simp[show S' b from hb,nil0]
 have hex:∀k,k<2-> ∀b,Exc (hv (k+1)) b-> ¬ (V (k+1)).dead b/\ ¬ (V (k+1)).still b/\b<w.heap.size:=fun k hk2 b hb=>by
  have v:=C.veil (k+1) om
  obtain⟨h1,h2⟩:=v.exc hb
  obtain⟨cc,e,hb',_⟩:=hb
  exact⟨h1,h2,by rw[<- v.size];exact(Array.getElem?_eq_some_iff.1 hb').1⟩
 have hnS:∀k,k<2-> ∀b,Exc (hv (k+1)) b-> ¬ S' b:=fun k hk2 b hb=>by
  obtain⟨h1,h2,_⟩:=hex k hk2 b hb
  rintro(h|h|h)
  ·exact h1 (C.sd (k+1) om b h)
  ·subst h;exact h1 (C.wgd (k+1) om)
  ·exact(h.2.2 k hk2).elim h1 h2
 refine⟨0,S',gs,w,sl,t,fun i=>if h:s.p<=i/\i<s.p+2 then Classical.choose (hw (i-s.p) om).2 else q i,g 0,he,fun k=>hv (k+1),rfl,⟨C.at' 0 om,⟨fun i x hi hx=>?_,C.above⟩,?_,hV⟩,hk,⟨?_,fun b hb=>?_,fun k hk2=>⟨(hw k hk2).1,fun b hb=>⟨?_,fun hlt=>?_⟩⟩,fun b h1 h2=>?_⟩,.refl _,fun b hb=>.inl hb⟩
 ·have hlt:=(Array.getElem?_eq_some_iff.1 hx).1
  rw[C.size]at hlt
  by_cases hip:s.p<=i
  ·have hcond:s.p<=i/\i<s.p+2:=⟨hip,hlt⟩
   have hc:=Classical.choose_spec (hw (i-s.p) om).2
   simp only[dif_pos hcond]
   have e1:gn s.p (i-s.p+1)=i:=by simp only[gn];omega
   have hg:=C.at' (i-s.p+1) om
   rw[e1,hx]at hg
   cases hg
   have hdf:=C.deaf (i-s.p+1) om
   rw[e1]at hdf
   rw[hdf];exact hc
  ·simp only[dif_neg (fun h:s.p<=i/\i<s.p+2=>hip h.1)]
   exact C.lv i x hi om hx
 ·exact C.ti.finish (I.acq rfl) ((C.deaf 0 om).trans hd0) fun b hb=>hb.elim .inl fun h=>.inr (.inl h)
 ·rw[hesz];exact C.h0sz
 ·by_cases hSb:s.S b
  ·rw[hS0 b hSb]
   exact hV.shun b (show S' b from .inl hSb)
  ·have:¬ S' b:=by
    rintro(h|h|h)
    ·exact hSb h
    ·exact hb.2.1 h
    ·exact absurd h.1 (by have:=hb.1;omega)
   exact(hV.same b this (fun h=>h)).trans (C.old b hb hSb)
 ·obtain⟨h1,h2,_⟩:=hex k hk2 b hb
  exact(hV.same b (hnS k hk2 b hb) (fun h=>h)).trans ((C.veil (k+1) om).same b h1 h2).symm
 ·obtain⟨h1,h2,_⟩:=hex k hk2 b hb
  refine Classical.byContradiction fun hz=>?_
  have hne:b≠s.Wg:=fun e=>h1 (e ▸ C.wgd (k+1) om)
  exact(C.oldV (k+1) om b ⟨hlt,hne,hz⟩).elim h1 h2
 ·obtain⟨a1,a2,a3⟩:=hex 0 om b h1
  obtain⟨b1,b2,_⟩:=hex 1 om b h2
  exact a2 (C.dis 1 2 om om om b a3 a1 b1).1
end
end Go.X
namespace Go.X
open Go.Conc
open Go.ConcN (RelBy WD CTag Vc Ssum Fsum phi cnt pend sumTo upd sumTo_upd upd_ne upd_same WgLive exists_counted)
open Go.ConcR (KK wgBlock WgAt stA smA rd wr mk DC0 Bk)
section
variable{P:Program}{s:Site}{Ψ:Nat->Heap->Prop}{Kon:Goroutine->Prop}{w0:Wk0}{j:Nat}{wk:Nat->Bool}{c:Nat->Goroutine×Heap}{V:Nat->Vw}{hv:Nat->Heap}{g:Nat->Goroutine}{dd q:Nat->Nat}{D:Nat->WD}
 {tag:CTag}{fl f0:Nat}{st sm:Int}{gs:Array Goroutine}{w w':World}{t:Trace}{M μ:Nat}{sl:Option (Nat×Nat)}
theorem MSx.key{key:Goroutine×Heap}{f d:Nat}{g:Goroutine}{h:Heap}(hw:w0≠.none)(x:MSx P s Ψ Kon key tag w0 fl j f d g h w):g=key.1/\Keep key.2 h:=by
 cases x<;>first|exact absurd rfl hw|exact⟨‹_›,‹_›⟩
theorem WSx.key{Φ:Heap->Prop}{key:Goroutine×Heap}{n m d:Nat}{g:Goroutine}{h:Heap}(x:WSx P s Φ key n true m d g h w):g=key.1/\Keep key.2 h/\m=0/\d=0:=by
 cases x with
 |walk a b=>exact⟨a,b,rfl,rfl⟩
theorem xl9{k:Nat}{S:Goroutine->Heap->Prop}(h:stf P s Ψ Kon w0 j wk k=some S):k<=j:=by
 cases k with
 |zero=>exact Nat.zero_le _
 |succ k=>
   simp only[stf]at h
   split at h
   ·rename_i hh;exact hh.1
   ·cases h
theorem yyz(hΨ:∀k h h',Keep h h'->Ψ k h->Ψ k h')(hR:∀k,RK (stf P s Ψ Kon w0 j wk) P k (c k))(I:InvAt P s Ψ Kon w0 j wk c V hv g dd q D tag fl f0 st sm gs w t)
 {k:Nat}(hk:k<j)(hwk:wk k=true)(hd:WDone P s (Ψ k) (c (k+1)).1 (c (k+1)).2):Lower P s Ψ Kon (rank tag fl j wk D) (fuel s.p f0 j D q) w0 j wk c gs w t:=by
 have hx:=I.work k hk
 rw[hwk]at hx
 have h7:=hx.seven
 obtain⟨e1,e2,e3,e4⟩:=hx.key
 have hd':=hd.stay (hΨ k) e2
 obtain⟨m,hm⟩:=hd'.1 w I.live
 have hwalk:walks j (upd wk k false)+1=walks j wk:=by
  have:=sumTo_upd wk false (fun b=>if b then 1 else 0) hk
  simp only[walks]
  simp only[hwk]at this
  simpa using this
 have hst:∀a,a<j->(upd D k ⟨(D k).stage,m,0⟩ a).stage=(D a).stage:=fun a _=>by
  by_cases e:a=k
  ·subst e;rw[upd_same]
  ·rw[upd_ne _ _ e]
 have eV:Vc j (upd D k ⟨(D k).stage,m,0⟩)=Vc j D:=Go.ConcN.sumTo_congr fun a ha=>by simp only[cnt,hst a ha]
 have eS:Ssum j (upd D k ⟨(D k).stage,m,0⟩)=Ssum j D:=Go.ConcN.sumTo_congr fun a ha=>hst a ha
 refine .inl ⟨_,w0,j,upd wk k false,c,_,?_,fun n S hS=>?_,V,hv,g,dd,q,upd D k ⟨(D k).stage,m,0⟩,tag,fl,f0,st,sm,⟨I.crew,I.main,fun n hn=>?_,fun n hn hs=>?_,I.wg,I.mode.same m 0,I.acq⟩,rfl,rfl⟩
 ·simp only[rank];rw[eV,eS];omega
 ·cases n with
  |zero=>exact hR 0 S hS
  |succ n=>
    by_cases e:n=k
    ·subst e;simp[stf,upd_same]at hS
    ·refine hR (n+1) S ?_
     simp only[stf,upd_ne _ _ e]at hS⊢
     exact hS
 ·by_cases e:n=k
  ·subst e
   rw[upd_same,upd_same]
   simp only
   rw[h7,e4,e1]
   exact .r0 hd'.2 hm
  ·rw[upd_ne _ _ e,upd_ne _ _ e]
   exact I.work n hn
 ·rw[hst n hn]at hs
  exact I.rel n hn hs
theorem ywb(hR:∀k,RK (stf P s Ψ Kon w0 j wk) P k (c k))(I:InvAt P s Ψ Kon w0 j wk c V hv g dd q D tag fl f0 st sm gs w t)
 (hs:∀S,stop0 P s Ψ Kon w0=some S->S (c 0).1 (c 0).2)(hw:w0≠.none)(hg:∀r,w0≠.go r):Lower P s Ψ Kon (rank tag fl j wk D) (fuel s.p f0 j D q) w0 j wk c gs w t:=by
 have hm:=I.main
 have hkey:=hm.key hw
 generalize hd:dd 0=d0 at hm
 generalize hg0:g 0=g0 at hm hkey
 generalize hc:c 0=c0 at hm hkey hs
 generalize hh:hv 0=h0 at hm hkey
 have hR':∀k,RK (stf P s Ψ Kon .none j wk) P k (c k):=fun k S hS=>by
  cases k with
  |zero=>cases hS
  |succ k=>exact hR (k+1) S hS
 cases hm<;>first|exact absurd rfl hw|exact absurd rfl (hg _)|skip
 ·rename_i r a b e
  obtain⟨gb,x,y⟩:=hs _ rfl
  obtain⟨m,hm⟩:=x w I.live
  refine .inl ⟨_,.none,_,wk,c,_,?_,hR',V,hv,g,dd,q,D,.sp r 5,0,m,st,sm,⟨I.crew,?_,I.work,I.rel,I.wg,I.mode,by simp⟩,rfl,rfl⟩
  ·simp only[rank];omega
  ·rw[hd,hg0,hc,hh,hkey.1];exact .kd5 a hm (y.stay hkey.2)
 ·obtain⟨gb,An,x,y⟩:=hs _ rfl
  obtain⟨m,hm⟩:=y w I.live
  refine .inl ⟨_,.none,_,wk,c,_,?_,hR',V,hv,g,dd,q,D,.kd,0,m,st,sm,⟨I.crew,?_,I.work,I.rel,I.wg,I.mode,by simp⟩,rfl,rfl⟩
  ·simp only[rank];omega
  ·rw[hd,hg0,hc,hh,hkey.1];exact .kd x hm
theorem ysg(hkon:∀gb,Kon gb->gb.status=.running)(hR:∀k,RK (stf P s Ψ Kon w0 j wk) P k (c k))(I:InvAt P s Ψ Kon w0 j wk c V hv g dd q D tag fl f0 st sm gs w t):∃(i:Nat)(x:Goroutine),gs[i]?=some x/\x.status=.running:=by
 have wrun:∀k,k<j->(D k).stage≠1-> ∃(i:Nat)(x:Goroutine),gs[i]?=some x/\x.status=.running:=fun k hk h1=>
  ⟨s.p+k,g (k+1),I.crew.at' (k+1) om,((I.work k hk).status I.live (xlg hR hk)).elim id fun z=>absurd z.2 h1⟩
 have hs:=I.main.status I.live hkon (xzl hR)
 rcases hs with⟨hs,_⟩|⟨_,rfl⟩
 ·exact⟨0,g 0,I.crew.at' 0 (Nat.zero_le _),hs⟩
 ·cases I.mode with
  |opn h1 _ _=>exact h1.elim
  |reg _ _ h3=>
    obtain⟨k,hk,h5⟩:=exists_counted h3
    exact wrun k hk om
  |last L _ h2 h3 _=>exact wrun L h2 om
  |fin h1 _=>exact h1.elim
theorem yhv(hkon:∀gb,Kon gb->gb.status=.running)(hR:∀k,RK (stf P s Ψ Kon w0 j wk) P k (c k))(I:InvAt P s Ψ Kon w0 j wk c V hv g dd q D tag fl f0 st sm gs w t):∀x∈gs,awake x:=by
 intro x hx
 obtain⟨i,hi⟩:=Array.mem_iff_getElem?.1 hx
 have hlt:=(Array.getElem?_eq_some_iff.1 hi).1
 rw[I.crew.size]at hlt
 rcases Nat.eq_zero_or_pos i with rfl|hpos
 ·have:=I.crew.at' 0 (Nat.zero_le _)
  rw[show gn s.p 0=0 from rfl,hi]at this
  cases this
  exact awake_of ((I.main.status I.live hkon (xzl hR)).elim (fun z=>.inl z.1) fun z=>.inr (.inl z.1))
 ·rcases Nat.lt_or_ge i s.p with hip|hip
  ·exact awake_of ((I.crew.lv i x hpos hip hi).status.elim .inl fun z=>.inr (.inr z))
  ·have:=I.crew.at' (i-s.p+1) om
   rw[show gn s.p (i-s.p+1)=i by simp only[gn];omega,hi]at this
   cases this
   exact awake_of (((I.work (i-s.p) om).status I.live (xlg hR om)).elim .inl fun z=>.inr (.inr z.1))
theorem ypt(hSW:¬ s.S s.Wg)(hΨ:∀k h h',Keep h h'->Ψ k h->Ψ k h')(hkon:∀gb,Kon gb->gb.status=.running)(hS0:∀b,s.S b->s.h₀[b]?=some nil0):
 ∀M w0 j wk c,(∀k,RK (stf P s Ψ Kon w0 j wk) P k (c k))-> ∀μ gs w sl t,Good' P s Ψ Kon M w0 j wk c μ gs w t->Fin P s Ψ Kon gs w sl t:=by
 intro M
 induction M using Nat.strongRecOn with
 |_ M ihM=>
 intro w0 j wk
 refine nest (n:=3) (J:=fun c=>∀μ gs w sl t,Good' P s Ψ Kon M w0 j wk c μ gs w t->Fin P s Ψ Kon gs w sl t) fun c hR hA=>?_
 intro μ
 induction μ using Nat.strongRecOn with
 |_ μ ihμ=>
 rintro gs w sl t ⟨V,hv,g,dd,q,D,tag,fl,f0,st,sm,I,rfl,rfl⟩
 have low:∀gs w sl t,Lower P s Ψ Kon (rank tag fl j wk D) (fuel s.p f0 j D q) w0 j wk c gs w t->Fin P s Ψ Kon gs w sl t:=by
  rintro gs w sl t (⟨M',w0',j',wk',c',μ',hlt,hR',hG⟩|⟨μ',hlt,hG⟩)
  ·exact ihM M' hlt _ _ _ _ hR' _ _ _ _ _ hG
  ·exact ihμ μ' hlt _ _ _ _ hG
 have hp:=I.crew.pos
 have hj:=I.main.le.1
 obtain⟨i,a,d,sl',hi,ha,hst⟩:=crowd_pick (P:=P) (w:=w) (sl:=sl) (yhv hkon hR I) (ysg hkon hR I)
 have Id:=I.draw hΨ d
 have fin:∀{a':Goroutine}{w':World}{es:Array Event},stepG P (i==0) a (w.at d)=.go a' w' es->Quiet (.of s.S) (w.at d) w'->Fin P s Ψ Kon ((gs.map (woken P a a' w')).setIfInBounds i a') w' sl' (t++MemOp.ofEvents i a.frame.fn a.frame.place es)->Fin P s Ψ Kon gs w sl t:=
  fun hgo hc x=>xy5 (hst.trans (runT_crowd_go (P:=P) (sl:=sl') (i:=i) hi hgo)) ((xyh w d).trans hc) x
 have walk:∀k S,k<3->stf P s Ψ Kon w0 j wk k=some S->(k=0->w0≠.none)->(∀m,k=m+1->wk m=true)->g k=(c k).1/\Keep (c k).2 (hv k)->i=gn s.p k->a=g k->
  (Own P (k==0) (c k).1 (c k).2 fun g h=>Reach P (.own (k==0)) g h S/\ ∀c',c' k=(g,h)->(∀m,m<k->c' m=c m)->(∀m,RK (stf P s Ψ Kon w0 j wk) P m (c' m))-> ∀μ gs w sl t,Good' P s Ψ Kon (rank tag fl j wk D) w0 j wk c' μ gs w t->Fin P s Ψ Kon gs w sl t)->Fin P s Ψ Kon gs w sl t:=by
  intro k S _ hS h0 h1 hkey hik hak o
  obtain⟨a',h',w',es,hgo,⟨hr,hcont⟩,hV',hq,hes⟩:=o.2 (hv k) hkey.2 (V k) (w.at d) (I.crew.veil k (xl9 hS))
  rw[<- hkey.1,<- hak]at hgo
  obtain⟨μ',hG⟩:=yeb hΨ hkon hR Id (xl9 hS) h0 h1 (a':=a') (fn:=a.frame.fn) (pos:=a.frame.place) hV' hq hes
  rw[<- hak,<- hik]at hG
  refine fin (by rw[hik,yll hp];exact hgo) (hq.mono fun b y=>.inl (I.crew.sd k (xl9 hS) b (y.elim id fun z=>z.elim))) (hcont (upd c k (a',h')) (upd_same _ _ _) (fun m hm=>upd_ne _ _ om) (fun m=>?_) _ _ _ _ _ hG)
  by_cases e:m=k
  ·subst e;rw[upd_same];intro S' hS';rw[hS]at hS';cases hS';exact hr
  ·rw[upd_ne _ _ e];exact hR m
 have hlt:=(Array.getElem?_eq_some_iff.1 hi).1
 rw[I.crew.size]at hlt
 rcases Nat.eq_zero_or_pos i with rfl|hpos
 ·
   have e0:=I.crew.at' 0 (Nat.zero_le _)
   rw[show gn s.p 0=0 from rfl,hi]at e0
   obtain rfl:a=g 0:=Option.some.inj e0
   by_cases hw:w0=.none
   ·subst hw
    rcases ypb hSW hΨ hR I ha rfl with hgo|hl|⟨rfl,rfl,hk⟩
    ·obtain⟨a',w',es,h1,h2,h3⟩:=hgo d
     exact fin h1 h2 (low _ _ _ _ (h3 _ _))
    ·exact low _ _ _ _ hl
    ·exact yub hS0 I hk sl
   ·have hkey:=I.main.key hw
    have hS:∃S,stop0 P s Ψ Kon w0=some S:=by cases w0<;>first|exact absurd rfl hw|exact⟨_,rfl⟩
    obtain⟨S,hS⟩:=hS
    rcases hA 0 om S hS with hstop|o
    ·by_cases hg:∃r,w0=.go r
     ·obtain⟨r,rfl⟩:=hg
      cases hS
      obtain⟨_,g',child,X,Z,hsp,hX,hZ,hnext⟩:=AtGoX.stay hstop hkey.2
      obtain⟨hn1,hn2⟩:=hnext _ (.refl _)
      obtain⟨M',w0',j',wk',c',μ',hlt',hR',hG⟩:=xf7 (fn:=(g 0).frame.fn) (fn':=child.frame.fn) (pos:=(g 0).frame.place) (pos':=(g 0).frame.place) Id hR rfl hX hZ hn1 hn2
      have hrun:=runT_crowd_spawn (P:=P) (sl:=sl') (i:=0) (es:=#[]) hi (show stepG P (0==0) (g 0) (w.at d)=.spawn g' child (w.at d) #[] by rw[hkey.1];exact hsp _)
      rw[I.crew.size]at hrun
      refine xy5 (hst.trans hrun) (xyh w d) ?_
      refine ihM M' hlt' _ _ _ _ hR' μ' _ _ _ _ ?_
      have e:((MemOp.ofEvents 0 (g 0).frame.fn (g 0).frame.place #[]).push {g:=0,fn:=(g 0).frame.fn,pos:=(g 0).frame.place,act:=.go (s.p+j)}).push {g:=s.p+j,fn:=child.frame.fn,pos:=(g 0).frame.place,act:=.start}=#[{g:=0,fn:=(g 0).frame.fn,pos:=(g 0).frame.place,act:=.go (s.p+j)},{g:=s.p+j,fn:=child.frame.fn,pos:=(g 0).frame.place,act:=.start}]:=by
       rw[ofEvents_eq];simp
      rw[e];exact hG
     ·exact low _ _ _ _ (ywb hR I (fun S' hS'=>by rw[hS]at hS';cases hS';exact hstop) hw fun r e=>hg ⟨r,e⟩)
    ·exact walk 0 S om hS (fun _=>hw) (fun m e=>om) hkey rfl rfl o
 ·rcases Nat.lt_or_ge i s.p with hip|hip
  ·
    obtain⟨a',w',es,h1,h2,h3⟩:=ydw hΨ hkon hR I hpos hip hi ha d
    exact fin h1 h2 (low _ _ _ _ (h3 _ _))
  ·
    obtain⟨k,rfl⟩:∃k,i=s.p+k:=⟨i-s.p,om⟩
    have hk:k<j:=om
    have e0:=I.crew.at' (k+1) om
    rw[show gn s.p (k+1)=s.p+k from rfl,hi]at e0
    obtain rfl:a=g (k+1):=Option.some.inj e0
    cases hwk:wk k with
    |false=>
      obtain⟨a',w',es,h1,h2,h3⟩:=yov hSW hΨ hkon hR I hk hwk ha d
      exact fin h1 h2 (low _ _ _ _ (h3 _ _))
    |true=>
      have hS:stf P s Ψ Kon w0 j wk (k+1)=some (WDone P s (Ψ k)):=by simp[stf,hk,hwk]
      have hx:=I.work k hk
      rw[hwk]at hx
      have hkey:=hx.key
      rcases hA (k+1) om _ hS with hstop|o
      ·exact low _ _ _ _ (yyz hΨ hR I hk hwk hstop)
      ·exact walk (k+1) _ om hS (fun e=>om) (fun m e=>by cases e;exact hwk) ⟨hkey.1,hkey.2.1⟩ rfl rfl o
end
end Go.X
namespace Go.X
open Go.Conc
open Go.ConcN (WD CTag Vc pend upd)
open Go.ConcR (KK wgBlock WgAt)
theorem xe2{P:Program}{Ψ:Nat->Heap->Prop}{ge:Goroutine}{Kon:Goroutine->Prop}{h:Heap}{Stop:Goroutine->Heap->Prop}(ty:TypeId)(Wg:Nat)(Z:List Nat)
 (hWg:h[Wg]?=some (wgBlock ty 0 0))(hZ:∀b∈Z,Exc h b)(hΨ:∀k h h',Keep h h'->Ψ k h->Ψ k h')(hrun:∀gb,Kon gb->gb.status=.running)
 (hadd:∀S p n₀,AtAddX P ⟨ty,Wg,S,h,Z,p,n₀⟩ Ψ 0 (Scr P ⟨ty,Wg,S,h,Z,p,n₀⟩ Ψ Kon 1) ge (cutV [Wg] Z h))
 (hend:∀S p n₀ gb,Kon gb-> ∀hw he,Joined ⟨ty,Wg,S,h,Z,p,n₀⟩ Ψ hw he->Reach P (.main true) gb he Stop):Reach P (.main true) ge h Stop:=by
 intro S gs w sl t q sc
 have hexW:Exc h Wg:=⟨_,_,hWg,by simp⟩
 obtain⟨hnS,hnT⟩:=sc.veil.exc hexW
 have hwlt:Wg<h.size:=(Array.getElem?_eq_some_iff.1 hWg).1
 have hgs:=sc.main
 have hpos:0<gs.size:=(Array.getElem?_eq_some_iff.1 hgs).1
 let s:Site:=⟨ty,Wg,S,h,Z,gs.size,t.size⟩
 obtain⟨gb,hway,hcont⟩:=hadd S gs.size t.size
 have hwg:WgAt ty Wg w 0 0:=(sc.veil.same Wg hnS hnT).symm.trans hWg
 obtain⟨m,hm⟩:=hway w ⟨_,_,hwg⟩
 have hdeadW:(cutW [Wg] Z h (.of S)).dead Wg:=.inr ⟨hwlt,.inl (by simp)⟩
 have crew:Crew s P 0 (fun _=>cutW [Wg] Z h (.of S)) (fun _=>cutV [Wg] Z h) (fun _=>ge) (fun _=>0) q gs w t:=by
  refine⟨hpos,rfl,fun k hk=>?_,fun i x hi _ hx=>sc.leav.old i x hi hx,sc.leav.above,fun k _=>sc.veil.cut hZ,fun k _ b hb=>xsg hb,fun k m hk hm hkm=>om,fun _ _=>hdeadW,fun b hb hS=>(sc.veil.same b hS (fun h=>h)).symm,fun k _ b hb=>?_,
   fun _ _ b hb=>.inl hb,by rw[<- sc.veil.size];exact Nat.le_refl _,?_,fun k hk=>?_⟩
  ·obtain rfl:k=0:=om
   exact hgs
  ·by_cases hd:(cutW [Wg] Z h (.of S)).dead b
   ·exact .inl hd
   ·exact .inr (xws hb.1 hd hb.2.2)
  ·exact TI.start sc.past hnS fun b hb hS=>hb (.inl hS)
  ·obtain rfl:k=0:=om
   exact sc.past.hears
 have hG:Good' P s Ψ Kon (rank (.sp 1 5) 0 0 (fun _=>false) fun _=>⟨0,0,0⟩) .none 0 (fun _=>false) (fun _=>(ge,h)) (fuel gs.size m 0 (fun _=>⟨0,0,0⟩) q) gs w t:=by
  refine⟨_,_,_,_,_,fun _=>⟨0,0,0⟩,.sp 1 5,0,m,0,0,⟨crew,.kd5 om hm hcont,fun k hk=>om,fun k hk=>om,hwg,?_,by simp⟩,rfl,rfl⟩
  have:=Go.ConcN.Mode.opn (j:=0) (D:=fun _=>(⟨0,0,0⟩:WD)) (tag:=.sp 1 5) trivial (fun i hi=>om) (fun vs e=>by cases e)
  simpa[Vc,pend,Go.ConcN.sumTo]using this
 obtain⟨N,S',gs',w',sl',t',q',gb',he,hw,h1,h2,h3,h4,h5,h6⟩:=ypt (s:=s) hnS hΨ hrun (fun b hb=>sc.veil.shun b hb) _ _ _ _ _ (fun k S hS=>by
  cases k with
  |zero=>cases hS
  |succ k=>simp[stf]at hS) _ gs w sl t hG
 obtain⟨N2,S2,gs2,w2,sl2,t2,q2,g2,h2',a2,b2,c2,d2,e2,f2⟩:=hend S gs.size t.size gb' h3 hw he h4 S' gs' w' sl' t' q' h2
 exact⟨N+N2,S2,gs2,w2,sl2,t2,q2,g2,h2',by rw[runNT_add,h1];exact a2,b2,c2,h5.trans (d2.of h6),(fun z=>by cases z),fun b hb=>f2 b (h6 b hb)⟩
end Go.X
namespace Go.X
open Go.Conc
section
variable{P:Program}{md:Md}{f:FuncId}{r:Rd}{df:List Deferred}{k:List Item}{cs:List Frame}{Stop:Goroutine->Heap->Prop}{ops rest:List Oper}{tm:List Value}{Φ:Heap->Prop}{h:Heap}
theorem F_at{a:List Value}(hr:r.round=none):FL f r a df k=(B f r).at ⟨a.toArray,df⟩ k:=by simp[FL,F,Frame.at,B,hr]
theorem yuw[Stb Φ]{g:FuncId}{args:List Operand}{ats:Array TypeId}{vs:List Value}{ty:TypeId}{pos:String}{aft:Array Edge}{gd:Option (Nat×Bool)}
 (hm:Met ops tm ⟨none,.defer ⟨.value (.func g),args.toArray,ats⟩,ty,pos,aft,gd⟩ true)(hvs:args.map (evl tm)=vs)(hr:r.round=none)
 (n:RL P md f r (dcall g vs.toArray::df) k cs Stop ops rest tm Φ):RL P md f r df k cs Stop ops (⟨none,.defer ⟨.value (.func g),args.toArray,ats⟩,ty,pos,aft,gd⟩::rest) tm Φ:=by
 intro pre e
 rw[xzv]
 have n':=n (pre++[⟨none,.defer ⟨.value (.func g),args.toArray,ats⟩,ty,pos,aft,gd⟩]) (by simp[e])
 refine xsc rfl (fun w=>?_) n'
 rw[F_at hr,F_at hr]
 have hev:Act.eval ⟨tm.toArray,df⟩=evl tm:=by
  funext x
  rw[<- xfz]
  cases x<;>rfl
 have hw:=xxq hm
 rw[stepG_defer (xef e) (by exact hw) xpw rfl]
 simp only[Act.put,List.map_toArray,hev,hvs]
 simp
theorem yyb{fn:Func}{c:Code}{args:Array Value}(hf:P.funcs[f]?=some fn)(hb:fn.body=some c)(ht:args.toList++List.replicate (fn.ntmps-args.size) undef=tm)
 (x:RS P md (G (FL f .dfd tm [] [.code c]) cs) Φ Stop)(h0:Φ h):Reach P md (G (Frame.enter P f args .deferred) cs) h Stop:=by
 have:=x h h0
 have e:Frame.enter P f args .deferred=FL f .dfd tm [] [.code c]:=by
  unfold Frame.enter
  simp only[hf,hb,Option.map_some,Option.bind_some,Option.getD_some,FL,F,B,<- ht]
  simp[Rd.kind,Rd.round]
 rw[e];exact this
theorem ydc{c₀:Frame}{h₀:Heap}{B₀:List Nat}{p:PHeap}{L:Pcs}{m i:Nat}(hL:L[i]?=some (m,.deferred (some [])))
 (x:∀td,RS P md (G (FR (B f .dfd) tm.toArray df td) (c₀::cs)) (fun h=>St h₀ B₀ p h (L.set i (m,.deferred none))) Stop):RS P md (G (FL f .dfd tm (mark m::df) []) (c₀::cs)) (fun h=>St h₀ B₀ p h L) Stop:=
 yzd (hro:=rfl) fun td=>xdh (fun _ s=>s.at hL) fun _ s=>x td _ (s.setObj hL)
theorem ycc[Stb Φ]{c:Code}(z:RS P md (G (FL f r tm df (.code c::.inLoop c::k)) cs) Φ Stop):RS P md (G (FL f r tm df (.code (.loop c)::k)) cs) Φ Stop:=xx1 z
theorem xg8[Stb Φ]{c:Code}(z:RS P md (G (FL f r tm df (.code c::.inLoop c::k)) cs) Φ Stop):RS P md (G (FL f r tm df (.inLoop c::k)) cs) Φ Stop:=xtl z
def botF(P:Program):Frame:={ (default:Frame)with fn:=P.funcs.size,defers:=[],mode:=.panicking [goexitEntry]}
theorem xu8[Stb Φ]{fn : Func}{g : FuncId}{caps args : Array Value}(hf : P.funcs[g]? = some fn)(hname : (fn.name == "runtime.NumGoroutine") = false)(hb : fn.body.isNone = false)
 (x:RS P (.own false) (G (Frame.enter P g (args++caps) .deferred) [botF P]) Φ Stop):RS P (.own false) (born P {target:=.fn (.func g) caps,args:=args}) Φ Stop:=by
 refine xsc rfl (fun w=>?_) x
 have hn:fn.body≠none:=fun e=>by rw[e]at hb;cases hb
 have hname' : ¬ fn.name = "runtime.NumGoroutine" := by simpa using hname
 show stepG P false (born P {target:=.fn (.func g) caps,args:=args}) w=_
 cases hbd:fn.body with
 |none=>exact absurd hbd hn
 |some c=>simp[born,stepG,unwind,callDeferred,invoke,callFunc,hf,hname',hbd,seen,GStep.after,G,botF]
end
end Go.X
namespace Go.X
open Go.Conc Go.RowKit Go.Conc.Lib Go.ConcR.Gen Go.ConcN.Gen
open Go.ConcR (KK wgBlock WgAt stA smA rd wr mk DC0)
open Go.ConcN (WgLive st_flag st_waiters)
open Go.ConcN.Gen
section
variable{L:WgLink}{Wg:Nat}{b₀:Frame}{a₀:Act}{ops₀:Array Oper}{i₀:Nat}{rest₀:List Nat}{k₀:List Item}{cs:List Frame}
set_option maxRecDepth 100000 in
set_option maxHeartbeats 8000000 in
theorem yhn{P:Program}(H:WgLib P L)(w:World)(hF:WgLive L.tWg Wg w):
 ∃m,Goes P true (RLv L.tWg Wg) DC0 (AtKdS P L.tWg Wg (G (b₀.at (a₀.put ((ops₀[i₀]?).bind (·.dst)) (.tuple #[])) (.inRegion ops₀ rest₀::k₀)) cs)) m (G ((base L.add).at ⟨#[.pointer (some ⟨Wg,0,none⟩),.int .i64 1,undef,undef,undef,undef,undef,undef,undef,undef,undef,undef,undef,undef,undef,undef,undef,undef,undef,undef,undef,undef,undef,undef,undef,undef,undef,undef,undef,undef,undef,undef,undef,undef,undef,undef,undef,undef,undef,undef,undef,undef,undef,undef,undef,undef,undef,undef,undef,undef,undef,undef,undef,undef,undef,undef,undef,undef,undef,undef,undef,undef,undef,undef,undef,undef,undef,undef,undef,undef,undef,undef,undef,undef,undef,undef,undef,undef,undef,undef,undef,undef,undef,undef,undef,undef,undef,undef,undef,undef,undef,undef,undef,undef,undef,undef,undef,undef,undef,undef,undef,undef,undef,undef,undef,undef,undef,undef,undef,undef,undef,undef,undef,undef,undef,undef,undef],[]⟩ [.code (body_add L)]) (b₀.at a₀ (.inRegion ops₀ (i₀::rest₀)::k₀)::cs)) w:=by
 lib_facts
 simp only[body_add,addFn,Option.getD_some]
 refine⟨30,?_⟩
 u_c stepG_seq xaq hF
 u_cond true xaq hF
 u_c stepG_seq xaq hF
 u_c stepG_seq xaq hF
 u_reg xaq hF
 u_op xaq hF
 u_op xaq hF
 u_c stepG_region_end xaq hF
 u_cond false xaq hF
 u_c stepG_skip xaq hF
 u_c stepG_seq xaq hF
 u_reg xaq hF
 refine Goes.stop (fun w1 h1=>?_)
 replace hF:=xaq hF h1
 clear h1
 refine⟨rfl,_,stepG_mark0 .disable (by simp) rfl rfl (by k_ne) rfl H.f_disable (x_disable_n L) (x_disable_b L) (x_disable_x L) (x_disable_f L),60,?_⟩
 walk_nrm
 u_c stepG_region_end xaq hF
 u_reg xaq hF
 u_defer xaq hF
 u_c stepG_region_end xaq hF
 u_c stepG_seq xaq hF
 u_reg xaq hF
 u_op xaq hF
 u_c stepG_region_end xaq hF
 u_c stepG_seq xaq hF
 u_c stepG_seq xaq hF
 u_reg xaq hF
 u_bub xaq hF
 u_c stepG_region_end xaq hF
 u_cond false xaq hF
 u_c stepG_skip xaq hF
 u_c stepG_seq xaq hF
 u_reg xaq hF
 u_op xaq hF
 u_op xaq hF
 u_op xaq hF
 u_op xaq hF
 u_op xaq hF
 u_op xaq hF
 u_call H.f_uAdd (nm_uAdd L) uAddFn xaq hF
 u_c stepG_seq xaq hF
 u_reg xaq hF
 u_op xaq hF
 u_c stepG_region_end xaq hF
 u_c stepG_seq xaq hF
 u_reg xaq hF
 u_op xaq hF
 u_op xaq hF
 u_op xaq hF
 u_op xaq hF
 refine Goes.stop (fun w2 h2=>?_)
 replace hF:=xaq hF h2
 clear h2
 refine⟨rfl,fun v hv hw=>?_⟩
 rcases Nat.eq_zero_or_pos v with rfl|hvp
 ·replace hw:WgAt L.tWg Wg w2 0 0:=by simpa using hw
  have z:(((0:Nat):Int)+1)*KK=KK:=by simp
  rw[z]
  have e0:IntKind.u64.wrap (0+4294967296)=KK:=by decide
  refine⟨_,(stepG_add_atomic rfl rfl (by k_ne) rfl H.f_addU64 (x_addU64_n L) (x_addU64_b L) (x_addU64_x L) .u64 (x_addU64_f L) rfl rfl hw.cellSt (hw.thaw 0)).trans (by rw[e0];rfl),fun _=>⟨110,?_⟩,fun h=>absurd rfl h⟩
  replace hF:WgLive L.tWg Wg (w2.setCell (stA Wg) (.int .u64 KK)):=⟨_,_,hw.setSt _⟩
  clear hw
  simp only[KK]at hF⊢
  walk_nrm
  u_op xaq hF
  u_c stepG_region_end xaq hF
  u_c stepG_ret' xaq hF
  u_leave1 H.f_uAdd xaq hF
  u_op xaq hF
  u_c stepG_region_end xaq hF
  u_c stepG_seq xaq hF
  u_c stepG_seq xaq hF
  u_reg xaq hF
  u_op xaq hF
  u_op xaq hF
  u_op xaq hF
  u_op xaq hF
  u_skip xaq hF
  u_skip xaq hF
  u_op xaq hF
  u_c stepG_region_end xaq hF
  u_cond false xaq hF
  u_c stepG_skip xaq hF
  u_c stepG_seq xaq hF
  u_reg xaq hF
  u_op xaq hF
  u_op xaq hF
  u_op xaq hF
  u_op xaq hF
  u_c stepG_region_end xaq hF
  u_c stepG_seq xaq hF
  u_reg xaq hF
  u_op xaq hF
  u_op xaq hF
  u_op xaq hF
  u_op xaq hF
  u_c stepG_region_end xaq hF
  u_c stepG_seq xaq hF
  u_c stepG_seq xaq hF
  u_reg xaq hF
  u_op xaq hF
  u_op xaq hF
  u_op xaq hF
  u_op xaq hF
  u_op xaq hF
  u_op xaq hF
  u_op xaq hF
  u_op xaq hF
  u_op xaq hF
  u_op xaq hF
  u_c stepG_region_end xaq hF
  u_cond true xaq hF
  u_reg xaq hF
  u_op xaq hF
  u_op xaq hF
  u_op xaq hF
  u_conv H.underlying_tPU32 H.room_tU32 (WgLive.cell1 hF).choose_spec xaq hF
  refine Goes.stop (fun w3 h3=>?_)
  replace hF:=xaq hF h3
  clear h3
  refine⟨rfl,_,stepG_markAt .read (by simp) rfl rfl (by k_ne) rfl H.f_raceRead (x_raceRead_n L) (x_raceRead_b L) (x_raceRead_x L) (x_raceRead_f L) (by simp[Act.eval,smA]),110,?_⟩
  walk_nrm
  u_c stepG_region_end xaq hF
  u_c stepG_seq xaq hF
  u_c stepG_seq xaq hF
  u_reg xaq hF
  u_op xaq hF
  u_op xaq hF
  u_c stepG_region_end xaq hF
  u_cond false xaq hF
  u_c stepG_skip xaq hF
  u_c stepG_seq xaq hF
  u_c stepG_seq xaq hF
  u_reg xaq hF
  u_op xaq hF
  u_op xaq hF
  u_op xaq hF
  u_skip xaq hF
  u_skip xaq hF
  u_op xaq hF
  u_op xaq hF
  u_skip xaq hF
  u_skip xaq hF
  u_skip xaq hF
  u_skip xaq hF
  u_op xaq hF
  u_c stepG_region_end xaq hF
  u_cond false xaq hF
  u_c stepG_skip xaq hF
  u_c stepG_seq xaq hF
  u_c stepG_seq xaq hF
  u_reg xaq hF
  u_op xaq hF
  u_op xaq hF
  u_op xaq hF
  u_skip xaq hF
  u_skip xaq hF
  u_op xaq hF
  u_c stepG_region_end xaq hF
  u_cond true xaq hF
  u_c stepG_ret' xaq hF
  refine Goes.stop (fun w4 h4=>?_)
  replace hF:=xaq hF h4
  clear h4
  refine⟨rfl,_,stepG_unwind_entry (v:=.tuple #[]) (evs:=#[mk .enable]) rfl H.f_enable (x_enable_n L) (x_enable_b L) (x_enable_x L) (x_enable_f L) (by simp[Extern.Race.none_]) (by simp[mk]) (by simp[mk]),4,?_⟩
  u_leave0 H.f_add xaq hF
  exact Goes.stop fun w5 h5=>⟨rfl,xaq hF h5⟩
 ·obtain⟨V,hV⟩:∃V:Int,V=(v:Int)+1:=⟨_,rfl⟩
  obtain⟨S,hS⟩:∃S:Int,S=V*KK:=⟨_,rfl⟩
  have eS:IntKind.u64.wrap ((v:Int)*KK+4294967296)=S:=by rw[IntKind.wrap_u64,hS,hV];simp only[KK];omega
  rw[<- hV,<- hS]
  have a1:S / 4294967296=V:=by rw[hS];simp only[KK];omega
  have b1:bits .and .u64 S 2147483648=0:=by rw[hS,hV];have:=st_flag (v+1) 0 om om;simpa[KK]using this
  have b2:bits .and .u64 S 2147483647=0:=by rw[hS,hV];have:=st_waiters (v+1) 0 om om;simpa[KK]using this
  have c1:IntKind.i32.wrap V=V:=by rw[IntKind.wrap_i32];omega
  have hV1:1<V:=om
  have hV2:V<2147483648:=om
  have q1:(V==1)=false:=by simp;omega
  have q2:decide (V=1)=false:=decide_eq_false om
  have q3:decide (V<0)=false:=decide_eq_false om
  have q4:decide (0<V)=true:=decide_eq_true om
  have q5:(V==0)=false:=by simp;omega
  have q6:decide (V=0)=false:=decide_eq_false om
  refine⟨_,(stepG_add_atomic rfl rfl (by k_ne) rfl H.f_addU64 (x_addU64_n L) (x_addU64_b L) (x_addU64_x L) .u64 (x_addU64_f L) rfl rfl hw.cellSt (hw.thaw 0)).trans (by rw[eS];rfl),fun h=>absurd h om,fun _=>⟨110,?_⟩⟩
  replace hF:WgLive L.tWg Wg (w2.setCell (stA Wg) (.int .u64 S)):=⟨_,_,hw.setSt _⟩
  clear hw hS hV eS
  walk_nrm
  u_op xaq hF
  u_c stepG_region_end xaq hF
  u_c stepG_ret' xaq hF
  u_leave1 H.f_uAdd xaq hF
  u_op xaq hF
  u_c stepG_region_end xaq hF
  u_c stepG_seq xaq hF
  u_c stepG_seq xaq hF
  u_reg xaq hF
  u_op xaq hF
  u_op xaq hF
  u_op xaq hF
  u_op xaq hF
  u_skip xaq hF
  u_skip xaq hF
  u_op xaq hF
  u_c stepG_region_end xaq hF
  u_cnd false xaq hF
  u_c stepG_skip xaq hF
  u_c stepG_seq xaq hF
  u_reg xaq hF
  u_op xaq hF
  u_op xaq hF
  u_op xaq hF
  u_op xaq hF
  u_c stepG_region_end xaq hF
  u_c stepG_seq xaq hF
  u_reg xaq hF
  u_op xaq hF
  u_op xaq hF
  u_op xaq hF
  u_op xaq hF
  u_c stepG_region_end xaq hF
  u_c stepG_seq xaq hF
  u_c stepG_seq xaq hF
  u_reg xaq hF
  u_op xaq hF
  u_op xaq hF
  u_op xaq hF
  u_op xaq hF
  u_op xaq hF
  u_op xaq hF
  u_op xaq hF
  u_op xaq hF
  u_op xaq hF
  u_op xaq hF
  u_c stepG_region_end xaq hF
  u_cnd false xaq hF
  u_c stepG_skip xaq hF
  u_c stepG_seq xaq hF
  u_c stepG_seq xaq hF
  u_reg xaq hF
  u_op xaq hF
  u_op xaq hF
  u_c stepG_region_end xaq hF
  u_cnd false xaq hF
  u_c stepG_skip xaq hF
  u_c stepG_seq xaq hF
  u_c stepG_seq xaq hF
  u_reg xaq hF
  u_op xaq hF
  u_op xaq hF
  u_op xaq hF
  u_skip xaq hF
  u_skip xaq hF
  u_op xaq hF
  u_op xaq hF
  u_skip xaq hF
  u_skip xaq hF
  u_skip xaq hF
  u_skip xaq hF
  u_op xaq hF
  u_c stepG_region_end xaq hF
  u_cnd false xaq hF
  u_c stepG_skip xaq hF
  u_c stepG_seq xaq hF
  u_c stepG_seq xaq hF
  u_reg xaq hF
  u_op xaq hF
  u_op xaq hF
  u_op xaq hF
  u_skip xaq hF
  u_skip xaq hF
  u_op xaq hF
  u_c stepG_region_end xaq hF
  u_cnd true xaq hF
  u_c stepG_ret' xaq hF
  refine Goes.stop (fun w3 h3=>?_)
  replace hF:=xaq hF h3
  clear h3
  refine⟨rfl,_,stepG_unwind_entry (v:=.tuple #[]) (evs:=#[mk .enable]) rfl H.f_enable (x_enable_n L) (x_enable_b L) (x_enable_x L) (x_enable_f L) (by simp[Extern.Race.none_]) (by simp[mk]) (by simp[mk]),4,?_⟩
  u_leave0 H.f_add xaq hF
  exact Goes.stop fun w5 h5=>⟨rfl,xaq hF h5⟩
end
section
variable{L:WgLink}{Wg:Nat}{b₀:Frame}{a₀:Act}{ops₀:Array Oper}{i₀:Nat}{rest₀:List Nat}{k₀:List Item}{cs:List Frame}
set_option maxRecDepth 100000 in
set_option maxHeartbeats 8000000 in
theorem xb7{P:Program}(H:WgLib P L)(w:World)(hF:WgLive L.tWg Wg w):
 ∃m,Goes P true (RLv L.tWg Wg) DC0 (AtKd P L.tWg Wg (AnchX L Wg (b₀.at a₀ (.inRegion ops₀ (i₀::rest₀)::k₀)) cs)) m (G ((base L.wait).at ⟨#[.pointer (some ⟨Wg,0,none⟩),undef,undef,undef,undef,undef,undef,undef,undef,undef,undef,undef,undef,undef,undef,undef,undef,undef,undef,undef,undef,undef,undef,undef,undef,undef,undef,undef,undef,undef,undef,undef,undef,undef,undef,undef,undef,undef,undef,undef,undef,undef,undef,undef,undef,undef,undef,undef,undef,undef,undef,undef,undef,undef,undef,undef,undef,undef,undef,undef,undef,undef,undef,undef,undef,undef,undef,undef,undef,undef,undef,undef,undef,undef,undef,undef,undef,undef,undef,undef,undef,undef,undef,undef],[]⟩ [.code (body_wait L)]) (b₀.at a₀ (.inRegion ops₀ (i₀::rest₀)::k₀)::cs)) w:=by
 lib_facts
 simp only[body_wait,waitFn,Option.getD_some]
 refine⟨9,?_⟩
 u_c stepG_seq xaq hF
 u_cond true xaq hF
 u_reg xaq hF
 refine Goes.stop (fun w1 h1=>?_)
 replace hF:=xaq hF h1
 clear h1
 refine⟨rfl,_,stepG_mark0 .disable (by simp) rfl rfl (by k_ne) rfl H.f_disable (x_disable_n L) (x_disable_b L) (x_disable_x L) (x_disable_f L),9,?_⟩
 walk_nrm
 u_c stepG_region_end xaq hF
 u_c stepG_block xaq hF
 u_c stepG_loop xaq hF
 exact Goes.stop (fun w2 h2=>⟨_,rfl,by simp,by simp,xaq hF h2⟩)
set_option maxRecDepth 100000 in
set_option maxHeartbeats 8000000 in
theorem xc7{P:Program}(H:WgLib P L)(g:Goroutine)(w:World)(h:AnchX L Wg (b₀.at a₀ (.inRegion ops₀ (i₀::rest₀)::k₀)) cs g w):
 ∃m,Goes P true (RLv L.tWg Wg) DC0 (AtW1 P L.tWg Wg (G (b₀.at (a₀.put ((ops₀[i₀]?).bind (·.dst)) (.tuple #[])) (.inRegion ops₀ rest₀::k₀)) cs) (AnchX L Wg (b₀.at a₀ (.inRegion ops₀ (i₀::rest₀)::k₀)) cs)) m g w:=by
 lib_facts
 obtain⟨T,rfl,hT84,t0,hF⟩:=h
 obtain⟨v0,v1,v2,v3,v4,v5,v6,v7,v8,v9,v10,v11,v12,v13,v14,v15,v16,v17,v18,v19,v20,v21,v22,v23,v24,v25,v26,v27,v28,v29,v30,v31,v32,v33,v34,v35,v36,v37,v38,v39,v40,v41,v42,v43,v44,v45,v46,v47,v48,v49,v50,v51,v52,v53,v54,v55,v56,v57,v58,v59,v60,v61,v62,v63,v64,v65,v66,v67,v68,v69,v70,v71,v72,v73,v74,v75,v76,v77,v78,v79,v80,v81,v82,v83,rfl⟩:=Go.ConcR.Gen.array84 T hT84
 simp only[List.getElem?_toArray,List.getElem?_cons_zero,Option.some.injEq]at t0
 subst t0
 refine⟨30,?_⟩
 simp only[L7,body_wait,waitFn,Option.getD_some]
 u_c stepG_block xaq hF
 u_c stepG_seq xaq hF
 u_reg xaq hF
 u_op xaq hF
 u_op xaq hF
 u_op xaq hF
 u_call H.f_uLoad (nm_uLoad L) uLoadFn xaq hF
 u_c stepG_seq xaq hF
 u_reg xaq hF
 u_op xaq hF
 u_c stepG_region_end xaq hF
 u_c stepG_seq xaq hF
 u_reg xaq hF
 u_op xaq hF
 u_op xaq hF
 u_op xaq hF
 refine Goes.stop (fun w1 h1=>?_)
 replace hF:=xaq hF h1
 clear h1
 refine⟨rfl,fun v hv hw=>?_⟩
 rcases Nat.eq_zero_or_pos v with rfl|hvp
 ·replace hw:WgAt L.tWg Wg w1 0 0:=by simpa using hw
  refine⟨_,stepG_load_atomic (v:=0) rfl rfl (by k_ne) rfl H.f_loadU64 (x_loadU64_n L) (x_loadU64_b L) (x_loadU64_x L) .u64 (x_loadU64_f L) rfl hw.cellSt,fun _=>⟨60,?_⟩,fun h=>absurd rfl h⟩
  clear hw
  walk_nrm
  u_op xaq hF
  u_c stepG_region_end xaq hF
  u_c stepG_ret' xaq hF
  u_leave1 H.f_uLoad xaq hF
  u_op xaq hF
  u_c stepG_region_end xaq hF
  u_c stepG_seq xaq hF
  u_reg xaq hF
  u_op xaq hF
  u_op xaq hF
  u_op xaq hF
  u_op xaq hF
  u_c stepG_region_end xaq hF
  u_c stepG_seq xaq hF
  u_reg xaq hF
  u_op xaq hF
  u_op xaq hF
  u_op xaq hF
  u_op xaq hF
  u_c stepG_region_end xaq hF
  u_c stepG_seq xaq hF
  u_c stepG_seq xaq hF
  u_reg xaq hF
  u_op xaq hF
  u_op xaq hF
  u_c stepG_region_end xaq hF
  u_cond true xaq hF
  u_c stepG_seq xaq hF
  u_cond true xaq hF
  u_c stepG_seq xaq hF
  u_reg xaq hF
  refine Goes.stop (fun w2 h2=>?_)
  replace hF:=xaq hF h2
  clear h2
  refine⟨rfl,_,stepG_mark0 .enable (by simp) rfl rfl (by k_ne) rfl H.f_enable (x_enable_n L) (x_enable_b L) (x_enable_x L) (x_enable_f L),12,?_⟩
  walk_nrm
  u_c stepG_region_end xaq hF
  u_reg xaq hF
  u_op xaq hF
  u_conv H.underlying_tWgP H.room_tWg (WgLive.cell0 hF).choose_spec xaq hF
  refine Goes.stop (fun w3 h3=>?_)
  replace hF:=xaq hF h3
  clear h3
  refine⟨rfl,_,stepG_markAt .acquire (by simp) rfl rfl (by k_ne) rfl H.f_acquire (x_acquire_n L) (x_acquire_b L) (x_acquire_x L) (x_acquire_f L) (by simp[Act.eval,stA]),30,?_⟩
  walk_nrm
  u_c stepG_region_end xaq hF
  u_c stepG_seq xaq hF
  u_c stepG_seq xaq hF
  u_reg xaq hF
  u_op xaq hF
  u_op xaq hF
  u_op xaq hF
  u_op xaq hF
  u_op xaq hF
  u_op xaq hF
  u_op xaq hF
  u_op xaq hF
  u_skip xaq hF
  u_skip xaq hF
  u_op xaq hF
  u_c stepG_region_end xaq hF
  u_cond false xaq hF
  u_c stepG_skip xaq hF
  u_c stepG_ret' xaq hF
  u_leave0 H.f_wait xaq hF
  exact Goes.stop fun w9 h9=>⟨rfl,xaq hF h9⟩
 ·obtain⟨S,hS⟩:∃S:Int,(v:Int)*KK=S:=⟨_,rfl⟩
  have a1:S / 4294967296=(v:Int):=by rw[<- hS];simp only[KK];omega
  have b1:bits .and .u64 S 2147483648=0:=by rw[<- hS];have:=st_flag v 0 om om;simpa[KK]using this
  have b2:bits .and .u64 S 2147483647=0:=by rw[<- hS];have:=st_waiters v 0 om om;simpa[KK]using this
  have c1:IntKind.i32.wrap (v:Int)=(v:Int):=by rw[IntKind.wrap_i32];omega
  have w1_:IntKind.u64.wrap (S+1)=S+1:=by rw[IntKind.wrap_u64,<- hS];simp only[KK];omega
  have q3:decide ((v:Int)<0)=false:=decide_eq_false om
  have q4:decide (0<(v:Int))=true:=decide_eq_true om
  have q5:((v:Int)==0)=false:=by simp;omega
  have q6:decide ((v:Int)=0)=false:=decide_eq_false om
  rw[hS]at hw
  refine⟨_,stepG_load_atomic (v:=S) rfl rfl (by k_ne) rfl H.f_loadU64 (x_loadU64_n L) (x_loadU64_b L) (x_loadU64_x L) .u64 (x_loadU64_f L) rfl hw.cellSt,fun h0=>absurd h0 om,fun _=>⟨60,?_⟩⟩
  clear hw
  walk_nrm
  u_op xaq hF
  u_c stepG_region_end xaq hF
  u_c stepG_ret' xaq hF
  u_leave1 H.f_uLoad xaq hF
  u_op xaq hF
  u_c stepG_region_end xaq hF
  u_c stepG_seq xaq hF
  u_reg xaq hF
  u_op xaq hF
  u_op xaq hF
  u_op xaq hF
  u_op xaq hF
  u_c stepG_region_end xaq hF
  u_c stepG_seq xaq hF
  u_reg xaq hF
  u_op xaq hF
  u_op xaq hF
  u_op xaq hF
  u_op xaq hF
  u_c stepG_region_end xaq hF
  u_c stepG_seq xaq hF
  u_c stepG_seq xaq hF
  u_reg xaq hF
  u_op xaq hF
  u_op xaq hF
  u_c stepG_region_end xaq hF
  u_cnd false xaq hF
  u_c stepG_skip xaq hF
  u_c stepG_seq xaq hF
  u_reg xaq hF
  u_op xaq hF
  u_op xaq hF
  u_op xaq hF
  u_op xaq hF
  u_op xaq hF
  u_op xaq hF
  u_call H.f_uCas (nm_uCas L) uCasFn xaq hF
  u_c stepG_seq xaq hF
  u_reg xaq hF
  u_op xaq hF
  u_c stepG_region_end xaq hF
  u_c stepG_seq xaq hF
  u_reg xaq hF
  u_op xaq hF
  u_op xaq hF
  u_op xaq hF
  u_op xaq hF
  u_op xaq hF
  refine Goes.stop (fun w2 h2=>?_)
  replace hF:=xaq hF h2
  clear h2
  refine⟨rfl,fun v' hv' hw=>⟨fun e=>?_,fun e=>?_⟩⟩
  ·subst e
   rw[hS]at hw⊢
   refine⟨_,(stepG_cas_hit (v:=S) (n:=S+1) rfl rfl (by k_ne) rfl H.f_casU64 (x_casU64_n L) (x_casU64_b L) (x_casU64_x L) .u64 (x_casU64_f L) rfl rfl rfl hw.cellSt (hw.thaw 0)).trans (by rfl),70,?_⟩
   replace hF:WgLive L.tWg Wg (w2.setCell (stA Wg) (.int .u64 (S+1))):=⟨_,_,hw.setSt _⟩
   clear hw
   walk_nrm
   u_op xaq hF
   u_c stepG_region_end xaq hF
   u_c stepG_ret' xaq hF
   u_leave1 H.f_uCas xaq hF
   u_c stepG_region_end xaq hF
   u_cond true xaq hF
   u_c stepG_seq xaq hF
   u_c stepG_seq xaq hF
   u_reg xaq hF
   u_op xaq hF
   u_op xaq hF
   u_op xaq hF
   u_op xaq hF
   u_c stepG_region_end xaq hF
   u_cond true xaq hF
   u_reg xaq hF
   u_op xaq hF
   u_op xaq hF
   u_op xaq hF
   u_conv H.underlying_tPU32 H.room_tU32 (WgLive.cell1 hF).choose_spec xaq hF
   refine Goes.stop (fun w3 h3=>?_)
   replace hF:=xaq hF h3
   clear h3
   refine⟨rfl,_,stepG_markAt .write (by simp) rfl rfl (by k_ne) rfl H.f_raceWrite (x_raceWrite_n L) (x_raceWrite_b L) (x_raceWrite_x L) (x_raceWrite_f L) (by simp[Act.eval,smA]),70,?_⟩
   walk_nrm
   u_c stepG_region_end xaq hF
   u_c stepG_seq xaq hF
   u_reg xaq hF
   u_op xaq hF
   u_c stepG_region_end xaq hF
   u_c stepG_seq xaq hF
   u_c stepG_seq xaq hF
   u_reg xaq hF
   u_op xaq hF
   u_op xaq hF
   u_op xaq hF
   u_op xaq hF
   u_skip xaq hF
   u_op xaq hF
   u_c stepG_region_end xaq hF
   u_cond false xaq hF
   u_c stepG_skip xaq hF
   u_c stepG_seq xaq hF
   u_reg xaq hF
   u_op xaq hF
   u_op xaq hF
   u_op xaq hF
   u_op xaq hF
   refine Goes.stop (fun w4 h4=>?_)
   replace hF:=xaq hF h4
   clear h4
   refine⟨rfl,rfl,fun⟨st,hw⟩=>stepG_semacquire_wait rfl rfl rfl H.f_semacquire (x_semacquire_n L) (x_semacquire_b L) (x_semacquire_x L) (x_semacquire_f L) (by simp[Act.eval,smA]) hw.cellSm,fun hf=>?_⟩
   refine⟨_,(stepG_semacquire (n:=1) rfl rfl (by k_ne) rfl H.f_semacquire (x_semacquire_n L) (x_semacquire_b L) (x_semacquire_x L) (x_semacquire_f L) (by simp[Act.eval,smA]) hf.cellSm (by k_ne) (hf.thaw 1)).trans (by rfl),30,?_⟩
   replace hF:WgLive L.tWg Wg (w4.setCell (smA Wg) (.int .u32 0)):=⟨_,_,hf.setSm 0⟩
   clear hf
   walk_nrm
   u_c stepG_region_end xaq hF
   u_c stepG_seq xaq hF
   u_reg xaq hF
   u_op xaq hF
   u_op xaq hF
   u_op xaq hF
   u_call H.f_uLoad (nm_uLoad L) uLoadFn xaq hF
   u_c stepG_seq xaq hF
   u_reg xaq hF
   u_op xaq hF
   u_c stepG_region_end xaq hF
   u_c stepG_seq xaq hF
   u_reg xaq hF
   u_op xaq hF
   u_op xaq hF
   u_op xaq hF
   refine Goes.stop (fun w5 h5=>?_)
   replace hF:=xaq hF h5
   clear h5
   refine⟨rfl,fun hw=>⟨_,stepG_load_atomic (v:=0) rfl rfl (by k_ne) rfl H.f_loadU64 (x_loadU64_n L) (x_loadU64_b L) (x_loadU64_x L) .u64 (x_loadU64_f L) rfl hw.cellSt,30,?_⟩⟩
   clear hw
   walk_nrm
   u_op xaq hF
   u_c stepG_region_end xaq hF
   u_c stepG_ret' xaq hF
   u_leave1 H.f_uLoad xaq hF
   u_op xaq hF
   u_op xaq hF
   u_c stepG_region_end xaq hF
   u_c stepG_seq xaq hF
   u_cond true xaq hF
   u_c stepG_seq xaq hF
   u_reg xaq hF
   refine Goes.stop (fun w6 h6=>?_)
   replace hF:=xaq hF h6
   clear h6
   refine⟨rfl,_,stepG_mark0 .enable (by simp) rfl rfl (by k_ne) rfl H.f_enable (x_enable_n L) (x_enable_b L) (x_enable_x L) (x_enable_f L),12,?_⟩
   walk_nrm
   u_c stepG_region_end xaq hF
   u_reg xaq hF
   u_op xaq hF
   u_conv H.underlying_tWgP H.room_tWg (WgLive.cell0 hF).choose_spec xaq hF
   refine Goes.stop (fun w7 h7=>?_)
   replace hF:=xaq hF h7
   clear h7
   refine⟨rfl,_,stepG_markAt .acquire (by simp) rfl rfl (by k_ne) rfl H.f_acquire (x_acquire_n L) (x_acquire_b L) (x_acquire_x L) (x_acquire_f L) (by simp[Act.eval,stA]),30,?_⟩
   walk_nrm
   u_c stepG_region_end xaq hF
   u_c stepG_seq xaq hF
   u_c stepG_seq xaq hF
   u_reg xaq hF
   u_op xaq hF
   u_c stepG_region_end xaq hF
   u_cond false xaq hF
   u_c stepG_skip xaq hF
   u_c stepG_ret' xaq hF
   u_leave0 H.f_wait xaq hF
   exact Goes.stop fun w9 h9=>⟨rfl,xaq hF h9⟩
  ·refine⟨_,stepG_cas_miss (v:=(v':Int)*KK) (old:=S) (n:=S+1) rfl rfl (by k_ne) rfl H.f_casU64 (x_casU64_n L) (x_casU64_b L) (x_casU64_x L) .u64 (x_casU64_f L) rfl rfl rfl hw.cellSt (hw.thaw 0) (by rw[<- hS];simp only[KK];omega),20,?_⟩
   clear hw
   walk_nrm
   u_op xaq hF
   u_c stepG_region_end xaq hF
   u_c stepG_ret' xaq hF
   u_leave1 H.f_uCas xaq hF
   u_c stepG_region_end xaq hF
   u_cond false xaq hF
   u_c stepG_skip xaq hF
   u_c stepG_inBlock xaq hF
   u_c stepG_inLoop xaq hF
   refine Goes.stop (fun w3 h3=>?_)
   replace hF:=xaq hF h3
   exact⟨_,rfl,by simp,by simp,hF⟩
end
section
variable{L:WgLink}{Wg:Nat}{b₀:Frame}{a₀:Act}{ops₀:Array Oper}{i₀:Nat}{rest₀:List Nat}{k₀:List Item}{cs:List Frame}
set_option maxRecDepth 100000 in
set_option maxHeartbeats 8000000 in
theorem ygl{P:Program}(H:WgLib P L){qt:Nat}(hT:QuitsD P qt 0 (G (b₀.at (a₀.put ((ops₀[i₀]?).bind (·.dst)) (.tuple #[])) (.inRegion ops₀ rest₀::k₀)) cs))(w:World)(hF:WgLive L.tWg Wg w):
 Goes P false (RLv L.tWg Wg) DC0 (AtR0 P L.tWg Wg) 40 (G ((base L.add).at ⟨#[.pointer (some ⟨Wg,0,none⟩),.int .i64 (-1),undef,undef,undef,undef,undef,undef,undef,undef,undef,undef,undef,undef,undef,undef,undef,undef,undef,undef,undef,undef,undef,undef,undef,undef,undef,undef,undef,undef,undef,undef,undef,undef,undef,undef,undef,undef,undef,undef,undef,undef,undef,undef,undef,undef,undef,undef,undef,undef,undef,undef,undef,undef,undef,undef,undef,undef,undef,undef,undef,undef,undef,undef,undef,undef,undef,undef,undef,undef,undef,undef,undef,undef,undef,undef,undef,undef,undef,undef,undef,undef,undef,undef,undef,undef,undef,undef,undef,undef,undef,undef,undef,undef,undef,undef,undef,undef,undef,undef,undef,undef,undef,undef,undef,undef,undef,undef,undef,undef,undef,undef,undef,undef,undef,undef,undef],[]⟩ [.code (body_add L)]) (b₀.at a₀ (.inRegion ops₀ (i₀::rest₀)::k₀)::cs)) w:=by
 lib_facts
 simp only[body_add,addFn,Option.getD_some]
 u_c stepG_seq xaq hF
 u_cond true xaq hF
 u_c stepG_seq xaq hF
 u_c stepG_seq xaq hF
 u_reg xaq hF
 u_op xaq hF
 u_op xaq hF
 u_c stepG_region_end xaq hF
 u_cond true xaq hF
 u_reg xaq hF
 u_op xaq hF
 u_conv H.underlying_tWgP H.room_tWg (WgLive.cell0 hF).choose_spec xaq hF
 refine Goes.stop (fun w1 h1=>?_)
 replace hF:=xaq hF h1
 clear h1
 refine⟨rfl,_,stepG_markAt .releaseMerge (by simp) rfl rfl (by k_ne) rfl H.f_relMerge (x_relMerge_n L) (x_relMerge_b L) (x_relMerge_x L) (x_relMerge_f L) (by simp[Act.eval,stA]),20,?_⟩
 walk_nrm
 u_c stepG_region_end xaq hF
 u_c stepG_seq xaq hF
 u_reg xaq hF
 refine Goes.stop (fun w2 h2=>?_)
 replace hF:=xaq hF h2
 clear h2
 refine⟨rfl,_,stepG_mark0 .disable (by simp) rfl rfl (by k_ne) rfl H.f_disable (x_disable_n L) (x_disable_b L) (x_disable_x L) (x_disable_f L),60,?_⟩
 walk_nrm
 u_c stepG_region_end xaq hF
 u_reg xaq hF
 u_defer xaq hF
 u_c stepG_region_end xaq hF
 u_c stepG_seq xaq hF
 u_reg xaq hF
 u_op xaq hF
 u_c stepG_region_end xaq hF
 u_c stepG_seq xaq hF
 u_c stepG_seq xaq hF
 u_reg xaq hF
 u_bub xaq hF
 u_c stepG_region_end xaq hF
 u_cond false xaq hF
 u_c stepG_skip xaq hF
 u_c stepG_seq xaq hF
 u_reg xaq hF
 u_op xaq hF
 u_op xaq hF
 u_op xaq hF
 u_op xaq hF
 u_op xaq hF
 u_op xaq hF
 u_call H.f_uAdd (nm_uAdd L) uAddFn xaq hF
 u_c stepG_seq xaq hF
 u_reg xaq hF
 u_op xaq hF
 u_c stepG_region_end xaq hF
 u_c stepG_seq xaq hF
 u_reg xaq hF
 u_op xaq hF
 u_op xaq hF
 u_op xaq hF
 u_op xaq hF
 refine Goes.stop (fun w3 h3=>?_)
 clear h3 hF
 refine⟨rfl,fun v wt hwt hv hw=>?_⟩
 have e0:IntKind.u64.wrap (KK+18446744069414584320)=0:=by decide
 have e1:IntKind.u64.wrap (KK+1+18446744069414584320)=1:=by decide
 rcases Nat.eq_zero_or_pos v with rfl|hvp<;>(obtain rfl|rfl:wt=0\/wt=1:=by omega)
 ·replace hw:WgAt L.tWg Wg w3 KK 0:=by simpa using hw
  have z:((0:Nat):Int)*KK+((0:Nat):Int)=0:=by simp
  rw[z]
  refine⟨_,(stepG_add_atomic rfl rfl (by k_ne) rfl H.f_addU64 (x_addU64_n L) (x_addU64_b L) (x_addU64_x L) .u64 (x_addU64_f L) rfl rfl hw.cellSt (hw.thaw 0)).trans (by rw[e0];rfl),fun hl=>absurd hl.2 (by decide),fun _=>⟨qt+89,?_⟩⟩
  clear hw
  walk_nrm
  q_val (.int .u64 0)
  q_c stepG_region_end
  q_c stepG_ret'
  q_leave1 H.f_uAdd
  q_val (.int .u64 0)
  q_c stepG_region_end
  q_c stepG_seq
  q_c stepG_seq
  q_reg
  q_val (.int .u64 0)
  q_val (.int .u64 0)
  q_val (.bool false)
  q_val (.bool false)
  q_skip
  q_skip
  q_val (.bool false)
  q_c stepG_region_end
  q_cond false
  q_c stepG_skip
  q_c stepG_seq
  q_reg
  q_val (.int .u64 0)
  q_val (.int .u64 0)
  q_val (.int .i32 0)
  q_val (.int .i32 0)
  q_c stepG_region_end
  q_c stepG_seq
  q_reg
  q_val (.int .u64 0)
  q_val (.int .u64 0)
  q_val (.int .u32 0)
  q_val (.int .u32 0)
  q_c stepG_region_end
  q_c stepG_seq
  q_c stepG_seq
  q_reg
  q_val (.bool true)
  q_val (.int .i64 (-1))
  q_val (.bool false)
  q_val (.bool false)
  q_val (.bool false)
  q_skip
  q_skip
  q_skip
  q_skip
  q_val (.bool false)
  q_c stepG_region_end
  q_cond false
  q_c stepG_skip
  q_c stepG_seq
  q_c stepG_seq
  q_reg
  q_val (.int .i32 0)
  q_val (.bool false)
  q_c stepG_region_end
  q_cond false
  q_c stepG_skip
  q_c stepG_seq
  q_c stepG_seq
  q_reg
  q_val (.int .u32 0)
  q_val (.bool false)
  q_val (.bool false)
  q_skip
  q_skip
  q_val (.bool false)
  q_val (.bool false)
  q_skip
  q_skip
  q_skip
  q_skip
  q_val (.bool false)
  q_c stepG_region_end
  q_cond false
  q_c stepG_skip
  q_c stepG_seq
  q_c stepG_seq
  q_reg
  q_val (.int .i32 0)
  q_val (.bool false)
  q_val (.bool false)
  q_val (.int .u32 0)
  q_val (.bool true)
  q_val (.bool true)
  q_c stepG_region_end
  q_cond true
  q_c stepG_ret'
  q_enable
  q_leave0 H.f_add
  exact hT
 ·replace hw:WgAt L.tWg Wg w3 (KK+1) 0:=by simpa using hw
  have z:((0:Nat):Int)*KK+((1:Nat):Int)=1:=by simp
  rw[z]
  refine⟨_,(stepG_add_atomic rfl rfl (by k_ne) rfl H.f_addU64 (x_addU64_n L) (x_addU64_b L) (x_addU64_x L) .u64 (x_addU64_f L) rfl rfl hw.cellSt (hw.thaw 0)).trans (by rw[e1];rfl),fun _=>⟨180,?_⟩,fun hl=>absurd ⟨rfl,rfl⟩ hl⟩
  have hF:WgLive L.tWg Wg (w3.setCell (stA Wg) (.int .u64 1)):=⟨_,_,hw.setSt 1⟩
  clear hw
  walk_nrm
  u_op xaq hF
  u_c stepG_region_end xaq hF
  u_c stepG_ret' xaq hF
  u_leave1 H.f_uAdd xaq hF
  u_op xaq hF
  u_c stepG_region_end xaq hF
  u_c stepG_seq xaq hF
  u_c stepG_seq xaq hF
  u_reg xaq hF
  u_op xaq hF
  u_op xaq hF
  u_op xaq hF
  u_op xaq hF
  u_skip xaq hF
  u_skip xaq hF
  u_op xaq hF
  u_c stepG_region_end xaq hF
  u_cond false xaq hF
  u_c stepG_skip xaq hF
  u_c stepG_seq xaq hF
  u_reg xaq hF
  u_op xaq hF
  u_op xaq hF
  u_op xaq hF
  u_op xaq hF
  u_c stepG_region_end xaq hF
  u_c stepG_seq xaq hF
  u_reg xaq hF
  u_op xaq hF
  u_op xaq hF
  u_op xaq hF
  u_op xaq hF
  u_c stepG_region_end xaq hF
  u_c stepG_seq xaq hF
  u_c stepG_seq xaq hF
  u_reg xaq hF
  u_op xaq hF
  u_op xaq hF
  u_op xaq hF
  u_op xaq hF
  u_op xaq hF
  u_skip xaq hF
  u_skip xaq hF
  u_skip xaq hF
  u_skip xaq hF
  u_op xaq hF
  u_c stepG_region_end xaq hF
  u_cond false xaq hF
  u_c stepG_skip xaq hF
  u_c stepG_seq xaq hF
  u_c stepG_seq xaq hF
  u_reg xaq hF
  u_op xaq hF
  u_op xaq hF
  u_c stepG_region_end xaq hF
  u_cond false xaq hF
  u_c stepG_skip xaq hF
  u_c stepG_seq xaq hF
  u_c stepG_seq xaq hF
  u_reg xaq hF
  u_op xaq hF
  u_op xaq hF
  u_op xaq hF
  u_op xaq hF
  u_op xaq hF
  u_op xaq hF
  u_op xaq hF
  u_skip xaq hF
  u_skip xaq hF
  u_skip xaq hF
  u_skip xaq hF
  u_op xaq hF
  u_c stepG_region_end xaq hF
  u_cond false xaq hF
  u_c stepG_skip xaq hF
  u_c stepG_seq xaq hF
  u_c stepG_seq xaq hF
  u_reg xaq hF
  u_op xaq hF
  u_op xaq hF
  u_op xaq hF
  u_op xaq hF
  u_op xaq hF
  u_op xaq hF
  u_c stepG_region_end xaq hF
  u_cond false xaq hF
  u_c stepG_skip xaq hF
  u_c stepG_seq xaq hF
  u_c stepG_seq xaq hF
  u_reg xaq hF
  u_op xaq hF
  u_op xaq hF
  u_op xaq hF
  u_call H.f_uLoad (nm_uLoad L) uLoadFn xaq hF
  u_c stepG_seq xaq hF
  u_reg xaq hF
  u_op xaq hF
  u_c stepG_region_end xaq hF
  u_c stepG_seq xaq hF
  u_reg xaq hF
  u_op xaq hF
  u_op xaq hF
  u_op xaq hF
  refine Goes.stop (fun w4 h4=>?_)
  clear h4 hF
  refine⟨rfl,fun hw=>⟨_,stepG_load_atomic (v:=1) rfl rfl (by k_ne) rfl H.f_loadU64 (x_loadU64_n L) (x_loadU64_b L) (x_loadU64_x L) .u64 (x_loadU64_f L) rfl hw.cellSt,60,?_⟩⟩
  have hF:WgLive L.tWg Wg w4:=⟨_,_,hw⟩
  clear hw
  walk_nrm
  u_op xaq hF
  u_c stepG_region_end xaq hF
  u_c stepG_ret' xaq hF
  u_leave1 H.f_uLoad xaq hF
  u_op xaq hF
  u_op xaq hF
  u_c stepG_region_end xaq hF
  u_cond false xaq hF
  u_c stepG_skip xaq hF
  u_c stepG_seq xaq hF
  u_reg xaq hF
  u_op xaq hF
  u_op xaq hF
  u_op xaq hF
  u_call H.f_uStore (nm_uStore L) uStoreFn xaq hF
  u_reg xaq hF
  u_op xaq hF
  u_op xaq hF
  u_op xaq hF
  u_op xaq hF
  refine Goes.stop (fun w5 h5=>?_)
  clear h5 hF
  refine⟨rfl,fun hw=>⟨_,stepG_store_atomic rfl rfl (by k_ne) rfl H.f_storeU64 (x_storeU64_n L) (x_storeU64_b L) (x_storeU64_x L) (x_storeU64_f L) rfl rfl hw.cellSt (hw.thaw 0),60,?_⟩⟩
  have hF:WgLive L.tWg Wg (w5.setCell (stA Wg) (.int .u64 0)):=⟨_,_,hw.setSt 0⟩
  clear hw
  walk_nrm
  u_c stepG_region_end xaq hF
  u_c stepG_end xaq hF
  u_leave0 H.f_uStore xaq hF
  u_c stepG_region_end xaq hF
  u_c stepG_seq xaq hF
  u_c stepG_seq xaq hF
  u_reg xaq hF
  u_op xaq hF
  u_c stepG_region_end xaq hF
  u_cond false xaq hF
  u_c stepG_skip xaq hF
  u_c stepG_block xaq hF
  u_c stepG_loop xaq hF
  u_c stepG_seq xaq hF
  u_c stepG_seq xaq hF
  u_reg xaq hF
  u_op xaq hF
  u_op xaq hF
  u_c stepG_region_end xaq hF
  u_cond true xaq hF
  u_c stepG_skip xaq hF
  u_c stepG_seq xaq hF
  u_c stepG_block xaq hF
  u_reg xaq hF
  u_op xaq hF
  u_op xaq hF
  u_op xaq hF
  refine Goes.stop (fun w6 h6=>?_)
  clear h6 hF
  refine⟨rfl,mayWake_entry rfl rfl H.f_semrelease (x_semrelease_b L),fun hw=>⟨_,(stepG_semrelease rfl rfl (by k_ne) rfl H.f_semrelease (x_semrelease_n L) (x_semrelease_b L) (x_semrelease_x L) (x_semrelease_f L) (by simp[Act.eval,smA]) hw.cellSm (hw.thaw 1)).trans (by rfl),qt+19,?_⟩⟩
  clear hw
  walk_nrm
  q_c stepG_region_end
  q_c stepG_inBlock
  q_reg
  q_val (.int .u32 1)
  q_val (.int .u32 0)
  q_val (.int .u32 0)
  q_c stepG_region_end
  q_c stepG_inLoop
  q_c stepG_seq
  q_c stepG_seq
  q_reg
  q_val (.int .u32 0)
  q_val (.bool false)
  q_c stepG_region_end
  q_cond false
  q_exit
  q_c stepG_end
  q_enable
  q_leave0 H.f_add
  exact hT
 ·replace hw:WgAt L.tWg Wg w3 (((v:Nat)+1)*KK+0) 0:=by simpa using hw
  have z:((v:Nat):Int)*KK+((0:Nat):Int)=(v:Int)*KK+0:=by simp
  rw[z]
  have hv0:0<v:=om
  have eS:IntKind.u64.wrap (((v:Nat)+1)*KK+0+18446744069414584320)=(v:Int)*KK+0:=by rw[IntKind.wrap_u64];simp only[KK];omega
  obtain⟨S,hS⟩:∃S:Int,S=(v:Int)*KK+0:=⟨_,rfl⟩
  rw[<- hS]at eS⊢
  have a1:S / 4294967296=(v:Int):=by rw[hS];simp only[KK];omega
  have a2:0<=S/\S<9223372036854775808:=by rw[hS];simp only[KK];omega
  have b1:bits .and .u64 S 2147483648=0:=by rw[hS];have:=st_flag v 0 om om;simpa[KK]using this
  have b2:bits .and .u64 S 2147483647=0:=by rw[hS];have:=st_waiters v 0 om om;simpa[KK]using this
  clear hS z
  refine⟨_,(stepG_add_atomic rfl rfl (by k_ne) rfl H.f_addU64 (x_addU64_n L) (x_addU64_b L) (x_addU64_x L) .u64 (x_addU64_f L) rfl rfl hw.cellSt (hw.thaw 0)).trans (by rw[eS];rfl),fun hl=>absurd hl.1 om,fun _=>⟨qt+89,?_⟩⟩
  clear hw
  walk_nrm
  q_vn (.int .u64 S)
  q_c stepG_region_end
  q_c stepG_ret'
  q_leave1 H.f_uAdd
  q_vn (.int .u64 S)
  q_c stepG_region_end
  q_c stepG_seq
  q_c stepG_seq
  q_reg
  q_vn (.int .u64 S)
  q_vn (.int .u64 0)
  q_vn (.bool false)
  q_vn (.bool false)
  q_skip
  q_skip
  q_vn (.bool false)
  q_c stepG_region_end
  q_cond false
  q_c stepG_skip
  q_c stepG_seq
  q_reg
  q_vn (.int .u64 S)
  q_vn (.int .u64 (v:Int))
  q_vn (.int .i32 (v:Int))
  q_vn (.int .i32 (v:Int))
  q_c stepG_region_end
  q_c stepG_seq
  q_reg
  q_vn (.int .u64 S)
  q_vn (.int .u64 0)
  q_vn (.int .u32 0)
  q_vn (.int .u32 0)
  q_c stepG_region_end
  q_c stepG_seq
  q_c stepG_seq
  q_reg
  q_vn (.bool true)
  q_vn (.int .i64 (-1))
  q_vn (.bool false)
  q_vn (.bool false)
  q_vn (.bool false)
  q_skip
  q_skip
  q_skip
  q_skip
  q_vn (.bool false)
  q_c stepG_region_end
  q_cond false
  q_c stepG_skip
  q_c stepG_seq
  q_c stepG_seq
  q_reg
  q_vn (.int .i32 (v:Int))
  q_vn (.bool false)
  q_c stepG_region_end
  q_cond false
  q_c stepG_skip
  q_c stepG_seq
  q_c stepG_seq
  q_reg
  q_vn (.int .u32 0)
  q_vn (.bool false)
  q_vn (.bool false)
  q_skip
  q_skip
  q_vn (.bool false)
  q_vn (.bool false)
  q_skip
  q_skip
  q_skip
  q_skip
  q_vn (.bool false)
  q_c stepG_region_end
  q_cond false
  q_c stepG_skip
  q_c stepG_seq
  q_c stepG_seq
  q_reg
  q_vn (.int .i32 (v:Int))
  q_vn (.bool true)
  q_vn (.bool true)
  q_skip
  q_skip
  q_vn (.bool true)
  q_c stepG_region_end
  q_cond true
  q_c stepG_ret'
  q_enable
  q_leave0 H.f_add
  exact hT
 ·replace hw:WgAt L.tWg Wg w3 (((v:Nat)+1)*KK+1) 0:=by simpa using hw
  have z:((v:Nat):Int)*KK+((1:Nat):Int)=(v:Int)*KK+1:=by simp
  rw[z]
  have hv0:0<v:=om
  have eS:IntKind.u64.wrap (((v:Nat)+1)*KK+1+18446744069414584320)=(v:Int)*KK+1:=by rw[IntKind.wrap_u64];simp only[KK];omega
  obtain⟨S,hS⟩:∃S:Int,S=(v:Int)*KK+1:=⟨_,rfl⟩
  rw[<- hS]at eS⊢
  have a1:S / 4294967296=(v:Int):=by rw[hS];simp only[KK];omega
  have a2:0<=S/\S<9223372036854775808:=by rw[hS];simp only[KK];omega
  have b1:bits .and .u64 S 2147483648=0:=by rw[hS];have:=st_flag v 1 om om;simpa[KK]using this
  have b2:bits .and .u64 S 2147483647=1:=by rw[hS];have:=st_waiters v 1 om om;simpa[KK]using this
  clear hS z
  refine⟨_,(stepG_add_atomic rfl rfl (by k_ne) rfl H.f_addU64 (x_addU64_n L) (x_addU64_b L) (x_addU64_x L) .u64 (x_addU64_f L) rfl rfl hw.cellSt (hw.thaw 0)).trans (by rw[eS];rfl),fun hl=>absurd hl.1 om,fun _=>⟨qt+89,?_⟩⟩
  clear hw
  walk_nrm
  q_vn (.int .u64 S)
  q_c stepG_region_end
  q_c stepG_ret'
  q_leave1 H.f_uAdd
  q_vn (.int .u64 S)
  q_c stepG_region_end
  q_c stepG_seq
  q_c stepG_seq
  q_reg
  q_vn (.int .u64 S)
  q_vn (.int .u64 0)
  q_vn (.bool false)
  q_vn (.bool false)
  q_skip
  q_skip
  q_vn (.bool false)
  q_c stepG_region_end
  q_cond false
  q_c stepG_skip
  q_c stepG_seq
  q_reg
  q_vn (.int .u64 S)
  q_vn (.int .u64 (v:Int))
  q_vn (.int .i32 (v:Int))
  q_vn (.int .i32 (v:Int))
  q_c stepG_region_end
  q_c stepG_seq
  q_reg
  q_vn (.int .u64 S)
  q_vn (.int .u64 1)
  q_vn (.int .u32 1)
  q_vn (.int .u32 1)
  q_c stepG_region_end
  q_c stepG_seq
  q_c stepG_seq
  q_reg
  q_vn (.bool true)
  q_vn (.int .i64 (-1))
  q_vn (.bool false)
  q_vn (.bool false)
  q_vn (.bool false)
  q_skip
  q_skip
  q_skip
  q_skip
  q_vn (.bool false)
  q_c stepG_region_end
  q_cond false
  q_c stepG_skip
  q_c stepG_seq
  q_c stepG_seq
  q_reg
  q_vn (.int .i32 (v:Int))
  q_vn (.bool false)
  q_c stepG_region_end
  q_cond false
  q_c stepG_skip
  q_c stepG_seq
  q_c stepG_seq
  q_reg
  q_vn (.int .u32 1)
  q_vn (.bool true)
  q_vn (.bool true)
  q_vn (.int .i64 (-1))
  q_vn (.bool false)
  q_vn (.bool false)
  q_vn (.bool false)
  q_skip
  q_skip
  q_skip
  q_skip
  q_vn (.bool false)
  q_c stepG_region_end
  q_cond false
  q_c stepG_skip
  q_c stepG_seq
  q_c stepG_seq
  q_reg
  q_vn (.int .i32 (v:Int))
  q_vn (.bool true)
  q_vn (.bool true)
  q_skip
  q_skip
  q_vn (.bool true)
  q_c stepG_region_end
  q_cond true
  q_c stepG_ret'
  q_enable
  q_leave0 H.f_add
  exact hT
set_option maxRecDepth 100000 in
set_option maxHeartbeats 8000000 in
theorem yyc{P:Program}(H:WgLib P L){c:Frame}{qt:Nat}(hcm:c.mode=.returning)(hT:QuitsD P qt 0 (G c cs))(w:World)(hF:WgLive L.tWg Wg w):
 Goes P false (RLv L.tWg Wg) DC0 (AtR0 P L.tWg Wg) 43 (G ((baseD L.done).at ⟨#[.pointer (some ⟨Wg,0,none⟩),undef,undef,undef],[]⟩ [.code (body_done L)]) (c::cs)) w:=by
 lib_facts
 have hA:=@ygl L Wg
 simp only[body_done,body_add,doneFn,addFn,Option.getD_some]at hA⊢
 u_reg xaq hF
 u_op xaq hF
 u_in xaq hF
 refine goes_call rfl rfl (by k_ne) rfl H.f_add (nm_add L) rfl ⟨by u_nil,?_⟩
 walk_nrmf addFn
 refine hA (qt:=qt+3) H ?_ _ hF
 q_c stepG_region_end
 q_c stepG_end
 exact QuitsD.leaveD rfl rfl H.f_done rfl hcm hT
end
end Go.X
namespace Go.X
open Go.Conc Go.RowKit Go.Conc.Lib Go.ConcR.Gen Go.ConcN.Gen
theorem xpn{a:Array Value}{n:Nat}{l l':List Value}(ha:a=l.toArray)(h:l++List.replicate n undef=l'):a++Array.replicate n undef=l'.toArray:=by
 subst h;subst ha;simp
set_option maxRecDepth 100000 in
theorem ybk{P:Program}{L:WgLink}(H:WgLib P L)(x y:Value):Frame.enter P L.add #[x,y] .normal=(base L.add).at ⟨#[x,y,undef,undef,undef,undef,undef,undef,undef,undef,undef,undef,undef,undef,undef,undef,undef,undef,undef,undef,undef,undef,undef,undef,undef,undef,undef,undef,undef,undef,undef,undef,undef,undef,undef,undef,undef,undef,undef,undef,undef,undef,undef,undef,undef,undef,undef,undef,undef,undef,undef,undef,undef,undef,undef,undef,undef,undef,undef,undef,undef,undef,undef,undef,undef,undef,undef,undef,undef,undef,undef,undef,undef,undef,undef,undef,undef,undef,undef,undef,undef,undef,undef,undef,undef,undef,undef,undef,undef,undef,undef,undef,undef,undef,undef,undef,undef,undef,undef,undef,undef,undef,undef,undef,undef,undef,undef,undef,undef,undef,undef,undef,undef,undef,undef,undef,undef],[]⟩ [.code (body_add L)]:=by
 rw[enter_at _ H.f_add (show(addFn L).body=some (body_add L) from rfl)]
 have e:(#[x,y]:Array Value)++Array.replicate ((addFn L).ntmps-(#[x,y]:Array Value).size) undef=#[x,y,undef,undef,undef,undef,undef,undef,undef,undef,undef,undef,undef,undef,undef,undef,undef,undef,undef,undef,undef,undef,undef,undef,undef,undef,undef,undef,undef,undef,undef,undef,undef,undef,undef,undef,undef,undef,undef,undef,undef,undef,undef,undef,undef,undef,undef,undef,undef,undef,undef,undef,undef,undef,undef,undef,undef,undef,undef,undef,undef,undef,undef,undef,undef,undef,undef,undef,undef,undef,undef,undef,undef,undef,undef,undef,undef,undef,undef,undef,undef,undef,undef,undef,undef,undef,undef,undef,undef,undef,undef,undef,undef,undef,undef,undef,undef,undef,undef,undef,undef,undef,undef,undef,undef,undef,undef,undef,undef,undef,undef,undef,undef,undef,undef,undef,undef]:=xpn (l:=[x,y]) (n:=115) rfl rfl
 rw[e]
set_option maxRecDepth 100000 in
theorem xr8{P:Program}{L:WgLink}(H:WgLib P L)(x:Value):Frame.enter P L.wait #[x] .normal=(base L.wait).at ⟨#[x,undef,undef,undef,undef,undef,undef,undef,undef,undef,undef,undef,undef,undef,undef,undef,undef,undef,undef,undef,undef,undef,undef,undef,undef,undef,undef,undef,undef,undef,undef,undef,undef,undef,undef,undef,undef,undef,undef,undef,undef,undef,undef,undef,undef,undef,undef,undef,undef,undef,undef,undef,undef,undef,undef,undef,undef,undef,undef,undef,undef,undef,undef,undef,undef,undef,undef,undef,undef,undef,undef,undef,undef,undef,undef,undef,undef,undef,undef,undef,undef,undef,undef,undef],[]⟩ [.code (body_wait L)]:=by
 rw[enter_at _ H.f_wait (show(waitFn L).body=some (body_wait L) from rfl)]
 have e:(#[x]:Array Value)++Array.replicate ((waitFn L).ntmps-(#[x]:Array Value).size) undef=#[x,undef,undef,undef,undef,undef,undef,undef,undef,undef,undef,undef,undef,undef,undef,undef,undef,undef,undef,undef,undef,undef,undef,undef,undef,undef,undef,undef,undef,undef,undef,undef,undef,undef,undef,undef,undef,undef,undef,undef,undef,undef,undef,undef,undef,undef,undef,undef,undef,undef,undef,undef,undef,undef,undef,undef,undef,undef,undef,undef,undef,undef,undef,undef,undef,undef,undef,undef,undef,undef,undef,undef,undef,undef,undef,undef,undef,undef,undef,undef,undef,undef,undef,undef]:=xpn (l:=[x]) (n:=83) rfl rfl
 rw[e]
end Go.X
namespace Go.X
open Go.Conc Go.Conc.Lib
open Go.ConcR (DC0)
open Go.ConcN (WgLive)
section
variable{P:Program}{md:Md}{f:FuncId}{r:Rd}{df:List Deferred}{k:List Item}{cs:List Frame}{Stop:Goroutine->Heap->Prop}{ops rest:List Oper}{tm tm':List Value}{Φ:Heap->Prop}{L:WgLink}
 {dd:Tmp}{args:List Operand}{ats:Array TypeId}{ty:TypeId}{pos:String}{aft:Array Edge}{gd:Option (Nat×Bool)}{Wg:Nat}
def Behind(P:Program)(f:FuncId)(r:Rd)(df:List Deferred)(k:List Item)(cs:List Frame)(ops rest:List Oper)(tm':List Value)(gb:Goroutine):Prop:=
 ∀(md':Md)(Φ':Heap->Prop)(Stop':Goroutine->Heap->Prop)(h':Heap),RL P md' f r df k cs Stop' ops rest tm' Φ'->Φ' h'->Reach P md' gb h' Stop'
theorem xz0{pre:List Oper}{o:Oper}(e:ops=pre++o::rest)(hr:r.round=none){v:Value}(ht:putl tm o.dst v=tm'):
 Behind P f r df k cs ops rest tm' (G ((B f r).at (Act.put ⟨tm.toArray,df⟩ ((ops.toArray[pre.length]?).bind (·.dst)) v) (.inRegion ops.toArray (List.range' (pre.length+1) rest.length)::k)) cs):=by
 intro md' Φ' Stop' h' x y
 have:=x (pre++[o]) (by simp[e]) h' y
 rw[xef e]
 have e2:(B f r).at (Act.put ⟨tm.toArray,df⟩ ((some o).bind (·.dst)) v) (.inRegion ops.toArray (List.range' (pre.length+1) rest.length)::k)=FL f r tm' df (.inRegion ops.toArray (List.range' (pre.length+1) rest.length)::k):=by
  subst ht
  rw[F_at hr]
  cases hd:o.dst with
  |none=>simp[Act.put,putl,hd]
  |some d=>simp[Act.put,putl,hd]
 rw[e2]
 simpa using this
theorem xhl{tm:List Value}{x:Operand}{g:FuncId}{vs:List Value}{h:Heap}{K:Next->Heap->Prop}(hx:evl tm x=.func (.func g) #[] #[])(hvs:args.map (evl tm)=vs)(hg:callable P g=true)(y:K (.enter g vs.toArray) h):
 wpS P (execOp (evl tm) ⟨some dd,.call ⟨.value x,args.toArray,ats⟩,ty,pos,aft,gd⟩) h K:=by
 have:=xrv (P:=P) (tm:=tm) (h:=h) (args:=args) (ats:=ats) (d:=some dd) (ty:=ty) (pos:=pos) (aft:=aft) (gd:=gd) (x:=x) (g:=g) (first:=[]) (cap:=[]) (vs:=vs) (by simpa using hx) (by simpa using hvs) hg
 refine xfx this ?_
 rintro n h' ⟨e1,e2⟩
 subst e1;subst e2
 simpa using y
set_option maxRecDepth 100000 in
theorem yvp[Stb Φ](H:WgLib P L)(hm:Met ops tm ⟨some dd,.call ⟨.value (.func L.add),args.toArray,ats⟩,ty,pos,aft,gd⟩ true)(hvs:args.map (evl tm)=[.pointer (some ⟨Wg,0,none⟩),.int .i64 1])(hr:r.round=none)
 (hc:callable P L.add=true)(ht:tm.set dd (.tuple #[])=tm')
 (x:∀ge gb,(∀w,WgLive L.tWg Wg w-> ∃m,Goes P true (RLv L.tWg Wg) DC0 (AtKdS P L.tWg Wg gb) m ge w)->Behind P f r df k cs ops rest tm' gb-> ∀h,Φ h->Reach P md ge h Stop):
 RL P md f r df k cs Stop ops (⟨some dd,.call ⟨.value (.func L.add),args.toArray,ats⟩,ty,pos,aft,gd⟩::rest) tm Φ:=by
 intro pre e
 rw[xzv]
 refine xir (xef e) (xxq hm) xpw (.inr rfl) fun h y=>?_
 rw[xfz]
 refine xhl rfl hvs hc ?_
 refine x _ _ (fun w hw=>?_) (xz0 e hr (by exact ht)) h y
 have hway:=yhn (cs:=cs) (b₀:=B f r) (a₀:=⟨tm.toArray,df⟩) (ops₀:=ops.toArray) (i₀:=pre.length) (rest₀:=List.range' (pre.length+1) rest.length) (k₀:=k) H w hw
 have e2:(F (B f r) tm.toArray df (.inRegion ops.toArray (pre.length::List.range' (pre.length+1) rest.length)::k))=(B f r).at ⟨tm.toArray,df⟩ (.inRegion ops.toArray (pre.length::List.range' (pre.length+1) rest.length)::k):=F_at hr
 have e1:([.pointer (some ⟨Wg,0,none⟩),.int .i64 1]:List Value).toArray=#[.pointer (some ⟨Wg,0,none⟩),.int .i64 1]:=rfl
 rw[e2,e1,ybk H]
 exact hway
set_option maxRecDepth 100000 in
theorem yrh[Stb Φ](H:WgLib P L)(hm:Met ops tm ⟨some dd,.call ⟨.value (.func L.wait),args.toArray,ats⟩,ty,pos,aft,gd⟩ true)(hvs:args.map (evl tm)=[.pointer (some ⟨Wg,0,none⟩)])(hr:r.round=none)
 (hc:callable P L.wait=true)(ht:tm.set dd (.tuple #[])=tm')
 (x:∀ge gb(An:Goroutine->World->Prop),(∀g w,An g w->g.status=.running)->(∀g w,An g w-> ∃m,Goes P true (RLv L.tWg Wg) DC0 (AtW1 P L.tWg Wg gb An) m g w)->(∀w,WgLive L.tWg Wg w-> ∃m,Goes P true (RLv L.tWg Wg) DC0 (AtKd P L.tWg Wg An) m ge w)->
  (∃l,gb=G (FL f r tm' df (.inRegion ops.toArray l::k)) cs/\l=List.range' (ops.length-rest.length) rest.length)-> ∀h,Φ h->Reach P md ge h Stop):
 RL P md f r df k cs Stop ops (⟨some dd,.call ⟨.value (.func L.wait),args.toArray,ats⟩,ty,pos,aft,gd⟩::rest) tm Φ:=by
 intro pre e
 rw[xzv]
 refine xir (xef e) (xxq hm) xpw (.inr rfl) fun h y=>?_
 rw[xfz]
 refine xhl rfl hvs hc ?_
 have e2:(F (B f r) tm.toArray df (.inRegion ops.toArray (pre.length::List.range' (pre.length+1) rest.length)::k))=(B f r).at ⟨tm.toArray,df⟩ (.inRegion ops.toArray (pre.length::List.range' (pre.length+1) rest.length)::k):=F_at hr
 rw[e2]
 refine x _ (G ((B f r).at (Act.put ⟨tm.toArray,df⟩ ((ops.toArray[pre.length]?).bind (·.dst)) (.tuple #[])) (.inRegion ops.toArray (List.range' (pre.length+1) rest.length)::k)) cs) (AnchX L Wg ((B f r).at ⟨tm.toArray,df⟩ (.inRegion ops.toArray (pre.length::List.range' (pre.length+1) rest.length)::k)) cs)
  (fun g w⟨T,hg,_⟩=>by rw[hg];rfl) (fun g w hA=>xc7 H g w hA) (fun w hw=>?_) ⟨_,?_,rfl⟩ h y
 ·have hway:=xb7 (cs:=cs) (b₀:=B f r) (a₀:=⟨tm.toArray,df⟩) (ops₀:=ops.toArray) (i₀:=pre.length) (rest₀:=List.range' (pre.length+1) rest.length) (k₀:=k) H w hw
  have e1:([.pointer (some ⟨Wg,0,none⟩)]:List Value).toArray=#[.pointer (some ⟨Wg,0,none⟩)]:=rfl
  rw[e1,xr8 H]
  exact hway
 ·rw[xef e]
  have hl:ops.length-rest.length=pre.length+1:=by rw[e];simp;omega
  rw[hl]
  subst ht
  rw[F_at hr]
  simp[Act.put]
theorem yet[Stb Φ]{x:Operand}{g:FuncId}{first cap vs:List Value}(hm:Met ops tm ⟨none,.go ⟨.value x,args.toArray,ats⟩,ty,pos,aft,gd⟩ true)(hx:evl tm x=.func (.func g) first.toArray cap.toArray)(hvs:args.map (evl tm)=vs)(hr:r.round=none)
 (n:∀ga gn,ga.status=.running->(∀w,stepG P true ga w=.spawn gn (born P {target:=.fn (.func g) cap.toArray,args:=(first++vs).toArray}) w #[])->Behind P f r df k cs ops rest tm gn-> ∀h,Φ h->Reach P md ga h Stop):
 RL P md f r df k cs Stop ops (⟨none,.go ⟨.value x,args.toArray,ats⟩,ty,pos,aft,gd⟩::rest) tm Φ:=by
 intro pre e h y
 rw[xzv]
 have hb:=xz0 (P:=P) (f:=f) (df:=df) (k:=k) (cs:=cs) (tm:=tm) (tm':=tm) e hr (v:=undef) rfl
 have hev:Act.eval ⟨tm.toArray,df⟩=evl tm:=by
  funext z
  rw[<- xfz]
  cases z<;>rfl
 rw[F_at hr]
 refine n _ _ rfl (fun w=>?_) hb h y
 have hw:=xxq hm
 have hop:(execOp (Act.eval ⟨tm.toArray,df⟩) ⟨none,.go ⟨.value x,args.toArray,ats⟩,ty,pos,aft,gd⟩).run P w=.ok (.spawn {target:=.fn (.func g) cap.toArray,args:=(first++vs).toArray}) w:=by
  rw[hev]
  unfold execOp
  simp[resolve,Deferred.ofValue,hx,hvs]
 rw[stepG_spawn (f:=.func g) (c:=cap.toArray) (xef e) (by exact hw) xpw hop rfl]
 have hl:listed P (B f r).fn ⟨tm.toArray,df⟩ ⟨none,.go ⟨.value x,args.toArray,ats⟩,ty,pos,aft,gd⟩ w=#[]:=by
  unfold listed
  rw[hev]
  have:(execOp (evl tm) ⟨none,.go ⟨.value x,args.toArray,ats⟩,ty,pos,aft,gd⟩).events P w #[]=#[]:=by
   unfold execOp
   simp[resolve,Deferred.ofValue,hx,hvs]
  rw[this,seen_none]
 rw[hl,xef e]
 rfl
end
end Go.X
namespace Go.X
open Go.Conc Go.Conc.Lib Go.ConcR.Gen
open Go.ConcR (DC0)
open Go.ConcN (WgLive)
section
variable{P:Program}{f:FuncId}{Stop:Goroutine->Heap->Prop}{Φ:Heap->Prop}{L:WgLink}{Wg:Nat}{tm:Array Value}{td:List Item}
theorem xr7{fn:Func}(hf:P.funcs[f]?=some fn)(hr:fn.results=#[]):QuitsD P 2 0 (G (FR (B f .dfd) tm [] td) [botF P]):=by
 refine QuitsD.ctl (g':=G (botF P) []) rfl (fun w=>?_) ?_
 ·simp[G,stepG,unwind,doReturn,results,FR,B,Rd.kind,Rd.round,botF,hf,hr,seen,GStep.after,goexitEntry]
 refine QuitsD.ctl (g':={G (botF P) []with status:=.finished}) rfl (fun w=>?_) ⟨rfl,rfl⟩
 simp[G,stepG,unwind,botF,goexitEntry,Frame.catches]
 rfl
theorem yzg[Stb Φ](H:WgLib P L){fn:Func}(hf:P.funcs[f]?=some fn)(hr:fn.results=#[])
 (x:∀ge,(∀w,WgLive L.tWg Wg w-> ∃m,Goes P false (RLv L.tWg Wg) DC0 (AtR0 P L.tWg Wg) m ge w)-> ∀h,Φ h->Reach P (.own false) ge h Stop):
 RS P (.own false) (G (FR (B f .dfd) tm [dcall L.done #[.pointer (some ⟨Wg,0,none⟩)]] td) [botF P]) Φ Stop:=by
 refine xsc (g':=G ((baseD L.done).at {tmps:=#[.pointer (some ⟨Wg,0,none⟩)]++Array.replicate ((doneFn L).ntmps-(#[.pointer (some ⟨Wg,0,none⟩)]:Array Value).size) undef,defers:=[]} [.code (body_done L)]) (FR (B f .dfd) tm [] td::[botF P])) rfl (fun w=>?_) ?_
 ·exact stepG_unwind_enter (b:=B f .dfd) (a:=⟨tm,[dcall L.done #[.pointer (some ⟨Wg,0,none⟩)]]⟩) (ds:=[]) (todo:=td) rfl H.f_done (nm_done L) rfl
 ·exact fun h y=>x _ (fun w hw=>⟨43,yyc H rfl (xr7 hf hr) w hw⟩) h y
end
end Go.X
namespace Go.X
open Go.Conc
def Hp(h:Heap):PHeap:=fun b=>h[b]?
theorem xx6(h:Heap):Per (Hp h) h:=fun _ _ e=>e
theorem xen{h h':Heap}(k:Keep h h'):PLe (Hp h) (Hp h'):=fun b o e=>by
 unfold Hp at e⊢
 rw[k.keep b (Array.getElem?_eq_some_iff.1 e).1];exact e
def HC(h:Heap)(b:Nat)(c:Array Value)(e:TypeId):Prop:=∃z,h[b]?=some (.cells c e z)
theorem HC.keep{h h':Heap}{b:Nat}{c:Array Value}{e:TypeId}(x:HC h b c e)(k:Keep h h'):HC h' b c e:=by
 obtain⟨z,hz⟩:=x
 exact⟨z,(k.keep b (Array.getElem?_eq_some_iff.1 hz).1).trans hz⟩
theorem HC.cut{h:Heap}{b:Nat}{c:Array Value}{e:TypeId}{A K:List Nat}(x:HC h b c e)(h1:b∉A):HC (cutV A K h) b c e:=by
 obtain⟨z,hz⟩:=x
 by_cases h2:b∈K
 ·exact⟨z,by rw[xoc,hz];simp[h1,h2]⟩
 ·exact⟨(0,c.size),by rw[xoc,hz];simp[h1,h2,frzO]⟩
theorem xmf{h:Heap}{b:Nat}{o:Obj}{A K:List Nat}(hz:h[b]?=some o)(h1:b∉A)(h2:b∈K):(cutV A K h)[b]?=some o:=by rw[xoc,hz];simp[h1,h2]
theorem Exc.of{h:Heap}{b:Nat}{c:Array Value}{e:TypeId}(hb:h[b]?=some (.cells c e (0,0)))(hc:0<c.size):Exc h b:=⟨c,e,hb,hc⟩
theorem xzg(a:Addr)(n:Nat):(a.add n).block=a.block:=by unfold Addr.add;split<;>rfl
theorem ypx{h:Heap}{p:PHeap}{A K:List Nat}{a:Addr}{v:Value}(hp:∀b o,p b=some o->h[b]?=some o)(hA:a.block∉A)(x:pcell p a=some v):pcell (Hp (cutV A K h)) a=some v:=by
 unfold pcell at x
 split at x
 ·rename_i c t z hb
  obtain⟨z',hz'⟩:=HC.cut (A:=A) (K:=K) ⟨z,hp _ _ hb⟩ hA
  unfold pcell Hp
  rw[hz'];exact x
 ·cases x
theorem xun{h:Heap}{p:PHeap}{A K:List Nat}{a:Option Addr}{n w:Nat}{es:List (List Value)}(s:Sl p a n w es)(hp:∀b o,p b=some o->h[b]?=some o)(hA:0<n->(adr a).block∉A):Sl (Hp (cutV A K h)) a n w es:=
 ⟨s.len,s.wid,s.ne,fun i e hi j v hj=>by
  have hn:0<n:=by have:=(List.getElem?_eq_some_iff.1 hi).1;have:=s.len;omega
  refine ypx hp ?_ (s.get i e hi j v hj)
  rw[xzg,xzg];exact hA hn⟩
theorem xhc{p:PHeap}{a:Option Addr}{n w:Nat}{es:List (List Value)}(s:Sl p a n w es)(hw:0<w){b:Nat}(hb:p b=none)(hn:0<n):(adr a).block≠b:=by
 intro e
 have h0:0<es.length:=by have:=s.len;omega
 have hl:=s.wid es[0] (List.getElem_mem h0)
 have:=s.get 0 es[0] (List.getElem?_eq_getElem h0) 0 (es[0][0]'om) (List.getElem?_eq_getElem om)
 unfold pcell at this
 rw[xzg,xzg,e,hb]at this
 cases this
theorem xtz{a b:Nat}(h:a≠b):a∉[b]:=by simpa using h
end Go.X
namespace Go.Proofs
abbrev Tryz.link:Go.Conc.Lib.WgLink:={add:=138,done:=140,wait:=141,relMerge:=227,disable:=228,enable:=229,inBubble:=230,associate:=231,fatal:=232,uOr:=233,uAdd:=234,raceRead:=235,uLoad:=236,uStore:=237,disassociate:=238,semrelease:=239,acquire:=240,isAssociated:=241,uCas:=242,raceWrite:=243,semacquire:=244,orU64:=291,addU64:=292,loadU64:=293,storeU64:=294,casU64:=295,tWgP:=271,tUP:=273,tAssoc:=274,tWg:=218,tAU:=215,tU64:=213,tUint:=132,tU32:=216,tPU32:=278,tPAU:=324,tPU64:=326,tNoCopy:=210,tANoCopy:=211,tAlign64:=212}
theorem Tryz.wgLib:Go.Conc.Lib.WgLib Tryz.prog Tryz.link:=
 ⟨Tryz.func138,Tryz.func140,Tryz.func141,Tryz.func227,Tryz.func228,Tryz.func229,Tryz.func230,Tryz.func231,Tryz.func232,Tryz.func233,Tryz.func234,Tryz.func235,Tryz.func236,Tryz.func237,Tryz.func238,Tryz.func239,Tryz.func240,Tryz.func241,Tryz.func242,Tryz.func243,Tryz.func244,Tryz.func291,Tryz.func292,Tryz.func293,Tryz.func294,Tryz.func295,Tryz.underlying271,Tryz.runUnderlying271,Tryz.sizeOf271,Tryz.isAgg271,Tryz.zeroValue271,Tryz.underlying273,Tryz.runUnderlying273,Tryz.sizeOf273,Tryz.isAgg273,Tryz.zeroValue273,Tryz.underlying274,Tryz.runUnderlying274,Tryz.sizeOf274,Tryz.isAgg274,Tryz.zeroValue274,Tryz.underlying218,Tryz.runUnderlying218,Tryz.sizeOf218,Tryz.isAgg218,Tryz.zeroValue218,Tryz.underlying215,Tryz.runUnderlying215,Tryz.sizeOf215,Tryz.isAgg215,Tryz.zeroValue215,Tryz.underlying213,Tryz.runUnderlying213,Tryz.sizeOf213,Tryz.isAgg213,Tryz.zeroValue213,Tryz.underlying132,Tryz.runUnderlying132,Tryz.sizeOf132,Tryz.isAgg132,Tryz.zeroValue132,Tryz.underlying216,Tryz.runUnderlying216,Tryz.sizeOf216,Tryz.isAgg216,Tryz.zeroValue216,Tryz.underlying278,Tryz.runUnderlying278,Tryz.sizeOf278,Tryz.isAgg278,Tryz.zeroValue278,Tryz.underlying324,Tryz.runUnderlying324,Tryz.sizeOf324,Tryz.isAgg324,Tryz.zeroValue324,Tryz.underlying326,Tryz.runUnderlying326,Tryz.sizeOf326,Tryz.isAgg326,Tryz.zeroValue326,Tryz.underlying0,Tryz.runUnderlying0,Tryz.sizeOf0,Tryz.isAgg0,Tryz.zeroValue0,Tryz.underlying3,Tryz.runUnderlying3,Tryz.sizeOf3,Tryz.isAgg3,Tryz.zeroValue3,Tryz.underlying4,Tryz.runUnderlying4,Tryz.sizeOf4,Tryz.isAgg4,Tryz.zeroValue4,Tryz.underlying9,Tryz.runUnderlying9,Tryz.sizeOf9,Tryz.isAgg9,Tryz.zeroValue9,Tryz.underlying20,Tryz.runUnderlying20,Tryz.sizeOf20,Tryz.isAgg20,Tryz.zeroValue20,Tryz.underlying21,Tryz.runUnderlying21,Tryz.sizeOf21,Tryz.isAgg21,Tryz.zeroValue21,(by kernel_rfl),(by kernel_rfl)⟩
end Go.Proofs
