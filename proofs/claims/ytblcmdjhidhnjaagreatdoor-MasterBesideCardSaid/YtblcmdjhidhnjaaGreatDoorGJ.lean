/-
  Part of proofs about a town's master: a calculus for Be beside goroutines that are only leaving, and the Be. No condition.
-/
import Derived.Test.YtblcmdjhidhnjaaGreatDoorGA
import Derived.Conc.LeavingOf
import Derived.Deep.Slices
import Derived.Lib.SmallJoins
import Derived.Conc.CrowdRun
import Derived.Conc.TokenTrace
import Derived.Conc.WgGenN3
import Derived.Conc.CrowdStepC2
import Derived.Conc.DeferLaws
import Derived.Conc.Own2
import Derived.Test.YtblcmdjhidhnjaaGreatDoorChecked
import Derived.Conc.WgLib
namespace Go.X
open Go.Conc Go.RowKit
def Oz(P:Program)(v:Value)(g:Goroutine):Prop:=g.status=.running/\ ∀w:World,stepG P true g w=.ended (.done v) w #[]
def Lw(P:Program)(R:Value->Heap->Prop)(g:Goroutine)(h:Heap):Prop:=∃v,Oz P v g/\R v h
def F7(P:Program)(md:Md)(f:FuncId)(args:Array Value)(h:Heap)(R:Value->Heap->Prop):Prop:=Reach P md (G (Frame.enter P f args .normal) []) h (Lw P R)
section
variable{P:Program}{md:Md}{f:FuncId}{h:Heap}{Φ:Heap->Prop}{tm:List Value}{k:List Item}{R:Value->Heap->Prop}
theorem yrp{fn:Func}{t:Nat}{v:Value}{td:List Item}(hi:P.inits.idxOf? f=none)(hf:P.funcs[f]?=some fn)(M:fn.results=#[.tmp t])(hv:tm.getD t undef=v):Oz P v (G (FR (B f .none) tm.toArray [] td) []):=by
 refine⟨rfl,fun w=>?_⟩;have e:(results fn tm.toArray).runT P w #[]=(.ok v w,#[]):=by
  unfold results;simp[M,<- hv]
 have es:seen P (B f .none).fn #[]=#[]:=by simp[seen]
 simp only[G,stepG,unwind,FR,show P.funcs[(B f .none).fn]?=some fn from hf,e,doReturn,GStep.after,es,show P.inits.idxOf? (B f .none).fn=none from hi];rfl
theorem xxt{fn:Func}{c:Code}{args:Array Value}(hf:P.funcs[f]?=some fn)(hb:fn.body=some c)(M:args.toList++List.replicate (fn.ntmps-args.size) undef=tm)
 (x:(∀v h',R v h'->R v h')->RS P md (G (FL f .none tm [] [.code c]) []) Φ (Lw P R))(O:Φ h):F7 P md f args h R:=by
 have:=x (fun _ _ y=>y) h O;have e:Frame.enter P f args .normal=FL f .none tm [] [.code c]:=by
  unfold Frame.enter;simp only[hf,hb,Option.map_some,Option.bind_some,Option.getD_some,FL,F,B,<- M];simp[Rd.kind,Rd.round]
 unfold F7;rw[e];exact this
theorem ylh[Stb Φ]{fn:Func}{t:Nat}{vs:List Value}{v:Value}(hi:P.inits.idxOf? f=none)(hf:P.funcs[f]?=some fn)(hr:fn.results=#[.tmp t])(e:∀h,Φ h->Res P h tm [.tmp t] vs)(hv:Fq vs=v)
 (x:∀h,Φ h->R v h):RS P md (G (FL f .none tm [] (.code .ret::k)) []) Φ (Lw P R):=
 xc9 (hro:=rfl) fun _=>fun h y=>xpk (by
  obtain⟨v',M,rfl,h1,O⟩:=e h y;obtain rfl:M=[]:=O;subst hv;exact⟨_,yrp hi hf hr h1,x h y⟩)
end
def Pe:Obj->Obj
 |.cells c e f=>if c.size=0 then .cells #[] 0 (0,0)else .cells c e f
 |o=>o
def K7(r:Heap):Heap:=r.map Pe
def Empty(r:Heap)(b:Nat):Prop:=∃e f,r[b]?=some (.cells #[] e f)
theorem xm4{r:Heap}{b:Nat}:(K7 r)[b]?=(r[b]?).map Pe:=by simp[K7]
theorem xmt{r:Heap}:(K7 r).size=r.size:=by simp[K7]
theorem xwd{r:Heap}{b:Nat}(h:¬ Empty r b):(K7 r)[b]?=r[b]?:=by
 rw[xm4];cases e:r[b]? with
 |none=>rfl
 |some o=>
   cases o with
   |cells c t f=>
     have hc:c.size≠0:=fun M=>h ⟨t,f,by rw[e,Array.eq_empty_of_size_eq_zero M]⟩;simp[Pe,hc]
   |_=>rfl
theorem yix{r:Heap}:Cd (.of (Empty r)) (K7 r) r:=by
 refine⟨xmt,fun b M _=>xwd M,fun b M=>?_,fun b hs=>hs.elim⟩;obtain⟨e,f,he⟩:=M;rw[xm4,he];simp[Pe]
theorem yvv{Sh:Loc->Prop}{B:Nat}:Past Sh B #[]:=
 ⟨fun said=>by rintro⟨i,j,_,⟨a,b,M,_⟩,_⟩;simp[Trace.act?]at M,fun i a M=>by simp[touchAt,Trace.act?]at M,fun i g O=>by simp[Trace.g?]at O,rfl,s_⟩
section
variable{P:Program}{f:FuncId}{args:Array Value}{w:World}{R:Value->Heap->Prop}
theorem xwm(x:F7 P (.main true) f args (K7 w.heap) R)(hR:∀v h',R v h'->Af (K7 w.heap) h'):
 ∃N last o w' t',runNT P (N+1) (solo (G (Frame.enter P f args .normal) []) w) #[]=(.ended o w',t')/\runN P N (solo (G (Frame.enter P f args .normal) []) w)=.next last/\step P last=.ended o w'/\
  Go.Conc.Good P (fun v w'=>Below w.heap.size w w'/\ ∃h',R v h') last o w' t':=by
 have sc:Hl P (Empty w.heap) #[G (Frame.enter P f args .normal) []] w #[] (fun _=>0) (G (Frame.enter P f args .normal) []) (K7 w.heap):=⟨rfl,leavers_one P _,yvv,yix⟩
 obtain⟨N,S',a6,w1,a5,t',q',g',h',a3,O,⟨v,a2,hv⟩,hq,_,hS⟩:=x _ _ w none _ _ sc;have a4:∀M,AtRel w1 M->Below w.heap.size w M:=by
  rintro _ ⟨d,rfl⟩;refine⟨hq.calm.os,hq.calm.tape,hq.calm.output,hq.calm.size,fun k hk=>?_⟩;show w1.heap[k]?=w.heap[k]?;by_cases he:Empty w.heap k
  ·exact hq.Fp k hk (.inl he)
  ·have h1:=(hR v h' hv).Cq k (by rw[xmt];exact hk);have h2:¬ S' k:=fun hs=>by
    have h3:=O.Gy.H0 k hs;rw[h1,xwd he]at h3;exact he ⟨_,_,h3⟩
   exact(O.Gy.same k h2 (fun y=>y)).symm.trans (h1.trans (xwd he))
 obtain⟨N2,last,o,w2,t2,h1,h2,h3,h4⟩:=beside_ends (P:=P) (Shun:=Hu S') (B:=w1.heap.size) (D:=fun _ _ _=>False) (Post:=fun v w'=>Below w.heap.size w w'/\ ∃h',R v h') (n:=0) (fun _ _ _ y=>y.elim) (sl:=a5) O.main O.Py O.Ci
  (fun M hr=>⟨a2.1,v,#[],a2.2 M,s_,a4 M hr,h',hv⟩)
 refine⟨N+N2,last,o,w2,t2,?_,?_,h3,h4⟩
 ·rw[Nat.add_assoc,runNT_add,solo_eq_crowd,a3];exact h1
 ·rw[runN_add,<- runNT_fst P N _ #[],solo_eq_crowd,a3];exact h2
end
open Go.Conc Go.RowKit Go.ChangeShapes Go.WideShapes Go.ChangeAt
def vwP(W:World):Ab:=fun b=>(K7 W.heap)[b]?
theorem yaf(W:World):Per (vwP W) (K7 W.heap):=fun _ _ e=>e
theorem yuv{W:World}{a:Addr}{v:Value}(h:W.cell? a=some v):At (vwP W) a=some v:=by
 unfold World.cell? at h;unfold At vwP;cases e:W.heap[a.block]? with
 |none=>rw[e]at h;cases h
 |some o=>
   rw[e]at h;cases o with
   |cells c t f=>
     have M:¬ Empty W.heap a.block:=by
      rintro⟨t',f',h'⟩;rw[e]at h';obtain⟨rfl,rfl,rfl⟩:c=#[]/\t=t'/\f=f':=by simpa using h'
      revert h;simp
     rw[xwd M,e];exact h
   |_=>cases h
theorem xo4{f:Nat->Option Value}:∀{l:List Nat}{r:List Value},l.mapM f=some r->r.length=l.length/\ ∀(j:Nat)(x:Value),r[j]?=some x-> ∃i,l[j]?=some i/\f i=some x
 |[],r,h=>by simp at h;subst h;simp
 |i::l,r,h=>by
   simp only[List.mapM_cons,Option.bind_eq_bind,Option.bind_eq_some_iff]at h;obtain⟨y,hy,ys,O,e⟩:=h;obtain rfl:y::ys=r:=by simpa using e
   obtain⟨h1,h2⟩:=xo4 O;refine⟨by simp[h1],fun j x M=>?_⟩;cases j with
   |zero=>simp at M;subst M;exact⟨i,rfl,hy⟩
   |succ j=>exact h2 j x (by simpa using M)
theorem xd0{W:World}{a:Addr}{n:Nat}{cs:List Value}(h:W.cells? 0 a n=some cs):cs.length=n/\ ∀(j:Nat)(x:Value),cs[j]?=some x->W.cell? (a.add j)=some x:=by
 unfold World.cells? at h;rw[if_pos (Nat.zero_le _)]at h;obtain⟨h1,M⟩:=xo4 h;refine⟨by simpa using h1,fun j x O=>?_⟩;obtain⟨i,hi,hf⟩:=M j x O;obtain⟨_,rfl⟩:j<n/\j=i:=by simpa[List.getElem?_range']using List.getElem?_eq_some_iff.1 hi
 exact hf
theorem yur{W:World}{a:Addr}{n w:Nat}{E:Nat->List Value}(h:∀i,i<n->W.cells? 0 (a.add (i*w)) w=some (E i)):Sl (vwP W) (some a) n w ((List.range n).map E):=by
 refine⟨s_,fun e he=>?_,fun _=>rfl,fun i e he j x hx=>?_⟩
 ·obtain⟨i,hi,rfl⟩:=List.mem_map.1 he;exact(xd0 (h i (List.mem_range.1 hi))).1
 ·rw[List.getElem?_map]at he;obtain⟨i',O,rfl⟩:=Option.map_eq_some_iff.1 he;obtain⟨M,rfl⟩:i<n/\i=i':=by simpa using List.getElem?_eq_some_iff.1 O
  exact yuv ((xd0 (h i M)).2 j x hx)
theorem yjm{p:Ab}{w:Nat}:Sl p none 0 w []:=⟨rfl,s_,fun h=>absurd h om,fun i e he=>by simp at he⟩
section
variable{H:Type}{enc:TypeId×Value->H}{P:Program}{W:World}
theorem ylk{t:TypeId}{m:Nat}{cs:List Value}{y:DataW H×List MemPlace}(M:P.underlying t=some (.int .i64))(h:DataW.trod enc P W 0 (fun _=>true) true m t cs=some y):∃n:Int,cs=[.J n]:=by
 obtain⟨n,e,_,_⟩:=DataW.trod_int M h;exact⟨n,e⟩
theorem xjd(hl:laidOutB P=true){W':World}(hB:Below W.heap.size W W'):∀{M:List TypeId}{vs:List Value}{ds:List (DataW H)}{O:List MemPlace},(∀t∈M,P.readableRec t=true/\t<P.types.size)->(∀x∈O,x.block<W.heap.size)->
 DataW.TrodAll enc P W 0 (fun _=>true) true M vs ds O->DataW.TrodAll enc P W' 0 (fun b=>decide (b<W.heap.size)) true M vs ds O
 |[],[],[],_,_,_,h=>h
 |_::_,[],_,_,_,_,h=>by cases h
 |[],_::_,_,_,_,_,h=>by cases h
 |[],[],_::_,_,_,_,h=>by cases h
 |_::_,_::_,[],_,_,_,h=>by cases h
 |t::M,v::vs,d::ds,O,hr,hlt,⟨p,q,h1,h2,e⟩=>by
   subst e;exact⟨p,q,Below.trod hl (hr t s_).1 (hr t s_).2 h1 hB (fun x hx=>hlt x (by simp[hx])),xjd hl hB (fun t' a2=>hr t' (by simp[a2])) (fun x hx=>hlt x (by simp[hx])) h2,rfl⟩
theorem ynw{fn:Func}{s:ChangeSpec}{W':World}{args:Array Value}{ds gs:List (DataW H)}{a2:List MemPlace}{a3 M:Bool}{tb:TypeId}(hl:laidOutB P=true)(O:s.vars=[])
 (a7:∀t∈fn.params.toList,P.readableRec t=true/\t<P.types.size)(a5:fn.resultTypes=#[tb])(a6:P.underlying tb=some .bool)(hW:DataW.Whole enc P fn.params.toList s.vars false W args.toList ds gs a2)
 (hs:s.fn H (ds++gs)={results:=[.lit (.bool true)],args:=ds})(hB:Below W.heap.size W W'):s.post enc P fn false a3 M false W args (.bool true) W':=by
 have a4:=hW;obtain⟨p,q,hA,hV,rfl,_,_⟩:=hW;rw[O]at hV;obtain rfl:q=[]:=by
  cases gs with
  |nil=>exact hV
  |cons _ _=>exact hV.elim
 refine⟨ds,gs,p++[],[],p,[],a4,?_,?_,?_,hB.frame _,fun h=>by cases h⟩
 ·rw[hs,a5];exact⟨[],[],⟨1,by simp[DataW.trod,a6,Value.cells]⟩,rfl,rfl⟩
 ·rw[hs];exact xjd hl hB a7 (fun x hx=>a4.lt x (by simp[hx])) hA
 ·rw[hs,O];rfl
end
open Go.Conc
open Go.ConcN (RelBy fork_knows)
open Go.ConcR (stA)
def D8(b:Nat):Loc->Prop
 |.cell a=>a.block=b
 |.obj r=>r=b
 |_=>False
theorem D8.mem{b:Nat}:∀{l:Loc},D8 b l->l.isMemory=true
 |.cell _,_|.obj _,_=>rfl
theorem xut:∀{l:Loc},l.isMemory=true-> ∃b,D8 b l
 |.cell a,_=>⟨a.block,rfl⟩
 |.obj r,_=>⟨r,rfl⟩
def gn(p:Nat):Nat->Nat
 |0=>0
 |k+1=>p+k
theorem yuz{S:Vw}{B:Nat}{e:Event}(x:EvX S B e){y:Touch}(h:(MemAct.ofEvent e).touch?=some y):
 ∃b,D8 b y.loc/\ ¬ S.dead b/\b<B/\(y.write=true-> ¬ S.still b)/\y.kind=.plain:=by
 obtain⟨loc,wr,sy⟩:=e;unfold EvX at x;split at x
 ·rename_i a ha;simp only at ha x;subst ha;obtain⟨rfl,hs,hb,O⟩:=x;simp[MemAct.ofEvent,MemAct.touch?]at h;subst h;exact⟨a.block,rfl,hs,hb,O,rfl⟩
 ·rename_i b M;simp only at M x;subst M;obtain⟨rfl,hs,hb,O⟩:=x;simp[MemAct.ofEvent,MemAct.touch?]at h;subst h;exact⟨b,rfl,hs,hb,fun _=>O,rfl⟩
 ·rename_i m hm;simp only at hm;subst hm;cases m<;>simp_all[Ho,MemAct.ofEvent,MemAct.touch?]
 ·exact x.elim
theorem xa2{S:Vw}{B:Nat}{e:Event}(x:EvX S B e):(∀a,MemAct.ofEvent e≠.mark (.release a))/\e.loc≠.mark .disable/\e.loc≠.mark .enable:=by
 obtain⟨loc,wr,sy⟩:=e;unfold EvX at x;split at x
 ·rename_i a O;simp only at O x;subst O;obtain⟨rfl,hs,hb,ht⟩:=x;exact⟨by simp[MemAct.ofEvent],s_,s_⟩
 ·rename_i b M;simp only at M x;subst M;obtain⟨rfl,hs,hb,ht⟩:=x;exact⟨by simp[MemAct.ofEvent],s_,s_⟩
 ·rename_i m hm;simp only at hm;subst hm;cases m<;>simp_all[Ho,MemAct.ofEvent]
 ·exact x.elim
structure TI(Sh:Nat->Prop)(Wg q8 p j:Nat)(V:Nat->Vw)(B:Nat)(t:Trace):Prop where
 clean:∀said,¬ Race said t
 mine:∀k,k<=j-> ∀i a b,touchAt t i=some a->D8 b a.loc-> ¬ (V k).dead b->((V k).still b->a.write=true)->Knows t (gn p k) i
 known:∀i a b,touchAt t i=some a->D8 b a.loc->Knows t 0 i\/((Sh b\/b=Wg)/\(∃x,a.loc=.cell x)/\a.kind=.atomic)\/ ∃k,k<j/\t.g? i=some (p+k)/\t.counts i
 over:∀i g,t.g? i=some g->g≠0->t.counts i->(∃q,t.g? q=some 0/\HappensBefore t i q)\/ ∃k,k<j/\g=p+k
 wgq:∀i a,touchAt t i=some a->D8 Wg a.loc->(a.kind≠.plain/\(a.kind=.said->t.g? i=some 0))\/ ∀k,k<=j->Knows t (gn p k) i
 seen:∀op∈t,op.act.low B
 norel:∀k,q8<=k->t.act? k≠some (.mark (.release (stA Wg)))
 size:q8<=t.size
section
variable{Sh:Nat->Prop}{Wg q8 p j:Nat}{V V':Nat->Vw}{B B':Nat}{t u:Trace}
theorem D8.uniq{b c:Nat}:∀{l:Loc},D8 b l->D8 c l->b=c
 |.cell _,x,y|.obj _,x,y=>by cases x;cases y;rfl
theorem ymx{i g:Nat}(h:t.g? i=some g):i<t.size:=by
 obtain⟨z,M,_⟩:=Option.map_eq_some_iff.1 h;exact lt_size_of_getElem? M
theorem ygh{i:Nat}(h:∃q,t.g? q=some 0/\HappensBefore t i q):∃q,(t++u).g? q=some 0/\HappensBefore (t++u) i q:=by
 obtain⟨q,M,O⟩:=h;exact⟨q,by rw[g?_old (ymx M)];exact M,hb_app u O⟩
theorem yfx(h:∀k,q8<=k->t.act? k≠some (.mark (.release (stA Wg))))(hu:∀op∈u,op.act≠.mark (.release (stA Wg))):∀k,q8<=k->(t++u).act? k≠some (.mark (.release (stA Wg))):=by
 intro k hk hi;obtain⟨op,ho,M⟩:=Option.map_eq_some_iff.1 hi;rcases getElem?_append_cases ho with⟨_,O⟩|⟨_,a2⟩
 ·exact h k hk (by rw[act?_of O,M])
 ·exact hu op a2 M
theorem TI.grow(h:TI Sh Wg q8 p j V B t)(hB:B<=B')(hV:∀m,m<=j->(∀b,(V m).dead b->(V' m).dead b)/\ ∀b,(V m).still b->(V' m).still b)
 (a5:∀said,¬ Race said (t++u))
 (mine:∀m,m<=j-> ∀i M x b,t.size<=i->(t++u)[i]?=some M->M∈u->M.act.touch?=some x->D8 b x.loc-> ¬ (V' m).dead b->((V' m).still b->x.write=true)->Knows (t++u) (gn p m) i)
 (known:∀i M x b,t.size<=i->(t++u)[i]?=some M->M∈u->M.act.touch?=some x->D8 b x.loc->
  Knows (t++u) 0 i\/((Sh b\/b=Wg)/\(∃y,x.loc=.cell y)/\x.kind=.atomic)\/ ∃k,k<j/\(t++u).g? i=some (p+k)/\(t++u).counts i)
 (over:∀i M,t.size<=i->(t++u)[i]?=some M->M∈u->M.g≠0->(t++u).counts i-> ∃k,k<j/\M.g=p+k)
 (wgq:∀i M x,t.size<=i->(t++u)[i]?=some M->M∈u->M.act.touch?=some x->D8 Wg x.loc->x.kind≠.plain/\(x.kind=.said->M.g=0))
 (seen:∀M∈u,M.act.low B')(norel:∀M∈u,M.act≠.mark (.release (stA Wg))):TI Sh Wg q8 p j V' B' (t++u):=by
 refine⟨a5,fun m hm i a b ha hb hd hs=>?_,fun i a b ha hb=>?_,fun i g hg a6 hc=>?_,fun i a ha hb=>?_,fun M a4=>?_,yfx h.norel norel,by simp only[Array.size_append];have:=h.size;omega⟩
 ·obtain⟨x,hx,O⟩:=touch_of ha;rcases getElem?_append_cases hx with⟨_,a2⟩|⟨hi,a3⟩
  ·exact(h.mine m hm i a b (by rw[touchAt_of a2];exact O) hb (fun z=>hd ((hV m hm).1 b z)) (fun z=>hs ((hV m hm).2 b z))).app u
  ·exact mine m hm i x a b hi hx a3 O hb hd hs
 ·obtain⟨x,hx,O⟩:=touch_of ha;rcases getElem?_append_cases hx with⟨hi,a2⟩|⟨hi,a3⟩
  ·rcases h.known i a b (by rw[touchAt_of a2];exact O) hb with z|z|⟨k,hk,z1,z2⟩
   ·exact .inl (z.app u)
   ·exact .inr (.inl z)
   ·exact .inr (.inr ⟨k,hk,by rw[g?_old hi];exact z1,(counts_old hi).2 z2⟩)
  ·exact known i x a b hi hx a3 O hb
 ·obtain⟨x,hx,rfl⟩:=Option.map_eq_some_iff.1 hg;rcases getElem?_append_cases hx with⟨hi,a2⟩|⟨hi,a3⟩
  ·exact(h.over i x.g (by simp[Trace.g?,a2]) a6 ((counts_old hi).1 hc)).imp ygh id
  ·exact .inr (over i x hi hx a3 a6 hc)
 ·obtain⟨x,hx,O⟩:=touch_of ha;rcases getElem?_append_cases hx with⟨hi,a2⟩|⟨hi,a3⟩
  ·exact(h.wgq i a (by rw[touchAt_of a2];exact O) hb).imp (fun z=>⟨z.1,fun y=>by rw[g?_old hi];exact z.2 y⟩) fun z k hk=>(z k hk).app u
  ·have:=wgq i x a hi hx a3 O hb;exact .inl ⟨this.1,fun y=>by simp[Trace.g?,hx,this.2 y]⟩
 ·rcases Array.mem_append.1 a4 with a4|a4
  ·exact MemAct.low_mono hB (h.seen M a4)
  ·exact seen M a4
theorem TI.step(h:TI Sh Wg q8 p j V B t){k:Nat}(hk:k<=j)(hB:B<=B')(hV:∀m,m<=j->(∀b,(V m).dead b->(V' m).dead b)/\ ∀b,(V m).still b->(V' m).still b)
 (hd:∀m,m<=j->m≠k-> ∀b,b<B'-> ¬ (V k).dead b-> ¬ (V' m).dead b->(V k).still b/\(V' m).still b)(hw:(V k).dead Wg)
 {fn:FuncId}{pos:String}{es:Array Event}(a6:∀e∈es,EvX (V k) B' e):TI Sh Wg q8 p j V' B' (t++MemOp.ofEvents (gn p k) fn pos es):=by
 have hu:∀O∈MemOp.ofEvents (gn p k) fn pos es,O.g=gn p k/\ ∃e∈es,O.act=.ofEvent e:=fun O M=>by
  obtain⟨e,he,rfl⟩:=Go.Conc.mem_ofEvents M;exact⟨rfl,e,he,rfl⟩
 have ht:∀O∈MemOp.ofEvents (gn p k) fn pos es,∀x,O.act.touch?=some x-> ∃b,D8 b x.loc/\ ¬ (V k).dead b/\b<B'/\(x.write=true-> ¬ (V k).still b)/\x.kind=.plain:=fun O M x hx=>by
  obtain⟨_,e,he,ha⟩:=hu O M;exact yuz (a6 e he) (ha ▸ hx)
 refine h.grow hB hV (fun said=>?_) ?_ ?_ ?_ ?_ ?_ ?_
 ·refine noRace_append (h.clean said) (fun O M=>(hu O M).1) fun i a ha O M b hb hc=>?_;obtain⟨c,a4,a3,_,a5,_⟩:=ht O M b hb;refine h.mine k hk i a c ha (by rw[hc.1];exact a4) a3 fun hs=>?_;rcases hc.2.2.1 with z|z
  ·exact z
  ·exact absurd hs (a5 z)
 ·intro m hm i O x b hi hx M a2 hb b3 a9;by_cases e:m=k
  ·subst e;have:=knows_own hx;rw[(hu O M).1]at this;exact this
  ·obtain⟨c,a4,a3,a7,a5,_⟩:=ht O M x a2;obtain rfl:=hb.uniq a4;have:=hd m hm e b a7 a3 b3;exact absurd this.1 (a5 (a9 this.2))
 ·intro i O x b hi hx M a2 hb;obtain⟨c,a4,a3,a7,a5,b0⟩:=ht O M x a2;cases k with
  |zero=>
    have:=knows_own hx;rw[(hu O M).1]at this;exact .inl this
  |succ k'=>exact .inr (.inr ⟨k',om,by unfold Trace.g?;rw[hx,Option.map_some,(hu O M).1];rfl,x,by simp[Trace.act?,hx,a2],hb.mem,.inl (by rw[b0];simp)⟩)
 ·intro i O hi hx M a8 hc;rw[(hu O M).1]at a8⊢;cases k with
  |zero=>exact absurd rfl a8
  |succ k'=>exact⟨k',om,rfl⟩
 ·intro i O x hi hx M a2 hb;obtain⟨c,a4,a3,_⟩:=ht O M x a2;obtain rfl:=hb.uniq a4;exact absurd hw a3
 ·intro O M;obtain⟨_,e,he,ha⟩:=hu O M;rw[ha];exact(yvz (a6 e he)).2.2.2
 ·intro O M;obtain⟨_,e,he,ha⟩:=hu O M;rw[ha];exact(xa2 (a6 e he)).1 _
theorem TI.mute(h:TI Sh Wg q8 p j V B t)(hn:∀op∈u,op.act.touch?=none)(hl:∀op∈u,op.act.low B)(hr:∀op∈u,op.act≠.mark (.release (stA Wg))):TI Sh Wg q8 p j V B (t++u):=by
 refine h.grow (Nat.le_refl _) (fun _ _=>⟨fun _ z=>z,fun _ z=>z⟩) (fun said=>noRace_appendMute (h.clean said) hn) ?_ ?_ ?_ ?_ hl hr
 ·intro m hm i op x b hi hx O M;rw[hn op O]at M;cases M
 ·intro i op x b hi hx O M;rw[hn op O]at M;cases M
 ·intro i op hi hx O a3 hc;obtain⟨x,a2,_⟩:=hc;simp only[Trace.act?,hx,Option.map_some,Option.bind_some]at a2;rw[hn op O]at a2;cases a2
 ·intro i op x hi hx O M;rw[hn op O]at M;cases M
theorem TI.wg(h:TI Sh Wg q8 p j V B t){k:Nat}(hk:k<=j)(hw:∀m,m<=j->(V m).dead Wg)(hu:∀O∈u,O.g=gn p k)
 (ht:∀O∈u,∀x,O.act.touch?=some x->(∃a:Addr,x.loc=.cell a/\a.block=Wg)/\x.kind≠.plain/\(x.kind=.said->gn p k=0))
 (hl:∀O∈u,O.act.low B)(hr:∀O∈u,O.act≠.mark (.release (stA Wg))):TI Sh Wg q8 p j V B (t++u):=by
 refine h.grow (Nat.le_refl _) (fun _ _=>⟨fun _ z=>z,fun _ z=>z⟩) (fun said=>?_) ?_ ?_ ?_ ?_ hl hr
 ·refine noRace_append (h.clean said) hu fun i a ha O M b hb a6=>?_;obtain⟨⟨c,a2,a4⟩,h2,h3⟩:=ht O M b hb;have b0:D8 Wg a.loc:=by rw[a6.1,a2];exact a4
  rcases h.wgq i a ha b0 with⟨z1,z2⟩|z
  ·rcases a6.2.2.2 with y|y|⟨_,y1,y2⟩
   ·exact absurd y z1
   ·exact absurd y h2
   ·have hg:=z2 y1;obtain⟨x,hx,a9⟩:=Option.map_eq_some_iff.1 hg;have:=knows_own hx;rw[a9]at this;rw[h3 y2];exact this
  ·exact z k hk
 ·intro m hm i O x b hi hx M a3 hb b3 _;obtain⟨⟨c,a2,a4⟩,_⟩:=ht O M x a3;rw[a2]at hb;obtain rfl:Wg=b:=a4.symm.trans hb;exact absurd (hw m hm) b3
 ·intro i O x b hi hx M a3 hb;obtain⟨⟨c,a2,a4⟩,h2,h3⟩:=ht O M x a3;have a8:b=Wg:=by rw[a2]at hb;exact hb.symm.trans a4
  cases a5:x.kind with
  |plain=>exact absurd a5 h2
  |atomic=>exact .inr (.inl ⟨.inr a8,⟨c,a2⟩,rfl⟩)
  |said=>
    have:=knows_own hx;rw[hu O M,h3 a5]at this;exact .inl this
 ·intro i O _ _ M a7 _;rw[hu O M]at a7⊢;cases k with
  |zero=>exact absurd rfl a7
  |succ k'=>exact⟨k',om,rfl⟩
 ·intro i O x hi hx M a3 _;obtain⟨_,h2,h3⟩:=ht O M x a3;exact⟨h2,fun y=>by rw[hu O M,h3 y]⟩
theorem TI.fork(h:TI Sh Wg q8 p j V B t){x y:MemOp}(hx:x.g=0/\x.act=.go (p+j))(hy:y.g=p+j/\y.act=.start)(h0:Deaf t 0=0)(a3:Deaf t (p+j)=0)
 (hV:∀m,m<=j->(∀b,(V m).dead b->(V' m).dead b)/\ ∀b,(V m).still b->(V' m).still b)
 (hc:∀b,¬ (V' (j+1)).dead b-> ¬ (V 0).dead b/\((V 0).still b->(V' (j+1)).still b)):TI Sh Wg q8 p (j+1) V' B (t++#[x,y]):=by
 have a4:∀O∈#[x,y],O.act.touch?=none:=by
  intro O M;simp only[List.mem_toArray,List.mem_cons,List.not_mem_nil,or_false]at M;rcases M with rfl|rfl
  ·rw[hx.2];rfl
  ·rw[hy.2];rfl
 have a5:∀O∈#[x,y],O.act.low B:=by
  intro O M;simp only[List.mem_toArray,List.mem_cons,List.not_mem_nil,or_false]at M;rcases M with rfl|rfl
  ·rw[hx.2];trivial
  ·rw[hy.2];trivial
 have hr:∀O∈#[x,y],O.act≠.mark (.release (stA Wg)):=by
  intro O M;simp only[List.mem_toArray,List.mem_cons,List.not_mem_nil,or_false]at M;rcases M with rfl|rfl
  ·rw[hx.2];simp
  ·rw[hy.2];simp
 have T:=h.mute a4 a5 hr;have old:∀{i:Nat}{a:Touch},touchAt (t++#[x,y]) i=some a->touchAt t i=some a:=by
  intro i a ha;obtain⟨z,hz,a2⟩:=touch_of ha;rcases getElem?_append_cases hz with⟨_,a7⟩|⟨_,a8⟩
  ·rw[touchAt_of a7];exact a2
  ·rw[a4 z a8]at a2;cases a2
 refine⟨T.clean,fun m hm i a b ha hb hd hs=>?_,fun i a b ha hb=>?_,fun i g hg a9 a6=>(T.over i g hg a9 a6).imp id fun⟨k,a,b⟩=>⟨k,om,b⟩,fun i a ha hb=>?_,T.seen,T.norel,T.size⟩
 ·rcases Nat.lt_or_ge j m with hlt|hge
  ·obtain rfl:m=j+1:=om;obtain⟨h1,h2⟩:=hc b hd;exact fork_knows hx hy h0 a3 (h.mine 0 (Nat.zero_le _) i a b (old ha) hb h1 fun z=>hs (h2 z))
  ·exact T.mine m hge i a b ha hb (fun z=>hd ((hV m hge).1 b z)) fun z=>hs ((hV m hge).2 b z)
 ·exact(T.known i a b ha hb).imp id (Or.imp id fun⟨k,hk,z⟩=>⟨k,om,z⟩)
 ·rcases h.wgq i a (old ha) hb with z|z
  ·refine .inl ⟨z.1,fun q=>?_⟩;have hg:=z.2 q;rw[g?_old (ymx hg)];exact hg
  ·refine .inr fun k hk=>?_;rcases Nat.lt_or_ge j k with hlt|hge
   ·obtain rfl:k=j+1:=om;exact fork_knows hx hy h0 a3 (z 0 (Nat.zero_le _))
   ·exact(z k hge).app _
theorem TI.start{S:Nat->Prop}(h:Past (Hu S) B t)(hW:¬ S Wg){V0:Vw}(hV:∀b,¬ V0.dead b-> ¬ S b):TI S Wg t.size p 0 (fun _=>V0) B t:=by
 have key:∀i a b,touchAt t i=some a->D8 b a.loc->Knows t 0 i\/(S b/\(∃x,a.loc=.cell x)/\a.kind=.atomic):=fun i a b O M=>by
  rcases h.known i a O M.mem with z|⟨⟨x,hx,hs⟩,z⟩
  ·exact .inl z
  ·refine .inr ⟨?_,⟨x,hx⟩,z⟩;rw[hx]at M;obtain rfl:x.block=b:=M;exact hs
 refine⟨h.clean,fun k hk i a b O M hd _=>?_,fun i a b O M=>(key i a b O M).imp id fun z=>.inl ⟨.inl z.1,z.2⟩,fun i g hg a2 hc=>.inl (h.over i g hg a2 hc),fun i a O M=>.inr fun k hk=>?_,h.seen,fun k hk e=>?_,Nat.le_refl _⟩
 ·obtain rfl:k=0:=om;exact(key i a b O M).elim id fun z=>absurd z.1 (hV b hd)
 ·obtain rfl:k=0:=om;exact(key i a Wg O M).elim id fun z=>absurd z.1 hW
 ·have:=lt_of_act? e;omega
def Fv(Wg q8 p j:Nat)(t:Trace):Prop:=
 ∃q,t.act? q=some (.mark (.acquire (stA Wg)))/\t.g? q=some 0/\t.heard q/\ ∀k,k<j-> ∃r,q8<=r/\RelBy (stA Wg) t (p+k) r/\r<q
theorem TI.finish(h:TI Sh Wg q8 p j V B t)(ha:Fv Wg q8 p j t)(h0:Deaf t 0=0){S:Nat->Prop}(hS:∀b,Sh b\/b=Wg->S b):Past (Hu S) B t:=by
 obtain⟨q,hq,a2,a6,a3⟩:=ha;obtain⟨z,hz,a7⟩:=Option.map_eq_some_iff.1 a2;have key:∀i k,k<j->t.g? i=some (p+k)->t.counts i->HappensBefore t i q:=fun i k hk hg hc=>by
  obtain⟨r,a8,hr,a5⟩:=a3 k hk;have M:HappensBefore t r q:=.single (.inr ⟨.marked a5 (.inr hr.act) hq (fun m hm _=>h.norel m om),hr.heard,a6⟩);have a9:i<=r:=Nat.le_of_not_lt fun O=>hr.after i O hg hc;rcases Nat.lt_or_ge i r with O|hge
  ·exact .trans (.single (.inl ⟨O,p+k,hg,hr.g⟩)) M
  ·obtain rfl:i=r:=om;exact M
 refine⟨h.clean,fun i a hi hm=>?_,fun i g hg a4 hc=>?_,h0,h.seen⟩
 ·obtain⟨b,hb⟩:=xut hm;rcases h.known i a b hi hb with y|⟨y1,⟨x,hx⟩,y2⟩|⟨k,hk,y1,y2⟩
  ·exact .inl y
  ·refine .inr ⟨⟨x,hx,hS _ ?_⟩,y2⟩;rw[hx]at hb;obtain rfl:x.block=b:=hb;exact y1
  ·exact .inl ⟨q,z,hz,a7,.inr (key i k hk y1 y2)⟩
 ·rcases h.over i g hg a4 hc with y|⟨k,hk,rfl⟩
  ·exact y
  ·exact⟨q,a2,key i k hk hg hc⟩
end
def Mn:Obj:=.cells #[] 0 (0,0)
def O7:Obj->Obj
 |.cells c e _=>.cells c e (0,c.size)
 |_=>Mn
def C6(A K:List Nat)(h:Heap):Heap:=h.mapIdx fun b o=>if b∈A then Mn else if b∈K then o else O7 o
theorem xxb{A K:List Nat}{h:Heap}:(C6 A K h).size=h.size:=by simp[C6]
theorem xkc{A K:List Nat}{h:Heap}{b:Nat}:(C6 A K h)[b]?=(h[b]?).map fun o=>if b∈A then Mn else if b∈K then o else O7 o:=by
 simp[C6,Array.getElem?_mapIdx]
def Exc(h:Heap)(b:Nat):Prop:=∃c e,h[b]?=some (.cells c e (0,0))/\0<c.size
theorem Cd.exc{V:Vw}{h r:Heap}(v:Cd V h r){b:Nat}(x:Exc h b):¬ V.dead b/\ ¬ V.still b:=by
 obtain⟨c,e,M,hc⟩:=x;refine⟨fun hs=>?_,fun O=>?_⟩
 ·rw[v.H0 _ hs]at M;cases M;simp at hc
 ·obtain⟨c',e',f',_,hh⟩:=v.frz _ O;rw[hh]at M;simp only[Option.some.injEq,Obj.cells.injEq,Prod.mk.injEq]at M;obtain⟨rfl,_,_,hz⟩:=M;omega
def Hb:Obj->Bool
 |.cells .. => true
 |_=>false
def Gh(A K:List Nat)(h:Heap)(V:Vw):Vw:=
 ⟨fun b=>V.dead b\/(b<h.size/\(b∈A\/(b∉K/\ ∀o,h[b]?=some o->Hb o=false))),fun b=>b<h.size/\ ¬ V.dead b/\b∉A/\b∉K/\ ∃o,h[b]?=some o/\Hb o=true⟩
section
variable{A K:List Nat}{h r r':Heap}{V:Vw}
theorem Cd.cut(v:Cd V h r)(hK:∀b∈K,Exc h b):Cd (Gh A K h V) (C6 A K h) r:=by
 refine⟨by rw[xxb];exact v.size,fun b hd hs=>?_,fun b hd=>?_,fun b hs=>?_⟩
 ·rw[xkc];rcases Nat.lt_or_ge b h.size with M|hge
  ·have a2:¬ V.dead b:=fun x=>hd (.inl x);have a4:b∉A:=fun x=>hd (.inr ⟨M,.inl x⟩);have a5:b∈K:=by
    refine Classical.byContradiction fun hn=>?_;cases O:h[b]? with
    |none=>have:=Array.getElem?_eq_none_iff.1 O;omega
    |some o=>
      cases hc:Hb o with
      |true=>exact hs ⟨M,a2,a4,hn,o,O,hc⟩
      |false=>exact hd (.inr ⟨M,.inr ⟨hn,fun o' a3=>by rw[O]at a3;cases a3;exact hc⟩⟩)
   have a7:=(v.exc (hK b a5)).2;rw[v.same b a2 a7];cases r[b]? <;> simp[a4,a5]
  ·rw[Array.getElem?_eq_none hge,Array.getElem?_eq_none (by rw[<- v.size];exact hge)];rfl
 ·rw[xkc];rcases hd with hd|⟨M,hd⟩
  ·rw[v.H0 b hd];simp only[Option.map_some];by_cases h1:b∈A
   ·rw[if_pos h1];rfl
   ·rw[if_neg h1];by_cases h2:b∈K
    ·rw[if_pos h2]
    ·rw[if_neg h2];rfl
  ·rw[Array.getElem?_eq_getElem M];simp only[Option.map_some];rcases hd with h1|⟨h2,h3⟩
   ·rw[if_pos h1];rfl
   ·by_cases h1:b∈A
    ·rw[if_pos h1];rfl
    ·rw[if_neg h1,if_neg h2];have:=h3 _ (Array.getElem?_eq_getElem M);cases O:h[b]<;>first|rfl|(rw[O]at this;cases this)
 ·obtain⟨M,a2,h1,h2,o,O,hc⟩:=hs;cases o<;>first|(cases hc;done)|skip
  rename_i c e f;have a6:(C6 A K h)[b]?=some (.cells c e (0,c.size)):=by rw[xkc,O];simp[h1,h2,O7]
  by_cases ht:V.still b
  ·obtain⟨c',e',f',hr,hh⟩:=v.frz b ht;rw[hh]at O;cases O;exact⟨_,_,_,hr,a6⟩
  ·exact⟨c,e,f,by rw[<- v.same b a2 ht];exact O,a6⟩
theorem xbg{b:Nat}(x:(Gh A K h V).still b):¬ (Gh A K h V).dead b:=by
 obtain⟨M,h1,O,h3,o,ho,hc⟩:=x;rintro(y|⟨_,y|⟨_,y⟩⟩)
 ·exact h1 y
 ·exact O y
 ·rw[y o ho]at hc;cases hc
theorem Cd.F5(v:Cd V h r)(ap:∀b,V.still b-> ¬ V.dead b)(O:∀b∈A,Exc h b)(hK:∀b∈K,Exc h b){b:Nat}(x:V.still b):(Gh A K h V).still b:=by
 obtain⟨c,e,f,hr,M⟩:=v.frz b x;exact⟨(Array.getElem?_eq_some_iff.1 M).1,ap b x,fun y=>(v.exc (O b y)).2 x,fun y=>(v.exc (hK b y)).2 x,_,M,rfl⟩
theorem xyr{b:Nat}(M:b<h.size)(O:¬ (Gh A K h V).dead b)(hn:b∉K):(Gh A K h V).still b:=by
 have h1:¬ V.dead b:=fun x=>O (.inl x);have h2:b∉A:=fun x=>O (.inr ⟨M,.inl x⟩);refine⟨M,h1,h2,hn,h[b],Array.getElem?_eq_getElem M,?_⟩;cases hc:Hb h[b]with
 |true=>rfl
 |false=>exact absurd (.inr ⟨M,.inr ⟨hn,fun o ho=>by rw[Array.getElem?_eq_getElem M]at ho;cases ho;exact hc⟩⟩) O
def Pu(B B':Nat)(V:Vw):Vw:=⟨fun b=>V.dead b\/(B<=b/\b<B'),V.still⟩
def My(n:Nat)(h:Heap):Heap:=h++Array.replicate (n-h.size) Mn
theorem Dw{n:Nat}:Af h (My n h):=⟨by simp[My],fun b M=>by unfold My;rw[Array.getElem?_append_left M]⟩
theorem xht{n:Nat}(hn:h.size<=n):(My n h).size=n:=by simp[My];omega
theorem Cd.ext(v:Cd V h r)(ap:∀b,V.still b-> ¬ V.dead b)(a2:r.size<=r'.size)(hs:∀b,b<r.size-> ¬ V.dead b->r'[b]?=r[b]?):Cd (Pu r.size r'.size V) (My r'.size h) r':=by
 have hz:=v.size;refine⟨by rw[xht om],fun b M ht=>?_,fun b M=>?_,fun b ht=>?_⟩
 ·rcases Nat.lt_or_ge b r.size with O|hge
  ·rw[Dw.Cq b om,v.same b (fun x=>M (.inl x)) ht,hs b O fun x=>M (.inl x)]
  ·have:r'.size<=b:=Nat.le_of_not_lt fun x=>M (.inr ⟨hge,x⟩);rw[Array.getElem?_eq_none (by rw[xht om];exact this),Array.getElem?_eq_none this]
 ·rcases M with M|⟨h1,h2⟩
  ·rw[Dw.Cq b (by have:=v.lt M;omega)];exact v.H0 b M
  ·unfold My;rw[Array.getElem?_append_right om,Array.getElem?_replicate,if_pos om];rfl
 ·obtain⟨c,e,f,hr,hh⟩:=v.frz b ht;have O:=v.lts ht;exact⟨c,e,f,(hs b O (ap b ht)).trans hr,by rw[Dw.Cq b om];exact hh⟩
theorem Cd.on(v:Cd V h r)(ap:∀b,V.still b-> ¬ V.dead b)(O:r'.size=r.size)(hs:∀b,¬ V.dead b->r'[b]?=r[b]?):Cd V h r':=
 ⟨v.size.trans O.symm,fun b hd M=>(v.same b hd M).trans (hs b hd).symm,v.H0,fun b M=>by obtain⟨c,e,f,hr,hh⟩:=v.frz b M;exact⟨c,e,f,(hs b (ap b M)).trans hr,hh⟩⟩
end
section
variable{P:Program}(st:Nat->Option (Goroutine->Heap->Prop))
def RK(P:Program)(k:Nat)(x:Goroutine×Heap):Prop:=∀S,st k=some S->Reach P (.own (k==0)) x.1 x.2 S
variable{st}
def Li(P:Program)(st:Nat->Option (Goroutine->Heap->Prop))(J:(Nat->Goroutine×Heap)->Prop)(c:Nat->Goroutine×Heap)(k:Nat):Prop:=
 ∀S,st k=some S->S (c k).1 (c k).2\/Own P (k==0) (c k).1 (c k).2 fun g h=>Reach P (.own (k==0)) g h S/\ ∀M,M k=(g,h)->(∀m,m<k->M m=c m)->(∀m,RK st P m (M m))->J M
theorem yfw{J:(Nat->Goroutine×Heap)->Prop}{i:Nat}(H:∀c,(∀k,RK st P k (c k))->(∀k,k<i+1->Li P st J c k)->J c):
 ∀c,(∀k,RK st P k (c k))->(∀k,k<i->Li P st J c k)->J c:=by
 intro c hR hA;cases hs:st i with
 |none=>
   refine H c hR fun k hk=>?_;rcases Nat.lt_or_ge k i with hlt|hge
   ·exact hA k hlt
   ·obtain rfl:k=i:=om;intro S hS;rw[hs]at hS;cases hS
 |some S=>
   have key:∀g h,Reach P (.own (i==0)) g h S-> ∀c:Nat->Goroutine×Heap,c i=(g,h)->(∀k,RK st P k (c k))->(∀k,k<i->Li P st J c k)->J c:=by
    intro g h r;refine(r (fun g h=>Reach P (.own (i==0)) g h S/\ ∀c:Nat->Goroutine×Heap,c i=(g,h)->(∀k,RK st P k (c k))->(∀k,k<i->Li P st J c k)->J c) (fun g h s=>⟨xpk s,fun c e hR hA=>?_⟩) (fun g h o=>⟨?_,fun c e hR hA=>?_⟩)).2
    ·refine H c hR fun k hk=>?_;rcases Nat.lt_or_ge k i with hlt|hge
     ·exact hA k hlt
     ·obtain rfl:k=i:=om;intro S' M;rw[hs]at M;cases M;exact .inl (by rw[e];exact s)
    ·exact xij (md:=.own (i==0)) (o.mono fun _ _ x=>x.1)
    ·refine H c hR fun k hk=>?_;rcases Nat.lt_or_ge k i with hlt|hge
     ·exact hA k hlt
     ·obtain rfl:k=i:=om;intro S' M;rw[hs]at M;cases M;refine .inr ?_;rw[e];refine o.mono fun g' h' x=>⟨x.1,fun c' e' hm a8=>x.2 c' e' a8 fun m O=>?_⟩
      intro a6 a4;have:=hA m O a6 a4;rw[hm m O];exact this.imp id fun o'=>o'.mono fun b0 a9 y=>⟨y.1,fun a5 a7 a2 a3=>y.2 a5 a7 (fun a ha=>(a2 a ha).trans (hm a (Nat.lt_trans ha O))) a3⟩
   exact key _ _ (hR i S hs) c rfl hR hA
theorem nest{J:(Nat->Goroutine×Heap)->Prop}{n:Nat}(H:∀c,(∀k,RK st P k (c k))->(∀k,k<n->Li P st J c k)->J c):∀c,(∀k,RK st P k (c k))->J c:=by
 induction n with
 |zero=>exact fun c M=>H c M fun k O=>absurd O (Nat.not_lt_zero k)
 |succ n ih=>exact ih (yfw H)
end
open Go.ConcN (RelBy sumTo upd sumTo_upd upd_ne upd_same)
open Go.ConcR (KK wgBlock WgAt stA smA rd wr mk)
structure Site where
 ty:TypeId
 Wg:Nat
 S:Nat->Prop
 z9:Heap
 Z:List Nat
 p:Nat
 q8:Nat
def Site.Old(s:Site)(b:Nat):Prop:=b<s.z9.size/\b≠s.Wg/\b∉s.Z
structure G7(s:Site)(P:Program)(j:Nat)(V:Nat->Vw)(hv:Nat->Heap)(g:Nat->Goroutine)(dd:Nat->Nat)(q:Nat->Nat)(gs:Array Goroutine)(w:World)(t:Trace):Prop where
 pos:0<s.p
 size:gs.size=s.p+j
 at':∀k,k<=j->gs[gn s.p k]?=some (g k)
 lv:∀i x,0<i->i<s.p->gs[i]?=some x->QuitsD P (q i) (Deaf t i) x
 above:∀i,gs.size<=i->Deaf t i=0
 Gy:∀k,k<=j->Cd (V k) (hv k) w.heap
 apart:∀k,k<=j-> ∀b,(V k).still b-> ¬ (V k).dead b
 dis:∀k m,k<=j->m<=j->k≠m-> ∀b,b<w.heap.size-> ¬ (V k).dead b-> ¬ (V m).dead b->(V k).still b/\(V m).still b
 wgd:∀k,k<=j->(V k).dead s.Wg
 old:∀b,s.Old b-> ¬ s.S b->w.heap[b]?=s.z9[b]?
 Mc:∀k,k<=j-> ∀b,s.Old b->(V k).dead b\/(V k).still b
 sd:∀k,k<=j-> ∀b,s.S b->(V k).dead b
 M5:s.z9.size<=w.heap.size
 ti:TI s.S s.Wg s.q8 s.p j V w.heap.size t
 deaf:∀k,k<=j->Deaf t (gn s.p k)=dd k
theorem xw6{e:Event}(h:e.mute=true){a:Addr}:MemAct.ofEvent e≠.mark (.release a):=by
 obtain⟨M,wr,O⟩:=e;cases M<;>simp_all[Event.mute,MemAct.ofEvent]
 all_goals
  rename_i m;cases m<;>simp_all
theorem xx4{p k m:Nat}(M:0<p)(h:gn p k=gn p m):k=m:=by
 cases k<;>cases m<;>simp only[gn]at h<;>omega
theorem ypp{p k j:Nat}(M:0<p)(h:k<=j):gn p k<p+j:=by
 cases k<;>simp only[gn]<;>omega
theorem yaz{p k:Nat}(M:0<p):gn p k=0<->k=0:=by
 cases k<;>simp only[gn]<;>omega
theorem xw4{p k i:Nat}(hi:0<i)(M:i<p):gn p k≠i:=by
 cases k<;>simp only[gn]<;>omega
theorem yih{p k:Nat}(M:0<p):(gn p k==0)=(k==0):=by
 cases k<;>simp only[gn]<;>simp;omega
section
variable{s:Site}{P:Program}{j:Nat}{V:Nat->Vw}{hv:Nat->Heap}{g:Nat->Goroutine}{dd q:Nat->Nat}{gs:Array Goroutine}{w w':World}{t:Trace}{sl:Option (Nat×Nat)}
def wok(P:Program)(a a':Goroutine)(w':World)(k:Nat)(g:Nat->Goroutine):Nat->Goroutine:=upd (fun m=>woken P a a' w' (g m)) k a'
theorem xlr{f:Goroutine->Goroutine}{a:Nat}{x:Goroutine}{b:Nat}(M:a≠b):((gs.map f).setIfInBounds a x)[b]?=(gs[b]?).map f:=by
 rw[Array.getElem?_setIfInBounds_ne M,Array.getElem?_map]
theorem xy4{f:Goroutine->Goroutine}{a:Nat}{x:Goroutine}(M:a<gs.size):((gs.map f).setIfInBounds a x)[a]?=some x:=by simp[M]
theorem xoc{i:Nat}{fn:FuncId}{pos:String}{es:Array Event}:∀O∈MemOp.ofEvents i fn pos es,O.g=i:=fun O M=>by
 obtain⟨e,_,rfl⟩:=Go.Conc.mem_ofEvents M;rfl
theorem G7.Lq(C:G7 s P j V hv g dd q gs w t){k:Nat}(hk:k<=j){a':Goroutine}{fn:FuncId}{pos:String}{es:Array Event}:
 ((gs.map (woken P (g k) a' w')).setIfInBounds (gn s.p k) a').size=s.p+j/\
 (∀m,m<=j->((gs.map (woken P (g k) a' w')).setIfInBounds (gn s.p k) a')[gn s.p m]?=some (wok P (g k) a' w' k g m))/\
 (∀i x,0<i->i<s.p->((gs.map (woken P (g k) a' w')).setIfInBounds (gn s.p k) a')[i]?=some x->QuitsD P (q i) (Deaf (t++MemOp.ofEvents (gn s.p k) fn pos es) i) x)/\
 (∀i,((gs.map (woken P (g k) a' w')).setIfInBounds (gn s.p k) a').size<=i->Deaf (t++MemOp.ofEvents (gn s.p k) fn pos es) i=0)/\
 ∀m,m<=j->Deaf (t++MemOp.ofEvents (gn s.p k) fn pos es) (gn s.p m)=upd dd k (deafBehind (dd k) es) m:=by
 have O:((gs.map (woken P (g k) a' w')).setIfInBounds (gn s.p k) a').size=gs.size:=by simp
 have a2:gn s.p k<gs.size:=by rw[C.size];exact ypp C.pos hk
 refine⟨O.trans C.size,fun m hm=>?_,fun i x hi M hx=>?_,fun i hi=>?_,fun m hm=>?_⟩
 ·by_cases e:m=k
  ·subst e;rw[xy4 a2];simp[wok,upd_same]
  ·rw[xlr (fun x=>e (xx4 C.pos x).symm),C.at' m hm];simp[wok,upd_ne _ _ e]
 ·rw[xlr (xw4 hi M)]at hx;obtain⟨y,hy,rfl⟩:=Option.map_eq_some_iff.1 hx;have hq:=C.lv i y hi M hy;rw[woken_quitsD hq,Deaf_other t (xw4 hi M) _ xoc];exact hq
 ·rw[O]at hi;rw[Deaf_other t om _ xoc];exact C.above i hi
 ·by_cases e:m=k
  ·subst e;rw[Deaf_own,C.deaf m hm,upd_same]
  ·rw[Deaf_other t (fun x=>e (xx4 C.pos x).symm) _ xoc,C.deaf m hm,upd_ne _ _ e]
theorem G7.own(C:G7 s P j V hv g dd q gs w t){k:Nat}(hk:k<=j){a':Goroutine}{h':Heap}{fn:FuncId}{pos:String}{es:Array Event}
 (hV:Cd (V k) h' w'.heap)(hq:Quiet (V k) w w')(a5:∀e∈es,EvX (V k) w'.heap.size e):
 G7 s P j (fun m=>if m=k then V k else Pu w.heap.size w'.heap.size (V m)) (fun m=>if m=k then h' else My w'.heap.size (hv m)) (wok P (g k) a' w' k g) dd q
  ((gs.map (woken P (g k) a' w')).setIfInBounds (gn s.p k) a') w' (t++MemOp.ofEvents (gn s.p k) fn pos es):=by
 obtain⟨g1,g2,g3,g4,g5⟩:=C.Lq (w':=w') hk (a':=a') (fn:=fn) (pos:=pos) (es:=es);have hd:deafBehind (dd k) es=dd k:=deafBehind_still (fun e he=>⟨(xa2 (a5 e he)).2.1,(xa2 (a5 e he)).2.2⟩) _;have a7:∀m,m<=j->m≠k-> ∀b,b<w.heap.size-> ¬ (V m).dead b->w'.heap[b]?=w.heap[b]?:=fun m M e b O a8=>by
  refine hq.Fp b O ?_;by_cases a6:(V k).dead b
  ·exact .inl a6
  ·exact .inr (C.dis k m hk M (Ne.symm e) b O a6 a8).1
 refine⟨C.pos,g1,g2,g3,g4,fun m M=>?_,fun m M b hs=>?_,fun m n M hn a4 b O h1 h2=>?_,fun m M=>?_,fun b O hS=>?_,fun m M b O=>?_,fun m M b O=>?_,Nat.le_trans C.M5 hq.size,?_,fun m M=>?_⟩
 ·by_cases e:m=k
  ·subst e;simp only[if_true];exact hV
  ·simp only[if_neg e];exact(C.Gy m M).ext (C.apart m M) hq.size (a7 m M e)
 ·by_cases e:m=k
  ·subst e;simp only[if_true]at hs⊢;exact C.apart m M b hs
  ·simp only[if_neg e]at hs⊢;rintro(x|⟨x,_⟩)
   ·exact C.apart m M b hs x
   ·have:=(C.Gy m M).lts hs;omega
 ·have a2:∀a,a<=j->a≠k-> ¬ (Pu w.heap.size w'.heap.size (V a)).dead b-> ¬ (V a).dead b/\b<w.heap.size:=fun a _ _ x=>by
   refine⟨fun y=>x (.inl y),Nat.lt_of_not_le fun y=>x (.inr ⟨y,O⟩)⟩
  by_cases e:m=k
  ·subst e;have en:n≠m:=Ne.symm a4;simp only[if_true,if_neg en]at h1 h2⊢;obtain⟨h2,a3⟩:=a2 n hn en h2;exact C.dis m n M hn a4 b a3 h1 h2
  ·by_cases en:n=k
   ·subst en;simp only[if_true,if_neg e]at h1 h2⊢;obtain⟨h1,a3⟩:=a2 m M e h1;exact C.dis m n M hn a4 b a3 h1 h2
   ·simp only[if_neg e,if_neg en]at h1 h2⊢;obtain⟨h1,a3⟩:=a2 m M e h1;obtain⟨h2,_⟩:=a2 n hn en h2;exact C.dis m n M hn a4 b a3 h1 h2
 ·by_cases e:m=k
  ·subst e;simp only[if_true];exact C.wgd m M
  ·simp only[if_neg e];exact .inl (C.wgd m M)
 ·exact(hq.Fp b (Nat.lt_of_lt_of_le O.1 C.M5) (C.Mc k hk b O)).trans (C.old b O hS)
 ·by_cases e:m=k
  ·subst e;simp only[if_true];exact C.Mc m M b O
  ·simp only[if_neg e];exact(C.Mc m M b O).imp .inl id
 ·by_cases e:m=k
  ·subst e;simp only[if_true];exact C.sd m M b O
  ·simp only[if_neg e];exact .inl (C.sd m M b O)
 ·refine(C.ti).step hk hq.size (fun m _=>?_) (fun m M e b O h1 h2=>?_) (C.wgd k hk) a5
  ·by_cases e:m=k
   ·subst e;simp only[if_true];exact⟨fun _ x=>x,fun _ x=>x⟩
   ·simp only[if_neg e];exact⟨fun _ x=>.inl x,fun _ x=>x⟩
  ·simp only[if_neg e]at h2⊢;exact C.dis k m hk M (Ne.symm e) b (Nat.lt_of_not_le fun y=>h2 (.inr ⟨y,O⟩)) h1 (fun y=>h2 (.inl y))
 ·rw[g5 m M,hd];by_cases e:m=k
  ·subst e;rw[upd_same]
  ·rw[upd_ne _ _ e]
theorem G7.book(C:G7 s P j V hv g dd q gs w t){k:Nat}(hk:k<=j){a':Goroutine}{fn:FuncId}{pos:String}{es:Array Event}
 (O:w'.heap.size=w.heap.size)(hb:∀b,b≠s.Wg->w'.heap[b]?=w.heap[b]?)
 (ht:∀e∈es,∀x,(MemAct.ofEvent e).touch?=some x->(∃a:Addr,x.loc=.cell a/\a.block=s.Wg)/\x.kind≠.plain/\(x.kind=.said->k=0))
 (hl:∀e∈es,(MemAct.ofEvent e).low w.heap.size)(hr:∀e∈es,MemAct.ofEvent e≠.mark (.release (stA s.Wg))):
 G7 s P j V hv (wok P (g k) a' w' k g) (upd dd k (deafBehind (dd k) es)) q ((gs.map (woken P (g k) a' w')).setIfInBounds (gn s.p k) a') w' (t++MemOp.ofEvents (gn s.p k) fn pos es):=by
 obtain⟨g1,g2,g3,g4,g5⟩:=C.Lq (w':=w') hk (a':=a') (fn:=fn) (pos:=pos) (es:=es);refine⟨C.pos,g1,g2,g3,g4,fun m hm=>(C.Gy m hm).on (C.apart m hm) O fun b hd=>hb b fun e=>hd (e ▸ C.wgd m hm),C.apart,fun m n hm hn a3 b a4=>C.dis m n hm hn a3 b (O ▸ a4),C.wgd,fun b a2 hS=>(hb b a2.2.1).trans (C.old b a2 hS),C.Mc,C.sd,by rw[O];exact C.M5,?_,g5⟩;rw[O];refine C.ti.wg hk C.wgd xoc (fun op M x hx=>?_) (fun op M=>?_) fun op M=>?_
 ·obtain⟨e,he,rfl⟩:=Go.Conc.mem_ofEvents M;obtain⟨a,b,c⟩:=ht e he x hx;exact⟨a,b,fun y=>(yaz C.pos).2 (c y)⟩
 ·obtain⟨e,he,rfl⟩:=Go.Conc.mem_ofEvents M;exact hl e he
 ·obtain⟨e,he,rfl⟩:=Go.Conc.mem_ofEvents M;exact hr e he
theorem G7.slip(C:G7 s P j V hv g dd q gs w t){i m:Nat}(hi:0<i)(a2:i<s.p){a a':Goroutine}{fn:FuncId}{pos:String}{es:Array Event}(hm:∀e∈es,e.mute=true)(hq:QuitsD P m (deafBehind (Deaf t i) es) a'):
 G7 s P j V hv (fun k=>woken P a a' w (g k)) dd (upd q i m) ((gs.map (woken P a a' w)).setIfInBounds i a') w (t++MemOp.ofEvents i fn pos es):=by
 have a4:((gs.map (woken P a a' w)).setIfInBounds i a').size=gs.size:=by simp
 refine⟨C.pos,a4.trans C.size,fun k hk=>?_,fun i' x O a5 hx=>?_,fun i' O=>?_,C.Gy,C.apart,C.dis,C.wgd,C.old,C.Mc,C.sd,C.M5,?_,fun k hk=>?_⟩
 ·rw[xlr (Ne.symm (xw4 hi a2)),C.at' k hk];rfl
 ·by_cases e:i'=i
  ·subst e;rw[xy4 (by rw[C.size];omega)]at hx;cases hx;rw[upd_same,Deaf_own];exact hq
  ·rw[xlr (Ne.symm e)]at hx;obtain⟨y,hy,rfl⟩:=Option.map_eq_some_iff.1 hx;have a3:=C.lv i' y O a5 hy;rw[woken_quitsD a3,Deaf_other t (Ne.symm e) _ xoc,upd_ne _ _ e];exact a3
 ·rw[a4]at O;rw[Deaf_other t (by have:=C.size;omega) _ xoc];exact C.above i' O
 ·refine C.ti.mute (fun op M=>?_) (fun op M=>?_) fun op M=>?_
  ·obtain⟨e,he,rfl⟩:=Go.Conc.mem_ofEvents M;exact touch_mute (hm e he)
  ·obtain⟨e,he,rfl⟩:=Go.Conc.mem_ofEvents M;exact low_mute (hm e he) _
  ·obtain⟨e,he,rfl⟩:=Go.Conc.mem_ofEvents M;exact xw6 (hm e he)
 ·rw[Deaf_other t (Ne.symm (xw4 hi a2)) _ xoc];exact C.deaf k hk
theorem G7.fork(C:G7 s P j V hv g dd q gs w t){X Z:List Nat}(hX:∀b∈X,Exc (hv 0) b)(hZ:∀b∈Z,Exc (hv 0) b)(h0:dd 0=0){a' child:Goroutine}{x y:MemOp}
 (hx:x.g=0/\x.act=.go (s.p+j))(hy:y.g=s.p+j/\y.act=.start):
 G7 s P (j+1) (fun m=>if m=0 then Gh X Z (hv 0) (V 0)else if m=j+1 then Gh Z X (hv 0) (V 0)else V m) (fun m=>if m=0 then C6 X Z (hv 0)else if m=j+1 then C6 Z X (hv 0)else hv m)
  (fun m=>if m=0 then a' else if m=j+1 then child else g m) (fun m=>if m=j+1 then 0 else dd m) q ((gs.setIfInBounds 0 a').push child) w (t++#[x,y]):=by
 have b4:∀op∈#[x,y],op.act≠.mark .disable/\op.act≠.mark .enable:=by
  intro op b3;simp only[List.mem_toArray,List.mem_cons,List.not_mem_nil,or_false]at b3;rcases b3 with rfl|rfl
  ·rw[hx.2];exact⟨s_,s_⟩
  ·rw[hy.2];exact⟨s_,s_⟩
 have hD:∀i,Deaf (t++#[x,y]) i=Deaf t i:=fun i=>Go.ConcN.Deaf_still t i _ b4;have v0:=C.Gy 0 (Nat.zero_le _);have a8:=C.apart 0 (Nat.zero_le _);have b7:=v0.size;have hp:=C.pos;have a4:=C.size;have b0:∀b,(V 0).still b->(Gh X Z (hv 0) (V 0)).still b:=fun b z=>v0.F5 a8 hX hZ z;have a6:∀b,(V 0).still b->(Gh Z X (hv 0) (V 0)).still b:=fun b z=>v0.F5 a8 hZ hX z;have a5:∀b,b<w.heap.size-> ¬ (Gh X Z (hv 0) (V 0)).dead b-> ¬ (Gh Z X (hv 0) (V 0)).dead b->(Gh X Z (hv 0) (V 0)).still b/\(Gh Z X (hv 0) (V 0)).still b:=fun b hb h1 M=>by
  have a3:b<(hv 0).size:=om;have n1:b∉X:=fun z=>h1 (.inr ⟨a3,.inl z⟩);have n2:b∉Z:=fun z=>M (.inr ⟨a3,.inl z⟩);exact⟨xyr a3 h1 n2,xyr a3 M n1⟩
 have a2:∀(A K:List Nat),(∀b∈A,Exc (hv 0) b)->(∀b∈K,Exc (hv 0) b)-> ∀m,m<=j->m≠0-> ∀b,b<w.heap.size-> ¬ (Gh A K (hv 0) (V 0)).dead b-> ¬ (V m).dead b->(Gh A K (hv 0) (V 0)).still b/\(V m).still b:=fun A K hA hK m hm e b hb h1 M=>by
  have:=C.dis 0 m (Nat.zero_le _) hm (Ne.symm e) b hb (fun z=>h1 (.inl z)) M;exact⟨v0.F5 a8 hA hK this.1,this.2⟩
 refine⟨hp,by simp[a4];omega,fun m hm=>?_,fun i z hi b5 hz=>?_,fun i hi=>?_,fun m hm=>?_,fun m hm b hs=>?_,fun m n hm hn a7 b hb h1 M=>?_,fun m hm=>?_,C.old,fun m hm b hb=>?_,fun m hm b hb=>?_,C.M5,?_,fun m hm=>?_⟩
 ·by_cases O:m=0
  ·subst O;simp only[gn,if_true];rw[Array.getElem?_push,if_neg (by simp;omega),Array.getElem?_setIfInBounds_self_of_lt om]
  ·simp only[if_neg O];by_cases e1:m=j+1
   ·subst e1;simp only[gn,if_true];rw[Array.getElem?_push,if_pos (by simp[a4])]
   ·simp only[if_neg e1];have a9:m<=j:=om;have b8:=ypp hp a9;have b6:gn s.p m≠0:=fun z=>O ((yaz hp).1 z);rw[Array.getElem?_push,if_neg (by simp[a4];omega),Array.getElem?_setIfInBounds_ne (Ne.symm b6)];exact C.at' m a9
 ·rw[Array.getElem?_push,if_neg (by simp[a4];omega),Array.getElem?_setIfInBounds_ne om]at hz;rw[hD];exact C.lv i z hi b5 hz
 ·rw[hD];exact C.above i (by simp at hi;omega)
 ·by_cases O:m=0
  ·subst O;simp only[if_true];exact v0.cut hZ
  ·simp only[if_neg O];by_cases e1:m=j+1
   ·simp only[if_pos e1];exact v0.cut hX
   ·simp only[if_neg e1];exact C.Gy m om
 ·by_cases O:m=0
  ·subst O;simp only[if_true]at hs⊢;exact xbg hs
  ·simp only[if_neg O]at hs⊢;by_cases e1:m=j+1
   ·simp only[if_pos e1]at hs⊢;exact xbg hs
   ·simp only[if_neg e1]at hs⊢;exact C.apart m om b hs
 ·by_cases m0:m=0
  ·subst m0;simp only[if_true]at h1⊢;have n0:n≠0:=Ne.symm a7;simp only[if_neg n0]at M⊢;by_cases n1:n=j+1
   ·simp only[if_pos n1]at M⊢;exact a5 b hb h1 M
   ·simp only[if_neg n1]at M⊢;exact a2 X Z hX hZ n om n0 b hb h1 M
  ·simp only[if_neg m0]at h1⊢;by_cases m1:m=j+1
   ·simp only[if_pos m1]at h1⊢;by_cases n0:n=0
    ·subst n0;simp only[if_true]at M⊢;exact(a5 b hb M h1).symm
    ·simp only[if_neg n0]at M⊢;have n1:n≠j+1:=fun z=>a7 (m1.trans z.symm);simp only[if_neg n1]at M⊢;exact a2 Z X hZ hX n om n0 b hb h1 M
   ·simp only[if_neg m1]at h1⊢;by_cases n0:n=0
    ·subst n0;simp only[if_true]at M⊢;exact(a2 X Z hX hZ m om m0 b hb M h1).symm
    ·simp only[if_neg n0]at M⊢;by_cases n1:n=j+1
     ·simp only[if_pos n1]at M⊢;exact(a2 Z X hZ hX m om m0 b hb M h1).symm
     ·simp only[if_neg n1]at M⊢;exact C.dis m n om om a7 b hb h1 M
 ·by_cases O:m=0
  ·subst O;simp only[if_true];exact .inl (C.wgd 0 (Nat.zero_le _))
  ·simp only[if_neg O];by_cases e1:m=j+1
   ·simp only[if_pos e1];exact .inl (C.wgd 0 (Nat.zero_le _))
   ·simp only[if_neg e1];exact C.wgd m om
 ·by_cases O:m=0
  ·subst O;simp only[if_true];exact(C.Mc 0 (Nat.zero_le _) b hb).imp .inl (b0 b)
  ·simp only[if_neg O];by_cases e1:m=j+1
   ·simp only[if_pos e1];exact(C.Mc 0 (Nat.zero_le _) b hb).imp .inl (a6 b)
   ·simp only[if_neg e1];exact C.Mc m om b hb
 ·by_cases O:m=0
  ·subst O;simp only[if_true];exact .inl (C.sd 0 (Nat.zero_le _) b hb)
  ·simp only[if_neg O];by_cases e1:m=j+1
   ·simp only[if_pos e1];exact .inl (C.sd 0 (Nat.zero_le _) b hb)
   ·simp only[if_neg e1];exact C.sd m om b hb
 ·refine C.ti.fork hx hy ((C.deaf 0 (Nat.zero_le _)).trans h0) (C.above _ om) (fun m hm=>?_) fun b hd=>?_
  ·by_cases O:m=0
   ·subst O;simp only[if_true];exact⟨fun _ z=>.inl z,b0⟩
   ·simp only[if_neg O];rw[if_neg om];exact⟨fun _ z=>z,fun _ z=>z⟩
  ·have:¬ (j+1=0):=om;simp only[if_neg this,if_true]at hd⊢;exact⟨fun z=>hd (.inl z),a6 b⟩
 ·rw[hD];by_cases e1:m=j+1
  ·subst e1;simp only[if_true,gn];exact C.above _ om
  ·simp only[if_neg e1];exact C.deaf m om
end
open Go.Conc Go.RowKit Go.Conc.Lib Go.ConcR.Gen Go.ConcN.Gen
open Go.ConcR (KK wgBlock WgAt stA smA rd wr mk DC0)
open Go.ConcN (WgLive st_flag st_waiters)
open Go.ConcN.Gen
def RLv(ty:TypeId)(Wg:Nat)(w M:World):Prop:=WgLive ty Wg w->WgLive ty Wg M
theorem xaq{ty:TypeId}{Wg:Nat}{w M:World}(h:WgLive ty Wg w)(r:RLv ty Wg w M):WgLive ty Wg M:=r h
section
variable(P:Program)(ty:TypeId)(Wg:Nat)(gb:Goroutine)
def Ko(g:Goroutine)(w:World):Prop:=g=gb/\WgLive ty Wg w
def AtKeS(g:Goroutine)(w:World):Prop:=g.status=.running/\ ∃g',stepG P true g w=.go g' w #[mk .enable]/\ ∃m,Goes P true (RLv ty Wg) DC0 (Ko ty Wg gb) m g' w
def Oy(g:Goroutine)(w:World):Prop:=g.status=.running/\ ∃g',stepG P true g w=.go g' w #[mk (.read (smA Wg))]/\ ∃m,Goes P true (RLv ty Wg) DC0 (AtKeS P ty Wg gb) m g' w
def AtA1(g:Goroutine)(w:World):Prop:=
 g.status=.running/\ ∀v:Nat,v<2147483647->WgAt ty Wg w (v*KK) 0->
  ∃g',stepG P true g w=.go g' (w.setCell (stA Wg) (.int .u64 ((v+1)*KK))) #[rd (stA Wg),wr (stA Wg)]/\
   (v=0-> ∃m,Goes P true (RLv ty Wg) DC0 (Oy P ty Wg gb) m g' (w.setCell (stA Wg) (.int .u64 ((v+1)*KK))))/\(v≠0-> ∃m,Goes P true (RLv ty Wg) DC0 (AtKeS P ty Wg gb) m g' (w.setCell (stA Wg) (.int .u64 ((v+1)*KK))))
def AtKdS(g:Goroutine)(w:World):Prop:=g.status=.running/\ ∃g',stepG P true g w=.go g' w #[mk .disable]/\ ∃m,Goes P true (RLv ty Wg) DC0 (AtA1 P ty Wg gb) m g' w
variable(AnchW:Goroutine->World->Prop)
def AtAcq(g:Goroutine)(w:World):Prop:=g.status=.running/\ ∃g',stepG P true g w=.go g' w #[mk (.acquire (stA Wg))]/\ ∃m,Goes P true (RLv ty Wg) DC0 (Ko ty Wg gb) m g' w
def AtKe(g:Goroutine)(w:World):Prop:=g.status=.running/\ ∃g',stepG P true g w=.go g' w #[mk .enable]/\ ∃m,Goes P true (RLv ty Wg) DC0 (AtAcq P ty Wg gb) m g' w
def AtW4(g:Goroutine)(w:World):Prop:=g.status=.running/\(WgAt ty Wg w 0 0-> ∃g',stepG P true g w=.go g' w #[rd (stA Wg)]/\ ∃m,Goes P true (RLv ty Wg) DC0 (AtKe P ty Wg gb) m g' w)
def AtW3(g:Goroutine)(w:World):Prop:=
 g.status=.running/\g.offers=none/\((∃st,WgAt ty Wg w st 0)->stepG P true g w=.go {g with status:=.blocked} w #[])/\
  (WgAt ty Wg w 0 1-> ∃g',stepG P true g w=.go g' (w.setCell (smA Wg) (.int .u32 0)) (semEvents (smA Wg))/\ ∃m,Goes P true (RLv ty Wg) DC0 (AtW4 P ty Wg gb) m g' (w.setCell (smA Wg) (.int .u32 0)))
def Qg(g:Goroutine)(w:World):Prop:=g.status=.running/\ ∃g',stepG P true g w=.go g' w #[mk (.write (smA Wg))]/\ ∃m,Goes P true (RLv ty Wg) DC0 (AtW3 P ty Wg gb) m g' w
def AtW2(vs:Nat)(g:Goroutine)(w:World):Prop:=
 g.status=.running/\ ∀v:Nat,v<2147483648->WgAt ty Wg w (v*KK) 0->
  (v=vs-> ∃g',stepG P true g w=.go g' (w.setCell (stA Wg) (.int .u64 (v*KK+1))) #[rd (stA Wg),wr (stA Wg)]/\ ∃m,Goes P true (RLv ty Wg) DC0 (Qg P ty Wg gb) m g' (w.setCell (stA Wg) (.int .u64 (v*KK+1))))/\
  (v≠vs-> ∃g',stepG P true g w=.go g' w #[rd (stA Wg)]/\ ∃m,Goes P true (RLv ty Wg) DC0 AnchW m g' w)
def AtW1(g:Goroutine)(w:World):Prop:=
 g.status=.running/\ ∀v:Nat,v<2147483648->WgAt ty Wg w (v*KK) 0-> ∃g',stepG P true g w=.go g' w #[rd (stA Wg)]/\
  (v=0-> ∃m,Goes P true (RLv ty Wg) DC0 (AtKe P ty Wg gb) m g' w)/\(v≠0-> ∃m,Goes P true (RLv ty Wg) DC0 (AtW2 P ty Wg gb AnchW v) m g' w)
def AtKd(g:Goroutine)(w:World):Prop:=g.status=.running/\ ∃g',stepG P true g w=.go g' w #[mk .disable]/\ ∃m,Goes P true (RLv ty Wg) DC0 AnchW m g' w
end
section
variable(P:Program)(ty:TypeId)(Wg:Nat)
def AtD4(g:Goroutine)(w:World):Prop:=
 g.status=.running/\mayWake P g=true/\(WgAt ty Wg w 0 0-> ∃g',stepG P false g w=.go g' (w.setCell (smA Wg) (.int .u32 1)) (semEvents (smA Wg))/\ ∃q,QuitsD P q 1 g')
def AtD3(g:Goroutine)(w:World):Prop:=
 g.status=.running/\(WgAt ty Wg w 1 0-> ∃g',stepG P false g w=.go g' (w.setCell (stA Wg) (.int .u64 0)) #[wr (stA Wg)]/\ ∃m,Goes P false (RLv ty Wg) DC0 (AtD4 P ty Wg) m g' (w.setCell (stA Wg) (.int .u64 0)))
def AtD2(g:Goroutine)(w:World):Prop:=g.status=.running/\(WgAt ty Wg w 1 0-> ∃g',stepG P false g w=.go g' w #[rd (stA Wg)]/\ ∃m,Goes P false (RLv ty Wg) DC0 (AtD3 P ty Wg) m g' w)
def AtD1(g:Goroutine)(w:World):Prop:=
 g.status=.running/\ ∀v M:Nat,M<=1->v<2147483647->WgAt ty Wg w ((v+1)*KK+M) 0->
  ∃g',stepG P false g w=.go g' (w.setCell (stA Wg) (.int .u64 (v*KK+M))) #[rd (stA Wg),wr (stA Wg)]/\
   ((v=0/\M=1)-> ∃m,Goes P false (RLv ty Wg) DC0 (AtD2 P ty Wg) m g' (w.setCell (stA Wg) (.int .u64 (v*KK+M))))/\(¬ (v=0/\M=1)-> ∃q,QuitsD P q 1 g')
def AtK1(g:Goroutine)(w:World):Prop:=g.status=.running/\ ∃g',stepG P false g w=.go g' w #[mk .disable]/\ ∃m,Goes P false (RLv ty Wg) DC0 (AtD1 P ty Wg) m g' w
def AtR0(g:Goroutine)(w:World):Prop:=g.status=.running/\ ∃g',stepG P false g w=.go g' w #[mk (.releaseMerge (stA Wg))]/\ ∃m,Goes P false (RLv ty Wg) DC0 (AtK1 P ty Wg) m g' w
end
def Mt(L:WgLink)(Wg:Nat)(c:Frame)(cs:List Frame)(g:Goroutine)(w:World):Prop:=
 ∃T:Array Value,g=G ((base L.wait).at ⟨T,[]⟩ [.code (L7 L),.inLoop (L7 L),.inBlock 0]) (c::cs)/\T.size=84/\T[0]?=some (w_ Wg 0)/\WgLive L.tWg Wg w
open Go.ConcN (RelBy WD CTag Vc Ssum Fsum phi cnt sumTo upd sumTo_upd upd_ne upd_same WgLive)
open Go.ConcR (KK wgBlock WgAt stA smA rd wr mk DC0 Bk)
theorem xlx{ty:TypeId}{Wg:Nat}(w:World):RLv ty Wg w w:=id
theorem xkx{ty:TypeId}{Wg:Nat}(a b c:World)(x:RLv ty Wg a b)(y:RLv ty Wg b c):RLv ty Wg a c:=fun z=>y (x z)
theorem xux{ty:TypeId}{Wg:Nat}(w:World)(d:Nat):RLv ty Wg w (w.at d):=id
section
variable(P:Program)(s:Site)(Ψ:Nat->Heap->Prop)(Kon:Goroutine->Prop)
def E3(Φ:Heap->Prop)(g:Goroutine)(h:Heap):Prop:=
 (∀w,WgLive s.ty s.Wg w-> ∃m,Goes P false (RLv s.ty s.Wg) DC0 (AtR0 P s.ty s.Wg) m g w)/\Φ h
def WC(gb:Goroutine)(AnchW:Goroutine->World->Prop):Prop:=
 (∀g w,AnchW g w->g.status=.running)/\(∀g w,AnchW g w-> ∃m,Goes P true (RLv s.ty s.Wg) DC0 (AtW1 P s.ty s.Wg gb AnchW) m g w)/\Kon gb
def Lr(g:Goroutine)(_:Heap):Prop:=
 ∃gb AnchW,WC P s Kon gb AnchW/\ ∀w,WgLive s.ty s.Wg w-> ∃m,Goes P true (RLv s.ty s.Wg) DC0 (AtKd P s.ty s.Wg AnchW) m g w
def K1(k:Nat)(M:Goroutine->Heap->Prop)(g:Goroutine)(h:Heap):Prop:=
 g.status=.running/\ ∃g' child X Z,(∀w,stepG P true g w=.spawn g' child w #[])/\(∀b∈X,Exc h b)/\(∀b∈Z,Exc h b)/\
  ∀h',Af h h'->Reach P (.own false) child (C6 Z X h') (E3 P s (Ψ k))/\M g' (C6 X Z h')
def L9(k:Nat)(M:Goroutine->Heap->Prop)(gb:Goroutine)(h:Heap):Prop:=∀h',Af h h'->Reach P (.own true) gb h' (K1 P s Ψ k M)
def Lg(k:Nat)(M:Goroutine->Heap->Prop)(g:Goroutine)(h:Heap):Prop:=
 ∃gb,(∀w,WgLive s.ty s.Wg w-> ∃m,Goes P true (RLv s.ty s.Wg) DC0 (AtKdS P s.ty s.Wg gb) m g w)/\L9 P s Ψ k M gb h
def Scr:Nat->Goroutine->Heap->Prop
 |0,g,h=>Reach P (.own true) g h (Lr P s Kon)
 |r+1,g,h=>Reach P (.own true) g h (Lg P s Ψ (1-r) (Scr r))
inductive WSx (Φ:Heap->Prop) (key:Goroutine×Heap):Nat->Bool->Nat->Nat->Goroutine->Heap->World->Prop
 |walk {g:Goroutine} {h:Heap} {w:World}:g=key.1->Af key.2 h->WSx Φ key 7 true 0 0 g h w
 |r0 {m:Nat} {g:Goroutine} {h:Heap} {w:World}:Φ h->Goes P false (RLv s.ty s.Wg) DC0 (AtR0 P s.ty s.Wg) m g w->WSx Φ key 7 false m 0 g h w
 |k1 {m:Nat} {g:Goroutine} {h:Heap} {w:World}:Φ h->Goes P false (RLv s.ty s.Wg) DC0 (AtK1 P s.ty s.Wg) m g w->WSx Φ key 6 false m 0 g h w
 |d1 {m:Nat} {g:Goroutine} {h:Heap} {w:World}:Φ h->Goes P false (RLv s.ty s.Wg) DC0 (AtD1 P s.ty s.Wg) m g w->WSx Φ key 5 false m 1 g h w
 |d2 {m:Nat} {g:Goroutine} {h:Heap} {w:World}:Φ h->Goes P false (RLv s.ty s.Wg) DC0 (AtD2 P s.ty s.Wg) m g w->WSx Φ key 4 false m 1 g h w
 |d3 {m:Nat} {g:Goroutine} {h:Heap} {w:World}:Φ h->Goes P false (RLv s.ty s.Wg) DC0 (AtD3 P s.ty s.Wg) m g w->WSx Φ key 3 false m 1 g h w
 |d4 {m:Nat} {g:Goroutine} {h:Heap} {w:World}:Φ h->Goes P false (RLv s.ty s.Wg) DC0 (AtD4 P s.ty s.Wg) m g w->WSx Φ key 2 false m 1 g h w
 |quit {q d:Nat} {g:Goroutine} {h:Heap} {w:World}:Φ h->QuitsD P q d g->WSx Φ key 1 false q d g h w
inductive Wk0 where
 |none
 |add (r:Nat)
 |go (r:Nat)
 |wait
def Hn:Wk0->Option (Goroutine->Heap->Prop)
 |.none=>.none
 |.add r=>some (Lg P s Ψ (1-r) (Scr P s Ψ Kon r))
 |.go r=>some (K1 P s Ψ (1-r) (Scr P s Ψ Kon r))
 |.wait=>some (Lr P s Kon)
def stf(w0:Wk0)(j:Nat)(wk:Nat->Bool):Nat->Option (Goroutine->Heap->Prop)
 |0=>Hn P s Ψ Kon w0
 |k+1=>if k<j/\wk k=true then some (E3 P s (Ψ k))else .none
inductive MSx (key:Goroutine×Heap):CTag->Wk0->Nat->Nat->Nat->Nat->Goroutine->Heap->World->Prop
 |wk5 {r:Nat} {g:Goroutine} {h:Heap} {w:World}:r<2->g=key.1->Af key.2 h->MSx key (.sp r 5) (.add r) 1 (1-r) 0 0 g h w
 |kd5 {r m:Nat} {gb g:Goroutine} {h:Heap} {w:World}:r<2->Goes P true (RLv s.ty s.Wg) DC0 (AtKdS P s.ty s.Wg gb) m g w->L9 P s Ψ (1-r) (Scr P s Ψ Kon r) gb h->MSx key (.sp r 5) .none 0 (1-r) m 0 g h w
 |a1 {r m:Nat} {gb g:Goroutine} {h:Heap} {w:World}:r<2->Goes P true (RLv s.ty s.Wg) DC0 (AtA1 P s.ty s.Wg gb) m g w->L9 P s Ψ (1-r) (Scr P s Ψ Kon r) gb h->MSx key (.sp r 4) .none 0 (1-r) m 1 g h w
 |rd {r m:Nat} {gb g:Goroutine} {h:Heap} {w:World}:r<2->Goes P true (RLv s.ty s.Wg) DC0 (Oy P s.ty s.Wg gb) m g w->L9 P s Ψ (1-r) (Scr P s Ψ Kon r) gb h->MSx key (.sp r 3) .none 1 (1-r) m 1 g h w
 |kes {r m:Nat} {gb g:Goroutine} {h:Heap} {w:World}:r<2->Goes P true (RLv s.ty s.Wg) DC0 (AtKeS P s.ty s.Wg gb) m g w->L9 P s Ψ (1-r) (Scr P s Ψ Kon r) gb h->MSx key (.sp r 3) .none 0 (1-r) m 1 g h w
 |bk {r m:Nat} {gb g:Goroutine} {h:Heap} {w:World}:r<2->Goes P true (RLv s.ty s.Wg) DC0 (Ko s.ty s.Wg gb) m g w->L9 P s Ψ (1-r) (Scr P s Ψ Kon r) gb h->MSx key (.sp r 2) .none 1 (1-r) m 0 g h w
 |wk2 {r:Nat} {g:Goroutine} {h:Heap} {w:World}:r<2->g=key.1->Af key.2 h->MSx key (.sp r 2) (.go r) 0 (1-r) 0 0 g h w
 |wkW {g:Goroutine} {h:Heap} {w:World}:g=key.1->Af key.2 h->MSx key .kd .wait 1 2 0 0 g h w
 |kd {m:Nat} {gb g:Goroutine} {AnchW:Goroutine->World->Prop} {h:Heap} {w:World}:WC P s Kon gb AnchW->Goes P true (RLv s.ty s.Wg) DC0 (AtKd P s.ty s.Wg AnchW) m g w->MSx key .kd .none 0 2 m 0 g h w
 |anch {m:Nat} {gb g:Goroutine} {AnchW:Goroutine->World->Prop} {h:Heap} {w:World}:WC P s Kon gb AnchW->Goes P true (RLv s.ty s.Wg) DC0 AnchW m g w->MSx key .anch .none 0 2 m 1 g h w
 |w1 {m:Nat} {gb g:Goroutine} {AnchW:Goroutine->World->Prop} {h:Heap} {w:World}:WC P s Kon gb AnchW->Goes P true (RLv s.ty s.Wg) DC0 (AtW1 P s.ty s.Wg gb AnchW) m g w->MSx key .w1 .none 0 2 m 1 g h w
 |w2 {vs m:Nat} {gb g:Goroutine} {AnchW:Goroutine->World->Prop} {h:Heap} {w:World}:WC P s Kon gb AnchW->Goes P true (RLv s.ty s.Wg) DC0 (AtW2 P s.ty s.Wg gb AnchW vs) m g w->MSx key (.w2 vs) .none 0 2 m 1 g h w
 |wr {m:Nat} {gb g:Goroutine} {h:Heap} {w:World}:Kon gb->Goes P true (RLv s.ty s.Wg) DC0 (Qg P s.ty s.Wg gb) m g w->MSx key .w3 .none 1 2 (m+1) 1 g h w
 |w3 {m:Nat} {gb g:Goroutine} {h:Heap} {w:World}:Kon gb->Goes P true (RLv s.ty s.Wg) DC0 (AtW3 P s.ty s.Wg gb) m g w->MSx key .w3 .none 0 2 (m+1) 1 g h w
 |blk {gb g:Goroutine} {h:Heap} {w:World}:Kon gb->(∀w₁,RLv s.ty s.Wg w w₁->AtW3 P s.ty s.Wg gb g w₁)->MSx key .blk .none 0 2 0 1 {g with status:=.blocked} h w
 |w4 {m:Nat} {gb g:Goroutine} {h:Heap} {w:World}:Kon gb->Goes P true (RLv s.ty s.Wg) DC0 (AtW4 P s.ty s.Wg gb) m g w->MSx key .w4 .none 0 2 m 1 g h w
 |ke {m:Nat} {gb g:Goroutine} {h:Heap} {w:World}:Kon gb->Goes P true (RLv s.ty s.Wg) DC0 (AtKe P s.ty s.Wg gb) m g w->MSx key .ke .none 0 2 m 1 g h w
 |acq {m:Nat} {gb g:Goroutine} {h:Heap} {w:World}:Kon gb->Goes P true (RLv s.ty s.Wg) DC0 (AtAcq P s.ty s.Wg gb) m g w->MSx key .acq .none 0 2 m 0 g h w
 |ret {m:Nat} {gb g:Goroutine} {h:Heap} {w:World}:Kon gb->Goes P true (RLv s.ty s.Wg) DC0 (Ko s.ty s.Wg gb) m g w->MSx key .ret .none 0 2 m 0 g h w
end
section
variable{P:Program}{s:Site}{Ψ:Nat->Heap->Prop}{Kon:Goroutine->Prop}{Φ:Heap->Prop}{key:Goroutine×Heap}{tag:CTag}{w0:Wk0}{fl j f d st m:Nat}{b:Bool}{g:Goroutine}{h h':Heap}{w w':World}
theorem E3.stay(M:∀h h',Af h h'->Φ h->Φ h')(x:E3 P s Φ g h)(k:Af h h'):E3 P s Φ g h':=⟨x.1,M _ _ k x.2⟩
theorem Exc.stay{i:Nat}(x:Exc h i)(k:Af h h'):Exc h' i:=by
 obtain⟨c,e,M,hc⟩:=x;exact⟨c,e,(k.Cq i (Array.getElem?_eq_some_iff.1 M).1).trans M,hc⟩
theorem L9.stay{k:Nat}{M:Goroutine->Heap->Prop}(x:L9 P s Ψ k M g h)(y:Af h h'):L9 P s Ψ k M g h':=fun O z=>x O (y.trans z)
theorem K1.stay{k:Nat}{M:Goroutine->Heap->Prop}(x:K1 P s Ψ k M g h)(y:Af h h'):K1 P s Ψ k M g h':=by
 obtain⟨r,g',child,X,Z,a,b,c,d⟩:=x;exact⟨r,g',child,X,Z,a,fun i hi=>(b i hi).stay y,fun i hi=>(c i hi).stay y,fun O z=>d O (y.trans z)⟩
theorem WSx.rely(M:∀h h',Af h h'->Φ h->Φ h')(x:WSx P s Φ key st b m d g h w)(r:RLv s.ty s.Wg w w')(k:Af h h'):WSx P s Φ key st b m d g h' w':=by
 cases x with
 |walk a c=>exact .walk a (c.trans k)
 |r0 a c=>exact .r0 (M _ _ k a) (Goes.rely xkx c r)
 |k1 a c=>exact .k1 (M _ _ k a) (Goes.rely xkx c r)
 |d1 a c=>exact .d1 (M _ _ k a) (Goes.rely xkx c r)
 |d2 a c=>exact .d2 (M _ _ k a) (Goes.rely xkx c r)
 |d3 a c=>exact .d3 (M _ _ k a) (Goes.rely xkx c r)
 |d4 a c=>exact .d4 (M _ _ k a) (Goes.rely xkx c r)
 |quit a c=>exact .quit (M _ _ k a) c
theorem xhk{b:Bool}{Stop:Goroutine->Heap->Prop}(hs:∀g h,Stop g h->g.status=.running)(x:Reach P (.own b) g h Stop):g.status=.running:=
 x (fun g _=>g.status=.running) hs fun _ _ o=>o.1
theorem E3.running(O:∃w,WgLive s.ty s.Wg w)(x:E3 P s Φ g h):g.status=.running:=by
 obtain⟨w,hw⟩:=O;obtain⟨m,M⟩:=x.1 w hw;exact Goes.running (fun _ _ x=>x.1) w (xlx w) M
theorem WSx.status(O:WgLive s.ty s.Wg w)(M:b=true->Reach P (.own false) key.1 key.2 (E3 P s Φ))(x:WSx P s Φ key st b m d g h w):g.status=.running\/(g.status=.finished/\st=1):=by
 cases x with
 |walk a c=>subst a;exact .inl (xhk (fun _ _ z=>z.running ⟨w,O⟩) (M rfl))
 |r0 a c=>exact .inl (Goes.running (fun _ _ x=>x.1) w (xlx w) c)
 |k1 a c=>exact .inl (Goes.running (fun _ _ x=>x.1) w (xlx w) c)
 |d1 a c=>exact .inl (Goes.running (fun _ _ x=>x.1) w (xlx w) c)
 |d2 a c=>exact .inl (Goes.running (fun _ _ x=>x.1) w (xlx w) c)
 |d3 a c=>exact .inl (Goes.running (fun _ _ x=>x.1) w (xlx w) c)
 |d4 a c=>exact .inl (Goes.running (fun _ _ x=>x.1) w (xlx w) c)
 |quit a c=>exact c.status.imp id fun z=>⟨z,rfl⟩
theorem WSx.woken(O:WgLive s.ty s.Wg w)(M:b=true->Reach P (.own false) key.1 key.2 (E3 P s Φ))(x:WSx P s Φ key st b m d g h w)(a a':Goroutine)(w':World):woken P a a' w' g=g:=by
 unfold Go.Conc.woken;split
 ·exact again_running _ ((x.status O M).imp id fun z=>z.1)
 ·rfl
theorem MSx.rely(x:MSx P s Ψ Kon key tag w0 fl j f d g h w)(r:RLv s.ty s.Wg w w')(k:Af h h'):MSx P s Ψ Kon key tag w0 fl j f d g h' w':=by
 cases x with
 |wk5 a c e=>exact .wk5 a c (e.trans k)
 |kd5 a c e=>exact .kd5 a (Goes.rely xkx c r) (e.stay k)
 |a1 a c e=>exact .a1 a (Goes.rely xkx c r) (e.stay k)
 |rd a c e=>exact .rd a (Goes.rely xkx c r) (e.stay k)
 |kes a c e=>exact .kes a (Goes.rely xkx c r) (e.stay k)
 |bk a c e=>exact .bk a (Goes.rely xkx c r) (e.stay k)
 |wk2 a c e=>exact .wk2 a c (e.trans k)
 |wkW c e=>exact .wkW c (e.trans k)
 |kd a c=>exact .kd a (Goes.rely xkx c r)
 |anch a c=>exact .anch a (Goes.rely xkx c r)
 |w1 a c=>exact .w1 a (Goes.rely xkx c r)
 |w2 a c=>exact .w2 a (Goes.rely xkx c r)
 |wr a c=>exact .wr a (Goes.rely xkx c r)
 |w3 a c=>exact .w3 a (Goes.rely xkx c r)
 |blk a c=>exact .blk a fun M O=>c M (xkx _ _ _ r O)
 |w4 a c=>exact .w4 a (Goes.rely xkx c r)
 |ke a c=>exact .ke a (Goes.rely xkx c r)
 |acq a c=>exact .acq a (Goes.rely xkx c r)
 |ret a c=>exact .ret a (Goes.rely xkx c r)
theorem MSx.status(hl:WgLive s.ty s.Wg w)(M:∀gb,Kon gb->gb.status=.running)(hk:∀S,Hn P s Ψ Kon w0=some S->Reach P (.own true) key.1 key.2 S)(x:MSx P s Ψ Kon key tag w0 fl j f d g h w):(g.status=.running/\tag≠.blk)\/(g.status=.blocked/\tag=.blk):=by
 have hb:∀{r:Nat}{gb:Goroutine}{h:Heap},L9 P s Ψ (1-r) (Scr P s Ψ Kon r) gb h->gb.status=.running:=fun c=>xhk (fun _ _ z=>z.1) (c _ (.refl _));cases x with
 |wk5 a c e=>
   subst c;refine .inl ⟨xhk (fun g h z=>?_) (hk _ rfl),s_⟩;obtain⟨gb,z,_⟩:=z;obtain⟨m,O⟩:=z w hl;exact Goes.running (fun _ _ x=>x.1) w (xlx w) O
 |kd5 a c e=>exact .inl ⟨Goes.running (fun _ _ x=>x.1) w (xlx w) c,s_⟩
 |a1 a c e=>exact .inl ⟨Goes.running (fun _ _ x=>x.1) w (xlx w) c,s_⟩
 |rd a c e=>exact .inl ⟨Goes.running (fun _ _ x=>x.1) w (xlx w) c,s_⟩
 |kes a c e=>exact .inl ⟨Goes.running (fun _ _ x=>x.1) w (xlx w) c,s_⟩
 |bk a c e=>exact .inl ⟨Goes.running (fun _ _ x=>by rw[x.1];exact hb e) w (xlx w) c,s_⟩
 |wk2 a c e=>subst c;exact .inl ⟨xhk (fun _ _ z=>z.1) (hk _ rfl),s_⟩
 |wkW c e=>
   subst c;refine .inl ⟨xhk (fun g h z=>?_) (hk _ rfl),s_⟩;obtain⟨gb,An,_,z⟩:=z;obtain⟨m,O⟩:=z w hl;exact Goes.running (fun _ _ x=>x.1) w (xlx w) O
 |kd a c=>exact .inl ⟨Goes.running (fun _ _ x=>x.1) w (xlx w) c,s_⟩
 |anch a c=>exact .inl ⟨Goes.running a.1 w (xlx w) c,s_⟩
 |w1 a c=>exact .inl ⟨Goes.running (fun _ _ x=>x.1) w (xlx w) c,s_⟩
 |w2 a c=>exact .inl ⟨Goes.running (fun _ _ x=>x.1) w (xlx w) c,s_⟩
 |wr a c=>exact .inl ⟨Goes.running (fun _ _ x=>x.1) w (xlx w) c,s_⟩
 |w3 a c=>exact .inl ⟨Goes.running (fun _ _ x=>x.1) w (xlx w) c,s_⟩
 |blk a c=>exact .inr ⟨rfl,rfl⟩
 |w4 a c=>exact .inl ⟨Goes.running (fun _ _ x=>x.1) w (xlx w) c,s_⟩
 |ke a c=>exact .inl ⟨Goes.running (fun _ _ x=>x.1) w (xlx w) c,s_⟩
 |acq a c=>exact .inl ⟨Goes.running (fun _ _ x=>x.1) w (xlx w) c,s_⟩
 |ret a c=>exact .inl ⟨Goes.running (fun _ _ x=>by rw[x.1];exact M _ a) w (xlx w) c,s_⟩
theorem MSx.wokenBy(hl:WgLive s.ty s.Wg w)(O:∀gb,Kon gb->gb.status=.running)(hk:∀S,Hn P s Ψ Kon w0=some S->Reach P (.own true) key.1 key.2 S)(x:MSx P s Ψ Kon key tag w0 fl j f d g h w)(r:RLv s.ty s.Wg w w')(k:Af h h')(a a':Goroutine):
 ∃M f',MSx P s Ψ Kon key M w0 fl j f' d (woken P a a' w' g) h' w'/\f'<=f+1/\(M=tag\/(tag=.blk/\M=.w3))/\(mayWake P a=true->a'.status=.running->M≠.blk):=by
 have x':=x.rely r k;unfold Go.Conc.woken;split
 ·rcases x'.status (r hl) O hk with⟨hs,a2⟩|⟨_,rfl⟩
  ·exact⟨tag,f,by rw[again_running _ (.inl hs)];exact x',om,.inl rfl,fun _ _=>a2⟩
  ·cases x' with
   |blk hb1 hb=>
     have h3:=hb w' (xlx w');exact⟨.w3,0+1,by rw[Go.ConcR.again_blocked h3.1 h3.2.1];exact .w3 hb1 (Goes.stop hb),om,.inr ⟨rfl,rfl⟩,fun _ _=>by simp⟩
 ·rename_i hc;exact⟨tag,f,x',om,.inl rfl,fun h1 h2=>absurd (by simp[h1,h2]) hc⟩
end
section
variable(P:Program)(s:Site)(Ψ:Nat->Heap->Prop)(Kon:Goroutine->Prop)
def Joined(hw:Nat->Heap)(he:Heap):Prop:=
 s.z9.size<=he.size/\(∀b,s.Old b->he[b]?=s.z9[b]?)/\(∀k,k<2->Ψ k (hw k)/\ ∀b,Exc (hw k) b->he[b]?=(hw k)[b]?/\(b<s.z9.size->b∈s.Z))/\ ∀b,Exc (hw 0) b-> ¬ Exc (hw 1) b
def Fin(gs:Array Goroutine)(w:World)(sl:Option (Nat×Nat))(t:Trace):Prop:=
 ∃(N:Nat)(S':Nat->Prop)(M:Array Goroutine)(w':World)(O:Option (Nat×Nat))(t':Trace)(q':Nat->Nat)(gb:Goroutine)(he:Heap)(hw:Nat->Heap),
  runNT P N (crowd gs w sl) t=(.next (crowd M w' O),t')/\Hl P S' M w' t' q' gb he/\Kon gb/\Joined s Ψ hw he/\Quiet (.of s.S) w w'/\ ∀b,s.S b->S' b
structure Ct(w0:Wk0)(j:Nat)(wk:Nat->Bool)(c:Nat->Goroutine×Heap)(V:Nat->Vw)(hv:Nat->Heap)(g:Nat->Goroutine)(dd q:Nat->Nat)(D:Nat->WD)(tag:CTag)(fl f0:Nat)(st sm:Int)
 (gs:Array Goroutine)(w:World)(t:Trace):Prop where
 Dr:G7 s P j V hv g dd q gs w t
 main:MSx P s Ψ Kon (c 0) tag w0 fl j f0 (dd 0) (g 0) (hv 0) w
 work:∀k,k<j->WSx P s (Ψ k) (c (k+1)) (D k).stage (wk k) (D k).fuel (dd (k+1)) (g (k+1)) (hv (k+1)) w
 rel:∀k,k<j->(D k).stage<=6-> ∃r,s.q8<=r/\RelBy (stA s.Wg) t (s.p+k) r
 wg:WgAt s.ty s.Wg w st sm
 mode:Go.ConcN.Mode j D tag st sm
 acq:tag=.ret->Fv s.Wg s.q8 s.p j t
def Be(j:Nat)(wk:Nat->Bool):Nat:=sumTo j fun k=>if wk k then 1 else 0
def Eg(tag:CTag)(fl j:Nat)(wk:Nat->Bool)(D:Nat->WD):Nat:=4*(phi 2 (Vc j D) tag+Ssum j D)+fl+Be j wk
def fuel(p M j:Nat)(D:Nat->WD)(q:Nat->Nat):Nat:=M+2*Fsum j D+2*sumTo p q
def Hk(M:Nat)(w0:Wk0)(j:Nat)(wk:Nat->Bool)(c:Nat->Goroutine×Heap)(μ:Nat)(gs:Array Goroutine)(w:World)(t:Trace):Prop:=
 ∃V hv g dd q D tag fl O st sm,Ct P s Ψ Kon w0 j wk c V hv g dd q D tag fl O st sm gs w t/\Eg tag fl j wk D=M/\fuel s.p O j D q=μ
def F6(M μ:Nat)(w0:Wk0)(j:Nat)(wk:Nat->Bool)(c:Nat->Goroutine×Heap)(gs:Array Goroutine)(w:World)(t:Trace):Prop:=
 (∃M' w0' j' wk' c' μ',M'<M/\(∀k,RK (stf P s Ψ Kon w0' j' wk') P k (c' k))/\Hk P s Ψ Kon M' w0' j' wk' c' μ' gs w t)\/ ∃μ',μ'<μ/\Hk P s Ψ Kon M w0 j wk c μ' gs w t
end
section
variable{P:Program}{s:Site}{Ψ:Nat->Heap->Prop}{Kon:Goroutine->Prop}{w0:Wk0}{j:Nat}{wk:Nat->Bool}{c:Nat->Goroutine×Heap}{V:Nat->Vw}{hv:Nat->Heap}{g:Nat->Goroutine}{dd q:Nat->Nat}{D:Nat->WD}
 {tag:CTag}{fl f0:Nat}{st sm:Int}{gs:Array Goroutine}{w w':World}{t:Trace}{M μ:Nat}{sl:Option (Nat×Nat)}
theorem MSx.le{key:Goroutine×Heap}{f d:Nat}{g:Goroutine}{h:Heap}(x:MSx P s Ψ Kon key tag w0 fl j f d g h w):j<=2/\fl<=1/\(j+Go.ConcN.pend tag<=2):=by
 cases x<;>simp only[Go.ConcN.pend]<;>(try simp)<;>omega
theorem xip(j:Nat)(wk:Nat->Bool):Be j wk<=j:=by
 have:=Go.ConcN.sumTo_le (f:=fun k=>if wk k then 1 else 0) (c:=1) (j:=j) fun i _=>by split<;>omega
 simpa[Be]using this
theorem G7.draw(C:G7 s P j V hv g dd q gs w t)(d:Nat):G7 s P j V hv g dd q gs (w.at d) t:=
 ⟨C.pos,C.size,C.at',C.lv,C.above,C.Gy,C.apart,C.dis,C.wgd,C.old,C.Mc,C.sd,C.M5,C.ti,C.deaf⟩
theorem Ct.draw(M:∀k h h',Af h h'->Ψ k h->Ψ k h')(I:Ct P s Ψ Kon w0 j wk c V hv g dd q D tag fl f0 st sm gs w t)(d:Nat):Ct P s Ψ Kon w0 j wk c V hv g dd q D tag fl f0 st sm gs (w.at d) t:=
 ⟨I.Dr.draw d,I.main.rely (xux w d) (.refl _),fun k O=>(I.work k O).rely (M k) (xux w d) (.refl _),I.rel,I.wg,I.mode,I.acq⟩
theorem xd5{M:Array Goroutine}{O:Option (Nat×Nat)}{ops:Trace}(h:stepT P (crowd gs w sl)=(.next (crowd M w' O),ops))(hc:Quiet (.of s.S) w w')(x:Fin P s Ψ Kon M w' O (t++ops)):Fin P s Ψ Kon gs w sl t:=by
 obtain⟨N,S',a2,w2,a3,t2,q2,gb,he,hw,a,b,e,f,i,k⟩:=x;exact⟨N+1,S',a2,w2,a3,t2,q2,gb,he,hw,by simp only[runNT,h];exact a,b,e,f,hc.trans i,k⟩
theorem Fv.app{u:Trace}{Wg q8 p:Nat}(h:Fv Wg q8 p j t)(hu:∀k r,k<j->RelBy (stA Wg) t (p+k) r->RelBy (stA Wg) (t++u) (p+k) r):Fv Wg q8 p j (t++u):=by
 obtain⟨q,h1,h2,h3,h4⟩:=h;have M:=lt_of_act? h1;exact⟨q,by rw[act?_old M];exact h1,by rw[g?_old M];exact h2,(heard_old M).2 h3,fun k O=>let⟨r,hr0,hr,hrq⟩:=h4 k O;⟨r,hr0,hu k r O hr,hrq⟩⟩
def BkX(Wg k:Nat)(e:Event):Prop:=Bk Wg e\/e=mk (.acquire (stA Wg))\/e=mk (.releaseMerge (stA Wg))\/(k=0/\(e=mk (.read (smA Wg))\/e=mk (.write (smA Wg))))
theorem BkX.ok{Wg k B:Nat}{e:Event}(h:BkX Wg k e)(O:Wg<B):
 (∀x,(MemAct.ofEvent e).touch?=some x->(∃a:Addr,x.loc=.cell a/\a.block=Wg)/\x.kind≠.plain/\(x.kind=.said->k=0))/\(MemAct.ofEvent e).low B/\MemAct.ofEvent e≠.mark (.release (stA Wg)):=by
 rcases h with(h|h|⟨a,wr,rfl,ha⟩)|rfl|rfl|⟨hk,rfl|rfl⟩
 ·obtain⟨loc,wr,sy⟩:=e;simp only at h;subst h;exact⟨by intro x M;simp[MemAct.ofEvent,MemAct.touch?]at M,trivial,by simp[MemAct.ofEvent]⟩
 ·obtain⟨loc,wr,sy⟩:=e;simp only at h;subst h;exact⟨by intro x M;simp[MemAct.ofEvent,MemAct.touch?]at M,trivial,by simp[MemAct.ofEvent]⟩
 ·refine⟨fun x M=>?_,?_,by simp[MemAct.ofEvent]⟩
  ·simp[MemAct.ofEvent,MemAct.touch?]at M;subst M;exact⟨⟨a,rfl,ha⟩,s_,s_⟩
  ·show a.block<B;omega
 ·exact⟨by intro x M;simp[mk,MemAct.ofEvent,MemAct.touch?]at M,O,by simp[mk,MemAct.ofEvent]⟩
 ·exact⟨by intro x M;simp[mk,MemAct.ofEvent,MemAct.touch?]at M,O,by simp[mk,MemAct.ofEvent]⟩
 ·refine⟨fun x M=>?_,O,by simp[mk,MemAct.ofEvent]⟩;simp[mk,MemAct.ofEvent,MemAct.touch?]at M;subst M;exact⟨⟨_,rfl,rfl⟩,s_,fun _=>hk⟩
 ·refine⟨fun x M=>?_,O,by simp[mk,MemAct.ofEvent]⟩;simp[mk,MemAct.ofEvent,MemAct.touch?]at M;subst M;exact⟨⟨_,rfl,rfl⟩,s_,fun _=>hk⟩
theorem Ct.lt(I:Ct P s Ψ Kon w0 j wk c V hv g dd q D tag fl f0 st sm gs w t):s.Wg<w.heap.size:=(Array.getElem?_eq_some_iff.1 I.wg).1
theorem Ct.live(I:Ct P s Ψ Kon w0 j wk c V hv g dd q D tag fl f0 st sm gs w t):WgLive s.ty s.Wg w:=⟨_,_,I.wg⟩
theorem xvf(M:∀k,RK (stf P s Ψ Kon w0 j wk) P k (c k)){k:Nat}(O:k<j):wk k=true->Reach P (.own false) (c (k+1)).1 (c (k+1)).2 (E3 P s (Ψ k)):=
 fun h=>M (k+1) _ (by simp[stf,O,h])
theorem xkl(M:∀k,RK (stf P s Ψ Kon w0 j wk) P k (c k)):∀S,Hn P s Ψ Kon w0=some S->Reach P (.own true) (c 0).1 (c 0).2 S:=fun S h=>M 0 S h
theorem xuh(b7:∀k h h',Af h h'->Ψ k h->Ψ k h')(b5:∀gb,Kon gb->gb.status=.running)(hR:∀k,RK (stf P s Ψ Kon w0 j wk) P k (c k))(I:Ct P s Ψ Kon w0 j wk c V hv g dd q D tag fl f0 st sm gs w t){k:Nat}(hk:k<j)(c2:wk k=false)
 {a':Goroutine}{es:Array Event}{s' m' d':Nat}{a4 a3:Int}{fn:FuncId}{pos:String}(a8:Aside s.Wg w w')(a6:∀e∈es,BkX s.Wg (k+1) e)
 (b8:WSx P s (Ψ k) (c (k+1)) s' false m' d' a' (hv (k+1)) w')(c3:deafBehind (dd (k+1)) es=d')
 (b3:s'<=6-> ∃r,s.q8<=r/\RelBy (stA s.Wg) (t++MemOp.ofEvents (s.p+k) fn pos es) (s.p+k) r)(b0:WgAt s.ty s.Wg w' a4 a3)
 (a7:∀M,(M=tag\/(tag=.blk/\M=.w3))->(mayWake P (g (k+1))=true->a'.status=.running->M≠.blk)->Go.ConcN.Mode j (upd D k ⟨s',m',0⟩) M a4 a3)
 (a9:tag=.ret->Fv s.Wg s.q8 s.p j (t++MemOp.ofEvents (s.p+k) fn pos es))
 (c1:(s'<(D k).stage/\cnt ⟨s',m',0⟩<=cnt (D k))\/(s'=(D k).stage/\m'+1=(D k).fuel)):
 F6 P s Ψ Kon (Eg tag fl j wk D) (fuel s.p f0 j D q) w0 j wk c ((gs.map (woken P (g (k+1)) a' w')).setIfInBounds (s.p+k) a') w' (t++MemOp.ofEvents (s.p+k) fn pos es):=by
 have b4:RLv s.ty s.Wg w w':=fun _=>⟨_,_,b0⟩
 obtain⟨M,f',b6,d0,O,a5⟩:=I.main.wokenBy I.live b5 (xkl hR) b4 (.refl _) (g (k+1)) a';have C':=I.Dr.book (k:=k+1) (a':=a') (fn:=fn) (pos:=pos) om a8.size a8.block (fun e he=>((a6 e he).ok I.lt).1) (fun e he=>((a6 e he).ok I.lt).2.1) fun e he=>((a6 e he).ok I.lt).2.2;have hN:Ct P s Ψ Kon w0 j wk c V hv (wok P (g (k+1)) a' w' (k+1) g) (upd dd (k+1) (deafBehind (dd (k+1)) es)) q (upd D k ⟨s',m',0⟩) M fl f' a4 a3 ((gs.map (woken P (g (k+1)) a' w')).setIfInBounds (s.p+k) a') w' (t++MemOp.ofEvents (s.p+k) fn pos es):=by
  refine⟨C',?_,fun m hm=>?_,fun m hm a2=>?_,b0,a7 M O a5,fun e=>?_⟩
  ·have e0:wok P (g (k+1)) a' w' (k+1) g 0=woken P (g (k+1)) a' w' (g 0):=by unfold wok;rw[upd_ne _ _ om]
   rw[e0,upd_ne _ _ (by omega:(0:Nat)≠k+1)];exact b6
  ·by_cases e:m=k
   ·subst e;have e1:wok P (g (m+1)) a' w' (m+1) g (m+1)=a':=by unfold wok;rw[upd_same]
    rw[e1,upd_same,upd_same,c2,c3];exact b8
   ·have e1:wok P (g (k+1)) a' w' (k+1) g (m+1)=g (m+1):=by
     unfold wok;rw[upd_ne _ _ om];exact(I.work m hm).woken I.live (xvf hR hm) _ _ _
    rw[e1,upd_ne _ _ (by omega:m+1≠k+1),upd_ne _ _ e];exact(I.work m hm).rely (b7 m) b4 (.refl _)
  ·by_cases e:m=k
   ·subst e;rw[upd_same]at a2;exact b3 a2
   ·rw[upd_ne _ _ e]at a2;obtain⟨r,b9,hr⟩:=I.rel m hm a2;exact⟨r,b9,hr.appOther xoc om⟩
  ·rcases O with rfl|⟨_,rfl⟩
   ·exact a9 e
   ·cases e
 have e1:=sumTo_upd D (⟨s',m',0⟩:WD) cnt hk;have e2:=sumTo_upd D (⟨s',m',0⟩:WD) WD.stage hk;have e3:=sumTo_upd D (⟨s',m',0⟩:WD) WD.fuel hk;have hw:=xip j wk;have hl:=I.main.le;rcases c1 with⟨h1,h2⟩|⟨h1,h2⟩
 ·refine .inl ⟨_,w0,j,wk,c,_,?_,hR,_,_,_,_,_,_,_,_,_,_,_,hN,rfl,rfl⟩;simp only[Eg];rw[Go.ConcN.phi_retag 2 _ O];simp only[Vc,Ssum]at*;have:=Go.ConcN.phi_mono 2 (v':=sumTo j fun a=>cnt (upd D k ⟨s',m',0⟩ a)) (v:=sumTo j fun a=>cnt (D a)) om tag;omega
 ·have ec:cnt (⟨s',m',0⟩:WD)=cnt (D k):=by simp only[cnt,h1]
  have ev:Vc j (upd D k ⟨s',m',0⟩)=Vc j D:=by simp only[Vc]at *;omega
  have es':Ssum j (upd D k ⟨s',m',0⟩)=Ssum j D:=by simp only[Ssum]at *;omega
  refine .inr ⟨_,?_,_,_,_,_,_,_,_,_,_,_,_,hN,?_,rfl⟩
  ·simp only[fuel,Fsum]at*;omega
  ·simp only[Eg];rw[Go.ConcN.phi_retag 2 _ O,ev,es']
theorem ylx(b3:∀k h h',Af h h'->Ψ k h->Ψ k h')(hR:∀k,RK (stf P s Ψ Kon w0 j wk) P k (c k))(I:Ct P s Ψ Kon w0 j wk c V hv g dd q D tag fl f0 st sm gs w t)
 {a':Goroutine}{es:Array Event}{M:CTag}{O f':Nat}{w0':Wk0}{c0:Goroutine×Heap}{a2 a4:Int}{fn:FuncId}{pos:String}(a9:Aside s.Wg w w')(a3:∀e∈es,BkX s.Wg 0 e)
 (a8:MSx P s Ψ Kon c0 M w0' O j f' (deafBehind (dd 0) es) a' (hv 0) w')(h0:∀S,Hn P s Ψ Kon w0'=some S->Reach P (.own true) c0.1 c0.2 S)(b0:WgAt s.ty s.Wg w' a2 a4)(a5:Go.ConcN.Mode j D M a2 a4)
 (a6:M=.ret->Fv s.Wg s.q8 s.p j (t++MemOp.ofEvents 0 fn pos es))
 (b6:phi 2 (Vc j D) M<phi 2 (Vc j D) tag\/(phi 2 (Vc j D) M=phi 2 (Vc j D) tag/\O<fl)\/(phi 2 (Vc j D) M=phi 2 (Vc j D) tag/\O=fl/\f'<f0/\w0'=w0/\c0=c 0)):
 F6 P s Ψ Kon (Eg tag fl j wk D) (fuel s.p f0 j D q) w0 j wk c ((gs.map (woken P (g 0) a' w')).setIfInBounds 0 a') w' (t++MemOp.ofEvents 0 fn pos es):=by
 have b7:RLv s.ty s.Wg w w':=fun _=>⟨_,_,b0⟩
 have C':=I.Dr.book (k:=0) (a':=a') (fn:=fn) (pos:=pos) (Nat.zero_le _) a9.size a9.block (fun e he=>((a3 e he).ok I.lt).1) (fun e he=>((a3 e he).ok I.lt).2.1) fun e he=>((a3 e he).ok I.lt).2.2;have hN:Ct P s Ψ Kon w0' j wk (upd c 0 c0) V hv (wok P (g 0) a' w' 0 g) (upd dd 0 (deafBehind (dd 0) es)) q D M O f' a2 a4 ((gs.map (woken P (g 0) a' w')).setIfInBounds 0 a') w' (t++MemOp.ofEvents 0 fn pos es):=by
  refine⟨C',?_,fun m hm=>?_,fun m hm b4=>?_,b0,a5,a6⟩
  ·have e0:wok P (g 0) a' w' 0 g 0=a':=by unfold wok;rw[upd_same]
   rw[e0,upd_same,upd_same];exact a8
  ·have e1:wok P (g 0) a' w' 0 g (m+1)=g (m+1):=by
    unfold wok;rw[upd_ne _ _ om];exact(I.work m hm).woken I.live (xvf hR hm) _ _ _
   rw[e1,upd_ne _ _ (by omega:m+1≠0),upd_ne _ _ (by omega:m+1≠0)];exact(I.work m hm).rely (b3 m) b7 (.refl _)
  ·obtain⟨r,b5,hr⟩:=I.rel m hm b4;exact⟨r,b5,hr.appOther xoc (by have:=I.Dr.pos;omega)⟩
 have a7:∀k,RK (stf P s Ψ Kon w0' j wk) P k (upd c 0 c0 k):=fun k=>by
  cases k with
  |zero=>rw[upd_same];exact h0
  |succ k=>rw[upd_ne _ _ (by omega:k+1≠0)];exact hR (k+1)
 have hw:=xip j wk;have hl:=I.main.le;have b8:=a8.le;rcases b6 with h1|⟨h1,h2⟩|⟨h1,h2,h3,h4,h5⟩
 ·refine .inl ⟨_,w0',j,wk,_,_,?_,a7,_,_,_,_,_,_,_,_,_,_,_,hN,rfl,rfl⟩;simp only[Eg];omega
 ·refine .inl ⟨_,w0',j,wk,_,_,?_,a7,_,_,_,_,_,_,_,_,_,_,_,hN,rfl,rfl⟩;simp only[Eg];omega
 ·subst h2;subst h4;subst h5;have ec:upd c 0 (c 0)=c:=by funext k;unfold upd;split<;>simp_all
  rw[ec]at hN;exact .inr ⟨_,by simp only[fuel];omega,_,_,_,_,_,_,_,_,_,_,_,hN,by simp only[Eg,h1],rfl⟩
end
open Go.ConcN (RelBy WD CTag Vc Ssum Fsum phi cnt pend sumTo upd sumTo_upd upd_ne upd_same WgLive isW3 isFin isOpen OpenSt AllQuit bk_dis bk_en bk_rd bk_rw bk_sem bk_cell Vc_upd Vc_le others_uncounted le_sumTo allQuit_of)
open Go.ConcR (KK wgBlock WgAt stA smA rd wr mk DC0 Bk bk_of_mute ofEvent_loc_mark ofEvent_mk)
theorem xom{S:Nat->Prop}{b:Nat}{w w':World}(M:¬ S b)(h:Aside b w w'):Quiet (.of S) w w':=⟨⟨h.os,h.tape,h.output,by rw[h.size];exact Nat.le_refl _⟩,fun k _ y=>h.block k fun e=>M (e ▸ y.elim id fun z=>z.elim)⟩
theorem bkx{Wg k:Nat}{es:Array Event}(h:∀e∈es,Bk Wg e):∀e∈es,BkX Wg k e:=fun e he=>.inl (h e he)
section
variable{P:Program}{s:Site}{Ψ:Nat->Heap->Prop}{Kon:Goroutine->Prop}{w0:Wk0}{j:Nat}{wk:Nat->Bool}{c:Nat->Goroutine×Heap}{V:Nat->Vw}{hv:Nat->Heap}{g:Nat->Goroutine}{dd q:Nat->Nat}{D:Nat->WD}
 {tag:CTag}{fl f0:Nat}{st sm:Int}{gs:Array Goroutine}{w w':World}{t:Trace}{M μ:Nat}{sl:Option (Nat×Nat)}
def Ld(P:Program)(s:Site)(Ψ:Nat->Heap->Prop)(Kon:Goroutine->Prop)(M μ:Nat)(w0:Wk0)(j:Nat)(wk:Nat->Bool)(c:Nat->Goroutine×Heap)(gs:Array Goroutine)(w:World)(t:Trace)(i:Nat)(a:Goroutine):Prop:=
 ∀d,∃a' w' es,stepG P (i==0) a (w.at d)=.go a' w' es/\Quiet (.of s.S) (w.at d) w'/\ ∀fn pos,F6 P s Ψ Kon M μ w0 j wk c ((gs.map (woken P a a' w')).setIfInBounds i a') w' (t++MemOp.ofEvents i fn pos es)
set_option maxHeartbeats 1600000 in
theorem yhw(e7:¬ s.S s.Wg)(c1:∀k h h',Af h h'->Ψ k h->Ψ k h')(hR:∀k,RK (stf P s Ψ Kon w0 j wk) P k (c k))(I:Ct P s Ψ Kon w0 j wk c V hv g dd q D tag fl f0 st sm gs w t)(b4:(g 0).status=.running)(e6:w0=.none):
 Ld P s Ψ Kon (Eg tag fl j wk D) (fuel s.p f0 j D q) w0 j wk c gs w t 0 (g 0)\/F6 P s Ψ Kon (Eg tag fl j wk D) (fuel s.p f0 j D q) w0 j wk c gs w t\/(tag=.ret/\j=2/\Kon (g 0)):=by
 subst e6;have hm:=I.main;have M:=I.mode;have a2:=I.wg;have f1:=Vc_le j D;generalize hd:dd 0=d0 at hm;generalize hg:g 0=g0 at hm b4⊢;generalize hc:c 0=c0 at hm;generalize hh:hv 0=h0 at hm
 have go:∀(d:Nat){a':Goroutine}{w':World}{es:Array Event}{a6:CTag}{b0 f':Nat}{b6 b9:Int},stepG P true g0 (w.at d)=.go a' w' es->Aside s.Wg (w.at d) w'->(∀e∈es,BkX s.Wg 0 e)->MSx P s Ψ Kon c0 a6 .none b0 j f' (deafBehind d0 es) a' h0 w'->
  WgAt s.ty s.Wg w' b6 b9->Go.ConcN.Mode j D a6 b6 b9->(a6=.ret-> ∀fn pos,Fv s.Wg s.q8 s.p j (t++MemOp.ofEvents 0 fn pos es))->
  (phi 2 (Vc j D) a6<phi 2 (Vc j D) tag\/(phi 2 (Vc j D) a6=phi 2 (Vc j D) tag/\b0<fl)\/(phi 2 (Vc j D) a6=phi 2 (Vc j D) tag/\b0=fl/\f'<f0))->
  ∃a' w' es,stepG P (0==0) g0 (w.at d)=.go a' w' es/\Quiet (.of s.S) (w.at d) w'/\ ∀fn pos,F6 P s Ψ Kon (Eg tag fl j wk D) (fuel s.p f0 j D q) .none j wk c ((gs.map (woken P g0 a' w')).setIfInBounds 0 a') w' (t++MemOp.ofEvents 0 fn pos es):=by
  intro d a' w' es a6 b0 f' b6 b9 O d5 e3 e0 a5 a9 d6 e5;refine⟨a',w',es,O,xom e7 d5,fun fn pos=>?_⟩
  have:=ylx (fn:=fn) (pos:=pos) (a':=a') (w0':=.none) (c0:=c 0) c1 hR (I.draw c1 d) d5 e3 (by rw[hd,hc,hh];exact e0) (fun S hS=>by cases hS) a5 a9 (fun e=>d6 e fn pos)
   (e5.imp id (Or.imp id fun⟨x,y,z⟩=>⟨x,y,z,rfl,rfl⟩))
  rw[hg]at this;exact this
 have nr:tag≠.ret-> ∀d,tag=.ret-> ∀fn pos,Fv s.Wg s.q8 s.p j (t++MemOp.ofEvents 0 fn pos d):=fun h _ e=>absurd e h;cases hm with
 |kd5 hr h e=>
   rcases Goes.cases h with hstop|⟨m',rfl,hstep⟩
   ·refine .inl fun d=>?_;obtain⟨_,a',O,a4,hk⟩:=hstop (w.at d) (xux w d);exact go d O (.refl _ _) (bkx bk_dis) (.a1 hr hk e) a2 (M.reopen trivial trivial rfl s_) s_ (.inl (by simp only[phi];omega))
   ·refine .inl fun d=>?_;obtain⟨a',w',es,O,⟨rfl,rfl⟩,a3⟩:=hstep (w.at d) (xux w d);exact go d O (.refl _ _) s_ (.kd5 hr a3 e) a2 M (nr s_ _) (.inr (.inr ⟨rfl,rfl,om⟩))
 |a1 hr h e=>
   rename_i r gb;rcases Goes.cases h with hstop|⟨m',rfl,hstep⟩
   ·refine .inl fun d=>?_;obtain⟨_,a7⟩:=hstop (w.at d) (xux w d);obtain⟨ho,rfl,rfl,_⟩:=M.open_inv trivial;have a5:WgAt s.ty s.Wg (w.at d) (((Vc (1-r) D+pend (.sp r 4):Nat):Int)*KK) 0:=a2;obtain⟨a',O,h1,h2⟩:=a7 (Vc (1-r) D) om (by simpa[pend]using a5);have eM:((((Vc (1-r) D:Nat):Int)+1)*KK)=((Vc (1-r) D+pend (.sp r 3):Nat):Int)*KK:=by simp[pend]
    have c3:Go.ConcN.Mode (1-r) D (.sp r 3) ((((Vc (1-r) D:Nat):Int)+1)*KK) 0:=by rw[eM];exact .opn trivial ho s_
    by_cases d7:Vc (1-r) D=0
    ·obtain⟨a4,hk⟩:=h1 d7;exact go d O (aside_setCell _ (stA s.Wg) _) (bkx bk_rw) (.rd hr hk e) (a5.setSt _) c3 s_ (.inl (by simp only[phi];omega))
    ·obtain⟨a4,hk⟩:=h2 d7;exact go d O (aside_setCell _ (stA s.Wg) _) (bkx bk_rw) (.kes hr hk e) (a5.setSt _) c3 s_ (.inl (by simp only[phi];omega))
   ·refine .inl fun d=>?_;obtain⟨a',w',es,O,⟨rfl,rfl⟩,a3⟩:=hstep (w.at d) (xux w d);exact go d O (.refl _ _) s_ (.a1 hr a3 e) a2 M (nr s_ _) (.inr (.inr ⟨rfl,rfl,om⟩))
 |rd hr h e=>
   rcases Goes.cases h with hstop|⟨m',rfl,hstep⟩
   ·refine .inl fun d=>?_;obtain⟨_,a',O,a4,hk⟩:=hstop (w.at d) (xux w d);exact go d O (.refl _ _) (by intro x hx;simp at hx;subst hx;exact .inr (.inr (.inr ⟨rfl,.inl rfl⟩))) (.kes hr hk e) a2 M s_ (.inr (.inl ⟨rfl,om⟩))
   ·refine .inl fun d=>?_;obtain⟨a',w',es,O,⟨rfl,rfl⟩,a3⟩:=hstep (w.at d) (xux w d);exact go d O (.refl _ _) s_ (.rd hr a3 e) a2 M (nr s_ _) (.inr (.inr ⟨rfl,rfl,om⟩))
 |kes hr h e=>
   rcases Goes.cases h with hstop|⟨m',rfl,hstep⟩
   ·refine .inl fun d=>?_;obtain⟨_,a',O,a4,hk⟩:=hstop (w.at d) (xux w d);exact go d O (.refl _ _) (bkx bk_en) (.bk hr hk e) a2 (M.reopen trivial trivial rfl s_) s_ (.inl (by simp only[phi];omega))
   ·refine .inl fun d=>?_;obtain⟨a',w',es,O,⟨rfl,rfl⟩,a3⟩:=hstep (w.at d) (xux w d);exact go d O (.refl _ _) s_ (.kes hr a3 e) a2 M (nr s_ _) (.inr (.inr ⟨rfl,rfl,om⟩))
 |bk hr h e=>
   rename_i r gb;rcases Goes.cases h with hstop|⟨m',rfl,hstep⟩
   ·
     refine .inr (.inl (.inl ⟨_,.go r,_,wk,upd c 0 (gb,h0),_,?_,fun k=>?_,V,hv,g,dd,q,D,.sp r 2,0,0,st,sm,⟨I.Dr,?_,fun m hm=>by rw[upd_ne _ _ (by omega:m+1≠0)];exact I.work m hm,I.rel,a2,M,s_⟩,rfl,rfl⟩))
     ·simp only[Eg];omega
     ·cases k with
      |zero=>intro S hS;rw[upd_same];cases hS;exact e _ (.refl _)
      |succ k=>rw[upd_ne _ _ (by omega:k+1≠0)];exact hR (k+1)
     ·rw[upd_same,hd,hh];have:=(hstop w (xlx w)).1;rw[hg];exact .wk2 (key:=(gb,h0)) hr this (.refl _)
   ·refine .inl fun d=>?_;obtain⟨a',w',es,O,⟨rfl,rfl⟩,a3⟩:=hstep (w.at d) (xux w d);exact go d O (.refl _ _) s_ (.bk hr a3 e) a2 M (nr s_ _) (.inr (.inr ⟨rfl,rfl,om⟩))
 |kd e h=>
   rcases Goes.cases h with hstop|⟨m',rfl,hstep⟩
   ·refine .inl fun d=>?_;obtain⟨_,a',O,a4,hk⟩:=hstop (w.at d) (xux w d);exact go d O (.refl _ _) (bkx bk_dis) (.anch e hk) a2 (M.reopen trivial trivial rfl s_) s_ (.inl (by simp only[phi];omega))
   ·refine .inl fun d=>?_;obtain⟨a',w',es,O,⟨rfl,rfl⟩,a3⟩:=hstep (w.at d) (xux w d);exact go d O (.refl _ _) s_ (.kd e a3) a2 M (nr s_ _) (.inr (.inr ⟨rfl,rfl,om⟩))
 |anch e h=>
   rename_i gb An;rcases Goes.cases h with hstop|⟨m',rfl,hstep⟩
   ·
     obtain⟨a4,hk⟩:=e.2.1 _ w (hstop w (xlx w));refine .inr (.inl (.inl ⟨_,.none,_,wk,c,_,?_,hR,V,hv,g,dd,q,D,.w1,0,_,st,sm,⟨I.Dr,by rw[hd,hc,hh,hg];exact .w1 e hk,I.work,I.rel,a2,M.reopen trivial trivial rfl s_,s_⟩,rfl,rfl⟩));simp only[Eg,phi];omega
   ·refine .inl fun d=>?_;obtain⟨a',w',es,O,⟨rfl,rfl⟩,a3⟩:=hstep (w.at d) (xux w d);exact go d O (.refl _ _) s_ (.anch e a3) a2 M (nr s_ _) (.inr (.inr ⟨rfl,rfl,om⟩))
 |w1 e h=>
   rcases Goes.cases h with hstop|⟨m',rfl,hstep⟩
   ·refine .inl fun d=>?_;obtain⟨_,a7⟩:=hstop (w.at d) (xux w d);obtain⟨ho,rfl,rfl,_⟩:=M.open_inv trivial;have a5:WgAt s.ty s.Wg (w.at d) (((Vc 2 D+pend .w1:Nat):Int)*KK) 0:=a2;obtain⟨a',O,d8,e2⟩:=a7 (Vc 2 D) om (by simpa[pend]using a5);by_cases hv:Vc 2 D=0
    ·obtain⟨a4,hk⟩:=d8 hv;refine go d O (.refl _ _) (bkx bk_rd) (.ke e.2.2 hk) a2 ?_ s_ (.inl (by simp only[phi];omega));have e:((Vc 2 D+pend .w1:Nat):Int)*KK=0:=by rw[hv];simp[pend]
     rw[e];exact .fin trivial (allQuit_of ho hv)
    ·obtain⟨a4,hk⟩:=e2 hv;exact go d O (.refl _ _) (bkx bk_rd) (.w2 e hk) a2 (M.reopen trivial trivial rfl (fun vs e=>by cases e;omega)) s_ (.inl (by simp only[phi];omega))
   ·refine .inl fun d=>?_;obtain⟨a',w',es,O,⟨rfl,rfl⟩,a3⟩:=hstep (w.at d) (xux w d);exact go d O (.refl _ _) s_ (.w1 e a3) a2 M (nr s_ _) (.inr (.inr ⟨rfl,rfl,om⟩))
 |w2 e h=>
   rename_i vs gb An;rcases Goes.cases h with hstop|⟨m',rfl,hstep⟩
   ·refine .inl fun d=>?_;obtain⟨_,a7⟩:=hstop (w.at d) (xux w d);obtain⟨ho,rfl,rfl,e4⟩:=M.open_inv trivial;obtain⟨e9,h1⟩:=e4 vs rfl;have a5:WgAt s.ty s.Wg (w.at d) (((Vc 2 D+pend (.w2 vs):Nat):Int)*KK) 0:=a2;obtain⟨c2,b8⟩:=a7 (Vc 2 D) om (by simpa[pend]using a5);by_cases ev:Vc 2 D=vs
    ·obtain⟨a',O,a4,hk⟩:=c2 ev;exact go d O (aside_setCell _ (stA s.Wg) _) (bkx bk_rw) (.wr e.2.2 hk) (a5.setSt _) (.reg trivial ho om) s_ (.inl (by simp only[phi];omega))
    ·obtain⟨a',O,a4,hk⟩:=b8 ev;exact go d O (.refl _ _) (bkx bk_rd) (.anch e hk) a2 (M.reopen trivial trivial rfl s_) s_ (.inl (by simp only[phi];omega))
   ·refine .inl fun d=>?_;obtain⟨a',w',es,O,⟨rfl,rfl⟩,a3⟩:=hstep (w.at d) (xux w d);exact go d O (.refl _ _) s_ (.w2 e a3) a2 M (nr s_ _) (.inr (.inr ⟨rfl,rfl,om⟩))
 |wr e h=>
   rcases Goes.cases h with hstop|⟨m',rfl,hstep⟩
   ·refine .inl fun d=>?_;obtain⟨_,a',O,a4,hk⟩:=hstop (w.at d) (xux w d);exact go d O (.refl _ _) (by intro x hx;simp at hx;subst hx;exact .inr (.inr (.inr ⟨rfl,.inr rfl⟩))) (.w3 e hk) a2 M s_ (.inr (.inl ⟨rfl,om⟩))
   ·refine .inl fun d=>?_;obtain⟨a',w',es,O,⟨rfl,rfl⟩,a3⟩:=hstep (w.at d) (xux w d);exact go d O (.refl _ _) s_ (.wr e a3) a2 M (nr s_ _) (.inr (.inr ⟨rfl,rfl,om⟩))
 |w3 e h=>
   rcases Goes.cases h with hstop|⟨m',rfl,hstep⟩
   ·refine .inl fun d=>?_;obtain⟨_,e8,b3,b5⟩:=hstop (w.at d) (xux w d);cases M with
    |opn h1 _ _=>exact h1.elim
    |reg h1 h2 h3=>exact go d (b3 ⟨_,a2⟩) (.refl _ _) s_ (.blk e fun a8 zj=>hstop a8 (xkx _ _ _ (xux w d) zj)) a2 (.reg trivial h2 h3) s_ (.inr (.inr ⟨rfl,rfl,om⟩))
    |last L h1 h2 h3 h4=>exact go d (b3 ⟨_,a2⟩) (.refl _ _) s_ (.blk e fun a8 zj=>hstop a8 (xkx _ _ _ (xux w d) zj)) a2 (.last L trivial h2 h3 h4) s_ (.inr (.inr ⟨rfl,rfl,om⟩))
    |sema h2=>
      obtain⟨a',O,a4,hk⟩:=b5 a2;have a5:WgAt s.ty s.Wg (w.at d) 0 1:=a2;exact go d O (aside_setCell _ (smA s.Wg) _) (bkx bk_sem) (.w4 e hk) (a5.setSm 0) (.fin trivial h2) s_ (.inl (by simp only[phi];omega))
    |fin h1 _=>exact h1.elim
   ·refine .inl fun d=>?_;obtain⟨a',w',es,O,⟨rfl,rfl⟩,a3⟩:=hstep (w.at d) (xux w d);exact go d O (.refl _ _) s_ (.w3 e a3) a2 M (nr s_ _) (.inr (.inr ⟨rfl,rfl,om⟩))
 |blk e h=>simp at b4
 |w4 e h=>
   rcases Goes.cases h with hstop|⟨m',rfl,hstep⟩
   ·refine .inl fun d=>?_;obtain⟨_,hx⟩:=hstop (w.at d) (xux w d);obtain⟨hq,rfl,rfl⟩:=M.fin_inv trivial;obtain⟨a',O,a4,hk⟩:=hx a2;exact go d O (.refl _ _) (bkx bk_rd) (.ke e hk) a2 (.fin trivial hq) s_ (.inl (by simp only[phi];omega))
   ·refine .inl fun d=>?_;obtain⟨a',w',es,O,⟨rfl,rfl⟩,a3⟩:=hstep (w.at d) (xux w d);exact go d O (.refl _ _) s_ (.w4 e a3) a2 M (nr s_ _) (.inr (.inr ⟨rfl,rfl,om⟩))
 |ke e h=>
   rcases Goes.cases h with hstop|⟨m',rfl,hstep⟩
   ·refine .inl fun d=>?_;obtain⟨_,a',O,a4,hk⟩:=hstop (w.at d) (xux w d);obtain⟨hq,rfl,rfl⟩:=M.fin_inv trivial;exact go d O (.refl _ _) (bkx bk_en) (.acq e hk) a2 (.fin trivial hq) s_ (.inl (by simp only[phi];omega))
   ·refine .inl fun d=>?_;obtain⟨a',w',es,O,⟨rfl,rfl⟩,a3⟩:=hstep (w.at d) (xux w d);exact go d O (.refl _ _) s_ (.ke e a3) a2 M (nr s_ _) (.inr (.inr ⟨rfl,rfl,om⟩))
 |acq e h=>
   rcases Goes.cases h with hstop|⟨m',rfl,hstep⟩
   ·refine .inl fun d=>?_;obtain⟨_,a',O,a4,hk⟩:=hstop (w.at d) (xux w d);obtain⟨hq,rfl,rfl⟩:=M.fin_inv trivial;refine go d O (.refl _ _) (by intro x hx;simp at hx;subst hx;exact .inr (.inl rfl)) (.ret e hk) a2 (.fin trivial hq) (fun _ fn pos=>?_) (.inl (by simp only[phi];omega));have e1:MemOp.ofEvents 0 fn pos #[mk (.acquire (stA s.Wg))]=#[{g:=0,fn:=fn,pos:=pos,act:=.mark (.acquire (stA s.Wg))}]:=by rw[ofEvents_eq];simp[ofEvent_mk]
    have hy:(t++#[({g:=0,fn:=fn,pos:=pos,act:=.mark (.acquire (stA s.Wg))}:MemOp)])[t.size]?=some {g:=0,fn:=fn,pos:=pos,act:=.mark (.acquire (stA s.Wg))}:=by simp
    have b7:Deaf t 0=0:=(I.Dr.deaf 0 (Nat.zero_le _)).trans hd;refine⟨t.size,by rw[e1,act?_of hy],by rw[e1];simp[Trace.g?],by rw[e1];exact⟨0,by simp[Trace.g?],by rw[deaf_old (Nat.le_refl _)];exact b7⟩,fun i hi=>?_⟩;obtain⟨r,d9,hr⟩:=I.rel i hi (by rw[hq i hi];omega);exact⟨r,d9,hr.appOther xoc (by have:=I.Dr.pos;omega),lt_of_act? hr.act⟩
   ·refine .inl fun d=>?_;obtain⟨a',w',es,O,⟨rfl,rfl⟩,a3⟩:=hstep (w.at d) (xux w d);exact go d O (.refl _ _) s_ (.acq e a3) a2 M (nr s_ _) (.inr (.inr ⟨rfl,rfl,om⟩))
 |ret e h=>
   rcases Goes.cases h with hstop|⟨m',rfl,hstep⟩
   ·exact .inr (.inr ⟨rfl,rfl,by rw[(hstop w (xlx w)).1];exact e⟩)
   ·refine .inl fun d=>?_;obtain⟨a',w',es,O,⟨rfl,rfl⟩,a3⟩:=hstep (w.at d) (xux w d);refine go d O (.refl _ _) s_ (.ret e a3) a2 M (fun _ fn pos=>(I.acq rfl).app fun k r hk hr=>hr.appOther xoc (by have:=I.Dr.pos;omega)) (.inr (.inr ⟨rfl,rfl,om⟩))
end
open Go.ConcN (RelBy WD CTag Vc Ssum Fsum phi cnt pend sumTo upd sumTo_upd upd_ne upd_same WgLive isW3 isFin isOpen OpenSt AllQuit bk_dis bk_en bk_rd bk_rw bk_sem bk_cell Vc_upd Vc_le others_uncounted le_sumTo allQuit_of sumTo_upd_out)
section
variable{P:Program}{s:Site}{Ψ:Nat->Heap->Prop}{Kon:Goroutine->Prop}{w0:Wk0}{j:Nat}{wk:Nat->Bool}{c:Nat->Goroutine×Heap}{V:Nat->Vw}{hv:Nat->Heap}{g:Nat->Goroutine}{dd q:Nat->Nat}{D:Nat->WD}
 {tag:CTag}{fl f0:Nat}{st sm:Int}{gs:Array Goroutine}{w w':World}{t:Trace}{M μ:Nat}{sl:Option (Nat×Nat)}
set_option maxHeartbeats 1600000 in
theorem ygk(g1:¬ s.S s.Wg)(b8:∀k h h',Af h h'->Ψ k h->Ψ k h')(d7:∀gb,Kon gb->gb.status=.running)(hR:∀k,RK (stf P s Ψ Kon w0 j wk) P k (c k))(I:Ct P s Ψ Kon w0 j wk c V hv g dd q D tag fl f0 st sm gs w t)
 {k:Nat}(hk:k<j)(d9:wk k=false)(b7:(g (k+1)).status=.running):Ld P s Ψ Kon (Eg tag fl j wk D) (fuel s.p f0 j D q) w0 j wk c gs w t (s.p+k) (g (k+1)):=by
 intro d;have hp:=I.Dr.pos;have ep:(s.p+k==0)=false:=by simp;omega
 have hs:=I.work k hk;have a3:=I.mode;have a2:WgAt s.ty s.Wg (w.at d) st sm:=I.wg;have hb:=I.main.le.2.2;have g3:=Vc_le j D;have e2:Deaf t (s.p+k)=dd (k+1):=I.Dr.deaf (k+1) om;generalize b0:(D k).stage=sg at hs;generalize g0:(D k).fuel=m at hs;generalize e7:dd (k+1)=de at hs e2;rw[d9]at hs;have g4:=hs;rw[ep]
 have d8:∀{g':Goroutine}{w':World}{es:Array Event}{s' m' c1:Nat}{b9 c2:Int},stepG P false (g (k+1)) (w.at d)=.go g' w' es->Aside s.Wg (w.at d) w'->WgAt s.ty s.Wg w' b9 c2->(∀e∈es,Bk s.Wg e)->
  (∀jx e,es[jx]?=some e->(MemAct.ofEvent e).touch?=none\/0<deafBehind de (es.extract 0 jx))->WSx P s (Ψ k) (c (k+1)) s' false m' c1 g' (hv (k+1)) w'->deafBehind de es=c1->sg<=6->
  (∀a8,(a8=tag\/(tag=.blk/\a8=.w3))->(mayWake P (g (k+1))=true->g'.status=.running->a8≠.blk)->Go.ConcN.Mode j (upd D k ⟨s',m',0⟩) a8 b9 c2)->(tag=.ret-> ∀fn pos,Fv s.Wg s.q8 s.p j (t++MemOp.ofEvents (s.p+k) fn pos es))->((s'<sg/\cnt ⟨s',m',0⟩<=cnt (D k))\/(s'=sg/\m'+1=m))->
  ∃a' w' es,stepG P false (g (k+1)) (w.at d)=.go a' w' es/\Quiet (.of s.S) (w.at d) w'/\ ∀fn pos,F6 P s Ψ Kon (Eg tag fl j wk D) (fuel s.p f0 j D q) w0 j wk c ((gs.map (woken P (g (k+1)) a' w')).setIfInBounds (s.p+k) a') w' (t++MemOp.ofEvents (s.p+k) fn pos es):=by
  intro g' w' es s' m' c1 b9 c2 M e1 c3 b6 hd d5 f2 h6 b3 b5 e8;refine⟨g',w',es,M,xom g1 e1,fun fn pos=>?_⟩
  exact xuh b8 d7 hR (I.draw b8 d) hk d9 e1 (bkx b6) d5 (by rw[e7];exact f2)
   (fun _=>let⟨r,hr0,hr⟩:=I.rel k hk om;⟨r,hr0,hr.book e2 _ _ b6 hd⟩) c3 b3 (fun e=>b5 e fn pos) (by rw[b0,g0];exact e8)
 have book:∀{g':Goroutine}{w':World}{es:Array Event}{s' m' c1:Nat}{b9 c2:Int},stepG P false (g (k+1)) (w.at d)=.go g' w' es->Aside s.Wg (w.at d) w'->WgAt s.ty s.Wg w' b9 c2->(∀e∈es,Bk s.Wg e)->
  (∀jx e,es[jx]?=some e->(MemAct.ofEvent e).touch?=none\/0<deafBehind de (es.extract 0 jx))->WSx P s (Ψ k) (c (k+1)) s' false m' c1 g' (hv (k+1)) w'->deafBehind de es=c1->sg<=6->
  Go.ConcN.Mode j (upd D k ⟨s',m',0⟩) tag b9 c2->(tag=.ret-> ∀fn pos,Fv s.Wg s.q8 s.p j (t++MemOp.ofEvents (s.p+k) fn pos es))->((s'<sg/\cnt ⟨s',m',0⟩<=cnt (D k))\/(s'=sg/\m'+1=m))->
  ∃a' w' es,stepG P false (g (k+1)) (w.at d)=.go a' w' es/\Quiet (.of s.S) (w.at d) w'/\ ∀fn pos,F6 P s Ψ Kon (Eg tag fl j wk D) (fuel s.p f0 j D q) w0 j wk c ((gs.map (woken P (g (k+1)) a' w')).setIfInBounds (s.p+k) a') w' (t++MemOp.ofEvents (s.p+k) fn pos es):=
  fun M e1 c3 b6 hd d5 f2 h6 b3 b5 e8=>d8 M e1 c3 b6 hd d5 f2 h6 (fun _ ht _=>b3.retag ht) b5 e8
 have same:∀m',Go.ConcN.Mode j (upd D k ⟨sg,m',0⟩) tag st sm:=fun m'=>by have:=a3.same (i:=k) m' 0;rwa[b0]at this
 have nr:sg≠1->tag≠.ret:=fun h=>a3.not_ret hk om
 have b4:∀{g':Goroutine}{m':Nat},stepG P false (g (k+1)) (w.at d)=.go g' (w.at d) #[]->WSx P s (Ψ k) (c (k+1)) sg false m' de g' (hv (k+1)) (w.at d)->m'+1=m->sg<=6->sg≠1->
  ∃a' w' es,stepG P false (g (k+1)) (w.at d)=.go a' w' es/\Quiet (.of s.S) (w.at d) w'/\ ∀fn pos,F6 P s Ψ Kon (Eg tag fl j wk D) (fuel s.p f0 j D q) w0 j wk c ((gs.map (woken P (g (k+1)) a' w')).setIfInBounds (s.p+k) a') w' (t++MemOp.ofEvents (s.p+k) fn pos es):=by
  intro g' m' M d5 hm h6 h1;exact book M (.refl _ _) a2 s_ s_ d5 rfl h6 (same m') (fun e=>absurd e (nr h1)) (.inr ⟨rfl,hm⟩)
 cases hs with
 |r0 hφ h=>
   rcases Goes.cases h with hstop|⟨m',rfl,O⟩
   ·obtain⟨_,g',M,a5,a9⟩:=hstop (w.at d) (xux w d)
    refine⟨g',_,_,M,.refl _,fun fn pos=>xuh b8 d7 hR (I.draw b8 d) hk d9 (.refl _ _) (by intro e he;simp at he;subst he;exact .inr (.inr (.inl rfl))) (.k1 hφ a9) (by rw[e7];rfl) (fun _=>⟨t.size,I.Dr.ti.size,RelBy.new e2 _ _⟩) a2
     (fun _ ht _=>(a3.counted hk om (.inl rfl) _ _).retag ht) (fun e=>absurd e (nr om)) (.inl ⟨om,by simp[cnt,b0]⟩)⟩
   ·obtain⟨g',w',es,M,⟨rfl,rfl⟩,a7⟩:=O (w.at d) (xux w d);refine⟨g',_,_,M,.refl _,fun fn pos=>xuh b8 d7 hR (I.draw b8 d) hk d9 (.refl _ _) s_ (.r0 hφ a7) (by rw[e7];rfl) (fun h=>om) a2 (fun _ ht _=>Go.ConcN.Mode.retag (same m') ht) (fun e=>absurd e (nr om)) (.inr ⟨b0.symm,om⟩)⟩
 |k1 hφ h=>
   rcases Goes.cases h with hstop|⟨m',rfl,O⟩
   ·obtain⟨_,g',M,a5,a9⟩:=hstop (w.at d) (xux w d)
    exact book M (.refl _ _) a2 bk_dis (by intro jx e he;exact .inl (by have:=Array.mem_of_getElem? he;simp at this;subst this;rfl)) (.d1 hφ a9) rfl om
     (a3.counted hk om (.inr rfl) _ _) (fun e=>absurd e (nr om)) (.inl ⟨om,by simp[cnt,b0]⟩)
   ·obtain⟨g',w',es,M,⟨rfl,rfl⟩,a7⟩:=O (w.at d) (xux w d);exact b4 M (.k1 hφ a7) rfl om om
 |d1 hφ h=>
   rcases Goes.cases h with hstop|⟨m',rfl,O⟩
   ·obtain⟨_,e4⟩:=hstop (w.at d) (xux w d);have f6:cnt (D k)=1:=by simp[cnt,b0]
    have g5:1<=Vc j D:=by have:=le_sumTo (f:=fun x=>cnt (D x)) hk;simp only[Vc];omega
    have f1:∀jx e,(#[rd (stA s.Wg),wr (stA s.Wg)]:Array Event)[jx]?=some e->(MemAct.ofEvent e).touch?=none\/0<deafBehind 1 ((#[rd (stA s.Wg),wr (stA s.Wg)]:Array Event).extract 0 jx):=by
     intro jx e he
     match jx,he with
     |0,_=>exact .inr (by simp[deafBehind])
     |1,_=>exact .inr (by simp[deafBehind,rd])
     |jx+2,he=>simp at he
    have f3:∀q,cnt (⟨1,q,0⟩:WD)=0:=fun _=>rfl;have f5:∀q,OpenSt j D->OpenSt j (upd D k ⟨1,q,0⟩):=fun q h a ha=>by
     by_cases e:a=k
     ·subst e;rw[upd_same];simp
     ·rw[upd_ne D _ e];exact h a ha
    cases a3 with
    |opn h1 h2 h3=>
      obtain⟨v,e0⟩:∃v,Vc j D+pend tag=v+1:=⟨Vc j D+pend tag-1,om⟩
      rw[e0]at a2;have e6:WgAt s.ty s.Wg (w.at d) (((v:Nat)+1)*KK+((0:Nat):Int)) 0:=by simpa using a2
      obtain⟨g',M,_,hq⟩:=e4 v 0 om om e6;obtain⟨q,hq⟩:=hq om;have e9:Vc j (upd D k ⟨1,q,0⟩)+pend tag=v:=by have:=Vc_upd D (⟨1,q,0⟩:WD) hk;have:=f3 q;omega
      refine book M (aside_setCell _ (stA s.Wg) _) (a2.setSt _) bk_rw f1 (.quit hφ hq) rfl om ?_ (fun e=>absurd e (nr om)) (.inl ⟨om,by simp[cnt]⟩);have e:((v:Nat):Int)*KK+((0:Nat):Int)=((Vc j (upd D k ⟨1,q,0⟩)+pend tag:Nat):Int)*KK:=by rw[e9];simp
      rw[e];exact .opn h1 (f5 q h2) (fun vs ev=>by have:=h3 vs ev;omega)
    |reg h1 h2 h3=>
      obtain⟨v,e0⟩:∃v,Vc j D=v+1:=⟨Vc j D-1,om⟩
      rw[e0]at a2;have e6:WgAt s.ty s.Wg (w.at d) (((v:Nat)+1)*KK+((1:Nat):Int)) 0:=by simpa using a2
      obtain⟨g',M,hl,hq⟩:=e4 v 1 om om e6;by_cases f8:v=0
      ·subst f8;obtain⟨a5,a9⟩:=hl ⟨rfl,rfl⟩;refine book M (aside_setCell _ (stA s.Wg) _) (a2.setSt _) bk_rw f1 (.d2 hφ a9) rfl om ?_ (fun e=>absurd e (nr om)) (.inl ⟨om,by simp[cnt]⟩);have a6:∀a,a<j->a≠k->(D a).stage=1:=fun a ha e=>by
        have c0:=others_uncounted hk e0 f6 a ha e;have:=h2 a ha;simp only[cnt]at c0;split at c0<;>omega
       have:=Go.ConcN.Mode.last (j:=j) (D:=upd D k ⟨4,a5,0⟩) (tag:=tag) k h1 hk (by rw[upd_same];simp) (fun a ha e=>by rw[upd_ne D _ e];exact a6 a ha e);rw[upd_same]at this;simpa using this
      ·obtain⟨q,hq⟩:=hq om;have e9:Vc j (upd D k ⟨1,q,0⟩)=v:=by have:=Vc_upd D (⟨1,q,0⟩:WD) hk;have:=f3 q;omega
       refine book M (aside_setCell _ (stA s.Wg) _) (a2.setSt _) bk_rw f1 (.quit hφ hq) rfl om ?_ (fun e=>absurd e (nr om)) (.inl ⟨om,by simp[cnt]⟩);have e:((v:Nat):Int)*KK+((1:Nat):Int)=((Vc j (upd D k ⟨1,q,0⟩):Nat):Int)*KK+1:=by rw[e9];simp
       rw[e];exact .reg h1 (f5 q h2) om
    |last L _ h2 h3 h4=>
      by_cases e:k=L
      ·subst e;omega
      ·have:=h4 k hk e;omega
    |sema h2=>have:=h2 k hk;omega
    |fin _ h2=>have:=h2 k hk;omega
   ·obtain⟨g',w',es,M,⟨rfl,rfl⟩,a7⟩:=O (w.at d) (xux w d);exact b4 M (.d1 hφ a7) rfl om om
 |d2 hφ h=>
   rcases Goes.cases h with hstop|⟨m',rfl,O⟩
   ·obtain⟨_,hx⟩:=hstop (w.at d) (xux w d);obtain⟨d0,a6,rfl,rfl⟩:=a3.isLast hk om;simp only[b0]at a2;have a4:WgAt s.ty s.Wg (w.at d) 1 0:=by simpa using a2
    obtain⟨g',M,a5,a9⟩:=hx a4;refine book M (.refl _ _) a4 bk_rd (by intro jx e he;match jx,he with|0,_=>exact .inr (by simp[deafBehind])|jx+1,he=>simp at he) (.d3 hφ a9) rfl om ?_ (fun e=>absurd e (nr om)) (.inl ⟨om,by simp[cnt]⟩);have:=Go.ConcN.Mode.last (j:=j) (D:=upd D k ⟨3,a5,0⟩) (tag:=tag) k d0 hk (by rw[upd_same];simp) (fun a ha e=>by rw[upd_ne D _ e];exact a6 a ha e);rw[upd_same]at this;simpa using this
   ·obtain⟨g',w',es,M,⟨rfl,rfl⟩,a7⟩:=O (w.at d) (xux w d);exact b4 M (.d2 hφ a7) rfl om om
 |d3 hφ h=>
   rcases Goes.cases h with hstop|⟨m',rfl,O⟩
   ·obtain⟨_,hx⟩:=hstop (w.at d) (xux w d);obtain⟨d0,a6,rfl,rfl⟩:=a3.isLast hk om;simp only[b0]at a2;have a4:WgAt s.ty s.Wg (w.at d) 1 0:=by simpa using a2
    obtain⟨g',M,a5,a9⟩:=hx a4;refine book M (aside_setCell _ (stA s.Wg) _) (a4.setSt 0) (by intro e he;simp at he;subst he;exact bk_cell _ _ rfl) (by intro jx e he;match jx,he with|0,_=>exact .inr (by simp[deafBehind])|jx+1,he=>simp at he) (.d4 hφ a9) rfl om ?_ (fun e=>absurd e (nr om)) (.inl ⟨om,by simp[cnt]⟩);have:=Go.ConcN.Mode.last (j:=j) (D:=upd D k ⟨2,a5,0⟩) (tag:=tag) k d0 hk (by rw[upd_same];simp) (fun a ha e=>by rw[upd_ne D _ e];exact a6 a ha e);rw[upd_same]at this;simpa using this
   ·obtain⟨g',w',es,M,⟨rfl,rfl⟩,a7⟩:=O (w.at d) (xux w d);exact b4 M (.d3 hφ a7) rfl om om
 |d4 hφ h=>
   rcases Goes.cases h with hstop|⟨m',rfl,O⟩
   ·obtain⟨_,f7,hx⟩:=hstop (w.at d) (xux w d);obtain⟨d0,a6,rfl,rfl⟩:=a3.isLast hk om;simp only[b0]at a2;have a4:WgAt s.ty s.Wg (w.at d) 0 0:=by simpa using a2
    obtain⟨g',M,q,hq⟩:=hx a4;have e5:g'.status=.running:=by
     cases q with
     |zero=>exact absurd hq.2 d_
     |succ q=>exact hq.elim (fun x=>absurd x.2 d_) (fun x=>x.1)
    refine d8 M (aside_setCell _ (smA s.Wg) _) (a4.setSm 1) (es:=semEvents (smA s.Wg)) bk_sem ?_ (.quit hφ hq) (by simp[deafBehind,semEvents]) om ?_ (fun e=>absurd e (nr om)) (.inl ⟨om,by simp[cnt]⟩)
    ·intro jx e he
     match jx,he with
     |0,he=>simp[semEvents]at he;subst he;exact .inl rfl
     |1,_=>exact .inr (by simp[deafBehind,semEvents])
     |2,_=>exact .inr (by simp[deafBehind,semEvents])
     |3,he=>simp[semEvents]at he;subst he;exact .inl rfl
     |jx+4,he=>simp[semEvents]at he
    ·intro a8 ht hw;have f9:=hw f7 e5;have e3:a8=.w3:=by
      rcases ht with rfl|⟨_,rfl⟩
      ·cases a8<;>first|rfl|exact d0.elim|exact absurd rfl f9
      ·rfl
     subst e3;exact .sema fun a ha=>by
      by_cases e:a=k
      ·subst e;rw[upd_same]
      ·rw[upd_ne D _ e];exact a6 a ha e
   ·obtain⟨g',w',es,M,⟨rfl,rfl⟩,a7⟩:=O (w.at d) (xux w d);exact b4 M (.d4 hφ a7) rfl om om
 |quit hφ h=>
   cases m with
   |zero=>rw[h.1]at b7;cases b7
   |succ q=>
     rcases h with⟨hf,_⟩|⟨_,g',es,d6,O,hq⟩
     ·rw[hf]at b7;cases b7
     ·have b6:∀e∈es,Bk s.Wg e:=fun e he=>bk_of_mute (d6 e he);have f4:∀jx e,es[jx]?=some e->(MemAct.ofEvent e).touch?=none\/0<deafBehind de (es.extract 0 jx):=fun jx e he=>.inl (touch_mute (d6 e (Array.mem_of_getElem? he)));refine book (O (w.at d)) (.refl _ _) a2 b6 f4 (.quit hφ hq) rfl om (same q) (fun e fn pos=>(I.acq e).app fun i' r g2 hr=>?_) (.inr ⟨rfl,rfl⟩);by_cases e':i'=k
      ·subst e';exact hr.book e2 _ _ b6 f4
      ·exact hr.appOther xoc om
theorem ywk(a7:∀k h h',Af h h'->Ψ k h->Ψ k h')(a6:∀gb,Kon gb->gb.status=.running)(hR:∀k,RK (stf P s Ψ Kon w0 j wk) P k (c k))(I:Ct P s Ψ Kon w0 j wk c V hv g dd q D tag fl f0 st sm gs w t)
 {i:Nat}(hi:0<i)(a3:i<s.p){a:Goroutine}(ha:gs[i]?=some a)(M:a.status=.running):Ld P s Ψ Kon (Eg tag fl j wk D) (fuel s.p f0 j D q) w0 j wk c gs w t i a:=by
 intro d;have hq:=I.Dr.lv i a hi a3 ha;have ep:(i==0)=false:=by simp;omega
 rw[ep];cases a2:q i with
 |zero=>rw[a2]at hq;rw[hq.1]at M;cases M
 |succ n=>
   rw[a2]at hq;rcases hq with⟨hf,_⟩|⟨_,a',es,hm,a5,b3⟩
   ·rw[hf]at M;cases M
   refine⟨a',w.at d,es,a5 _,.refl _,fun fn pos=>?_⟩;have C':=(I.Dr.draw d).slip hi a3 (a:=a) (fn:=fn) (pos:=pos) hm b3;have Id:=I.draw a7 d;obtain⟨a4,f',b0,b5,O,_⟩:=Id.main.wokenBy Id.live a6 (xkl hR) (xlx _) (.refl _) a a';have b4:sumTo s.p (upd q i n)+(n+1)=sumTo s.p q+n:=by
    have:=sumTo_upd q n id a3;simpa[a2]using this
   refine .inr ⟨_,?_,V,hv,_,dd,_,D,a4,fl,f',st,sm,⟨C',b0,fun k hk=>?_,fun k hk a8=>?_,I.wg,I.mode.retag O,fun e=>?_⟩,by simp only[Eg];rw[Go.ConcN.phi_retag 2 _ O],rfl⟩
   ·simp only[fuel];omega
   ·rw[(Id.work k hk).woken Id.live (xvf hR hk)];exact Id.work k hk
   ·obtain⟨r,a9,hr⟩:=I.rel k hk a8;exact⟨r,a9,hr.appOther xoc om⟩
   ·rcases O with rfl|⟨_,rfl⟩
    ·exact(I.acq e).app fun k r hk hr=>hr.appOther xoc om
    ·cases e
end
open Go.ConcN (RelBy WD CTag Vc Ssum Fsum phi cnt pend sumTo upd sumTo_upd upd_ne upd_same WgLive isW3 isFin isOpen OpenSt AllQuit sumTo_upd_out)
section
variable{P:Program}{s:Site}{Ψ:Nat->Heap->Prop}{Kon:Goroutine->Prop}{w0:Wk0}{j:Nat}{wk:Nat->Bool}{c:Nat->Goroutine×Heap}{V:Nat->Vw}{hv:Nat->Heap}{g:Nat->Goroutine}{dd q:Nat->Nat}{D:Nat->WD}
 {tag:CTag}{fl f0:Nat}{st sm:Int}{gs:Array Goroutine}{w w':World}{t:Trace}{M μ:Nat}{sl:Option (Nat×Nat)}
theorem MSx.K9{key:Goroutine×Heap}{f d:Nat}{g a':Goroutine}{h h':Heap}(hw:w0≠.none)(x:MSx P s Ψ Kon key tag w0 fl j f d g h w):MSx P s Ψ Kon (a',h') tag w0 fl j f d a' h' w':=by
 cases x<;>first|exact absurd rfl hw|skip
 ·rename_i a _ _;exact .wk5 a rfl (.refl _)
 ·rename_i a _ _;exact .wk2 a rfl (.refl _)
 ·exact .wkW rfl (.refl _)
theorem WSx.K9{Φ:Heap->Prop}{key:Goroutine×Heap}{n m d:Nat}{g a':Goroutine}{h h':Heap}(x:WSx P s Φ key n true m d g h w):WSx P s Φ (a',h') n true m d a' h' w':=by
 cases x with
 |walk a c=>exact .walk rfl (.refl _)
theorem WSx.seven{Φ:Heap->Prop}{key:Goroutine×Heap}{n m d:Nat}{g:Goroutine}{h:Heap}(x:WSx P s Φ key n true m d g h w):n=7:=by cases x;rfl
theorem ywv(a7:∀k h h',Af h h'->Ψ k h->Ψ k h')(a6:∀gb,Kon gb->gb.status=.running)(hR:∀k,RK (stf P s Ψ Kon w0 j wk) P k (c k))(I:Ct P s Ψ Kon w0 j wk c V hv g dd q D tag fl f0 st sm gs w t)
 {k:Nat}(hk:k<=j)(h0:k=0->w0≠.none)(h1:∀m,k=m+1->wk m=true){a':Goroutine}{h':Heap}{fn:FuncId}{pos:String}{es:Array Event}
 (hV:Cd (V k) h' w'.heap)(hq:Quiet (V k) w w')(b0:∀e∈es,EvX (V k) w'.heap.size e):
 ∃μ',Hk P s Ψ Kon (Eg tag fl j wk D) w0 j wk (upd c k (a',h')) μ' ((gs.map (woken P (g k) a' w')).setIfInBounds (gn s.p k) a') w' (t++MemOp.ofEvents (gn s.p k) fn pos es):=by
 have C':=I.Dr.own hk (a':=a') (fn:=fn) (pos:=pos) hV hq b0;have a2:WgAt s.ty s.Wg w' st sm:=(hq.Fp s.Wg I.lt (.inl (I.Dr.wgd k hk))).trans I.wg;have a5:RLv s.ty s.Wg w w':=fun _=>⟨_,_,a2⟩
 have hp:=I.Dr.pos;have a3:∃M f',MSx P s Ψ Kon (upd c k (a',h') 0) M w0 fl j f' (dd 0) (wok P (g k) a' w' k g 0) ((fun m=>if m=k then h' else My w'.heap.size (hv m)) 0) w'/\(M=tag\/(tag=.blk/\M=.w3)):=by
  by_cases e:k=0
  ·subst e;refine⟨tag,f0,?_,.inl rfl⟩;unfold wok;rw[upd_same,upd_same];simp only[if_true];exact I.main.K9 (h0 rfl)
  ·obtain⟨M,f',a4,_,O,_⟩:=I.main.wokenBy I.live a6 (xkl hR) a5 (Dw (n:=w'.heap.size)) (g k) a';refine⟨M,f',?_,O⟩;have e':¬ (0=k):=fun x=>e x.symm;unfold wok;rw[upd_ne _ _ e',upd_ne _ _ e'];simp only[if_neg e'];exact a4
 obtain⟨M,f',a4,O⟩:=a3;refine⟨_,_,_,_,_,_,D,M,fl,f',st,sm,⟨C',a4,fun m hm=>?_,fun m hm a8=>?_,a2,I.mode.retag O,fun e=>?_⟩,by simp only[Eg];rw[Go.ConcN.phi_retag 2 _ O],rfl⟩
 ·by_cases e:m+1=k
  ·subst e;have hx:=I.work m hm;rw[h1 m rfl]at hx⊢;unfold wok;rw[upd_same,upd_same];simp only[if_true];exact hx.K9
  ·unfold wok;rw[upd_ne _ _ e,upd_ne _ _ e];simp only[if_neg e];rw[(I.work m hm).woken I.live (xvf hR hm)];exact(I.work m hm).rely (a7 m) a5 Dw
 ·have b3:gn s.p k≠s.p+m:=by
   intro e;have e2:k=m+1:=xx4 hp e;subst e2;have hx:=I.work m hm;rw[h1 m rfl]at hx;have:=hx.seven;omega
  obtain⟨r,a9,hr⟩:=I.rel m hm a8;exact⟨r,a9,hr.appOther xoc b3⟩
 ·rcases O with rfl|⟨_,rfl⟩
  ·refine(I.acq e).app fun m r hm hr=>hr.appOther xoc fun e2=>?_;have e3:k=m+1:=xx4 hp e2;subst e3;have hx:=I.work m hm;rw[h1 m rfl]at hx;have h7:(D m).stage=7:=hx.seven;subst e;exact absurd rfl (I.mode.not_ret hm om)
  ·cases e
theorem xi6(I:Ct P s Ψ Kon w0 j wk c V hv g dd q D tag fl f0 st sm gs w t)(hR:∀k,RK (stf P s Ψ Kon w0 j wk) P k (c k)){r:Nat}(b5:w0=.go r)
 {g' child:Goroutine}{X Z:List Nat}(hX:∀b∈X,Exc (hv 0) b)(hZ:∀b∈Z,Exc (hv 0) b)(hc:Reach P (.own false) child (C6 Z X (hv 0)) (E3 P s (Ψ (1-r))))(hn:Scr P s Ψ Kon r g' (C6 X Z (hv 0)))
 {fn fn':FuncId}{pos pos':String}:
 ∃M' w0' j' wk' c' μ',M'<Eg tag fl j wk D/\(∀k,RK (stf P s Ψ Kon w0' j' wk') P k (c' k))/\Hk P s Ψ Kon M' w0' j' wk' c' μ' ((gs.setIfInBounds 0 g').push child) w (t++#[{g:=0,fn:=fn,pos:=pos,act:=.go (s.p+j)},{g:=s.p+j,fn:=fn',pos:=pos',act:=.start}]):=by
 subst b5;have hm:=I.main;have hp:=I.Dr.pos;generalize hd:dd 0=d0 at hm;generalize hg:g 0=g0 at hm;generalize c2:c 0=c0 at hm;generalize hh:hv 0=hh0 at hm;cases hm with
 |wk2 hr _ _=>
   rw[<- hh]at*;have C':=I.Dr.fork hX hZ hd (a':=g') (child:=child) (x:={g:=0,fn:=fn,pos:=pos,act:=.go (s.p+(1-r))}) (y:={g:=s.p+(1-r),fn:=fn',pos:=pos',act:=.start}) ⟨rfl,rfl⟩ ⟨rfl,rfl⟩;obtain⟨ho,b4,b3,_⟩:=I.mode.open_inv trivial;have c1:=Go.ConcN.Vc_le (1-r) D;have eV:Vc (1-r+1) (upd D (1-r) ⟨7,0,0⟩)=Vc (1-r) D+1:=by
    simp only[Vc,sumTo,upd_same];rw[sumTo_upd_out D _ cnt (Nat.le_refl _)];rfl
   have eS:Ssum (1-r+1) (upd D (1-r) ⟨7,0,0⟩)=Ssum (1-r) D+7:=by
    simp only[Ssum,sumTo,upd_same];rw[sumTo_upd_out D _ WD.stage (Nat.le_refl _)]
   have b6:OpenSt (1-r+1) (upd D (1-r) ⟨7,0,0⟩):=fun i hi=>by
    by_cases e:i=1-r
    ·subst e;rw[upd_same];simp
    ·rw[upd_ne D _ e];exact ho i om
   have b8:∀M,pend M=0->((Vc (1-r) D+pend (.sp r 2):Nat):Int)*KK=((Vc (1-r+1) (upd D (1-r) ⟨7,0,0⟩)+pend M:Nat):Int)*KK:=fun M hp=>by rw[eV,hp];simp[pend]
   have b9:=xip (1-r+1) (upd wk (1-r) true);have a3:∀M,pend M=0->isOpen M->(∀vs,M≠.w2 vs)->Go.ConcN.Mode (1-r+1) (upd D (1-r) ⟨7,0,0⟩) M st sm:=fun M h1 h2 h3=>by
    rw[b4,b3,b8 M h1];exact .opn h2 b6 fun vs e=>absurd e (h3 vs)
   have a2:∀(w0':Wk0),(∀S,Hn P s Ψ Kon w0'=some S->Reach P (.own true) g' (C6 X Z (hv 0)) S)-> ∀k,RK (stf P s Ψ Kon w0' (1-r+1) (upd wk (1-r) true)) P k (upd (upd c 0 (g',C6 X Z (hv 0))) (1-r+1) (child,C6 Z X (hv 0)) k):=by
    intro w0' h k S O;cases k with
    |zero=>rw[upd_ne _ _ (by omega:0≠1-r+1),upd_same];exact h S O
    |succ k=>
      by_cases e:k=1-r
      ·subst e;rw[upd_same];simp[stf,upd_same]at O;subst O;exact hc
      ·rw[upd_ne _ _ (by omega:k+1≠1-r+1),upd_ne _ _ (by omega:k+1≠0)];refine hR (k+1) S ?_;simp only[stf,upd_ne _ _ e]at O⊢;split at O
       ·rename_i hh;rw[if_pos ⟨om,hh.2⟩];exact O
       ·cases O
   have hN:∀(M:CTag)(w0':Wk0)(a5:Nat),pend M=0->isOpen M->(∀vs,M≠.w2 vs)->M≠.ret->MSx P s Ψ Kon (g',C6 X Z (hv 0)) M w0' a5 (1-r+1) 0 0 g' (C6 X Z (hv 0)) w->
    Ct P s Ψ Kon w0' (1-r+1) (upd wk (1-r) true) (upd (upd c 0 (g',C6 X Z (hv 0))) (1-r+1) (child,C6 Z X (hv 0)))
     (fun m=>if m=0 then Gh X Z (hv 0) (V 0)else if m=1-r+1 then Gh Z X (hv 0) (V 0)else V m) (fun m=>if m=0 then C6 X Z (hv 0)else if m=1-r+1 then C6 Z X (hv 0)else hv m)
     (fun m=>if m=0 then g' else if m=1-r+1 then child else g m) (fun m=>if m=1-r+1 then 0 else dd m) q (upd D (1-r) ⟨7,0,0⟩) M a5 0 st sm ((gs.setIfInBounds 0 g').push child) w (t++#[{g:=0,fn:=fn,pos:=pos,act:=.go (s.p+(1-r))},{g:=s.p+(1-r),fn:=fn',pos:=pos',act:=.start}]):=by
    intro M w0' a5 h1 h2 h3 h4 a9;have a6:¬ (0=1-r+1):=om;refine⟨C',?_,fun m hm=>?_,fun m hm hs=>?_,I.wg,a3 M h1 h2 h3,fun e=>absurd e h4⟩
    ·rw[upd_ne _ _ a6,upd_same];simp only[if_true,if_neg a6];rw[hd];exact a9
    ·have a4:¬ (m+1=0):=om;by_cases e:m=1-r
     ·subst e;rw[upd_same,upd_same,upd_same];simp only[if_neg a4,if_true];exact .walk rfl (.refl _)
     ·have a7:¬ (m+1=1-r+1):=om;rw[upd_ne _ _ e,upd_ne _ _ a7,upd_ne _ _ a4,upd_ne _ _ e];simp only[if_neg a4,if_neg a7];exact I.work m om
    ·by_cases e:m=1-r
     ·subst e;rw[upd_same]at hs;simp at hs
     ·rw[upd_ne _ _ e]at hs;obtain⟨r',b7,b0⟩:=I.rel m om hs;refine⟨r',b7,b0.appNot fun op a8=>?_⟩;simp only[List.mem_toArray,List.mem_cons,List.not_mem_nil,or_false]at a8;rcases a8 with rfl|rfl
      ·simp only;omega
      ·simp only;omega
   rcases(by omega:r=0\/r=1)with rfl|rfl
   ·exact⟨_,.wait,_,_,_,_,by simp only[Eg,phi];omega,a2 .wait fun S O=>by cases O;exact hn,_,_,_,_,_,_,_,_,_,_,_,hN .kd .wait 1 rfl trivial s_ s_ (.wkW rfl (.refl _)),rfl,rfl⟩
   ·exact⟨_,.add 0,_,_,_,_,by simp only[Eg,phi];omega,a2 (.add 0) fun S O=>by cases O;exact hn,_,_,_,_,_,_,_,_,_,_,_,hN (.sp 0 5) (.add 0) 1 rfl trivial s_ s_ (.wk5 om rfl (.refl _)),rfl,rfl⟩
open Classical in
theorem yow(b3:∀b,s.S b->s.z9[b]?=some Mn)(I:Ct P s Ψ Kon w0 2 wk c V hv g dd q D .ret fl f0 st sm gs w t)(hk:Kon (g 0))(sl:Option (Nat×Nat)):Fin P s Ψ Kon gs w sl t:=by
 have C:=I.Dr;have hp:=C.pos;obtain⟨hq,rfl,rfl⟩:=I.mode.fin_inv trivial;have b7:dd 0=0:=by
  have hm:=I.main;generalize dd 0=d at hm;cases hm;rfl
 have hw:∀k,k<2->Ψ k (hv (k+1))/\ ∃n,QuitsD P n (dd (k+1)) (g (k+1)):=fun k O=>by
  have hx:=I.work k O;rw[hq k O]at hx;generalize wk k=b at hx;generalize (D k).fuel=n at hx;cases hx with
  |quit a c=>exact⟨a,_,c⟩
 let S':Nat->Prop:=fun b=>s.S b\/b=s.Wg\/(s.z9.size<=b/\b<w.heap.size/\ ∀k,k<2->(V (k+1)).dead b\/(V (k+1)).still b)
 let he:Heap:=w.heap.mapIdx fun b o=>if S' b then Mn else o
 have a7:he.size=w.heap.size:=by simp[he]
 have b0:∀b,he[b]?=(w.heap[b]?).map fun o=>if S' b then Mn else o:=fun b=>by simp[he,Array.getElem?_mapIdx]
 have a8:∀b,S' b->b<w.heap.size:=fun b M=>by
  rcases M with h|h|h
  ·have:=b3 b h;exact Nat.lt_of_lt_of_le (Array.getElem?_eq_some_iff.1 this).1 C.M5
  ·rw[h];exact I.lt
  ·exact h.2.1
 have hV:Cd (.of S') he w.heap:=by
  refine⟨a7,fun b M _=>?_,fun b M=>?_,fun b M=>M.elim⟩
  ·rw[b0];cases w.heap[b]? <;> simp[show ¬ S' b from M]
  ·rw[b0,Array.getElem?_eq_getElem (a8 b M)];simp[show S' b from M,Mn]
 have a4:∀k,k<2-> ∀b,Exc (hv (k+1)) b-> ¬ (V (k+1)).dead b/\ ¬ (V (k+1)).still b/\b<w.heap.size:=fun k O b M=>by
  have v:=C.Gy (k+1) om;obtain⟨h1,h2⟩:=v.exc M;obtain⟨cc,e,b6,_⟩:=M;exact⟨h1,h2,by rw[<- v.size];exact(Array.getElem?_eq_some_iff.1 b6).1⟩
 have b8:∀k,k<2-> ∀b,Exc (hv (k+1)) b-> ¬ S' b:=fun k O b M=>by
  obtain⟨h1,h2,_⟩:=a4 k O b M;rintro(h|h|h)
  ·exact h1 (C.sd (k+1) om b h)
  ·subst h;exact h1 (C.wgd (k+1) om)
  ·exact(h.2.2 k O).elim h1 h2
 refine⟨0,S',gs,w,sl,t,fun i=>if h:s.p<=i/\i<s.p+2 then Classical.choose (hw (i-s.p) om).2 else q i,g 0,he,fun k=>hv (k+1),rfl,⟨C.at' 0 om,⟨fun i x hi hx=>?_,C.above⟩,?_,hV⟩,hk,⟨?_,fun b M=>?_,fun k O=>⟨(hw k O).1,fun b M=>⟨?_,fun a6=>?_⟩⟩,fun b h1 h2=>?_⟩,.refl _,fun b M=>.inl M⟩
 ·have a6:=(Array.getElem?_eq_some_iff.1 hx).1;rw[C.size]at a6;by_cases b5:s.p<=i
  ·have a9:s.p<=i/\i<s.p+2:=⟨b5,a6⟩
   have hc:=Classical.choose_spec (hw (i-s.p) om).2;simp only[dif_pos a9];have e1:gn s.p (i-s.p+1)=i:=by simp only[gn];omega
   have hg:=C.at' (i-s.p+1) om;rw[e1,hx]at hg;cases hg;have b4:=C.deaf (i-s.p+1) om;rw[e1]at b4;rw[b4];exact hc
  ·simp only[dif_neg (fun h:s.p<=i/\i<s.p+2=>b5 h.1)];exact C.lv i x hi om hx
 ·exact C.ti.finish (I.acq rfl) ((C.deaf 0 om).trans b7) fun b M=>M.elim .inl fun h=>.inr (.inl h)
 ·rw[a7];exact C.M5
 ·by_cases a5:s.S b
  ·rw[b3 b a5];exact hV.H0 b (show S' b from .inl a5)
  ·have:¬ S' b:=by
    rintro(h|h|h)
    ·exact a5 h
    ·exact M.2.1 h
    ·exact absurd h.1 (by have:=M.1;omega)
   exact(hV.same b this (fun h=>h)).trans (C.old b M a5)
 ·obtain⟨h1,h2,_⟩:=a4 k O b M;exact(hV.same b (b8 k O b M) (fun h=>h)).trans ((C.Gy (k+1) om).same b h1 h2).symm
 ·obtain⟨h1,h2,_⟩:=a4 k O b M;refine Classical.byContradiction fun hz=>?_;have b9:b≠s.Wg:=fun e=>h1 (e ▸ C.wgd (k+1) om);exact(C.Mc (k+1) om b ⟨a6,b9,hz⟩).elim h1 h2
 ·obtain⟨a1,a2,a3⟩:=a4 0 om b h1;obtain⟨b1,b2,_⟩:=a4 1 om b h2;exact a2 (C.dis 1 2 om om om b a3 a1 b1).1
end
open Go.ConcN (RelBy WD CTag Vc Ssum Fsum phi cnt pend sumTo upd sumTo_upd upd_ne upd_same WgLive exists_counted)
section
variable{P:Program}{s:Site}{Ψ:Nat->Heap->Prop}{Kon:Goroutine->Prop}{w0:Wk0}{j:Nat}{wk:Nat->Bool}{c:Nat->Goroutine×Heap}{V:Nat->Vw}{hv:Nat->Heap}{g:Nat->Goroutine}{dd q:Nat->Nat}{D:Nat->WD}
 {tag:CTag}{fl f0:Nat}{st sm:Int}{gs:Array Goroutine}{w w':World}{t:Trace}{M μ:Nat}{sl:Option (Nat×Nat)}
theorem MSx.key{key:Goroutine×Heap}{f d:Nat}{g:Goroutine}{h:Heap}(hw:w0≠.none)(x:MSx P s Ψ Kon key tag w0 fl j f d g h w):g=key.1/\Af key.2 h:=by
 cases x<;>first|exact absurd rfl hw|exact⟨‹_›,‹_›⟩
theorem WSx.key{Φ:Heap->Prop}{key:Goroutine×Heap}{n m d:Nat}{g:Goroutine}{h:Heap}(x:WSx P s Φ key n true m d g h w):g=key.1/\Af key.2 h/\m=0/\d=0:=by
 cases x with
 |walk a b=>exact⟨a,b,rfl,rfl⟩
theorem xs8{k:Nat}{S:Goroutine->Heap->Prop}(h:stf P s Ψ Kon w0 j wk k=some S):k<=j:=by
 cases k with
 |zero=>exact Nat.zero_le _
 |succ k=>
   simp only[stf]at h;split at h
   ·rename_i M;exact M.1
   ·cases h
theorem ywx(a3:∀k h h',Af h h'->Ψ k h->Ψ k h')(hR:∀k,RK (stf P s Ψ Kon w0 j wk) P k (c k))(I:Ct P s Ψ Kon w0 j wk c V hv g dd q D tag fl f0 st sm gs w t)
 {k:Nat}(hk:k<j)(a2:wk k=true)(hd:E3 P s (Ψ k) (c (k+1)).1 (c (k+1)).2):F6 P s Ψ Kon (Eg tag fl j wk D) (fuel s.p f0 j D q) w0 j wk c gs w t:=by
 have hx:=I.work k hk;rw[a2]at hx;have h7:=hx.seven;obtain⟨e1,e2,e3,e4⟩:=hx.key;have O:=hd.stay (a3 k) e2;obtain⟨m,hm⟩:=O.1 w I.live;have a4:Be j (upd wk k false)+1=Be j wk:=by
  have:=sumTo_upd wk false (fun b=>if b then 1 else 0) hk;simp only[Be];simp only[a2]at this;simpa using this
 have M:∀a,a<j->(upd D k ⟨(D k).stage,m,0⟩ a).stage=(D a).stage:=fun a _=>by
  by_cases e:a=k
  ·subst e;rw[upd_same]
  ·rw[upd_ne _ _ e]
 have eV:Vc j (upd D k ⟨(D k).stage,m,0⟩)=Vc j D:=Go.ConcN.sumTo_congr fun a ha=>by simp only[cnt,M a ha]
 have eS:Ssum j (upd D k ⟨(D k).stage,m,0⟩)=Ssum j D:=Go.ConcN.sumTo_congr fun a ha=>M a ha;refine .inl ⟨_,w0,j,upd wk k false,c,_,?_,fun n S hS=>?_,V,hv,g,dd,q,upd D k ⟨(D k).stage,m,0⟩,tag,fl,f0,st,sm,⟨I.Dr,I.main,fun n hn=>?_,fun n hn hs=>?_,I.wg,I.mode.same m 0,I.acq⟩,rfl,rfl⟩
 ·simp only[Eg];rw[eV,eS];omega
 ·cases n with
  |zero=>exact hR 0 S hS
  |succ n=>
    by_cases e:n=k
    ·subst e;simp[stf,upd_same]at hS
    ·refine hR (n+1) S ?_;simp only[stf,upd_ne _ _ e]at hS⊢;exact hS
 ·by_cases e:n=k
  ·subst e;rw[upd_same,upd_same];simp only;rw[h7,e4,e1];exact .r0 O.2 hm
  ·rw[upd_ne _ _ e,upd_ne _ _ e];exact I.work n hn
 ·rw[M n hn]at hs;exact I.rel n hn hs
theorem yrw(hR:∀k,RK (stf P s Ψ Kon w0 j wk) P k (c k))(I:Ct P s Ψ Kon w0 j wk c V hv g dd q D tag fl f0 st sm gs w t)
 (hs:∀S,Hn P s Ψ Kon w0=some S->S (c 0).1 (c 0).2)(hw:w0≠.none)(hg:∀r,w0≠.go r):F6 P s Ψ Kon (Eg tag fl j wk D) (fuel s.p f0 j D q) w0 j wk c gs w t:=by
 have O:=I.main;have M:=O.key hw;generalize hd:dd 0=d0 at O;generalize a2:g 0=g0 at O M;generalize hc:c 0=c0 at O M hs;generalize hh:hv 0=h0 at O M;have a3:∀k,RK (stf P s Ψ Kon .none j wk) P k (c k):=fun k S hS=>by
  cases k with
  |zero=>cases hS
  |succ k=>exact hR (k+1) S hS
 cases O<;>first|exact absurd rfl hw|exact absurd rfl (hg _)|skip
 ·rename_i r a b e;obtain⟨gb,x,y⟩:=hs _ rfl;obtain⟨m,O⟩:=x w I.live;refine .inl ⟨_,.none,_,wk,c,_,?_,a3,V,hv,g,dd,q,D,.sp r 5,0,m,st,sm,⟨I.Dr,?_,I.work,I.rel,I.wg,I.mode,s_⟩,rfl,rfl⟩
  ·simp only[Eg];omega
  ·rw[hd,a2,hc,hh,M.1];exact .kd5 a O (y.stay M.2)
 ·obtain⟨gb,An,x,y⟩:=hs _ rfl;obtain⟨m,O⟩:=y w I.live;refine .inl ⟨_,.none,_,wk,c,_,?_,a3,V,hv,g,dd,q,D,.kd,0,m,st,sm,⟨I.Dr,?_,I.work,I.rel,I.wg,I.mode,s_⟩,rfl,rfl⟩
  ·simp only[Eg];omega
  ·rw[hd,a2,hc,hh,M.1];exact .kd x O
theorem yif(O:∀gb,Kon gb->gb.status=.running)(hR:∀k,RK (stf P s Ψ Kon w0 j wk) P k (c k))(I:Ct P s Ψ Kon w0 j wk c V hv g dd q D tag fl f0 st sm gs w t):∃(i:Nat)(x:Goroutine),gs[i]?=some x/\x.status=.running:=by
 have M:∀k,k<j->(D k).stage≠1-> ∃(i:Nat)(x:Goroutine),gs[i]?=some x/\x.status=.running:=fun k hk h1=>
  ⟨s.p+k,g (k+1),I.Dr.at' (k+1) om,((I.work k hk).status I.live (xvf hR hk)).elim id fun z=>absurd z.2 h1⟩
 have hs:=I.main.status I.live O (xkl hR);rcases hs with⟨hs,_⟩|⟨_,rfl⟩
 ·exact⟨0,g 0,I.Dr.at' 0 (Nat.zero_le _),hs⟩
 ·cases I.mode with
  |opn h1 _ _=>exact h1.elim
  |reg _ _ h3=>
    obtain⟨k,hk,h5⟩:=exists_counted h3;exact M k hk om
  |last L _ h2 h3 _=>exact M L h2 om
  |fin h1 _=>exact h1.elim
theorem ybk(M:∀gb,Kon gb->gb.status=.running)(hR:∀k,RK (stf P s Ψ Kon w0 j wk) P k (c k))(I:Ct P s Ψ Kon w0 j wk c V hv g dd q D tag fl f0 st sm gs w t):∀x∈gs,awake x:=by
 intro x hx;obtain⟨i,hi⟩:=Array.mem_iff_getElem?.1 hx;have O:=(Array.getElem?_eq_some_iff.1 hi).1;rw[I.Dr.size]at O;rcases Nat.eq_zero_or_pos i with rfl|hpos
 ·have:=I.Dr.at' 0 (Nat.zero_le _);rw[show gn s.p 0=0 from rfl,hi]at this;cases this;exact awake_of ((I.main.status I.live M (xkl hR)).elim (fun z=>.inl z.1) fun z=>.inr (.inl z.1))
 ·rcases Nat.lt_or_ge i s.p with hip|hip
  ·exact awake_of ((I.Dr.lv i x hpos hip hi).status.elim .inl fun z=>.inr (.inr z))
  ·have:=I.Dr.at' (i-s.p+1) om;rw[show gn s.p (i-s.p+1)=i by simp only[gn];omega,hi]at this;cases this;exact awake_of (((I.work (i-s.p) om).status I.live (xvf hR om)).elim .inl fun z=>.inr (.inr z.1))
theorem yhs(c1:¬ s.S s.Wg)(a4:∀k h h',Af h h'->Ψ k h->Ψ k h')(a2:∀gb,Kon gb->gb.status=.running)(c2:∀b,s.S b->s.z9[b]?=some Mn):
 ∀M w0 j wk c,(∀k,RK (stf P s Ψ Kon w0 j wk) P k (c k))-> ∀μ gs w sl t,Hk P s Ψ Kon M w0 j wk c μ gs w t->Fin P s Ψ Kon gs w sl t:=by
 intro M
 induction M using Nat.strongRecOn with
 |_ M ihM=>
 intro w0 j wk;refine nest (n:=3) (J:=fun c=>∀μ gs w sl t,Hk P s Ψ Kon M w0 j wk c μ gs w t->Fin P s Ψ Kon gs w sl t) fun c hR hA=>?_;intro μ
 induction μ using Nat.strongRecOn with
 |_ μ ihμ=>
 rintro gs w sl t ⟨V,hv,g,dd,q,D,tag,fl,f0,st,sm,I,rfl,rfl⟩;have a5:∀gs w sl t,F6 P s Ψ Kon (Eg tag fl j wk D) (fuel s.p f0 j D q) w0 j wk c gs w t->Fin P s Ψ Kon gs w sl t:=by
  rintro gs w sl t (⟨M',w0',j',d6,c',μ',a6,b3,hG⟩|⟨μ',a6,hG⟩)
  ·exact ihM M' a6 _ _ _ _ b3 _ _ _ _ _ hG
  ·exact ihμ μ' a6 _ _ _ _ hG
 have hp:=I.Dr.pos;have hj:=I.main.le.1;obtain⟨i,a,d,b4,hi,ha,b6⟩:=crowd_pick (P:=P) (w:=w) (sl:=sl) (ybk a2 hR I) (yif a2 hR I);have Id:=I.draw a4 d;have fin:∀{a':Goroutine}{w':World}{es:Array Event},stepG P (i==0) a (w.at d)=.go a' w' es->Quiet (.of s.S) (w.at d) w'->Fin P s Ψ Kon ((gs.map (woken P a a' w')).setIfInBounds i a') w' b4 (t++MemOp.ofEvents i a.frame.fn a.frame.place es)->Fin P s Ψ Kon gs w sl t:=
  fun a3 hc x=>xd5 (b6.trans (runT_crowd_go (P:=P) (sl:=b4) (i:=i) hi a3)) ((xjh w d).trans hc) x
 have walk:∀k S,k<3->stf P s Ψ Kon w0 j wk k=some S->(k=0->w0≠.none)->(∀m,k=m+1->wk m=true)->g k=(c k).1/\Af (c k).2 (hv k)->i=gn s.p k->a=g k->
  (Own P (k==0) (c k).1 (c k).2 fun g h=>Reach P (.own (k==0)) g h S/\ ∀c',c' k=(g,h)->(∀m,m<k->c' m=c m)->(∀m,RK (stf P s Ψ Kon w0 j wk) P m (c' m))-> ∀μ gs w sl t,Hk P s Ψ Kon (Eg tag fl j wk D) w0 j wk c' μ gs w t->Fin P s Ψ Kon gs w sl t)->Fin P s Ψ Kon gs w sl t:=by
  intro k S _ hS h0 h1 O b8 b7 o;obtain⟨a',h',w',es,a3,⟨hr,b5⟩,c3,hq,d5⟩:=o.2 (hv k) O.2 (V k) (w.at d) (I.Dr.Gy k (xs8 hS));rw[<- O.1,<- b7]at a3;obtain⟨μ',hG⟩:=ywv a4 a2 hR Id (xs8 hS) h0 h1 (a':=a') (fn:=a.frame.fn) (pos:=a.frame.place) c3 hq d5;rw[<- b7,<- b8]at hG;refine fin (by rw[b8,yih hp];exact a3) (hq.mono fun b y=>.inl (I.Dr.sd k (xs8 hS) b (y.elim id fun z=>z.elim))) (b5 (upd c k (a',h')) (upd_same _ _ _) (fun m hm=>upd_ne _ _ om) (fun m=>?_) _ _ _ _ _ hG);by_cases e:m=k
  ·subst e;rw[upd_same];intro S' a8;rw[hS]at a8;cases a8;exact hr
  ·rw[upd_ne _ _ e];exact hR m
 have a6:=(Array.getElem?_eq_some_iff.1 hi).1;rw[I.Dr.size]at a6;rcases Nat.eq_zero_or_pos i with rfl|hpos
 ·
   have e0:=I.Dr.at' 0 (Nat.zero_le _);rw[show gn s.p 0=0 from rfl,hi]at e0;obtain rfl:a=g 0:=Option.some.inj e0;by_cases hw:w0=.none
   ·subst hw;rcases yhw c1 a4 hR I ha rfl with a3|hl|⟨rfl,rfl,hk⟩
    ·obtain⟨a',w',es,h1,h2,h3⟩:=a3 d;exact fin h1 h2 (a5 _ _ _ _ (h3 _ _))
    ·exact a5 _ _ _ _ hl
    ·exact yow c2 I hk sl
   ·have O:=I.main.key hw;have hS:∃S,Hn P s Ψ Kon w0=some S:=by cases w0<;>first|exact absurd rfl hw|exact⟨_,rfl⟩
    obtain⟨S,hS⟩:=hS;rcases hA 0 om S hS with hstop|o
    ·by_cases hg:∃r,w0=.go r
     ·obtain⟨r,rfl⟩:=hg;cases hS;obtain⟨_,g',child,X,Z,d8,hX,hZ,b0⟩:=K1.stay hstop O.2;obtain⟨d0,d7⟩:=b0 _ (.refl _);obtain⟨M',w0',j',d6,c',μ',b9,b3,hG⟩:=xi6 (fn:=(g 0).frame.fn) (fn':=child.frame.fn) (pos:=(g 0).frame.place) (pos':=(g 0).frame.place) Id hR rfl hX hZ d0 d7;have a9:=runT_crowd_spawn (P:=P) (sl:=b4) (i:=0) (es:=#[]) hi (show stepG P (0==0) (g 0) (w.at d)=.spawn g' child (w.at d) #[] by rw[O.1];exact d8 _);rw[I.Dr.size]at a9;refine xd5 (b6.trans a9) (xjh w d) ?_;refine ihM M' b9 _ _ _ _ b3 μ' _ _ _ _ ?_;have e:((MemOp.ofEvents 0 (g 0).frame.fn (g 0).frame.place #[]).push {g:=0,fn:=(g 0).frame.fn,pos:=(g 0).frame.place,act:=.go (s.p+j)}).push {g:=s.p+j,fn:=child.frame.fn,pos:=(g 0).frame.place,act:=.start}=#[{g:=0,fn:=(g 0).frame.fn,pos:=(g 0).frame.place,act:=.go (s.p+j)},{g:=s.p+j,fn:=child.frame.fn,pos:=(g 0).frame.place,act:=.start}]:=by
       rw[ofEvents_eq];simp
      rw[e];exact hG
     ·exact a5 _ _ _ _ (yrw hR I (fun S' a8=>by rw[hS]at a8;cases a8;exact hstop) hw fun r e=>hg ⟨r,e⟩)
    ·exact walk 0 S om hS (fun _=>hw) (fun m e=>om) O rfl rfl o
 ·rcases Nat.lt_or_ge i s.p with hip|hip
  ·
    obtain⟨a',w',es,h1,h2,h3⟩:=ywk a4 a2 hR I hpos hip hi ha d;exact fin h1 h2 (a5 _ _ _ _ (h3 _ _))
  ·
    obtain⟨k,rfl⟩:∃k,i=s.p+k:=⟨i-s.p,om⟩
    have hk:k<j:=om;have e0:=I.Dr.at' (k+1) om;rw[show gn s.p (k+1)=s.p+k from rfl,hi]at e0;obtain rfl:a=g (k+1):=Option.some.inj e0;cases a7:wk k with
    |false=>
      obtain⟨a',w',es,h1,h2,h3⟩:=ygk c1 a4 a2 hR I hk a7 ha d;exact fin h1 h2 (a5 _ _ _ _ (h3 _ _))
    |true=>
      have hS:stf P s Ψ Kon w0 j wk (k+1)=some (E3 P s (Ψ k)):=by simp[stf,hk,a7]
      have hx:=I.work k hk;rw[a7]at hx;have O:=hx.key;rcases hA (k+1) om _ hS with hstop|o
      ·exact a5 _ _ _ _ (ywx a4 hR I hk a7 hstop)
      ·exact walk (k+1) _ om hS (fun e=>om) (fun m e=>by cases e;exact a7) ⟨O.1,O.2.1⟩ rfl rfl o
end
open Go.ConcN (WD CTag Vc pend upd)
open Go.ConcR (KK wgBlock WgAt)
theorem xc1{P:Program}{Ψ:Nat->Heap->Prop}{ge:Goroutine}{Kon:Goroutine->Prop}{h:Heap}{Stop:Goroutine->Heap->Prop}(ty:TypeId)(Wg:Nat)(Z:List Nat)
 (a6:h[Wg]?=some (wgBlock ty 0 0))(hZ:∀b∈Z,Exc h b)(b9:∀k h h',Af h h'->Ψ k h->Ψ k h')(a7:∀gb,Kon gb->gb.status=.running)
 (b5:∀S p q8,Lg P ⟨ty,Wg,S,h,Z,p,q8⟩ Ψ 0 (Scr P ⟨ty,Wg,S,h,Z,p,q8⟩ Ψ Kon 1) ge (C6 [Wg] Z h))
 (b3:∀S p q8 gb,Kon gb-> ∀hw he,Joined ⟨ty,Wg,S,h,Z,p,q8⟩ Ψ hw he->Reach P (.main true) gb he Stop):Reach P (.main true) ge h Stop:=by
 intro S gs w sl t q O;have a8:Exc h Wg:=⟨_,_,a6,s_⟩
 obtain⟨a4,d5⟩:=O.Gy.exc a8;have b7:Wg<h.size:=(Array.getElem?_eq_some_iff.1 a6).1;have b8:=O.main;have a9:0<gs.size:=(Array.getElem?_eq_some_iff.1 b8).1
 let s:Site:=⟨ty,Wg,S,h,Z,gs.size,t.size⟩
 obtain⟨gb,b6,a5⟩:=b5 S gs.size t.size;have b4:WgAt ty Wg w 0 0:=(O.Gy.same Wg a4 d5).symm.trans a6;obtain⟨m,hm⟩:=b6 w ⟨_,_,b4⟩;have a3:(Gh [Wg] Z h (.of S)).dead Wg:=.inr ⟨b7,.inl s_⟩;have b0:G7 s P 0 (fun _=>Gh [Wg] Z h (.of S)) (fun _=>C6 [Wg] Z h) (fun _=>ge) (fun _=>0) q gs w t:=by
  refine⟨a9,rfl,fun k hk=>?_,fun i x hi _ hx=>O.Py.old i x hi hx,O.Py.above,fun k _=>O.Gy.cut hZ,fun k _ b M=>xbg M,fun k m hk hm d9=>om,fun _ _=>a3,fun b M hS=>(O.Gy.same b hS (fun h=>h)).symm,fun k _ b M=>?_,
   fun _ _ b M=>.inl M,by rw[<- O.Gy.size];exact Nat.le_refl _,?_,fun k hk=>?_⟩
  ·obtain rfl:k=0:=om;exact b8
  ·by_cases hd:(Gh [Wg] Z h (.of S)).dead b
   ·exact .inl hd
   ·exact .inr (xyr M.1 hd M.2.2)
  ·exact TI.start O.Ci a4 fun b M hS=>M (.inl hS)
  ·obtain rfl:k=0:=om;exact O.Ci.hears
 have hG:Hk P s Ψ Kon (Eg (.sp 1 5) 0 0 (fun _=>false) fun _=>⟨0,0,0⟩) .none 0 (fun _=>false) (fun _=>(ge,h)) (fuel gs.size m 0 (fun _=>⟨0,0,0⟩) q) gs w t:=by
  refine⟨_,_,_,_,_,fun _=>⟨0,0,0⟩,.sp 1 5,0,m,0,0,⟨b0,.kd5 om hm a5,fun k hk=>om,fun k hk=>om,b4,?_,s_⟩,rfl,rfl⟩;have:=Go.ConcN.Mode.opn (j:=0) (D:=fun _=>(⟨0,0,0⟩:WD)) (tag:=.sp 1 5) trivial (fun i hi=>om) (fun vs e=>by cases e);simpa[Vc,pend,Go.ConcN.sumTo]using this
 obtain⟨N,S',d6,w',d8,t',q',c1,he,hw,h1,h2,h3,h4,h5,h6⟩:=yhs (s:=s) a4 b9 a7 (fun b M=>O.Gy.H0 b M) _ _ _ _ _ (fun k S hS=>by
  cases k with
  |zero=>cases hS
  |succ k=>simp[stf]at hS) _ gs w sl t hG
 obtain⟨N2,S2,d0,w2,d7,t2,q2,g2,c3,a2,b2,c2,d2,e2,f2⟩:=b3 S gs.size t.size c1 h3 hw he h4 S' d6 w' d8 t' q' h2;exact⟨N+N2,S2,d0,w2,d7,t2,q2,g2,c3,by rw[runNT_add,h1];exact a2,b2,c2,h5.trans (d2.of h6),(fun z=>by cases z),fun b M=>f2 b (h6 b M)⟩
section
variable{P:Program}{md:Md}{f:FuncId}{r:Rd}{df:List Deferred}{k:List Item}{cs:List Frame}{Stop:Goroutine->Heap->Prop}{ops rest:List Oper}{tm:List Value}{Φ:Heap->Prop}{h:Heap}
theorem Nm{a:List Value}(M:r.round=none):FL f r a df k=(B f r).at ⟨a.toArray,df⟩ k:=by simp[FL,F,Frame.at,B,M]
theorem ymv[Stb Φ]{g:FuncId}{args:List Operand}{ats:Array TypeId}{vs:List Value}{ty:TypeId}{pos:String}{aft:Array Edge}{gd:Option (Nat×Bool)}
 (hm:Met ops tm ⟨none,.defer ⟨.value (.func g),args.toArray,ats⟩,ty,pos,aft,gd⟩ true)(O:args.map (evl tm)=vs)(hr:r.round=none)
 (n:RL P md f r (dcall g vs.toArray::df) k cs Stop ops rest tm Φ):RL P md f r df k cs Stop ops (⟨none,.defer ⟨.value (.func g),args.toArray,ats⟩,ty,pos,aft,gd⟩::rest) tm Φ:=by
 intro a2 e;rw[xiw];have n':=n (a2++[⟨none,.defer ⟨.value (.func g),args.toArray,ats⟩,ty,pos,aft,gd⟩]) (by simp[e]);refine xmc rfl (fun w=>?_) n';rw[Nm hr,Nm hr];have M:Act.eval ⟨tm.toArray,df⟩=evl tm:=by
  funext x;rw[<- xez];cases x<;>rfl
 have hw:=xbx hm;rw[stepG_defer (xod e) (by exact hw) xvw rfl];simp only[Act.put,List.map_toArray,M,O];simp
theorem ytw{fn:Func}{c:Code}{args:Array Value}(hf:P.funcs[f]?=some fn)(hb:fn.body=some c)(M:args.toList++List.replicate (fn.ntmps-args.size) undef=tm)
 (x:RS P md (G (FL f .dfd tm [] [.code c]) cs) Φ Stop)(O:Φ h):Reach P md (G (Frame.enter P f args .deferred) cs) h Stop:=by
 have:=x h O;have e:Frame.enter P f args .deferred=FL f .dfd tm [] [.code c]:=by
  unfold Frame.enter;simp only[hf,hb,Option.map_some,Option.bind_some,Option.getD_some,FL,F,B,<- M];simp[Rd.kind,Rd.round]
 rw[e];exact this
theorem yyw{zq:Frame}{z9:Heap}{zz:List Nat}{p:Ab}{L:Pcs}{m i:Nat}(M:L[i]?=some (m,.deferred (some [])))
 (x:∀td,RS P md (G (FR (B f .dfd) tm.toArray df td) (zq::cs)) (fun h=>St z9 zz p h (L.set i (m,.deferred none))) Stop):RS P md (G (FL f .dfd tm (mark m::df) []) (zq::cs)) (fun h=>St z9 zz p h L) Stop:=
 ymc (hro:=rfl) fun td=>xlg (fun _ s=>s.at M) fun _ s=>x td _ (s.setObj M)
theorem yxw[Stb Φ]{c:Code}(z:RS P md (G (FL f r tm df (.code c::.inLoop c::k)) cs) Φ Stop):RS P md (G (FL f r tm df (.code (.loop c)::k)) cs) Φ Stop:=xv0 z
theorem xg7[Stb Φ]{c:Code}(z:RS P md (G (FL f r tm df (.code c::.inLoop c::k)) cs) Φ Stop):RS P md (G (FL f r tm df (.inLoop c::k)) cs) Φ Stop:=xel z
def Mx(P:Program):Frame:={ (default:Frame)with fn:=P.funcs.size,defers:=[],mode:=.panicking [goexitEntry]}
theorem xx7[Stb Φ]{fn : Func}{g : FuncId}{caps args : Array Value}(hf : P.funcs[g]? = some fn)(hname : (fn.name == "runtime.NumGoroutine") = false)(hb : fn.body.isNone = false)
 (x:RS P (.own false) (G (Frame.enter P g (args++caps) .deferred) [Mx P]) Φ Stop):RS P (.own false) (born P {target:=.fn (.func g) caps,args:=args}) Φ Stop:=by
 refine xmc rfl (fun w=>?_) x;have hn:fn.body≠none:=fun e=>by rw[e]at hb;cases hb
 have hname' : ¬ fn.name = "runtime.NumGoroutine" := by simpa using hname
 show stepG P false (born P {target:=.fn (.func g) caps,args:=args}) w=_;cases hbd:fn.body with
 |none=>exact absurd hbd hn
 |some c=>simp[born,stepG,unwind,callDeferred,invoke,callFunc,hf,hname',hbd,seen,GStep.after,G,Mx]
end
section
variable{L:WgLink}{Wg:Nat}{b₀:Frame}{a₀:Act}{ops₀:Array Oper}{i₀:Nat}{rest₀:List Nat}{k₀:List Item}{cs:List Frame}
set_option maxRecDepth 100000 in
set_option maxHeartbeats 8000000 in
theorem ydm{P:Program}(H:WgLib P L)(w:World)(M:WgLive L.tWg Wg w):
 ∃m,Goes P true (RLv L.tWg Wg) DC0 (AtKdS P L.tWg Wg (G (b₀.at (a₀.put ((ops₀[i₀]?).bind (·.dst)) (.tuple #[])) (.inRegion ops₀ rest₀::k₀)) cs)) m (G ((base L.add).at ⟨#[w_ Wg 0,.J 1,undef,undef,undef,undef,undef,undef,undef,undef,undef,undef,undef,undef,undef,undef,undef,undef,undef,undef,undef,undef,undef,undef,undef,undef,undef,undef,undef,undef,undef,undef,undef,undef,undef,undef,undef,undef,undef,undef,undef,undef,undef,undef,undef,undef,undef,undef,undef,undef,undef,undef,undef,undef,undef,undef,undef,undef,undef,undef,undef,undef,undef,undef,undef,undef,undef,undef,undef,undef,undef,undef,undef,undef,undef,undef,undef,undef,undef,undef,undef,undef,undef,undef,undef,undef,undef,undef,undef,undef,undef,undef,undef,undef,undef,undef,undef,undef,undef,undef,undef,undef,undef,undef,undef,undef,undef,undef,undef,undef,undef,undef,undef,undef,undef,undef,undef],[]⟩ [.code (body_add L)]) (b₀.at a₀ (.inRegion ops₀ (i₀::rest₀)::k₀)::cs)) w:=by
 lib_facts
 simp only[body_add,addFn,Option.getD_some];refine⟨30,?_⟩;u_c stepG_seq xaq M
 u_cond true xaq M
 u_c stepG_seq xaq M;u_c stepG_seq xaq M;u_reg xaq M;u_op xaq M;u_op xaq M;u_c stepG_region_end xaq M
 u_cond false xaq M
 u_c stepG_skip xaq M;u_c stepG_seq xaq M;u_reg xaq M;refine Goes.stop (fun w1 h1=>?_);replace M:=xaq M h1;clear h1;refine⟨rfl,_,stepG_mark0 .disable s_ rfl rfl (by k_ne) rfl H.f_disable (x_disable_n L) (x_disable_b L) (x_disable_x L) (x_disable_f L),60,?_⟩
 walk_nrm
 u_c stepG_region_end xaq M;u_reg xaq M
 u_defer xaq M
 u_c stepG_region_end xaq M;u_c stepG_seq xaq M;u_reg xaq M;u_op xaq M;u_c stepG_region_end xaq M;u_c stepG_seq xaq M;u_c stepG_seq xaq M;u_reg xaq M
 u_bub xaq M
 u_c stepG_region_end xaq M
 u_cond false xaq M
 u_c stepG_skip xaq M;u_c stepG_seq xaq M;u_reg xaq M;u_op xaq M;u_op xaq M;u_op xaq M;u_op xaq M;u_op xaq M;u_op xaq M
 u_call H.f_uAdd (nm_uAdd L) uAddFn xaq M
 u_c stepG_seq xaq M;u_reg xaq M;u_op xaq M;u_c stepG_region_end xaq M;u_c stepG_seq xaq M;u_reg xaq M;u_op xaq M;u_op xaq M;u_op xaq M;u_op xaq M;refine Goes.stop (fun w2 h2=>?_);replace M:=xaq M h2;clear h2;refine⟨rfl,fun v hv hw=>?_⟩;rcases Nat.eq_zero_or_pos v with rfl|hvp
 ·replace hw:WgAt L.tWg Wg w2 0 0:=by simpa using hw
  have z:(((0:Nat):Int)+1)*KK=KK:=by simp
  rw[z];have e0:IntKind.u64.wrap (0+4294967296)=KK:=by decide
  refine⟨_,(stepG_add_atomic rfl rfl (by k_ne) rfl H.f_addU64 (x_addU64_n L) (x_addU64_b L) (x_addU64_x L) .u64 (x_addU64_f L) rfl rfl hw.cellSt (hw.thaw 0)).trans (by rw[e0];rfl),fun _=>⟨110,?_⟩,fun h=>absurd rfl h⟩;replace M:WgLive L.tWg Wg (w2.setCell (stA Wg) (.int .u64 KK)):=⟨_,_,hw.setSt _⟩
  clear hw;simp only[KK]at M⊢
  walk_nrm
  u_op xaq M;u_c stepG_region_end xaq M;u_c stepG_ret' xaq M
  u_leave1 H.f_uAdd xaq M
  u_op xaq M;u_c stepG_region_end xaq M;u_c stepG_seq xaq M;u_c stepG_seq xaq M;u_reg xaq M;u_op xaq M;u_op xaq M;u_op xaq M;u_op xaq M
  u_skip xaq M
  u_skip xaq M
  u_op xaq M;u_c stepG_region_end xaq M
  u_cond false xaq M
  u_c stepG_skip xaq M;u_c stepG_seq xaq M;u_reg xaq M;u_op xaq M;u_op xaq M;u_op xaq M;u_op xaq M;u_c stepG_region_end xaq M;u_c stepG_seq xaq M;u_reg xaq M;u_op xaq M;u_op xaq M;u_op xaq M;u_op xaq M;u_c stepG_region_end xaq M;u_c stepG_seq xaq M;u_c stepG_seq xaq M;u_reg xaq M;u_op xaq M;u_op xaq M;u_op xaq M;u_op xaq M;u_op xaq M;u_op xaq M;u_op xaq M;u_op xaq M;u_op xaq M;u_op xaq M;u_c stepG_region_end xaq M
  u_cond true xaq M
  u_reg xaq M;u_op xaq M;u_op xaq M;u_op xaq M
  u_conv H.underlying_tPU32 H.room_tU32 (WgLive.cell1 M).choose_spec xaq M
  refine Goes.stop (fun w3 h3=>?_);replace M:=xaq M h3;clear h3;refine⟨rfl,_,stepG_markAt .read s_ rfl rfl (by k_ne) rfl H.f_raceRead (x_raceRead_n L) (x_raceRead_b L) (x_raceRead_x L) (x_raceRead_f L) (by simp[Act.eval,smA]),110,?_⟩
  walk_nrm
  u_c stepG_region_end xaq M;u_c stepG_seq xaq M;u_c stepG_seq xaq M;u_reg xaq M;u_op xaq M;u_op xaq M;u_c stepG_region_end xaq M
  u_cond false xaq M
  u_c stepG_skip xaq M;u_c stepG_seq xaq M;u_c stepG_seq xaq M;u_reg xaq M;u_op xaq M;u_op xaq M;u_op xaq M
  u_skip xaq M
  u_skip xaq M
  u_op xaq M;u_op xaq M
  u_skip xaq M
  u_skip xaq M
  u_skip xaq M
  u_skip xaq M
  u_op xaq M;u_c stepG_region_end xaq M
  u_cond false xaq M
  u_c stepG_skip xaq M;u_c stepG_seq xaq M;u_c stepG_seq xaq M;u_reg xaq M;u_op xaq M;u_op xaq M;u_op xaq M
  u_skip xaq M
  u_skip xaq M
  u_op xaq M;u_c stepG_region_end xaq M
  u_cond true xaq M
  u_c stepG_ret' xaq M;refine Goes.stop (fun w4 h4=>?_);replace M:=xaq M h4;clear h4;refine⟨rfl,_,stepG_unwind_entry (v:=.tuple #[]) (evs:=#[mk .enable]) rfl H.f_enable (x_enable_n L) (x_enable_b L) (x_enable_x L) (x_enable_f L) (by simp[Extern.Race.none_]) (by simp[mk]) (by simp[mk]),4,?_⟩
  u_leave0 H.f_add xaq M
  exact Goes.stop fun w5 h5=>⟨rfl,xaq M h5⟩
 ·obtain⟨V,hV⟩:∃V:Int,V=(v:Int)+1:=⟨_,rfl⟩
  obtain⟨S,O⟩:∃S:Int,S=V*KK:=⟨_,rfl⟩
  have eS:IntKind.u64.wrap ((v:Int)*KK+4294967296)=S:=by rw[IntKind.wrap_u64,O,hV];simp only[KK];omega
  rw[<- hV,<- O];have a1:S / 4294967296=V:=by rw[O];simp only[KK];omega
  have b1:bits .and .u64 S 2147483648=0:=by rw[O,hV];have:=st_flag (v+1) 0 om om;simpa[KK]using this
  have b2:bits .and .u64 S 2147483647=0:=by rw[O,hV];have:=st_waiters (v+1) 0 om om;simpa[KK]using this
  have c1:IntKind.i32.wrap V=V:=by rw[IntKind.wrap_i32];omega
  have a3:1<V:=om;have a2:V<2147483648:=om;have q1:(V==1)=false:=by simp;omega
  have q2:decide (V=1)=false:=decide_eq_false om;have q3:decide (V<0)=false:=decide_eq_false om;have q4:decide (0<V)=true:=decide_eq_true om;have q5:(V==0)=false:=by simp;omega
  have q6:decide (V=0)=false:=decide_eq_false om;refine⟨_,(stepG_add_atomic rfl rfl (by k_ne) rfl H.f_addU64 (x_addU64_n L) (x_addU64_b L) (x_addU64_x L) .u64 (x_addU64_f L) rfl rfl hw.cellSt (hw.thaw 0)).trans (by rw[eS];rfl),fun h=>absurd h om,fun _=>⟨110,?_⟩⟩;replace M:WgLive L.tWg Wg (w2.setCell (stA Wg) (.int .u64 S)):=⟨_,_,hw.setSt _⟩
  clear hw O hV eS
  walk_nrm
  u_op xaq M;u_c stepG_region_end xaq M;u_c stepG_ret' xaq M
  u_leave1 H.f_uAdd xaq M
  u_op xaq M;u_c stepG_region_end xaq M;u_c stepG_seq xaq M;u_c stepG_seq xaq M;u_reg xaq M;u_op xaq M;u_op xaq M;u_op xaq M;u_op xaq M
  u_skip xaq M
  u_skip xaq M
  u_op xaq M;u_c stepG_region_end xaq M
  u_cnd false xaq M
  u_c stepG_skip xaq M;u_c stepG_seq xaq M;u_reg xaq M;u_op xaq M;u_op xaq M;u_op xaq M;u_op xaq M;u_c stepG_region_end xaq M;u_c stepG_seq xaq M;u_reg xaq M;u_op xaq M;u_op xaq M;u_op xaq M;u_op xaq M;u_c stepG_region_end xaq M;u_c stepG_seq xaq M;u_c stepG_seq xaq M;u_reg xaq M;u_op xaq M;u_op xaq M;u_op xaq M;u_op xaq M;u_op xaq M;u_op xaq M;u_op xaq M;u_op xaq M;u_op xaq M;u_op xaq M;u_c stepG_region_end xaq M
  u_cnd false xaq M
  u_c stepG_skip xaq M;u_c stepG_seq xaq M;u_c stepG_seq xaq M;u_reg xaq M;u_op xaq M;u_op xaq M;u_c stepG_region_end xaq M
  u_cnd false xaq M
  u_c stepG_skip xaq M;u_c stepG_seq xaq M;u_c stepG_seq xaq M;u_reg xaq M;u_op xaq M;u_op xaq M;u_op xaq M
  u_skip xaq M
  u_skip xaq M
  u_op xaq M;u_op xaq M
  u_skip xaq M
  u_skip xaq M
  u_skip xaq M
  u_skip xaq M
  u_op xaq M;u_c stepG_region_end xaq M
  u_cnd false xaq M
  u_c stepG_skip xaq M;u_c stepG_seq xaq M;u_c stepG_seq xaq M;u_reg xaq M;u_op xaq M;u_op xaq M;u_op xaq M
  u_skip xaq M
  u_skip xaq M
  u_op xaq M;u_c stepG_region_end xaq M
  u_cnd true xaq M
  u_c stepG_ret' xaq M;refine Goes.stop (fun w3 h3=>?_);replace M:=xaq M h3;clear h3;refine⟨rfl,_,stepG_unwind_entry (v:=.tuple #[]) (evs:=#[mk .enable]) rfl H.f_enable (x_enable_n L) (x_enable_b L) (x_enable_x L) (x_enable_f L) (by simp[Extern.Race.none_]) (by simp[mk]) (by simp[mk]),4,?_⟩
  u_leave0 H.f_add xaq M
  exact Goes.stop fun w5 h5=>⟨rfl,xaq M h5⟩
end
section
variable{L:WgLink}{Wg:Nat}{b₀:Frame}{a₀:Act}{ops₀:Array Oper}{i₀:Nat}{rest₀:List Nat}{k₀:List Item}{cs:List Frame}
set_option maxRecDepth 100000 in
set_option maxHeartbeats 8000000 in
theorem xf6{P:Program}(H:WgLib P L)(w:World)(M:WgLive L.tWg Wg w):
 ∃m,Goes P true (RLv L.tWg Wg) DC0 (AtKd P L.tWg Wg (Mt L Wg (b₀.at a₀ (.inRegion ops₀ (i₀::rest₀)::k₀)) cs)) m (G ((base L.wait).at ⟨#[w_ Wg 0,undef,undef,undef,undef,undef,undef,undef,undef,undef,undef,undef,undef,undef,undef,undef,undef,undef,undef,undef,undef,undef,undef,undef,undef,undef,undef,undef,undef,undef,undef,undef,undef,undef,undef,undef,undef,undef,undef,undef,undef,undef,undef,undef,undef,undef,undef,undef,undef,undef,undef,undef,undef,undef,undef,undef,undef,undef,undef,undef,undef,undef,undef,undef,undef,undef,undef,undef,undef,undef,undef,undef,undef,undef,undef,undef,undef,undef,undef,undef,undef,undef,undef,undef],[]⟩ [.code (body_wait L)]) (b₀.at a₀ (.inRegion ops₀ (i₀::rest₀)::k₀)::cs)) w:=by
 lib_facts
 simp only[body_wait,waitFn,Option.getD_some];refine⟨9,?_⟩;u_c stepG_seq xaq M
 u_cond true xaq M
 u_reg xaq M;refine Goes.stop (fun w1 O=>?_);replace M:=xaq M O;clear O;refine⟨rfl,_,stepG_mark0 .disable s_ rfl rfl (by k_ne) rfl H.f_disable (x_disable_n L) (x_disable_b L) (x_disable_x L) (x_disable_f L),9,?_⟩
 walk_nrm
 u_c stepG_region_end xaq M;u_c stepG_block xaq M;u_c stepG_loop xaq M;exact Goes.stop (fun w2 h2=>⟨_,rfl,s_,s_,xaq M h2⟩)
set_option maxRecDepth 100000 in
set_option maxHeartbeats 8000000 in
theorem xg6{P:Program}(H:WgLib P L)(g:Goroutine)(w:World)(h:Mt L Wg (b₀.at a₀ (.inRegion ops₀ (i₀::rest₀)::k₀)) cs g w):
 ∃m,Goes P true (RLv L.tWg Wg) DC0 (AtW1 P L.tWg Wg (G (b₀.at (a₀.put ((ops₀[i₀]?).bind (·.dst)) (.tuple #[])) (.inRegion ops₀ rest₀::k₀)) cs) (Mt L Wg (b₀.at a₀ (.inRegion ops₀ (i₀::rest₀)::k₀)) cs)) m g w:=by
 lib_facts
 obtain⟨T,rfl,a2,t0,M⟩:=h;obtain⟨v0,v1,v2,v3,v4,v5,v6,v7,v8,v9,v10,v11,v12,v13,v14,v15,v16,v17,v18,v19,v20,v21,v22,v23,v24,v25,v26,v27,v28,v29,v30,v31,v32,v33,v34,v35,v36,v37,v38,v39,v40,v41,v42,v43,v44,v45,v46,v47,v48,v49,v50,v51,v52,v53,v54,v55,v56,v57,v58,v59,v60,v61,v62,v63,v64,v65,v66,v67,v68,v69,v70,v71,v72,v73,v74,v75,v76,v77,v78,v79,v80,v81,v82,v83,rfl⟩:=Go.ConcR.Gen.array84 T a2;simp only[List.getElem?_toArray,List.getElem?_cons_zero,Option.some.injEq]at t0;subst t0;refine⟨30,?_⟩;simp only[L7,body_wait,waitFn,Option.getD_some];u_c stepG_block xaq M;u_c stepG_seq xaq M;u_reg xaq M;u_op xaq M;u_op xaq M;u_op xaq M
 u_call H.f_uLoad (nm_uLoad L) uLoadFn xaq M
 u_c stepG_seq xaq M;u_reg xaq M;u_op xaq M;u_c stepG_region_end xaq M;u_c stepG_seq xaq M;u_reg xaq M;u_op xaq M;u_op xaq M;u_op xaq M;refine Goes.stop (fun w1 h1=>?_);replace M:=xaq M h1;clear h1;refine⟨rfl,fun v hv hw=>?_⟩;rcases Nat.eq_zero_or_pos v with rfl|hvp
 ·replace hw:WgAt L.tWg Wg w1 0 0:=by simpa using hw
  refine⟨_,stepG_load_atomic (v:=0) rfl rfl (by k_ne) rfl H.f_loadU64 (x_loadU64_n L) (x_loadU64_b L) (x_loadU64_x L) .u64 (x_loadU64_f L) rfl hw.cellSt,fun _=>⟨60,?_⟩,fun h=>absurd rfl h⟩;clear hw
  walk_nrm
  u_op xaq M;u_c stepG_region_end xaq M;u_c stepG_ret' xaq M
  u_leave1 H.f_uLoad xaq M
  u_op xaq M;u_c stepG_region_end xaq M;u_c stepG_seq xaq M;u_reg xaq M;u_op xaq M;u_op xaq M;u_op xaq M;u_op xaq M;u_c stepG_region_end xaq M;u_c stepG_seq xaq M;u_reg xaq M;u_op xaq M;u_op xaq M;u_op xaq M;u_op xaq M;u_c stepG_region_end xaq M;u_c stepG_seq xaq M;u_c stepG_seq xaq M;u_reg xaq M;u_op xaq M;u_op xaq M;u_c stepG_region_end xaq M
  u_cond true xaq M
  u_c stepG_seq xaq M
  u_cond true xaq M
  u_c stepG_seq xaq M;u_reg xaq M;refine Goes.stop (fun w2 h2=>?_);replace M:=xaq M h2;clear h2;refine⟨rfl,_,stepG_mark0 .enable s_ rfl rfl (by k_ne) rfl H.f_enable (x_enable_n L) (x_enable_b L) (x_enable_x L) (x_enable_f L),12,?_⟩
  walk_nrm
  u_c stepG_region_end xaq M;u_reg xaq M;u_op xaq M
  u_conv H.underlying_tWgP H.room_tWg (WgLive.cell0 M).choose_spec xaq M
  refine Goes.stop (fun w3 h3=>?_);replace M:=xaq M h3;clear h3;refine⟨rfl,_,stepG_markAt .acquire s_ rfl rfl (by k_ne) rfl H.f_acquire (x_acquire_n L) (x_acquire_b L) (x_acquire_x L) (x_acquire_f L) (by simp[Act.eval,stA]),30,?_⟩
  walk_nrm
  u_c stepG_region_end xaq M;u_c stepG_seq xaq M;u_c stepG_seq xaq M;u_reg xaq M;u_op xaq M;u_op xaq M;u_op xaq M;u_op xaq M;u_op xaq M;u_op xaq M;u_op xaq M;u_op xaq M
  u_skip xaq M
  u_skip xaq M
  u_op xaq M;u_c stepG_region_end xaq M
  u_cond false xaq M
  u_c stepG_skip xaq M;u_c stepG_ret' xaq M
  u_leave0 H.f_wait xaq M
  exact Goes.stop fun w9 h9=>⟨rfl,xaq M h9⟩
 ·obtain⟨S,O⟩:∃S:Int,(v:Int)*KK=S:=⟨_,rfl⟩
  have a1:S / 4294967296=(v:Int):=by rw[<- O];simp only[KK];omega
  have b1:bits .and .u64 S 2147483648=0:=by rw[<- O];have:=st_flag v 0 om om;simpa[KK]using this
  have b2:bits .and .u64 S 2147483647=0:=by rw[<- O];have:=st_waiters v 0 om om;simpa[KK]using this
  have c1:IntKind.i32.wrap (v:Int)=(v:Int):=by rw[IntKind.wrap_i32];omega
  have a4:IntKind.u64.wrap (S+1)=S+1:=by rw[IntKind.wrap_u64,<- O];simp only[KK];omega
  have q3:decide ((v:Int)<0)=false:=decide_eq_false om;have q4:decide (0<(v:Int))=true:=decide_eq_true om;have q5:((v:Int)==0)=false:=by simp;omega
  have q6:decide ((v:Int)=0)=false:=decide_eq_false om;rw[O]at hw;refine⟨_,stepG_load_atomic (v:=S) rfl rfl (by k_ne) rfl H.f_loadU64 (x_loadU64_n L) (x_loadU64_b L) (x_loadU64_x L) .u64 (x_loadU64_f L) rfl hw.cellSt,fun h0=>absurd h0 om,fun _=>⟨60,?_⟩⟩;clear hw
  walk_nrm
  u_op xaq M;u_c stepG_region_end xaq M;u_c stepG_ret' xaq M
  u_leave1 H.f_uLoad xaq M
  u_op xaq M;u_c stepG_region_end xaq M;u_c stepG_seq xaq M;u_reg xaq M;u_op xaq M;u_op xaq M;u_op xaq M;u_op xaq M;u_c stepG_region_end xaq M;u_c stepG_seq xaq M;u_reg xaq M;u_op xaq M;u_op xaq M;u_op xaq M;u_op xaq M;u_c stepG_region_end xaq M;u_c stepG_seq xaq M;u_c stepG_seq xaq M;u_reg xaq M;u_op xaq M;u_op xaq M;u_c stepG_region_end xaq M
  u_cnd false xaq M
  u_c stepG_skip xaq M;u_c stepG_seq xaq M;u_reg xaq M;u_op xaq M;u_op xaq M;u_op xaq M;u_op xaq M;u_op xaq M;u_op xaq M
  u_call H.f_uCas (nm_uCas L) uCasFn xaq M
  u_c stepG_seq xaq M;u_reg xaq M;u_op xaq M;u_c stepG_region_end xaq M;u_c stepG_seq xaq M;u_reg xaq M;u_op xaq M;u_op xaq M;u_op xaq M;u_op xaq M;u_op xaq M;refine Goes.stop (fun w2 h2=>?_);replace M:=xaq M h2;clear h2;refine⟨rfl,fun v' a3 hw=>⟨fun e=>?_,fun e=>?_⟩⟩
  ·subst e;rw[O]at hw⊢;refine⟨_,(stepG_cas_hit (v:=S) (n:=S+1) rfl rfl (by k_ne) rfl H.f_casU64 (x_casU64_n L) (x_casU64_b L) (x_casU64_x L) .u64 (x_casU64_f L) rfl rfl rfl hw.cellSt (hw.thaw 0)).trans (by rfl),70,?_⟩;replace M:WgLive L.tWg Wg (w2.setCell (stA Wg) (.int .u64 (S+1))):=⟨_,_,hw.setSt _⟩
   clear hw
   walk_nrm
   u_op xaq M;u_c stepG_region_end xaq M;u_c stepG_ret' xaq M
   u_leave1 H.f_uCas xaq M
   u_c stepG_region_end xaq M
   u_cond true xaq M
   u_c stepG_seq xaq M;u_c stepG_seq xaq M;u_reg xaq M;u_op xaq M;u_op xaq M;u_op xaq M;u_op xaq M;u_c stepG_region_end xaq M
   u_cond true xaq M
   u_reg xaq M;u_op xaq M;u_op xaq M;u_op xaq M
   u_conv H.underlying_tPU32 H.room_tU32 (WgLive.cell1 M).choose_spec xaq M
   refine Goes.stop (fun w3 h3=>?_);replace M:=xaq M h3;clear h3;refine⟨rfl,_,stepG_markAt .write s_ rfl rfl (by k_ne) rfl H.f_raceWrite (x_raceWrite_n L) (x_raceWrite_b L) (x_raceWrite_x L) (x_raceWrite_f L) (by simp[Act.eval,smA]),70,?_⟩
   walk_nrm
   u_c stepG_region_end xaq M;u_c stepG_seq xaq M;u_reg xaq M;u_op xaq M;u_c stepG_region_end xaq M;u_c stepG_seq xaq M;u_c stepG_seq xaq M;u_reg xaq M;u_op xaq M;u_op xaq M;u_op xaq M;u_op xaq M
   u_skip xaq M
   u_op xaq M;u_c stepG_region_end xaq M
   u_cond false xaq M
   u_c stepG_skip xaq M;u_c stepG_seq xaq M;u_reg xaq M;u_op xaq M;u_op xaq M;u_op xaq M;u_op xaq M;refine Goes.stop (fun w4 h4=>?_);replace M:=xaq M h4;clear h4;refine⟨rfl,rfl,fun⟨st,hw⟩=>stepG_semacquire_wait rfl rfl rfl H.f_semacquire (x_semacquire_n L) (x_semacquire_b L) (x_semacquire_x L) (x_semacquire_f L) (by simp[Act.eval,smA]) hw.cellSm,fun hf=>?_⟩;refine⟨_,(stepG_semacquire (n:=1) rfl rfl (by k_ne) rfl H.f_semacquire (x_semacquire_n L) (x_semacquire_b L) (x_semacquire_x L) (x_semacquire_f L) (by simp[Act.eval,smA]) hf.cellSm (by k_ne) (hf.thaw 1)).trans (by rfl),30,?_⟩;replace M:WgLive L.tWg Wg (w4.setCell (smA Wg) (.int .u32 0)):=⟨_,_,hf.setSm 0⟩
   clear hf
   walk_nrm
   u_c stepG_region_end xaq M;u_c stepG_seq xaq M;u_reg xaq M;u_op xaq M;u_op xaq M;u_op xaq M
   u_call H.f_uLoad (nm_uLoad L) uLoadFn xaq M
   u_c stepG_seq xaq M;u_reg xaq M;u_op xaq M;u_c stepG_region_end xaq M;u_c stepG_seq xaq M;u_reg xaq M;u_op xaq M;u_op xaq M;u_op xaq M;refine Goes.stop (fun w5 h5=>?_);replace M:=xaq M h5;clear h5;refine⟨rfl,fun hw=>⟨_,stepG_load_atomic (v:=0) rfl rfl (by k_ne) rfl H.f_loadU64 (x_loadU64_n L) (x_loadU64_b L) (x_loadU64_x L) .u64 (x_loadU64_f L) rfl hw.cellSt,30,?_⟩⟩;clear hw
   walk_nrm
   u_op xaq M;u_c stepG_region_end xaq M;u_c stepG_ret' xaq M
   u_leave1 H.f_uLoad xaq M
   u_op xaq M;u_op xaq M;u_c stepG_region_end xaq M;u_c stepG_seq xaq M
   u_cond true xaq M
   u_c stepG_seq xaq M;u_reg xaq M;refine Goes.stop (fun w6 h6=>?_);replace M:=xaq M h6;clear h6;refine⟨rfl,_,stepG_mark0 .enable s_ rfl rfl (by k_ne) rfl H.f_enable (x_enable_n L) (x_enable_b L) (x_enable_x L) (x_enable_f L),12,?_⟩
   walk_nrm
   u_c stepG_region_end xaq M;u_reg xaq M;u_op xaq M
   u_conv H.underlying_tWgP H.room_tWg (WgLive.cell0 M).choose_spec xaq M
   refine Goes.stop (fun w7 h7=>?_);replace M:=xaq M h7;clear h7;refine⟨rfl,_,stepG_markAt .acquire s_ rfl rfl (by k_ne) rfl H.f_acquire (x_acquire_n L) (x_acquire_b L) (x_acquire_x L) (x_acquire_f L) (by simp[Act.eval,stA]),30,?_⟩
   walk_nrm
   u_c stepG_region_end xaq M;u_c stepG_seq xaq M;u_c stepG_seq xaq M;u_reg xaq M;u_op xaq M;u_c stepG_region_end xaq M
   u_cond false xaq M
   u_c stepG_skip xaq M;u_c stepG_ret' xaq M
   u_leave0 H.f_wait xaq M
   exact Goes.stop fun w9 h9=>⟨rfl,xaq M h9⟩
  ·refine⟨_,stepG_cas_miss (v:=(v':Int)*KK) (old:=S) (n:=S+1) rfl rfl (by k_ne) rfl H.f_casU64 (x_casU64_n L) (x_casU64_b L) (x_casU64_x L) .u64 (x_casU64_f L) rfl rfl rfl hw.cellSt (hw.thaw 0) (by rw[<- O];simp only[KK];omega),20,?_⟩;clear hw
   walk_nrm
   u_op xaq M;u_c stepG_region_end xaq M;u_c stepG_ret' xaq M
   u_leave1 H.f_uCas xaq M
   u_c stepG_region_end xaq M
   u_cond false xaq M
   u_c stepG_skip xaq M;u_c stepG_inBlock xaq M;u_c stepG_inLoop xaq M;refine Goes.stop (fun w3 h3=>?_);replace M:=xaq M h3;exact⟨_,rfl,s_,s_,M⟩
end
section
variable{L:WgLink}{Wg:Nat}{b₀:Frame}{a₀:Act}{ops₀:Array Oper}{i₀:Nat}{rest₀:List Nat}{k₀:List Item}{cs:List Frame}
set_option maxRecDepth 100000 in
set_option maxHeartbeats 8000000 in
theorem ybh{P:Program}(H:WgLib P L){qt:Nat}(hT:QuitsD P qt 0 (G (b₀.at (a₀.put ((ops₀[i₀]?).bind (·.dst)) (.tuple #[])) (.inRegion ops₀ rest₀::k₀)) cs))(w:World)(M:WgLive L.tWg Wg w):
 Goes P false (RLv L.tWg Wg) DC0 (AtR0 P L.tWg Wg) 40 (G ((base L.add).at ⟨#[w_ Wg 0,.J (-1),undef,undef,undef,undef,undef,undef,undef,undef,undef,undef,undef,undef,undef,undef,undef,undef,undef,undef,undef,undef,undef,undef,undef,undef,undef,undef,undef,undef,undef,undef,undef,undef,undef,undef,undef,undef,undef,undef,undef,undef,undef,undef,undef,undef,undef,undef,undef,undef,undef,undef,undef,undef,undef,undef,undef,undef,undef,undef,undef,undef,undef,undef,undef,undef,undef,undef,undef,undef,undef,undef,undef,undef,undef,undef,undef,undef,undef,undef,undef,undef,undef,undef,undef,undef,undef,undef,undef,undef,undef,undef,undef,undef,undef,undef,undef,undef,undef,undef,undef,undef,undef,undef,undef,undef,undef,undef,undef,undef,undef,undef,undef,undef,undef,undef,undef],[]⟩ [.code (body_add L)]) (b₀.at a₀ (.inRegion ops₀ (i₀::rest₀)::k₀)::cs)) w:=by
 lib_facts
 simp only[body_add,addFn,Option.getD_some];u_c stepG_seq xaq M
 u_cond true xaq M
 u_c stepG_seq xaq M;u_c stepG_seq xaq M;u_reg xaq M;u_op xaq M;u_op xaq M;u_c stepG_region_end xaq M
 u_cond true xaq M
 u_reg xaq M;u_op xaq M
 u_conv H.underlying_tWgP H.room_tWg (WgLive.cell0 M).choose_spec xaq M
 refine Goes.stop (fun w1 h1=>?_);replace M:=xaq M h1;clear h1;refine⟨rfl,_,stepG_markAt .releaseMerge s_ rfl rfl (by k_ne) rfl H.f_relMerge (x_relMerge_n L) (x_relMerge_b L) (x_relMerge_x L) (x_relMerge_f L) (by simp[Act.eval,stA]),20,?_⟩
 walk_nrm
 u_c stepG_region_end xaq M;u_c stepG_seq xaq M;u_reg xaq M;refine Goes.stop (fun w2 h2=>?_);replace M:=xaq M h2;clear h2;refine⟨rfl,_,stepG_mark0 .disable s_ rfl rfl (by k_ne) rfl H.f_disable (x_disable_n L) (x_disable_b L) (x_disable_x L) (x_disable_f L),60,?_⟩
 walk_nrm
 u_c stepG_region_end xaq M;u_reg xaq M
 u_defer xaq M
 u_c stepG_region_end xaq M;u_c stepG_seq xaq M;u_reg xaq M;u_op xaq M;u_c stepG_region_end xaq M;u_c stepG_seq xaq M;u_c stepG_seq xaq M;u_reg xaq M
 u_bub xaq M
 u_c stepG_region_end xaq M
 u_cond false xaq M
 u_c stepG_skip xaq M;u_c stepG_seq xaq M;u_reg xaq M;u_op xaq M;u_op xaq M;u_op xaq M;u_op xaq M;u_op xaq M;u_op xaq M
 u_call H.f_uAdd (nm_uAdd L) uAddFn xaq M
 u_c stepG_seq xaq M;u_reg xaq M;u_op xaq M;u_c stepG_region_end xaq M;u_c stepG_seq xaq M;u_reg xaq M;u_op xaq M;u_op xaq M;u_op xaq M;u_op xaq M;refine Goes.stop (fun w3 h3=>?_);clear h3 M;refine⟨rfl,fun v wt a4 hv hw=>?_⟩;have e0:IntKind.u64.wrap (KK+18446744069414584320)=0:=by decide
 have e1:IntKind.u64.wrap (KK+1+18446744069414584320)=1:=by decide
 rcases Nat.eq_zero_or_pos v with rfl|hvp<;>(obtain rfl|rfl:wt=0\/wt=1:=by omega)
 ·replace hw:WgAt L.tWg Wg w3 KK 0:=by simpa using hw
  have z:((0:Nat):Int)*KK+((0:Nat):Int)=0:=by simp
  rw[z];refine⟨_,(stepG_add_atomic rfl rfl (by k_ne) rfl H.f_addU64 (x_addU64_n L) (x_addU64_b L) (x_addU64_x L) .u64 (x_addU64_f L) rfl rfl hw.cellSt (hw.thaw 0)).trans (by rw[e0];rfl),fun hl=>absurd hl.2 d_,fun _=>⟨qt+89,?_⟩⟩;clear hw
  walk_nrm
  q_val (.int .u64 0)
  q_c stepG_region_end;q_c stepG_ret'
  q_leave1 H.f_uAdd
  q_val (.int .u64 0)
  q_c stepG_region_end;q_c stepG_seq;q_c stepG_seq;q_reg
  q_val (.int .u64 0)
  q_val (.int .u64 0)
  q_val (.bool false)
  q_val (.bool false)
  q_skip
  q_skip
  q_val (.bool false)
  q_c stepG_region_end
  q_cond false
  q_c stepG_skip;q_c stepG_seq;q_reg
  q_val (.int .u64 0)
  q_val (.int .u64 0)
  q_val (.int .i32 0)
  q_val (.int .i32 0)
  q_c stepG_region_end;q_c stepG_seq;q_reg
  q_val (.int .u64 0)
  q_val (.int .u64 0)
  q_val (.int .u32 0)
  q_val (.int .u32 0)
  q_c stepG_region_end;q_c stepG_seq;q_c stepG_seq;q_reg
  q_val (.bool true)
  q_val (.J (-1))
  q_val (.bool false)
  q_val (.bool false)
  q_val (.bool false)
  q_skip
  q_skip
  q_skip
  q_skip
  q_val (.bool false)
  q_c stepG_region_end
  q_cond false
  q_c stepG_skip;q_c stepG_seq;q_c stepG_seq;q_reg
  q_val (.int .i32 0)
  q_val (.bool false)
  q_c stepG_region_end
  q_cond false
  q_c stepG_skip;q_c stepG_seq;q_c stepG_seq;q_reg
  q_val (.int .u32 0)
  q_val (.bool false)
  q_val (.bool false)
  q_skip
  q_skip
  q_val (.bool false)
  q_val (.bool false)
  q_skip
  q_skip
  q_skip
  q_skip
  q_val (.bool false)
  q_c stepG_region_end
  q_cond false
  q_c stepG_skip;q_c stepG_seq;q_c stepG_seq;q_reg
  q_val (.int .i32 0)
  q_val (.bool false)
  q_val (.bool false)
  q_val (.int .u32 0)
  q_val (.bool true)
  q_val (.bool true)
  q_c stepG_region_end
  q_cond true
  q_c stepG_ret'
  q_enable
  q_leave0 H.f_add
  exact hT
 ·replace hw:WgAt L.tWg Wg w3 (KK+1) 0:=by simpa using hw
  have z:((0:Nat):Int)*KK+((1:Nat):Int)=1:=by simp
  rw[z];refine⟨_,(stepG_add_atomic rfl rfl (by k_ne) rfl H.f_addU64 (x_addU64_n L) (x_addU64_b L) (x_addU64_x L) .u64 (x_addU64_f L) rfl rfl hw.cellSt (hw.thaw 0)).trans (by rw[e1];rfl),fun _=>⟨180,?_⟩,fun hl=>absurd ⟨rfl,rfl⟩ hl⟩;have M:WgLive L.tWg Wg (w3.setCell (stA Wg) (.int .u64 1)):=⟨_,_,hw.setSt 1⟩
  clear hw
  walk_nrm
  u_op xaq M;u_c stepG_region_end xaq M;u_c stepG_ret' xaq M
  u_leave1 H.f_uAdd xaq M
  u_op xaq M;u_c stepG_region_end xaq M;u_c stepG_seq xaq M;u_c stepG_seq xaq M;u_reg xaq M;u_op xaq M;u_op xaq M;u_op xaq M;u_op xaq M
  u_skip xaq M
  u_skip xaq M
  u_op xaq M;u_c stepG_region_end xaq M
  u_cond false xaq M
  u_c stepG_skip xaq M;u_c stepG_seq xaq M;u_reg xaq M;u_op xaq M;u_op xaq M;u_op xaq M;u_op xaq M;u_c stepG_region_end xaq M;u_c stepG_seq xaq M;u_reg xaq M;u_op xaq M;u_op xaq M;u_op xaq M;u_op xaq M;u_c stepG_region_end xaq M;u_c stepG_seq xaq M;u_c stepG_seq xaq M;u_reg xaq M;u_op xaq M;u_op xaq M;u_op xaq M;u_op xaq M;u_op xaq M
  u_skip xaq M
  u_skip xaq M
  u_skip xaq M
  u_skip xaq M
  u_op xaq M;u_c stepG_region_end xaq M
  u_cond false xaq M
  u_c stepG_skip xaq M;u_c stepG_seq xaq M;u_c stepG_seq xaq M;u_reg xaq M;u_op xaq M;u_op xaq M;u_c stepG_region_end xaq M
  u_cond false xaq M
  u_c stepG_skip xaq M;u_c stepG_seq xaq M;u_c stepG_seq xaq M;u_reg xaq M;u_op xaq M;u_op xaq M;u_op xaq M;u_op xaq M;u_op xaq M;u_op xaq M;u_op xaq M
  u_skip xaq M
  u_skip xaq M
  u_skip xaq M
  u_skip xaq M
  u_op xaq M;u_c stepG_region_end xaq M
  u_cond false xaq M
  u_c stepG_skip xaq M;u_c stepG_seq xaq M;u_c stepG_seq xaq M;u_reg xaq M;u_op xaq M;u_op xaq M;u_op xaq M;u_op xaq M;u_op xaq M;u_op xaq M;u_c stepG_region_end xaq M
  u_cond false xaq M
  u_c stepG_skip xaq M;u_c stepG_seq xaq M;u_c stepG_seq xaq M;u_reg xaq M;u_op xaq M;u_op xaq M;u_op xaq M
  u_call H.f_uLoad (nm_uLoad L) uLoadFn xaq M
  u_c stepG_seq xaq M;u_reg xaq M;u_op xaq M;u_c stepG_region_end xaq M;u_c stepG_seq xaq M;u_reg xaq M;u_op xaq M;u_op xaq M;u_op xaq M;refine Goes.stop (fun w4 h4=>?_);clear h4 M;refine⟨rfl,fun hw=>⟨_,stepG_load_atomic (v:=1) rfl rfl (by k_ne) rfl H.f_loadU64 (x_loadU64_n L) (x_loadU64_b L) (x_loadU64_x L) .u64 (x_loadU64_f L) rfl hw.cellSt,60,?_⟩⟩;have M:WgLive L.tWg Wg w4:=⟨_,_,hw⟩
  clear hw
  walk_nrm
  u_op xaq M;u_c stepG_region_end xaq M;u_c stepG_ret' xaq M
  u_leave1 H.f_uLoad xaq M
  u_op xaq M;u_op xaq M;u_c stepG_region_end xaq M
  u_cond false xaq M
  u_c stepG_skip xaq M;u_c stepG_seq xaq M;u_reg xaq M;u_op xaq M;u_op xaq M;u_op xaq M
  u_call H.f_uStore (nm_uStore L) uStoreFn xaq M
  u_reg xaq M;u_op xaq M;u_op xaq M;u_op xaq M;u_op xaq M;refine Goes.stop (fun w5 h5=>?_);clear h5 M;refine⟨rfl,fun hw=>⟨_,stepG_store_atomic rfl rfl (by k_ne) rfl H.f_storeU64 (x_storeU64_n L) (x_storeU64_b L) (x_storeU64_x L) (x_storeU64_f L) rfl rfl hw.cellSt (hw.thaw 0),60,?_⟩⟩;have M:WgLive L.tWg Wg (w5.setCell (stA Wg) (.int .u64 0)):=⟨_,_,hw.setSt 0⟩
  clear hw
  walk_nrm
  u_c stepG_region_end xaq M;u_c stepG_end xaq M
  u_leave0 H.f_uStore xaq M
  u_c stepG_region_end xaq M;u_c stepG_seq xaq M;u_c stepG_seq xaq M;u_reg xaq M;u_op xaq M;u_c stepG_region_end xaq M
  u_cond false xaq M
  u_c stepG_skip xaq M;u_c stepG_block xaq M;u_c stepG_loop xaq M;u_c stepG_seq xaq M;u_c stepG_seq xaq M;u_reg xaq M;u_op xaq M;u_op xaq M;u_c stepG_region_end xaq M
  u_cond true xaq M
  u_c stepG_skip xaq M;u_c stepG_seq xaq M;u_c stepG_block xaq M;u_reg xaq M;u_op xaq M;u_op xaq M;u_op xaq M;refine Goes.stop (fun w6 h6=>?_);clear h6 M;refine⟨rfl,mayWake_entry rfl rfl H.f_semrelease (x_semrelease_b L),fun hw=>⟨_,(stepG_semrelease rfl rfl (by k_ne) rfl H.f_semrelease (x_semrelease_n L) (x_semrelease_b L) (x_semrelease_x L) (x_semrelease_f L) (by simp[Act.eval,smA]) hw.cellSm (hw.thaw 1)).trans (by rfl),qt+19,?_⟩⟩;clear hw
  walk_nrm
  q_c stepG_region_end;q_c stepG_inBlock;q_reg
  q_val (.int .u32 1)
  q_val (.int .u32 0)
  q_val (.int .u32 0)
  q_c stepG_region_end;q_c stepG_inLoop;q_c stepG_seq;q_c stepG_seq;q_reg
  q_val (.int .u32 0)
  q_val (.bool false)
  q_c stepG_region_end
  q_cond false
  q_exit
  q_c stepG_end
  q_enable
  q_leave0 H.f_add
  exact hT
 ·replace hw:WgAt L.tWg Wg w3 (((v:Nat)+1)*KK+0) 0:=by simpa using hw
  have z:((v:Nat):Int)*KK+((0:Nat):Int)=(v:Int)*KK+0:=by simp
  rw[z];have a3:0<v:=om;have eS:IntKind.u64.wrap (((v:Nat)+1)*KK+0+18446744069414584320)=(v:Int)*KK+0:=by rw[IntKind.wrap_u64];simp only[KK];omega
  obtain⟨S,O⟩:∃S:Int,S=(v:Int)*KK+0:=⟨_,rfl⟩
  rw[<- O]at eS⊢;have a1:S / 4294967296=(v:Int):=by rw[O];simp only[KK];omega
  have a2:0<=S/\S<9223372036854775808:=by rw[O];simp only[KK];omega
  have b1:bits .and .u64 S 2147483648=0:=by rw[O];have:=st_flag v 0 om om;simpa[KK]using this
  have b2:bits .and .u64 S 2147483647=0:=by rw[O];have:=st_waiters v 0 om om;simpa[KK]using this
  clear O z;refine⟨_,(stepG_add_atomic rfl rfl (by k_ne) rfl H.f_addU64 (x_addU64_n L) (x_addU64_b L) (x_addU64_x L) .u64 (x_addU64_f L) rfl rfl hw.cellSt (hw.thaw 0)).trans (by rw[eS];rfl),fun hl=>absurd hl.1 om,fun _=>⟨qt+89,?_⟩⟩;clear hw
  walk_nrm
  q_vn (.int .u64 S)
  q_c stepG_region_end;q_c stepG_ret'
  q_leave1 H.f_uAdd
  q_vn (.int .u64 S)
  q_c stepG_region_end;q_c stepG_seq;q_c stepG_seq;q_reg
  q_vn (.int .u64 S)
  q_vn (.int .u64 0)
  q_vn (.bool false)
  q_vn (.bool false)
  q_skip
  q_skip
  q_vn (.bool false)
  q_c stepG_region_end
  q_cond false
  q_c stepG_skip;q_c stepG_seq;q_reg
  q_vn (.int .u64 S)
  q_vn (.int .u64 (v:Int))
  q_vn (.int .i32 (v:Int))
  q_vn (.int .i32 (v:Int))
  q_c stepG_region_end;q_c stepG_seq;q_reg
  q_vn (.int .u64 S)
  q_vn (.int .u64 0)
  q_vn (.int .u32 0)
  q_vn (.int .u32 0)
  q_c stepG_region_end;q_c stepG_seq;q_c stepG_seq;q_reg
  q_vn (.bool true)
  q_vn (.J (-1))
  q_vn (.bool false)
  q_vn (.bool false)
  q_vn (.bool false)
  q_skip
  q_skip
  q_skip
  q_skip
  q_vn (.bool false)
  q_c stepG_region_end
  q_cond false
  q_c stepG_skip;q_c stepG_seq;q_c stepG_seq;q_reg
  q_vn (.int .i32 (v:Int))
  q_vn (.bool false)
  q_c stepG_region_end
  q_cond false
  q_c stepG_skip;q_c stepG_seq;q_c stepG_seq;q_reg
  q_vn (.int .u32 0)
  q_vn (.bool false)
  q_vn (.bool false)
  q_skip
  q_skip
  q_vn (.bool false)
  q_vn (.bool false)
  q_skip
  q_skip
  q_skip
  q_skip
  q_vn (.bool false)
  q_c stepG_region_end
  q_cond false
  q_c stepG_skip;q_c stepG_seq;q_c stepG_seq;q_reg
  q_vn (.int .i32 (v:Int))
  q_vn (.bool true)
  q_vn (.bool true)
  q_skip
  q_skip
  q_vn (.bool true)
  q_c stepG_region_end
  q_cond true
  q_c stepG_ret'
  q_enable
  q_leave0 H.f_add
  exact hT
 ·replace hw:WgAt L.tWg Wg w3 (((v:Nat)+1)*KK+1) 0:=by simpa using hw
  have z:((v:Nat):Int)*KK+((1:Nat):Int)=(v:Int)*KK+1:=by simp
  rw[z];have a3:0<v:=om;have eS:IntKind.u64.wrap (((v:Nat)+1)*KK+1+18446744069414584320)=(v:Int)*KK+1:=by rw[IntKind.wrap_u64];simp only[KK];omega
  obtain⟨S,O⟩:∃S:Int,S=(v:Int)*KK+1:=⟨_,rfl⟩
  rw[<- O]at eS⊢;have a1:S / 4294967296=(v:Int):=by rw[O];simp only[KK];omega
  have a2:0<=S/\S<9223372036854775808:=by rw[O];simp only[KK];omega
  have b1:bits .and .u64 S 2147483648=0:=by rw[O];have:=st_flag v 1 om om;simpa[KK]using this
  have b2:bits .and .u64 S 2147483647=1:=by rw[O];have:=st_waiters v 1 om om;simpa[KK]using this
  clear O z;refine⟨_,(stepG_add_atomic rfl rfl (by k_ne) rfl H.f_addU64 (x_addU64_n L) (x_addU64_b L) (x_addU64_x L) .u64 (x_addU64_f L) rfl rfl hw.cellSt (hw.thaw 0)).trans (by rw[eS];rfl),fun hl=>absurd hl.1 om,fun _=>⟨qt+89,?_⟩⟩;clear hw
  walk_nrm
  q_vn (.int .u64 S)
  q_c stepG_region_end;q_c stepG_ret'
  q_leave1 H.f_uAdd
  q_vn (.int .u64 S)
  q_c stepG_region_end;q_c stepG_seq;q_c stepG_seq;q_reg
  q_vn (.int .u64 S)
  q_vn (.int .u64 0)
  q_vn (.bool false)
  q_vn (.bool false)
  q_skip
  q_skip
  q_vn (.bool false)
  q_c stepG_region_end
  q_cond false
  q_c stepG_skip;q_c stepG_seq;q_reg
  q_vn (.int .u64 S)
  q_vn (.int .u64 (v:Int))
  q_vn (.int .i32 (v:Int))
  q_vn (.int .i32 (v:Int))
  q_c stepG_region_end;q_c stepG_seq;q_reg
  q_vn (.int .u64 S)
  q_vn (.int .u64 1)
  q_vn (.int .u32 1)
  q_vn (.int .u32 1)
  q_c stepG_region_end;q_c stepG_seq;q_c stepG_seq;q_reg
  q_vn (.bool true)
  q_vn (.J (-1))
  q_vn (.bool false)
  q_vn (.bool false)
  q_vn (.bool false)
  q_skip
  q_skip
  q_skip
  q_skip
  q_vn (.bool false)
  q_c stepG_region_end
  q_cond false
  q_c stepG_skip;q_c stepG_seq;q_c stepG_seq;q_reg
  q_vn (.int .i32 (v:Int))
  q_vn (.bool false)
  q_c stepG_region_end
  q_cond false
  q_c stepG_skip;q_c stepG_seq;q_c stepG_seq;q_reg
  q_vn (.int .u32 1)
  q_vn (.bool true)
  q_vn (.bool true)
  q_vn (.J (-1))
  q_vn (.bool false)
  q_vn (.bool false)
  q_vn (.bool false)
  q_skip
  q_skip
  q_skip
  q_skip
  q_vn (.bool false)
  q_c stepG_region_end
  q_cond false
  q_c stepG_skip;q_c stepG_seq;q_c stepG_seq;q_reg
  q_vn (.int .i32 (v:Int))
  q_vn (.bool true)
  q_vn (.bool true)
  q_skip
  q_skip
  q_vn (.bool true)
  q_c stepG_region_end
  q_cond true
  q_c stepG_ret'
  q_enable
  q_leave0 H.f_add
  exact hT
set_option maxRecDepth 100000 in
set_option maxHeartbeats 8000000 in
theorem yvb{P:Program}(H:WgLib P L){c:Frame}{qt:Nat}(O:c.mode=.returning)(hT:QuitsD P qt 0 (G c cs))(w:World)(M:WgLive L.tWg Wg w):
 Goes P false (RLv L.tWg Wg) DC0 (AtR0 P L.tWg Wg) 43 (G ((baseD L.done).at ⟨#[w_ Wg 0,undef,undef,undef],[]⟩ [.code (body_done L)]) (c::cs)) w:=by
 lib_facts
 have hA:=@ybh L Wg;simp only[body_done,body_add,doneFn,addFn,Option.getD_some]at hA⊢;u_reg xaq M;u_op xaq M
 u_in xaq M
 refine goes_call rfl rfl (by k_ne) rfl H.f_add (nm_add L) rfl ⟨by u_nil,?_⟩
 walk_nrmf addFn
 refine hA (qt:=qt+3) H ?_ _ M;q_c stepG_region_end;q_c stepG_end;exact QuitsD.leaveD rfl rfl H.f_done rfl O hT
end
theorem xbn{a:Array Value}{n:Nat}{l l':List Value}(M:a=l.toArray)(h:l++List.replicate n undef=l'):a++Array.replicate n undef=l'.toArray:=by
 subst h;subst M;simp
set_option maxRecDepth 100000 in
theorem ywz{P:Program}{L:WgLink}(H:WgLib P L)(x y:Value):Frame.enter P L.add #[x,y] .normal=(base L.add).at ⟨#[x,y,undef,undef,undef,undef,undef,undef,undef,undef,undef,undef,undef,undef,undef,undef,undef,undef,undef,undef,undef,undef,undef,undef,undef,undef,undef,undef,undef,undef,undef,undef,undef,undef,undef,undef,undef,undef,undef,undef,undef,undef,undef,undef,undef,undef,undef,undef,undef,undef,undef,undef,undef,undef,undef,undef,undef,undef,undef,undef,undef,undef,undef,undef,undef,undef,undef,undef,undef,undef,undef,undef,undef,undef,undef,undef,undef,undef,undef,undef,undef,undef,undef,undef,undef,undef,undef,undef,undef,undef,undef,undef,undef,undef,undef,undef,undef,undef,undef,undef,undef,undef,undef,undef,undef,undef,undef,undef,undef,undef,undef,undef,undef,undef,undef,undef,undef],[]⟩ [.code (body_add L)]:=by
 rw[enter_at _ H.f_add (show(addFn L).body=some (body_add L) from rfl)];have e:(#[x,y]:Array Value)++Array.replicate ((addFn L).ntmps-(#[x,y]:Array Value).size) undef=#[x,y,undef,undef,undef,undef,undef,undef,undef,undef,undef,undef,undef,undef,undef,undef,undef,undef,undef,undef,undef,undef,undef,undef,undef,undef,undef,undef,undef,undef,undef,undef,undef,undef,undef,undef,undef,undef,undef,undef,undef,undef,undef,undef,undef,undef,undef,undef,undef,undef,undef,undef,undef,undef,undef,undef,undef,undef,undef,undef,undef,undef,undef,undef,undef,undef,undef,undef,undef,undef,undef,undef,undef,undef,undef,undef,undef,undef,undef,undef,undef,undef,undef,undef,undef,undef,undef,undef,undef,undef,undef,undef,undef,undef,undef,undef,undef,undef,undef,undef,undef,undef,undef,undef,undef,undef,undef,undef,undef,undef,undef,undef,undef,undef,undef,undef,undef]:=xbn (l:=[x,y]) (n:=115) rfl rfl;rw[e]
set_option maxRecDepth 100000 in
theorem xr7{P:Program}{L:WgLink}(H:WgLib P L)(x:Value):Frame.enter P L.wait #[x] .normal=(base L.wait).at ⟨#[x,undef,undef,undef,undef,undef,undef,undef,undef,undef,undef,undef,undef,undef,undef,undef,undef,undef,undef,undef,undef,undef,undef,undef,undef,undef,undef,undef,undef,undef,undef,undef,undef,undef,undef,undef,undef,undef,undef,undef,undef,undef,undef,undef,undef,undef,undef,undef,undef,undef,undef,undef,undef,undef,undef,undef,undef,undef,undef,undef,undef,undef,undef,undef,undef,undef,undef,undef,undef,undef,undef,undef,undef,undef,undef,undef,undef,undef,undef,undef,undef,undef,undef,undef],[]⟩ [.code (body_wait L)]:=by
 rw[enter_at _ H.f_wait (show(waitFn L).body=some (body_wait L) from rfl)];have e:(#[x]:Array Value)++Array.replicate ((waitFn L).ntmps-(#[x]:Array Value).size) undef=#[x,undef,undef,undef,undef,undef,undef,undef,undef,undef,undef,undef,undef,undef,undef,undef,undef,undef,undef,undef,undef,undef,undef,undef,undef,undef,undef,undef,undef,undef,undef,undef,undef,undef,undef,undef,undef,undef,undef,undef,undef,undef,undef,undef,undef,undef,undef,undef,undef,undef,undef,undef,undef,undef,undef,undef,undef,undef,undef,undef,undef,undef,undef,undef,undef,undef,undef,undef,undef,undef,undef,undef,undef,undef,undef,undef,undef,undef,undef,undef,undef,undef,undef,undef]:=xbn (l:=[x]) (n:=83) rfl rfl;rw[e]
open Go.Conc Go.Conc.Lib
open Go.ConcR (DC0)
open Go.ConcN (WgLive)
section
variable{P:Program}{md:Md}{f:FuncId}{r:Rd}{df:List Deferred}{k:List Item}{cs:List Frame}{Stop:Goroutine->Heap->Prop}{ops rest:List Oper}{tm tm':List Value}{Φ:Heap->Prop}{L:WgLink}
 {dd:Tmp}{args:List Operand}{ats:Array TypeId}{ty:TypeId}{pos:String}{aft:Array Edge}{gd:Option (Nat×Bool)}{Wg:Nat}
def Lj(P:Program)(f:FuncId)(r:Rd)(df:List Deferred)(k:List Item)(cs:List Frame)(ops rest:List Oper)(tm':List Value)(gb:Goroutine):Prop:=
 ∀(O:Md)(Φ':Heap->Prop)(M:Goroutine->Heap->Prop)(h':Heap),RL P O f r df k cs M ops rest tm' Φ'->Φ' h'->Reach P O gb h' M
theorem xe0{M:List Oper}{o:Oper}(e:ops=M++o::rest)(hr:r.round=none){v:Value}(ht:Cm tm o.dst v=tm'):
 Lj P f r df k cs ops rest tm' (G ((B f r).at (Act.put ⟨tm.toArray,df⟩ ((ops.toArray[M.length]?).bind (·.dst)) v) (.inRegion ops.toArray (List.range' (M.length+1) rest.length)::k)) cs):=by
 intro a2 Φ' O h' x y;have:=x (M++[o]) (by simp[e]) h' y;rw[xod e];have e2:(B f r).at (Act.put ⟨tm.toArray,df⟩ ((some o).bind (·.dst)) v) (.inRegion ops.toArray (List.range' (M.length+1) rest.length)::k)=FL f r tm' df (.inRegion ops.toArray (List.range' (M.length+1) rest.length)::k):=by
  subst ht;rw[Nm hr];cases hd:o.dst with
  |none=>simp[Act.put,Cm,hd]
  |some d=>simp[Act.put,Cm,hd]
 rw[e2];simpa using this
theorem xsh{tm:List Value}{x:Operand}{g:FuncId}{vs:List Value}{h:Heap}{K:Next->Heap->Prop}(hx:evl tm x=.func (.func g) #[] #[])(M:args.map (evl tm)=vs)(O:Am P g=true)(y:K (.enter g vs.toArray) h):
 wpS P (execOp (evl tm) ⟨some dd,.call ⟨.value x,args.toArray,ats⟩,ty,pos,aft,gd⟩) h K:=by
 have:=xww (P:=P) (tm:=tm) (h:=h) (args:=args) (ats:=ats) (d:=some dd) (ty:=ty) (pos:=pos) (aft:=aft) (gd:=gd) (x:=x) (g:=g) (first:=[]) (cap:=[]) (vs:=vs) (by simpa using hx) (by simpa using M) O;refine xix this ?_;rintro n h' ⟨e1,e2⟩;subst e1;subst e2;simpa using y
set_option maxRecDepth 100000 in
theorem yon[Stb Φ](H:WgLib P L)(hm:Met ops tm ⟨some dd,.call ⟨.value (.func L.add),args.toArray,ats⟩,ty,pos,aft,gd⟩ true)(a2:args.map (evl tm)=[w_ Wg 0,.J 1])(hr:r.round=none)
 (hc:Am P L.add=true)(ht:tm.set dd (.tuple #[])=tm')
 (x:∀ge gb,(∀w,WgLive L.tWg Wg w-> ∃m,Goes P true (RLv L.tWg Wg) DC0 (AtKdS P L.tWg Wg gb) m ge w)->Lj P f r df k cs ops rest tm' gb-> ∀h,Φ h->Reach P md ge h Stop):
 RL P md f r df k cs Stop ops (⟨some dd,.call ⟨.value (.func L.add),args.toArray,ats⟩,ty,pos,aft,gd⟩::rest) tm Φ:=by
 intro M e;rw[xiw];refine xrp (xod e) (xbx hm) xvw (.inr rfl) fun h y=>?_;rw[xez];refine xsh rfl a2 hc ?_;refine x _ _ (fun w hw=>?_) (xe0 e hr (by exact ht)) h y;have O:=ydm (cs:=cs) (b₀:=B f r) (a₀:=⟨tm.toArray,df⟩) (ops₀:=ops.toArray) (i₀:=M.length) (rest₀:=List.range' (M.length+1) rest.length) (k₀:=k) H w hw;have e2:(F (B f r) tm.toArray df (.inRegion ops.toArray (M.length::List.range' (M.length+1) rest.length)::k))=(B f r).at ⟨tm.toArray,df⟩ (.inRegion ops.toArray (M.length::List.range' (M.length+1) rest.length)::k):=Nm hr;have e1:([w_ Wg 0,.J 1]:List Value).toArray=#[w_ Wg 0,.J 1]:=rfl;rw[e2,e1,ywz H];exact O
set_option maxRecDepth 100000 in
theorem yhg[Stb Φ](H:WgLib P L)(hm:Met ops tm ⟨some dd,.call ⟨.value (.func L.wait),args.toArray,ats⟩,ty,pos,aft,gd⟩ true)(a2:args.map (evl tm)=[w_ Wg 0])(hr:r.round=none)
 (hc:Am P L.wait=true)(ht:tm.set dd (.tuple #[])=tm')
 (x:∀ge gb(An:Goroutine->World->Prop),(∀g w,An g w->g.status=.running)->(∀g w,An g w-> ∃m,Goes P true (RLv L.tWg Wg) DC0 (AtW1 P L.tWg Wg gb An) m g w)->(∀w,WgLive L.tWg Wg w-> ∃m,Goes P true (RLv L.tWg Wg) DC0 (AtKd P L.tWg Wg An) m ge w)->
  (∃l,gb=G (FL f r tm' df (.inRegion ops.toArray l::k)) cs/\l=List.range' (ops.length-rest.length) rest.length)-> ∀h,Φ h->Reach P md ge h Stop):
 RL P md f r df k cs Stop ops (⟨some dd,.call ⟨.value (.func L.wait),args.toArray,ats⟩,ty,pos,aft,gd⟩::rest) tm Φ:=by
 intro M e;rw[xiw];refine xrp (xod e) (xbx hm) xvw (.inr rfl) fun h y=>?_;rw[xez];refine xsh rfl a2 hc ?_;have e2:(F (B f r) tm.toArray df (.inRegion ops.toArray (M.length::List.range' (M.length+1) rest.length)::k))=(B f r).at ⟨tm.toArray,df⟩ (.inRegion ops.toArray (M.length::List.range' (M.length+1) rest.length)::k):=Nm hr;rw[e2]
 refine x _ (G ((B f r).at (Act.put ⟨tm.toArray,df⟩ ((ops.toArray[M.length]?).bind (·.dst)) (.tuple #[])) (.inRegion ops.toArray (List.range' (M.length+1) rest.length)::k)) cs) (Mt L Wg ((B f r).at ⟨tm.toArray,df⟩ (.inRegion ops.toArray (M.length::List.range' (M.length+1) rest.length)::k)) cs)
  (fun g w⟨T,hg,_⟩=>by rw[hg];rfl) (fun g w hA=>xg6 H g w hA) (fun w hw=>?_) ⟨_,?_,rfl⟩ h y
 ·have O:=xf6 (cs:=cs) (b₀:=B f r) (a₀:=⟨tm.toArray,df⟩) (ops₀:=ops.toArray) (i₀:=M.length) (rest₀:=List.range' (M.length+1) rest.length) (k₀:=k) H w hw;have e1:([w_ Wg 0]:List Value).toArray=#[w_ Wg 0]:=rfl;rw[e1,xr7 H];exact O
 ·rw[xod e];have hl:ops.length-rest.length=M.length+1:=by rw[e];simp;omega
  rw[hl];subst ht;rw[Nm hr];simp[Act.put]
theorem yxr[Stb Φ]{x:Operand}{g:FuncId}{first cap vs:List Value}(hm:Met ops tm ⟨none,.go ⟨.value x,args.toArray,ats⟩,ty,pos,aft,gd⟩ true)(hx:evl tm x=.func (.func g) first.toArray cap.toArray)(O:args.map (evl tm)=vs)(hr:r.round=none)
 (n:∀ga gn,ga.status=.running->(∀w,stepG P true ga w=.spawn gn (born P {target:=.fn (.func g) cap.toArray,args:=(first++vs).toArray}) w #[])->Lj P f r df k cs ops rest tm gn-> ∀h,Φ h->Reach P md ga h Stop):
 RL P md f r df k cs Stop ops (⟨none,.go ⟨.value x,args.toArray,ats⟩,ty,pos,aft,gd⟩::rest) tm Φ:=by
 intro a3 e h y;rw[xiw];have hb:=xe0 (P:=P) (f:=f) (df:=df) (k:=k) (cs:=cs) (tm:=tm) (tm':=tm) e hr (v:=undef) rfl;have M:Act.eval ⟨tm.toArray,df⟩=evl tm:=by
  funext z;rw[<- xez];cases z<;>rfl
 rw[Nm hr];refine n _ _ rfl (fun w=>?_) hb h y;have hw:=xbx hm;have a2:(execOp (Act.eval ⟨tm.toArray,df⟩) ⟨none,.go ⟨.value x,args.toArray,ats⟩,ty,pos,aft,gd⟩).run P w=.ok (.spawn {target:=.fn (.func g) cap.toArray,args:=(first++vs).toArray}) w:=by
  rw[M];unfold execOp;simp[resolve,Deferred.ofValue,hx,O]
 rw[stepG_spawn (f:=.func g) (c:=cap.toArray) (xod e) (by exact hw) xvw a2 rfl];have hl:listed P (B f r).fn ⟨tm.toArray,df⟩ ⟨none,.go ⟨.value x,args.toArray,ats⟩,ty,pos,aft,gd⟩ w=#[]:=by
  unfold listed;rw[M];have:(execOp (evl tm) ⟨none,.go ⟨.value x,args.toArray,ats⟩,ty,pos,aft,gd⟩).events P w #[]=#[]:=by
   unfold execOp;simp[resolve,Deferred.ofValue,hx,O]
  rw[this,seen_none]
 rw[hl,xod e];rfl
end
open Go.Conc Go.Conc.Lib Go.ConcR.Gen
section
variable{P:Program}{f:FuncId}{Stop:Goroutine->Heap->Prop}{Φ:Heap->Prop}{L:WgLink}{Wg:Nat}{tm:Array Value}{td:List Item}
theorem xt6{fn:Func}(hf:P.funcs[f]?=some fn)(M:fn.results=#[]):QuitsD P 2 0 (G (FR (B f .dfd) tm [] td) [Mx P]):=by
 refine QuitsD.ctl (g':=G (Mx P) []) rfl (fun w=>?_) ?_
 ·simp[G,stepG,unwind,doReturn,results,FR,B,Rd.kind,Rd.round,Mx,hf,M,seen,GStep.after,goexitEntry]
 refine QuitsD.ctl (g':={G (Mx P) []with status:=.finished}) rfl (fun w=>?_) ⟨rfl,rfl⟩;simp[G,stepG,unwind,Mx,goexitEntry,Frame.catches];rfl
theorem yqf[Stb Φ](H:WgLib P L){fn:Func}(hf:P.funcs[f]?=some fn)(O:fn.results=#[])
 (x:∀M,(∀w,WgLive L.tWg Wg w-> ∃m,Goes P false (RLv L.tWg Wg) DC0 (AtR0 P L.tWg Wg) m M w)-> ∀h,Φ h->Reach P (.own false) M h Stop):
 RS P (.own false) (G (FR (B f .dfd) tm [dcall L.done #[w_ Wg 0]] td) [Mx P]) Φ Stop:=by
 refine xmc (g':=G ((baseD L.done).at {tmps:=#[w_ Wg 0]++Array.replicate ((doneFn L).ntmps-(#[w_ Wg 0]:Array Value).size) undef,defers:=[]} [.code (body_done L)]) (FR (B f .dfd) tm [] td::[Mx P])) rfl (fun w=>?_) ?_
 ·exact stepG_unwind_enter (b:=B f .dfd) (a:=⟨tm,[dcall L.done #[w_ Wg 0]]⟩) (ds:=[]) (todo:=td) rfl H.f_done (nm_done L) rfl
 ·exact fun h y=>x _ (fun w hw=>⟨43,yvb H rfl (xt6 hf O) w hw⟩) h y
end
section
variable{h:Heap}{b:Nat}
def Hp(h:Heap):Ab:=fun b=>h[b]?
theorem xd6:Per (Hp h) h:=fun _ _ e=>e
theorem xpm{h':Heap}(k:Af h h'):PLe (Hp h) (Hp h'):=fun b o e=>by
 unfold Hp at e⊢;rw[k.Cq b (Array.getElem?_eq_some_iff.1 e).1];exact e
def HC(h:Heap)(b:Nat)(c:Array Value)(e:TypeId):Prop:=∃z,h[b]?=some (.cells c e z)
theorem HC.Cq{h':Heap}{c:Array Value}{e:TypeId}(x:HC h b c e)(k:Af h h'):HC h' b c e:=by
 obtain⟨z,M⟩:=x;exact⟨z,(k.Cq b (Array.getElem?_eq_some_iff.1 M).1).trans M⟩
theorem HC.cut{c:Array Value}{e:TypeId}{A K:List Nat}(x:HC h b c e)(h1:b∉A):HC (C6 A K h) b c e:=by
 obtain⟨z,M⟩:=x;by_cases O:b∈K
 ·exact⟨z,by rw[xkc,M];simp[h1,O]⟩
 ·exact⟨(0,c.size),by rw[xkc,M];simp[h1,O,O7]⟩
theorem xzd{o:Obj}{A K:List Nat}(M:h[b]?=some o)(O:b∉A)(h2:b∈K):(C6 A K h)[b]?=some o:=by rw[xkc,M];simp[O,h2]
theorem Exc.of{c:Array Value}{e:TypeId}(M:h[b]?=some (.cells c e (0,0)))(hc:0<c.size):Exc h b:=⟨c,e,M,hc⟩
theorem xhg(a:Addr)(n:Nat):(a.add n).block=a.block:=by unfold Addr.add;split<;>rfl
theorem ysq{p:Ab}{A K:List Nat}{a:Addr}{v:Value}(O:∀b o,p b=some o->h[b]?=some o)(hA:a.block∉A)(x:At p a=some v):At (Hp (C6 A K h)) a=some v:=by
 unfold At at x;split at x
 ·rename_i c t z hb;obtain⟨z',M⟩:=HC.cut (A:=A) (K:=K) ⟨z,O _ _ hb⟩ hA;unfold At Hp;rw[M];exact x
 ·cases x
theorem xin{p:Ab}{A K:List Nat}{a:Option Addr}{n w:Nat}{es:List (List Value)}(s:Sl p a n w es)(O:∀b o,p b=some o->h[b]?=some o)(hA:0<n->(adr a).block∉A):Sl (Hp (C6 A K h)) a n w es:=
 ⟨s.len,s.wid,s.ne,fun i e hi j v M=>by
  have hn:0<n:=by have:=(List.getElem?_eq_some_iff.1 hi).1;have:=s.len;omega
  refine ysq O ?_ (s.get i e hi j v M);rw[xhg,xhg];exact hA hn⟩
theorem xac{p:Ab}{a:Option Addr}{n w:Nat}{es:List (List Value)}(s:Sl p a n w es)(hw:0<w)(O:p b=none)(hn:0<n):(adr a).block≠b:=by
 intro e;have M:0<es.length:=by have:=s.len;omega
 have hl:=s.wid es[0] (List.getElem_mem M);have:=s.get 0 es[0] (List.getElem?_eq_getElem M) 0 (es[0][0]'om) (List.getElem?_eq_getElem om);unfold At at this;rw[xhg,xhg,e,O]at this;cases this
theorem xzz{a:Nat}(h:a≠b):a∉[b]:=by simpa using h
end
end Go.X
namespace Go.Proofs
abbrev Tryz.link:Go.Conc.Lib.WgLink:={add:=242,done:=244,wait:=246,relMerge:=280,disable:=281,enable:=282,inBubble:=283,associate:=284,fatal:=285,uOr:=286,uAdd:=287,raceRead:=288,uLoad:=289,uStore:=290,disassociate:=291,semrelease:=292,acquire:=296,isAssociated:=297,uCas:=298,raceWrite:=299,semacquire:=300,orU64:=328,addU64:=329,loadU64:=330,storeU64:=331,casU64:=332,tWgP:=304,tUP:=306,tAssoc:=307,tWg:=278,tAU:=275,tU64:=273,tUint:=209,tU32:=276,tPU32:=311,tPAU:=346,tPU64:=348,tNoCopy:=270,tANoCopy:=271,tAlign64:=272}
theorem Tryz.M3:Go.Conc.Lib.WgLib Tryz.prog Tryz.link:=
 ⟨Tryz.func242,Tryz.func244,Tryz.func246,Tryz.func280,Tryz.func281,Tryz.func282,Tryz.func283,Tryz.func284,Tryz.func285,Tryz.func286,Tryz.func287,Tryz.func288,Tryz.func289,Tryz.func290,Tryz.func291,Tryz.func292,Tryz.func296,Tryz.func297,Tryz.func298,Tryz.func299,Tryz.func300,Tryz.func328,Tryz.func329,Tryz.func330,Tryz.func331,Tryz.func332,Tryz.underlying304,Tryz.runUnderlying304,Tryz.sizeOf304,Tryz.isAgg304,Tryz.zeroValue304,Tryz.underlying306,Tryz.runUnderlying306,Tryz.sizeOf306,Tryz.isAgg306,Tryz.zeroValue306,Tryz.underlying307,Tryz.runUnderlying307,Tryz.sizeOf307,Tryz.isAgg307,Tryz.zeroValue307,Tryz.underlying278,Tryz.runUnderlying278,Tryz.sizeOf278,Tryz.isAgg278,Tryz.zeroValue278,Tryz.underlying275,Tryz.runUnderlying275,Tryz.sizeOf275,Tryz.isAgg275,Tryz.zeroValue275,Tryz.underlying273,Tryz.runUnderlying273,Tryz.sizeOf273,Tryz.isAgg273,Tryz.zeroValue273,Tryz.underlying209,Tryz.runUnderlying209,Tryz.sizeOf209,Tryz.isAgg209,Tryz.zeroValue209,Tryz.underlying276,Tryz.runUnderlying276,Tryz.sizeOf276,Tryz.isAgg276,Tryz.zeroValue276,Tryz.underlying311,Tryz.runUnderlying311,Tryz.sizeOf311,Tryz.isAgg311,Tryz.zeroValue311,Tryz.underlying346,Tryz.runUnderlying346,Tryz.sizeOf346,Tryz.isAgg346,Tryz.zeroValue346,Tryz.underlying348,Tryz.runUnderlying348,Tryz.sizeOf348,Tryz.isAgg348,Tryz.zeroValue348,Tryz.underlying0,Tryz.runUnderlying0,Tryz.sizeOf0,Tryz.isAgg0,Tryz.zeroValue0,Tryz.underlying3,Tryz.runUnderlying3,Tryz.sizeOf3,Tryz.isAgg3,Tryz.zeroValue3,Tryz.underlying4,Tryz.runUnderlying4,Tryz.sizeOf4,Tryz.isAgg4,Tryz.zeroValue4,Tryz.underlying9,Tryz.runUnderlying9,Tryz.sizeOf9,Tryz.isAgg9,Tryz.zeroValue9,Tryz.underlying20,Tryz.runUnderlying20,Tryz.sizeOf20,Tryz.isAgg20,Tryz.zeroValue20,Tryz.underlying21,Tryz.runUnderlying21,Tryz.sizeOf21,Tryz.isAgg21,Tryz.zeroValue21,k_,k_⟩
end Go.Proofs
