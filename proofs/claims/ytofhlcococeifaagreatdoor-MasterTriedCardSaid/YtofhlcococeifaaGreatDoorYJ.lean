/-
  Part of proofs about a town's master: a calculus for Bc beside goroutines that are only leaving, and the Bc. No condition.
-/
import Derived.Test.YtofhlcococeifaaGreatDoorYA
import Derived.Conc.LeavingOf
import Derived.Deep.Slices
import Derived.Lib.SmallJoins
import Derived.Conc.CrowdRun
import Derived.Conc.TokenTrace
import Derived.Conc.WgGenN3
import Derived.Conc.CrowdStepC2
import Derived.Conc.DeferLaws
import Derived.Conc.Own2
import Derived.Test.YtofhlcococeifaaGreatDoorChecked
import Derived.Conc.WgLib
set_option maxHeartbeats 8000000
set_option maxRecDepth 100000
namespace Go.X
open Go.Conc Go.RowKit
variable{ats:Array TypeId}{args:Array Value}{f:FuncId}{h h':Heap}{Φ:Heap->Prop}{sm' st st':Int}{td:List Item}{A K Z rest₀ zz:List Nat}{tm vs:List Value}{md:Md}{M b d f0 fl i i₀ j n μ:Nat}{wk:Nat->Bool}{Ψ:Nat->Heap->Prop}{E:Nat->List Value}{dd:Nat->Nat}{S:Nat->Prop}{gd:Option (Nat×Bool)}{sl':Option (Nat×Nat)}{P:Program}{tb ty:TypeId}{v:Value}{R:Value->Heap->Prop}{w:World}
def Pb(P:Program)(v:Value)(g:Goroutine):Prop:=g.status=.running/\ ∀w:World,stepG P true g w=.ended (.done v) w #[]
def Mh(P:Program)(R:Value->Heap->Prop)(g:Goroutine)(h:Heap):Prop:=∃v,Pb P v g/\R v h
def En(P:Program)(md:Md)(f:FuncId)(args:Array Value)(h:Heap)(R:Value->Heap->Prop):Prop:=Reach P md (G (Frame.enter P f args .normal) []) h (Mh P R)
section
variable{k:List Item}
theorem yr0{fn:Func}{t:Nat}(hi:P.inits.idxOf? f=none)(hf:P.funcs[f]?=some fn)(H:fn.results=#[.tmp t])(hv:tm.getD t undef=v):Pb P v (G (FR (B f .none) tm.toArray [] td) []):=by
 refine⟨rfl,fun w=>?_⟩;have e:(results fn tm.toArray).runT P w #[]=(.ok v w,#[]):=by
  unfold results;simp[H,<- hv]
 have es:seen P (B f .none).fn #[]=#[]:=by simp[seen]
 simp only[G,stepG,unwind,FR,show P.funcs[(B f .none).fn]?=some fn from hf,e,doReturn,GStep.after,es,show P.inits.idxOf? (B f .none).fn=none from hi];rfl
theorem xd2{fn:Func}{c:Code}(hf:P.funcs[f]?=some fn)(M:fn.body=some c)(O:args.toList++List.replicate (fn.ntmps-args.size) undef=tm)
 (x:(∀v h',R v h'->R v h')->RS P md (G (FL f .none tm [] [.code c]) []) Φ (Mh P R))(H:Φ h):En P md f args h R:=by
 have:=x (fun _ _ y=>y) h H;have e:Frame.enter P f args .normal=FL f .none tm [] [.code c]:=by
  unfold Frame.enter;simp only[hf,M,Option.map_some,Option.bind_some,Option.getD_some,FL,F,B,<- O];simp[Rd.kind,Rd.round]
 unfold En;rw[e];exact this
theorem ywn[Stb Φ]{fn:Func}{t:Nat}(hi:P.inits.idxOf? f=none)(hf:P.funcs[f]?=some fn)(V:fn.results=#[.tmp t])(e:∀h,Φ h->Res P h tm [.tmp t] vs)(hv:F9 vs=v)
 (x:∀h,Φ h->R v h):RS P md (G (FL f .none tm [] (.code .ret::k)) []) Φ (Mh P R):=
 yjz (hro:=rfl) fun _=>fun h y=>xrk (by
  obtain⟨v',H,rfl,M,O⟩:=e h y;obtain rfl:H=[]:=O;subst hv;exact⟨_,yr0 hi hf V M,x h y⟩)
end
def Pn:Obj->Obj
 |.cells c e f=>if c.size=0 then .cells #[] 0 (0,0)else .cells c e f
 |o=>o
def Ku(r:Heap):Heap:=r.map Pn
def Empty(r:Heap)(b:Nat):Prop:=∃e f,r[b]?=some (.cells #[] e f)
theorem xz6{r:Heap}:(Ku r)[b]?=(r[b]?).map Pn:=by simp[Ku]
theorem xn1{r:Heap}:(Ku r).size=r.size:=by simp[Ku]
theorem xqf{r:Heap}(h:¬ Empty r b):(Ku r)[b]?=r[b]?:=by
 rw[xz6];cases e:r[b]? with
 |none=>rfl
 |some o=>
   cases o with
   |cells c t f=>
     have hc:c.size≠0:=fun H=>h ⟨t,f,by rw[e,Array.eq_empty_of_size_eq_zero H]⟩;simp[Pn,hc]
   |_=>rfl
theorem yek{r:Heap}:Cq (.of (Empty r)) (Ku r) r:=by
 refine⟨xn1,fun b H _=>xqf H,fun b H=>?_,fun b hs=>hs.elim⟩;obtain⟨e,f,he⟩:=H;rw[xz6,he];simp[Pn]
theorem ycd{Sh:Loc->Prop}{B:Nat}:Past Sh B #[]:=
 ⟨fun said=>by rintro⟨i,j,_,⟨a,b,H,_⟩,_⟩;simp[Trace.act?]at H,fun i a H=>by simp[touchAt,Trace.act?]at H,fun i g M=>by simp[Trace.g?]at M,rfl,s_⟩
theorem xwk(x:En P (.main true) f args (Ku w.heap) R)(hR:∀v h',R v h'->Av (Ku w.heap) h'):
 ∃N last o w' t',runNT P (N+1) (solo (G (Frame.enter P f args .normal) []) w) #[]=(.ended o w',t')/\runN P N (solo (G (Frame.enter P f args .normal) []) w)=.next last/\step P last=.ended o w'/\
  Go.Conc.Good P (fun v w'=>Below w.heap.size w w'/\ ∃h',R v h') last o w' t':=by
 have sc:H8 P (Empty w.heap) #[G (Frame.enter P f args .normal) []] w #[] (fun _=>0) (G (Frame.enter P f args .normal) []) (Ku w.heap):=⟨rfl,leavers_one P _,ycd,yek⟩
 obtain⟨N,S',gs',w1,sl',t',q',g',h',V,M,⟨v,O,hv⟩,hq,_,hS⟩:=x _ _ w none _ _ sc;have a2:∀H,AtRel w1 H->Below w.heap.size w H:=by
  rintro _ ⟨d,rfl⟩;refine⟨hq.calm.os,hq.calm.tape,hq.calm.output,hq.calm.size,fun k hk=>?_⟩;show w1.heap[k]?=w.heap[k]?;by_cases he:Empty w.heap k
  ·exact hq.F7 k hk (.inl he)
  ·have h1:=(hR v h' hv).C3 k (by rw[xn1];exact hk);have h2:¬ S' k:=fun hs=>by
    have h3:=M.Hj.Kn k hs;rw[h1,xqf he]at h3;exact he ⟨_,_,h3⟩
   exact(M.Hj.same k h2 (fun y=>y)).symm.trans (h1.trans (xqf he))
 obtain⟨N2,last,o,w2,t2,h1,h2,h3,h4⟩:=beside_ends (P:=P) (Shun:=Kk S') (B:=w1.heap.size) (D:=fun _ _ _=>False) (Post:=fun v w'=>Below w.heap.size w w'/\ ∃h',R v h') (n:=0) (fun _ _ _ y=>y.elim) (sl:=sl') M.main M.P7 M.Bz
  (fun H hr=>⟨O.1,v,#[],O.2 H,s_,a2 H hr,h',hv⟩)
 refine⟨N+N2,last,o,w2,t2,?_,?_,h3,h4⟩
 ·rw[Nat.add_assoc,runNT_add,solo_eq_crowd,V];exact h1
 ·rw[runN_add,<- runNT_fst P N _ #[],solo_eq_crowd,V];exact h2
open Go.Conc Go.RowKit Go.ChangeShapes Go.WideShapes Go.ChangeAt
variable{before:List MemPlace}{p:Ab}{W W':World}
def vwP(W:World):Ab:=fun b=>(Ku W.heap)[b]?
theorem xzr(W:World):Per (vwP W) (Ku W.heap):=fun _ _ e=>e
theorem ybd{a:Addr}(h:W.cell? a=some v):Aw (vwP W) a=some v:=by
 unfold World.cell? at h;unfold Aw vwP;cases e:W.heap[a.block]? with
 |none=>rw[e]at h;cases h
 |some o=>
   rw[e]at h;cases o with
   |cells c t f=>
     have H:¬ Empty W.heap a.block:=by
      rintro⟨t',f',h'⟩;rw[e]at h';obtain⟨rfl,rfl,rfl⟩:c=#[]/\t=t'/\f=f':=by simpa using h'
      revert h;simp
     rw[xqf H,e];exact h
   |_=>cases h
theorem xb7{f:Nat->Option Value}:∀{l:List Nat}{r:List Value},l.mapM f=some r->r.length=l.length/\ ∀(j:Nat)(x:Value),r[j]?=some x-> ∃i,l[j]?=some i/\f i=some x
 |[],r,h=>by simp at h;subst h;simp
 |i::l,r,h=>by
   simp only[List.mapM_cons,Option.bind_eq_bind,Option.bind_eq_some_iff]at h;obtain⟨y,V,ys,M,e⟩:=h;obtain rfl:y::ys=r:=by simpa using e
   obtain⟨O,h2⟩:=xb7 M;refine⟨by simp[O],fun j x H=>?_⟩;cases j with
   |zero=>simp at H;subst H;exact⟨i,rfl,V⟩
   |succ j=>exact h2 j x (by simpa using H)
theorem xm2{a:Addr}{cs:List Value}(h:W.cells? 0 a n=some cs):cs.length=n/\ ∀(j:Nat)(x:Value),cs[j]?=some x->W.cell? (a.add j)=some x:=by
 unfold World.cells? at h;rw[if_pos (Nat.zero_le _)]at h;obtain⟨M,O⟩:=xb7 h;refine⟨by simpa using M,fun j x H=>?_⟩;obtain⟨i,hi,hf⟩:=O j x H;obtain⟨_,rfl⟩:j<n/\j=i:=by simpa[List.getElem?_range']using List.getElem?_eq_some_iff.1 hi
 exact hf
theorem yp3{a:Addr}{w:Nat}(h:∀i,i<n->W.cells? 0 (a.add (i*w)) w=some (E i)):Sl (vwP W) (some a) n w ((List.range n).map E):=by
 refine⟨s_,fun e he=>?_,fun _=>rfl,fun i e he j x O=>?_⟩
 ·obtain⟨i,hi,rfl⟩:=List.mem_map.1 he;exact(xm2 (h i (List.mem_range.1 hi))).1
 ·rw[List.getElem?_map]at he;obtain⟨V,H,rfl⟩:=Option.map_eq_some_iff.1 he;obtain⟨M,rfl⟩:i<n/\i=V:=by simpa using List.getElem?_eq_some_iff.1 H
  exact ybd ((xm2 (h i M)).2 j x O)
theorem yns{w:Nat}:Sl p none 0 w []:=⟨rfl,s_,fun h=>absurd h om,fun i e he=>by simp at he⟩
section
variable{H:Type}{enc:TypeId×Value->H}
theorem yob{t:TypeId}{m:Nat}{cs:List Value}{y:DataW H×List MemPlace}(M:P.underlying t=some (.int .i64))(h:DataW.trod enc P W 0 (fun _=>true) true m t cs=some y):∃n:Int,cs=[.J n]:=by
 obtain⟨n,e,_,_⟩:=DataW.trod_int M h;exact⟨n,e⟩
theorem xzd(hl:laidOutB P=true){W':World}(hB:Below W.heap.size W W'):∀{M:List TypeId}{vs:List Value}{ds:List (DataW H)}{O:List MemPlace},(∀t∈M,P.readableRec t=true/\t<P.types.size)->(∀x∈O,x.block<W.heap.size)->
 DataW.TrodAll enc P W 0 (fun _=>true) true M vs ds O->DataW.TrodAll enc P W' 0 (fun b=>decide (b<W.heap.size)) true M vs ds O
 |[],[],[],_,_,_,h=>h
 |_::_,[],_,_,_,_,h=>by cases h
 |[],_::_,_,_,_,_,h=>by cases h
 |[],[],_::_,_,_,_,h=>by cases h
 |_::_,_::_,[],_,_,_,h=>by cases h
 |t::M,v::vs,d::ds,O,hr,hlt,⟨p,q,h1,h2,e⟩=>by
   subst e;exact⟨p,q,Below.trod hl (hr t s_).1 (hr t s_).2 h1 hB (fun x V=>hlt x (by simp[V])),xzd hl hB (fun t' a2=>hr t' (by simp[a2])) (fun x V=>hlt x (by simp[V])) h2,rfl⟩
theorem xyl{fn:Func}{s:ChangeSpec}{ds gs:List (DataW H)}{V O:Bool}(hl:laidOutB P=true)(M:s.vars=[])
 (a5:∀t∈fn.params.toList,P.readableRec t=true/\t<P.types.size)(a3:fn.resultTypes=#[tb])(a4:P.underlying tb=some .bool)(hW:DataW.Whole enc P fn.params.toList s.vars false W args.toList ds gs before)
 (hs:s.fn H (ds++gs)={results:=[.lit (.bool true)],args:=ds})(hB:Below W.heap.size W W'):s.post enc P fn false V O false W args (.bool true) W':=by
 have a2:=hW;obtain⟨p,q,hA,hV,rfl,_,_⟩:=hW;rw[M]at hV;obtain rfl:q=[]:=by
  cases gs with
  |nil=>exact hV
  |cons _ _=>exact hV.elim
 refine⟨ds,gs,p++[],[],p,[],a2,?_,?_,?_,hB.frame _,fun h=>by cases h⟩
 ·rw[hs,a3];exact⟨[],[],⟨1,by simp[DataW.trod,a4,Value.cells]⟩,rfl,rfl⟩
 ·rw[hs];exact xzd hl hB a5 (fun x hx=>a2.lt x (by simp[hx])) hA
 ·rw[hs,M];rfl
end
open Go.Conc
open Go.ConcN (RelBy fork_knows)
open Go.ConcR (stA)
variable{es:Array Event}{fn:FuncId}{y:MemOp}{V:Nat->Vw}{t u:Trace}
def Ev(b:Nat):Loc->Prop
 |.cell a=>a.block=b
 |.obj r=>r=b
 |_=>False
theorem Ev.mem{b:Nat}:∀{l:Loc},Ev b l->l.isMemory=true
 |.cell _,_|.obj _,_=>rfl
theorem xw1:∀{l:Loc},l.isMemory=true-> ∃b,Ev b l
 |.cell a,_=>⟨a.block,rfl⟩
 |.obj r,_=>⟨r,rfl⟩
def gn(p:Nat):Nat->Nat
 |0=>0
 |k+1=>p+k
theorem ywv{S:Vw}{B:Nat}{e:Event}(x:EvX S B e){y:Touch}(h:(MemAct.ofEvent e).touch?=some y):
 ∃b,Ev b y.loc/\ ¬ S.dead b/\b<B/\(y.write=true-> ¬ S.still b)/\y.kind=.plain:=by
 obtain⟨loc,wr,sy⟩:=e;unfold EvX at x;split at x
 ·rename_i a ha;simp only at ha x;subst ha;obtain⟨rfl,hs,M,O⟩:=x;simp[MemAct.ofEvent,MemAct.touch?]at h;subst h;exact⟨a.block,rfl,hs,M,O,rfl⟩
 ·rename_i b H;simp only at H x;subst H;obtain⟨rfl,hs,M,O⟩:=x;simp[MemAct.ofEvent,MemAct.touch?]at h;subst h;exact⟨b,rfl,hs,M,fun _=>O,rfl⟩
 ·rename_i m V;simp only at V;subst V;cases m<;>simp_all[Kb,MemAct.ofEvent,MemAct.touch?]
 ·exact x.elim
theorem xe4{S:Vw}{B:Nat}{e:Event}(x:EvX S B e):(∀a,MemAct.ofEvent e≠.mark (.release a))/\e.loc≠.mark .disable/\e.loc≠.mark .enable:=by
 obtain⟨loc,wr,sy⟩:=e;unfold EvX at x;split at x
 ·rename_i a O;simp only at O x;subst O;obtain⟨rfl,hs,V,ht⟩:=x;exact⟨by simp[MemAct.ofEvent],s_,s_⟩
 ·rename_i b H;simp only at H x;subst H;obtain⟨rfl,hs,V,ht⟩:=x;exact⟨by simp[MemAct.ofEvent],s_,s_⟩
 ·rename_i m M;simp only at M;subst M;cases m<;>simp_all[Kb,MemAct.ofEvent]
 ·exact x.elim
structure TI(Sh:Nat->Prop)(Wg q8 p j:Nat)(V:Nat->Vw)(B:Nat)(t:Trace):Prop where
 clean:∀said,¬ Race said t
 mine:∀k,k<=j-> ∀i a b,touchAt t i=some a->Ev b a.loc-> ¬ (V k).dead b->((V k).still b->a.write=true)->Knows t (gn p k) i
 known:∀i a b,touchAt t i=some a->Ev b a.loc->Knows t 0 i\/((Sh b\/b=Wg)/\(∃x,a.loc=.cell x)/\a.kind=.atomic)\/ ∃k,k<j/\t.g? i=some (p+k)/\t.counts i
 over:∀i g,t.g? i=some g->g≠0->t.counts i->(∃q,t.g? q=some 0/\HappensBefore t i q)\/ ∃k,k<j/\g=p+k
 wgq:∀i a,touchAt t i=some a->Ev Wg a.loc->(a.kind≠.plain/\(a.kind=.said->t.g? i=some 0))\/ ∀k,k<=j->Knows t (gn p k) i
 seen:∀op∈t,op.act.low B
 norel:∀k,q8<=k->t.act? k≠some (.mark (.release (stA Wg)))
 size:q8<=t.size
section
variable{Sh:Nat->Prop}{Wg q8 p j:Nat}{V V':Nat->Vw}{B B':Nat}{t u:Trace}
theorem Ev.uniq{b c:Nat}:∀{l:Loc},Ev b l->Ev c l->b=c
 |.cell _,x,y|.obj _,x,y=>by cases x;cases y;rfl
theorem ygk{g:Nat}(h:t.g? i=some g):i<t.size:=by
 obtain⟨z,H,_⟩:=Option.map_eq_some_iff.1 h;exact lt_size_of_getElem? H
theorem yrn(h:∃q,t.g? q=some 0/\HappensBefore t i q):∃q,(t++u).g? q=some 0/\HappensBefore (t++u) i q:=by
 obtain⟨q,H,M⟩:=h;exact⟨q,by rw[g?_old (ygk H)];exact H,hb_app u M⟩
theorem ybk(h:∀k,q8<=k->t.act? k≠some (.mark (.release (stA Wg))))(V:∀op∈u,op.act≠.mark (.release (stA Wg))):∀k,q8<=k->(t++u).act? k≠some (.mark (.release (stA Wg))):=by
 intro k hk hi;obtain⟨op,ho,H⟩:=Option.map_eq_some_iff.1 hi;rcases getElem?_append_cases ho with⟨_,O⟩|⟨_,M⟩
 ·exact h k hk (by rw[act?_of O,H])
 ·exact V op M H
theorem TI.grow(h:TI Sh Wg q8 p j V B t)(hB:B<=B')(hV:∀m,m<=j->(∀b,(V m).dead b->(V' m).dead b)/\ ∀b,(V m).still b->(V' m).still b)
 (a3:∀said,¬ Race said (t++u))
 (mine:∀m,m<=j-> ∀i op x b,t.size<=i->(t++u)[i]?=some op->op∈u->op.act.touch?=some x->Ev b x.loc-> ¬ (V' m).dead b->((V' m).still b->x.write=true)->Knows (t++u) (gn p m) i)
 (known:∀i op x b,t.size<=i->(t++u)[i]?=some op->op∈u->op.act.touch?=some x->Ev b x.loc->
  Knows (t++u) 0 i\/((Sh b\/b=Wg)/\(∃y,x.loc=.cell y)/\x.kind=.atomic)\/ ∃k,k<j/\(t++u).g? i=some (p+k)/\(t++u).counts i)
 (over:∀i op,t.size<=i->(t++u)[i]?=some op->op∈u->op.g≠0->(t++u).counts i-> ∃k,k<j/\op.g=p+k)
 (wgq:∀i op x,t.size<=i->(t++u)[i]?=some op->op∈u->op.act.touch?=some x->Ev Wg x.loc->x.kind≠.plain/\(x.kind=.said->op.g=0))
 (seen:∀op∈u,op.act.low B')(norel:∀op∈u,op.act≠.mark (.release (stA Wg))):TI Sh Wg q8 p j V' B' (t++u):=by
 refine⟨a3,fun m hm i a b ha hb hd hs=>?_,fun i a b ha hb=>?_,fun i g hg a4 hc=>?_,fun i a ha hb=>?_,fun op a2=>?_,ybk h.norel norel,by simp only[Array.size_append];have:=h.size;omega⟩
 ·obtain⟨x,hx,H⟩:=touch_of ha;rcases getElem?_append_cases hx with⟨_,O⟩|⟨hi,M⟩
  ·exact(h.mine m hm i a b (by rw[touchAt_of O];exact H) hb (fun z=>hd ((hV m hm).1 b z)) (fun z=>hs ((hV m hm).2 b z))).app u
  ·exact mine m hm i x a b hi hx M H hb hd hs
 ·obtain⟨x,hx,H⟩:=touch_of ha;rcases getElem?_append_cases hx with⟨hi,O⟩|⟨hi,M⟩
  ·rcases h.known i a b (by rw[touchAt_of O];exact H) hb with z|z|⟨k,hk,z1,z2⟩
   ·exact .inl (z.app u)
   ·exact .inr (.inl z)
   ·exact .inr (.inr ⟨k,hk,by rw[g?_old hi];exact z1,(counts_old hi).2 z2⟩)
  ·exact known i x a b hi hx M H hb
 ·obtain⟨x,hx,rfl⟩:=Option.map_eq_some_iff.1 hg;rcases getElem?_append_cases hx with⟨hi,O⟩|⟨hi,M⟩
  ·exact(h.over i x.g (by simp[Trace.g?,O]) a4 ((counts_old hi).1 hc)).imp yrn id
  ·exact .inr (over i x hi hx M a4 hc)
 ·obtain⟨x,hx,H⟩:=touch_of ha;rcases getElem?_append_cases hx with⟨hi,O⟩|⟨hi,M⟩
  ·exact(h.wgq i a (by rw[touchAt_of O];exact H) hb).imp (fun z=>⟨z.1,fun y=>by rw[g?_old hi];exact z.2 y⟩) fun z k hk=>(z k hk).app u
  ·have:=wgq i x a hi hx M H hb;exact .inl ⟨this.1,fun y=>by simp[Trace.g?,hx,this.2 y]⟩
 ·rcases Array.mem_append.1 a2 with a2|a2
  ·exact MemAct.low_mono hB (h.seen op a2)
  ·exact seen op a2
theorem TI.step(h:TI Sh Wg q8 p j V B t){k:Nat}(hk:k<=j)(hB:B<=B')(hV:∀m,m<=j->(∀b,(V m).dead b->(V' m).dead b)/\ ∀b,(V m).still b->(V' m).still b)
 (hd:∀m,m<=j->m≠k-> ∀b,b<B'-> ¬ (V k).dead b-> ¬ (V' m).dead b->(V k).still b/\(V' m).still b)(hw:(V k).dead Wg)
 {fn:FuncId}{pos:String}{es:Array Event}(a4:∀e∈es,EvX (V k) B' e):TI Sh Wg q8 p j V' B' (t++MemOp.ofEvents (gn p k) fn pos es):=by
 have hu:∀op∈MemOp.ofEvents (gn p k) fn pos es,op.g=gn p k/\ ∃e∈es,op.act=.ofEvent e:=fun op H=>by
  obtain⟨e,he,rfl⟩:=Go.Conc.mem_ofEvents H;exact⟨rfl,e,he,rfl⟩
 have ht:∀op∈MemOp.ofEvents (gn p k) fn pos es,∀x,op.act.touch?=some x-> ∃b,Ev b x.loc/\ ¬ (V k).dead b/\b<B'/\(x.write=true-> ¬ (V k).still b)/\x.kind=.plain:=fun op H x hx=>by
  obtain⟨_,e,he,ha⟩:=hu op H;exact ywv (a4 e he) (ha ▸ hx)
 refine h.grow hB hV (fun said=>?_) ?_ ?_ ?_ ?_ ?_ ?_
 ·refine noRace_append (h.clean said) (fun op H=>(hu op H).1) fun i a ha op H b hb hc=>?_;obtain⟨c,M,a2,_,a3,_⟩:=ht op H b hb;refine h.mine k hk i a c ha (by rw[hc.1];exact M) a2 fun hs=>?_;rcases hc.2.2.1 with z|z
  ·exact z
  ·exact absurd hs (a3 z)
 ·intro m hm i op x b hi hx H O hb a8 a9;by_cases e:m=k
  ·subst e;have:=knows_own hx;rw[(hu op H).1]at this;exact this
  ·obtain⟨c,M,a2,a6,a3,_⟩:=ht op H x O;obtain rfl:=hb.uniq M;have:=hd m hm e b a6 a2 a8;exact absurd this.1 (a3 (a9 this.2))
 ·intro i op x b hi hx H O hb;obtain⟨c,M,a2,a6,a3,a7⟩:=ht op H x O;cases k with
  |zero=>
    have:=knows_own hx;rw[(hu op H).1]at this;exact .inl this
  |succ k'=>exact .inr (.inr ⟨k',om,by unfold Trace.g?;rw[hx,Option.map_some,(hu op H).1];rfl,x,by simp[Trace.act?,hx,O],hb.mem,.inl (by rw[a7];simp)⟩)
 ·intro i op hi hx H a5 hc;rw[(hu op H).1]at a5⊢;cases k with
  |zero=>exact absurd rfl a5
  |succ k'=>exact⟨k',om,rfl⟩
 ·intro i op x hi hx H O hb;obtain⟨c,M,a2,_⟩:=ht op H x O;obtain rfl:=hb.uniq M;exact absurd hw a2
 ·intro op H;obtain⟨_,e,he,ha⟩:=hu op H;rw[ha];exact(yxv (a4 e he)).2.2.2
 ·intro op H;obtain⟨_,e,he,ha⟩:=hu op H;rw[ha];exact(xe4 (a4 e he)).1 _
theorem TI.mute(h:TI Sh Wg q8 p j V B t)(hn:∀op∈u,op.act.touch?=none)(hl:∀op∈u,op.act.low B)(hr:∀op∈u,op.act≠.mark (.release (stA Wg))):TI Sh Wg q8 p j V B (t++u):=by
 refine h.grow (Nat.le_refl _) (fun _ _=>⟨fun _ z=>z,fun _ z=>z⟩) (fun said=>noRace_appendMute (h.clean said) hn) ?_ ?_ ?_ ?_ hl hr
 ·intro m hm i op x b hi hx M H;rw[hn op M]at H;cases H
 ·intro i op x b hi hx M H;rw[hn op M]at H;cases H
 ·intro i op hi hx M a2 hc;obtain⟨x,O,_⟩:=hc;simp only[Trace.act?,hx,Option.map_some,Option.bind_some]at O;rw[hn op M]at O;cases O
 ·intro i op x hi hx M H;rw[hn op M]at H;cases H
theorem TI.wg(h:TI Sh Wg q8 p j V B t){k:Nat}(hk:k<=j)(hw:∀m,m<=j->(V m).dead Wg)(hu:∀op∈u,op.g=gn p k)
 (ht:∀op∈u,∀x,op.act.touch?=some x->(∃a:Addr,x.loc=.cell a/\a.block=Wg)/\x.kind≠.plain/\(x.kind=.said->gn p k=0))
 (hl:∀op∈u,op.act.low B)(hr:∀op∈u,op.act≠.mark (.release (stA Wg))):TI Sh Wg q8 p j V B (t++u):=by
 refine h.grow (Nat.le_refl _) (fun _ _=>⟨fun _ z=>z,fun _ z=>z⟩) (fun said=>?_) ?_ ?_ ?_ ?_ hl hr
 ·refine noRace_append (h.clean said) hu fun i a ha op H b hb a3=>?_;obtain⟨⟨c,M,a2⟩,h2,h3⟩:=ht op H b hb;have a8:Ev Wg a.loc:=by rw[a3.1,M];exact a2
  rcases h.wgq i a ha a8 with⟨z1,z2⟩|z
  ·rcases a3.2.2.2 with y|y|⟨_,y1,y2⟩
   ·exact absurd y z1
   ·exact absurd y h2
   ·have hg:=z2 y1;obtain⟨x,hx,a6⟩:=Option.map_eq_some_iff.1 hg;have:=knows_own hx;rw[a6]at this;rw[h3 y2];exact this
  ·exact z k hk
 ·intro m hm i op x b hi hx H O hb a7 _;obtain⟨⟨c,M,a2⟩,_⟩:=ht op H x O;rw[M]at hb;obtain rfl:Wg=b:=a2.symm.trans hb;exact absurd (hw m hm) a7
 ·intro i op x b hi hx H O hb;obtain⟨⟨c,M,a2⟩,h2,h3⟩:=ht op H x O;have a9:b=Wg:=by rw[M]at hb;exact hb.symm.trans a2
  cases a5:x.kind with
  |plain=>exact absurd a5 h2
  |atomic=>exact .inr (.inl ⟨.inr a9,⟨c,M⟩,rfl⟩)
  |said=>
    have:=knows_own hx;rw[hu op H,h3 a5]at this;exact .inl this
 ·intro i op _ _ H a4 _;rw[hu op H]at a4⊢;cases k with
  |zero=>exact absurd rfl a4
  |succ k'=>exact⟨k',om,rfl⟩
 ·intro i op x hi hx H O _;obtain⟨_,h2,h3⟩:=ht op H x O;exact⟨h2,fun y=>by rw[hu op H,h3 y]⟩
theorem TI.fork(h:TI Sh Wg q8 p j V B t){x y:MemOp}(hx:x.g=0/\x.act=.go (p+j))(hy:y.g=p+j/\y.act=.start)(h0:Deaf t 0=0)(a3:Deaf t (p+j)=0)
 (hV:∀m,m<=j->(∀b,(V m).dead b->(V' m).dead b)/\ ∀b,(V m).still b->(V' m).still b)
 (hc:∀b,¬ (V' (j+1)).dead b-> ¬ (V 0).dead b/\((V 0).still b->(V' (j+1)).still b)):TI Sh Wg q8 p (j+1) V' B (t++#[x,y]):=by
 have a4:∀op∈#[x,y],op.act.touch?=none:=by
  intro op H;simp only[List.mem_toArray,List.mem_cons,List.not_mem_nil,or_false]at H;rcases H with rfl|rfl
  ·rw[hx.2];rfl
  ·rw[hy.2];rfl
 have a2:∀op∈#[x,y],op.act.low B:=by
  intro op H;simp only[List.mem_toArray,List.mem_cons,List.not_mem_nil,or_false]at H;rcases H with rfl|rfl
  ·rw[hx.2];trivial
  ·rw[hy.2];trivial
 have hr:∀op∈#[x,y],op.act≠.mark (.release (stA Wg)):=by
  intro op H;simp only[List.mem_toArray,List.mem_cons,List.not_mem_nil,or_false]at H;rcases H with rfl|rfl
  ·rw[hx.2];simp
  ·rw[hy.2];simp
 have T:=h.mute a4 a2 hr;have old:∀{i:Nat}{a:Touch},touchAt (t++#[x,y]) i=some a->touchAt t i=some a:=by
  intro i a M;obtain⟨z,hz,O⟩:=touch_of M;rcases getElem?_append_cases hz with⟨_,a8⟩|⟨_,a6⟩
  ·rw[touchAt_of a8];exact O
  ·rw[a4 z a6]at O;cases O
 refine⟨T.clean,fun m hm i a b M hb hd hs=>?_,fun i a b M hb=>?_,fun i g hg a5 a7=>(T.over i g hg a5 a7).imp id fun⟨k,a,b⟩=>⟨k,om,b⟩,fun i a M hb=>?_,T.seen,T.norel,T.size⟩
 ·rcases Nat.lt_or_ge j m with hlt|hge
  ·obtain rfl:m=j+1:=om;obtain⟨h1,h2⟩:=hc b hd;exact fork_knows hx hy h0 a3 (h.mine 0 (Nat.zero_le _) i a b (old M) hb h1 fun z=>hs (h2 z))
  ·exact T.mine m hge i a b M hb (fun z=>hd ((hV m hge).1 b z)) fun z=>hs ((hV m hge).2 b z)
 ·exact(T.known i a b M hb).imp id (Or.imp id fun⟨k,hk,z⟩=>⟨k,om,z⟩)
 ·rcases h.wgq i a (old M) hb with z|z
  ·refine .inl ⟨z.1,fun q=>?_⟩;have hg:=z.2 q;rw[g?_old (ygk hg)];exact hg
  ·refine .inr fun k hk=>?_;rcases Nat.lt_or_ge j k with hlt|hge
   ·obtain rfl:k=j+1:=om;exact fork_knows hx hy h0 a3 (z 0 (Nat.zero_le _))
   ·exact(z k hge).app _
theorem TI.start{S:Nat->Prop}(h:Past (Kk S) B t)(hW:¬ S Wg){V:Vw}(hV:∀b,¬ V.dead b-> ¬ S b):TI S Wg t.size p 0 (fun _=>V) B t:=by
 have key:∀i a b,touchAt t i=some a->Ev b a.loc->Knows t 0 i\/(S b/\(∃x,a.loc=.cell x)/\a.kind=.atomic):=fun i a b M H=>by
  rcases h.known i a M H.mem with z|⟨⟨x,hx,hs⟩,z⟩
  ·exact .inl z
  ·refine .inr ⟨?_,⟨x,hx⟩,z⟩;rw[hx]at H;obtain rfl:x.block=b:=H;exact hs
 refine⟨h.clean,fun k hk i a b M H hd _=>?_,fun i a b M H=>(key i a b M H).imp id fun z=>.inl ⟨.inl z.1,z.2⟩,fun i g hg O hc=>.inl (h.over i g hg O hc),fun i a M H=>.inr fun k hk=>?_,h.seen,fun k hk e=>?_,Nat.le_refl _⟩
 ·obtain rfl:k=0:=om;exact(key i a b M H).elim id fun z=>absurd z.1 (hV b hd)
 ·obtain rfl:k=0:=om;exact(key i a Wg M H).elim id fun z=>absurd z.1 hW
 ·have:=lt_of_act? e;omega
def Gn(Wg q8 p j:Nat)(t:Trace):Prop:=
 ∃q,t.act? q=some (.mark (.acquire (stA Wg)))/\t.g? q=some 0/\t.heard q/\ ∀k,k<j-> ∃r,q8<=r/\RelBy (stA Wg) t (p+k) r/\r<q
theorem TI.finish(h:TI Sh Wg q8 p j V B t)(ha:Gn Wg q8 p j t)(h0:Deaf t 0=0){S:Nat->Prop}(hS:∀b,Sh b\/b=Wg->S b):Past (Kk S) B t:=by
 obtain⟨q,hq,a3,a6,a2⟩:=ha;obtain⟨z,hz,a7⟩:=Option.map_eq_some_iff.1 a3;have key:∀i k,k<j->t.g? i=some (p+k)->t.counts i->HappensBefore t i q:=fun i k hk O hc=>by
  obtain⟨r,a8,hr,a4⟩:=a2 k hk;have H:HappensBefore t r q:=.single (.inr ⟨.marked a4 (.inr hr.act) hq (fun m hm _=>h.norel m om),hr.heard,a6⟩);have a9:i<=r:=Nat.le_of_not_lt fun M=>hr.after i M O hc;rcases Nat.lt_or_ge i r with M|hge
  ·exact .trans (.single (.inl ⟨M,p+k,O,hr.g⟩)) H
  ·obtain rfl:i=r:=om;exact H
 refine⟨h.clean,fun i a hi hm=>?_,fun i g O a5 hc=>?_,h0,h.seen⟩
 ·obtain⟨b,hb⟩:=xw1 hm;rcases h.known i a b hi hb with y|⟨y1,⟨x,hx⟩,y2⟩|⟨k,hk,y1,y2⟩
  ·exact .inl y
  ·refine .inr ⟨⟨x,hx,hS _ ?_⟩,y2⟩;rw[hx]at hb;obtain rfl:x.block=b:=hb;exact y1
  ·exact .inl ⟨q,z,hz,a7,.inr (key i k hk y1 y2)⟩
 ·rcases h.over i g O a5 hc with y|⟨k,hk,rfl⟩
  ·exact y
  ·exact⟨q,a3,key i k hk O hc⟩
end
def M3:Obj:=.cells #[] 0 (0,0)
def Pg:Obj->Obj
 |.cells c e _=>.cells c e (0,c.size)
 |_=>M3
def Dr(A K:List Nat)(h:Heap):Heap:=h.mapIdx fun b o=>if b∈A then M3 else if b∈K then o else Pg o
theorem xfc:(Dr A K h).size=h.size:=by simp[Dr]
theorem xwc:(Dr A K h)[b]?=(h[b]?).map fun o=>if b∈A then M3 else if b∈K then o else Pg o:=by
 simp[Dr,Array.getElem?_mapIdx]
def Exc(h:Heap)(b:Nat):Prop:=∃c e,h[b]?=some (.cells c e (0,0))/\0<c.size
theorem Cq.exc{V:Vw}{h r:Heap}(v:Cq V h r){b:Nat}(x:Exc h b):¬ V.dead b/\ ¬ V.still b:=by
 obtain⟨c,e,H,hc⟩:=x;refine⟨fun hs=>?_,fun O=>?_⟩
 ·rw[v.Kn _ hs]at H;cases H;simp at hc
 ·obtain⟨c',e',f',_,M⟩:=v.frz _ O;rw[M]at H;simp only[Option.some.injEq,Obj.cells.injEq,Prod.mk.injEq]at H;obtain⟨rfl,_,_,hz⟩:=H;omega
def Hu:Obj->Bool
 |.cells .. => true
 |_=>false
def Gx(A K:List Nat)(h:Heap)(V:Vw):Vw:=
 ⟨fun b=>V.dead b\/(b<h.size/\(b∈A\/(b∉K/\ ∀o,h[b]?=some o->Hu o=false))),fun b=>b<h.size/\ ¬ V.dead b/\b∉A/\b∉K/\ ∃o,h[b]?=some o/\Hu o=true⟩
section
variable{r r':Heap}{V:Vw}
theorem Cq.cut(v:Cq V h r)(hK:∀b∈K,Exc h b):Cq (Gx A K h V) (Dr A K h) r:=by
 refine⟨by rw[xfc];exact v.size,fun b O hs=>?_,fun b O=>?_,fun b hs=>?_⟩
 ·rw[xwc];rcases Nat.lt_or_ge b h.size with H|hge
  ·have a2:¬ V.dead b:=fun x=>O (.inl x);have a5:b∉A:=fun x=>O (.inr ⟨H,.inl x⟩);have a6:b∈K:=by
    refine Classical.byContradiction fun hn=>?_;cases M:h[b]? with
    |none=>have:=Array.getElem?_eq_none_iff.1 M;omega
    |some o=>
      cases hc:Hu o with
      |true=>exact hs ⟨H,a2,a5,hn,o,M,hc⟩
      |false=>exact O (.inr ⟨H,.inr ⟨hn,fun o' a3=>by rw[M]at a3;cases a3;exact hc⟩⟩)
   have a7:=(v.exc (hK b a6)).2;rw[v.same b a2 a7];cases r[b]? <;> simp[a5,a6]
  ·rw[Array.getElem?_eq_none hge,Array.getElem?_eq_none (by rw[<- v.size];exact hge)];rfl
 ·rw[xwc];rcases O with O|⟨H,O⟩
  ·rw[v.Kn b O];simp only[Option.map_some];by_cases h1:b∈A
   ·rw[if_pos h1];rfl
   ·rw[if_neg h1];by_cases h2:b∈K
    ·rw[if_pos h2]
    ·rw[if_neg h2];rfl
  ·rw[Array.getElem?_eq_getElem H];simp only[Option.map_some];rcases O with h1|⟨h2,h3⟩
   ·rw[if_pos h1];rfl
   ·by_cases h1:b∈A
    ·rw[if_pos h1];rfl
    ·rw[if_neg h1,if_neg h2];have:=h3 _ (Array.getElem?_eq_getElem H);cases M:h[b]<;>first|rfl|(rw[M]at this;cases this)
 ·obtain⟨H,a2,h1,h2,o,M,hc⟩:=hs;cases o<;>first|(cases hc;done)|skip
  rename_i c e f;have a4:(Dr A K h)[b]?=some (.cells c e (0,c.size)):=by rw[xwc,M];simp[h1,h2,Pg]
  by_cases ht:V.still b
  ·obtain⟨c',e',f',hr,hh⟩:=v.frz b ht;rw[hh]at M;cases M;exact⟨_,_,_,hr,a4⟩
  ·exact⟨c,e,f,by rw[<- v.same b a2 ht];exact M,a4⟩
theorem xjh(x:(Gx A K h V).still b):¬ (Gx A K h V).dead b:=by
 obtain⟨M,H,O,h3,o,ho,hc⟩:=x;rintro(y|⟨_,y|⟨_,y⟩⟩)
 ·exact H y
 ·exact O y
 ·rw[y o ho]at hc;cases hc
theorem Cq.Gj(v:Cq V h r)(M:∀b,V.still b-> ¬ V.dead b)(hA:∀b∈A,Exc h b)(O:∀b∈K,Exc h b){b:Nat}(x:V.still b):(Gx A K h V).still b:=by
 obtain⟨c,e,f,hr,H⟩:=v.frz b x;exact⟨(Array.getElem?_eq_some_iff.1 H).1,M b x,fun y=>(v.exc (hA b y)).2 x,fun y=>(v.exc (O b y)).2 x,_,H,rfl⟩
theorem xut(H:b<h.size)(M:¬ (Gx A K h V).dead b)(hn:b∉K):(Gx A K h V).still b:=by
 have h1:¬ V.dead b:=fun x=>M (.inl x);have h2:b∉A:=fun x=>M (.inr ⟨H,.inl x⟩);refine⟨H,h1,h2,hn,h[b],Array.getElem?_eq_getElem H,?_⟩;cases hc:Hu h[b]with
 |true=>rfl
 |false=>exact absurd (.inr ⟨H,.inr ⟨hn,fun o O=>by rw[Array.getElem?_eq_getElem H]at O;cases O;exact hc⟩⟩) M
def Py(B B':Nat)(V:Vw):Vw:=⟨fun b=>V.dead b\/(B<=b/\b<B'),V.still⟩
def M5(n:Nat)(h:Heap):Heap:=h++Array.replicate (n-h.size) M3
theorem Es:Av h (M5 n h):=⟨by simp[M5],fun b H=>by unfold M5;rw[Array.getElem?_append_left H]⟩
theorem xj1(hn:h.size<=n):(M5 n h).size=n:=by simp[M5];omega
theorem Cq.ext(v:Cq V h r)(ap:∀b,V.still b-> ¬ V.dead b)(a2:r.size<=r'.size)(hs:∀b,b<r.size-> ¬ V.dead b->r'[b]?=r[b]?):Cq (Py r.size r'.size V) (M5 r'.size h) r':=by
 have hz:=v.size;refine⟨by rw[xj1 om],fun b H O=>?_,fun b H=>?_,fun b O=>?_⟩
 ·rcases Nat.lt_or_ge b r.size with M|hge
  ·rw[Es.C3 b om,v.same b (fun x=>H (.inl x)) O,hs b M fun x=>H (.inl x)]
  ·have:r'.size<=b:=Nat.le_of_not_lt fun x=>H (.inr ⟨hge,x⟩);rw[Array.getElem?_eq_none (by rw[xj1 om];exact this),Array.getElem?_eq_none this]
 ·rcases H with H|⟨h1,h2⟩
  ·rw[Es.C3 b (by have:=v.lt H;omega)];exact v.Kn b H
  ·unfold M5;rw[Array.getElem?_append_right om,Array.getElem?_replicate,if_pos om];rfl
 ·obtain⟨c,e,f,hr,hh⟩:=v.frz b O;have M:=v.lts O;exact⟨c,e,f,(hs b M (ap b O)).trans hr,by rw[Es.C3 b om];exact hh⟩
theorem Cq.on(v:Cq V h r)(ap:∀b,V.still b-> ¬ V.dead b)(M:r'.size=r.size)(hs:∀b,¬ V.dead b->r'[b]?=r[b]?):Cq V h r':=
 ⟨v.size.trans M.symm,fun b O H=>(v.same b O H).trans (hs b O).symm,v.Kn,fun b H=>by obtain⟨c,e,f,hr,hh⟩:=v.frz b H;exact⟨c,e,f,(hs b (ap b H)).trans hr,hh⟩⟩
end
section
variable(st:Nat->Option (Goroutine->Heap->Prop))
def RK(P:Program)(k:Nat)(x:Goroutine×Heap):Prop:=∀S,st k=some S->Reach P (.own (k==0)) x.1 x.2 S
variable{st}
def Mf(P:Program)(st:Nat->Option (Goroutine->Heap->Prop))(J:(Nat->Goroutine×Heap)->Prop)(c:Nat->Goroutine×Heap)(k:Nat):Prop:=
 ∀S,st k=some S->S (c k).1 (c k).2\/Own P (k==0) (c k).1 (c k).2 fun g h=>Reach P (.own (k==0)) g h S/\ ∀H,H k=(g,h)->(∀m,m<k->H m=c m)->(∀m,RK st P m (H m))->J H
theorem ymd{J:(Nat->Goroutine×Heap)->Prop}(H:∀c,(∀k,RK st P k (c k))->(∀k,k<i+1->Mf P st J c k)->J c):
 ∀c,(∀k,RK st P k (c k))->(∀k,k<i->Mf P st J c k)->J c:=by
 intro c V hA;cases hs:st i with
 |none=>
   refine H c V fun k hk=>?_;rcases Nat.lt_or_ge k i with hlt|hge
   ·exact hA k hlt
   ·obtain rfl:k=i:=om;intro S hS;rw[hs]at hS;cases hS
 |some S=>
   have key:∀g h,Reach P (.own (i==0)) g h S-> ∀c:Nat->Goroutine×Heap,c i=(g,h)->(∀k,RK st P k (c k))->(∀k,k<i->Mf P st J c k)->J c:=by
    intro g h r;refine(r (fun g h=>Reach P (.own (i==0)) g h S/\ ∀c:Nat->Goroutine×Heap,c i=(g,h)->(∀k,RK st P k (c k))->(∀k,k<i->Mf P st J c k)->J c) (fun g h s=>⟨xrk s,fun c e V hA=>?_⟩) (fun g h o=>⟨?_,fun c e V hA=>?_⟩)).2
    ·refine H c V fun k hk=>?_;rcases Nat.lt_or_ge k i with hlt|hge
     ·exact hA k hlt
     ·obtain rfl:k=i:=om;intro S' M;rw[hs]at M;cases M;exact .inl (by rw[e];exact s)
    ·exact xnj (md:=.own (i==0)) (o.mono fun _ _ x=>x.1)
    ·refine H c V fun k hk=>?_;rcases Nat.lt_or_ge k i with hlt|hge
     ·exact hA k hlt
     ·obtain rfl:k=i:=om;intro S' M;rw[hs]at M;cases M;refine .inr ?_;rw[e];refine o.mono fun g' h' x=>⟨x.1,fun c' e' hm a5=>x.2 c' e' a5 fun m O=>?_⟩
      intro a6 a2;have:=hA m O a6 a2;rw[hm m O];exact this.imp id fun o'=>o'.mono fun a9 b0 y=>⟨y.1,fun a8 a7 a3 a4=>y.2 a8 a7 (fun a ha=>(a3 a ha).trans (hm a (Nat.lt_trans ha O))) a4⟩
   exact key _ _ (V i S hs) c rfl V hA
theorem nest{J:(Nat->Goroutine×Heap)->Prop}(H:∀c,(∀k,RK st P k (c k))->(∀k,k<n->Mf P st J c k)->J c):∀c,(∀k,RK st P k (c k))->J c:=by
 induction n with
 |zero=>exact fun c M=>H c M fun k O=>absurd O (Nat.not_lt_zero k)
 |succ n ih=>exact ih (ymd H)
end
open Go.ConcN (RelBy sumTo upd sumTo_upd upd_ne upd_same)
open Go.ConcR (KK wgBlock WgAt stA smA rd wr mk)
variable{gs:Array Goroutine}{a' child x:Goroutine}{g:Nat->Goroutine}{w':World}
structure Site where
 ty:TypeId
 Wg:Nat
 S:Nat->Prop
 z9:Heap
 Z:List Nat
 p:Nat
 q8:Nat
variable{s:Site}
def Site.Old(s:Site)(b:Nat):Prop:=b<s.z9.size/\b≠s.Wg/\b∉s.Z
structure Ho(s:Site)(P:Program)(j:Nat)(V:Nat->Vw)(hv:Nat->Heap)(g:Nat->Goroutine)(dd:Nat->Nat)(q:Nat->Nat)(gs:Array Goroutine)(w:World)(t:Trace):Prop where
 pos:0<s.p
 size:gs.size=s.p+j
 at':∀k,k<=j->gs[gn s.p k]?=some (g k)
 lv:∀i x,0<i->i<s.p->gs[i]?=some x->QuitsD P (q i) (Deaf t i) x
 above:∀i,gs.size<=i->Deaf t i=0
 Hj:∀k,k<=j->Cq (V k) (hv k) w.heap
 apart:∀k,k<=j-> ∀b,(V k).still b-> ¬ (V k).dead b
 dis:∀k m,k<=j->m<=j->k≠m-> ∀b,b<w.heap.size-> ¬ (V k).dead b-> ¬ (V m).dead b->(V k).still b/\(V m).still b
 wgd:∀k,k<=j->(V k).dead s.Wg
 old:∀b,s.Old b-> ¬ s.S b->w.heap[b]?=s.z9[b]?
 My:∀k,k<=j-> ∀b,s.Old b->(V k).dead b\/(V k).still b
 sd:∀k,k<=j-> ∀b,s.S b->(V k).dead b
 Nw:s.z9.size<=w.heap.size
 ti:TI s.S s.Wg s.q8 s.p j V w.heap.size t
 deaf:∀k,k<=j->Deaf t (gn s.p k)=dd k
theorem xs9{e:Event}(h:e.mute=true){a:Addr}:MemAct.ofEvent e≠.mark (.release a):=by
 obtain⟨H,wr,M⟩:=e;cases H<;>simp_all[Event.mute,MemAct.ofEvent]
 all_goals
  rename_i m;cases m<;>simp_all
theorem xk7{p k m:Nat}(H:0<p)(h:gn p k=gn p m):k=m:=by
 cases k<;>cases m<;>simp only[gn]at h<;>omega
theorem yp0{p k:Nat}(H:0<p)(h:k<=j):gn p k<p+j:=by
 cases k<;>simp only[gn]<;>omega
theorem yxk{p k:Nat}(H:0<p):gn p k=0<->k=0:=by
 cases k<;>simp only[gn]<;>omega
theorem xj7{p k:Nat}(hi:0<i)(H:i<p):gn p k≠i:=by
 cases k<;>simp only[gn]<;>omega
theorem ytn{p k:Nat}(H:0<p):(gn p k==0)=(k==0):=by
 cases k<;>simp only[gn]<;>simp;omega
section
variable{hv:Nat->Heap}{q:Nat->Nat}{sl:Option (Nat×Nat)}
def wok(P:Program)(a a':Goroutine)(w':World)(k:Nat)(g:Nat->Goroutine):Nat->Goroutine:=upd (fun m=>woken P a a' w' (g m)) k a'
theorem xht{f:Goroutine->Goroutine}{a:Nat}(H:a≠b):((gs.map f).setIfInBounds a x)[b]?=(gs[b]?).map f:=by
 rw[Array.getElem?_setIfInBounds_ne H,Array.getElem?_map]
theorem xm7{f:Goroutine->Goroutine}{a:Nat}(H:a<gs.size):((gs.map f).setIfInBounds a x)[a]?=some x:=by simp[H]
theorem xzc{pos:String}:∀op∈MemOp.ofEvents i fn pos es,op.g=i:=fun op H=>by
 obtain⟨e,_,rfl⟩:=Go.Conc.mem_ofEvents H;rfl
theorem Ho.L8(C:Ho s P j V hv g dd q gs w t){k:Nat}(hk:k<=j){a':Goroutine}{fn:FuncId}{pos:String}{es:Array Event}:
 ((gs.map (woken P (g k) a' w')).setIfInBounds (gn s.p k) a').size=s.p+j/\
 (∀m,m<=j->((gs.map (woken P (g k) a' w')).setIfInBounds (gn s.p k) a')[gn s.p m]?=some (wok P (g k) a' w' k g m))/\
 (∀i x,0<i->i<s.p->((gs.map (woken P (g k) a' w')).setIfInBounds (gn s.p k) a')[i]?=some x->QuitsD P (q i) (Deaf (t++MemOp.ofEvents (gn s.p k) fn pos es) i) x)/\
 (∀i,((gs.map (woken P (g k) a' w')).setIfInBounds (gn s.p k) a').size<=i->Deaf (t++MemOp.ofEvents (gn s.p k) fn pos es) i=0)/\
 ∀m,m<=j->Deaf (t++MemOp.ofEvents (gn s.p k) fn pos es) (gn s.p m)=upd dd k (deafBehind (dd k) es) m:=by
 have M:((gs.map (woken P (g k) a' w')).setIfInBounds (gn s.p k) a').size=gs.size:=by simp
 have a2:gn s.p k<gs.size:=by rw[C.size];exact yp0 C.pos hk
 refine⟨M.trans C.size,fun m O=>?_,fun i x hi H hx=>?_,fun i hi=>?_,fun m O=>?_⟩
 ·by_cases e:m=k
  ·subst e;rw[xm7 a2];simp[wok,upd_same]
  ·rw[xht (fun x=>e (xk7 C.pos x).symm),C.at' m O];simp[wok,upd_ne _ _ e]
 ·rw[xht (xj7 hi H)]at hx;obtain⟨y,hy,rfl⟩:=Option.map_eq_some_iff.1 hx;have hq:=C.lv i y hi H hy;rw[woken_quitsD hq,Deaf_other t (xj7 hi H) _ xzc];exact hq
 ·rw[M]at hi;rw[Deaf_other t om _ xzc];exact C.above i hi
 ·by_cases e:m=k
  ·subst e;rw[Deaf_own,C.deaf m O,upd_same]
  ·rw[Deaf_other t (fun x=>e (xk7 C.pos x).symm) _ xzc,C.deaf m O,upd_ne _ _ e]
theorem Ho.own(C:Ho s P j V hv g dd q gs w t){k:Nat}(hk:k<=j){a':Goroutine}{h':Heap}{fn:FuncId}{pos:String}{es:Array Event}
 (hV:Cq (V k) h' w'.heap)(hq:Quiet (V k) w w')(a4:∀e∈es,EvX (V k) w'.heap.size e):
 Ho s P j (fun m=>if m=k then V k else Py w.heap.size w'.heap.size (V m)) (fun m=>if m=k then h' else M5 w'.heap.size (hv m)) (wok P (g k) a' w' k g) dd q
  ((gs.map (woken P (g k) a' w')).setIfInBounds (gn s.p k) a') w' (t++MemOp.ofEvents (gn s.p k) fn pos es):=by
 obtain⟨g1,g2,g3,g4,g5⟩:=C.L8 (w':=w') hk (a':=a') (fn:=fn) (pos:=pos) (es:=es);have hd:deafBehind (dd k) es=dd k:=deafBehind_still (fun e he=>⟨(xe4 (a4 e he)).2.1,(xe4 (a4 e he)).2.2⟩) _;have a6:∀m,m<=j->m≠k-> ∀b,b<w.heap.size-> ¬ (V m).dead b->w'.heap[b]?=w.heap[b]?:=fun m H e b M a7=>by
  refine hq.F7 b M ?_;by_cases a5:(V k).dead b
  ·exact .inl a5
  ·exact .inr (C.dis k m hk H (Ne.symm e) b M a5 a7).1
 refine⟨C.pos,g1,g2,g3,g4,fun m H=>?_,fun m H b hs=>?_,fun m n H hn a3 b M h1 h2=>?_,fun m H=>?_,fun b M hS=>?_,fun m H b M=>?_,fun m H b M=>?_,Nat.le_trans C.Nw hq.size,?_,fun m H=>?_⟩
 ·by_cases e:m=k
  ·subst e;simp only[if_true];exact hV
  ·simp only[if_neg e];exact(C.Hj m H).ext (C.apart m H) hq.size (a6 m H e)
 ·by_cases e:m=k
  ·subst e;simp only[if_true]at hs⊢;exact C.apart m H b hs
  ·simp only[if_neg e]at hs⊢;rintro(x|⟨x,_⟩)
   ·exact C.apart m H b hs x
   ·have:=(C.Hj m H).lts hs;omega
 ·have O:∀a,a<=j->a≠k-> ¬ (Py w.heap.size w'.heap.size (V a)).dead b-> ¬ (V a).dead b/\b<w.heap.size:=fun a _ _ x=>by
   refine⟨fun y=>x (.inl y),Nat.lt_of_not_le fun y=>x (.inr ⟨y,M⟩)⟩
  by_cases e:m=k
  ·subst e;have en:n≠m:=Ne.symm a3;simp only[if_true,if_neg en]at h1 h2⊢;obtain⟨h2,a2⟩:=O n hn en h2;exact C.dis m n H hn a3 b a2 h1 h2
  ·by_cases en:n=k
   ·subst en;simp only[if_true,if_neg e]at h1 h2⊢;obtain⟨h1,a2⟩:=O m H e h1;exact C.dis m n H hn a3 b a2 h1 h2
   ·simp only[if_neg e,if_neg en]at h1 h2⊢;obtain⟨h1,a2⟩:=O m H e h1;obtain⟨h2,_⟩:=O n hn en h2;exact C.dis m n H hn a3 b a2 h1 h2
 ·by_cases e:m=k
  ·subst e;simp only[if_true];exact C.wgd m H
  ·simp only[if_neg e];exact .inl (C.wgd m H)
 ·exact(hq.F7 b (Nat.lt_of_lt_of_le M.1 C.Nw) (C.My k hk b M)).trans (C.old b M hS)
 ·by_cases e:m=k
  ·subst e;simp only[if_true];exact C.My m H b M
  ·simp only[if_neg e];exact(C.My m H b M).imp .inl id
 ·by_cases e:m=k
  ·subst e;simp only[if_true];exact C.sd m H b M
  ·simp only[if_neg e];exact .inl (C.sd m H b M)
 ·refine(C.ti).step hk hq.size (fun m _=>?_) (fun m H e b M h1 h2=>?_) (C.wgd k hk) a4
  ·by_cases e:m=k
   ·subst e;simp only[if_true];exact⟨fun _ x=>x,fun _ x=>x⟩
   ·simp only[if_neg e];exact⟨fun _ x=>.inl x,fun _ x=>x⟩
  ·simp only[if_neg e]at h2⊢;exact C.dis k m hk H (Ne.symm e) b (Nat.lt_of_not_le fun y=>h2 (.inr ⟨y,M⟩)) h1 (fun y=>h2 (.inl y))
 ·rw[g5 m H,hd];by_cases e:m=k
  ·subst e;rw[upd_same]
  ·rw[upd_ne _ _ e]
theorem Ho.book(C:Ho s P j V hv g dd q gs w t){k:Nat}(hk:k<=j){a':Goroutine}{fn:FuncId}{pos:String}{es:Array Event}
 (M:w'.heap.size=w.heap.size)(hb:∀b,b≠s.Wg->w'.heap[b]?=w.heap[b]?)
 (ht:∀e∈es,∀x,(MemAct.ofEvent e).touch?=some x->(∃a:Addr,x.loc=.cell a/\a.block=s.Wg)/\x.kind≠.plain/\(x.kind=.said->k=0))
 (hl:∀e∈es,(MemAct.ofEvent e).low w.heap.size)(hr:∀e∈es,MemAct.ofEvent e≠.mark (.release (stA s.Wg))):
 Ho s P j V hv (wok P (g k) a' w' k g) (upd dd k (deafBehind (dd k) es)) q ((gs.map (woken P (g k) a' w')).setIfInBounds (gn s.p k) a') w' (t++MemOp.ofEvents (gn s.p k) fn pos es):=by
 obtain⟨g1,g2,g3,g4,g5⟩:=C.L8 (w':=w') hk (a':=a') (fn:=fn) (pos:=pos) (es:=es);refine⟨C.pos,g1,g2,g3,g4,fun m hm=>(C.Hj m hm).on (C.apart m hm) M fun b hd=>hb b fun e=>hd (e ▸ C.wgd m hm),C.apart,fun m n hm hn a2 b a3=>C.dis m n hm hn a2 b (M ▸ a3),C.wgd,fun b O hS=>(hb b O.2.1).trans (C.old b O hS),C.My,C.sd,by rw[M];exact C.Nw,?_,g5⟩;rw[M];refine C.ti.wg hk C.wgd xzc (fun op H x hx=>?_) (fun op H=>?_) fun op H=>?_
 ·obtain⟨e,he,rfl⟩:=Go.Conc.mem_ofEvents H;obtain⟨a,b,c⟩:=ht e he x hx;exact⟨a,b,fun y=>(yxk C.pos).2 (c y)⟩
 ·obtain⟨e,he,rfl⟩:=Go.Conc.mem_ofEvents H;exact hl e he
 ·obtain⟨e,he,rfl⟩:=Go.Conc.mem_ofEvents H;exact hr e he
theorem Ho.slip(C:Ho s P j V hv g dd q gs w t){i m:Nat}(hi:0<i)(a4:i<s.p){a a':Goroutine}{fn:FuncId}{pos:String}{es:Array Event}(hm:∀e∈es,e.mute=true)(hq:QuitsD P m (deafBehind (Deaf t i) es) a'):
 Ho s P j V hv (fun k=>woken P a a' w (g k)) dd (upd q i m) ((gs.map (woken P a a' w)).setIfInBounds i a') w (t++MemOp.ofEvents i fn pos es):=by
 have a3:((gs.map (woken P a a' w)).setIfInBounds i a').size=gs.size:=by simp
 refine⟨C.pos,a3.trans C.size,fun k hk=>?_,fun i' x M a2 hx=>?_,fun i' M=>?_,C.Hj,C.apart,C.dis,C.wgd,C.old,C.My,C.sd,C.Nw,?_,fun k hk=>?_⟩
 ·rw[xht (Ne.symm (xj7 hi a4)),C.at' k hk];rfl
 ·by_cases e:i'=i
  ·subst e;rw[xm7 (by rw[C.size];omega)]at hx;cases hx;rw[upd_same,Deaf_own];exact hq
  ·rw[xht (Ne.symm e)]at hx;obtain⟨y,hy,rfl⟩:=Option.map_eq_some_iff.1 hx;have O:=C.lv i' y M a2 hy;rw[woken_quitsD O,Deaf_other t (Ne.symm e) _ xzc,upd_ne _ _ e];exact O
 ·rw[a3]at M;rw[Deaf_other t (by have:=C.size;omega) _ xzc];exact C.above i' M
 ·refine C.ti.mute (fun op H=>?_) (fun op H=>?_) fun op H=>?_
  ·obtain⟨e,he,rfl⟩:=Go.Conc.mem_ofEvents H;exact touch_mute (hm e he)
  ·obtain⟨e,he,rfl⟩:=Go.Conc.mem_ofEvents H;exact low_mute (hm e he) _
  ·obtain⟨e,he,rfl⟩:=Go.Conc.mem_ofEvents H;exact xs9 (hm e he)
 ·rw[Deaf_other t (Ne.symm (xj7 hi a4)) _ xzc];exact C.deaf k hk
theorem Ho.fork(C:Ho s P j V hv g dd q gs w t){X Z:List Nat}(hX:∀b∈X,Exc (hv 0) b)(hZ:∀b∈Z,Exc (hv 0) b)(h0:dd 0=0){a' child:Goroutine}{x y:MemOp}
 (hx:x.g=0/\x.act=.go (s.p+j))(hy:y.g=s.p+j/\y.act=.start):
 Ho s P (j+1) (fun m=>if m=0 then Gx X Z (hv 0) (V 0)else if m=j+1 then Gx Z X (hv 0) (V 0)else V m) (fun m=>if m=0 then Dr X Z (hv 0)else if m=j+1 then Dr Z X (hv 0)else hv m)
  (fun m=>if m=0 then a' else if m=j+1 then child else g m) (fun m=>if m=j+1 then 0 else dd m) q ((gs.setIfInBounds 0 a').push child) w (t++#[x,y]):=by
 have b5:∀op∈#[x,y],op.act≠.mark .disable/\op.act≠.mark .enable:=by
  intro op b3;simp only[List.mem_toArray,List.mem_cons,List.not_mem_nil,or_false]at b3;rcases b3 with rfl|rfl
  ·rw[hx.2];exact⟨s_,s_⟩
  ·rw[hy.2];exact⟨s_,s_⟩
 have hD:∀i,Deaf (t++#[x,y]) i=Deaf t i:=fun i=>Go.ConcN.Deaf_still t i _ b5;have v0:=C.Hj 0 (Nat.zero_le _);have a7:=C.apart 0 (Nat.zero_le _);have b7:=v0.size;have hp:=C.pos;have a3:=C.size;have a9:∀b,(V 0).still b->(Gx X Z (hv 0) (V 0)).still b:=fun b z=>v0.Gj a7 hX hZ z;have a5:∀b,(V 0).still b->(Gx Z X (hv 0) (V 0)).still b:=fun b z=>v0.Gj a7 hZ hX z;have a6:∀b,b<w.heap.size-> ¬ (Gx X Z (hv 0) (V 0)).dead b-> ¬ (Gx Z X (hv 0) (V 0)).dead b->(Gx X Z (hv 0) (V 0)).still b/\(Gx Z X (hv 0) (V 0)).still b:=fun b hb h1 H=>by
  have a4:b<(hv 0).size:=om;have n1:b∉X:=fun z=>h1 (.inr ⟨a4,.inl z⟩);have n2:b∉Z:=fun z=>H (.inr ⟨a4,.inl z⟩);exact⟨xut a4 h1 n2,xut a4 H n1⟩
 have a2:∀(A K:List Nat),(∀b∈A,Exc (hv 0) b)->(∀b∈K,Exc (hv 0) b)-> ∀m,m<=j->m≠0-> ∀b,b<w.heap.size-> ¬ (Gx A K (hv 0) (V 0)).dead b-> ¬ (V m).dead b->(Gx A K (hv 0) (V 0)).still b/\(V m).still b:=fun A K hA hK m hm e b hb h1 H=>by
  have:=C.dis 0 m (Nat.zero_le _) hm (Ne.symm e) b hb (fun z=>h1 (.inl z)) H;exact⟨v0.Gj a7 hA hK this.1,this.2⟩
 refine⟨hp,by simp[a3];omega,fun m hm=>?_,fun i z hi b6 hz=>?_,fun i hi=>?_,fun m hm=>?_,fun m hm b hs=>?_,fun m n hm hn a8 b hb h1 H=>?_,fun m hm=>?_,C.old,fun m hm b hb=>?_,fun m hm b hb=>?_,C.Nw,?_,fun m hm=>?_⟩
 ·by_cases M:m=0
  ·subst M;simp only[gn,if_true];rw[Array.getElem?_push,if_neg (by simp;omega),Array.getElem?_setIfInBounds_self_of_lt om]
  ·simp only[if_neg M];by_cases O:m=j+1
   ·subst O;simp only[gn,if_true];rw[Array.getElem?_push,if_pos (by simp[a3])]
   ·simp only[if_neg O];have b0:m<=j:=om;have b8:=yp0 hp b0;have b4:gn s.p m≠0:=fun z=>M ((yxk hp).1 z);rw[Array.getElem?_push,if_neg (by simp[a3];omega),Array.getElem?_setIfInBounds_ne (Ne.symm b4)];exact C.at' m b0
 ·rw[Array.getElem?_push,if_neg (by simp[a3];omega),Array.getElem?_setIfInBounds_ne om]at hz;rw[hD];exact C.lv i z hi b6 hz
 ·rw[hD];exact C.above i (by simp at hi;omega)
 ·by_cases M:m=0
  ·subst M;simp only[if_true];exact v0.cut hZ
  ·simp only[if_neg M];by_cases O:m=j+1
   ·simp only[if_pos O];exact v0.cut hX
   ·simp only[if_neg O];exact C.Hj m om
 ·by_cases M:m=0
  ·subst M;simp only[if_true]at hs⊢;exact xjh hs
  ·simp only[if_neg M]at hs⊢;by_cases O:m=j+1
   ·simp only[if_pos O]at hs⊢;exact xjh hs
   ·simp only[if_neg O]at hs⊢;exact C.apart m om b hs
 ·by_cases m0:m=0
  ·subst m0;simp only[if_true]at h1⊢;have n0:n≠0:=Ne.symm a8;simp only[if_neg n0]at H⊢;by_cases n1:n=j+1
   ·simp only[if_pos n1]at H⊢;exact a6 b hb h1 H
   ·simp only[if_neg n1]at H⊢;exact a2 X Z hX hZ n om n0 b hb h1 H
  ·simp only[if_neg m0]at h1⊢;by_cases m1:m=j+1
   ·simp only[if_pos m1]at h1⊢;by_cases n0:n=0
    ·subst n0;simp only[if_true]at H⊢;exact(a6 b hb H h1).symm
    ·simp only[if_neg n0]at H⊢;have n1:n≠j+1:=fun z=>a8 (m1.trans z.symm);simp only[if_neg n1]at H⊢;exact a2 Z X hZ hX n om n0 b hb h1 H
   ·simp only[if_neg m1]at h1⊢;by_cases n0:n=0
    ·subst n0;simp only[if_true]at H⊢;exact(a2 X Z hX hZ m om m0 b hb H h1).symm
    ·simp only[if_neg n0]at H⊢;by_cases n1:n=j+1
     ·simp only[if_pos n1]at H⊢;exact(a2 Z X hZ hX m om m0 b hb H h1).symm
     ·simp only[if_neg n1]at H⊢;exact C.dis m n om om a8 b hb h1 H
 ·by_cases M:m=0
  ·subst M;simp only[if_true];exact .inl (C.wgd 0 (Nat.zero_le _))
  ·simp only[if_neg M];by_cases O:m=j+1
   ·simp only[if_pos O];exact .inl (C.wgd 0 (Nat.zero_le _))
   ·simp only[if_neg O];exact C.wgd m om
 ·by_cases M:m=0
  ·subst M;simp only[if_true];exact(C.My 0 (Nat.zero_le _) b hb).imp .inl (a9 b)
  ·simp only[if_neg M];by_cases O:m=j+1
   ·simp only[if_pos O];exact(C.My 0 (Nat.zero_le _) b hb).imp .inl (a5 b)
   ·simp only[if_neg O];exact C.My m om b hb
 ·by_cases M:m=0
  ·subst M;simp only[if_true];exact .inl (C.sd 0 (Nat.zero_le _) b hb)
  ·simp only[if_neg M];by_cases O:m=j+1
   ·simp only[if_pos O];exact .inl (C.sd 0 (Nat.zero_le _) b hb)
   ·simp only[if_neg O];exact C.sd m om b hb
 ·refine C.ti.fork hx hy ((C.deaf 0 (Nat.zero_le _)).trans h0) (C.above _ om) (fun m hm=>?_) fun b hd=>?_
  ·by_cases M:m=0
   ·subst M;simp only[if_true];exact⟨fun _ z=>.inl z,a9⟩
   ·simp only[if_neg M];rw[if_neg om];exact⟨fun _ z=>z,fun _ z=>z⟩
  ·have:¬ (j+1=0):=om;simp only[if_neg this,if_true]at hd⊢;exact⟨fun z=>hd (.inl z),a5 b⟩
 ·rw[hD];by_cases O:m=j+1
  ·subst O;simp only[if_true,gn];exact C.above _ om
  ·simp only[if_neg O];exact C.deaf m om
end
open Go.Conc Go.RowKit Go.Conc.Lib Go.ConcR.Gen Go.ConcN.Gen
open Go.ConcR (KK wgBlock WgAt stA smA rd wr mk DC0)
open Go.ConcN (WgLive st_flag st_waiters)
open Go.ConcN.Gen
def RLv(ty:TypeId)(Wg:Nat)(w H:World):Prop:=WgLive ty Wg w->WgLive ty Wg H
theorem xeq{Wg:Nat}{H:World}(h:WgLive ty Wg w)(r:RLv ty Wg w H):WgLive ty Wg H:=r h
section
variable(P:Program)(ty:TypeId)(Wg:Nat)(gb:Goroutine)
def Lh(g:Goroutine)(w:World):Prop:=g=gb/\WgLive ty Wg w
def AtKeS(g:Goroutine)(w:World):Prop:=g.status=.running/\ ∃g',stepG P true g w=.go g' w #[mk .enable]/\ ∃m,Goes P true (RLv ty Wg) DC0 (Lh ty Wg gb) m g' w
def O3(g:Goroutine)(w:World):Prop:=g.status=.running/\ ∃g',stepG P true g w=.go g' w #[mk (.read (smA Wg))]/\ ∃m,Goes P true (RLv ty Wg) DC0 (AtKeS P ty Wg gb) m g' w
def AtA1(g:Goroutine)(w:World):Prop:=
 g.status=.running/\ ∀v:Nat,v<2147483647->WgAt ty Wg w (v*KK) 0->
  ∃g',stepG P true g w=.go g' (w.setCell (stA Wg) (.int .u64 ((v+1)*KK))) #[rd (stA Wg),wr (stA Wg)]/\
   (v=0-> ∃m,Goes P true (RLv ty Wg) DC0 (O3 P ty Wg gb) m g' (w.setCell (stA Wg) (.int .u64 ((v+1)*KK))))/\(v≠0-> ∃m,Goes P true (RLv ty Wg) DC0 (AtKeS P ty Wg gb) m g' (w.setCell (stA Wg) (.int .u64 ((v+1)*KK))))
def AtKdS(g:Goroutine)(w:World):Prop:=g.status=.running/\ ∃g',stepG P true g w=.go g' w #[mk .disable]/\ ∃m,Goes P true (RLv ty Wg) DC0 (AtA1 P ty Wg gb) m g' w
variable(AnchW:Goroutine->World->Prop)
def AtAcq(g:Goroutine)(w:World):Prop:=g.status=.running/\ ∃g',stepG P true g w=.go g' w #[mk (.acquire (stA Wg))]/\ ∃m,Goes P true (RLv ty Wg) DC0 (Lh ty Wg gb) m g' w
def AtKe(g:Goroutine)(w:World):Prop:=g.status=.running/\ ∃g',stepG P true g w=.go g' w #[mk .enable]/\ ∃m,Goes P true (RLv ty Wg) DC0 (AtAcq P ty Wg gb) m g' w
def AtW4(g:Goroutine)(w:World):Prop:=g.status=.running/\(WgAt ty Wg w 0 0-> ∃g',stepG P true g w=.go g' w #[rd (stA Wg)]/\ ∃m,Goes P true (RLv ty Wg) DC0 (AtKe P ty Wg gb) m g' w)
def AtW3(g:Goroutine)(w:World):Prop:=
 g.status=.running/\g.offers=none/\((∃st,WgAt ty Wg w st 0)->stepG P true g w=.go {g with status:=.blocked} w #[])/\
  (WgAt ty Wg w 0 1-> ∃g',stepG P true g w=.go g' (w.setCell (smA Wg) (.int .u32 0)) (semEvents (smA Wg))/\ ∃m,Goes P true (RLv ty Wg) DC0 (AtW4 P ty Wg gb) m g' (w.setCell (smA Wg) (.int .u32 0)))
def P8(g:Goroutine)(w:World):Prop:=g.status=.running/\ ∃g',stepG P true g w=.go g' w #[mk (.write (smA Wg))]/\ ∃m,Goes P true (RLv ty Wg) DC0 (AtW3 P ty Wg gb) m g' w
def AtW2(vs:Nat)(g:Goroutine)(w:World):Prop:=
 g.status=.running/\ ∀v:Nat,v<2147483648->WgAt ty Wg w (v*KK) 0->
  (v=vs-> ∃g',stepG P true g w=.go g' (w.setCell (stA Wg) (.int .u64 (v*KK+1))) #[rd (stA Wg),wr (stA Wg)]/\ ∃m,Goes P true (RLv ty Wg) DC0 (P8 P ty Wg gb) m g' (w.setCell (stA Wg) (.int .u64 (v*KK+1))))/\
  (v≠vs-> ∃g',stepG P true g w=.go g' w #[rd (stA Wg)]/\ ∃m,Goes P true (RLv ty Wg) DC0 AnchW m g' w)
def AtW1(g:Goroutine)(w:World):Prop:=
 g.status=.running/\ ∀v:Nat,v<2147483648->WgAt ty Wg w (v*KK) 0-> ∃g',stepG P true g w=.go g' w #[rd (stA Wg)]/\
  (v=0-> ∃m,Goes P true (RLv ty Wg) DC0 (AtKe P ty Wg gb) m g' w)/\(v≠0-> ∃m,Goes P true (RLv ty Wg) DC0 (AtW2 P ty Wg gb AnchW v) m g' w)
def AtKd(g:Goroutine)(w:World):Prop:=g.status=.running/\ ∃g',stepG P true g w=.go g' w #[mk .disable]/\ ∃m,Goes P true (RLv ty Wg) DC0 AnchW m g' w
end
section
variable(P:Program)(ty:TypeId)(Wg:Nat)
def AtD4(g:Goroutine)(w:World):Prop:=
 g.status=.running/\mayWake P g=true/\(WgAt ty Wg w 0 0-> ∃g',stepG P false g w=.go g' (w.setCell (smA Wg) (.int .u32 1)) (semEvents (smA Wg))/\ ∃q,QuitsD P q 1 g')
def AtD3(g:Goroutine)(w:World):Prop:=
 g.status=.running/\(WgAt ty Wg w 1 0-> ∃g',stepG P false g w=.go g' (w.setCell (stA Wg) (.int .u64 0)) #[wr (stA Wg)]/\ ∃m,Goes P false (RLv ty Wg) DC0 (AtD4 P ty Wg) m g' (w.setCell (stA Wg) (.int .u64 0)))
def AtD2(g:Goroutine)(w:World):Prop:=g.status=.running/\(WgAt ty Wg w 1 0-> ∃g',stepG P false g w=.go g' w #[rd (stA Wg)]/\ ∃m,Goes P false (RLv ty Wg) DC0 (AtD3 P ty Wg) m g' w)
def AtD1(g:Goroutine)(w:World):Prop:=
 g.status=.running/\ ∀v H:Nat,H<=1->v<2147483647->WgAt ty Wg w ((v+1)*KK+H) 0->
  ∃g',stepG P false g w=.go g' (w.setCell (stA Wg) (.int .u64 (v*KK+H))) #[rd (stA Wg),wr (stA Wg)]/\
   ((v=0/\H=1)-> ∃m,Goes P false (RLv ty Wg) DC0 (AtD2 P ty Wg) m g' (w.setCell (stA Wg) (.int .u64 (v*KK+H))))/\(¬ (v=0/\H=1)-> ∃q,QuitsD P q 1 g')
def AtK1(g:Goroutine)(w:World):Prop:=g.status=.running/\ ∃g',stepG P false g w=.go g' w #[mk .disable]/\ ∃m,Goes P false (RLv ty Wg) DC0 (AtD1 P ty Wg) m g' w
def AtR0(g:Goroutine)(w:World):Prop:=g.status=.running/\ ∃g',stepG P false g w=.go g' w #[mk (.releaseMerge (stA Wg))]/\ ∃m,Goes P false (RLv ty Wg) DC0 (AtK1 P ty Wg) m g' w
end
def Ni(L:WgLink)(Wg:Nat)(c:Frame)(cs:List Frame)(g:Goroutine)(w:World):Prop:=
 ∃T:Array Value,g=G ((base L.wait).at ⟨T,[]⟩ [.code (L7 L),.inLoop (L7 L),.inBlock 0]) (c::cs)/\T.size=84/\T[0]?=some (w_ Wg 0)/\WgLive L.tWg Wg w
open Go.ConcN (RelBy WD CTag Vc Ssum Fsum phi cnt sumTo upd sumTo_upd upd_ne upd_same WgLive)
open Go.ConcR (KK wgBlock WgAt stA smA rd wr mk DC0 Bk)
variable{gs':Array Goroutine}{tag:CTag}{c0:Goroutine×Heap}{D:Nat->WD}
theorem xhx{Wg:Nat}(w:World):RLv ty Wg w w:=id
theorem xgx{Wg:Nat}(a b c:World)(x:RLv ty Wg a b)(y:RLv ty Wg b c):RLv ty Wg a c:=fun z=>y (x z)
theorem xqx{Wg:Nat}(w:World)(d:Nat):RLv ty Wg w (w.at d):=id
section
variable(P:Program)(s:Site)(Ψ:Nat->Heap->Prop)(Kon:Goroutine->Prop)
def Fj(Φ:Heap->Prop)(g:Goroutine)(h:Heap):Prop:=
 (∀w,WgLive s.ty s.Wg w-> ∃m,Goes P false (RLv s.ty s.Wg) DC0 (AtR0 P s.ty s.Wg) m g w)/\Φ h
def WC(gb:Goroutine)(AnchW:Goroutine->World->Prop):Prop:=
 (∀g w,AnchW g w->g.status=.running)/\(∀g w,AnchW g w-> ∃m,Goes P true (RLv s.ty s.Wg) DC0 (AtW1 P s.ty s.Wg gb AnchW) m g w)/\Kon gb
def Mo(g:Goroutine)(_:Heap):Prop:=
 ∃gb AnchW,WC P s Kon gb AnchW/\ ∀w,WgLive s.ty s.Wg w-> ∃m,Goes P true (RLv s.ty s.Wg) DC0 (AtKd P s.ty s.Wg AnchW) m g w
def Lj(k:Nat)(H:Goroutine->Heap->Prop)(g:Goroutine)(h:Heap):Prop:=
 g.status=.running/\ ∃g' child X Z,(∀w,stepG P true g w=.spawn g' child w #[])/\(∀b∈X,Exc h b)/\(∀b∈Z,Exc h b)/\
  ∀h',Av h h'->Reach P (.own false) child (Dr Z X h') (Fj P s (Ψ k))/\H g' (Dr X Z h')
def M2(k:Nat)(H:Goroutine->Heap->Prop)(gb:Goroutine)(h:Heap):Prop:=∀h',Av h h'->Reach P (.own true) gb h' (Lj P s Ψ k H)
def Lx(k:Nat)(H:Goroutine->Heap->Prop)(g:Goroutine)(h:Heap):Prop:=
 ∃gb,(∀w,WgLive s.ty s.Wg w-> ∃m,Goes P true (RLv s.ty s.Wg) DC0 (AtKdS P s.ty s.Wg gb) m g w)/\M2 P s Ψ k H gb h
def Scr:Nat->Goroutine->Heap->Prop
 |0,g,h=>Reach P (.own true) g h (Mo P s Kon)
 |r+1,g,h=>Reach P (.own true) g h (Lx P s Ψ (1-r) (Scr r))
inductive WSx (Φ:Heap->Prop) (key:Goroutine×Heap):Nat->Bool->Nat->Nat->Goroutine->Heap->World->Prop
 |walk {g:Goroutine} {h:Heap} {w:World}:g=key.1->Av key.2 h->WSx Φ key 7 true 0 0 g h w
 |r0 {m:Nat} {g:Goroutine} {h:Heap} {w:World}:Φ h->Goes P false (RLv s.ty s.Wg) DC0 (AtR0 P s.ty s.Wg) m g w->WSx Φ key 7 false m 0 g h w
 |k1 {m:Nat} {g:Goroutine} {h:Heap} {w:World}:Φ h->Goes P false (RLv s.ty s.Wg) DC0 (AtK1 P s.ty s.Wg) m g w->WSx Φ key 6 false m 0 g h w
 |d1 {m:Nat} {g:Goroutine} {h:Heap} {w:World}:Φ h->Goes P false (RLv s.ty s.Wg) DC0 (AtD1 P s.ty s.Wg) m g w->WSx Φ key 5 false m 1 g h w
 |d2 {m:Nat} {g:Goroutine} {h:Heap} {w:World}:Φ h->Goes P false (RLv s.ty s.Wg) DC0 (AtD2 P s.ty s.Wg) m g w->WSx Φ key 4 false m 1 g h w
 |d3 {m:Nat} {g:Goroutine} {h:Heap} {w:World}:Φ h->Goes P false (RLv s.ty s.Wg) DC0 (AtD3 P s.ty s.Wg) m g w->WSx Φ key 3 false m 1 g h w
 |d4 {m:Nat} {g:Goroutine} {h:Heap} {w:World}:Φ h->Goes P false (RLv s.ty s.Wg) DC0 (AtD4 P s.ty s.Wg) m g w->WSx Φ key 2 false m 1 g h w
 |quit {q d:Nat} {g:Goroutine} {h:Heap} {w:World}:Φ h->QuitsD P q d g->WSx Φ key 1 false q d g h w
inductive Wk0 where
 |none
 |add (r:Nat)
 |go (r:Nat)
 |wait
def H4:Wk0->Option (Goroutine->Heap->Prop)
 |.none=>.none
 |.add r=>some (Lx P s Ψ (1-r) (Scr P s Ψ Kon r))
 |.go r=>some (Lj P s Ψ (1-r) (Scr P s Ψ Kon r))
 |.wait=>some (Mo P s Kon)
def stf(w0:Wk0)(j:Nat)(wk:Nat->Bool):Nat->Option (Goroutine->Heap->Prop)
 |0=>H4 P s Ψ Kon w0
 |k+1=>if k<j/\wk k=true then some (Fj P s (Ψ k))else .none
inductive MSx (key:Goroutine×Heap):CTag->Wk0->Nat->Nat->Nat->Nat->Goroutine->Heap->World->Prop
 |wk5 {r:Nat} {g:Goroutine} {h:Heap} {w:World}:r<2->g=key.1->Av key.2 h->MSx key (.sp r 5) (.add r) 1 (1-r) 0 0 g h w
 |kd5 {r m:Nat} {gb g:Goroutine} {h:Heap} {w:World}:r<2->Goes P true (RLv s.ty s.Wg) DC0 (AtKdS P s.ty s.Wg gb) m g w->M2 P s Ψ (1-r) (Scr P s Ψ Kon r) gb h->MSx key (.sp r 5) .none 0 (1-r) m 0 g h w
 |a1 {r m:Nat} {gb g:Goroutine} {h:Heap} {w:World}:r<2->Goes P true (RLv s.ty s.Wg) DC0 (AtA1 P s.ty s.Wg gb) m g w->M2 P s Ψ (1-r) (Scr P s Ψ Kon r) gb h->MSx key (.sp r 4) .none 0 (1-r) m 1 g h w
 |rd {r m:Nat} {gb g:Goroutine} {h:Heap} {w:World}:r<2->Goes P true (RLv s.ty s.Wg) DC0 (O3 P s.ty s.Wg gb) m g w->M2 P s Ψ (1-r) (Scr P s Ψ Kon r) gb h->MSx key (.sp r 3) .none 1 (1-r) m 1 g h w
 |kes {r m:Nat} {gb g:Goroutine} {h:Heap} {w:World}:r<2->Goes P true (RLv s.ty s.Wg) DC0 (AtKeS P s.ty s.Wg gb) m g w->M2 P s Ψ (1-r) (Scr P s Ψ Kon r) gb h->MSx key (.sp r 3) .none 0 (1-r) m 1 g h w
 |bk {r m:Nat} {gb g:Goroutine} {h:Heap} {w:World}:r<2->Goes P true (RLv s.ty s.Wg) DC0 (Lh s.ty s.Wg gb) m g w->M2 P s Ψ (1-r) (Scr P s Ψ Kon r) gb h->MSx key (.sp r 2) .none 1 (1-r) m 0 g h w
 |wk2 {r:Nat} {g:Goroutine} {h:Heap} {w:World}:r<2->g=key.1->Av key.2 h->MSx key (.sp r 2) (.go r) 0 (1-r) 0 0 g h w
 |wkW {g:Goroutine} {h:Heap} {w:World}:g=key.1->Av key.2 h->MSx key .kd .wait 1 2 0 0 g h w
 |kd {m:Nat} {gb g:Goroutine} {AnchW:Goroutine->World->Prop} {h:Heap} {w:World}:WC P s Kon gb AnchW->Goes P true (RLv s.ty s.Wg) DC0 (AtKd P s.ty s.Wg AnchW) m g w->MSx key .kd .none 0 2 m 0 g h w
 |anch {m:Nat} {gb g:Goroutine} {AnchW:Goroutine->World->Prop} {h:Heap} {w:World}:WC P s Kon gb AnchW->Goes P true (RLv s.ty s.Wg) DC0 AnchW m g w->MSx key .anch .none 0 2 m 1 g h w
 |w1 {m:Nat} {gb g:Goroutine} {AnchW:Goroutine->World->Prop} {h:Heap} {w:World}:WC P s Kon gb AnchW->Goes P true (RLv s.ty s.Wg) DC0 (AtW1 P s.ty s.Wg gb AnchW) m g w->MSx key .w1 .none 0 2 m 1 g h w
 |w2 {vs m:Nat} {gb g:Goroutine} {AnchW:Goroutine->World->Prop} {h:Heap} {w:World}:WC P s Kon gb AnchW->Goes P true (RLv s.ty s.Wg) DC0 (AtW2 P s.ty s.Wg gb AnchW vs) m g w->MSx key (.w2 vs) .none 0 2 m 1 g h w
 |wr {m:Nat} {gb g:Goroutine} {h:Heap} {w:World}:Kon gb->Goes P true (RLv s.ty s.Wg) DC0 (P8 P s.ty s.Wg gb) m g w->MSx key .w3 .none 1 2 (m+1) 1 g h w
 |w3 {m:Nat} {gb g:Goroutine} {h:Heap} {w:World}:Kon gb->Goes P true (RLv s.ty s.Wg) DC0 (AtW3 P s.ty s.Wg gb) m g w->MSx key .w3 .none 0 2 (m+1) 1 g h w
 |blk {gb g:Goroutine} {h:Heap} {w:World}:Kon gb->(∀w₁,RLv s.ty s.Wg w w₁->AtW3 P s.ty s.Wg gb g w₁)->MSx key .blk .none 0 2 0 1 {g with status:=.blocked} h w
 |w4 {m:Nat} {gb g:Goroutine} {h:Heap} {w:World}:Kon gb->Goes P true (RLv s.ty s.Wg) DC0 (AtW4 P s.ty s.Wg gb) m g w->MSx key .w4 .none 0 2 m 1 g h w
 |ke {m:Nat} {gb g:Goroutine} {h:Heap} {w:World}:Kon gb->Goes P true (RLv s.ty s.Wg) DC0 (AtKe P s.ty s.Wg gb) m g w->MSx key .ke .none 0 2 m 1 g h w
 |acq {m:Nat} {gb g:Goroutine} {h:Heap} {w:World}:Kon gb->Goes P true (RLv s.ty s.Wg) DC0 (AtAcq P s.ty s.Wg gb) m g w->MSx key .acq .none 0 2 m 0 g h w
 |ret {m:Nat} {gb g:Goroutine} {h:Heap} {w:World}:Kon gb->Goes P true (RLv s.ty s.Wg) DC0 (Lh s.ty s.Wg gb) m g w->MSx key .ret .none 0 2 m 0 g h w
end
variable{w0:Wk0}
section
variable{Kon:Goroutine->Prop}{key:Goroutine×Heap}{f st m:Nat}{b:Bool}{g:Goroutine}
theorem Fj.stay(H:∀h h',Av h h'->Φ h->Φ h')(x:Fj P s Φ g h)(k:Av h h'):Fj P s Φ g h':=⟨x.1,H _ _ k x.2⟩
theorem Exc.stay{i:Nat}(x:Exc h i)(k:Av h h'):Exc h' i:=by
 obtain⟨c,e,H,hc⟩:=x;exact⟨c,e,(k.C3 i (Array.getElem?_eq_some_iff.1 H).1).trans H,hc⟩
theorem M2.stay{k:Nat}{H:Goroutine->Heap->Prop}(x:M2 P s Ψ k H g h)(y:Av h h'):M2 P s Ψ k H g h':=fun M z=>x M (y.trans z)
theorem Lj.stay{k:Nat}{H:Goroutine->Heap->Prop}(x:Lj P s Ψ k H g h)(y:Av h h'):Lj P s Ψ k H g h':=by
 obtain⟨r,g',child,X,Z,a,b,c,d⟩:=x;exact⟨r,g',child,X,Z,a,fun i hi=>(b i hi).stay y,fun i hi=>(c i hi).stay y,fun M z=>d M (y.trans z)⟩
theorem WSx.rely(H:∀h h',Av h h'->Φ h->Φ h')(x:WSx P s Φ key st b m d g h w)(r:RLv s.ty s.Wg w w')(k:Av h h'):WSx P s Φ key st b m d g h' w':=by
 cases x with
 |walk a c=>exact .walk a (c.trans k)
 |r0 a c=>exact .r0 (H _ _ k a) (Goes.rely xgx c r)
 |k1 a c=>exact .k1 (H _ _ k a) (Goes.rely xgx c r)
 |d1 a c=>exact .d1 (H _ _ k a) (Goes.rely xgx c r)
 |d2 a c=>exact .d2 (H _ _ k a) (Goes.rely xgx c r)
 |d3 a c=>exact .d3 (H _ _ k a) (Goes.rely xgx c r)
 |d4 a c=>exact .d4 (H _ _ k a) (Goes.rely xgx c r)
 |quit a c=>exact .quit (H _ _ k a) c
theorem xlk{b:Bool}{Stop:Goroutine->Heap->Prop}(hs:∀g h,Stop g h->g.status=.running)(x:Reach P (.own b) g h Stop):g.status=.running:=
 x (fun g _=>g.status=.running) hs fun _ _ o=>o.1
theorem Fj.running(H:∃w,WgLive s.ty s.Wg w)(x:Fj P s Φ g h):g.status=.running:=by
 obtain⟨w,hw⟩:=H;obtain⟨m,M⟩:=x.1 w hw;exact Goes.running (fun _ _ x=>x.1) w (xhx w) M
theorem WSx.status(H:WgLive s.ty s.Wg w)(M:b=true->Reach P (.own false) key.1 key.2 (Fj P s Φ))(x:WSx P s Φ key st b m d g h w):g.status=.running\/(g.status=.finished/\st=1):=by
 cases x with
 |walk a c=>subst a;exact .inl (xlk (fun _ _ z=>z.running ⟨w,H⟩) (M rfl))
 |r0 a c=>exact .inl (Goes.running (fun _ _ x=>x.1) w (xhx w) c)
 |k1 a c=>exact .inl (Goes.running (fun _ _ x=>x.1) w (xhx w) c)
 |d1 a c=>exact .inl (Goes.running (fun _ _ x=>x.1) w (xhx w) c)
 |d2 a c=>exact .inl (Goes.running (fun _ _ x=>x.1) w (xhx w) c)
 |d3 a c=>exact .inl (Goes.running (fun _ _ x=>x.1) w (xhx w) c)
 |d4 a c=>exact .inl (Goes.running (fun _ _ x=>x.1) w (xhx w) c)
 |quit a c=>exact c.status.imp id fun z=>⟨z,rfl⟩
theorem WSx.woken(H:WgLive s.ty s.Wg w)(M:b=true->Reach P (.own false) key.1 key.2 (Fj P s Φ))(x:WSx P s Φ key st b m d g h w)(a a':Goroutine)(w':World):woken P a a' w' g=g:=by
 unfold Go.Conc.woken;split
 ·exact again_running _ ((x.status H M).imp id fun z=>z.1)
 ·rfl
theorem MSx.rely(x:MSx P s Ψ Kon key tag w0 fl j f d g h w)(r:RLv s.ty s.Wg w w')(k:Av h h'):MSx P s Ψ Kon key tag w0 fl j f d g h' w':=by
 cases x with
 |wk5 a c e=>exact .wk5 a c (e.trans k)
 |kd5 a c e=>exact .kd5 a (Goes.rely xgx c r) (e.stay k)
 |a1 a c e=>exact .a1 a (Goes.rely xgx c r) (e.stay k)
 |rd a c e=>exact .rd a (Goes.rely xgx c r) (e.stay k)
 |kes a c e=>exact .kes a (Goes.rely xgx c r) (e.stay k)
 |bk a c e=>exact .bk a (Goes.rely xgx c r) (e.stay k)
 |wk2 a c e=>exact .wk2 a c (e.trans k)
 |wkW c e=>exact .wkW c (e.trans k)
 |kd a c=>exact .kd a (Goes.rely xgx c r)
 |anch a c=>exact .anch a (Goes.rely xgx c r)
 |w1 a c=>exact .w1 a (Goes.rely xgx c r)
 |w2 a c=>exact .w2 a (Goes.rely xgx c r)
 |wr a c=>exact .wr a (Goes.rely xgx c r)
 |w3 a c=>exact .w3 a (Goes.rely xgx c r)
 |blk a c=>exact .blk a fun M H=>c M (xgx _ _ _ r H)
 |w4 a c=>exact .w4 a (Goes.rely xgx c r)
 |ke a c=>exact .ke a (Goes.rely xgx c r)
 |acq a c=>exact .acq a (Goes.rely xgx c r)
 |ret a c=>exact .ret a (Goes.rely xgx c r)
theorem MSx.status(V:WgLive s.ty s.Wg w)(H:∀gb,Kon gb->gb.status=.running)(O:∀S,H4 P s Ψ Kon w0=some S->Reach P (.own true) key.1 key.2 S)(x:MSx P s Ψ Kon key tag w0 fl j f d g h w):(g.status=.running/\tag≠.blk)\/(g.status=.blocked/\tag=.blk):=by
 have hb:∀{r:Nat}{gb:Goroutine}{h:Heap},M2 P s Ψ (1-r) (Scr P s Ψ Kon r) gb h->gb.status=.running:=fun c=>xlk (fun _ _ z=>z.1) (c _ (.refl _));cases x with
 |wk5 a c e=>
   subst c;refine .inl ⟨xlk (fun g h z=>?_) (O _ rfl),s_⟩;obtain⟨gb,z,_⟩:=z;obtain⟨m,M⟩:=z w V;exact Goes.running (fun _ _ x=>x.1) w (xhx w) M
 |kd5 a c e=>exact .inl ⟨Goes.running (fun _ _ x=>x.1) w (xhx w) c,s_⟩
 |a1 a c e=>exact .inl ⟨Goes.running (fun _ _ x=>x.1) w (xhx w) c,s_⟩
 |rd a c e=>exact .inl ⟨Goes.running (fun _ _ x=>x.1) w (xhx w) c,s_⟩
 |kes a c e=>exact .inl ⟨Goes.running (fun _ _ x=>x.1) w (xhx w) c,s_⟩
 |bk a c e=>exact .inl ⟨Goes.running (fun _ _ x=>by rw[x.1];exact hb e) w (xhx w) c,s_⟩
 |wk2 a c e=>subst c;exact .inl ⟨xlk (fun _ _ z=>z.1) (O _ rfl),s_⟩
 |wkW c e=>
   subst c;refine .inl ⟨xlk (fun g h z=>?_) (O _ rfl),s_⟩;obtain⟨gb,An,_,z⟩:=z;obtain⟨m,M⟩:=z w V;exact Goes.running (fun _ _ x=>x.1) w (xhx w) M
 |kd a c=>exact .inl ⟨Goes.running (fun _ _ x=>x.1) w (xhx w) c,s_⟩
 |anch a c=>exact .inl ⟨Goes.running a.1 w (xhx w) c,s_⟩
 |w1 a c=>exact .inl ⟨Goes.running (fun _ _ x=>x.1) w (xhx w) c,s_⟩
 |w2 a c=>exact .inl ⟨Goes.running (fun _ _ x=>x.1) w (xhx w) c,s_⟩
 |wr a c=>exact .inl ⟨Goes.running (fun _ _ x=>x.1) w (xhx w) c,s_⟩
 |w3 a c=>exact .inl ⟨Goes.running (fun _ _ x=>x.1) w (xhx w) c,s_⟩
 |blk a c=>exact .inr ⟨rfl,rfl⟩
 |w4 a c=>exact .inl ⟨Goes.running (fun _ _ x=>x.1) w (xhx w) c,s_⟩
 |ke a c=>exact .inl ⟨Goes.running (fun _ _ x=>x.1) w (xhx w) c,s_⟩
 |acq a c=>exact .inl ⟨Goes.running (fun _ _ x=>x.1) w (xhx w) c,s_⟩
 |ret a c=>exact .inl ⟨Goes.running (fun _ _ x=>by rw[x.1];exact H _ a) w (xhx w) c,s_⟩
theorem MSx.wokenBy(hl:WgLive s.ty s.Wg w)(M:∀gb,Kon gb->gb.status=.running)(hk:∀S,H4 P s Ψ Kon w0=some S->Reach P (.own true) key.1 key.2 S)(x:MSx P s Ψ Kon key tag w0 fl j f d g h w)(r:RLv s.ty s.Wg w w')(k:Av h h')(a a':Goroutine):
 ∃H f',MSx P s Ψ Kon key H w0 fl j f' d (woken P a a' w' g) h' w'/\f'<=f+1/\(H=tag\/(tag=.blk/\H=.w3))/\(mayWake P a=true->a'.status=.running->H≠.blk):=by
 have O:=x.rely r k;unfold Go.Conc.woken;split
 ·rcases O.status (r hl) M hk with⟨hs,V⟩|⟨_,rfl⟩
  ·exact⟨tag,f,by rw[again_running _ (.inl hs)];exact O,om,.inl rfl,fun _ _=>V⟩
  ·cases O with
   |blk hb1 hb=>
     have h3:=hb w' (xhx w');exact⟨.w3,0+1,by rw[Go.ConcR.again_blocked h3.1 h3.2.1];exact .w3 hb1 (Goes.stop hb),om,.inr ⟨rfl,rfl⟩,fun _ _=>by simp⟩
 ·rename_i hc;exact⟨tag,f,O,om,.inl rfl,fun h1 h2=>absurd (by simp[h1,h2]) hc⟩
end
section
variable(P:Program)(s:Site)(Ψ:Nat->Heap->Prop)(Kon:Goroutine->Prop)
def Joined(hw:Nat->Heap)(he:Heap):Prop:=
 s.z9.size<=he.size/\(∀b,s.Old b->he[b]?=s.z9[b]?)/\(∀k,k<2->Ψ k (hw k)/\ ∀b,Exc (hw k) b->he[b]?=(hw k)[b]?/\(b<s.z9.size->b∈s.Z))/\ ∀b,Exc (hw 0) b-> ¬ Exc (hw 1) b
def Fin(gs:Array Goroutine)(w:World)(sl:Option (Nat×Nat))(t:Trace):Prop:=
 ∃(N:Nat)(H:Nat->Prop)(gs':Array Goroutine)(w':World)(sl':Option (Nat×Nat))(M:Trace)(O:Nat->Nat)(gb:Goroutine)(he:Heap)(hw:Nat->Heap),
  runNT P N (crowd gs w sl) t=(.next (crowd gs' w' sl'),M)/\H8 P H gs' w' M O gb he/\Kon gb/\Joined s Ψ hw he/\Quiet (.of s.S) w w'/\ ∀b,s.S b->H b
structure Da(w0:Wk0)(j:Nat)(wk:Nat->Bool)(c:Nat->Goroutine×Heap)(V:Nat->Vw)(hv:Nat->Heap)(g:Nat->Goroutine)(dd q:Nat->Nat)(D:Nat->WD)(tag:CTag)(fl f0:Nat)(st sm:Int)
 (gs:Array Goroutine)(w:World)(t:Trace):Prop where
 Em:Ho s P j V hv g dd q gs w t
 main:MSx P s Ψ Kon (c 0) tag w0 fl j f0 (dd 0) (g 0) (hv 0) w
 work:∀k,k<j->WSx P s (Ψ k) (c (k+1)) (D k).stage (wk k) (D k).fuel (dd (k+1)) (g (k+1)) (hv (k+1)) w
 rel:∀k,k<j->(D k).stage<=6-> ∃r,s.q8<=r/\RelBy (stA s.Wg) t (s.p+k) r
 wg:WgAt s.ty s.Wg w st sm
 mode:Go.ConcN.Mode j D tag st sm
 acq:tag=.ret->Gn s.Wg s.q8 s.p j t
def Bc(j:Nat)(wk:Nat->Bool):Nat:=sumTo j fun k=>if wk k then 1 else 0
def E3(tag:CTag)(fl j:Nat)(wk:Nat->Bool)(D:Nat->WD):Nat:=4*(phi 2 (Vc j D) tag+Ssum j D)+fl+Bc j wk
def fuel(p f0 j:Nat)(D:Nat->WD)(q:Nat->Nat):Nat:=f0+2*Fsum j D+2*sumTo p q
def Kd(M:Nat)(w0:Wk0)(j:Nat)(wk:Nat->Bool)(c:Nat->Goroutine×Heap)(μ:Nat)(gs:Array Goroutine)(w:World)(t:Trace):Prop:=
 ∃V hv g dd q D tag fl f0 st sm,Da P s Ψ Kon w0 j wk c V hv g dd q D tag fl f0 st sm gs w t/\E3 tag fl j wk D=M/\fuel s.p f0 j D q=μ
def Gh(M μ:Nat)(w0:Wk0)(j:Nat)(wk:Nat->Bool)(c:Nat->Goroutine×Heap)(gs:Array Goroutine)(w:World)(t:Trace):Prop:=
 (∃M' w0' j' wk' c' μ',M'<M/\(∀k,RK (stf P s Ψ Kon w0' j' wk') P k (c' k))/\Kd P s Ψ Kon M' w0' j' wk' c' μ' gs w t)\/ ∃μ',μ'<μ/\Kd P s Ψ Kon M w0 j wk c μ' gs w t
end
section
variable{Kon:Goroutine->Prop}{c:Nat->Goroutine×Heap}{hv:Nat->Heap}{q:Nat->Nat}{sm:Int}{sl:Option (Nat×Nat)}
theorem MSx.le{key:Goroutine×Heap}{f d:Nat}{g:Goroutine}{h:Heap}(x:MSx P s Ψ Kon key tag w0 fl j f d g h w):j<=2/\fl<=1/\(j+Go.ConcN.pend tag<=2):=by
 cases x<;>simp only[Go.ConcN.pend]<;>(try simp)<;>omega
theorem xyr(j:Nat)(wk:Nat->Bool):Bc j wk<=j:=by
 have:=Go.ConcN.sumTo_le (f:=fun k=>if wk k then 1 else 0) (c:=1) (j:=j) fun i _=>by split<;>omega
 simpa[Bc]using this
theorem Ho.draw(C:Ho s P j V hv g dd q gs w t)(d:Nat):Ho s P j V hv g dd q gs (w.at d) t:=
 ⟨C.pos,C.size,C.at',C.lv,C.above,C.Hj,C.apart,C.dis,C.wgd,C.old,C.My,C.sd,C.Nw,C.ti,C.deaf⟩
theorem Da.draw(H:∀k h h',Av h h'->Ψ k h->Ψ k h')(I:Da P s Ψ Kon w0 j wk c V hv g dd q D tag fl f0 st sm gs w t)(d:Nat):Da P s Ψ Kon w0 j wk c V hv g dd q D tag fl f0 st sm gs (w.at d) t:=
 ⟨I.Em.draw d,I.main.rely (xqx w d) (.refl _),fun k M=>(I.work k M).rely (H k) (xqx w d) (.refl _),I.rel,I.wg,I.mode,I.acq⟩
theorem xr7{ops:Trace}(h:stepT P (crowd gs w sl)=(.next (crowd gs' w' sl'),ops))(hc:Quiet (.of s.S) w w')(x:Fin P s Ψ Kon gs' w' sl' (t++ops)):Fin P s Ψ Kon gs w sl t:=by
 obtain⟨N,V,M,w2,H,t2,O,gb,he,hw,a,b,e,f,i,k⟩:=x;exact⟨N+1,V,M,w2,H,t2,O,gb,he,hw,by simp only[runNT,h];exact a,b,e,f,hc.trans i,k⟩
theorem Gn.app{u:Trace}{Wg q8 p:Nat}(h:Gn Wg q8 p j t)(hu:∀k r,k<j->RelBy (stA Wg) t (p+k) r->RelBy (stA Wg) (t++u) (p+k) r):Gn Wg q8 p j (t++u):=by
 obtain⟨q,M,h2,V,h4⟩:=h;have H:=lt_of_act? M;exact⟨q,by rw[act?_old H];exact M,by rw[g?_old H];exact h2,(heard_old H).2 V,fun k O=>let⟨r,hr0,hr,hrq⟩:=h4 k O;⟨r,hr0,hu k r O hr,hrq⟩⟩
def BkX(Wg k:Nat)(e:Event):Prop:=Bk Wg e\/e=mk (.acquire (stA Wg))\/e=mk (.releaseMerge (stA Wg))\/(k=0/\(e=mk (.read (smA Wg))\/e=mk (.write (smA Wg))))
theorem BkX.ok{Wg k B:Nat}{e:Event}(h:BkX Wg k e)(M:Wg<B):
 (∀x,(MemAct.ofEvent e).touch?=some x->(∃a:Addr,x.loc=.cell a/\a.block=Wg)/\x.kind≠.plain/\(x.kind=.said->k=0))/\(MemAct.ofEvent e).low B/\MemAct.ofEvent e≠.mark (.release (stA Wg)):=by
 rcases h with(h|h|⟨a,wr,rfl,ha⟩)|rfl|rfl|⟨hk,rfl|rfl⟩
 ·obtain⟨loc,wr,O⟩:=e;simp only at h;subst h;exact⟨by intro x H;simp[MemAct.ofEvent,MemAct.touch?]at H,trivial,by simp[MemAct.ofEvent]⟩
 ·obtain⟨loc,wr,O⟩:=e;simp only at h;subst h;exact⟨by intro x H;simp[MemAct.ofEvent,MemAct.touch?]at H,trivial,by simp[MemAct.ofEvent]⟩
 ·refine⟨fun x H=>?_,?_,by simp[MemAct.ofEvent]⟩
  ·simp[MemAct.ofEvent,MemAct.touch?]at H;subst H;exact⟨⟨a,rfl,ha⟩,s_,s_⟩
  ·show a.block<B;omega
 ·exact⟨by intro x H;simp[mk,MemAct.ofEvent,MemAct.touch?]at H,M,by simp[mk,MemAct.ofEvent]⟩
 ·exact⟨by intro x H;simp[mk,MemAct.ofEvent,MemAct.touch?]at H,M,by simp[mk,MemAct.ofEvent]⟩
 ·refine⟨fun x H=>?_,M,by simp[mk,MemAct.ofEvent]⟩;simp[mk,MemAct.ofEvent,MemAct.touch?]at H;subst H;exact⟨⟨_,rfl,rfl⟩,s_,fun _=>hk⟩
 ·refine⟨fun x H=>?_,M,by simp[mk,MemAct.ofEvent]⟩;simp[mk,MemAct.ofEvent,MemAct.touch?]at H;subst H;exact⟨⟨_,rfl,rfl⟩,s_,fun _=>hk⟩
theorem Da.lt(I:Da P s Ψ Kon w0 j wk c V hv g dd q D tag fl f0 st sm gs w t):s.Wg<w.heap.size:=(Array.getElem?_eq_some_iff.1 I.wg).1
theorem Da.live(I:Da P s Ψ Kon w0 j wk c V hv g dd q D tag fl f0 st sm gs w t):WgLive s.ty s.Wg w:=⟨_,_,I.wg⟩
theorem xah(H:∀k,RK (stf P s Ψ Kon w0 j wk) P k (c k)){k:Nat}(M:k<j):wk k=true->Reach P (.own false) (c (k+1)).1 (c (k+1)).2 (Fj P s (Ψ k)):=
 fun h=>H (k+1) _ (by simp[stf,M,h])
theorem xym(H:∀k,RK (stf P s Ψ Kon w0 j wk) P k (c k)):∀S,H4 P s Ψ Kon w0=some S->Reach P (.own true) (c 0).1 (c 0).2 S:=fun S h=>H 0 S h
theorem xjm(b7:∀k h h',Av h h'->Ψ k h->Ψ k h')(a9:∀gb,Kon gb->gb.status=.running)(hR:∀k,RK (stf P s Ψ Kon w0 j wk) P k (c k))(I:Da P s Ψ Kon w0 j wk c V hv g dd q D tag fl f0 st sm gs w t){k:Nat}(hk:k<j)(b9:wk k=false)
 {M m' d':Nat}{pos:String}(a7:Aside s.Wg w w')(a4:∀e∈es,BkX s.Wg (k+1) e)
 (b6:WSx P s (Ψ k) (c (k+1)) M false m' d' a' (hv (k+1)) w')(b8:deafBehind (dd (k+1)) es=d')
 (b0:M<=6-> ∃r,s.q8<=r/\RelBy (stA s.Wg) (t++MemOp.ofEvents (s.p+k) fn pos es) (s.p+k) r)(a6:WgAt s.ty s.Wg w' st' sm')
 (a3:∀H,(H=tag\/(tag=.blk/\H=.w3))->(mayWake P (g (k+1))=true->a'.status=.running->H≠.blk)->Go.ConcN.Mode j (upd D k ⟨M,m',0⟩) H st' sm')
 (b3:tag=.ret->Gn s.Wg s.q8 s.p j (t++MemOp.ofEvents (s.p+k) fn pos es))
 (c1:(M<(D k).stage/\cnt ⟨M,m',0⟩<=cnt (D k))\/(M=(D k).stage/\m'+1=(D k).fuel)):
 Gh P s Ψ Kon (E3 tag fl j wk D) (fuel s.p f0 j D q) w0 j wk c ((gs.map (woken P (g (k+1)) a' w')).setIfInBounds (s.p+k) a') w' (t++MemOp.ofEvents (s.p+k) fn pos es):=by
 have a8:RLv s.ty s.Wg w w':=fun _=>⟨_,_,a6⟩
 obtain⟨H,f',b5,c2,O,a5⟩:=I.main.wokenBy I.live a9 (xym hR) a8 (.refl _) (g (k+1)) a';have C':=I.Em.book (k:=k+1) (a':=a') (fn:=fn) (pos:=pos) om a7.size a7.block (fun e he=>((a4 e he).ok I.lt).1) (fun e he=>((a4 e he).ok I.lt).2.1) fun e he=>((a4 e he).ok I.lt).2.2;have hN:Da P s Ψ Kon w0 j wk c V hv (wok P (g (k+1)) a' w' (k+1) g) (upd dd (k+1) (deafBehind (dd (k+1)) es)) q (upd D k ⟨M,m',0⟩) H fl f' st' sm' ((gs.map (woken P (g (k+1)) a' w')).setIfInBounds (s.p+k) a') w' (t++MemOp.ofEvents (s.p+k) fn pos es):=by
  refine⟨C',?_,fun m hm=>?_,fun m hm a2=>?_,a6,a3 H O a5,fun e=>?_⟩
  ·have e0:wok P (g (k+1)) a' w' (k+1) g 0=woken P (g (k+1)) a' w' (g 0):=by unfold wok;rw[upd_ne _ _ om]
   rw[e0,upd_ne _ _ (by omega:(0:Nat)≠k+1)];exact b5
  ·by_cases e:m=k
   ·subst e;have e1:wok P (g (m+1)) a' w' (m+1) g (m+1)=a':=by unfold wok;rw[upd_same]
    rw[e1,upd_same,upd_same,b9,b8];exact b6
   ·have e1:wok P (g (k+1)) a' w' (k+1) g (m+1)=g (m+1):=by
     unfold wok;rw[upd_ne _ _ om];exact(I.work m hm).woken I.live (xah hR hm) _ _ _
    rw[e1,upd_ne _ _ (by omega:m+1≠k+1),upd_ne _ _ e];exact(I.work m hm).rely (b7 m) a8 (.refl _)
  ·by_cases e:m=k
   ·subst e;rw[upd_same]at a2;exact b0 a2
   ·rw[upd_ne _ _ e]at a2;obtain⟨r,b4,hr⟩:=I.rel m hm a2;exact⟨r,b4,hr.appOther xzc om⟩
  ·rcases O with rfl|⟨_,rfl⟩
   ·exact b3 e
   ·cases e
 have e1:=sumTo_upd D (⟨M,m',0⟩:WD) cnt hk;have e2:=sumTo_upd D (⟨M,m',0⟩:WD) WD.stage hk;have e3:=sumTo_upd D (⟨M,m',0⟩:WD) WD.fuel hk;have hw:=xyr j wk;have hl:=I.main.le;rcases c1 with⟨h1,h2⟩|⟨h1,h2⟩
 ·refine .inl ⟨_,w0,j,wk,c,_,?_,hR,_,_,_,_,_,_,_,_,_,_,_,hN,rfl,rfl⟩;simp only[E3];rw[Go.ConcN.phi_retag 2 _ O];simp only[Vc,Ssum]at*;have:=Go.ConcN.phi_mono 2 (v':=sumTo j fun a=>cnt (upd D k ⟨M,m',0⟩ a)) (v:=sumTo j fun a=>cnt (D a)) om tag;omega
 ·have ec:cnt (⟨M,m',0⟩:WD)=cnt (D k):=by simp only[cnt,h1]
  have ev:Vc j (upd D k ⟨M,m',0⟩)=Vc j D:=by simp only[Vc]at *;omega
  have es':Ssum j (upd D k ⟨M,m',0⟩)=Ssum j D:=by simp only[Ssum]at *;omega
  refine .inr ⟨_,?_,_,_,_,_,_,_,_,_,_,_,_,hN,?_,rfl⟩
  ·simp only[fuel,Fsum]at*;omega
  ·simp only[E3];rw[Go.ConcN.phi_retag 2 _ O,ev,es']
theorem yfk(b0:∀k h h',Av h h'->Ψ k h->Ψ k h')(hR:∀k,RK (stf P s Ψ Kon w0 j wk) P k (c k))(I:Da P s Ψ Kon w0 j wk c V hv g dd q D tag fl f0 st sm gs w t)
 {H:CTag}{M f':Nat}{w0':Wk0}{pos:String}(a6:Aside s.Wg w w')(O:∀e∈es,BkX s.Wg 0 e)
 (a3:MSx P s Ψ Kon c0 H w0' M j f' (deafBehind (dd 0) es) a' (hv 0) w')(h0:∀S,H4 P s Ψ Kon w0'=some S->Reach P (.own true) c0.1 c0.2 S)(a5:WgAt s.ty s.Wg w' st' sm')(a2:Go.ConcN.Mode j D H st' sm')
 (a7:H=.ret->Gn s.Wg s.q8 s.p j (t++MemOp.ofEvents 0 fn pos es))
 (b4:phi 2 (Vc j D) H<phi 2 (Vc j D) tag\/(phi 2 (Vc j D) H=phi 2 (Vc j D) tag/\M<fl)\/(phi 2 (Vc j D) H=phi 2 (Vc j D) tag/\M=fl/\f'<f0/\w0'=w0/\c0=c 0)):
 Gh P s Ψ Kon (E3 tag fl j wk D) (fuel s.p f0 j D q) w0 j wk c ((gs.map (woken P (g 0) a' w')).setIfInBounds 0 a') w' (t++MemOp.ofEvents 0 fn pos es):=by
 have a9:RLv s.ty s.Wg w w':=fun _=>⟨_,_,a5⟩
 have C':=I.Em.book (k:=0) (a':=a') (fn:=fn) (pos:=pos) (Nat.zero_le _) a6.size a6.block (fun e he=>((O e he).ok I.lt).1) (fun e he=>((O e he).ok I.lt).2.1) fun e he=>((O e he).ok I.lt).2.2;have hN:Da P s Ψ Kon w0' j wk (upd c 0 c0) V hv (wok P (g 0) a' w' 0 g) (upd dd 0 (deafBehind (dd 0) es)) q D H M f' st' sm' ((gs.map (woken P (g 0) a' w')).setIfInBounds 0 a') w' (t++MemOp.ofEvents 0 fn pos es):=by
  refine⟨C',?_,fun m hm=>?_,fun m hm b3=>?_,a5,a2,a7⟩
  ·have e0:wok P (g 0) a' w' 0 g 0=a':=by unfold wok;rw[upd_same]
   rw[e0,upd_same,upd_same];exact a3
  ·have e1:wok P (g 0) a' w' 0 g (m+1)=g (m+1):=by
    unfold wok;rw[upd_ne _ _ om];exact(I.work m hm).woken I.live (xah hR hm) _ _ _
   rw[e1,upd_ne _ _ (by omega:m+1≠0),upd_ne _ _ (by omega:m+1≠0)];exact(I.work m hm).rely (b0 m) a9 (.refl _)
  ·obtain⟨r,a8,hr⟩:=I.rel m hm b3;exact⟨r,a8,hr.appOther xzc (by have:=I.Em.pos;omega)⟩
 have a4:∀k,RK (stf P s Ψ Kon w0' j wk) P k (upd c 0 c0 k):=fun k=>by
  cases k with
  |zero=>rw[upd_same];exact h0
  |succ k=>rw[upd_ne _ _ (by omega:k+1≠0)];exact hR (k+1)
 have hw:=xyr j wk;have hl:=I.main.le;have b5:=a3.le;rcases b4 with h1|⟨h1,h2⟩|⟨h1,h2,h3,h4,h5⟩
 ·refine .inl ⟨_,w0',j,wk,_,_,?_,a4,_,_,_,_,_,_,_,_,_,_,_,hN,rfl,rfl⟩;simp only[E3];omega
 ·refine .inl ⟨_,w0',j,wk,_,_,?_,a4,_,_,_,_,_,_,_,_,_,_,_,hN,rfl,rfl⟩;simp only[E3];omega
 ·subst h2;subst h4;subst h5;have ec:upd c 0 (c 0)=c:=by funext k;unfold upd;split<;>simp_all
  rw[ec]at hN;exact .inr ⟨_,by simp only[fuel];omega,_,_,_,_,_,_,_,_,_,_,_,hN,by simp only[E3,h1],rfl⟩
end
open Go.ConcN (RelBy WD CTag Vc Ssum Fsum phi cnt pend sumTo upd sumTo_upd upd_ne upd_same WgLive isW3 isFin isOpen OpenSt AllQuit bk_dis bk_en bk_rd bk_rw bk_sem bk_cell Vc_upd Vc_le others_uncounted le_sumTo allQuit_of)
open Go.ConcR (KK wgBlock WgAt stA smA rd wr mk DC0 Bk bk_of_mute ofEvent_loc_mark ofEvent_mk)
theorem xfp(H:¬ S b)(h:Aside b w w'):Quiet (.of S) w w':=⟨⟨h.os,h.tape,h.output,by rw[h.size];exact Nat.le_refl _⟩,fun k _ y=>h.block k fun e=>H (e ▸ y.elim id fun z=>z.elim)⟩
theorem bkx{Wg k:Nat}(h:∀e∈es,Bk Wg e):∀e∈es,BkX Wg k e:=fun e he=>.inl (h e he)
section
variable{Kon:Goroutine->Prop}{c:Nat->Goroutine×Heap}{hv:Nat->Heap}{q:Nat->Nat}{sm:Int}{sl:Option (Nat×Nat)}
def L9(P:Program)(s:Site)(Ψ:Nat->Heap->Prop)(Kon:Goroutine->Prop)(M μ:Nat)(w0:Wk0)(j:Nat)(wk:Nat->Bool)(c:Nat->Goroutine×Heap)(gs:Array Goroutine)(w:World)(t:Trace)(i:Nat)(a:Goroutine):Prop:=
 ∀d,∃a' w' es,stepG P (i==0) a (w.at d)=.go a' w' es/\Quiet (.of s.S) (w.at d) w'/\ ∀fn pos,Gh P s Ψ Kon M μ w0 j wk c ((gs.map (woken P a a' w')).setIfInBounds i a') w' (t++MemOp.ofEvents i fn pos es)
theorem yod(d6:¬ s.S s.Wg)(c1:∀k h h',Av h h'->Ψ k h->Ψ k h')(hR:∀k,RK (stf P s Ψ Kon w0 j wk) P k (c k))(I:Da P s Ψ Kon w0 j wk c V hv g dd q D tag fl f0 st sm gs w t)(b3:(g 0).status=.running)(c7:w0=.none):
 L9 P s Ψ Kon (E3 tag fl j wk D) (fuel s.p f0 j D q) w0 j wk c gs w t 0 (g 0)\/Gh P s Ψ Kon (E3 tag fl j wk D) (fuel s.p f0 j D q) w0 j wk c gs w t\/(tag=.ret/\j=2/\Kon (g 0)):=by
 subst c7;have hm:=I.main;have H:=I.mode;have O:=I.wg;have d9:=Vc_le j D;generalize hd:dd 0=d0 at hm;generalize hg:g 0=g0 at hm b3⊢;generalize hc:c 0=c0 at hm;generalize hh:hv 0=h0 at hm
 have go:∀(d:Nat){a':Goroutine}{w':World}{es:Array Event}{a5:CTag}{a8 f':Nat}{st' sm':Int},stepG P true g0 (w.at d)=.go a' w' es->Aside s.Wg (w.at d) w'->(∀e∈es,BkX s.Wg 0 e)->MSx P s Ψ Kon c0 a5 .none a8 j f' (deafBehind d0 es) a' h0 w'->
  WgAt s.ty s.Wg w' st' sm'->Go.ConcN.Mode j D a5 st' sm'->(a5=.ret-> ∀fn pos,Gn s.Wg s.q8 s.p j (t++MemOp.ofEvents 0 fn pos es))->
  (phi 2 (Vc j D) a5<phi 2 (Vc j D) tag\/(phi 2 (Vc j D) a5=phi 2 (Vc j D) tag/\a8<fl)\/(phi 2 (Vc j D) a5=phi 2 (Vc j D) tag/\a8=fl/\f'<f0))->
  ∃a' w' es,stepG P (0==0) g0 (w.at d)=.go a' w' es/\Quiet (.of s.S) (w.at d) w'/\ ∀fn pos,Gh P s Ψ Kon (E3 tag fl j wk D) (fuel s.p f0 j D q) .none j wk c ((gs.map (woken P g0 a' w')).setIfInBounds 0 a') w' (t++MemOp.ofEvents 0 fn pos es):=by
  intro d a' w' es a5 a8 f' st' sm' M b7 c9 c5 a4 a9 c3 c8;refine⟨a',w',es,M,xfp d6 b7,fun fn pos=>?_⟩
  have:=yfk (fn:=fn) (pos:=pos) (a':=a') (w0':=.none) (c0:=c 0) c1 hR (I.draw c1 d) b7 c9 (by rw[hd,hc,hh];exact c5) (fun S hS=>by cases hS) a4 a9 (fun e=>c3 e fn pos)
   (c8.imp id (Or.imp id fun⟨x,y,z⟩=>⟨x,y,z,rfl,rfl⟩))
  rw[hg]at this;exact this
 have nr:tag≠.ret-> ∀d,tag=.ret-> ∀fn pos,Gn s.Wg s.q8 s.p j (t++MemOp.ofEvents 0 fn pos d):=fun h _ e=>absurd e h;cases hm with
 |kd5 hr h e=>
   rcases Goes.cases h with hstop|⟨m',rfl,hstep⟩
   ·refine .inl fun d=>?_;obtain⟨_,a',M,a3,hk⟩:=hstop (w.at d) (xqx w d);exact go d M (.refl _ _) (bkx bk_dis) (.a1 hr hk e) O (H.reopen trivial trivial rfl s_) s_ (.inl (by simp only[phi];omega))
   ·refine .inl fun d=>?_;obtain⟨a',w',es,M,⟨rfl,rfl⟩,a2⟩:=hstep (w.at d) (xqx w d);exact go d M (.refl _ _) s_ (.kd5 hr a2 e) O H (nr s_ _) (.inr (.inr ⟨rfl,rfl,om⟩))
 |a1 hr h e=>
   rename_i r gb;rcases Goes.cases h with hstop|⟨m',rfl,hstep⟩
   ·refine .inl fun d=>?_;obtain⟨_,a6⟩:=hstop (w.at d) (xqx w d);obtain⟨ho,rfl,rfl,_⟩:=H.open_inv trivial;have a4:WgAt s.ty s.Wg (w.at d) (((Vc (1-r) D+pend (.sp r 4):Nat):Int)*KK) 0:=O;obtain⟨a',M,h1,h2⟩:=a6 (Vc (1-r) D) om (by simpa[pend]using a4);have eM:((((Vc (1-r) D:Nat):Int)+1)*KK)=((Vc (1-r) D+pend (.sp r 3):Nat):Int)*KK:=by simp[pend]
    have b9:Go.ConcN.Mode (1-r) D (.sp r 3) ((((Vc (1-r) D:Nat):Int)+1)*KK) 0:=by rw[eM];exact .opn trivial ho s_
    by_cases b8:Vc (1-r) D=0
    ·obtain⟨a3,hk⟩:=h1 b8;exact go d M (aside_setCell _ (stA s.Wg) _) (bkx bk_rw) (.rd hr hk e) (a4.setSt _) b9 s_ (.inl (by simp only[phi];omega))
    ·obtain⟨a3,hk⟩:=h2 b8;exact go d M (aside_setCell _ (stA s.Wg) _) (bkx bk_rw) (.kes hr hk e) (a4.setSt _) b9 s_ (.inl (by simp only[phi];omega))
   ·refine .inl fun d=>?_;obtain⟨a',w',es,M,⟨rfl,rfl⟩,a2⟩:=hstep (w.at d) (xqx w d);exact go d M (.refl _ _) s_ (.a1 hr a2 e) O H (nr s_ _) (.inr (.inr ⟨rfl,rfl,om⟩))
 |rd hr h e=>
   rcases Goes.cases h with hstop|⟨m',rfl,hstep⟩
   ·refine .inl fun d=>?_;obtain⟨_,a',M,a3,hk⟩:=hstop (w.at d) (xqx w d);exact go d M (.refl _ _) (by intro x hx;simp at hx;subst hx;exact .inr (.inr (.inr ⟨rfl,.inl rfl⟩))) (.kes hr hk e) O H s_ (.inr (.inl ⟨rfl,om⟩))
   ·refine .inl fun d=>?_;obtain⟨a',w',es,M,⟨rfl,rfl⟩,a2⟩:=hstep (w.at d) (xqx w d);exact go d M (.refl _ _) s_ (.rd hr a2 e) O H (nr s_ _) (.inr (.inr ⟨rfl,rfl,om⟩))
 |kes hr h e=>
   rcases Goes.cases h with hstop|⟨m',rfl,hstep⟩
   ·refine .inl fun d=>?_;obtain⟨_,a',M,a3,hk⟩:=hstop (w.at d) (xqx w d);exact go d M (.refl _ _) (bkx bk_en) (.bk hr hk e) O (H.reopen trivial trivial rfl s_) s_ (.inl (by simp only[phi];omega))
   ·refine .inl fun d=>?_;obtain⟨a',w',es,M,⟨rfl,rfl⟩,a2⟩:=hstep (w.at d) (xqx w d);exact go d M (.refl _ _) s_ (.kes hr a2 e) O H (nr s_ _) (.inr (.inr ⟨rfl,rfl,om⟩))
 |bk hr h e=>
   rename_i r gb;rcases Goes.cases h with hstop|⟨m',rfl,hstep⟩
   ·
     refine .inr (.inl (.inl ⟨_,.go r,_,wk,upd c 0 (gb,h0),_,?_,fun k=>?_,V,hv,g,dd,q,D,.sp r 2,0,0,st,sm,⟨I.Em,?_,fun m hm=>by rw[upd_ne _ _ (by omega:m+1≠0)];exact I.work m hm,I.rel,O,H,s_⟩,rfl,rfl⟩))
     ·simp only[E3];omega
     ·cases k with
      |zero=>intro S hS;rw[upd_same];cases hS;exact e _ (.refl _)
      |succ k=>rw[upd_ne _ _ (by omega:k+1≠0)];exact hR (k+1)
     ·rw[upd_same,hd,hh];have:=(hstop w (xhx w)).1;rw[hg];exact .wk2 (key:=(gb,h0)) hr this (.refl _)
   ·refine .inl fun d=>?_;obtain⟨a',w',es,M,⟨rfl,rfl⟩,a2⟩:=hstep (w.at d) (xqx w d);exact go d M (.refl _ _) s_ (.bk hr a2 e) O H (nr s_ _) (.inr (.inr ⟨rfl,rfl,om⟩))
 |kd e h=>
   rcases Goes.cases h with hstop|⟨m',rfl,hstep⟩
   ·refine .inl fun d=>?_;obtain⟨_,a',M,a3,hk⟩:=hstop (w.at d) (xqx w d);exact go d M (.refl _ _) (bkx bk_dis) (.anch e hk) O (H.reopen trivial trivial rfl s_) s_ (.inl (by simp only[phi];omega))
   ·refine .inl fun d=>?_;obtain⟨a',w',es,M,⟨rfl,rfl⟩,a2⟩:=hstep (w.at d) (xqx w d);exact go d M (.refl _ _) s_ (.kd e a2) O H (nr s_ _) (.inr (.inr ⟨rfl,rfl,om⟩))
 |anch e h=>
   rename_i gb An;rcases Goes.cases h with hstop|⟨m',rfl,hstep⟩
   ·
     obtain⟨a3,hk⟩:=e.2.1 _ w (hstop w (xhx w));refine .inr (.inl (.inl ⟨_,.none,_,wk,c,_,?_,hR,V,hv,g,dd,q,D,.w1,0,_,st,sm,⟨I.Em,by rw[hd,hc,hh,hg];exact .w1 e hk,I.work,I.rel,O,H.reopen trivial trivial rfl s_,s_⟩,rfl,rfl⟩));simp only[E3,phi];omega
   ·refine .inl fun d=>?_;obtain⟨a',w',es,M,⟨rfl,rfl⟩,a2⟩:=hstep (w.at d) (xqx w d);exact go d M (.refl _ _) s_ (.anch e a2) O H (nr s_ _) (.inr (.inr ⟨rfl,rfl,om⟩))
 |w1 e h=>
   rcases Goes.cases h with hstop|⟨m',rfl,hstep⟩
   ·refine .inl fun d=>?_;obtain⟨_,a6⟩:=hstop (w.at d) (xqx w d);obtain⟨ho,rfl,rfl,_⟩:=H.open_inv trivial;have a4:WgAt s.ty s.Wg (w.at d) (((Vc 2 D+pend .w1:Nat):Int)*KK) 0:=O;obtain⟨a',M,c6,c4⟩:=a6 (Vc 2 D) om (by simpa[pend]using a4);by_cases hv:Vc 2 D=0
    ·obtain⟨a3,hk⟩:=c6 hv;refine go d M (.refl _ _) (bkx bk_rd) (.ke e.2.2 hk) O ?_ s_ (.inl (by simp only[phi];omega));have e:((Vc 2 D+pend .w1:Nat):Int)*KK=0:=by rw[hv];simp[pend]
     rw[e];exact .fin trivial (allQuit_of ho hv)
    ·obtain⟨a3,hk⟩:=c4 hv;exact go d M (.refl _ _) (bkx bk_rd) (.w2 e hk) O (H.reopen trivial trivial rfl (fun vs e=>by cases e;omega)) s_ (.inl (by simp only[phi];omega))
   ·refine .inl fun d=>?_;obtain⟨a',w',es,M,⟨rfl,rfl⟩,a2⟩:=hstep (w.at d) (xqx w d);exact go d M (.refl _ _) s_ (.w1 e a2) O H (nr s_ _) (.inr (.inr ⟨rfl,rfl,om⟩))
 |w2 e h=>
   rename_i vs gb An;rcases Goes.cases h with hstop|⟨m',rfl,hstep⟩
   ·refine .inl fun d=>?_;obtain⟨_,a6⟩:=hstop (w.at d) (xqx w d);obtain⟨ho,rfl,rfl,d7⟩:=H.open_inv trivial;obtain⟨e0,h1⟩:=d7 vs rfl;have a4:WgAt s.ty s.Wg (w.at d) (((Vc 2 D+pend (.w2 vs):Nat):Int)*KK) 0:=O;obtain⟨c2,b4⟩:=a6 (Vc 2 D) om (by simpa[pend]using a4);by_cases ev:Vc 2 D=vs
    ·obtain⟨a',M,a3,hk⟩:=c2 ev;exact go d M (aside_setCell _ (stA s.Wg) _) (bkx bk_rw) (.wr e.2.2 hk) (a4.setSt _) (.reg trivial ho om) s_ (.inl (by simp only[phi];omega))
    ·obtain⟨a',M,a3,hk⟩:=b4 ev;exact go d M (.refl _ _) (bkx bk_rd) (.anch e hk) O (H.reopen trivial trivial rfl s_) s_ (.inl (by simp only[phi];omega))
   ·refine .inl fun d=>?_;obtain⟨a',w',es,M,⟨rfl,rfl⟩,a2⟩:=hstep (w.at d) (xqx w d);exact go d M (.refl _ _) s_ (.w2 e a2) O H (nr s_ _) (.inr (.inr ⟨rfl,rfl,om⟩))
 |wr e h=>
   rcases Goes.cases h with hstop|⟨m',rfl,hstep⟩
   ·refine .inl fun d=>?_;obtain⟨_,a',M,a3,hk⟩:=hstop (w.at d) (xqx w d);exact go d M (.refl _ _) (by intro x hx;simp at hx;subst hx;exact .inr (.inr (.inr ⟨rfl,.inr rfl⟩))) (.w3 e hk) O H s_ (.inr (.inl ⟨rfl,om⟩))
   ·refine .inl fun d=>?_;obtain⟨a',w',es,M,⟨rfl,rfl⟩,a2⟩:=hstep (w.at d) (xqx w d);exact go d M (.refl _ _) s_ (.wr e a2) O H (nr s_ _) (.inr (.inr ⟨rfl,rfl,om⟩))
 |w3 e h=>
   rcases Goes.cases h with hstop|⟨m',rfl,hstep⟩
   ·refine .inl fun d=>?_;obtain⟨_,d8,b0,b5⟩:=hstop (w.at d) (xqx w d);cases H with
    |opn h1 _ _=>exact h1.elim
    |reg h1 h2 h3=>exact go d (b0 ⟨_,O⟩) (.refl _ _) s_ (.blk e fun a7 zj=>hstop a7 (xgx _ _ _ (xqx w d) zj)) O (.reg trivial h2 h3) s_ (.inr (.inr ⟨rfl,rfl,om⟩))
    |last L h1 h2 h3 h4=>exact go d (b0 ⟨_,O⟩) (.refl _ _) s_ (.blk e fun a7 zj=>hstop a7 (xgx _ _ _ (xqx w d) zj)) O (.last L trivial h2 h3 h4) s_ (.inr (.inr ⟨rfl,rfl,om⟩))
    |sema h2=>
      obtain⟨a',M,a3,hk⟩:=b5 O;have a4:WgAt s.ty s.Wg (w.at d) 0 1:=O;exact go d M (aside_setCell _ (smA s.Wg) _) (bkx bk_sem) (.w4 e hk) (a4.setSm 0) (.fin trivial h2) s_ (.inl (by simp only[phi];omega))
    |fin h1 _=>exact h1.elim
   ·refine .inl fun d=>?_;obtain⟨a',w',es,M,⟨rfl,rfl⟩,a2⟩:=hstep (w.at d) (xqx w d);exact go d M (.refl _ _) s_ (.w3 e a2) O H (nr s_ _) (.inr (.inr ⟨rfl,rfl,om⟩))
 |blk e h=>simp at b3
 |w4 e h=>
   rcases Goes.cases h with hstop|⟨m',rfl,hstep⟩
   ·refine .inl fun d=>?_;obtain⟨_,hx⟩:=hstop (w.at d) (xqx w d);obtain⟨hq,rfl,rfl⟩:=H.fin_inv trivial;obtain⟨a',M,a3,hk⟩:=hx O;exact go d M (.refl _ _) (bkx bk_rd) (.ke e hk) O (.fin trivial hq) s_ (.inl (by simp only[phi];omega))
   ·refine .inl fun d=>?_;obtain⟨a',w',es,M,⟨rfl,rfl⟩,a2⟩:=hstep (w.at d) (xqx w d);exact go d M (.refl _ _) s_ (.w4 e a2) O H (nr s_ _) (.inr (.inr ⟨rfl,rfl,om⟩))
 |ke e h=>
   rcases Goes.cases h with hstop|⟨m',rfl,hstep⟩
   ·refine .inl fun d=>?_;obtain⟨_,a',M,a3,hk⟩:=hstop (w.at d) (xqx w d);obtain⟨hq,rfl,rfl⟩:=H.fin_inv trivial;exact go d M (.refl _ _) (bkx bk_en) (.acq e hk) O (.fin trivial hq) s_ (.inl (by simp only[phi];omega))
   ·refine .inl fun d=>?_;obtain⟨a',w',es,M,⟨rfl,rfl⟩,a2⟩:=hstep (w.at d) (xqx w d);exact go d M (.refl _ _) s_ (.ke e a2) O H (nr s_ _) (.inr (.inr ⟨rfl,rfl,om⟩))
 |acq e h=>
   rcases Goes.cases h with hstop|⟨m',rfl,hstep⟩
   ·refine .inl fun d=>?_;obtain⟨_,a',M,a3,hk⟩:=hstop (w.at d) (xqx w d);obtain⟨hq,rfl,rfl⟩:=H.fin_inv trivial;refine go d M (.refl _ _) (by intro x hx;simp at hx;subst hx;exact .inr (.inl rfl)) (.ret e hk) O (.fin trivial hq) (fun _ fn pos=>?_) (.inl (by simp only[phi];omega));have e1:MemOp.ofEvents 0 fn pos #[mk (.acquire (stA s.Wg))]=#[{g:=0,fn:=fn,pos:=pos,act:=.mark (.acquire (stA s.Wg))}]:=by rw[ofEvents_eq];simp[ofEvent_mk]
    have hy:(t++#[({g:=0,fn:=fn,pos:=pos,act:=.mark (.acquire (stA s.Wg))}:MemOp)])[t.size]?=some {g:=0,fn:=fn,pos:=pos,act:=.mark (.acquire (stA s.Wg))}:=by simp
    have b6:Deaf t 0=0:=(I.Em.deaf 0 (Nat.zero_le _)).trans hd;refine⟨t.size,by rw[e1,act?_of hy],by rw[e1];simp[Trace.g?],by rw[e1];exact⟨0,by simp[Trace.g?],by rw[deaf_old (Nat.le_refl _)];exact b6⟩,fun i hi=>?_⟩;obtain⟨r,d5,hr⟩:=I.rel i hi (by rw[hq i hi];omega);exact⟨r,d5,hr.appOther xzc (by have:=I.Em.pos;omega),lt_of_act? hr.act⟩
   ·refine .inl fun d=>?_;obtain⟨a',w',es,M,⟨rfl,rfl⟩,a2⟩:=hstep (w.at d) (xqx w d);exact go d M (.refl _ _) s_ (.acq e a2) O H (nr s_ _) (.inr (.inr ⟨rfl,rfl,om⟩))
 |ret e h=>
   rcases Goes.cases h with hstop|⟨m',rfl,hstep⟩
   ·exact .inr (.inr ⟨rfl,rfl,by rw[(hstop w (xhx w)).1];exact e⟩)
   ·refine .inl fun d=>?_;obtain⟨a',w',es,M,⟨rfl,rfl⟩,a2⟩:=hstep (w.at d) (xqx w d);refine go d M (.refl _ _) s_ (.ret e a2) O H (fun _ fn pos=>(I.acq rfl).app fun k r hk hr=>hr.appOther xzc (by have:=I.Em.pos;omega)) (.inr (.inr ⟨rfl,rfl,om⟩))
end
open Go.ConcN (RelBy WD CTag Vc Ssum Fsum phi cnt pend sumTo upd sumTo_upd upd_ne upd_same WgLive isW3 isFin isOpen OpenSt AllQuit bk_dis bk_en bk_rd bk_rw bk_sem bk_cell Vc_upd Vc_le others_uncounted le_sumTo allQuit_of sumTo_upd_out)
section
variable{Kon:Goroutine->Prop}{c:Nat->Goroutine×Heap}{hv:Nat->Heap}{q:Nat->Nat}{sm:Int}{sl:Option (Nat×Nat)}
theorem ygb(f2:¬ s.S s.Wg)(b8:∀k h h',Av h h'->Ψ k h->Ψ k h')(c3:∀gb,Kon gb->gb.status=.running)(hR:∀k,RK (stf P s Ψ Kon w0 j wk) P k (c k))(I:Da P s Ψ Kon w0 j wk c V hv g dd q D tag fl f0 st sm gs w t)
 {k:Nat}(hk:k<j)(c9:wk k=false)(b6:(g (k+1)).status=.running):L9 P s Ψ Kon (E3 tag fl j wk D) (fuel s.p f0 j D q) w0 j wk c gs w t (s.p+k) (g (k+1)):=by
 intro d;have hp:=I.Em.pos;have ep:(s.p+k==0)=false:=by simp;omega
 have hs:=I.work k hk;have a2:=I.mode;have O:WgAt s.ty s.Wg (w.at d) st sm:=I.wg;have hb:=I.main.le.2.2;have f3:=Vc_le j D;have c6:Deaf t (s.p+k)=dd (k+1):=I.Em.deaf (k+1) om;generalize b0:(D k).stage=sg at hs;generalize f1:(D k).fuel=m at hs;generalize e1:dd (k+1)=de at hs c6;rw[c9]at hs;have f6:=hs;rw[ep]
 have c5:∀{g':Goroutine}{w':World}{es:Array Event}{s' m' b7:Nat}{st' sm':Int},stepG P false (g (k+1)) (w.at d)=.go g' w' es->Aside s.Wg (w.at d) w'->WgAt s.ty s.Wg w' st' sm'->(∀e∈es,Bk s.Wg e)->
  (∀jx e,es[jx]?=some e->(MemAct.ofEvent e).touch?=none\/0<deafBehind de (es.extract 0 jx))->WSx P s (Ψ k) (c (k+1)) s' false m' b7 g' (hv (k+1)) w'->deafBehind de es=b7->sg<=6->
  (∀a5,(a5=tag\/(tag=.blk/\a5=.w3))->(mayWake P (g (k+1))=true->g'.status=.running->a5≠.blk)->Go.ConcN.Mode j (upd D k ⟨s',m',0⟩) a5 st' sm')->(tag=.ret-> ∀fn pos,Gn s.Wg s.q8 s.p j (t++MemOp.ofEvents (s.p+k) fn pos es))->((s'<sg/\cnt ⟨s',m',0⟩<=cnt (D k))\/(s'=sg/\m'+1=m))->
  ∃a' w' es,stepG P false (g (k+1)) (w.at d)=.go a' w' es/\Quiet (.of s.S) (w.at d) w'/\ ∀fn pos,Gh P s Ψ Kon (E3 tag fl j wk D) (fuel s.p f0 j D q) w0 j wk c ((gs.map (woken P (g (k+1)) a' w')).setIfInBounds (s.p+k) a') w' (t++MemOp.ofEvents (s.p+k) fn pos es):=by
  intro g' w' es s' m' b7 st' sm' H c7 c1 b4 hd c4 d9 h6 a8 b5 d6;refine⟨g',w',es,H,xfp f2 c7,fun fn pos=>?_⟩
  exact xjm b8 c3 hR (I.draw b8 d) hk c9 c7 (bkx b4) c4 (by rw[e1];exact d9)
   (fun _=>let⟨r,hr0,hr⟩:=I.rel k hk om;⟨r,hr0,hr.book c6 _ _ b4 hd⟩) c1 a8 (fun e=>b5 e fn pos) (by rw[b0,f1];exact d6)
 have book:∀{g':Goroutine}{w':World}{es:Array Event}{s' m' b7:Nat}{st' sm':Int},stepG P false (g (k+1)) (w.at d)=.go g' w' es->Aside s.Wg (w.at d) w'->WgAt s.ty s.Wg w' st' sm'->(∀e∈es,Bk s.Wg e)->
  (∀jx e,es[jx]?=some e->(MemAct.ofEvent e).touch?=none\/0<deafBehind de (es.extract 0 jx))->WSx P s (Ψ k) (c (k+1)) s' false m' b7 g' (hv (k+1)) w'->deafBehind de es=b7->sg<=6->
  Go.ConcN.Mode j (upd D k ⟨s',m',0⟩) tag st' sm'->(tag=.ret-> ∀fn pos,Gn s.Wg s.q8 s.p j (t++MemOp.ofEvents (s.p+k) fn pos es))->((s'<sg/\cnt ⟨s',m',0⟩<=cnt (D k))\/(s'=sg/\m'+1=m))->
  ∃a' w' es,stepG P false (g (k+1)) (w.at d)=.go a' w' es/\Quiet (.of s.S) (w.at d) w'/\ ∀fn pos,Gh P s Ψ Kon (E3 tag fl j wk D) (fuel s.p f0 j D q) w0 j wk c ((gs.map (woken P (g (k+1)) a' w')).setIfInBounds (s.p+k) a') w' (t++MemOp.ofEvents (s.p+k) fn pos es):=
  fun H c7 c1 b4 hd c4 d9 h6 a8 b5 d6=>c5 H c7 c1 b4 hd c4 d9 h6 (fun _ ht _=>a8.retag ht) b5 d6
 have same:∀m',Go.ConcN.Mode j (upd D k ⟨sg,m',0⟩) tag st sm:=fun m'=>by have:=a2.same (i:=k) m' 0;rwa[b0]at this
 have nr:sg≠1->tag≠.ret:=fun h=>a2.not_ret hk om
 have b3:∀{g':Goroutine}{m':Nat},stepG P false (g (k+1)) (w.at d)=.go g' (w.at d) #[]->WSx P s (Ψ k) (c (k+1)) sg false m' de g' (hv (k+1)) (w.at d)->m'+1=m->sg<=6->sg≠1->
  ∃a' w' es,stepG P false (g (k+1)) (w.at d)=.go a' w' es/\Quiet (.of s.S) (w.at d) w'/\ ∀fn pos,Gh P s Ψ Kon (E3 tag fl j wk D) (fuel s.p f0 j D q) w0 j wk c ((gs.map (woken P (g (k+1)) a' w')).setIfInBounds (s.p+k) a') w' (t++MemOp.ofEvents (s.p+k) fn pos es):=by
  intro g' m' H c4 hm h6 h1;exact book H (.refl _ _) O s_ s_ c4 rfl h6 (same m') (fun e=>absurd e (nr h1)) (.inr ⟨rfl,hm⟩)
 cases hs with
 |r0 hφ h=>
   rcases Goes.cases h with hstop|⟨m',rfl,M⟩
   ·obtain⟨_,g',H,a4,a9⟩:=hstop (w.at d) (xqx w d)
    refine⟨g',_,_,H,.refl _,fun fn pos=>xjm b8 c3 hR (I.draw b8 d) hk c9 (.refl _ _) (by intro e he;simp at he;subst he;exact .inr (.inr (.inl rfl))) (.k1 hφ a9) (by rw[e1];rfl) (fun _=>⟨t.size,I.Em.ti.size,RelBy.new c6 _ _⟩) O
     (fun _ ht _=>(a2.counted hk om (.inl rfl) _ _).retag ht) (fun e=>absurd e (nr om)) (.inl ⟨om,by simp[cnt,b0]⟩)⟩
   ·obtain⟨g',w',es,H,⟨rfl,rfl⟩,a7⟩:=M (w.at d) (xqx w d);refine⟨g',_,_,H,.refl _,fun fn pos=>xjm b8 c3 hR (I.draw b8 d) hk c9 (.refl _ _) s_ (.r0 hφ a7) (by rw[e1];rfl) (fun h=>om) O (fun _ ht _=>Go.ConcN.Mode.retag (same m') ht) (fun e=>absurd e (nr om)) (.inr ⟨b0.symm,om⟩)⟩
 |k1 hφ h=>
   rcases Goes.cases h with hstop|⟨m',rfl,M⟩
   ·obtain⟨_,g',H,a4,a9⟩:=hstop (w.at d) (xqx w d)
    exact book H (.refl _ _) O bk_dis (by intro jx e he;exact .inl (by have:=Array.mem_of_getElem? he;simp at this;subst this;rfl)) (.d1 hφ a9) rfl om
     (a2.counted hk om (.inr rfl) _ _) (fun e=>absurd e (nr om)) (.inl ⟨om,by simp[cnt,b0]⟩)
   ·obtain⟨g',w',es,H,⟨rfl,rfl⟩,a7⟩:=M (w.at d) (xqx w d);exact b3 H (.k1 hφ a7) rfl om om
 |d1 hφ h=>
   rcases Goes.cases h with hstop|⟨m',rfl,M⟩
   ·obtain⟨_,d0⟩:=hstop (w.at d) (xqx w d);have e9:cnt (D k)=1:=by simp[cnt,b0]
    have f5:1<=Vc j D:=by have:=le_sumTo (f:=fun x=>cnt (D x)) hk;simp only[Vc];omega
    have e0:∀jx e,(#[rd (stA s.Wg),wr (stA s.Wg)]:Array Event)[jx]?=some e->(MemAct.ofEvent e).touch?=none\/0<deafBehind 1 ((#[rd (stA s.Wg),wr (stA s.Wg)]:Array Event).extract 0 jx):=by
     intro jx e he
     match jx,he with
     |0,_=>exact .inr (by simp[deafBehind])
     |1,_=>exact .inr (by simp[deafBehind,rd])
     |jx+2,he=>simp at he
    have e2:∀q,cnt (⟨1,q,0⟩:WD)=0:=fun _=>rfl;have e4:∀q,OpenSt j D->OpenSt j (upd D k ⟨1,q,0⟩):=fun q h a ha=>by
     by_cases e:a=k
     ·subst e;rw[upd_same];simp
     ·rw[upd_ne D _ e];exact h a ha
    cases a2 with
    |opn h1 h2 h3=>
      obtain⟨v,c8⟩:∃v,Vc j D+pend tag=v+1:=⟨Vc j D+pend tag-1,om⟩
      rw[c8]at O;have d8:WgAt s.ty s.Wg (w.at d) (((v:Nat)+1)*KK+((0:Nat):Int)) 0:=by simpa using O
      obtain⟨g',H,_,hq⟩:=d0 v 0 om om d8;obtain⟨q,hq⟩:=hq om;have d7:Vc j (upd D k ⟨1,q,0⟩)+pend tag=v:=by have:=Vc_upd D (⟨1,q,0⟩:WD) hk;have:=e2 q;omega
      refine book H (aside_setCell _ (stA s.Wg) _) (O.setSt _) bk_rw e0 (.quit hφ hq) rfl om ?_ (fun e=>absurd e (nr om)) (.inl ⟨om,by simp[cnt]⟩);have e:((v:Nat):Int)*KK+((0:Nat):Int)=((Vc j (upd D k ⟨1,q,0⟩)+pend tag:Nat):Int)*KK:=by rw[d7];simp
      rw[e];exact .opn h1 (e4 q h2) (fun vs ev=>by have:=h3 vs ev;omega)
    |reg h1 h2 h3=>
      obtain⟨v,c8⟩:∃v,Vc j D=v+1:=⟨Vc j D-1,om⟩
      rw[c8]at O;have d8:WgAt s.ty s.Wg (w.at d) (((v:Nat)+1)*KK+((1:Nat):Int)) 0:=by simpa using O
      obtain⟨g',H,hl,hq⟩:=d0 v 1 om om d8;by_cases e7:v=0
      ·subst e7;obtain⟨a4,a9⟩:=hl ⟨rfl,rfl⟩;refine book H (aside_setCell _ (stA s.Wg) _) (O.setSt _) bk_rw e0 (.d2 hφ a9) rfl om ?_ (fun e=>absurd e (nr om)) (.inl ⟨om,by simp[cnt]⟩);have a6:∀a,a<j->a≠k->(D a).stage=1:=fun a ha e=>by
        have c0:=others_uncounted hk c8 e9 a ha e;have:=h2 a ha;simp only[cnt]at c0;split at c0<;>omega
       have:=Go.ConcN.Mode.last (j:=j) (D:=upd D k ⟨4,a4,0⟩) (tag:=tag) k h1 hk (by rw[upd_same];simp) (fun a ha e=>by rw[upd_ne D _ e];exact a6 a ha e);rw[upd_same]at this;simpa using this
      ·obtain⟨q,hq⟩:=hq om;have d7:Vc j (upd D k ⟨1,q,0⟩)=v:=by have:=Vc_upd D (⟨1,q,0⟩:WD) hk;have:=e2 q;omega
       refine book H (aside_setCell _ (stA s.Wg) _) (O.setSt _) bk_rw e0 (.quit hφ hq) rfl om ?_ (fun e=>absurd e (nr om)) (.inl ⟨om,by simp[cnt]⟩);have e:((v:Nat):Int)*KK+((1:Nat):Int)=((Vc j (upd D k ⟨1,q,0⟩):Nat):Int)*KK+1:=by rw[d7];simp
       rw[e];exact .reg h1 (e4 q h2) om
    |last L _ h2 h3 h4=>
      by_cases e:k=L
      ·subst e;omega
      ·have:=h4 k hk e;omega
    |sema h2=>have:=h2 k hk;omega
    |fin _ h2=>have:=h2 k hk;omega
   ·obtain⟨g',w',es,H,⟨rfl,rfl⟩,a7⟩:=M (w.at d) (xqx w d);exact b3 H (.d1 hφ a7) rfl om om
 |d2 hφ h=>
   rcases Goes.cases h with hstop|⟨m',rfl,M⟩
   ·obtain⟨_,hx⟩:=hstop (w.at d) (xqx w d);obtain⟨c2,a6,rfl,rfl⟩:=a2.isLast hk om;simp only[b0]at O;have a3:WgAt s.ty s.Wg (w.at d) 1 0:=by simpa using O
    obtain⟨g',H,a4,a9⟩:=hx a3;refine book H (.refl _ _) a3 bk_rd (by intro jx e he;match jx,he with|0,_=>exact .inr (by simp[deafBehind])|jx+1,he=>simp at he) (.d3 hφ a9) rfl om ?_ (fun e=>absurd e (nr om)) (.inl ⟨om,by simp[cnt]⟩);have:=Go.ConcN.Mode.last (j:=j) (D:=upd D k ⟨3,a4,0⟩) (tag:=tag) k c2 hk (by rw[upd_same];simp) (fun a ha e=>by rw[upd_ne D _ e];exact a6 a ha e);rw[upd_same]at this;simpa using this
   ·obtain⟨g',w',es,H,⟨rfl,rfl⟩,a7⟩:=M (w.at d) (xqx w d);exact b3 H (.d2 hφ a7) rfl om om
 |d3 hφ h=>
   rcases Goes.cases h with hstop|⟨m',rfl,M⟩
   ·obtain⟨_,hx⟩:=hstop (w.at d) (xqx w d);obtain⟨c2,a6,rfl,rfl⟩:=a2.isLast hk om;simp only[b0]at O;have a3:WgAt s.ty s.Wg (w.at d) 1 0:=by simpa using O
    obtain⟨g',H,a4,a9⟩:=hx a3;refine book H (aside_setCell _ (stA s.Wg) _) (a3.setSt 0) (by intro e he;simp at he;subst he;exact bk_cell _ _ rfl) (by intro jx e he;match jx,he with|0,_=>exact .inr (by simp[deafBehind])|jx+1,he=>simp at he) (.d4 hφ a9) rfl om ?_ (fun e=>absurd e (nr om)) (.inl ⟨om,by simp[cnt]⟩);have:=Go.ConcN.Mode.last (j:=j) (D:=upd D k ⟨2,a4,0⟩) (tag:=tag) k c2 hk (by rw[upd_same];simp) (fun a ha e=>by rw[upd_ne D _ e];exact a6 a ha e);rw[upd_same]at this;simpa using this
   ·obtain⟨g',w',es,H,⟨rfl,rfl⟩,a7⟩:=M (w.at d) (xqx w d);exact b3 H (.d3 hφ a7) rfl om om
 |d4 hφ h=>
   rcases Goes.cases h with hstop|⟨m',rfl,M⟩
   ·obtain⟨_,e6,hx⟩:=hstop (w.at d) (xqx w d);obtain⟨c2,a6,rfl,rfl⟩:=a2.isLast hk om;simp only[b0]at O;have a3:WgAt s.ty s.Wg (w.at d) 0 0:=by simpa using O
    obtain⟨g',H,q,hq⟩:=hx a3;have d5:g'.status=.running:=by
     cases q with
     |zero=>exact absurd hq.2 d_
     |succ q=>exact hq.elim (fun x=>absurd x.2 d_) (fun x=>x.1)
    refine c5 H (aside_setCell _ (smA s.Wg) _) (a3.setSm 1) (es:=semEvents (smA s.Wg)) bk_sem ?_ (.quit hφ hq) (by simp[deafBehind,semEvents]) om ?_ (fun e=>absurd e (nr om)) (.inl ⟨om,by simp[cnt]⟩)
    ·intro jx e he
     match jx,he with
     |0,he=>simp[semEvents]at he;subst he;exact .inl rfl
     |1,_=>exact .inr (by simp[deafBehind,semEvents])
     |2,_=>exact .inr (by simp[deafBehind,semEvents])
     |3,he=>simp[semEvents]at he;subst he;exact .inl rfl
     |jx+4,he=>simp[semEvents]at he
    ·intro a5 ht hw;have e8:=hw e6 d5;have e3:a5=.w3:=by
      rcases ht with rfl|⟨_,rfl⟩
      ·cases a5<;>first|rfl|exact c2.elim|exact absurd rfl e8
      ·rfl
     subst e3;exact .sema fun a ha=>by
      by_cases e:a=k
      ·subst e;rw[upd_same]
      ·rw[upd_ne D _ e];exact a6 a ha e
   ·obtain⟨g',w',es,H,⟨rfl,rfl⟩,a7⟩:=M (w.at d) (xqx w d);exact b3 H (.d4 hφ a7) rfl om om
 |quit hφ h=>
   cases m with
   |zero=>rw[h.1]at b6;cases b6
   |succ q=>
     rcases h with⟨hf,_⟩|⟨_,g',es,b9,M,hq⟩
     ·rw[hf]at b6;cases b6
     ·have b4:∀e∈es,Bk s.Wg e:=fun e he=>bk_of_mute (b9 e he);have e5:∀jx e,es[jx]?=some e->(MemAct.ofEvent e).touch?=none\/0<deafBehind de (es.extract 0 jx):=fun jx e he=>.inl (touch_mute (b9 e (Array.mem_of_getElem? he)));refine book (M (w.at d)) (.refl _ _) O b4 e5 (.quit hφ hq) rfl om (same q) (fun e fn pos=>(I.acq e).app fun i' r f4 hr=>?_) (.inr ⟨rfl,rfl⟩);by_cases e':i'=k
      ·subst e';exact hr.book c6 _ _ b4 e5
      ·exact hr.appOther xzc om
theorem ybc(a8:∀k h h',Av h h'->Ψ k h->Ψ k h')(a4:∀gb,Kon gb->gb.status=.running)(hR:∀k,RK (stf P s Ψ Kon w0 j wk) P k (c k))(I:Da P s Ψ Kon w0 j wk c V hv g dd q D tag fl f0 st sm gs w t)
 (hi:0<i)(a2:i<s.p){a:Goroutine}(ha:gs[i]?=some a)(H:a.status=.running):L9 P s Ψ Kon (E3 tag fl j wk D) (fuel s.p f0 j D q) w0 j wk c gs w t i a:=by
 intro d;have hq:=I.Em.lv i a hi a2 ha;have ep:(i==0)=false:=by simp;omega
 rw[ep];cases O:q i with
 |zero=>rw[O]at hq;rw[hq.1]at H;cases H
 |succ n=>
   rw[O]at hq;rcases hq with⟨hf,_⟩|⟨_,a',es,hm,a5,b0⟩
   ·rw[hf]at H;cases H
   refine⟨a',w.at d,es,a5 _,.refl _,fun fn pos=>?_⟩;have C':=(I.Em.draw d).slip hi a2 (a:=a) (fn:=fn) (pos:=pos) hm b0;have Id:=I.draw a8 d;obtain⟨a3,f',a6,b4,M,_⟩:=Id.main.wokenBy Id.live a4 (xym hR) (xhx _) (.refl _) a a';have b3:sumTo s.p (upd q i n)+(n+1)=sumTo s.p q+n:=by
    have:=sumTo_upd q n id a2;simpa[O]using this
   refine .inr ⟨_,?_,V,hv,_,dd,_,D,a3,fl,f',st,sm,⟨C',a6,fun k hk=>?_,fun k hk a9=>?_,I.wg,I.mode.retag M,fun e=>?_⟩,by simp only[E3];rw[Go.ConcN.phi_retag 2 _ M],rfl⟩
   ·simp only[fuel];omega
   ·rw[(Id.work k hk).woken Id.live (xah hR hk)];exact Id.work k hk
   ·obtain⟨r,a7,hr⟩:=I.rel k hk a9;exact⟨r,a7,hr.appOther xzc om⟩
   ·rcases M with rfl|⟨_,rfl⟩
    ·exact(I.acq e).app fun k r hk hr=>hr.appOther xzc om
    ·cases e
end
open Go.ConcN (RelBy WD CTag Vc Ssum Fsum phi cnt pend sumTo upd sumTo_upd upd_ne upd_same WgLive isW3 isFin isOpen OpenSt AllQuit sumTo_upd_out)
section
variable{Kon:Goroutine->Prop}{c:Nat->Goroutine×Heap}{hv:Nat->Heap}{q:Nat->Nat}{sm:Int}{sl:Option (Nat×Nat)}
theorem MSx.Mg{key:Goroutine×Heap}{f d:Nat}{g a':Goroutine}{h h':Heap}(hw:w0≠.none)(x:MSx P s Ψ Kon key tag w0 fl j f d g h w):MSx P s Ψ Kon (a',h') tag w0 fl j f d a' h' w':=by
 cases x<;>first|exact absurd rfl hw|skip
 ·rename_i a _ _;exact .wk5 a rfl (.refl _)
 ·rename_i a _ _;exact .wk2 a rfl (.refl _)
 ·exact .wkW rfl (.refl _)
theorem WSx.Mg{Φ:Heap->Prop}{key:Goroutine×Heap}{n m d:Nat}{g a':Goroutine}{h h':Heap}(x:WSx P s Φ key n true m d g h w):WSx P s Φ (a',h') n true m d a' h' w':=by
 cases x with
 |walk a c=>exact .walk rfl (.refl _)
theorem WSx.seven{Φ:Heap->Prop}{key:Goroutine×Heap}{n m d:Nat}{g:Goroutine}{h:Heap}(x:WSx P s Φ key n true m d g h w):n=7:=by cases x;rfl
theorem yed(b0:∀k h h',Av h h'->Ψ k h->Ψ k h')(a5:∀gb,Kon gb->gb.status=.running)(hR:∀k,RK (stf P s Ψ Kon w0 j wk) P k (c k))(I:Da P s Ψ Kon w0 j wk c V hv g dd q D tag fl f0 st sm gs w t)
 {k:Nat}(hk:k<=j)(h0:k=0->w0≠.none)(h1:∀m,k=m+1->wk m=true){pos:String}
 (hV:Cq (V k) h' w'.heap)(hq:Quiet (V k) w w')(a8:∀e∈es,EvX (V k) w'.heap.size e):
 ∃μ',Kd P s Ψ Kon (E3 tag fl j wk D) w0 j wk (upd c k (a',h')) μ' ((gs.map (woken P (g k) a' w')).setIfInBounds (gn s.p k) a') w' (t++MemOp.ofEvents (gn s.p k) fn pos es):=by
 have C':=I.Em.own hk (a':=a') (fn:=fn) (pos:=pos) hV hq a8;have a2:WgAt s.ty s.Wg w' st sm:=(hq.F7 s.Wg I.lt (.inl (I.Em.wgd k hk))).trans I.wg;have a6:RLv s.ty s.Wg w w':=fun _=>⟨_,_,a2⟩
 have hp:=I.Em.pos;have a4:∃H f',MSx P s Ψ Kon (upd c k (a',h') 0) H w0 fl j f' (dd 0) (wok P (g k) a' w' k g 0) ((fun m=>if m=k then h' else M5 w'.heap.size (hv m)) 0) w'/\(H=tag\/(tag=.blk/\H=.w3)):=by
  by_cases e:k=0
  ·subst e;refine⟨tag,f0,?_,.inl rfl⟩;unfold wok;rw[upd_same,upd_same];simp only[if_true];exact I.main.Mg (h0 rfl)
  ·obtain⟨H,f',a3,_,M,_⟩:=I.main.wokenBy I.live a5 (xym hR) a6 (Es (n:=w'.heap.size)) (g k) a';refine⟨H,f',?_,M⟩;have e':¬ (0=k):=fun x=>e x.symm;unfold wok;rw[upd_ne _ _ e',upd_ne _ _ e'];simp only[if_neg e'];exact a3
 obtain⟨H,f',a3,M⟩:=a4;refine⟨_,_,_,_,_,_,D,H,fl,f',st,sm,⟨C',a3,fun m O=>?_,fun m O b3=>?_,a2,I.mode.retag M,fun e=>?_⟩,by simp only[E3];rw[Go.ConcN.phi_retag 2 _ M],rfl⟩
 ·by_cases e:m+1=k
  ·subst e;have hx:=I.work m O;rw[h1 m rfl]at hx⊢;unfold wok;rw[upd_same,upd_same];simp only[if_true];exact hx.Mg
  ·unfold wok;rw[upd_ne _ _ e,upd_ne _ _ e];simp only[if_neg e];rw[(I.work m O).woken I.live (xah hR O)];exact(I.work m O).rely (b0 m) a6 Es
 ·have a7:gn s.p k≠s.p+m:=by
   intro e;have e2:k=m+1:=xk7 hp e;subst e2;have hx:=I.work m O;rw[h1 m rfl]at hx;have:=hx.seven;omega
  obtain⟨r,a9,hr⟩:=I.rel m O b3;exact⟨r,a9,hr.appOther xzc a7⟩
 ·rcases M with rfl|⟨_,rfl⟩
  ·refine(I.acq e).app fun m r O hr=>hr.appOther xzc fun e2=>?_;have e3:k=m+1:=xk7 hp e2;subst e3;have hx:=I.work m O;rw[h1 m rfl]at hx;have h7:(D m).stage=7:=hx.seven;subst e;exact absurd rfl (I.mode.not_ret O om)
  ·cases e
theorem xz8(I:Da P s Ψ Kon w0 j wk c V hv g dd q D tag fl f0 st sm gs w t)(hR:∀k,RK (stf P s Ψ Kon w0 j wk) P k (c k)){r:Nat}(b7:w0=.go r)
 {g':Goroutine}{X:List Nat}(hX:∀b∈X,Exc (hv 0) b)(hZ:∀b∈Z,Exc (hv 0) b)(hc:Reach P (.own false) child (Dr Z X (hv 0)) (Fj P s (Ψ (1-r))))(hn:Scr P s Ψ Kon r g' (Dr X Z (hv 0)))
 {fn':FuncId}{pos pos':String}:
 ∃M' w0' j' wk' c' μ',M'<E3 tag fl j wk D/\(∀k,RK (stf P s Ψ Kon w0' j' wk') P k (c' k))/\Kd P s Ψ Kon M' w0' j' wk' c' μ' ((gs.setIfInBounds 0 g').push child) w (t++#[{g:=0,fn:=fn,pos:=pos,act:=.go (s.p+j)},{g:=s.p+j,fn:=fn',pos:=pos',act:=.start}]):=by
 subst b7;have hm:=I.main;have hp:=I.Em.pos;generalize hd:dd 0=d0 at hm;generalize hg:g 0=g0 at hm;generalize c1:c 0=c0 at hm;generalize hh:hv 0=hh0 at hm;cases hm with
 |wk2 hr _ _=>
   rw[<- hh]at*;have C':=I.Em.fork hX hZ hd (a':=g') (child:=child) (x:={g:=0,fn:=fn,pos:=pos,act:=.go (s.p+(1-r))}) (y:={g:=s.p+(1-r),fn:=fn',pos:=pos',act:=.start}) ⟨rfl,rfl⟩ ⟨rfl,rfl⟩;obtain⟨ho,b0,b5,_⟩:=I.mode.open_inv trivial;have b8:=Go.ConcN.Vc_le (1-r) D;have eV:Vc (1-r+1) (upd D (1-r) ⟨7,0,0⟩)=Vc (1-r) D+1:=by
    simp only[Vc,sumTo,upd_same];rw[sumTo_upd_out D _ cnt (Nat.le_refl _)];rfl
   have eS:Ssum (1-r+1) (upd D (1-r) ⟨7,0,0⟩)=Ssum (1-r) D+7:=by
    simp only[Ssum,sumTo,upd_same];rw[sumTo_upd_out D _ WD.stage (Nat.le_refl _)]
   have b4:OpenSt (1-r+1) (upd D (1-r) ⟨7,0,0⟩):=fun i hi=>by
    by_cases e:i=1-r
    ·subst e;rw[upd_same];simp
    ·rw[upd_ne D _ e];exact ho i om
   have b6:∀H,pend H=0->((Vc (1-r) D+pend (.sp r 2):Nat):Int)*KK=((Vc (1-r+1) (upd D (1-r) ⟨7,0,0⟩)+pend H:Nat):Int)*KK:=fun H hp=>by rw[eV,hp];simp[pend]
   have b9:=xyr (1-r+1) (upd wk (1-r) true);have a2:∀H,pend H=0->isOpen H->(∀vs,H≠.w2 vs)->Go.ConcN.Mode (1-r+1) (upd D (1-r) ⟨7,0,0⟩) H st sm:=fun H h1 h2 h3=>by
    rw[b0,b5,b6 H h1];exact .opn h2 b4 fun vs e=>absurd e (h3 vs)
   have O:∀(w0':Wk0),(∀S,H4 P s Ψ Kon w0'=some S->Reach P (.own true) g' (Dr X Z (hv 0)) S)-> ∀k,RK (stf P s Ψ Kon w0' (1-r+1) (upd wk (1-r) true)) P k (upd (upd c 0 (g',Dr X Z (hv 0))) (1-r+1) (child,Dr Z X (hv 0)) k):=by
    intro w0' h k S M;cases k with
    |zero=>rw[upd_ne _ _ (by omega:0≠1-r+1),upd_same];exact h S M
    |succ k=>
      by_cases e:k=1-r
      ·subst e;rw[upd_same];simp[stf,upd_same]at M;subst M;exact hc
      ·rw[upd_ne _ _ (by omega:k+1≠1-r+1),upd_ne _ _ (by omega:k+1≠0)];refine hR (k+1) S ?_;simp only[stf,upd_ne _ _ e]at M⊢;split at M
       ·rename_i hh;rw[if_pos ⟨om,hh.2⟩];exact M
       ·cases M
   have hN:∀(H:CTag)(w0':Wk0)(a4:Nat),pend H=0->isOpen H->(∀vs,H≠.w2 vs)->H≠.ret->MSx P s Ψ Kon (g',Dr X Z (hv 0)) H w0' a4 (1-r+1) 0 0 g' (Dr X Z (hv 0)) w->
    Da P s Ψ Kon w0' (1-r+1) (upd wk (1-r) true) (upd (upd c 0 (g',Dr X Z (hv 0))) (1-r+1) (child,Dr Z X (hv 0)))
     (fun m=>if m=0 then Gx X Z (hv 0) (V 0)else if m=1-r+1 then Gx Z X (hv 0) (V 0)else V m) (fun m=>if m=0 then Dr X Z (hv 0)else if m=1-r+1 then Dr Z X (hv 0)else hv m)
     (fun m=>if m=0 then g' else if m=1-r+1 then child else g m) (fun m=>if m=1-r+1 then 0 else dd m) q (upd D (1-r) ⟨7,0,0⟩) H a4 0 st sm ((gs.setIfInBounds 0 g').push child) w (t++#[{g:=0,fn:=fn,pos:=pos,act:=.go (s.p+(1-r))},{g:=s.p+(1-r),fn:=fn',pos:=pos',act:=.start}]):=by
    intro H w0' a4 h1 h2 h3 h4 a9;have a6:¬ (0=1-r+1):=om;refine⟨C',?_,fun m hm=>?_,fun m hm hs=>?_,I.wg,a2 H h1 h2 h3,fun e=>absurd e h4⟩
    ·rw[upd_ne _ _ a6,upd_same];simp only[if_true,if_neg a6];rw[hd];exact a9
    ·have a3:¬ (m+1=0):=om;by_cases e:m=1-r
     ·subst e;rw[upd_same,upd_same,upd_same];simp only[if_neg a3,if_true];exact .walk rfl (.refl _)
     ·have a5:¬ (m+1=1-r+1):=om;rw[upd_ne _ _ e,upd_ne _ _ a5,upd_ne _ _ a3,upd_ne _ _ e];simp only[if_neg a3,if_neg a5];exact I.work m om
    ·by_cases e:m=1-r
     ·subst e;rw[upd_same]at hs;simp at hs
     ·rw[upd_ne _ _ e]at hs;obtain⟨r',a8,b3⟩:=I.rel m om hs;refine⟨r',a8,b3.appNot fun op a7=>?_⟩;simp only[List.mem_toArray,List.mem_cons,List.not_mem_nil,or_false]at a7;rcases a7 with rfl|rfl
      ·simp only;omega
      ·simp only;omega
   rcases(by omega:r=0\/r=1)with rfl|rfl
   ·exact⟨_,.wait,_,_,_,_,by simp only[E3,phi];omega,O .wait fun S M=>by cases M;exact hn,_,_,_,_,_,_,_,_,_,_,_,hN .kd .wait 1 rfl trivial s_ s_ (.wkW rfl (.refl _)),rfl,rfl⟩
   ·exact⟨_,.add 0,_,_,_,_,by simp only[E3,phi];omega,O (.add 0) fun S M=>by cases M;exact hn,_,_,_,_,_,_,_,_,_,_,_,hN (.sp 0 5) (.add 0) 1 rfl trivial s_ s_ (.wk5 om rfl (.refl _)),rfl,rfl⟩
open Classical in
theorem yud(b4:∀b,s.S b->s.z9[b]?=some M3)(I:Da P s Ψ Kon w0 2 wk c V hv g dd q D .ret fl f0 st sm gs w t)(hk:Kon (g 0))(sl:Option (Nat×Nat)):Fin P s Ψ Kon gs w sl t:=by
 have C:=I.Em;have hp:=C.pos;obtain⟨hq,rfl,rfl⟩:=I.mode.fin_inv trivial;have b7:dd 0=0:=by
  have hm:=I.main;generalize dd 0=d at hm;cases hm;rfl
 have hw:∀k,k<2->Ψ k (hv (k+1))/\ ∃n,QuitsD P n (dd (k+1)) (g (k+1)):=fun k M=>by
  have hx:=I.work k M;rw[hq k M]at hx;generalize wk k=b at hx;generalize (D k).fuel=n at hx;cases hx with
  |quit a c=>exact⟨a,_,c⟩
 let S':Nat->Prop:=fun b=>s.S b\/b=s.Wg\/(s.z9.size<=b/\b<w.heap.size/\ ∀k,k<2->(V (k+1)).dead b\/(V (k+1)).still b)
 let he:Heap:=w.heap.mapIdx fun b o=>if S' b then M3 else o
 have a7:he.size=w.heap.size:=by simp[he]
 have b0:∀b,he[b]?=(w.heap[b]?).map fun o=>if S' b then M3 else o:=fun b=>by simp[he,Array.getElem?_mapIdx]
 have a8:∀b,S' b->b<w.heap.size:=fun b H=>by
  rcases H with h|h|h
  ·have:=b4 b h;exact Nat.lt_of_lt_of_le (Array.getElem?_eq_some_iff.1 this).1 C.Nw
  ·rw[h];exact I.lt
  ·exact h.2.1
 have hV:Cq (.of S') he w.heap:=by
  refine⟨a7,fun b H _=>?_,fun b H=>?_,fun b H=>H.elim⟩
  ·rw[b0];cases w.heap[b]? <;> simp[show ¬ S' b from H]
  ·rw[b0,Array.getElem?_eq_getElem (a8 b H)];simp[show S' b from H,M3]
 have a4:∀k,k<2-> ∀b,Exc (hv (k+1)) b-> ¬ (V (k+1)).dead b/\ ¬ (V (k+1)).still b/\b<w.heap.size:=fun k M b H=>by
  have v:=C.Hj (k+1) om;obtain⟨O,h2⟩:=v.exc H;obtain⟨cc,e,b9,_⟩:=H;exact⟨O,h2,by rw[<- v.size];exact(Array.getElem?_eq_some_iff.1 b9).1⟩
 have b8:∀k,k<2-> ∀b,Exc (hv (k+1)) b-> ¬ S' b:=fun k M b H=>by
  obtain⟨O,h2,_⟩:=a4 k M b H;rintro(h|h|h)
  ·exact O (C.sd (k+1) om b h)
  ·subst h;exact O (C.wgd (k+1) om)
  ·exact(h.2.2 k M).elim O h2
 refine⟨0,S',gs,w,sl,t,fun i=>if h:s.p<=i/\i<s.p+2 then Classical.choose (hw (i-s.p) om).2 else q i,g 0,he,fun k=>hv (k+1),rfl,⟨C.at' 0 om,⟨fun i x hi hx=>?_,C.above⟩,?_,hV⟩,hk,⟨?_,fun b H=>?_,fun k M=>⟨(hw k M).1,fun b H=>⟨?_,fun a6=>?_⟩⟩,fun b O h2=>?_⟩,.refl _,fun b H=>.inl H⟩
 ·have a6:=(Array.getElem?_eq_some_iff.1 hx).1;rw[C.size]at a6;by_cases b5:s.p<=i
  ·have a9:s.p<=i/\i<s.p+2:=⟨b5,a6⟩
   have hc:=Classical.choose_spec (hw (i-s.p) om).2;simp only[dif_pos a9];have e1:gn s.p (i-s.p+1)=i:=by simp only[gn];omega
   have hg:=C.at' (i-s.p+1) om;rw[e1,hx]at hg;cases hg;have b3:=C.deaf (i-s.p+1) om;rw[e1]at b3;rw[b3];exact hc
  ·simp only[dif_neg (fun h:s.p<=i/\i<s.p+2=>b5 h.1)];exact C.lv i x hi om hx
 ·exact C.ti.finish (I.acq rfl) ((C.deaf 0 om).trans b7) fun b H=>H.elim .inl fun h=>.inr (.inl h)
 ·rw[a7];exact C.Nw
 ·by_cases a5:s.S b
  ·rw[b4 b a5];exact hV.Kn b (show S' b from .inl a5)
  ·have:¬ S' b:=by
    rintro(h|h|h)
    ·exact a5 h
    ·exact H.2.1 h
    ·exact absurd h.1 (by have:=H.1;omega)
   exact(hV.same b this (fun h=>h)).trans (C.old b H a5)
 ·obtain⟨O,h2,_⟩:=a4 k M b H;exact(hV.same b (b8 k M b H) (fun h=>h)).trans ((C.Hj (k+1) om).same b O h2).symm
 ·obtain⟨O,h2,_⟩:=a4 k M b H;refine Classical.byContradiction fun hz=>?_;have b6:b≠s.Wg:=fun e=>O (e ▸ C.wgd (k+1) om);exact(C.My (k+1) om b ⟨a6,b6,hz⟩).elim O h2
 ·obtain⟨a1,a2,a3⟩:=a4 0 om b O;obtain⟨b1,b2,_⟩:=a4 1 om b h2;exact a2 (C.dis 1 2 om om om b a3 a1 b1).1
end
open Go.ConcN (RelBy WD CTag Vc Ssum Fsum phi cnt pend sumTo upd sumTo_upd upd_ne upd_same WgLive exists_counted)
section
variable{Kon:Goroutine->Prop}{c:Nat->Goroutine×Heap}{hv:Nat->Heap}{q:Nat->Nat}{sm:Int}{sl:Option (Nat×Nat)}
theorem MSx.key{key:Goroutine×Heap}{f d:Nat}{g:Goroutine}{h:Heap}(hw:w0≠.none)(x:MSx P s Ψ Kon key tag w0 fl j f d g h w):g=key.1/\Av key.2 h:=by
 cases x<;>first|exact absurd rfl hw|exact⟨‹_›,‹_›⟩
theorem WSx.key{Φ:Heap->Prop}{key:Goroutine×Heap}{n m d:Nat}{g:Goroutine}{h:Heap}(x:WSx P s Φ key n true m d g h w):g=key.1/\Av key.2 h/\m=0/\d=0:=by
 cases x with
 |walk a b=>exact⟨a,b,rfl,rfl⟩
theorem ytx{k:Nat}{S:Goroutine->Heap->Prop}(h:stf P s Ψ Kon w0 j wk k=some S):k<=j:=by
 cases k with
 |zero=>exact Nat.zero_le _
 |succ k=>
   simp only[stf]at h;split at h
   ·rename_i H;exact H.1
   ·cases h
theorem ytk(a3:∀k h h',Av h h'->Ψ k h->Ψ k h')(hR:∀k,RK (stf P s Ψ Kon w0 j wk) P k (c k))(I:Da P s Ψ Kon w0 j wk c V hv g dd q D tag fl f0 st sm gs w t)
 {k:Nat}(hk:k<j)(O:wk k=true)(hd:Fj P s (Ψ k) (c (k+1)).1 (c (k+1)).2):Gh P s Ψ Kon (E3 tag fl j wk D) (fuel s.p f0 j D q) w0 j wk c gs w t:=by
 have hx:=I.work k hk;rw[O]at hx;have h7:=hx.seven;obtain⟨e1,e2,e3,e4⟩:=hx.key;have M:=hd.stay (a3 k) e2;obtain⟨m,hm⟩:=M.1 w I.live;have a2:Bc j (upd wk k false)+1=Bc j wk:=by
  have:=sumTo_upd wk false (fun b=>if b then 1 else 0) hk;simp only[Bc];simp only[O]at this;simpa using this
 have H:∀a,a<j->(upd D k ⟨(D k).stage,m,0⟩ a).stage=(D a).stage:=fun a _=>by
  by_cases e:a=k
  ·subst e;rw[upd_same]
  ·rw[upd_ne _ _ e]
 have eV:Vc j (upd D k ⟨(D k).stage,m,0⟩)=Vc j D:=Go.ConcN.sumTo_congr fun a ha=>by simp only[cnt,H a ha]
 have eS:Ssum j (upd D k ⟨(D k).stage,m,0⟩)=Ssum j D:=Go.ConcN.sumTo_congr fun a ha=>H a ha;refine .inl ⟨_,w0,j,upd wk k false,c,_,?_,fun n S hS=>?_,V,hv,g,dd,q,upd D k ⟨(D k).stage,m,0⟩,tag,fl,f0,st,sm,⟨I.Em,I.main,fun n hn=>?_,fun n hn hs=>?_,I.wg,I.mode.same m 0,I.acq⟩,rfl,rfl⟩
 ·simp only[E3];rw[eV,eS];omega
 ·cases n with
  |zero=>exact hR 0 S hS
  |succ n=>
    by_cases e:n=k
    ·subst e;simp[stf,upd_same]at hS
    ·refine hR (n+1) S ?_;simp only[stf,upd_ne _ _ e]at hS⊢;exact hS
 ·by_cases e:n=k
  ·subst e;rw[upd_same,upd_same];simp only;rw[h7,e4,e1];exact .r0 M.2 hm
  ·rw[upd_ne _ _ e,upd_ne _ _ e];exact I.work n hn
 ·rw[H n hn]at hs;exact I.rel n hn hs
theorem yxd(hR:∀k,RK (stf P s Ψ Kon w0 j wk) P k (c k))(I:Da P s Ψ Kon w0 j wk c V hv g dd q D tag fl f0 st sm gs w t)
 (hs:∀S,H4 P s Ψ Kon w0=some S->S (c 0).1 (c 0).2)(hw:w0≠.none)(hg:∀r,w0≠.go r):Gh P s Ψ Kon (E3 tag fl j wk D) (fuel s.p f0 j D q) w0 j wk c gs w t:=by
 have M:=I.main;have H:=M.key hw;generalize hd:dd 0=d0 at M;generalize a2:g 0=g0 at M H;generalize hc:c 0=c0 at M H hs;generalize hh:hv 0=h0 at M H;have O:∀k,RK (stf P s Ψ Kon .none j wk) P k (c k):=fun k S hS=>by
  cases k with
  |zero=>cases hS
  |succ k=>exact hR (k+1) S hS
 cases M<;>first|exact absurd rfl hw|exact absurd rfl (hg _)|skip
 ·rename_i r a b e;obtain⟨gb,x,y⟩:=hs _ rfl;obtain⟨m,M⟩:=x w I.live;refine .inl ⟨_,.none,_,wk,c,_,?_,O,V,hv,g,dd,q,D,.sp r 5,0,m,st,sm,⟨I.Em,?_,I.work,I.rel,I.wg,I.mode,s_⟩,rfl,rfl⟩
  ·simp only[E3];omega
  ·rw[hd,a2,hc,hh,H.1];exact .kd5 a M (y.stay H.2)
 ·obtain⟨gb,An,x,y⟩:=hs _ rfl;obtain⟨m,M⟩:=y w I.live;refine .inl ⟨_,.none,_,wk,c,_,?_,O,V,hv,g,dd,q,D,.kd,0,m,st,sm,⟨I.Em,?_,I.work,I.rel,I.wg,I.mode,s_⟩,rfl,rfl⟩
  ·simp only[E3];omega
  ·rw[hd,a2,hc,hh,H.1];exact .kd x M
theorem yem(O:∀gb,Kon gb->gb.status=.running)(hR:∀k,RK (stf P s Ψ Kon w0 j wk) P k (c k))(I:Da P s Ψ Kon w0 j wk c V hv g dd q D tag fl f0 st sm gs w t):∃(i:Nat)(x:Goroutine),gs[i]?=some x/\x.status=.running:=by
 have H:∀k,k<j->(D k).stage≠1-> ∃(i:Nat)(x:Goroutine),gs[i]?=some x/\x.status=.running:=fun k hk M=>
  ⟨s.p+k,g (k+1),I.Em.at' (k+1) om,((I.work k hk).status I.live (xah hR hk)).elim id fun z=>absurd z.2 M⟩
 have hs:=I.main.status I.live O (xym hR);rcases hs with⟨hs,_⟩|⟨_,rfl⟩
 ·exact⟨0,g 0,I.Em.at' 0 (Nat.zero_le _),hs⟩
 ·cases I.mode with
  |opn M _ _=>exact M.elim
  |reg _ _ h3=>
    obtain⟨k,hk,h5⟩:=exists_counted h3;exact H k hk om
  |last L _ h2 h3 _=>exact H L h2 om
  |fin M _=>exact M.elim
theorem yxw(H:∀gb,Kon gb->gb.status=.running)(O:∀k,RK (stf P s Ψ Kon w0 j wk) P k (c k))(I:Da P s Ψ Kon w0 j wk c V hv g dd q D tag fl f0 st sm gs w t):∀x∈gs,awake x:=by
 intro x hx;obtain⟨i,hi⟩:=Array.mem_iff_getElem?.1 hx;have M:=(Array.getElem?_eq_some_iff.1 hi).1;rw[I.Em.size]at M;rcases Nat.eq_zero_or_pos i with rfl|hpos
 ·have:=I.Em.at' 0 (Nat.zero_le _);rw[show gn s.p 0=0 from rfl,hi]at this;cases this;exact awake_of ((I.main.status I.live H (xym O)).elim (fun z=>.inl z.1) fun z=>.inr (.inl z.1))
 ·rcases Nat.lt_or_ge i s.p with hip|hip
  ·exact awake_of ((I.Em.lv i x hpos hip hi).status.elim .inl fun z=>.inr (.inr z))
  ·have:=I.Em.at' (i-s.p+1) om;rw[show gn s.p (i-s.p+1)=i by simp only[gn];omega,hi]at this;cases this;exact awake_of (((I.work (i-s.p) om).status I.live (xah O om)).elim .inl fun z=>.inr (.inr z.1))
theorem yc4(b4:¬ s.S s.Wg)(a4:∀k h h',Av h h'->Ψ k h->Ψ k h')(O:∀gb,Kon gb->gb.status=.running)(c6:∀b,s.S b->s.z9[b]?=some M3):
 ∀M w0 j wk c,(∀k,RK (stf P s Ψ Kon w0 j wk) P k (c k))-> ∀μ gs w sl t,Kd P s Ψ Kon M w0 j wk c μ gs w t->Fin P s Ψ Kon gs w sl t:=by
 intro M
 induction M using Nat.strongRecOn with
 |_ M ihM=>
 intro w0 j wk;refine nest (n:=3) (J:=fun c=>∀μ gs w sl t,Kd P s Ψ Kon M w0 j wk c μ gs w t->Fin P s Ψ Kon gs w sl t) fun c hR hA=>?_;intro μ
 induction μ using Nat.strongRecOn with
 |_ μ ihμ=>
 rintro gs w sl t ⟨V,hv,g,dd,q,D,tag,fl,f0,st,sm,I,rfl,rfl⟩;have a3:∀gs w sl t,Gh P s Ψ Kon (E3 tag fl j wk D) (fuel s.p f0 j D q) w0 j wk c gs w t->Fin P s Ψ Kon gs w sl t:=by
  rintro gs w sl t (⟨M',w0',j',c4,c',μ',a7,b0,hG⟩|⟨μ',a7,hG⟩)
  ·exact ihM M' a7 _ _ _ _ b0 _ _ _ _ _ hG
  ·exact ihμ μ' a7 _ _ _ _ hG
 have hp:=I.Em.pos;have hj:=I.main.le.1;obtain⟨i,a,d,sl',hi,ha,b7⟩:=crowd_pick (P:=P) (w:=w) (sl:=sl) (yxw O hR I) (yem O hR I);have Id:=I.draw a4 d;have fin:∀{a':Goroutine}{w':World}{es:Array Event},stepG P (i==0) a (w.at d)=.go a' w' es->Quiet (.of s.S) (w.at d) w'->Fin P s Ψ Kon ((gs.map (woken P a a' w')).setIfInBounds i a') w' sl' (t++MemOp.ofEvents i a.frame.fn a.frame.place es)->Fin P s Ψ Kon gs w sl t:=
  fun a2 hc x=>xr7 (b7.trans (runT_crowd_go (P:=P) (sl:=sl') (i:=i) hi a2)) ((xtl w d).trans hc) x
 have walk:∀k S,k<3->stf P s Ψ Kon w0 j wk k=some S->(k=0->w0≠.none)->(∀m,k=m+1->wk m=true)->g k=(c k).1/\Av (c k).2 (hv k)->i=gn s.p k->a=g k->
  (Own P (k==0) (c k).1 (c k).2 fun g h=>Reach P (.own (k==0)) g h S/\ ∀c',c' k=(g,h)->(∀m,m<k->c' m=c m)->(∀m,RK (stf P s Ψ Kon w0 j wk) P m (c' m))-> ∀μ gs w sl t,Kd P s Ψ Kon (E3 tag fl j wk D) w0 j wk c' μ gs w t->Fin P s Ψ Kon gs w sl t)->Fin P s Ψ Kon gs w sl t:=by
  intro k S _ hS h0 h1 H b8 b6 o;obtain⟨a',h',w',es,a2,⟨hr,a9⟩,c5,hq,c1⟩:=o.2 (hv k) H.2 (V k) (w.at d) (I.Em.Hj k (ytx hS));rw[<- H.1,<- b6]at a2;obtain⟨μ',hG⟩:=yed a4 O hR Id (ytx hS) h0 h1 (a':=a') (fn:=a.frame.fn) (pos:=a.frame.place) c5 hq c1;rw[<- b6,<- b8]at hG;refine fin (by rw[b8,ytn hp];exact a2) (hq.mono fun b y=>.inl (I.Em.sd k (ytx hS) b (y.elim id fun z=>z.elim))) (a9 (upd c k (a',h')) (upd_same _ _ _) (fun m hm=>upd_ne _ _ om) (fun m=>?_) _ _ _ _ _ hG);by_cases e:m=k
  ·subst e;rw[upd_same];intro S' a6;rw[hS]at a6;cases a6;exact hr
  ·rw[upd_ne _ _ e];exact hR m
 have a7:=(Array.getElem?_eq_some_iff.1 hi).1;rw[I.Em.size]at a7;rcases Nat.eq_zero_or_pos i with rfl|hpos
 ·
   have e0:=I.Em.at' 0 (Nat.zero_le _);rw[show gn s.p 0=0 from rfl,hi]at e0;obtain rfl:a=g 0:=Option.some.inj e0;by_cases hw:w0=.none
   ·subst hw;rcases yod b4 a4 hR I ha rfl with a2|hl|⟨rfl,rfl,hk⟩
    ·obtain⟨a',w',es,h1,h2,h3⟩:=a2 d;exact fin h1 h2 (a3 _ _ _ _ (h3 _ _))
    ·exact a3 _ _ _ _ hl
    ·exact yud c6 I hk sl
   ·have H:=I.main.key hw;have hS:∃S,H4 P s Ψ Kon w0=some S:=by cases w0<;>first|exact absurd rfl hw|exact⟨_,rfl⟩
    obtain⟨S,hS⟩:=hS;rcases hA 0 om S hS with hstop|o
    ·by_cases hg:∃r,w0=.go r
     ·obtain⟨r,rfl⟩:=hg;cases hS;obtain⟨_,g',child,X,Z,c3,hX,hZ,b3⟩:=Lj.stay hstop H.2;obtain⟨b9,c2⟩:=b3 _ (.refl _);obtain⟨M',w0',j',c4,c',μ',b5,b0,hG⟩:=xz8 (fn:=(g 0).frame.fn) (fn':=child.frame.fn) (pos:=(g 0).frame.place) (pos':=(g 0).frame.place) Id hR rfl hX hZ b9 c2;have a8:=runT_crowd_spawn (P:=P) (sl:=sl') (i:=0) (es:=#[]) hi (show stepG P (0==0) (g 0) (w.at d)=.spawn g' child (w.at d) #[] by rw[H.1];exact c3 _);rw[I.Em.size]at a8;refine xr7 (b7.trans a8) (xtl w d) ?_;refine ihM M' b5 _ _ _ _ b0 μ' _ _ _ _ ?_;have e:((MemOp.ofEvents 0 (g 0).frame.fn (g 0).frame.place #[]).push {g:=0,fn:=(g 0).frame.fn,pos:=(g 0).frame.place,act:=.go (s.p+j)}).push {g:=s.p+j,fn:=child.frame.fn,pos:=(g 0).frame.place,act:=.start}=#[{g:=0,fn:=(g 0).frame.fn,pos:=(g 0).frame.place,act:=.go (s.p+j)},{g:=s.p+j,fn:=child.frame.fn,pos:=(g 0).frame.place,act:=.start}]:=by
       rw[ofEvents_eq];simp
      rw[e];exact hG
     ·exact a3 _ _ _ _ (yxd hR I (fun S' a6=>by rw[hS]at a6;cases a6;exact hstop) hw fun r e=>hg ⟨r,e⟩)
    ·exact walk 0 S om hS (fun _=>hw) (fun m e=>om) H rfl rfl o
 ·rcases Nat.lt_or_ge i s.p with hip|hip
  ·
    obtain⟨a',w',es,h1,h2,h3⟩:=ybc a4 O hR I hpos hip hi ha d;exact fin h1 h2 (a3 _ _ _ _ (h3 _ _))
  ·
    obtain⟨k,rfl⟩:∃k,i=s.p+k:=⟨i-s.p,om⟩
    have hk:k<j:=om;have e0:=I.Em.at' (k+1) om;rw[show gn s.p (k+1)=s.p+k from rfl,hi]at e0;obtain rfl:a=g (k+1):=Option.some.inj e0;cases a5:wk k with
    |false=>
      obtain⟨a',w',es,h1,h2,h3⟩:=ygb b4 a4 O hR I hk a5 ha d;exact fin h1 h2 (a3 _ _ _ _ (h3 _ _))
    |true=>
      have hS:stf P s Ψ Kon w0 j wk (k+1)=some (Fj P s (Ψ k)):=by simp[stf,hk,a5]
      have hx:=I.work k hk;rw[a5]at hx;have H:=hx.key;rcases hA (k+1) om _ hS with hstop|o
      ·exact a3 _ _ _ _ (ytk a4 hR I hk a5 hstop)
      ·exact walk (k+1) _ om hS (fun e=>om) (fun m e=>by cases e;exact a5) ⟨H.1,H.2.1⟩ rfl rfl o
end
open Go.ConcN (WD CTag Vc pend upd)
open Go.ConcR (KK wgBlock WgAt)
variable{a₀:Act}{aft:Array Edge}{ops₀:Array Oper}{b₀ zq:Frame}{ge:Goroutine}{df:List Deferred}{cs:List Frame}{k₀:List Item}{ops rest:List Oper}
theorem xk3{Kon:Goroutine->Prop}{Stop:Goroutine->Heap->Prop}(ty:TypeId)(Wg:Nat)(Z:List Nat)
 (a3:h[Wg]?=some (wgBlock ty 0 0))(hZ:∀b∈Z,Exc h b)(c1:∀k h h',Av h h'->Ψ k h->Ψ k h')(b3:∀gb,Kon gb->gb.status=.running)
 (b6:∀S p q8,Lx P ⟨ty,Wg,S,h,Z,p,q8⟩ Ψ 0 (Scr P ⟨ty,Wg,S,h,Z,p,q8⟩ Ψ Kon 1) ge (Dr [Wg] Z h))
 (b5:∀S p q8 gb,Kon gb-> ∀hw he,Joined ⟨ty,Wg,S,h,Z,p,q8⟩ Ψ hw he->Reach P (.main true) gb he Stop):Reach P (.main true) ge h Stop:=by
 intro S gs w sl t q M;have a8:Exc h Wg:=⟨_,_,a3,s_⟩
 obtain⟨a4,b9⟩:=M.Hj.exc a8;have a5:Wg<h.size:=(Array.getElem?_eq_some_iff.1 a3).1;have a9:=M.main;have a7:0<gs.size:=(Array.getElem?_eq_some_iff.1 a9).1
 let s:Site:=⟨ty,Wg,S,h,Z,gs.size,t.size⟩
 obtain⟨gb,a6,V⟩:=b6 S gs.size t.size;have b4:WgAt ty Wg w 0 0:=(M.Hj.same Wg a4 b9).symm.trans a3;obtain⟨m,hm⟩:=a6 w ⟨_,_,b4⟩;have O:(Gx [Wg] Z h (.of S)).dead Wg:=.inr ⟨a5,.inl s_⟩;have b0:Ho s P 0 (fun _=>Gx [Wg] Z h (.of S)) (fun _=>Dr [Wg] Z h) (fun _=>ge) (fun _=>0) q gs w t:=by
  refine⟨a7,rfl,fun k hk=>?_,fun i x hi _ hx=>M.P7.old i x hi hx,M.P7.above,fun k _=>M.Hj.cut hZ,fun k _ b H=>xjh H,fun k m hk hm c5=>om,fun _ _=>O,fun b H hS=>(M.Hj.same b hS (fun h=>h)).symm,fun k _ b H=>?_,
   fun _ _ b H=>.inl H,by rw[<- M.Hj.size];exact Nat.le_refl _,?_,fun k hk=>?_⟩
  ·obtain rfl:k=0:=om;exact a9
  ·by_cases hd:(Gx [Wg] Z h (.of S)).dead b
   ·exact .inl hd
   ·exact .inr (xut H.1 hd H.2.2)
  ·exact TI.start M.Bz a4 fun b H hS=>H (.inl hS)
  ·obtain rfl:k=0:=om;exact M.Bz.hears
 have hG:Kd P s Ψ Kon (E3 (.sp 1 5) 0 0 (fun _=>false) fun _=>⟨0,0,0⟩) .none 0 (fun _=>false) (fun _=>(ge,h)) (fuel gs.size m 0 (fun _=>⟨0,0,0⟩) q) gs w t:=by
  refine⟨_,_,_,_,_,fun _=>⟨0,0,0⟩,.sp 1 5,0,m,0,0,⟨b0,.kd5 om hm V,fun k hk=>om,fun k hk=>om,b4,?_,s_⟩,rfl,rfl⟩;have:=Go.ConcN.Mode.opn (j:=0) (D:=fun _=>(⟨0,0,0⟩:WD)) (tag:=.sp 1 5) trivial (fun i hi=>om) (fun vs e=>by cases e);simpa[Vc,pend,Go.ConcN.sumTo]using this
 obtain⟨N,S',gs',w',sl',t',q',c3,he,hw,h1,h2,h3,h4,h5,h6⟩:=yc4 (s:=s) a4 c1 b3 (fun b H=>M.Hj.Kn b H) _ _ _ _ _ (fun k S hS=>by
  cases k with
  |zero=>cases hS
  |succ k=>simp[stf]at hS) _ gs w sl t hG
 obtain⟨N2,S2,b8,w2,c4,t2,q2,g2,b7,a2,b2,c2,d2,e2,f2⟩:=b5 S gs.size t.size c3 h3 hw he h4 S' gs' w' sl' t' q' h2;exact⟨N+N2,S2,b8,w2,c4,t2,q2,g2,b7,by rw[runNT_add,h1];exact a2,b2,c2,h5.trans (d2.of h6),(fun z=>by cases z),fun b H=>f2 b (h6 b H)⟩
section
variable{r:Rd}{k:List Item}{Stop:Goroutine->Heap->Prop}
theorem Oe{a:List Value}(H:r.round=none):FL f r a df k=(B f r).at ⟨a.toArray,df⟩ k:=by simp[FL,F,Frame.at,B,H]
theorem yrc[Stb Φ]{g:FuncId}{args:List Operand}{pos:String}
 (hm:Met ops tm ⟨none,.defer ⟨.value (.func g),args.toArray,ats⟩,ty,pos,aft,gd⟩ true)(O:args.map (evl tm)=vs)(V:r.round=none)
 (n:RL P md f r (dcall g vs.toArray::df) k cs Stop ops rest tm Φ):RL P md f r df k cs Stop ops (⟨none,.defer ⟨.value (.func g),args.toArray,ats⟩,ty,pos,aft,gd⟩::rest) tm Φ:=by
 intro M e;rw[xlw];have n':=n (M++[⟨none,.defer ⟨.value (.func g),args.toArray,ats⟩,ty,pos,aft,gd⟩]) (by simp[e]);refine xyc rfl (fun w=>?_) n';rw[Oe V,Oe V];have H:Act.eval ⟨tm.toArray,df⟩=evl tm:=by
  funext x;rw[<- xbz];cases x<;>rfl
 have hw:=xxq hm;rw[stepG_defer (xhf e) (by exact hw) xtw rfl];simp only[Act.put,List.map_toArray,H,O];simp
theorem yzd{fn:Func}{c:Code}(hf:P.funcs[f]?=some fn)(H:fn.body=some c)(M:args.toList++List.replicate (fn.ntmps-args.size) undef=tm)
 (x:RS P md (G (FL f .dfd tm [] [.code c]) cs) Φ Stop)(O:Φ h):Reach P md (G (Frame.enter P f args .deferred) cs) h Stop:=by
 have:=x h O;have e:Frame.enter P f args .deferred=FL f .dfd tm [] [.code c]:=by
  unfold Frame.enter;simp only[hf,H,Option.map_some,Option.bind_some,Option.getD_some,FL,F,B,<- M];simp[Rd.kind,Rd.round]
 rw[e];exact this
theorem yef{z9:Heap}{L:Pcs}{m:Nat}(H:L[i]?=some (m,.deferred (some [])))
 (x:∀td,RS P md (G (FR (B f .dfd) tm.toArray df td) (zq::cs)) (fun h=>St z9 zz p h (L.set i (m,.deferred none))) Stop):RS P md (G (FL f .dfd tm (mark m::df) []) (zq::cs)) (fun h=>St z9 zz p h L) Stop:=
 yjh (hro:=rfl) fun td=>xvh (fun _ s=>s.at H) fun _ s=>x td _ (s.setObj H)
theorem ydf[Stb Φ]{c:Code}(z:RS P md (G (FL f r tm df (.code c::.inLoop c::k)) cs) Φ Stop):RS P md (G (FL f r tm df (.code (.loop c)::k)) cs) Φ Stop:=xf3 z
theorem ycq[Stb Φ]{c:Code}(z:RS P md (G (FL f r tm df (.code c::.inLoop c::k)) cs) Φ Stop):RS P md (G (FL f r tm df (.inLoop c::k)) cs) Φ Stop:=xwm z
def M8(P:Program):Frame:={ (default:Frame)with fn:=P.funcs.size,defers:=[],mode:=.panicking [goexitEntry]}
theorem yuq[Stb Φ]{fn:Func}{g:FuncId}{caps:Array Value}(hf : P.funcs[g]? = some fn)(hname : (fn.name == "runtime.NumGoroutine") = false)(hb : fn.body.isNone = false)
 (x:RS P (.own false) (G (Frame.enter P g (args++caps) .deferred) [M8 P]) Φ Stop):RS P (.own false) (born P {target:=.fn (.func g) caps,args:=args}) Φ Stop:=by
 refine xyc rfl (fun w=>?_) x;have hn:fn.body≠none:=fun e=>by rw[e]at hb;cases hb
 have hname' : ¬ fn.name = "runtime.NumGoroutine" := by simpa using hname
 show stepG P false (born P {target:=.fn (.func g) caps,args:=args}) w=_;cases hbd:fn.body with
 |none=>exact absurd hbd hn
 |some c=>simp[born,stepG,unwind,callDeferred,invoke,callFunc,hf,hname',hbd,seen,GStep.after,G,M8]
end
theorem isI{m:Bool}{R:World->World->Prop}{D:World->World->Array Event->Prop}{S:Goroutine->World->Prop}{b:Frame}{a:Act}{k:List Item}(i:Item)(h:Goes P m R D S n (G (b.at a (i::k)) cs) w):Goes P m R D S n (G (b.at a (i::k)) cs) w:=h
structure Hw(K:Prop):Prop where
 out:K
section
variable{Q:Prop}{t:TypeId}{Wg:Nat}{K:World->Prop}
theorem uw(M:WgLive t Wg w)(k:∀w,WgLive t Wg w->K w)(h:WgLive t Wg w->Hw (∀w,WgLive t Wg w->K w)->Q:=by
 intro M k
 repeat (first
  |(refine isI (.inRegion _ (_::_)) ?_;first|u_op xeq M|u_skip xeq M)
  |(refine isI (.inRegion _ []) ?_;u_c stepG_region_end xeq M)
  |(refine isI (.code (.seq _ _)) ?_;u_c stepG_seq xeq M)
  |(refine isI (.code (.region _ _ _)) ?_;u_reg xeq M)
  |(refine isI (.code .skip) ?_;u_c stepG_skip xeq M))
 exact k.out _ M):Q:=h M ⟨k⟩
end
section
variable{L:WgLink}{Wg:Nat}
theorem ywr(H:WgLib P L)(w:World)(M:WgLive L.tWg Wg w):
 ∃m,Goes P true (RLv L.tWg Wg) DC0 (AtKdS P L.tWg Wg (G (b₀.at (a₀.put ((ops₀[i₀]?).bind (·.dst)) (.tuple #[])) (.inRegion ops₀ rest₀::k₀)) cs)) m (G ((base L.add).at ⟨(w_ Wg 0::.J 1::List.replicate 115 undef).toArray,[]⟩ [.code (body_add L)]) (b₀.at a₀ (.inRegion ops₀ (i₀::rest₀)::k₀)::cs)) w:=by
 lib_facts
 simp only[List.replicate];simp only[body_add,addFn,Option.getD_some];refine⟨30,?_⟩;u_c stepG_seq xeq M
 u_cond true xeq M
 refine uw M fun w M=>?_
 u_cond false xeq M
 refine uw M fun w M=>?_;refine Goes.stop (fun w1 h1=>?_);replace M:=xeq M h1;clear h1;refine⟨rfl,_,stepG_mark0 .disable s_ rfl rfl (by k_ne) rfl H.f_disable (x_disable_n L) (x_disable_b L) (x_disable_x L) (x_disable_f L),60,?_⟩
 walk_nrm
 refine uw M fun w M=>?_
 u_defer xeq M
 refine uw M fun w M=>?_
 u_bub xeq M
 u_c stepG_region_end xeq M
 u_cond false xeq M
 refine uw M fun w M=>?_
 u_call H.f_uAdd (nm_uAdd L) uAddFn xeq M
 refine uw M fun w M=>?_;refine Goes.stop (fun w2 h2=>?_);replace M:=xeq M h2;clear h2;refine⟨rfl,fun v hv hw=>?_⟩;rcases Nat.eq_zero_or_pos v with rfl|hvp
 ·replace hw:WgAt L.tWg Wg w2 0 0:=by simpa using hw
  have z:(((0:Nat):Int)+1)*KK=KK:=by simp
  rw[z];have e0:IntKind.u64.wrap (0+4294967296)=KK:=by decide
  refine⟨_,(stepG_add_atomic rfl rfl (by k_ne) rfl H.f_addU64 (x_addU64_n L) (x_addU64_b L) (x_addU64_x L) .u64 (x_addU64_f L) rfl rfl hw.cellSt (hw.thaw 0)).trans (by rw[e0];rfl),fun _=>⟨110,?_⟩,fun h=>absurd rfl h⟩;replace M:WgLive L.tWg Wg (w2.setCell (stA Wg) (.int .u64 KK)):=⟨_,_,hw.setSt _⟩
  clear hw;simp only[KK]at M⊢
  walk_nrm
  refine uw M fun w M=>?_;u_c stepG_ret' xeq M
  u_leave1 H.f_uAdd xeq M
  refine uw M fun w M=>?_
  u_cond false xeq M
  refine uw M fun w M=>?_
  u_cond true xeq M
  refine uw M fun w M=>?_
  u_conv H.underlying_tPU32 H.room_tU32 (WgLive.cell1 M).choose_spec xeq M
  refine Goes.stop (fun w3 h3=>?_);replace M:=xeq M h3;clear h3;refine⟨rfl,_,stepG_markAt .read s_ rfl rfl (by k_ne) rfl H.f_raceRead (x_raceRead_n L) (x_raceRead_b L) (x_raceRead_x L) (x_raceRead_f L) (by simp[Act.eval,smA]),110,?_⟩
  walk_nrm
  refine uw M fun w M=>?_
  u_cond false xeq M
  refine uw M fun w M=>?_
  u_cond false xeq M
  refine uw M fun w M=>?_
  u_cond true xeq M
  u_c stepG_ret' xeq M;refine Goes.stop (fun w4 h4=>?_);replace M:=xeq M h4;clear h4;refine⟨rfl,_,stepG_unwind_entry (v:=.tuple #[]) (evs:=#[mk .enable]) rfl H.f_enable (x_enable_n L) (x_enable_b L) (x_enable_x L) (x_enable_f L) (by simp[Extern.Race.none_]) (by simp[mk]) (by simp[mk]),4,?_⟩
  u_leave0 H.f_add xeq M
  exact Goes.stop fun w5 h5=>⟨rfl,xeq M h5⟩
 ·obtain⟨V,hV⟩:∃V:Int,V=(v:Int)+1:=⟨_,rfl⟩
  obtain⟨S,O⟩:∃S:Int,S=V*KK:=⟨_,rfl⟩
  have eS:IntKind.u64.wrap ((v:Int)*KK+4294967296)=S:=by rw[IntKind.wrap_u64,O,hV];simp only[KK];omega
  rw[<- hV,<- O];have a1:S / 4294967296=V:=by rw[O];simp only[KK];omega
  have b1:bits .and .u64 S 2147483648=0:=by rw[O,hV];have:=st_flag (v+1) 0 om om;simpa[KK]using this
  have b2:bits .and .u64 S 2147483647=0:=by rw[O,hV];have:=st_waiters (v+1) 0 om om;simpa[KK]using this
  have c1:IntKind.i32.wrap V=V:=by rw[IntKind.wrap_i32];omega
  have a2:1<V:=om;have a3:V<2147483648:=om;have q1:(V==1)=false:=by simp;omega
  have q2:decide (V=1)=false:=decide_eq_false om;have q3:decide (V<0)=false:=decide_eq_false om;have q4:decide (0<V)=true:=decide_eq_true om;have q5:(V==0)=false:=by simp;omega
  have q6:decide (V=0)=false:=decide_eq_false om;refine⟨_,(stepG_add_atomic rfl rfl (by k_ne) rfl H.f_addU64 (x_addU64_n L) (x_addU64_b L) (x_addU64_x L) .u64 (x_addU64_f L) rfl rfl hw.cellSt (hw.thaw 0)).trans (by rw[eS];rfl),fun h=>absurd h om,fun _=>⟨110,?_⟩⟩;replace M:WgLive L.tWg Wg (w2.setCell (stA Wg) (.int .u64 S)):=⟨_,_,hw.setSt _⟩
  clear hw O hV eS
  walk_nrm
  refine uw M fun w M=>?_;u_c stepG_ret' xeq M
  u_leave1 H.f_uAdd xeq M
  refine uw M fun w M=>?_
  u_cnd false xeq M
  refine uw M fun w M=>?_
  u_cnd false xeq M
  refine uw M fun w M=>?_
  u_cnd false xeq M
  refine uw M fun w M=>?_
  u_cnd false xeq M
  refine uw M fun w M=>?_
  u_cnd true xeq M
  u_c stepG_ret' xeq M;refine Goes.stop (fun w3 h3=>?_);replace M:=xeq M h3;clear h3;refine⟨rfl,_,stepG_unwind_entry (v:=.tuple #[]) (evs:=#[mk .enable]) rfl H.f_enable (x_enable_n L) (x_enable_b L) (x_enable_x L) (x_enable_f L) (by simp[Extern.Race.none_]) (by simp[mk]) (by simp[mk]),4,?_⟩
  u_leave0 H.f_add xeq M
  exact Goes.stop fun w5 h5=>⟨rfl,xeq M h5⟩
end
section
variable{L:WgLink}{Wg:Nat}
theorem xv8(H:WgLib P L)(w:World)(M:WgLive L.tWg Wg w):
 ∃m,Goes P true (RLv L.tWg Wg) DC0 (AtKd P L.tWg Wg (Ni L Wg (b₀.at a₀ (.inRegion ops₀ (i₀::rest₀)::k₀)) cs)) m (G ((base L.wait).at ⟨(w_ Wg 0::List.replicate 83 undef).toArray,[]⟩ [.code (body_wait L)]) (b₀.at a₀ (.inRegion ops₀ (i₀::rest₀)::k₀)::cs)) w:=by
 lib_facts
 simp only[List.replicate];simp only[body_wait,waitFn,Option.getD_some];refine⟨9,?_⟩;u_c stepG_seq xeq M
 u_cond true xeq M
 u_reg xeq M;refine Goes.stop (fun w1 O=>?_);replace M:=xeq M O;clear O;refine⟨rfl,_,stepG_mark0 .disable s_ rfl rfl (by k_ne) rfl H.f_disable (x_disable_n L) (x_disable_b L) (x_disable_x L) (x_disable_f L),9,?_⟩
 walk_nrm
 u_c stepG_region_end xeq M;u_c stepG_block xeq M;u_c stepG_loop xeq M;exact Goes.stop (fun w2 V=>⟨_,rfl,s_,s_,xeq M V⟩)
theorem xw8(H:WgLib P L)(g:Goroutine)(w:World)(h:Ni L Wg (b₀.at a₀ (.inRegion ops₀ (i₀::rest₀)::k₀)) cs g w):
 ∃m,Goes P true (RLv L.tWg Wg) DC0 (AtW1 P L.tWg Wg (G (b₀.at (a₀.put ((ops₀[i₀]?).bind (·.dst)) (.tuple #[])) (.inRegion ops₀ rest₀::k₀)) cs) (Ni L Wg (b₀.at a₀ (.inRegion ops₀ (i₀::rest₀)::k₀)) cs)) m g w:=by
 lib_facts
 obtain⟨T,rfl,a2,t0,M⟩:=h;obtain⟨v0,v1,v2,v3,v4,v5,v6,v7,v8,v9,v10,v11,v12,v13,v14,v15,v16,v17,v18,v19,v20,v21,v22,v23,v24,v25,v26,v27,v28,v29,v30,v31,v32,v33,v34,v35,v36,v37,v38,v39,v40,v41,v42,v43,v44,v45,v46,v47,v48,v49,v50,v51,v52,v53,v54,v55,v56,v57,v58,v59,v60,v61,v62,v63,v64,v65,v66,v67,v68,v69,v70,v71,v72,v73,v74,v75,v76,v77,v78,v79,v80,v81,v82,v83,rfl⟩:=Go.ConcR.Gen.array84 T a2;simp only[List.getElem?_toArray,List.getElem?_cons_zero,Option.some.injEq]at t0;subst t0;refine⟨30,?_⟩;simp only[L7,body_wait,waitFn,Option.getD_some];u_c stepG_block xeq M;refine uw M fun w M=>?_
 u_call H.f_uLoad (nm_uLoad L) uLoadFn xeq M
 refine uw M fun w M=>?_;refine Goes.stop (fun w1 h1=>?_);replace M:=xeq M h1;clear h1;refine⟨rfl,fun v hv hw=>?_⟩;rcases Nat.eq_zero_or_pos v with rfl|hvp
 ·replace hw:WgAt L.tWg Wg w1 0 0:=by simpa using hw
  refine⟨_,stepG_load_atomic (v:=0) rfl rfl (by k_ne) rfl H.f_loadU64 (x_loadU64_n L) (x_loadU64_b L) (x_loadU64_x L) .u64 (x_loadU64_f L) rfl hw.cellSt,fun _=>⟨60,?_⟩,fun h=>absurd rfl h⟩;clear hw
  walk_nrm
  refine uw M fun w M=>?_;u_c stepG_ret' xeq M
  u_leave1 H.f_uLoad xeq M
  refine uw M fun w M=>?_
  u_cond true xeq M
  u_c stepG_seq xeq M
  u_cond true xeq M
  refine uw M fun w M=>?_;refine Goes.stop (fun w2 h2=>?_);replace M:=xeq M h2;clear h2;refine⟨rfl,_,stepG_mark0 .enable s_ rfl rfl (by k_ne) rfl H.f_enable (x_enable_n L) (x_enable_b L) (x_enable_x L) (x_enable_f L),12,?_⟩
  walk_nrm
  refine uw M fun w M=>?_
  u_conv H.underlying_tWgP H.room_tWg (WgLive.cell0 M).choose_spec xeq M
  refine Goes.stop (fun w3 O=>?_);replace M:=xeq M O;clear O;refine⟨rfl,_,stepG_markAt .acquire s_ rfl rfl (by k_ne) rfl H.f_acquire (x_acquire_n L) (x_acquire_b L) (x_acquire_x L) (x_acquire_f L) (by simp[Act.eval,stA]),30,?_⟩
  walk_nrm
  refine uw M fun w M=>?_
  u_cond false xeq M
  u_c stepG_skip xeq M;u_c stepG_ret' xeq M
  u_leave0 H.f_wait xeq M
  exact Goes.stop fun w9 h9=>⟨rfl,xeq M h9⟩
 ·obtain⟨S,V⟩:∃S:Int,(v:Int)*KK=S:=⟨_,rfl⟩
  have a1:S / 4294967296=(v:Int):=by rw[<- V];simp only[KK];omega
  have b1:bits .and .u64 S 2147483648=0:=by rw[<- V];have:=st_flag v 0 om om;simpa[KK]using this
  have b2:bits .and .u64 S 2147483647=0:=by rw[<- V];have:=st_waiters v 0 om om;simpa[KK]using this
  have c1:IntKind.i32.wrap (v:Int)=(v:Int):=by rw[IntKind.wrap_i32];omega
  have a4:IntKind.u64.wrap (S+1)=S+1:=by rw[IntKind.wrap_u64,<- V];simp only[KK];omega
  have q3:decide ((v:Int)<0)=false:=decide_eq_false om;have q4:decide (0<(v:Int))=true:=decide_eq_true om;have q5:((v:Int)==0)=false:=by simp;omega
  have q6:decide ((v:Int)=0)=false:=decide_eq_false om;rw[V]at hw;refine⟨_,stepG_load_atomic (v:=S) rfl rfl (by k_ne) rfl H.f_loadU64 (x_loadU64_n L) (x_loadU64_b L) (x_loadU64_x L) .u64 (x_loadU64_f L) rfl hw.cellSt,fun h0=>absurd h0 om,fun _=>⟨60,?_⟩⟩;clear hw
  walk_nrm
  refine uw M fun w M=>?_;u_c stepG_ret' xeq M
  u_leave1 H.f_uLoad xeq M
  refine uw M fun w M=>?_
  u_cnd false xeq M
  refine uw M fun w M=>?_
  u_call H.f_uCas (nm_uCas L) uCasFn xeq M
  refine uw M fun w M=>?_;refine Goes.stop (fun w2 h2=>?_);replace M:=xeq M h2;clear h2;refine⟨rfl,fun v' a3 hw=>⟨fun e=>?_,fun e=>?_⟩⟩
  ·subst e;rw[V]at hw⊢;refine⟨_,(stepG_cas_hit (v:=S) (n:=S+1) rfl rfl (by k_ne) rfl H.f_casU64 (x_casU64_n L) (x_casU64_b L) (x_casU64_x L) .u64 (x_casU64_f L) rfl rfl rfl hw.cellSt (hw.thaw 0)).trans (by rfl),70,?_⟩;replace M:WgLive L.tWg Wg (w2.setCell (stA Wg) (.int .u64 (S+1))):=⟨_,_,hw.setSt _⟩
   clear hw
   walk_nrm
   refine uw M fun w M=>?_;u_c stepG_ret' xeq M
   u_leave1 H.f_uCas xeq M
   u_c stepG_region_end xeq M
   u_cond true xeq M
   refine uw M fun w M=>?_
   u_cond true xeq M
   refine uw M fun w M=>?_
   u_conv H.underlying_tPU32 H.room_tU32 (WgLive.cell1 M).choose_spec xeq M
   refine Goes.stop (fun w3 O=>?_);replace M:=xeq M O;clear O;refine⟨rfl,_,stepG_markAt .write s_ rfl rfl (by k_ne) rfl H.f_raceWrite (x_raceWrite_n L) (x_raceWrite_b L) (x_raceWrite_x L) (x_raceWrite_f L) (by simp[Act.eval,smA]),70,?_⟩
   walk_nrm
   refine uw M fun w M=>?_
   u_cond false xeq M
   refine uw M fun w M=>?_;refine Goes.stop (fun w4 h4=>?_);replace M:=xeq M h4;clear h4;refine⟨rfl,rfl,fun⟨st,hw⟩=>stepG_semacquire_wait rfl rfl rfl H.f_semacquire (x_semacquire_n L) (x_semacquire_b L) (x_semacquire_x L) (x_semacquire_f L) (by simp[Act.eval,smA]) hw.cellSm,fun hf=>?_⟩;refine⟨_,(stepG_semacquire (n:=1) rfl rfl (by k_ne) rfl H.f_semacquire (x_semacquire_n L) (x_semacquire_b L) (x_semacquire_x L) (x_semacquire_f L) (by simp[Act.eval,smA]) hf.cellSm (by k_ne) (hf.thaw 1)).trans (by rfl),30,?_⟩;replace M:WgLive L.tWg Wg (w4.setCell (smA Wg) (.int .u32 0)):=⟨_,_,hf.setSm 0⟩
   clear hf
   walk_nrm
   refine uw M fun w M=>?_
   u_call H.f_uLoad (nm_uLoad L) uLoadFn xeq M
   refine uw M fun w M=>?_;refine Goes.stop (fun w5 h5=>?_);replace M:=xeq M h5;clear h5;refine⟨rfl,fun hw=>⟨_,stepG_load_atomic (v:=0) rfl rfl (by k_ne) rfl H.f_loadU64 (x_loadU64_n L) (x_loadU64_b L) (x_loadU64_x L) .u64 (x_loadU64_f L) rfl hw.cellSt,30,?_⟩⟩;clear hw
   walk_nrm
   refine uw M fun w M=>?_;u_c stepG_ret' xeq M
   u_leave1 H.f_uLoad xeq M
   refine uw M fun w M=>?_
   u_cond true xeq M
   refine uw M fun w M=>?_;refine Goes.stop (fun w6 h6=>?_);replace M:=xeq M h6;clear h6;refine⟨rfl,_,stepG_mark0 .enable s_ rfl rfl (by k_ne) rfl H.f_enable (x_enable_n L) (x_enable_b L) (x_enable_x L) (x_enable_f L),12,?_⟩
   walk_nrm
   refine uw M fun w M=>?_
   u_conv H.underlying_tWgP H.room_tWg (WgLive.cell0 M).choose_spec xeq M
   refine Goes.stop (fun w7 h7=>?_);replace M:=xeq M h7;clear h7;refine⟨rfl,_,stepG_markAt .acquire s_ rfl rfl (by k_ne) rfl H.f_acquire (x_acquire_n L) (x_acquire_b L) (x_acquire_x L) (x_acquire_f L) (by simp[Act.eval,stA]),30,?_⟩
   walk_nrm
   refine uw M fun w M=>?_
   u_cond false xeq M
   u_c stepG_skip xeq M;u_c stepG_ret' xeq M
   u_leave0 H.f_wait xeq M
   exact Goes.stop fun w9 h9=>⟨rfl,xeq M h9⟩
  ·refine⟨_,stepG_cas_miss (v:=(v':Int)*KK) (old:=S) (n:=S+1) rfl rfl (by k_ne) rfl H.f_casU64 (x_casU64_n L) (x_casU64_b L) (x_casU64_x L) .u64 (x_casU64_f L) rfl rfl rfl hw.cellSt (hw.thaw 0) (by rw[<- V];simp only[KK];omega),20,?_⟩;clear hw
   walk_nrm
   refine uw M fun w M=>?_;u_c stepG_ret' xeq M
   u_leave1 H.f_uCas xeq M
   u_c stepG_region_end xeq M
   u_cond false xeq M
   u_c stepG_skip xeq M;u_c stepG_inBlock xeq M;u_c stepG_inLoop xeq M;refine Goes.stop (fun w3 O=>?_);replace M:=xeq M O;exact⟨_,rfl,s_,s_,M⟩
end
section
variable{L:WgLink}{Wg:Nat}{b₀:Frame}{a₀:Act}{ops₀:Array Oper}{i₀:Nat}{rest₀:List Nat}{k₀:List Item}{cs:List Frame}
theorem yon{P:Program}(H:WgLib P L){qt:Nat}(hT:QuitsD P qt 0 (G (b₀.at (a₀.put ((ops₀[i₀]?).bind (·.dst)) (.tuple #[])) (.inRegion ops₀ rest₀::k₀)) cs))(w:World)(M:WgLive L.tWg Wg w):
 Goes P false (RLv L.tWg Wg) DC0 (AtR0 P L.tWg Wg) 40 (G ((base L.add).at ⟨(w_ Wg 0::.J (-1)::List.replicate 115 undef).toArray,[]⟩ [.code (body_add L)]) (b₀.at a₀ (.inRegion ops₀ (i₀::rest₀)::k₀)::cs)) w:=by
 lib_facts
 simp only[List.replicate];simp only[body_add,addFn,Option.getD_some];u_c stepG_seq xeq M
 u_cond true xeq M
 refine uw M fun w M=>?_
 u_cond true xeq M
 refine uw M fun w M=>?_
 u_conv H.underlying_tWgP H.room_tWg (WgLive.cell0 M).choose_spec xeq M
 refine Goes.stop (fun w1 h1=>?_);replace M:=xeq M h1;clear h1;refine⟨rfl,_,stepG_markAt .releaseMerge s_ rfl rfl (by k_ne) rfl H.f_relMerge (x_relMerge_n L) (x_relMerge_b L) (x_relMerge_x L) (x_relMerge_f L) (by simp[Act.eval,stA]),20,?_⟩
 walk_nrm
 refine uw M fun w M=>?_;refine Goes.stop (fun w2 h2=>?_);replace M:=xeq M h2;clear h2;refine⟨rfl,_,stepG_mark0 .disable s_ rfl rfl (by k_ne) rfl H.f_disable (x_disable_n L) (x_disable_b L) (x_disable_x L) (x_disable_f L),60,?_⟩
 walk_nrm
 refine uw M fun w M=>?_
 u_defer xeq M
 refine uw M fun w M=>?_
 u_bub xeq M
 u_c stepG_region_end xeq M
 u_cond false xeq M
 refine uw M fun w M=>?_
 u_call H.f_uAdd (nm_uAdd L) uAddFn xeq M
 refine uw M fun w M=>?_;refine Goes.stop (fun w3 h3=>?_);clear h3 M;refine⟨rfl,fun v wt a4 hv hw=>?_⟩;have e0:IntKind.u64.wrap (KK+18446744069414584320)=0:=by decide
 have e1:IntKind.u64.wrap (KK+1+18446744069414584320)=1:=by decide
 rcases Nat.eq_zero_or_pos v with rfl|hvp<;>(obtain rfl|rfl:wt=0\/wt=1:=by omega)
 ·replace hw:WgAt L.tWg Wg w3 KK 0:=by simpa using hw
  have z:((0:Nat):Int)*KK+((0:Nat):Int)=0:=by simp
  rw[z];refine⟨_,(stepG_add_atomic rfl rfl (by k_ne) rfl H.f_addU64 (x_addU64_n L) (x_addU64_b L) (x_addU64_x L) .u64 (x_addU64_f L) rfl rfl hw.cellSt (hw.thaw 0)).trans (by rw[e0];rfl),fun V=>absurd V.2 d_,fun _=>⟨qt+89,?_⟩⟩;clear hw
  walk_nrm
  q_val (.int .u64 0)
  q_c stepG_region_end;q_c stepG_ret'
  q_leave1 H.f_uAdd
  q_val (.int .u64 0)
  q_c stepG_region_end;q_c stepG_seq;q_c stepG_seq;q_reg
  q_val (.int .u64 0)
  q_val (.int .u64 0)
  q_val (.bool false)
  q_val (.bool false)
  q_skip
  q_skip
  q_val (.bool false)
  q_c stepG_region_end
  q_cond false
  q_c stepG_skip;q_c stepG_seq;q_reg
  q_val (.int .u64 0)
  q_val (.int .u64 0)
  q_val (.int .i32 0)
  q_val (.int .i32 0)
  q_c stepG_region_end;q_c stepG_seq;q_reg
  q_val (.int .u64 0)
  q_val (.int .u64 0)
  q_val (.int .u32 0)
  q_val (.int .u32 0)
  q_c stepG_region_end;q_c stepG_seq;q_c stepG_seq;q_reg
  q_val (.bool true)
  q_val (.J (-1))
  q_val (.bool false)
  q_val (.bool false)
  q_val (.bool false)
  q_skip
  q_skip
  q_skip
  q_skip
  q_val (.bool false)
  q_c stepG_region_end
  q_cond false
  q_c stepG_skip;q_c stepG_seq;q_c stepG_seq;q_reg
  q_val (.int .i32 0)
  q_val (.bool false)
  q_c stepG_region_end
  q_cond false
  q_c stepG_skip;q_c stepG_seq;q_c stepG_seq;q_reg
  q_val (.int .u32 0)
  q_val (.bool false)
  q_val (.bool false)
  q_skip
  q_skip
  q_val (.bool false)
  q_val (.bool false)
  q_skip
  q_skip
  q_skip
  q_skip
  q_val (.bool false)
  q_c stepG_region_end
  q_cond false
  q_c stepG_skip;q_c stepG_seq;q_c stepG_seq;q_reg
  q_val (.int .i32 0)
  q_val (.bool false)
  q_val (.bool false)
  q_val (.int .u32 0)
  q_val (.bool true)
  q_val (.bool true)
  q_c stepG_region_end
  q_cond true
  q_c stepG_ret'
  q_enable
  q_leave0 H.f_add
  exact hT
 ·replace hw:WgAt L.tWg Wg w3 (KK+1) 0:=by simpa using hw
  have z:((0:Nat):Int)*KK+((1:Nat):Int)=1:=by simp
  rw[z];refine⟨_,(stepG_add_atomic rfl rfl (by k_ne) rfl H.f_addU64 (x_addU64_n L) (x_addU64_b L) (x_addU64_x L) .u64 (x_addU64_f L) rfl rfl hw.cellSt (hw.thaw 0)).trans (by rw[e1];rfl),fun _=>⟨180,?_⟩,fun V=>absurd ⟨rfl,rfl⟩ V⟩;have M:WgLive L.tWg Wg (w3.setCell (stA Wg) (.int .u64 1)):=⟨_,_,hw.setSt 1⟩
  clear hw
  walk_nrm
  refine uw M fun w M=>?_;u_c stepG_ret' xeq M
  u_leave1 H.f_uAdd xeq M
  refine uw M fun w M=>?_
  u_cond false xeq M
  refine uw M fun w M=>?_
  u_cond false xeq M
  refine uw M fun w M=>?_
  u_cond false xeq M
  refine uw M fun w M=>?_
  u_cond false xeq M
  refine uw M fun w M=>?_
  u_cond false xeq M
  refine uw M fun w M=>?_
  u_call H.f_uLoad (nm_uLoad L) uLoadFn xeq M
  refine uw M fun w M=>?_;refine Goes.stop (fun w4 h4=>?_);clear h4 M;refine⟨rfl,fun hw=>⟨_,stepG_load_atomic (v:=1) rfl rfl (by k_ne) rfl H.f_loadU64 (x_loadU64_n L) (x_loadU64_b L) (x_loadU64_x L) .u64 (x_loadU64_f L) rfl hw.cellSt,60,?_⟩⟩;have M:WgLive L.tWg Wg w4:=⟨_,_,hw⟩
  clear hw
  walk_nrm
  refine uw M fun w M=>?_;u_c stepG_ret' xeq M
  u_leave1 H.f_uLoad xeq M
  refine uw M fun w M=>?_
  u_cond false xeq M
  refine uw M fun w M=>?_
  u_call H.f_uStore (nm_uStore L) uStoreFn xeq M
  refine uw M fun w M=>?_;refine Goes.stop (fun w5 h5=>?_);clear h5 M;refine⟨rfl,fun hw=>⟨_,stepG_store_atomic rfl rfl (by k_ne) rfl H.f_storeU64 (x_storeU64_n L) (x_storeU64_b L) (x_storeU64_x L) (x_storeU64_f L) rfl rfl hw.cellSt (hw.thaw 0),60,?_⟩⟩;have M:WgLive L.tWg Wg (w5.setCell (stA Wg) (.int .u64 0)):=⟨_,_,hw.setSt 0⟩
  clear hw
  walk_nrm
  u_c stepG_region_end xeq M;u_c stepG_end xeq M
  u_leave0 H.f_uStore xeq M
  refine uw M fun w M=>?_
  u_cond false xeq M
  u_c stepG_skip xeq M;u_c stepG_block xeq M;u_c stepG_loop xeq M;refine uw M fun w M=>?_
  u_cond true xeq M
  refine uw M fun w M=>?_;u_c stepG_block xeq M;refine uw M fun w M=>?_;refine Goes.stop (fun w6 h6=>?_);clear h6 M;refine⟨rfl,mayWake_entry rfl rfl H.f_semrelease (x_semrelease_b L),fun hw=>⟨_,(stepG_semrelease rfl rfl (by k_ne) rfl H.f_semrelease (x_semrelease_n L) (x_semrelease_b L) (x_semrelease_x L) (x_semrelease_f L) (by simp[Act.eval,smA]) hw.cellSm (hw.thaw 1)).trans (by rfl),qt+19,?_⟩⟩;clear hw
  walk_nrm
  q_c stepG_region_end;q_c stepG_inBlock;q_reg
  q_val (.int .u32 1)
  q_val (.int .u32 0)
  q_val (.int .u32 0)
  q_c stepG_region_end;q_c stepG_inLoop;q_c stepG_seq;q_c stepG_seq;q_reg
  q_val (.int .u32 0)
  q_val (.bool false)
  q_c stepG_region_end
  q_cond false
  q_exit
  q_c stepG_end
  q_enable
  q_leave0 H.f_add
  exact hT
 ·replace hw:WgAt L.tWg Wg w3 (((v:Nat)+1)*KK+0) 0:=by simpa using hw
  have z:((v:Nat):Int)*KK+((0:Nat):Int)=(v:Int)*KK+0:=by simp
  rw[z];have a3:0<v:=om;have eS:IntKind.u64.wrap (((v:Nat)+1)*KK+0+18446744069414584320)=(v:Int)*KK+0:=by rw[IntKind.wrap_u64];simp only[KK];omega
  obtain⟨S,O⟩:∃S:Int,S=(v:Int)*KK+0:=⟨_,rfl⟩
  rw[<- O]at eS⊢;have a1:S / 4294967296=(v:Int):=by rw[O];simp only[KK];omega
  have a2:0<=S/\S<9223372036854775808:=by rw[O];simp only[KK];omega
  have b1:bits .and .u64 S 2147483648=0:=by rw[O];have:=st_flag v 0 om om;simpa[KK]using this
  have b2:bits .and .u64 S 2147483647=0:=by rw[O];have:=st_waiters v 0 om om;simpa[KK]using this
  clear O z;refine⟨_,(stepG_add_atomic rfl rfl (by k_ne) rfl H.f_addU64 (x_addU64_n L) (x_addU64_b L) (x_addU64_x L) .u64 (x_addU64_f L) rfl rfl hw.cellSt (hw.thaw 0)).trans (by rw[eS];rfl),fun V=>absurd V.1 om,fun _=>⟨qt+89,?_⟩⟩;clear hw
  walk_nrm
  q_vn (.int .u64 S)
  q_c stepG_region_end;q_c stepG_ret'
  q_leave1 H.f_uAdd
  q_vn (.int .u64 S)
  q_c stepG_region_end;q_c stepG_seq;q_c stepG_seq;q_reg
  q_vn (.int .u64 S)
  q_vn (.int .u64 0)
  q_vn (.bool false)
  q_vn (.bool false)
  q_skip
  q_skip
  q_vn (.bool false)
  q_c stepG_region_end
  q_cond false
  q_c stepG_skip;q_c stepG_seq;q_reg
  q_vn (.int .u64 S)
  q_vn (.int .u64 (v:Int))
  q_vn (.int .i32 (v:Int))
  q_vn (.int .i32 (v:Int))
  q_c stepG_region_end;q_c stepG_seq;q_reg
  q_vn (.int .u64 S)
  q_vn (.int .u64 0)
  q_vn (.int .u32 0)
  q_vn (.int .u32 0)
  q_c stepG_region_end;q_c stepG_seq;q_c stepG_seq;q_reg
  q_vn (.bool true)
  q_vn (.J (-1))
  q_vn (.bool false)
  q_vn (.bool false)
  q_vn (.bool false)
  q_skip
  q_skip
  q_skip
  q_skip
  q_vn (.bool false)
  q_c stepG_region_end
  q_cond false
  q_c stepG_skip;q_c stepG_seq;q_c stepG_seq;q_reg
  q_vn (.int .i32 (v:Int))
  q_vn (.bool false)
  q_c stepG_region_end
  q_cond false
  q_c stepG_skip;q_c stepG_seq;q_c stepG_seq;q_reg
  q_vn (.int .u32 0)
  q_vn (.bool false)
  q_vn (.bool false)
  q_skip
  q_skip
  q_vn (.bool false)
  q_vn (.bool false)
  q_skip
  q_skip
  q_skip
  q_skip
  q_vn (.bool false)
  q_c stepG_region_end
  q_cond false
  q_c stepG_skip;q_c stepG_seq;q_c stepG_seq;q_reg
  q_vn (.int .i32 (v:Int))
  q_vn (.bool true)
  q_vn (.bool true)
  q_skip
  q_skip
  q_vn (.bool true)
  q_c stepG_region_end
  q_cond true
  q_c stepG_ret'
  q_enable
  q_leave0 H.f_add
  exact hT
 ·replace hw:WgAt L.tWg Wg w3 (((v:Nat)+1)*KK+1) 0:=by simpa using hw
  have z:((v:Nat):Int)*KK+((1:Nat):Int)=(v:Int)*KK+1:=by simp
  rw[z];have a3:0<v:=om;have eS:IntKind.u64.wrap (((v:Nat)+1)*KK+1+18446744069414584320)=(v:Int)*KK+1:=by rw[IntKind.wrap_u64];simp only[KK];omega
  obtain⟨S,O⟩:∃S:Int,S=(v:Int)*KK+1:=⟨_,rfl⟩
  rw[<- O]at eS⊢;have a1:S / 4294967296=(v:Int):=by rw[O];simp only[KK];omega
  have a2:0<=S/\S<9223372036854775808:=by rw[O];simp only[KK];omega
  have b1:bits .and .u64 S 2147483648=0:=by rw[O];have:=st_flag v 1 om om;simpa[KK]using this
  have b2:bits .and .u64 S 2147483647=1:=by rw[O];have:=st_waiters v 1 om om;simpa[KK]using this
  clear O z;refine⟨_,(stepG_add_atomic rfl rfl (by k_ne) rfl H.f_addU64 (x_addU64_n L) (x_addU64_b L) (x_addU64_x L) .u64 (x_addU64_f L) rfl rfl hw.cellSt (hw.thaw 0)).trans (by rw[eS];rfl),fun V=>absurd V.1 om,fun _=>⟨qt+89,?_⟩⟩;clear hw
  walk_nrm
  q_vn (.int .u64 S)
  q_c stepG_region_end;q_c stepG_ret'
  q_leave1 H.f_uAdd
  q_vn (.int .u64 S)
  q_c stepG_region_end;q_c stepG_seq;q_c stepG_seq;q_reg
  q_vn (.int .u64 S)
  q_vn (.int .u64 0)
  q_vn (.bool false)
  q_vn (.bool false)
  q_skip
  q_skip
  q_vn (.bool false)
  q_c stepG_region_end
  q_cond false
  q_c stepG_skip;q_c stepG_seq;q_reg
  q_vn (.int .u64 S)
  q_vn (.int .u64 (v:Int))
  q_vn (.int .i32 (v:Int))
  q_vn (.int .i32 (v:Int))
  q_c stepG_region_end;q_c stepG_seq;q_reg
  q_vn (.int .u64 S)
  q_vn (.int .u64 1)
  q_vn (.int .u32 1)
  q_vn (.int .u32 1)
  q_c stepG_region_end;q_c stepG_seq;q_c stepG_seq;q_reg
  q_vn (.bool true)
  q_vn (.J (-1))
  q_vn (.bool false)
  q_vn (.bool false)
  q_vn (.bool false)
  q_skip
  q_skip
  q_skip
  q_skip
  q_vn (.bool false)
  q_c stepG_region_end
  q_cond false
  q_c stepG_skip;q_c stepG_seq;q_c stepG_seq;q_reg
  q_vn (.int .i32 (v:Int))
  q_vn (.bool false)
  q_c stepG_region_end
  q_cond false
  q_c stepG_skip;q_c stepG_seq;q_c stepG_seq;q_reg
  q_vn (.int .u32 1)
  q_vn (.bool true)
  q_vn (.bool true)
  q_vn (.J (-1))
  q_vn (.bool false)
  q_vn (.bool false)
  q_vn (.bool false)
  q_skip
  q_skip
  q_skip
  q_skip
  q_vn (.bool false)
  q_c stepG_region_end
  q_cond false
  q_c stepG_skip;q_c stepG_seq;q_c stepG_seq;q_reg
  q_vn (.int .i32 (v:Int))
  q_vn (.bool true)
  q_vn (.bool true)
  q_skip
  q_skip
  q_vn (.bool true)
  q_c stepG_region_end
  q_cond true
  q_c stepG_ret'
  q_enable
  q_leave0 H.f_add
  exact hT
theorem yfg(H:WgLib P L){c:Frame}{qt:Nat}(O:c.mode=.returning)(hT:QuitsD P qt 0 (G c cs))(w:World)(M:WgLive L.tWg Wg w):
 Goes P false (RLv L.tWg Wg) DC0 (AtR0 P L.tWg Wg) 43 (G ((baseD L.done).at ⟨#[w_ Wg 0,undef,undef,undef],[]⟩ [.code (body_done L)]) (c::cs)) w:=by
 lib_facts
 have V:=@yon L Wg;simp only[body_done,body_add,doneFn,addFn,Option.getD_some]at V⊢;refine uw M fun w M=>?_
 u_in xeq M
 refine goes_call rfl rfl (by k_ne) rfl H.f_add (nm_add L) rfl ⟨by u_nil,?_⟩
 walk_nrmf addFn
 refine V (qt:=qt+3) H ?_ _ M;q_c stepG_region_end;q_c stepG_end;exact QuitsD.leaveD rfl rfl H.f_done rfl O hT
end
theorem xtp{a:Array Value}{l l':List Value}(H:a=l.toArray)(h:l++List.replicate n undef=l'):a++Array.replicate n undef=l'.toArray:=by
 subst h;subst H;simp
theorem yyv{L:WgLink}(H:WgLib P L)(x y:Value):Frame.enter P L.add #[x,y] .normal=(base L.add).at ⟨(x::y::List.replicate 115 undef).toArray,[]⟩ [.code (body_add L)]:=by
 rw[enter_at _ H.f_add (show(addFn L).body=some (body_add L) from rfl)];have e:(#[x,y]:Array Value)++Array.replicate ((addFn L).ntmps-(#[x,y]:Array Value).size) undef=(x::y::List.replicate 115 undef).toArray:=xtp (l:=[x,y]) (n:=115) rfl rfl;rw[e]
theorem yqq{L:WgLink}(H:WgLib P L)(x:Value):Frame.enter P L.wait #[x] .normal=(base L.wait).at ⟨(x::List.replicate 83 undef).toArray,[]⟩ [.code (body_wait L)]:=by
 rw[enter_at _ H.f_wait (show(waitFn L).body=some (body_wait L) from rfl)];have e:(#[x]:Array Value)++Array.replicate ((waitFn L).ntmps-(#[x]:Array Value).size) undef=(x::List.replicate 83 undef).toArray:=xtp (l:=[x]) (n:=83) rfl rfl;rw[e]
open Go.Conc Go.Conc.Lib
open Go.ConcR (DC0)
open Go.ConcN (WgLive)
section
variable{r:Rd}{k:List Item}{Stop:Goroutine->Heap->Prop}{tm':List Value}{L:WgLink}{dd:Tmp}{args:List Operand}{pos:String}{Wg:Nat}
def Mj(P:Program)(f:FuncId)(r:Rd)(df:List Deferred)(k:List Item)(cs:List Frame)(ops rest:List Oper)(tm':List Value)(gb:Goroutine):Prop:=
 ∀(M:Md)(Φ':Heap->Prop)(H:Goroutine->Heap->Prop)(h':Heap),RL P M f r df k cs H ops rest tm' Φ'->Φ' h'->Reach P M gb h' H
theorem xn2{H:List Oper}{o:Oper}(e:ops=H++o::rest)(hr:r.round=none)(ht:Cz tm o.dst v=tm'):
 Mj P f r df k cs ops rest tm' (G ((B f r).at (Act.put ⟨tm.toArray,df⟩ ((ops.toArray[H.length]?).bind (·.dst)) v) (.inRegion ops.toArray (List.range' (H.length+1) rest.length)::k)) cs):=by
 intro V Φ' M h' x y;have:=x (H++[o]) (by simp[e]) h' y;rw[xhf e];have e2:(B f r).at (Act.put ⟨tm.toArray,df⟩ ((some o).bind (·.dst)) v) (.inRegion ops.toArray (List.range' (H.length+1) rest.length)::k)=FL f r tm' df (.inRegion ops.toArray (List.range' (H.length+1) rest.length)::k):=by
  subst ht;rw[Oe hr];cases O:o.dst with
  |none=>simp[Act.put,Cz,O]
  |some d=>simp[Act.put,Cz,O]
 rw[e2];simpa using this
theorem xhm{x:Operand}{g:FuncId}{K:Next->Heap->Prop}(M:evl tm x=.func (.func g) #[] #[])(H:args.map (evl tm)=vs)(O:Ao P g=true)(y:K (.enter g vs.toArray) h):
 wpS P (execOp (evl tm) ⟨some dd,.call ⟨.value x,args.toArray,ats⟩,ty,pos,aft,gd⟩) h K:=by
 have:=xuw (P:=P) (tm:=tm) (h:=h) (args:=args) (ats:=ats) (d:=some dd) (ty:=ty) (pos:=pos) (aft:=aft) (gd:=gd) (x:=x) (g:=g) (first:=[]) (cap:=[]) (vs:=vs) (by simpa using M) (by simpa using H) O;refine xex this ?_;rintro n h' ⟨V,e2⟩;subst V;subst e2;simpa using y
theorem ykt[Stb Φ](H:WgLib P L)(hm:Met ops tm ⟨some dd,.call ⟨.value (.func L.add),args.toArray,ats⟩,ty,pos,aft,gd⟩ true)(V:args.map (evl tm)=[w_ Wg 0,.J 1])(hr:r.round=none)
 (hc:Ao P L.add=true)(ht:tm.set dd (.tuple #[])=tm')
 (x:∀ge gb,(∀w,WgLive L.tWg Wg w-> ∃m,Goes P true (RLv L.tWg Wg) DC0 (AtKdS P L.tWg Wg gb) m ge w)->Mj P f r df k cs ops rest tm' gb-> ∀h,Φ h->Reach P md ge h Stop):
 RL P md f r df k cs Stop ops (⟨some dd,.call ⟨.value (.func L.add),args.toArray,ats⟩,ty,pos,aft,gd⟩::rest) tm Φ:=by
 intro M e;rw[xlw];refine xks (xhf e) (xxq hm) xtw (.inr rfl) fun h y=>?_;rw[xbz];refine xhm rfl V hc ?_;refine x _ _ (fun w hw=>?_) (xn2 e hr (by exact ht)) h y;have O:=ywr (cs:=cs) (b₀:=B f r) (a₀:=⟨tm.toArray,df⟩) (ops₀:=ops.toArray) (i₀:=M.length) (rest₀:=List.range' (M.length+1) rest.length) (k₀:=k) H w hw;have e2:(F (B f r) tm.toArray df (.inRegion ops.toArray (M.length::List.range' (M.length+1) rest.length)::k))=(B f r).at ⟨tm.toArray,df⟩ (.inRegion ops.toArray (M.length::List.range' (M.length+1) rest.length)::k):=Oe hr;have e1:([w_ Wg 0,.J 1]:List Value).toArray=#[w_ Wg 0,.J 1]:=rfl;rw[e2,e1,yyv H];exact O
theorem yum[Stb Φ](H:WgLib P L)(hm:Met ops tm ⟨some dd,.call ⟨.value (.func L.wait),args.toArray,ats⟩,ty,pos,aft,gd⟩ true)(a2:args.map (evl tm)=[w_ Wg 0])(hr:r.round=none)
 (hc:Ao P L.wait=true)(ht:tm.set dd (.tuple #[])=tm')
 (x:∀ge gb(V:Goroutine->World->Prop),(∀g w,V g w->g.status=.running)->(∀g w,V g w-> ∃m,Goes P true (RLv L.tWg Wg) DC0 (AtW1 P L.tWg Wg gb V) m g w)->(∀w,WgLive L.tWg Wg w-> ∃m,Goes P true (RLv L.tWg Wg) DC0 (AtKd P L.tWg Wg V) m ge w)->
  (∃l,gb=G (FL f r tm' df (.inRegion ops.toArray l::k)) cs/\l=List.range' (ops.length-rest.length) rest.length)-> ∀h,Φ h->Reach P md ge h Stop):
 RL P md f r df k cs Stop ops (⟨some dd,.call ⟨.value (.func L.wait),args.toArray,ats⟩,ty,pos,aft,gd⟩::rest) tm Φ:=by
 intro M e;rw[xlw];refine xks (xhf e) (xxq hm) xtw (.inr rfl) fun h y=>?_;rw[xbz];refine xhm rfl a2 hc ?_;have e2:(F (B f r) tm.toArray df (.inRegion ops.toArray (M.length::List.range' (M.length+1) rest.length)::k))=(B f r).at ⟨tm.toArray,df⟩ (.inRegion ops.toArray (M.length::List.range' (M.length+1) rest.length)::k):=Oe hr;rw[e2]
 refine x _ (G ((B f r).at (Act.put ⟨tm.toArray,df⟩ ((ops.toArray[M.length]?).bind (·.dst)) (.tuple #[])) (.inRegion ops.toArray (List.range' (M.length+1) rest.length)::k)) cs) (Ni L Wg ((B f r).at ⟨tm.toArray,df⟩ (.inRegion ops.toArray (M.length::List.range' (M.length+1) rest.length)::k)) cs)
  (fun g w⟨T,hg,_⟩=>by rw[hg];rfl) (fun g w hA=>xw8 H g w hA) (fun w hw=>?_) ⟨_,?_,rfl⟩ h y
 ·have O:=xv8 (cs:=cs) (b₀:=B f r) (a₀:=⟨tm.toArray,df⟩) (ops₀:=ops.toArray) (i₀:=M.length) (rest₀:=List.range' (M.length+1) rest.length) (k₀:=k) H w hw;have e1:([w_ Wg 0]:List Value).toArray=#[w_ Wg 0]:=rfl;rw[e1,yqq H];exact O
 ·rw[xhf e];have hl:ops.length-rest.length=M.length+1:=by rw[e];simp;omega
  rw[hl];subst ht;rw[Oe hr];simp[Act.put]
theorem ys3[Stb Φ]{x:Operand}{g:FuncId}{first cap:List Value}(hm:Met ops tm ⟨none,.go ⟨.value x,args.toArray,ats⟩,ty,pos,aft,gd⟩ true)(hx:evl tm x=.func (.func g) first.toArray cap.toArray)(H:args.map (evl tm)=vs)(hr:r.round=none)
 (n:∀O gn,O.status=.running->(∀w,stepG P true O w=.spawn gn (born P {target:=.fn (.func g) cap.toArray,args:=(first++vs).toArray}) w #[])->Mj P f r df k cs ops rest tm gn-> ∀h,Φ h->Reach P md O h Stop):
 RL P md f r df k cs Stop ops (⟨none,.go ⟨.value x,args.toArray,ats⟩,ty,pos,aft,gd⟩::rest) tm Φ:=by
 intro a2 e h y;rw[xlw];have hb:=xn2 (P:=P) (f:=f) (df:=df) (k:=k) (cs:=cs) (tm:=tm) (tm':=tm) e hr (v:=undef) rfl;have M:Act.eval ⟨tm.toArray,df⟩=evl tm:=by
  funext z;rw[<- xbz];cases z<;>rfl
 rw[Oe hr];refine n _ _ rfl (fun w=>?_) hb h y;have hw:=xxq hm;have V:(execOp (Act.eval ⟨tm.toArray,df⟩) ⟨none,.go ⟨.value x,args.toArray,ats⟩,ty,pos,aft,gd⟩).run P w=.ok (.spawn {target:=.fn (.func g) cap.toArray,args:=(first++vs).toArray}) w:=by
  rw[M];unfold execOp;simp[resolve,Deferred.ofValue,hx,H]
 rw[stepG_spawn (f:=.func g) (c:=cap.toArray) (xhf e) (by exact hw) xtw V rfl];have hl:listed P (B f r).fn ⟨tm.toArray,df⟩ ⟨none,.go ⟨.value x,args.toArray,ats⟩,ty,pos,aft,gd⟩ w=#[]:=by
  unfold listed;rw[M];have:(execOp (evl tm) ⟨none,.go ⟨.value x,args.toArray,ats⟩,ty,pos,aft,gd⟩).events P w #[]=#[]:=by
   unfold execOp;simp[resolve,Deferred.ofValue,hx,H]
  rw[this,seen_none]
 rw[hl,xhf e];rfl
end
open Go.Conc Go.Conc.Lib Go.ConcR.Gen
section
variable{Stop:Goroutine->Heap->Prop}{L:WgLink}{Wg:Nat}{tm:Array Value}
theorem xl9{fn:Func}(hf:P.funcs[f]?=some fn)(H:fn.results=#[]):QuitsD P 2 0 (G (FR (B f .dfd) tm [] td) [M8 P]):=by
 refine QuitsD.ctl (g':=G (M8 P) []) rfl (fun w=>?_) ?_
 ·simp[G,stepG,unwind,doReturn,results,FR,B,Rd.kind,Rd.round,M8,hf,H,seen,GStep.after,goexitEntry]
 refine QuitsD.ctl (g':={G (M8 P) []with status:=.finished}) rfl (fun w=>?_) ⟨rfl,rfl⟩;simp[G,stepG,unwind,M8,goexitEntry,Frame.catches];rfl
theorem ykm[Stb Φ](H:WgLib P L){fn:Func}(hf:P.funcs[f]?=some fn)(M:fn.results=#[])
 (x:∀ge,(∀w,WgLive L.tWg Wg w-> ∃m,Goes P false (RLv L.tWg Wg) DC0 (AtR0 P L.tWg Wg) m ge w)-> ∀h,Φ h->Reach P (.own false) ge h Stop):
 RS P (.own false) (G (FR (B f .dfd) tm [dcall L.done #[w_ Wg 0]] td) [M8 P]) Φ Stop:=by
 refine xyc (g':=G ((baseD L.done).at {tmps:=#[w_ Wg 0]++Array.replicate ((doneFn L).ntmps-(#[w_ Wg 0]:Array Value).size) undef,defers:=[]} [.code (body_done L)]) (FR (B f .dfd) tm [] td::[M8 P])) rfl (fun w=>?_) ?_
 ·exact stepG_unwind_enter (b:=B f .dfd) (a:=⟨tm,[dcall L.done #[w_ Wg 0]]⟩) (ds:=[]) (todo:=td) rfl H.f_done (nm_done L) rfl
 ·exact fun h y=>x _ (fun w hw=>⟨43,yfg H rfl (xl9 hf M) w hw⟩) h y
end
def Hp(h:Heap):Ab:=fun b=>h[b]?
theorem xq8:Per (Hp h) h:=fun _ _ e=>e
theorem xgp(k:Av h h'):PLe (Hp h) (Hp h'):=fun b o e=>by
 unfold Hp at e⊢;rw[k.C3 b (Array.getElem?_eq_some_iff.1 e).1];exact e
def HC(h:Heap)(b:Nat)(c:Array Value)(e:TypeId):Prop:=∃z,h[b]?=some (.cells c e z)
theorem HC.C3{h h':Heap}{b:Nat}{c:Array Value}{e:TypeId}(x:HC h b c e)(k:Av h h'):HC h' b c e:=by
 obtain⟨z,H⟩:=x;exact⟨z,(k.C3 b (Array.getElem?_eq_some_iff.1 H).1).trans H⟩
theorem HC.cut{h:Heap}{b:Nat}{c:Array Value}{e:TypeId}{A K:List Nat}(x:HC h b c e)(H:b∉A):HC (Dr A K h) b c e:=by
 obtain⟨z,O⟩:=x;by_cases M:b∈K
 ·exact⟨z,by rw[xwc,O];simp[H,M]⟩
 ·exact⟨(0,c.size),by rw[xwc,O];simp[H,M,Pg]⟩
theorem xag{o:Obj}(O:h[b]?=some o)(H:b∉A)(M:b∈K):(Dr A K h)[b]?=some o:=by rw[xwc,O];simp[H,M]
theorem Exc.of{h:Heap}{b:Nat}{c:Array Value}{e:TypeId}(H:h[b]?=some (.cells c e (0,0)))(hc:0<c.size):Exc h b:=⟨c,e,H,hc⟩
theorem xqh(a:Addr)(n:Nat):(a.add n).block=a.block:=by unfold Addr.add;split<;>rfl
theorem ylj{a:Addr}(O:∀b o,p b=some o->h[b]?=some o)(V:a.block∉A)(x:Aw p a=some v):Aw (Hp (Dr A K h)) a=some v:=by
 unfold Aw at x;split at x
 ·rename_i c t z M;obtain⟨z',H⟩:=HC.cut (A:=A) (K:=K) ⟨z,O _ _ M⟩ V;unfold Aw Hp;rw[H];exact x
 ·cases x
theorem xar{a:Option Addr}{w:Nat}{es:List (List Value)}(s:Sl p a n w es)(M:∀b o,p b=some o->h[b]?=some o)(O:0<n->(adr a).block∉A):Sl (Hp (Dr A K h)) a n w es:=
 ⟨s.len,s.wid,s.ne,fun i e hi j v H=>by
  have hn:0<n:=by have:=(List.getElem?_eq_some_iff.1 hi).1;have:=s.len;omega
  refine ylj M ?_ (s.get i e hi j v H);rw[xqh,xqh];exact O hn⟩
theorem xnc{a:Option Addr}{w:Nat}{es:List (List Value)}(s:Sl p a n w es)(hw:0<w)(M:p b=none)(hn:0<n):(adr a).block≠b:=by
 intro e;have H:0<es.length:=by have:=s.len;omega
 have O:=s.wid es[0] (List.getElem_mem H);have:=s.get 0 es[0] (List.getElem?_eq_getElem H) 0 (es[0][0]'om) (List.getElem?_eq_getElem om);unfold Aw at this;rw[xqh,xqh,e,M]at this;cases this
theorem xgj{a:Nat}(h:a≠b):a∉[b]:=by simpa using h
end Go.X
namespace Go.Proofs
abbrev Tryz.link:Go.Conc.Lib.WgLink:={add:=258,done:=260,wait:=262,relMerge:=290,disable:=291,enable:=292,inBubble:=293,associate:=294,fatal:=295,uOr:=296,uAdd:=297,raceRead:=298,uLoad:=299,uStore:=300,disassociate:=301,semrelease:=302,acquire:=306,isAssociated:=307,uCas:=308,raceWrite:=309,semacquire:=310,orU64:=334,addU64:=335,loadU64:=336,storeU64:=337,casU64:=338,tWgP:=311,tUP:=313,tAssoc:=314,tWg:=291,tAU:=288,tU64:=286,tUint:=235,tU32:=289,tPU32:=318,tPAU:=353,tPU64:=355,tNoCopy:=283,tANoCopy:=284,tAlign64:=285}
theorem Tryz.M4:Go.Conc.Lib.WgLib Tryz.prog Tryz.link:=
 ⟨Tryz.func258,Tryz.func260,Tryz.func262,Tryz.func290,Tryz.func291,Tryz.func292,Tryz.func293,Tryz.func294,Tryz.func295,Tryz.func296,Tryz.func297,Tryz.func298,Tryz.func299,Tryz.func300,Tryz.func301,Tryz.func302,Tryz.func306,Tryz.func307,Tryz.func308,Tryz.func309,Tryz.func310,Tryz.func334,Tryz.func335,Tryz.func336,Tryz.func337,Tryz.func338,Tryz.underlying311,Tryz.runUnderlying311,Tryz.sizeOf311,Tryz.isAgg311,Tryz.zeroValue311,Tryz.underlying313,Tryz.runUnderlying313,Tryz.sizeOf313,Tryz.isAgg313,Tryz.zeroValue313,Tryz.underlying314,Tryz.runUnderlying314,Tryz.sizeOf314,Tryz.isAgg314,Tryz.zeroValue314,Tryz.underlying291,Tryz.runUnderlying291,Tryz.sizeOf291,Tryz.isAgg291,Tryz.zeroValue291,Tryz.underlying288,Tryz.runUnderlying288,Tryz.sizeOf288,Tryz.isAgg288,Tryz.zeroValue288,Tryz.underlying286,Tryz.runUnderlying286,Tryz.sizeOf286,Tryz.isAgg286,Tryz.zeroValue286,Tryz.underlying235,Tryz.runUnderlying235,Tryz.sizeOf235,Tryz.isAgg235,Tryz.zeroValue235,Tryz.underlying289,Tryz.runUnderlying289,Tryz.sizeOf289,Tryz.isAgg289,Tryz.zeroValue289,Tryz.underlying318,Tryz.runUnderlying318,Tryz.sizeOf318,Tryz.isAgg318,Tryz.zeroValue318,Tryz.underlying353,Tryz.runUnderlying353,Tryz.sizeOf353,Tryz.isAgg353,Tryz.zeroValue353,Tryz.underlying355,Tryz.runUnderlying355,Tryz.sizeOf355,Tryz.isAgg355,Tryz.zeroValue355,Tryz.underlying0,Tryz.runUnderlying0,Tryz.sizeOf0,Tryz.isAgg0,Tryz.zeroValue0,Tryz.underlying3,Tryz.runUnderlying3,Tryz.sizeOf3,Tryz.isAgg3,Tryz.zeroValue3,Tryz.underlying4,Tryz.runUnderlying4,Tryz.sizeOf4,Tryz.isAgg4,Tryz.zeroValue4,Tryz.underlying9,Tryz.runUnderlying9,Tryz.sizeOf9,Tryz.isAgg9,Tryz.zeroValue9,Tryz.underlying20,Tryz.runUnderlying20,Tryz.sizeOf20,Tryz.isAgg20,Tryz.zeroValue20,Tryz.underlying21,Tryz.runUnderlying21,Tryz.sizeOf21,Tryz.isAgg21,Tryz.zeroValue21,k_,k_⟩
end Go.Proofs
