/-
  Part of proofs about a town's master: a calculus for Bj beside goroutines that are only leaving, and the Bj. No condition.
-/
import Derived.Test.YtadndcpcjmmngaaGreatDoorYN
set_option maxHeartbeats 1600000
set_option maxRecDepth 20000
set_option synthInstance.maxSize 2000
namespace Go.X
open Go.Conc
open Go.X.Flow (ics)
variable{aft:Array Edge}{ats ats6:Array TypeId}{l:Env}{K K':Env->List Pcs->Prop}{ff:FuncId}{xss:List (List Int)}{es:List (List Value)}{effs todo zz:List Nat}{ops:List Oper}{args args6:List Operand}{L0 LL:List Pcs}{cap first:List Value}{i n:Nat}{x x6:Operand}{d:Option Tmp}{p p':Aa}{P:Program}{ty:TypeId}{QC:Value->Pcs->Prop}{Q:Value->Prop}
theorem Inn.mono{p p':Aa}{es:List (List Value)}{xss:List (List Int)}(x:Inn p es xss [])(H:PLe p p'):Inn p' es xss []:=fun q l h=>x q (H.trans l) h
theorem Inn.Nw{p:Aa}{es:List (List Value)}{xss:List (List Int)}(x:Inn p es xss []):∀u∈es.flatten,Be u=true:=fun u H=>by
 obtain⟨l,r⟩:=x p (.refl p) s_;obtain⟨e,he,H⟩:=List.mem_flatten.1 H;obtain⟨i,hi,rfl⟩:=List.mem_iff_getElem.1 he;obtain⟨a,c,e,_⟩:=r i om;rw[List.getElem?_eq_getElem hi]at e;rw[Option.some.inj e,List.mem_singleton]at H;rw[H];rfl
def Rfs(p:Aa)(a:Option Addr)(n:Nat)(xss:List (List Int)):Prop:=∃es,Sl p a n 1 es/\Inn p es xss []
section
variable{a:Option Addr}
theorem Rfs.len(r:Rfs p a n xss):xss.length=n:=by
 obtain⟨es,s,x⟩:=r;rw[<- (x p (.refl p) s_).1];exact s.len
theorem Rfs.mono(r:Rfs p a n xss)(H:PLe p p'):Rfs p' a n xss:=by
 obtain⟨es,s,x⟩:=r;exact⟨es,Sl.mono H s,x.mono H⟩
theorem Rfs.ne(r:Rfs p a n xss)(h:0<n):a=some (adr a):=by
 obtain⟨es,s,x⟩:=r;exact s.ne h
theorem Rfs.at(r:Rfs p a n xss)(hi:i<n):∃b c,Au p ((adr a).add (i*1))=some (.slice b (xss.getD i []).length c)/\Ar p b (xss.getD i []).length (xss.getD i []):=by
 have H:=r.len;obtain⟨es,s,x⟩:=r;obtain⟨b,c,e,I⟩:=(x p (.refl p) s_).2 i om;exact⟨b,c,Sl.get s i _ e 0 _ rfl,I⟩
end
def Ci(QC:Value->Pcs->Prop)(T:TypeId)(B:Nat)(V:List Value)(H:List Int)(d:Int)(i:Nat)(v:Value)(x:Pcs):Prop:=
 if i=B then Ab T 1 v (ics []) x else if i=B+2 then Ab T 1 v (ics H) x else if i=B+4 then Ab T 1 v (ics [d]) x else if i=B+5 then Ab T 1 v (ics (H++[d])) x else if i=B+6 then QC v x else(v=V.getD i undef/\x=[])
theorem DR.mono{P:Program}{md:Md}{ops:List Oper}{n:Nat}{z9:Heap}{zz:List Nat}{p:Aa}{LF:Pcs}{effs todo:List Nat}{K K':Env->List Pcs->Prop}{l:Env}{LL:List Pcs}(h:DR P md ops n z9 zz p LF effs K todo l LL)(e:∀l LL,K l LL->K' l LL):DR P md ops n z9 zz p LF effs K' todo l LL:=by
 induction h with
 |nil k=>exact .nil (e _ _ k)
 |det ho h nx ih=>exact .det ho h ih
 |pin ho hb h nx ih=>exact .pin ho hb h ih
 |N9 ho he hr h nx ih=>exact .N9 ho he hr h ih
theorem yrt{X:Cx}{k:List Item}{H:Env}{P Q:Value->Pcs->Prop}(e:∀v x,P v x->Q v x)
 (h:DE X k ops (.to fun l' LL'=>(∃v,l'=ent ((ops[i]?).bind (·.dst)) none v H)/\ ∀v,l'=ent ((ops[i]?).bind (·.dst)) none v H->P v LL'.flatten) p LL effs todo l L0):
 DE X k ops (.to fun l' LL'=>(∃v,l'=ent ((ops[i]?).bind (·.dst)) none v H)/\ ∀v,l'=ent ((ops[i]?).bind (·.dst)) none v H->Q v LL'.flatten) p LL effs todo l L0:=
 ⟨h.run.mono fun _ _⟨a,b⟩=>⟨a,fun v z=>e _ _ (b v z)⟩⟩
theorem xj2{X:Cx}{k:List Item}{id:Nat}{sT eT:TypeId}{a8 a7 b9 b6 a6:TypeId}{b3 a9 a5 b4 c6:String}{b8 b5 c4 b0 c5:Array Edge}{d0 d1 d2 d3 d4 d5 d6:Nat}{a:Option Addr}{c:Nat}{H:List Int}{d:Int}(B:Nat)(us:List Nat)(V:List Value)(vs:Value->List Value)
 (I:Ar p a n H)(hn:n<=1000)(v1:V.getD (B+1) undef=.slice a n c)(v3:V.getD (B+3) undef=.J d)(has:∀i∈us,i<B)
 (pu:∀val,∀i,i<B\/i=B+1\/i=B+3->DE X k ops (.to fun l' LL'=>(∃v,l'=ent ((ops[i]?).bind (·.dst)) none v (Gs ops val (B+7) l))/\ ∀v,l'=ent ((ops[i]?).bind (·.dst)) none v (Gs ops val (B+7) l)->v=V.getD i undef/\LL'.flatten=[]) p LL [B,B+2,B+4,B+5,B+6] [i] (Gs ops val (B+7) l) [])
 (c1:∀val,(∀i∈us,val i=V.getD i undef)->D4 (Gs ops val (B+7) l) args6=some ([],vs (val (B+5))))
 (c2:∀u Y,Ab eT 1 u (ics (H++[d])) Y-> ∀h L,St X.z9 X.zz p h (Y++L)->Ac X.P X.md ff (first++(vs u++cap)).toArray h fun v' h'=>∃Z,QC v' (Z++Y)/\New h h' Z)
 (nx:∀(val:Nat->Value)(piece:Nat->Pcs),(∀i,i<B->val i=V.getD i undef)->QC (val (B+6)) (piece (B+6))->RO X k ops (ops.drop (B+7)) (Gs ops val (B+7) l) p (piece (B+6)::LL))
 [hT:Cb X.P sT eT][hs:Ak X.P eT 1][hz:A9 X.P eT (.J 0)][hb:ByC X.P eT 8]
 (h0:ops[B]?=some ⟨some d0,.buildSlice sT 0 #[],a8,b3,b8,none⟩:=by rfl)
 (h2:ops[B+2]?=some ⟨some d2,.call ⟨.builtin .append,#[.tmp d0,.tmp d1],#[sT,sT]⟩,a7,a9,b5,none⟩:=by rfl)
 (h4:ops[B+4]?=some ⟨some d4,.buildSlice sT 1 #[(0,.tmp d3)],b9,a5,c4,none⟩:=by rfl)
 (h5:ops[B+5]?=some ⟨some d5,.call ⟨.builtin .append,#[.tmp d2,.tmp d4],#[sT,sT]⟩,b6,b4,b0,none⟩:=by rfl)
 (h6:ops[B+6]?=some ⟨some d6,.call ⟨.value x6,args6.toArray,ats6⟩,a6,c6,c5,none⟩:=by rfl)
 (lk:∀val:Nat->Value,(evS (Gs ops val (B+7) l) (.tmp d0)=some ([],val B)/\evS (Gs ops val (B+7) l) (.tmp d1)=some ([],val (B+1))/\evS (Gs ops val (B+7) l) (.tmp d2)=some ([],val (B+2))/\evS (Gs ops val (B+7) l) (.tmp d3)=some ([],val (B+3))/\evS (Gs ops val (B+7) l) (.tmp d4)=some ([],val (B+4)))/\evS (Gs ops val (B+7) l) x6=some ([],.func (.func ff) first.toArray cap.toArray):=by exact fun _=>⟨⟨rfl,rfl,rfl,rfl,rfl⟩,rfl⟩)
 (a4:Ao X.P ff=true:=by kernel_rfl)(a2:X.P.follows .mixedOrders=true:=by kernel_rfl)(ok:okD X.n ops=true:=by rfl)(c3:Bu ops (B+7) (clo ops)=true:=by kernel_rfl)(hm:Nat.ble (B+7) ops.length=true:=by kernel_rfl)
 (hk:La ops (B+7) [] (fun i=>bif i==B+2 then [B]else bif i==B+5 then [B+2,B+4]else bif i==B+6 then [B+5]else []) ([B+6]++(List.range (B+4)).filter fun i=>i !=B&&i !=B+2)=true:=by kernel_rfl)
 (a3:Lf ops (B+7) (clo ops) (fun i=>bif i==B+2 then [B,B+1]else bif i==B+4 then [B+3]else bif i==B+5 then [B+2,B+4]else bif i==B+6 then(B+5)::us else [])=true:=by kernel_rfl)(b7:Pa ops (B+7)=true:=by kernel_rfl):
 RE X (.code (.region id ops.toArray true)::k) l p LL:=by
 have q0:∀{v x},Ci QC eT B V H d B v x=Ab eT 1 v (ics []) x:=by intros;simp[Ci]
 have q2:∀{v x},Ci QC eT B V H d (B+2) v x=Ab eT 1 v (ics H) x:=by intros;simp[Ci]
 have q4:∀{v x},Ci QC eT B V H d (B+4) v x=Ab eT 1 v (ics [d]) x:=by intros;simp[Ci]
 have q5:∀{v x},Ci QC eT B V H d (B+5) v x=Ab eT 1 v (ics (H++[d])) x:=by intros;simp[Ci]
 have q6:∀{v x},Ci QC eT B V H d (B+6) v x=QC v x:=by intros;simp[Ci]
 have qp:∀{i v x},i≠B->i≠B+2->i≠B+4->i≠B+5->i≠B+6->Ci QC eT B V H d i v x=(v=V.getD i undef/\x=[]):=by
  intro i v x z0 z2 z4 z5 z6;unfold Ci;rw[if_neg z0,if_neg z2,if_neg z4,if_neg z5,if_neg z6]
 refine xqd (B+7) [B+6] ((List.range (B+4)).filter fun i=>i !=B&&i !=B+2) [B,B+2,B+4,B+5,B+6] (fun i=>bif i==B+2 then [B]else bif i==B+5 then [B+2,B+4]else bif i==B+6 then [B+5]else []) (fun i=>bif i==B+2 then [B,B+1]else bif i==B+4 then [B+3]else bif i==B+5 then [B+2,B+4]else bif i==B+6 then(B+5)::us else [])
  (fun i _ _ v x=>Ci QC eT B V H d i v x) (fun i hi val piece hq=>?_) (fun val piece j hj v x q=>?_) (fun val piece hq=>?_) a2 ok c3 hm hk ?_ a3 b7
 ·obtain⟨⟨k0,k1,k2,k3,k4⟩,k5⟩:=lk val;have hq:∀j,(bif i==B+2 then [B,B+1]else bif i==B+4 then [B+3]else bif i==B+5 then [B+2,B+4]else bif i==B+6 then(B+5)::us else []).contains j=true->Ci QC eT B V H d j (val j) (piece j):=hq;have M:∀{x y:Nat},x≠y->(x==y)=false:=fun h=>beq_false_of_ne h;have O:∀x:Nat,(x==x)=true:=fun x=>beq_self_eq_true x;show DE _ _ _ _ _ _ _ _ _ (List.map piece (bif i==B+2 then [B]else bif i==B+5 then [B+2,B+4]else bif i==B+6 then [B+5]else []));by_cases z0:i=B
  ·subst z0;rw[show(bif i==i+2 then [i]else bif i==i+5 then [i+2,i+4]else bif i==i+6 then [i+5]else [])=[] by rw[M om,M om,M om];rfl];refine xjk (n:=0) (parts:=[]) (vs:=[]) (cells:=#[]) h0 rfl (fun v Y o=>?_) (he:=List.contains_iff_mem.2 s_);rw[h0];exact xjz ⟨⟨_,rfl⟩,fun v' e=>by
    have e':=xqx e;subst e';show Ci QC eT i V H d i _ (Y++[]);rw[List.append_nil,q0];exact o⟩
  by_cases z2:i=B+2
  ·subst z2;have o:Ci QC eT B V H d B (val B) (piece B):=hq B (by rw[O];simp);have e1:Ci QC eT B V H d (B+1) (val (B+1)) (piece (B+1)):=hq (B+1) (by rw[O];simp);rw[qp om om om om om]at e1;rw[q0]at o;rw[show(bif B+2==B+2 then [B]else bif B+2==B+5 then [B+2,B+4]else bif B+2==B+6 then [B+5]else [])=[B] by rw[O];rfl];show DE _ _ _ _ _ _ _ _ _ [piece B];refine xsf (w:=1) h2 k0 (by rw[k1,e1.1,v1]) o I (xtv _) (by have:=I.len;simp[ics];omega) (fun v Y o2=>?_) (he:=List.contains_iff_mem.2 s_);rw[h2];exact xjz ⟨⟨_,rfl⟩,fun v' e=>by
    have e':=xqx e;subst e';show Ci QC eT B V H d (B+2) _ (Y++[]);rw[List.append_nil,q2];exact o2⟩
  by_cases z4:i=B+4
  ·subst z4;have e3:Ci QC eT B V H d (B+3) (val (B+3)) (piece (B+3)):=hq (B+3) (by rw[M om,O];simp);rw[qp om om om om om]at e3;rw[show(bif B+4==B+2 then [B]else bif B+4==B+5 then [B+2,B+4]else bif B+4==B+6 then [B+5]else [])=[] by rw[M om,M om,M om];rfl];refine xjk (n:=1) (parts:=[(0,.tmp d3)]) (vs:=[(0,.J d)]) (cells:=#[.J d]) h4 (by unfold Mp;rw[k3,e3.1,v3];rfl) (fun v Y o=>?_) (he:=List.contains_iff_mem.2 s_);rw[h4];exact xjz ⟨⟨_,rfl⟩,fun v' e=>by
    have e':=xqx e;subst e';show Ci QC eT B V H d (B+4) _ (Y++[]);rw[List.append_nil,q4];exact o⟩
  by_cases z5:i=B+5
  ·subst z5;have o2:Ci QC eT B V H d (B+2) (val (B+2)) (piece (B+2)):=hq (B+2) (by rw[M om,M om,O];simp);have o4:Ci QC eT B V H d (B+4) (val (B+4)) (piece (B+4)):=hq (B+4) (by rw[M om,M om,O];simp);rw[q2]at o2;rw[q4]at o4;rw[show(bif B+5==B+2 then [B]else bif B+5==B+5 then [B+2,B+4]else bif B+5==B+6 then [B+5]else [])=[B+2,B+4] by rw[M om,O];rfl];show DE _ _ _ _ _ _ _ _ _ [piece (B+2),piece (B+4)];refine xk9 h5 k2 k4 o2 o4 (xtv _) (by have:=I.len;simp[ics];omega) (fun v Y o=>?_) (he:=List.contains_iff_mem.2 s_);rw[h5];exact xjz ⟨⟨_,rfl⟩,fun v' e=>by
    have e':=xqx e;subst e';show Ci QC eT B V H d (B+5) _ (Y++[]);rw[List.append_nil,q5];exact o.as (by simp[ics])⟩
  by_cases z6:i=B+6
  ·subst z6;have e5:Ci QC eT B V H d (B+5) (val (B+5)) (piece (B+5)):=hq (B+5) (by rw[M om,M om,M om,O];simp);rw[q5]at e5;rw[show(bif B+6==B+2 then [B]else bif B+6==B+5 then [B+2,B+4]else bif B+6==B+6 then [B+5]else [])=[B+5] by rw[M om,M om,O];rfl];show DE _ _ _ _ _ _ _ _ _ [piece (B+5)];refine ywt (Q:=fun v Z=>QC v (Z++piece (B+5))) (piece (B+5)) h6 k5 (c1 val fun i hi=>?_) (fun h L s=>c2 _ _ e5 h L s) (fun v Z q=>?_) (he:=List.contains_iff_mem.2 s_) (hf:=a4)
   ·have hB:=has i hi;have e:Ci QC eT B V H d i (val i) (piece i):=hq i (by rw[M om,M om,M om,O];simp[hi]);rw[qp om om om om om]at e;exact e.1
   rw[h6];exact xjz ⟨⟨_,rfl⟩,fun v' e=>by
    have e':=xqx e;subst e';show Ci QC eT B V H d (B+6) _ ((Z++piece (B+5))++[]);rw[List.append_nil,q6];exact q⟩
  rw[show(bif i==B+2 then [B]else bif i==B+5 then [B+2,B+4]else bif i==B+6 then [B+5]else [])=[] by rw[M z2,M z5,M z6];rfl];exact yrt (fun v x e=>by show Ci QC eT B V H d i v x;rw[qp z0 z2 z4 z5 z6];exact e) (pu val i om)
 ·have hj:=List.mem_filter.1 hj;have h1:=List.mem_range.1 hj.1;have h2:=hj.2;simp only[Bool.and_eq_true,bne_iff_ne,ne_eq]at h2;have q:Ci QC eT B V H d j v x:=q;rw[qp h2.1 h2.2 om om om]at q;exact q.2
 ·refine nx val piece (fun i hi=>?_) ?_
  ·have q:Ci QC eT B V H d i (val i) (piece i):=hq i om;rw[qp om om om om om]at q;exact q.1
  ·have q:Ci QC eT B V H d (B+6) (val (B+6)) (piece (B+6)):=hq (B+6) om;rwa[q6]at q
 ·rw[List.all_eq_true];intro j hj;have:=List.mem_range.1 (List.mem_filter.1 hj).1;exact decide_eq_true om
theorem xgn{X:Cx}{k:List Item}{m:Ks}{LF:List Pcs}{pos:String}{vs:List Value}(O:ops[i]?=some ⟨d,.call ⟨.value x,args.toArray,ats⟩,ty,pos,aft,none⟩)
 (V:evS l x=some ([],.func (.func ff) first.toArray cap.toArray))(H:D4 l args=some ([],vs))(hc:∀h,Per p h->Ac X.P X.md ff (first++(vs++cap)).toArray h fun v' M=>Q v'/\As h M)(n:∀v,Q v->DE X k ops m p LF effs todo (ent d none v l) ([]::LL))
 (he:effs.contains i=true:=by rfl)(hf:Ao X.P ff=true:=by kernel_rfl):DE X k ops m p LF effs (i::todo) l LL:=
 xsk (Q:=fun v Y=>Q v/\Y=[]) O V H (fun h pe=>(hc h pe).mono fun v M⟨q,k⟩=>⟨[],⟨q,rfl⟩,New.of k⟩) (fun v Y⟨q,e⟩=>by subst e;exact n v q) he hf
abbrev shV(a b:Option Addr)(ca cb:Nat)(s:Shf):Value:=.agg #[.slice a s.Ai.length ca,.slice b s.Af.length cb,.J s.deep,.J s.Cs,.J s.rest]
def sml(v:Value):Prop:=∃n:Int,v=.J n/\ -100000<=n/\n<=100000
def H0(v:Value):Prop:=∃b:Bool,v=.bool b
def stp(s:Shf)(l:List Int):Prop:=l.length<=12/\ ∀i,i<l.length->1<=l.getD i 0/\l.getD i 0<=s.Af.length
end Go.X
namespace Go.X.Cist
variable{w:Int}{ds:List Day}{l:List Int}{i n:Nat}{P:Nat->Int->Prop}{p p':Aa}
abbrev yV(size start:Int)(a:Option Addr)(n c:Nat):Value:=.agg #[.J size,.J start,.slice a n c]
structure YOk(size start:Int)(ds:List Day):Prop where
 z:0<=size/\size<=60
 s:0<=start/\start<=size
 n:ds.length<=8
 d:∀i,i<ds.length->(0<=(ds.getD i dz).lo/\(ds.getD i dz).lo<=(ds.getD i dz).hi/\(ds.getD i dz).hi<=20)/\0<=(ds.getD i dz).want/\(ds.getD i dz).want<=1000
def M8(ds:List Day)(l:List Int):Prop:=l.length=ds.length/\ ∀i,i<l.length->0<=l.getD i 0/\l.getD i 0<=20
def Oe(l:List Int):Prop:=∀i,i<l.length->0<=l.getD i 0/\l.getD i 0<=60
def Oa(ds:List Day)(l:List Int):Prop:=∀i,i<l.length->(0<=l.getD i 0/\l.getD i 0<=1000)/\((ds.getD i dz).want=0->l.getD i 0=0)/\(60<(ds.getD i dz).want->0<l.getD i 0)
theorem Hj{x:Int}(h:∀i,i<l.length->P i (l.getD i 0))(H:P l.length x):∀i,i<(l++[x]).length->P i ((l++[x]).getD i 0):=fun i hi=>by
 rw[List.length_append,List.length_singleton]at hi;rw[List.getD_eq_getElem?_getD];by_cases z:i<l.length
 ·rw[List.getElem?_append_left z,<- List.getD_eq_getElem?_getD];exact h i z
 ·obtain rfl:i=l.length:=om;rw[List.getElem?_append_right (Nat.le_refl _),Nat.sub_self];exact H
def Mo(p:Aa)(ds:List Day)(e:List Value):Prop:=∃a1 c1 M a2 c2 H a3 c3 n,e=[.slice a1 n c1,.slice a2 n c2,.slice a3 n c3]/\n=ds.length/\(Ar p a1 n M/\Oe M)/\Ar p a2 n H/\Oa ds H
theorem Mo.mono{p p':Aa}{ds:List Day}{e:List Value}(s:Mo p ds e)(H:PLe p p'):Mo p' ds e:=by
 obtain⟨a1,c1,l1,a2,c2,l2,a3,c3,n,e,hn,⟨O,h1⟩,M,V⟩:=s;exact⟨a1,c1,l1,a2,c2,l2,a3,c3,n,e,hn,⟨O.mono H,h1⟩,M.mono H,V⟩
def Mt(l:List Int):Prop:=∀i,i<l.length->0<=l.getD i 0/\l.getD i 0<=20
def RfW(ds:List Day)(p:Aa)(a:Option Addr)(n:Nat):Prop:=∃xss,Rfs p a n xss/\ ∀l∈xss,M8 ds l
theorem RfW.at{ds:List Day}{p:Aa}{a:Option Addr}{n i:Nat}(r:RfW ds p a n)(hi:i<n):∃b c l,Au p ((adr a).add (i*1))=some (.slice b (List.length l) c)/\Ar p b l.length l/\M8 ds l:=by
 obtain⟨xss,R,H⟩:=r;obtain⟨b,c,e,I⟩:=R.at hi;exact⟨b,c,_,e,I,H _ (by rw[Flow.A8 (by rw[R.len];exact hi)];exact List.getElem_mem _)⟩
theorem RfW.mono{ds:List Day}{p p':Aa}{a:Option Addr}{n:Nat}(r:RfW ds p a n)(M:PLe p p'):RfW ds p' a n:=by
 obtain⟨xss,R,H⟩:=r;exact⟨xss,R.mono M,H⟩
theorem Ok.yok{size start:Int}{ds:List Day}(h:Ok size start ds):YOk size start ds:=⟨⟨h.1,h.2.1⟩,⟨h.2.2.1,h.2.2.2.1⟩,h.2.2.2.2.1,fun i hi=>by
 have:=h.2.2.2.2.2 i hi;unfold Di at this;omega⟩
theorem YOk.sized{size start:Int}{ds:List Day}(h:YOk size start ds){z:Int}(H:0<=z/\z<=60):YOk z (min start z) ds:=⟨H,by have:=h.s;omega,h.n,h.d⟩
theorem YOk.Fq{size start:Int}(h:YOk size start ds){wf:Nat->Int->Int}(hw:∀i w,i<ds.length->0<=w->w<=1000->0<=wf i w/\wf i w<=1000):YOk size start (Fq wf ds):=⟨h.z,h.s,by rw[A5];exact h.n,fun i hi=>by
 rw[A5]at hi;have d:=h.d i hi;have:=hw i _ hi d.2.1 d.2.2;unfold Cist.Fq;rw[xwz hi,if_pos hi];exact⟨d.1,this⟩⟩
def Kx(p:Aa)(ds:List Day)(a:Option Addr)(n:Nat):Prop:=∃es,Sl p a n 3 es/\ ∀e∈es,Mo p ds e
theorem Kx.at{p:Aa}{ds:List Day}{a:Option Addr}{n i:Nat}(s:Kx p ds a n)(hi:i<n):∃b1 c1 O b2 c2 M,(Au p ((adr a).add (i*3))=some (.slice b1 ds.length c1)/\Ar p b1 ds.length O/\Oe O)/\Au p (((adr a).add (i*3)).add 1)=some (.slice b2 ds.length c2)/\Ar p b2 ds.length M/\Oa ds M:=by
 obtain⟨es,S,H⟩:=s;have hl:=S.len;obtain⟨a1,c1,O,a2,c2,M,a3,c3,n',e,rfl,⟨I1,h1⟩,V,h2⟩:=H es[i] (List.getElem_mem om);have he:es[i]?=some es[i]:=List.getElem?_eq_getElem om;exact⟨a1,c1,O,a2,c2,M,⟨Sl.get S i _ he 0 _ (by rw[e];rfl),I1,h1⟩,Sl.get S i _ he 1 _ (by rw[e];rfl),V,h2⟩
theorem Kx.ne{p:Aa}{ds:List Day}{a:Option Addr}{n:Nat}(s:Kx p ds a n)(h:0<n):a=some (adr a):=by
 obtain⟨es,S,H⟩:=s;exact S.ne h
theorem Kx.mono{p p':Aa}{ds:List Day}{a:Option Addr}{n:Nat}(s:Kx p ds a n)(M:PLe p p'):Kx p' ds a n:=by
 obtain⟨es,S,H⟩:=s;exact⟨es,Sl.mono M S,fun e he=>(H e he).mono M⟩
theorem Do:(B6 ds i w).length=ds.length:=by simp[B6]
theorem Fx{k:Nat}(hi:i<ds.length):(B6 ds i w).getD k dz=if k=i then {ds.getD i dz with want:=w}else ds.getD k dz:=by
 simp only[B6,List.getD_eq_getElem?_getD,List.getElem?_set];by_cases e:i=k
 ·subst e;simp[hi]
 ·simp[e,Ne.symm e]
theorem Ma{wf:Nat->Int->Int}(hi:i<ds.length):((Fq wf ds).getD i dz).want=wf i (ds.getD i dz).want:=by
 unfold Fq;rw[xwz hi,if_pos hi]
theorem YOk.B6{size start:Int}(h:YOk size start ds)(hi:i<ds.length)(hw:0<=w/\w<=1000):YOk size start (B6 ds i w):=⟨h.z,h.s,by rw[Do];exact h.n,fun k H=>by
 rw[Do]at H;rw[Fx hi];split
 ·rename_i e;subst e;exact⟨(h.d k H).1,hw⟩
 ·exact h.d k H⟩
end Go.X.Cist
namespace Go.X
theorem ykn{X:Cx}{k:List Item}{ops:List Oper}{m:Ks}{l:Env}{p:Aa}{LF LL:List Pcs}{effs todo:List Nat}{d:Option Tmp}{ty:TypeId}{pos:String}{aft:Array Edge}{x y:Operand}{i w:Nat}{t e:TypeId}{q c j:Nat}{a:Option Addr}{M:IntKind}(H:ops[i]?=some ⟨d,.slice t x none (some y) none,ty,pos,aft,none⟩)
 (V:evS l x=some ([],.slice a q c))(hy:evS l y=some ([],.int M ((j:Nat):Int)))(O:j<=c)[f:Cb X.P t e][sz:Ak X.P e w]
 (n:DE X k ops m p LF effs todo (ent d none (.slice a j c) l) LL):DE X k ops m p LF effs (i::todo) l LL:=
 xj9 (g:=none) H rfl rfl (fun tm h' _ E _=>by
  have z:=xqw (tm:=tm) (h:=h') (d:=d) (ty:=ty) (pos:=pos) (aft:=aft) (gd:=none) f.h sz.h (xdq E V trivial) (.none 0) (.nat q (xdq E hy trivial)) (Nat.zero_le j) O;rw[xl9,Nat.sub_zero,Nat.sub_zero]at z;exact z) n
end Go.X
namespace Go.X.Flow
open Go.X
variable{x:Int}{d:List Int}{f i n:Nat}{p p':Aa}{t:Tn}
abbrev tnV(a1 a2 a3:Option Addr)(c1 c2 c3:Nat)(t:Tn):Value:=.agg #[.slice a1 t.nH c1,.slice a2 t.nW c2,.slice a3 t.m c3]
def Ke(t:Tn)(d:List Int):Nat->List Int
 |0=>[]
 |k+1=>put (Ke t d k) (t.hs.getD k 0-B9 t d d.length ((k:Nat):Int))
theorem He(t:Tn)(d:List Int):∀k,(Ke t d k).length=k
 |0=>rfl
 |k+1=>by rw[Ke,Fo,He t d k]
theorem Ll{t:Tn}{d:List Int}(v:Vd t)(M:∀i,i<d.length->0<=d.getD i 0/\d.getD i 0<=9)(H:d.length<=12):∀{k:Nat},k<=t.nH-> ∀x∈Ke t d k,-12000<=x/\x<=9
 |0,_,x,hx=>by simp[Ke]at hx
 |k+1,hk,x,hx=>by
   rcases List.mem_cons.1 ((xsd _ _).mem_iff.1 hx)with rfl|hx
   ·have:=v.h k hk;have b:0<=B9 t d d.length ((k:Nat):Int)/\B9 t d d.length ((k:Nat):Int)<=1000*d.length:=B0 fun i hi=>by have:=M i hi;unfold dv;omega
    omega
   ·exact Ll v M H (Nat.le_of_succ_le hk) x hx
def E1(t:Tn)(d:List Int):Int:=min (t.hs.getD (t.wy.getD d.length wz).1.toNat 0-B9 t d d.length (t.wy.getD d.length wz).1) (t.ws.getD (t.wy.getD d.length wz).2.toNat 0-Dh t d d.length (t.wy.getD d.length wz).2)
def dvs(t:Tn):Nat->List Int->List (List Int)
 |0,d=>[d]
 |f+1,d=>(List.range (E1 t d+1).toNat).flatMap fun n:Nat=>dvs t f (d++[(n:Int)])
def dpre(t:Tn)(f:Nat)(d:List Int)(k:Nat):List (List Int):=(List.range k).flatMap fun n:Nat=>dvs t f (d++[(n:Int)])
theorem Gm{k:Nat}:dpre t f d (k+1)=dpre t f d k++dvs t f (d++[(k:Int)]):=by
 unfold dpre;rw[List.range_succ,List.flatMap_append];simp
theorem yod{P k:Nat}(H:∀n:Nat,n<k->(dvs t f (d++[(n:Int)])).length<=P):(dpre t f d k).length<=k*P:=by
 induction k with
 |zero=>simp[dpre]
 |succ k ih=>
   rw[Gm,List.length_append,Nat.succ_mul];have a:=ih fun n hn=>H n om;have b:=H k om;omega
structure Gr(t:Tn)(d:List Int):Prop where
 sm:∀i,i<d.length->0<=d.getD i 0/\d.getD i 0<=9
 hs:∀i,i<t.m->B9 t d d.length (t.wy.getD i wz).1<=t.hs.getD (t.wy.getD i wz).1.toNat 0
 ws:∀i,i<t.m->Dh t d d.length (t.wy.getD i wz).2<=t.ws.getD (t.wy.getD i wz).2.toNat 0
theorem ypk{n:Int}(h:i<d.length):dv (d++[n]) i=dv d i:=by
 unfold dv;rw[List.getD_eq_getElem?_getD,List.getD_eq_getElem?_getD,List.getElem?_append_left h]
theorem yrk{n:Int}:dv (d++[n]) d.length=n:=by
 unfold dv;rw[List.getD_eq_getElem?_getD,List.getElem?_append_right (Nat.le_refl _)];simp
theorem ytk{n:Int}:B9 t (d++[n]) (d.length+1) x=B9 t d d.length x+if(t.wy.getD d.length wz).1=x then n else 0:=by
 unfold B9;rw[sm,yrk,xkx (g:=fun i=>if(t.wy.getD i wz).1=x then dv d i else 0) fun i hi=>by rw[ypk hi]]
theorem ypj{n:Int}:Dh t (d++[n]) (d.length+1) x=Dh t d d.length x+if(t.wy.getD d.length wz).2=x then n else 0:=by
 unfold Dh;rw[sm,yrk,xkx (g:=fun i=>if(t.wy.getD i wz).2=x then dv d i else 0) fun i hi=>by rw[ypk hi]]
theorem Gr.bd{t:Tn}{d:List Int}(D:Gr t d)(x:Int):(0<=B9 t d d.length x/\B9 t d d.length x<=1000*d.length)/\0<=Dh t d d.length x/\Dh t d d.length x<=1000*d.length:=
 have H:∀i,i<d.length->0<=dv d i/\dv d i<=1000:=fun i hi=>by have:=D.sm i hi;unfold dv;omega
 ⟨B0 H,B0 H⟩
theorem Gr.Ea{t:Tn}{d:List Int}(D:Gr t d)(v:Vd t)(h:d.length<t.m):0<=E1 t d/\E1 t d<=9:=by
 have w:=v.wok _ h;have a:=D.hs _ h;have b:=D.ws _ h;have c:=(D.bd (t.wy.getD d.length wz).1).1;have e:=v.h _ w.1.2;unfold E1;omega
theorem Gr.next{t:Tn}{d:List Int}(D:Gr t d)(v:Vd t)(h:d.length<t.m){n:Int}(n0:0<=n)(M:n<=E1 t d):Gr t (d++[n]):=by
 have O:=D.Ea v h;have H:(d++[n]).length=d.length+1:=by simp
 have V:=Int.le_trans M O.2;unfold E1 at M;refine⟨fun i hi=>?_,fun i hi=>?_,fun i hi=>?_⟩
 ·rw[H]at hi;show 0<=dv (d++[n]) i/\dv (d++[n]) i<=9;rcases Nat.lt_or_ge i d.length with z|z
  ·rw[ypk z];exact D.sm i z
  ·obtain rfl:i=d.length:=om;rw[yrk];omega
 ·rw[H,ytk];have:=D.hs i hi;split
  ·rename_i e;rw[<- e]at this⊢;omega
  ·omega
 ·rw[H,ypj];have:=D.ws i hi;split
  ·rename_i e;rw[<- e]at this⊢;omega
  ·omega
theorem Gr.nil{t:Tn}(v:Vd t):Gr t []:=⟨fun i hi=>by simp at hi,fun i hi=>(v.h _ (v.wok i hi).1.2).1,fun i hi=>(v.w _ (v.wok i hi).2.2).1⟩
theorem Hc{t:Tn}(v:Vd t):∀{f:Nat}{d:List Int},Gr t d->d.length+f=t.m->(dvs t f d).length<=10^f
 |0,_,_,_=>Nat.le_refl _
 |f+1,d,D,h=>by
   have H:=D.Ea v om;have:=yod (t:=t) (f:=f) (d:=d) (P:=10^f) (k:=(E1 t d+1).toNat) fun n hn=>Hc v (D.next v om (n:=n) om om) (by simp;omega);have k:(E1 t d+1).toNat*10^f<=10*10^f:=Nat.mul_le_mul_right _ om;rw[Nat.pow_succ];unfold dpre at this;rw[dvs];omega
theorem ynk{t:Tn}(v:Vd t):∀{f:Nat}{d:List Int},Gr t d->d.length+f=t.m-> ∃l,l∈dvs t f d
 |0,d,_,_=>⟨d,List.mem_singleton.2 rfl⟩
 |f+1,d,D,h=>by
   have M:=D.Ea v om;obtain⟨l,H⟩:=ynk v (D.next v om (n:=((0:Nat):Int)) om om) (f:=f) (by simp;omega);exact⟨l,by rw[dvs];exact List.mem_flatMap.2 ⟨0,List.mem_range.2 om,H⟩⟩
theorem Lz{t:Tn}(v:Vd t):∀{f:Nat}{d l:List Int},Gr t d->d.length+f=t.m->l∈dvs t f d->Gr t l/\l.length=t.m
 |0,d,l,D,h,H=>by
   obtain rfl:=List.mem_singleton.1 H;exact⟨D,h⟩
 |f+1,d,l,D,h,H=>by
   have M:=D.Ea v om;rw[dvs]at H;obtain⟨n,hn,H⟩:=List.mem_flatMap.1 H;have hn:=List.mem_range.1 hn;exact Lz v (D.next v om (n:=n) om om) (by simp;omega) H
def RfD(t:Tn)(p:Aa)(a:Option Addr)(n:Nat):Prop:=Rfs p a n (dvs t t.m [])
theorem RfD.mono{t:Tn}{p p':Aa}{a:Option Addr}{n:Nat}(r:RfD t p a n)(H:PLe p p'):RfD t p' a n:=Rfs.mono r H
theorem RfD.pos{t:Tn}{p:Aa}{a:Option Addr}{n:Nat}(r:RfD t p a n)(v:Vd t):0<n:=by
 obtain⟨l,H⟩:=ynk v (Gr.nil v) (f:=t.m) s_;have:=Rfs.len r;have:=List.length_pos_of_mem H;omega
theorem RfD.le{t:Tn}{p:Aa}{a:Option Addr}{n:Nat}(r:RfD t p a n)(v:Vd t)(H:t.m<=12):n<=1000000000000:=by
 have:=Rfs.len r;have h:=Hc v (Gr.nil v) (f:=t.m) s_;have k:10^t.m<=10^12:=Nat.pow_le_pow_right d_ H;omega
theorem RfD.at{t:Tn}{p:Aa}{a:Option Addr}{n i:Nat}(r:RfD t p a n)(v:Vd t)(hi:i<n):∃b c l,Au p ((adr a).add (i*1))=some (.slice b (List.length l) c)/\Ar p b l.length l/\(l∈dvs t t.m []/\l=(dvs t t.m []).getD i [])/\l.length=t.m/\ ∀i,i<l.length->0<=l.getD i 0/\l.getD i 0<=9:=by
 obtain⟨b,c,e,I⟩:=Rfs.at r hi;have H:(dvs t t.m []).getD i []∈dvs t t.m []:=by rw[Flow.A8 (by rw[Rfs.len r];exact hi)];exact List.getElem_mem _
 have M:=Lz v (Gr.nil v) s_ H;exact⟨b,c,_,e,I,⟨H,rfl⟩,M.2,M.1.sm⟩
def RfX(t:Tn)(p:Aa)(a:Option Addr)(n:Nat):Prop:=∃xss,Rfs p a n xss/\ ∀l∈xss,l.length=t.m/\ ∀i,i<l.length->0<=l.getD i 0/\l.getD i 0<=9
theorem RfX.mono{t:Tn}{p p':Aa}{a:Option Addr}{n:Nat}(r:RfX t p a n)(M:PLe p p'):RfX t p' a n:=by
 obtain⟨x,R,H⟩:=r;exact⟨x,R.mono M,H⟩
theorem RfX.at{t:Tn}{p:Aa}{a:Option Addr}{n i:Nat}(r:RfX t p a n)(hi:i<n):∃b c l,Au p ((adr a).add (i*1))=some (.slice b (List.length l) c)/\Ar p b l.length l/\l.length=t.m/\ ∀i,i<l.length->0<=l.getD i 0/\l.getD i 0<=9:=by
 obtain⟨x,R,H⟩:=r;obtain⟨b,c,e,I⟩:=R.at hi;have h:=H (x.getD i []) (by rw[Flow.A8 (by rw[R.len];exact hi)];exact List.getElem_mem _);exact⟨b,c,_,e,I,h.1,h.2⟩
end Go.X.Flow
namespace Go.X
open Go.Conc
theorem yv2{P : Program}{dd : Nat}{f1 f2 : Field}{a b a' b' : Int}(h1 : P.underlying f1.type = some (.int .i64))(h2 : P.underlying f2.type = some (.int .i64))(o1 : f1.offset = 0)(o2 : f2.offset = 1)(m1 : f1.name ≠ "_")(m2 : f2.name ≠ "_")(g1 : Gq P f1.type = some false)(g2 : Gq P f2.type = some false):
 Oi P (dd+1) #[.J a,.J b] #[.J a',.J b'] [f1,f2] (decide (a=a'/\b=b')):=by
 refine⟨m1,_,_,decide (a=a'),fun h K k=>xlz g1 (by rw[o1];rfl) k,fun h K k=>xlz g1 (by rw[o1];rfl) k,fun h K k=>xjv h1 k,?_⟩;by_cases e1:a=a'
 ·refine .inr ⟨decide_eq_true e1,m2,_,_,decide (b=b'),fun h K k=>xlz g2 (by rw[o2];rfl) k,fun h K k=>xlz g2 (by rw[o2];rfl) k,fun h K k=>xjv h2 k,?_⟩;by_cases e2:b=b'
  ·exact .inr ⟨decide_eq_true e2,decide_eq_true ⟨e1,e2⟩⟩
  ·exact .inl ⟨decide_eq_false e2,decide_eq_false fun x=>e2 x.2⟩
 ·exact .inl ⟨decide_eq_false e1,decide_eq_false fun x=>e1 x.1⟩
end Go.X
namespace Go.X.Flow
open Go.X
def HsL(b:Nat)(l:List Int):Prop:=∀i,i<l.length->0<=l.getD i 0/\l.getD i 0<b
theorem HsL.snoc{b:Nat}{l:List Int}(H:HsL b l){x:Int}(M:0<=x/\x<b):HsL b (l++[x]):=fun i hi=>by
 rw[List.length_append,List.length_singleton]at hi;rw[List.getD_eq_getElem?_getD];rcases Nat.lt_or_ge i l.length with z|z
 ·rw[List.getElem?_append_left z,<- List.getD_eq_getElem?_getD];exact H i z
 ·obtain rfl:i=l.length:=om;rw[List.getElem?_append_right (Nat.le_refl _)];simpa using M
def RfH(m b:Nat)(p:Aa)(a:Option Addr)(n:Nat):Prop:=∃xss,Rfs p a n xss/\ ∀l∈xss,l.length=m/\HsL b l
theorem RfH.mono{m b:Nat}{p p':Aa}{a:Option Addr}{n:Nat}(r:RfH m b p a n)(M:PLe p p'):RfH m b p' a n:=by
 obtain⟨x,R,H⟩:=r;exact⟨x,R.mono M,H⟩
theorem RfH.at{m b:Nat}{p:Aa}{a:Option Addr}{n i:Nat}(r:RfH m b p a n)(hi:i<n):∃M c l,Au p ((adr a).add (i*1))=some (.slice M (List.length l) c)/\Ar p M l.length l/\l.length=m/\HsL b l:=by
 obtain⟨x,R,H⟩:=r;obtain⟨M,c,e,I⟩:=R.at hi;have h:=H (x.getD i []) (by rw[Flow.A8 (by rw[R.len];exact hi)];exact List.getElem_mem _);exact⟨M,c,_,e,I,h.1,h.2⟩
end Go.X.Flow
namespace Go.X
def RfS(s:Shf)(p:Aa)(a:Option Addr)(n:Nat):Prop:=∃xss,Rfs p a n xss/\ ∀l∈xss,stp s l
theorem RfS.at{s:Shf}{p:Aa}{a:Option Addr}{n i:Nat}(r:RfS s p a n)(hi:i<n):∃b c l,Au p ((adr a).add (i*1))=some (.slice b (List.length l) c)/\Ar p b l.length l/\stp s l:=by
 obtain⟨xss,R,H⟩:=r;obtain⟨b,c,e,I⟩:=R.at hi;exact⟨b,c,_,e,I,H _ (by rw[Flow.A8 (by rw[R.len];exact hi)];exact List.getElem_mem _)⟩
theorem RfS.ne{s:Shf}{p:Aa}{a:Option Addr}{n:Nat}(r:RfS s p a n)(h:0<n):a=some (adr a):=by
 obtain⟨xss,R,H⟩:=r;exact R.ne h
theorem RfS.mono{s:Shf}{p p':Aa}{a:Option Addr}{n:Nat}(r:RfS s p a n)(M:PLe p p'):RfS s p' a n:=by
 obtain⟨xss,R,H⟩:=r;exact⟨xss,R.mono M,H⟩
theorem ytc{s:Shf}(h:s.ok){d:Nat}:(Fh s d).ok:=⟨h.1,h.2.1,by have:=h.2.2.1;show(s.Af.take d).length<=12;rw[List.length_take];omega,fun x H=>h.2.2.2.1 x (List.mem_of_mem_take H),h.2.2.2.2⟩
theorem yzl{s:Shf}(h:s.ok)(O:s.Af.length<12){x:Int}(H:okF s.Ai.length x):({s with Af:=s.Af++[x]}:Shf).ok:=⟨h.1,h.2.1,by show(s.Af++[x]).length<=12;rw[List.length_append];exact O,fun y M=>(List.mem_append.1 M).elim (h.2.2.2.1 y) fun z=>by rw[List.mem_singleton.1 z];exact H,h.2.2.2.2⟩
end Go.X
namespace Go.Proofs.YtadndcpcjmmngaaGreatDoor
open Go.Proofs.Tryz
open Go.X Go.X.Ms Go.Conc
open Go.X.Flow (ics)
variable{h:Heap}{x y z:Int}{md:Md}{c1 c2 c3 ca cb n:Nat}{b:Option Addr}{p:Aa}
theorem yg0{a:Option Addr}(n c:Nat)(l:List Int)(I:Ar p a n l)(hn:n<=2^40):Kc prog md p 231 #[.slice a n c,.J x] (fun v=>H0 v):=by
 refine xlq func231 fun K=>?_;refine xnq (fun m l'=>∃j:Nat,m=n-j/\l'=[(0,none,.slice a n c),(1,none,.J x),(5,none,.J ((j:Nat):Int))]/\j<=n) ⟨0,rfl,rfl,Nat.zero_le _⟩ sb ?_;rintro _ _ O ⟨j,rfl,rfl,V⟩;refine cq (fun M=>?_) (fun M=>?_)
 ·have H:j<n:=om;refine cq (fun _=>?_) (fun _=>?_)
  ·refine K.q ?_;exact⟨_,rfl⟩
  exact bkq (O _ om ⟨j+1,rfl,rfl,om⟩)
 refine K.q ?_;exact⟨_,rfl⟩
theorem yu3{a:Option Addr}(n c:Nat)(l:List Int)(I:Ar p a n l)(hn:n<=2^40):Kc prog md p 310 #[.slice a n c,.J x,.J y] (fun v=>H0 v):=by
 refine xlq func310 fun K=>?_;refine xnq (fun m l'=>∃j:Nat,m=n-j/\l'=[(0,none,.slice a n c),(1,none,.J x),(2,none,.J y),(7,none,.J ((j:Nat):Int))]/\j<=n) ⟨0,rfl,rfl,Nat.zero_le _⟩ sb ?_;rintro _ _ V ⟨j,rfl,rfl,hj⟩;refine cq (fun H=>?_) (fun H=>?_)
 ·have O:j<n:=om;refine drq [] R21 ?_;refine xaj rfl rfl rfl cf28 ?_;refine ex ?_;refine de_y rfl rfl (xkz rfl rfl sdu sdu (fun M=>⟨⟨by simp at M;omega,om⟩,Sl.ne I om⟩)) ?_;refine de_y rfl rfl (xoz rfl sdu (fun _=>Ar.get I om) (u:=.J (l.getD (((j:Nat):Int)-1).toNat 0))) ?_;refine ex ?_;refine cq (fun _=>?_) (fun _=>?_)
  ·refine K.q ?_;exact⟨_,rfl⟩
  exact bkq (V _ om ⟨j+1,rfl,rfl,om⟩)
 refine K.q ?_;exact⟨_,rfl⟩
theorem ycf{a:Option Addr}(s:Shf)(S:Cz p a b s)(M:s.ok)(i:Nat)(hi:i<s.Af.length)(O:x=(i:Nat)):Dc prog md p 264 #[shV a b ca cb s,.J x] (.agg #[.J (s.rk i).hr,.J (s.rk i).pe,.J (s.rk i).sd,.J (s.rk i).st]):=by
 subst O;have hf:=M.Fm (i:=i) om;have V:=S.f;refine xkq func264 fun K b1=>?_;refine lq fun b2=>?_;refine drq [] R9 ?_;refine de_y rfl rfl (xpc rfl rfl om om (S.r.ne om)) ?_;refine de_y rfl rfl (xlk rfl (S.r.all hf.2.1)) ?_;refine xa ?_;exact K.e rfl (xoq rfl .nil) fun _ H=>⟨rfl,H.kept⟩
theorem yk5{a:Option Addr}(s:Shf)(S:Cz p a b s)(H:s.ok)(i:Nat)(hi:i<s.Af.length):Kc prog md p 225 #[shV a b ca cb s,.J (i:Nat)] (fun v=>(∃n:Int,v=.J n/\0<=n/\n<=300)):=by
 have M:=H.Kz hi;have V:=H.2.2.1;have O:=M7 (i:=i) om H.2.2.2.2.1;unfold okR at M;refine xkq func225 fun K b1=>?_;refine drq [] R8 ?_;refine xaj rfl rfl rfl (ycf s S H i hi rfl) ?_;refine ex ?_;refine K.q ?_;exact⟨_,rfl,om,om⟩
theorem yj5{a:Option Addr}(s:Shf)(S:Cz p a b s)(H:s.ok)(hx:1<=x/\x<=s.Af.length):Kc prog md p 226 #[shV a b ca cb s,.J x] (fun v=>(∃n:Int,v=.J n/\ -1<=n/\n<=300)):=by
 have M:=H.Kz (i:=(x-1).toNat) om;have V:=H.2.2.1;have O:=M7 (i:=x.toNat) om H.2.2.2.2.2.1;rw[show((x.toNat:Nat):Int)=x from om]at O;unfold okR at M;refine xkq func226 fun K b1=>?_;refine drq [] R9 ?_;refine xaj rfl rfl rfl (ycf s S H (x-1).toNat om om) ?_;refine ex ?_;refine K.q ?_;exact⟨_,rfl,om,om⟩
theorem yk4{a:Option Addr}(s:Shf)(S:Cz p a b s)(H:s.ok)(M:1<=x/\x<=s.Af.length):Kc prog md p 263 #[shV a b ca cb s,.J x] (fun v=>H0 v):=by
 have O:=H.2.2.1;refine xkq func263 fun K b1=>?_;refine ax ?_;refine xrx rfl rfl (ycf s S H (x-1).toNat om om) ?_;refine K.q ?_;exact⟨_,rfl⟩
theorem ym4{a:Option Addr}(s:Shf){e:Option Addr}(c:Nat)(l:List Int)(I:Ar p e n l)(hn:n<=2^40):Kc prog md p 261 #[shV a b ca cb s,.slice e n c] (fun v=>H0 v):=by
 refine xkq func261 fun K b1=>?_;refine ckq (yu3 n c l I hn) ?_;rintro _ ⟨q,rfl⟩;refine K.q ?_;exact⟨_,rfl⟩
theorem yp6(x:Int):Kc prog md p 160 #[.J x] (fun v=>H0 v):=by
 refine xlq func160 fun K=>?_;refine cdq cf46 ?_;refine K.q ?_;exact⟨_,rfl⟩
theorem yc1{a:Option Addr}(s:Shf)(S:Cz p a b s)(M:s.ok)(q:Bool):Dc prog md p 159 #[shV a b ca cb s,.bool q] (.J (if q=true then 0 else 1)):=by
 have V:=M.1;have O:=M.2.2.1;refine xkq func159 fun K b1=>?_;refine ax ?_;refine xrx rfl rfl (cf26 s S ⟨om,om⟩) ?_;rw[show Hd s=0 from if_pos M];refine cq (fun H=>?_) (fun _=>?_)
 ·exact(H rfl).elim
 refine cq (fun H=>?_) (fun H=>?_)
 ·refine K.q ?_;rw[if_neg H];rfl
 refine K.q ?_;rw[if_pos (Classical.not_not.1 H)];rfl
theorem yd1{a:Option Addr}(s:Shf)(S:Cz p a b s)(V:s.ok){e:Option Addr}(c:Nat)(l:List Int)(I:Ar p e l.length l)(hl:stp s l):Kc prog md p 158 #[shV a b ca cb s,.slice e l.length c] (fun v=>sml v):=by
 have a3:=V.2.2.1;have a2:=hl.1;refine xkq func158 fun K b2=>?_;refine ax ?_;refine xnq (fun m l'=>∃(j:Nat)(x:Int),m=s.Af.length-j/\l'=[(1,none,.slice e l.length c),(2,none,w_ b2 0),(5,none,.J x),(6,none,.J ((j:Nat):Int))]/\j<=s.Af.length/\0<=x/\x<=300*j) ⟨0,0,rfl,rfl,Nat.zero_le _,om,om⟩ sb ?_;rintro _ _ H ⟨j,x,rfl,rfl,hj,h0,h1⟩;refine cq (fun O=>?_) (fun O=>?_)
 ·refine ax ?_;refine xeg rfl rfl (yk5 s S V j om) ?_;rintro _ ⟨n,rfl,n0,n1⟩;exact bkq (H _ om ⟨j+1,x+n,rfl,rfl,om,om,om⟩)
 clear H;refine ax ?_;refine xnq (fun m l'=>∃(i:Nat)(x:Int),m=l.length-i/\l'=[(1,none,.slice e l.length c),(2,none,w_ b2 0),(5,none,.J x),(7,none,.J ((i:Nat):Int))]/\i<=l.length/\ -i<=x/\x<=3600+300*i) ⟨0,x,rfl,rfl,Nat.zero_le _,om,om⟩ sb ?_;rintro _ _ H ⟨i,x,rfl,rfl,hi,h0,h1⟩;refine cq (fun O=>?_) (fun O=>?_)
 ·have M:i<l.length:=om;refine drq [6] R7 ?_;refine xgn rfl rfl rfl (yj5 s S V (hl.2 i M)) ?_;rintro _ ⟨n,rfl,n0,n1⟩;refine ex ?_;exact bkq (H _ om ⟨i+1,x+n,rfl,rfl,om,om,om⟩)
 refine K.q ?_;exact⟨_,rfl,om,om⟩
theorem yl4{a:Option Addr}(s:Shf)(S:Cz p a b s)(O:s.ok){e:Option Addr}(c:Nat)(l:List Int)(I:Ar p e n l)(hn:n<=2^40):Kc prog md p 262 #[shV a b ca cb s,.slice e n c] (fun v=>sml v):=by
 have a2:=O.2.2.1;refine xkq func262 fun K b2=>?_;refine ax ?_;refine xnq (fun m l'=>∃(j x:Nat),m=s.Af.length-j/\l'=[(1,none,.slice e n c),(2,none,w_ b2 0),(5,none,.J ((x:Nat):Int)),(6,none,.J ((j:Nat):Int))]/\j<=s.Af.length/\x<=j) ⟨0,0,rfl,rfl,Nat.zero_le _,om⟩ sb ?_;rintro _ _ V ⟨j,x,rfl,rfl,hj,h1⟩;refine cq (fun cd=>?_) (fun cd=>?_)
 ·refine ax ?_;refine xnq (fun m l'=>∃(i:Nat),m=j+1-i/\l'=[(1,none,.slice e n c),(2,none,w_ b2 0),(5,none,.J ((x:Nat):Int)),(6,none,.J ((j:Nat):Int)),(7,none,.J ((i:Nat):Int))]/\i<=j+1) ⟨x,rfl,rfl,om⟩ sb ?_;rintro _ _ M ⟨i,rfl,rfl,hi⟩;refine cq (fun ce=>?_) (fun ce=>?_)
  ·refine ax ?_;refine xrx rfl rfl (ycf s S O i om rfl) ?_;refine cq (fun H=>?_) (fun H=>?_)
   ·refine K.q ?_;exact⟨_,rfl,om,om⟩
   exact bkq (M _ om ⟨i+1,rfl,rfl,om⟩)
  refine ckq (yg0 n c l I hn) ?_;rintro _ ⟨q,rfl⟩;refine cq (fun H=>?_) (fun H=>?_)
  ·exact bkq (V _ om ⟨j+1,j+1,rfl,rfl,om,om⟩)
  exact bkq (V _ om ⟨j+1,x,rfl,rfl,om,om⟩)
 refine K.q ?_;exact⟨_,rfl,om,om⟩
theorem yl5{a:Option Addr}(s:Shf)(S:Cz p a b s)(V:s.ok){e:Option Addr}(c:Nat)(l:List Int)(I:Ar p e l.length l)(hl:stp s l):Kc prog md p 224 #[shV a b ca cb s,.slice e l.length c] (fun v=>H0 v):=by
 intro h hp;have a3:=V.2.2.1;have a2:=hl.1;refine xsq hp func224 fun K b2=>?_;refine ax ?_;refine xeg rfl rfl (ym4 s c l I om) ?_;rintro _ ⟨q,rfl⟩;refine ax ?_;refine ynr (fun n:Int=>.J n) rfl rfl rfl sdu (fun h pe=>(yl4 s S V c l I om h pe).mono fun _ _⟨⟨n,e,_⟩,k⟩=>⟨⟨n,e⟩,k⟩) fun n1=>?_;refine cq (fun O=>?_) (fun O=>?_)
 ·refine K.q ?_;exact⟨_,rfl⟩
 refine ax ?_;refine xnq (fun m l'=>∃i:Nat,m=l.length-i/\l'=[(1,none,.slice e l.length c),(2,none,w_ b2 0),(5,none,.J ((i:Nat):Int))]/\i<=l.length) ⟨0,rfl,rfl,Nat.zero_le _⟩ sb ?_;rintro _ _ IH ⟨i,rfl,rfl,hi⟩;refine cq (fun cd=>?_) (fun cd=>?_)
 ·have M:i<l.length:=om;refine drq [5] R6 ?_;refine xgn rfl rfl rfl (yk4 s S V (hl.2 i M)) ?_;rintro _ ⟨n,rfl⟩;refine ex ?_;refine cq (fun O=>?_) (fun O=>?_)
  ·refine K.q ?_;exact⟨_,rfl⟩
  exact bkq (IH _ om ⟨i+1,rfl,rfl,om⟩)
 refine drq [] R18 ?_;refine de_y rfl rfl (xkz rfl rfl sdu sdu (fun H=>⟨⟨by simp at H;omega,om⟩,Sl.ne I (by simp at H;omega)⟩)) ?_;refine de_y rfl rfl (xoz rfl sdu (fun H=>Ar.get I (by simp at H;omega)) (u:=.J (l.getD (((l.length:Nat):Int)-1).toNat 0))) ?_;refine ex ?_;refine K.q ?_;exact⟨_,rfl⟩
open Go.X.Cist (Day Bl dz dcs yV YOk M8 Oe Oa Mo)
theorem ye5(size start:Int){a:Option Addr}(c:Nat)(ds:List Day)(D:Bl p a ds.length ds)(O:YOk size start ds)(cb:Nat)(l:List Int)(I:Ar p b n l)(hl:M8 ds l):Lc prog md p 233 #[yV size start a ds.length c,.slice b n cb] (fun v p'=>∃e,v=.agg e.toArray/\Mo p' ds e):=by
 intro h hp;have b7:=I.len;have hn:n=ds.length:=b7 ▸ hl.1;have h8:=O.n;have Dd:Sl p a ds.length 3 (dcs ds):=D;have hz:=O.z;refine xsq hp func233 fun K b2=>?_;refine lq fun b4=>?_;refine lq fun V=>?_;refine ax ?_;refine xyj 3 1 fun o1=>?_;refine xyj 3 1 fun o2=>?_;refine xyj 3 1 fun o3=>?_
 refine xjq (fun m_ l_ p_ L_=>∃(j:Nat)(x:Int)(v1 v2 v3:Value)(Y1 Y2 Y3:Pcs)(l1 l2 l3:List Int),m_=n-j/\l_=[(1,none,.slice b n cb),(2,none,w_ b2 0),(4,none,w_ b4 0),(5,none,w_ V 0),(6,none,.J x),(7,none,.J ((j:Nat):Int))]/\p_=p/\
  L_=[Y1,Y2,Y3,[(V,.cells #[v1,v2,v3] 199 (0,0))],[(b4,.cells #[.slice none 0 0,.slice none 0 0,.slice none 0 0] 199 (0,0))],[(b2,.cells (yV size start a ds.length c).cells 31 (0,0))]]/\j<=n/\(0<=x/\x<=size)/\
  (l1.length=j/\l2.length=j/\l3.length=j)/\(Ab 3 1 v1 (ics l1) Y1/\Ab 3 1 v2 (ics l2) Y2/\Ab 3 1 v3 (ics l3) Y3)/\Oe l1/\Oa ds l2) ⟨0,start,_,_,_,_,_,_,[],[],[],rfl,rfl,rfl,rfl,Nat.zero_le _,O.s,⟨rfl,rfl,rfl⟩,⟨o1,o2,o3⟩,fun i hi=>by simp at hi,fun i hi=>by simp at hi⟩ sb ?_
 clear o1 o2 o3;rintro _ _ p _ IH ⟨j,x,v1,v2,v3,Y1,Y2,Y3,l1,l2,l3,rfl,rfl,rfl,rfl,hj,hx,⟨e1,e2,e3⟩,⟨o1,o2,o3⟩,q1,q2⟩;refine cq (fun cd=>?_) (fun cd=>?_)
 ·have b8:j<n:=om;have b0:j<ds.length:=om;have hw:=hl.2 j om;have hd:=O.d j b0;have a5:=Go.X.Cist.Bl.want D b0;refine ax ?_;refine ro_y rfl (y_lp rfl a5) ?_;refine ax ?_;refine ro_y rfl (y_lp rfl a5) ?_;refine ax ?_;obtain⟨ov,a9⟩:∃y,y=max 0 (x+l.getD j 0-size):=⟨_,rfl⟩
  obtain⟨lk,a8⟩:∃y,y=max 0 ((ds.getD j dz).want-(x+l.getD j 0-ov)):=⟨_,rfl⟩
  obtain⟨x3,a6⟩:∃y,y=x+l.getD j 0-ov-((ds.getD j dz).want-lk):=⟨_,rfl⟩
  rw[<- a9,<- a8,<- a6];have b3:0<=x3/\x3<=size:=om;have bl:(0<=lk/\lk<=1000)/\((ds.getD j dz).want=0->lk=0)/\(60<(ds.getD j dz).want->0<lk):=⟨om,fun _=>om,fun _=>om⟩
  refine xgx (l':=[(1,none,.slice b n cb),(2,none,w_ b2 0),(4,none,w_ b4 0),(5,none,w_ V 0),(6,none,.J x3),(7,none,.J ((j:Nat):Int)),(8,none,.J ov),(9,none,.J lk)]) ?_ sb;clear a9 a8 a6 a5
  refine ynl (LF:=[[(V,.cells #[v1,v2,v3] 199 (0,0))],[(b4,.cells #[.slice none 0 0,.slice none 0 0,.slice none 0 0] 199 (0,0))],[(b2,.cells (yV size start a ds.length c).cells 31 (0,0))]]) 16 [16,17,18] (fun i=>match i with|16=>Y1|17=>Y2|_=>Y3) [4,9,14] [0,1,2,5,6,7,10,11,12,15] [3,4,8,9,13,14] (fun i=>match i with|4=>[16,3]|9=>[17,8]|14=>[18,13]|_=>[])
   (fun i=>match i with|1=>[0]|3=>[2]|4=>[1,3]|6=>[5]|8=>[7]|9=>[6,8]|11=>[10]|13=>[12]|14=>[11,13]|_=>[])
   (fun i _ _ v x=>match i with
   |0=>v=w_ V 0/\x=[]
   |1=>v=v1/\x=[]
   |2=>v=.J x3/\x=[]
   |3=>Ab 3 1 v (ics [x3]) x
   |4=>Ab 3 1 v (ics (l1++[x3])) x
   |5=>v=w_ V 1/\x=[]
   |6=>v=v2/\x=[]
   |7=>v=.J lk/\x=[]
   |8=>Ab 3 1 v (ics [lk]) x
   |9=>Ab 3 1 v (ics (l2++[lk])) x
   |10=>v=w_ V 2/\x=[]
   |11=>v=v3/\x=[]
   |12=>v=.J ov/\x=[]
   |13=>Ab 3 1 v (ics [ov]) x
   |14=>Ab 3 1 v (ics (l3++[ov])) x
   |15=>v=w_ V 0/\x=[]
   |_=>True) s_ (fun i b6 val piece M hi=>?_) (fun val piece j hj v x q=>?_) (fun val piece M=>?_)
  ·match i,b6 with
   |0,_|2,_=>
     exact det
   |1,_=>
     refine de_y rfl rfl (y_ld (by show some (([]:List Prop),val 0)=_;rw[(M 0 rfl).1]) sdt (b:=V) (off:=0)) ?_;exact det
   |3,_=>
     refine xjk (vs:=[(0,.J x3)]) rfl (by show some [(0,val 2)]=_;rw[(M 2 rfl).1]) fun v Y(o:Ab 3 1 v (ics [x3]) Y)=>?_;exact xjz ⟨⟨_,rfl⟩,fun v' e=>by
      have e':=xqx e;subst e';show Ab _ _ _ _ (Y++[]);rw[List.append_nil];exact o⟩
   |4,_=>
     show DE _ _ _ _ _ _ _ _ _ [piece 16,piece 3];rw[hi 16 s_];refine xk9 rfl (by show some (([]:List Prop),val 1)=_;rw[(M 1 rfl).1]) rfl o1 (M 3 rfl) (xtv _) (by simp[ics];omega) fun v Y o=>?_;exact xjz ⟨⟨_,rfl⟩,fun v' e=>by
      have e':=xqx e;subst e';show Ab _ _ _ _ (Y++[]);rw[List.append_nil];exact o.as (by simp[ics])⟩
   |5,_|7,_=>
     exact det
   |6,_=>
     refine de_y rfl rfl (y_ld (by show some (([]:List Prop),val 5)=_;rw[(M 5 rfl).1]) sdt (b:=V) (off:=1)) ?_;exact det
   |8,_=>
     refine xjk (vs:=[(0,.J lk)]) rfl (by show some [(0,val 7)]=_;rw[(M 7 rfl).1]) fun v Y(o:Ab 3 1 v (ics [lk]) Y)=>?_;exact xjz ⟨⟨_,rfl⟩,fun v' e=>by
      have e':=xqx e;subst e';show Ab _ _ _ _ (Y++[]);rw[List.append_nil];exact o⟩
   |9,_=>
     show DE _ _ _ _ _ _ _ _ _ [piece 17,piece 8];rw[hi 17 s_];refine xk9 rfl (by show some (([]:List Prop),val 6)=_;rw[(M 6 rfl).1]) rfl o2 (M 8 rfl) (xtv _) (by simp[ics];omega) fun v Y o=>?_;exact xjz ⟨⟨_,rfl⟩,fun v' e=>by
      have e':=xqx e;subst e';show Ab _ _ _ _ (Y++[]);rw[List.append_nil];exact o.as (by simp[ics])⟩
   |10,_|12,_=>
     exact det
   |11,_=>
     refine de_y rfl rfl (y_ld (by show some (([]:List Prop),val 10)=_;rw[(M 10 rfl).1]) sdt (b:=V) (off:=2)) ?_;exact det
   |13,_=>
     refine xjk (vs:=[(0,.J ov)]) rfl (by show some [(0,val 12)]=_;rw[(M 12 rfl).1]) fun v Y(o:Ab 3 1 v (ics [ov]) Y)=>?_;exact xjz ⟨⟨_,rfl⟩,fun v' e=>by
      have e':=xqx e;subst e';show Ab _ _ _ _ (Y++[]);rw[List.append_nil];exact o⟩
   |14,_=>
     show DE _ _ _ _ _ _ _ _ _ [piece 18,piece 13];rw[hi 18 s_];refine xk9 rfl (by show some (([]:List Prop),val 11)=_;rw[(M 11 rfl).1]) rfl o3 (M 13 rfl) (xtv _) (by simp[ics];omega) fun v Y o=>?_;exact xjz ⟨⟨_,rfl⟩,fun v' e=>by
      have e':=xqx e;subst e';show Ab _ _ _ _ (Y++[]);rw[List.append_nil];exact o.as (by simp[ics])⟩
   |15,_=>
     exact det
   |n+16,h=>exact absurd h om
  ·simp only[List.mem_cons,List.not_mem_nil,or_false]at hj;rcases hj with rfl|rfl|rfl|rfl|rfl|rfl|rfl|rfl|rfl|rfl<;>exact q.2
  have q4:Ab 3 1 (val 4) (ics (l1++[x3])) (piece 4):=M 4 d_;have q9:Ab 3 1 (val 9) (ics (l2++[lk])) (piece 9):=M 9 d_;have a4:Ab 3 1 (val 14) (ics (l3++[ov])) (piece 14):=M 14 d_;have a7:val 15=w_ V 0:=(M 15 d_).1;obtain⟨d1,k1,w1,-⟩:=q4.val;obtain⟨d2,k2,w2,-⟩:=q9.val;obtain⟨d3,k3,w3,-⟩:=a4.val;refine xkw (l':=[(1,none,.slice b n cb),(2,none,w_ b2 0),(4,none,w_ b4 0),(5,none,w_ V 0),(6,none,.J x3),(7,none,.J ((j:Nat):Int)),(55,none,.slice d1 (ics (l1++[x3])).length k1),(60,none,.slice d2 (ics (l2++[lk])).length k2),(65,none,.slice d3 (ics (l3++[ov])).length k3),(66,none,w_ V 0)]) ?_ ⟨rfl,rfl,rfl,rfl,rfl,rfl,by show some (none,val 4)=_;rw[w1],by show some (none,val 9)=_;rw[w2],by show some (none,val 14)=_;rw[w3],by show some (none,val 15)=_;rw[a7],trivial⟩;show RO _ _ _ _ _ _ [piece 4,piece 9,piece 14,[(V,.cells #[v1,v2,v3] 199 (0,0))],[(b4,_)],[(b2,_)]];rw[w1]at q4;rw[w2]at q9;rw[w3]at a4;clear M a7 w1 w2 w3;exact bkq (IH _ _ _ om ⟨j+1,x3,_,_,_,piece 4,piece 9,piece 14,l1++[x3],l2++[lk],l3++[ov],rfl,rfl,rfl,rfl,om,b3,⟨by simp;omega,by simp;omega,by simp;omega⟩,⟨q4,q9,a4⟩,Go.X.Cist.Hj (P:=fun _ x=>0<=x/\x<=60) q1 ⟨om,om⟩,Go.X.Cist.Hj (P:=fun i x=>(0<=x/\x<=1000)/\((ds.getD i dz).want=0->x=0)/\(60<(ds.getD i dz).want->0<x)) q2 (by rw[e2];exact bl)⟩)
 obtain rfl:j=n:=om;refine xiq o1 (m:=j) (by simp[ics,e1]) d_ fun p1 a1 c1 g1 z1 _ S1=>?_;refine xiq o2 (m:=j) (by simp[ics,e2]) d_ fun p2 a2 c2 g2 z2 _ S2=>?_;refine xiq o3 (m:=j) (by simp[ics,e3]) d_ fun p3 a3 c3 g3 z3 _ S3=>?_;subst z1 z2 z3;refine ax ?_;exact K.e rfl (xoq rfl .nil) fun _ H=>xqq H ((g1.trans g2).trans g3) ⟨_,rfl,a1,c1,l1,a2,c2,l2,a3,c3,j,rfl,hn,⟨Sl.mono (g2.trans g3).le S1,q1⟩,Sl.mono g3.le S2,q2⟩
open Go.X.Cist (Day Bl dz dcs yV YOk M8 Mt RfW)
theorem yf5(size start:Int)(ds:List Day)(O:YOk size start ds):∀(f:Nat)(h:Heap)(p:Aa)(_:Per p h)(a:Option Addr)(c:Nat)(_:Bl p a ds.length ds)(e:Option Addr)(M:Nat)(l:List Int)(_:Ar p e l.length l)(_:Mt l)(_:l.length+f=ds.length),
 Ac prog md 232 #[yV size start a ds.length c,.slice e l.length M] h (Cm p h fun v p'=>∃a n c,v=.slice a n c/\(0<n/\n<=21^f)/\RfW ds p' a n):=by
 intro f
 induction f with
 |zero=>
   intro h p hp a c D e M l I hl hf;refine xsq hp func232 fun K b2=>?_;refine cq (fun cc=>?_) (fun cc=>?_)
   ·refine ax ?_;refine xtx rfl fun v1 Y1 o1=>?_;have o1:Ab 23 1 v1 [[.slice e l.length M]] Y1:=o1;refine ax ?_;refine xiq o1 (m:=1) rfl d_ fun p2 a2 c2 g2 e2 a9 S2=>?_;subst e2;exact K.r rfl rfl fun _ H=>xqq H g2 ⟨a2,1,c2,rfl,⟨d_,d_⟩,[l],⟨_,S2,(Inn.one I).mono g2.le⟩,fun x hx=>by rw[List.mem_singleton.1 hx];exact⟨om,hl⟩⟩
   ·exact absurd om cc
 |succ f ih=>
   intro h p hp a c D e M l I hl hf;have h8:=O.n;have a7:l.length<ds.length:=om;have Dd:Sl p a ds.length 3 (dcs ds):=D;have hd:=O.d _ a7;obtain⟨P,hP⟩:∃P,P=21^f:=⟨_,rfl⟩
   have b8:P*21<=37822859361:=by
    have:=Nat.pow_le_pow_right (show 0<21 by decide) (show f+1<=8 by omega);rw[Nat.pow_succ,<- hP]at this;exact this
   refine xsq hp func232 fun K b2=>?_;refine cq (fun cc=>?_) (fun cc=>?_)
   ·exact absurd cc om
   refine ax ?_;refine ro_y rfl (xlk rfl (Go.X.Cist.Bl.all D a7)) ?_;refine lq fun b6=>?_;refine ax ?_;generalize (ds.getD l.length dz).lo=lo at*;generalize (ds.getD l.length dz).hi=hi at*;generalize (ds.getD l.length dz).want=wa at*;refine xyj 23 1 fun o0=>?_
   refine xjq (fun m_ l_ p_ L_=>∃(j:Nat)(v:Value)(Y:Pcs)(es:List (List Value))(xss:List (List Int)),m_=(hi-lo+1).toNat-j/\l_=[(1,none,.slice e l.length M),(2,none,w_ b2 0),(5,none,v),(6,none,w_ b6 0),(7,none,.J (lo+((j:Nat):Int)))]/\PG h.size [] p p_/\
    L_=[Y,[(b6,.cells #[.J lo,.J hi,.J wa] 48 (0,0))],[(b2,.cells (yV size start a ds.length c).cells 31 (0,0))]]/\(j:Int)<=hi-lo+1/\Ab 23 1 v es Y/\Inn p_ es xss []/\(∀l∈xss,M8 ds l)/\j<=es.length/\es.length<=j*P) ⟨0,_,_,_,[],rfl,by rw[show lo+((0:Nat):Int)=lo by omega],.refl _ _ _,rfl,om,o0,Inn.nil,fun x hx=>by simp at hx,Nat.zero_le _,Nat.zero_le _⟩ sb ?_
   clear o0;rintro _ _ p1 _ IH ⟨j,v,Y,es,xss,rfl,rfl,g1,rfl,hj,o,hI,hH,hn,hm⟩;refine cq (fun cd=>?_) (fun cd=>?_)
   ·have b4:j<=20:=om;have a5:(j+1)*P<=21*P:=Nat.mul_le_mul_right _ om;have b7:(j+1)*P=j*P+P:=Nat.succ_mul j P;have hlen:(l++[lo+((j:Nat):Int)]).length=l.length+1:=by simp
    refine ax ?_;refine xj2 (args6:=[.tmp 33,.tmp 39]) (QC:=fun v Z=>∃a n c,v=.slice a n c/\(0<n/\n<=P)/\ ∀p',PLe p1 p'->(∀y∈Z,p' y.1=some y.2)->RfW ds p' a n) 2 [1] [v,yV size start a ds.length c,undef,.slice e l.length M,undef,.J (lo+((j:Nat):Int))] (fun u=>[yV size start a ds.length c,u]) (I.mono g1.le) om rfl rfl s_ (fun val i hi=>?_) (fun val hv=>by show some ([],[val 1,val 7])=_;rw[hv 1 s_];rfl) (fun u Y o2 h L st=>?_) fun val piece hv q=>?_
    ·obtain rfl|rfl|rfl|rfl:i=0\/i=1\/i=3\/i=5:=om
     all_goals
      exact det
    ·obtain⟨p',⟨g',gl⟩,hy,s'⟩:=st.D6;obtain⟨a2,c2,e2,I2⟩:=o2.inP hy;subst e2;rw[Go.X.Flow.Ae]at I2⊢;refine(ih h p' s'.per a c (Go.X.Cist.Bl.mono (g1.le.trans g'.le) D) a2 c2 _ I2 (Go.X.Cist.Hj (P:=fun _ x=>0<=x/\x<=20) hl ⟨om,om⟩) (by rw[hlen];omega)).mono fun v' h' x=>?_;obtain⟨Z,⟨p2,⟨a3,n3,c3,e3,a8,R3⟩,le⟩,N⟩:=x.pieces;exact⟨Z,⟨a3,n3,c3,e3,by rw[hP];exact a8,fun V l y=>R3.mono (le V (gl V l fun z hz=>y z (List.mem_append_right _ hz)) fun z hz=>y z (List.mem_append_left _ hz))⟩,N⟩
    obtain⟨a3,n3,c3,e3,a8,a6⟩:=q;refine xkw (l':=[(1,none,.slice e l.length M),(2,none,w_ b2 0),(6,none,w_ b6 0),(7,none,.J (lo+((j:Nat):Int))),(32,none,v),(40,none,.slice a3 n3 c3)]) ?_ ⟨rfl,rfl,rfl,rfl,by show some (none,val 0)=_;rw[hv 0 om];rfl,by show some (none,val 8)=_;rw[e3],trivial⟩;refine xaw (piece 8) fun p3 g3 hy=>?_;obtain⟨b3,⟨b9,S3,a4⟩,b0⟩:=a6 p3 g3.le hy;refine ax ?_;refine xmw rfl rfl o S3 a4.Nw om fun v4 Y4 o4=>?_;refine ax ?_;rw[show lo+((j:Nat):Int)+1=lo+((j+1:Nat):Int) from om];have a6:=S3.len;exact bkq (IH _ _ _ om ⟨j+1,v4,Y4,_,xss++b3,rfl,rfl,g1.trans g3,rfl,om,o4,(hI.mono g3.le).app a4,fun x hx=>(List.mem_append.1 hx).elim (hH x) (b0 x),by rw[List.length_append];omega,by rw[List.length_append];omega⟩)
   have ej:((j:Nat):Int)=hi-lo+1:=om;have b5:j<=21:=om;have a5:j*P<=21*P:=Nat.mul_le_mul_right _ om;refine ax ?_;refine xiq o (m:=es.length) rfl d_ fun p2 a2 c2 g2 e2 a9 S2=>?_;subst e2;exact K.r rfl rfl fun _ H=>xqq H (g1.trans g2) ⟨a2,_,c2,rfl,⟨om,by rw[Nat.pow_succ,<- hP];omega⟩,xss,⟨es,S2,hI.mono g2.le⟩,hH⟩
open Go.X.Cist (Day Bl dz dcs yV YOk M8 Mt RfW Fq Hl Ft Hf Bt Aj)
variable{ds:List Day}
theorem yh5(hp:Per p h){a:Option Addr}(n c:Nat)(l:List Int)(I:Ar p a n l)(hn:n<=1000)(hl:∀i,i<l.length->0<=l.getD i 0/\l.getD i 0<=1000):
 Ac prog md 229 #[.slice a n c,.J ((n:Nat):Int)] h fun v h'=>(∃x,v=.J x/\0<=x/\((∀i,i<n->l.getD i 0=0)->x=0)/\ ∀i,i<n->0<l.getD i 0->0<x)/\As h h':=by
 have a2:=I.len;refine xxx hp func229 fun K=>?_;refine xnq (fun m l'=>∃(j:Nat)(x:Int),m=n-j/\l'=[(0,none,.slice a n c),(1,none,.J ((n:Nat):Int)),(5,none,.J x),(6,none,.J ((j:Nat):Int))]/\j<=n/\0<=x/\x<=1000*j/\((∀i,i<j->l.getD i 0=0)->x=0)/\ ∀i,i<j->0<l.getD i 0->0<x) ⟨0,0,rfl,rfl,Nat.zero_le _,om,om,fun _=>rfl,fun i hi=>om⟩ sb ?_;rintro _ _ IH ⟨j,x,rfl,rfl,hj,O,h1,H,M⟩;refine cq (fun V=>?_) (fun V=>?_)
 ·have a3:j<n:=om;have hx:=hl j om;exact bkq (IH _ om ⟨j+1,x+l.getD j 0,rfl,rfl,om,om,om,fun z=>by
   have:=H fun i hi=>z i om;have:=z j om;omega,fun i hi z=>by
   by_cases e:i<j
   ·have:=M i e z;omega
   ·obtain rfl:i=j:=om;omega⟩)
 obtain rfl:j=n:=om;refine K.q ?_;exact⟨x,rfl,O,H,M⟩
theorem yy0:Dc prog md p 181 #[.agg #[.J x,.J y],.J z] (.agg #[.J (min x z),.J (max y z)]):=by
 refine xkq func181 fun K b1=>?_;refine lq fun b2=>?_;refine ax ?_;exact K.e rfl (xoq rfl .nil) fun _ H=>⟨rfl,H.kept⟩
theorem yrn{size start:Int}{a:Option Addr}{c:Nat}(hn:n<=1000):Dc prog md p 173 #[yV size start a n c,.J x] (.bool (decide (0<=x/\x<=((n:Nat):Int)-1))):=by
 refine xkq func173 fun K b1=>?_;refine cdq cf23 ?_;exact K.q rfl
theorem ysn{size start:Int}{a:Option Addr}{c:Nat}(D:Bl p a n ds)(O:Go.X.Cist.Ok size start ds){q:Bool}:Dc prog md p 172 #[yV size start a n c,.bool q] (.J (if q=true then 0 else 1)):=by
 have M:=D.len;have V:=O.yok.n;refine xkq func172 fun K b1=>?_;refine ax ?_;refine xrx rfl rfl (cf13 _ _ _ _ D om) ?_;rw[Go.X.Cist.A7.2 O];refine cq (fun H=>?_) (fun _=>?_)
 ·exact(H rfl).elim
 refine cq (fun H=>?_) (fun H=>?_)
 ·refine K.q ?_;rw[if_neg H];rfl
 refine K.q ?_;rw[if_pos (Classical.not_not.1 H)];rfl
theorem yj6(size start:Int){a:Option Addr}(n c:Nat)(ds:List Day)(D:Bl p a n ds)(hn:n<=2^20):Lc prog md p 170 #[yV size start a n c,.J z] (fun v p'=>∃a c,v=yV z (min start z) a n c/\Bl p' a n ds):=by
 refine xkq func170 fun K b2=>?_;refine lq fun b4=>?_;refine coq (cf37 D hn) ?_;rintro _ Y ⟨a1,c1,rfl,o⟩;refine lq fun b5=>?_;refine ax ?_;refine xpv [6] R7 b5 ?_;refine xa ?_;refine xiq o (m:=n) (by rw[Aj,D.len]) d_ fun p1 a2 c2 M V a3 O=>?_;cases V;exact K.e rfl (xoq rfl .nil) fun _ H=>xqq H M ⟨a1,c1,rfl,O⟩
theorem yh6(size start:Int){a:Option Addr}(c:Nat)(ds:List Day)(D:Bl p a ds.length ds)(O:YOk size start ds)(i:Nat)(hi:i<ds.length)(z:Int)(hz:0<=z/\z<=1000000):Lc prog md p 174 #[yV size start a ds.length c,.J ((i:Nat):Int),.J z] (fun v p'=>∃a c,v=yV size start a ds.length c/\Bl p' a ds.length (Go.X.Cist.B6 ds i ((ds.getD i dz).want+z))):=by
 have h8:=O.n;have hw:=O.d i hi;have M:(dcs ds)[i]?=some [.J (ds.getD i dz).lo,.J (ds.getD i dz).hi,.J (ds.getD i dz).want]:=by
  have:=Ft (wf:=fun _ w=>w) (ds:=ds) (k:=0) om;rw[Go.X.Cist.K1 hi];rfl
 refine xkq func174 fun K b3=>?_;refine lq fun b6=>?_;refine ax ?_;refine xeb rfl rfl (cf37 D om) ?_;rintro _ Y ⟨a1,c1,rfl,o⟩;refine lq fun b7=>?_;refine ax ?_;refine ro_y rfl (xfb rfl rfl o (by rw[Aj];exact hi) (i:=i)) ?_;refine ax ?_;refine xbh (j:=2) rfl o rfl M rfl ?_;refine ax ?_;refine ro_y rfl (xfb rfl rfl o (by rw[Aj];exact hi) (i:=i)) ?_;refine ax ?_;refine xck (j:=2) rfl rfl o rfl rfl rfl rfl M (Nat.le_refl _) fun Y2 V=>?_;have V:=V.as (show _=dcs (Go.X.Cist.B6 ds i ((ds.getD i dz).want+z)) from Go.X.Cist.Lq);refine ax ?_;refine xiq V (m:=ds.length) (by rw[Aj];simp[Go.X.Cist.B6]) d_ fun p1 a2 c2 g1 e1 a3 S1=>?_;cases e1;exact K.e rfl (xoq rfl .nil) fun _ H=>xqq H g1 ⟨a1,c1,rfl,S1⟩
theorem yi6(size start:Int){a:Option Addr}(c:Nat)(ds:List Day)(D:Bl p a ds.length ds)(h8:ds.length<=8){r:Int}:Lc prog md p 171 #[yV size start a ds.length c,.J r] (fun v p'=>∃a c,v=yV size start a ds.length c/\Bl p' a ds.length (Fq (fun _ w=>min r w) ds)):=by
 refine xkq func171 fun K b2=>?_;refine lq fun b4=>?_;refine ax ?_;refine xeb rfl rfl (cf37 D om) ?_;rintro _ Y ⟨a1,c1,rfl,o⟩;refine lq fun b5=>?_;refine ax ?_
 refine xjq (fun m_ l p_ L_=>∃(k:Nat)(Y:Pcs),m_=ds.length-k/\l=[(1,none,.J r),(4,none,w_ b4 0),(5,none,w_ b5 0),(6,none,.J ((k:Nat):Int))]/\p_=p/\
  L_=[[(b5,.cells (yV size start a1 ds.length c1).cells 31 (0,0))],Y,[(b4,.cells (yV 0 0 none 0 0).cells 31 (0,0))],[(b2,.cells (yV size start a ds.length c).cells 31 (0,0))]]/\k<=ds.length/\Ab 48 3 (.slice a1 ds.length c1) (dcs (Hl (fun _ w=>min r w) ds k)) Y) ⟨0,Y,rfl,rfl,rfl,rfl,Nat.zero_le _,o.as (by rw[Go.X.Cist.Ho])⟩ sb ?_
 clear o;rintro _ _ p _ IH ⟨k,Y,rfl,rfl,rfl,rfl,hk,M⟩;have O:(dcs (Hl (fun _ w=>min r w) ds k)).length=ds.length:=by rw[Aj,Bt]
 refine cq (fun cc=>?_) (fun cc=>?_)
 ·refine drq [] R11 ?_;refine de_y rfl rfl (xxv rfl rfl sdt sdt M om) ?_;refine ex ?_;refine de_y rfl rfl (xcb rfl sdt M rfl (Ft om) rfl (q:=2)) ?_;refine xa ?_;refine ro_y rfl (xfb rfl rfl M om) ?_;refine ax ?_;refine xck (j:=2) rfl rfl M rfl rfl rfl rfl (Ft om) (Nat.le_refl _) fun Y3 V=>?_;have V:=V.as (show _=dcs (Hl (fun _ w=>min r w) ds (k+1)) from Hf om);exact bkq (IH _ _ _ om ⟨k+1,Y3,rfl,rfl,rfl,rfl,om,V⟩)
 have e:k=ds.length:=om;refine ax ?_;refine xiq M (m:=ds.length) O d_ fun p1 a2 c2 g1 e1 a3 S1=>?_;cases e1;exact K.e rfl (xoq rfl .nil) fun _ H=>xqq H g1 ⟨a1,c1,rfl,by rw[e]at S1;exact S1⟩
open Go.X.Cist (Day Bl dz dcs yV YOk M8 Mt RfW Mo Kx Oe Oa Fq)
theorem yqn(size start:Int){a:Option Addr}(c:Nat)(ds:List Day)(D:Bl p a ds.length ds)(O:YOk size start ds):Lc prog md p 180 #[yV size start a ds.length c] (fun v p'=>∃a n c,v=.slice a n c/\(0<n/\n<=37822859361)/\Kx p' ds a n):=by
 intro h hp;have h8:=O.n;have b5:21^ds.length<=21^8:=Nat.pow_le_pow_right d_ h8;have b4:(21:Nat)^8=37822859361:=by decide
 refine xsq hp func180 fun K b1=>?_;refine ax ?_;refine xwv rfl rfl (fun h pe=>yf5 size start ds O ds.length h _ pe a c D none 0 [] (Sl.nil _ _ _) (fun i hi=>by simp at hi) s_) ?_;rintro _ p1 g1 ⟨a1,n1,c1,rfl,b7,b3,⟨a7,S1,a9⟩,a8⟩;refine ax ?_;refine xyj 199 3 fun o0=>?_
 refine xjq (fun m_ l_ p_ L_=>∃(j:Nat)(v:Value)(Y:Pcs)(es:List (List Value)),m_=n1-j/\l_=[(1,none,w_ b1 0),(3,none,.slice a1 n1 c1),(4,none,v),(5,none,.J ((j:Nat):Int))]/\PG h.size [] p p_/\PLe p1 p_/\
  L_=[Y,[(b1,.cells (yV size start a ds.length c).cells 31 (0,0))]]/\j<=n1/\Ab 199 3 v es Y/\(∀e∈es,Mo p_ ds e)/\es.length=j) ⟨0,_,_,_,rfl,rfl,g1,.refl _,rfl,Nat.zero_le _,o0,fun e he=>by simp at he,rfl⟩ sb ?_
 clear o0;rintro _ _ p2 _ IH ⟨j,v,Y,es,rfl,rfl,g2,l2,rfl,hj,o,hS,hl⟩;have S2:=Sl.mono l2 S1;refine cq (fun cd=>?_) (fun cd=>?_)
 ·have b0:j<n1:=om;obtain⟨b,cb,l,hc,I,hR⟩:=RfW.at ⟨b3,⟨a7,S2,a9.mono l2⟩,a8⟩ b0;refine drq [6,7] R8 ?_;refine de_y rfl rfl (y_lp rfl hc) ?_;refine ex ?_
  refine xsk (first:=[]) (cap:=[]) (vs:=[yV size start a ds.length c,.slice b l.length cb]) (Q:=fun v Y=>∃a1 k1 a2 k2 a3 k3,v=.agg #[.slice a1 ds.length k1,.slice a2 ds.length k2,.slice a3 ds.length k3]/\ ∀p',PLe p2 p'->(∀y∈Y,p' y.1=some y.2)->Mo p' ds [.slice a1 ds.length k1,.slice a2 ds.length k2,.slice a3 ds.length k3]) rfl rfl rfl
   (fun h pe=>(ye5 size start c ds (Go.X.Cist.Bl.mono g2.le D) O cb l I hR h pe).mono fun v h' x=>by
    obtain⟨Z,⟨p3,⟨e,e1,st⟩,le⟩,N⟩:=x.pieces;obtain⟨a1,k1,l1,a2,k2,l2,a3,k3,n',rfl,rfl,q1,q2⟩:=st;exact⟨Z,⟨a1,k1,a2,k2,a3,k3,e1,fun p' l y=>Mo.mono ⟨a1,k1,l1,a2,k2,l2,a3,k3,_,rfl,rfl,q1,q2⟩ (le p' l y)⟩,N⟩) fun v1 Z q=>?_
  obtain⟨a4,k4,a5,k5,a6,k6,rfl,M⟩:=q;refine ex ?_;refine xjk rfl rfl fun v2 Y2 o2=>?_;have o2:Ab 199 3 v2 [[.slice a4 ds.length k4,.slice a5 ds.length k5,.slice a6 ds.length k6]] Y2:=o2;refine ex ?_;refine xaw Z fun p3 V hy=>?_;have M:=M p3 V.le hy;refine xbv rfl rfl o o2 (by simp[Be]) (by simp;omega) fun v4 Y4 o4=>?_;exact bkq (IH _ _ _ om ⟨j+1,v4,Y4,_,rfl,rfl,g2.trans V,l2.trans V.le,rfl,om,o4,fun e he=>(List.mem_append.1 he).elim (fun z=>(hS e z).mono V.le) fun z=>by rw[List.mem_singleton.1 z];exact M,by simp;omega⟩)
 obtain rfl:j=n1:=om;refine xiq o (m:=j) hl d_ fun p3 a3 c3 V e3 b6 S3=>?_;subst e3;refine ax ?_;exact K.r rfl rfl fun _ H=>xqq H (g2.trans V) ⟨a3,j,c3,rfl,om,es,S3,fun e he=>(hS e he).mono V.le⟩
theorem ytn(size start:Int){a:Option Addr}(c:Nat)(ds:List Day)(D:Bl p a ds.length ds)(O:YOk size start ds):Kc prog md p 169 #[yV size start a ds.length c] (fun v=>(∃q:Bool,v=.bool q/\((∀i,i<ds.length->(ds.getD i dz).want=0)->q=true)/\ ∀i,i<ds.length->60<(ds.getD i dz).want->q=false)):=by
 intro h hp;have h8:=O.n;refine xsq hp func169 fun K b1=>?_;refine cpq (yqn size start c ds D O) ?_;rintro _ p1 g1 ⟨a1,H,c1,rfl,a7,V,S1,H1⟩;refine ax ?_;refine xnq (fun m l'=>∃(j:Nat),m=H-j/\l'=[(1,none,w_ b1 0),(3,none,.slice a1 H c1),(4,none,.J ((j:Nat):Int))]/\j<=H/\(0<j-> ∀i,i<ds.length-> ¬ 60<(ds.getD i dz).want)) ⟨0,rfl,rfl,Nat.zero_le _,fun z=>om⟩ sb ?_;rintro _ _ IH ⟨j,rfl,rfl,hj,hw⟩;refine cq (fun cd=>?_) (fun cd=>?_)
 ·have a3:j<H:=om;obtain⟨a6,k1,l1,a4,k2,l2,-,a2,I2,M⟩:=Kx.at ⟨V,S1,H1⟩ a3;have a5:=I2.len;refine drq [] R8 ?_;refine de_y rfl rfl (y_lp rfl a2) ?_;refine xa ?_;refine xeg rfl rfl (fun h pe=>yh5 pe ds.length k2 l2 I2 om fun i hi=>(M i hi).1) ?_;rintro _ ⟨x,rfl,x0,x1,x2⟩;refine cq (fun ce=>?_) (fun ce=>?_)
  ·refine K.q ?_;exact⟨false,rfl,fun z=>by
    have:=x1 fun i hi=>(M i om).2.1 (z i hi);omega,fun _ _ _=>rfl⟩
  exact bkq (IH _ om ⟨j+1,rfl,rfl,om,fun _ i hi z=>by
   have:=x2 i hi ((M i om).2.2 z);omega⟩)
 refine K.q ?_;exact⟨true,rfl,fun _=>rfl,fun i hi z=>absurd z (hw om i hi)⟩
theorem yk6(size start:Int){a:Option Addr}(c:Nat)(ds:List Day)(D:Bl p a ds.length ds)(O:Go.X.Cist.Ok size start ds)(i:Nat)(hi:i<ds.length):Kc prog md p 168 #[yV size start a ds.length c,.J ((i:Nat):Int)] (fun v=>(∃x y:Int,v=.tuple #[.agg #[.J x,.J y],.J 0])):=by
 have h8:=O.yok.n;refine xkq func168 fun K b2=>?_;refine lq fun b4=>?_;refine drq [] R4 ?_;refine xaj rfl rfl rfl (yrn om) ?_;refine xa ?_;refine cdq (ysn D O) ?_;rw[show decide (0<=((i:Nat):Int)/\((i:Nat):Int)<=((ds.length:Nat):Int)-1)=true from decide_eq_true ⟨om,om⟩];refine cq (fun cc=>?_) (fun _=>?_)
 ·exact(cc rfl).elim
 refine cpq (yqn size start c ds D O.yok) ?_;rintro _ p1 g1 ⟨a1,n1,c1,rfl,a4,V,S1,H1⟩;obtain⟨a3,k1,l1,a2,k2,l2,-,M,I2,q2⟩:=Kx.at ⟨V,S1,H1⟩ a4.1;refine drq [15] R16 ?_;refine de_y rfl rfl (y_lp rfl M) ?_;refine ex ?_;refine de_y rfl rfl (y_lp rfl M) ?_;refine ex ?_;refine xph rfl fun b8=>?_;refine xa ?_
 refine xjq (fun m_ l_ p_ L_=>∃(j:Nat)(x y:Int),m_=n1-j/\l_=[(1,none,.J ((i:Nat):Int)),(4,none,w_ b4 0),(7,none,.slice a1 n1 c1),(8,none,w_ b8 0),(9,none,.J ((j:Nat):Int))]/\p_=p1/\
  L_=[[(b8,.cells #[.J x,.J y] 45 (0,0))],[(b4,.cells #[.J 0,.J 0] 45 (0,0))],[(b2,.cells (yV size start a ds.length c).cells 31 (0,0))]]/\j<=n1) ⟨0,_,_,rfl,rfl,rfl,rfl,Nat.zero_le _⟩ sb ?_
 rintro _ _ p1 _ IH ⟨j,x,y,rfl,rfl,rfl,rfl,hj⟩;refine cq (fun cd=>?_) (fun cd=>?_)
 ·have a5:j<n1:=om;obtain⟨a3,k1,l1,a2,k2,l2,⟨a6,I1,q1⟩,M,I2,q2⟩:=Kx.at ⟨V,S1,H1⟩ a5;refine drq [] R9 ?_;refine de_y rfl rfl (y_lp rfl M) ?_;refine xa ?_;refine cdq yy0 ?_;exact bkq (IH _ _ _ om ⟨j+1,_,_,rfl,rfl,rfl,rfl,om⟩)
 refine ax ?_;exact K.e rfl (xoq rfl (.tmp rfl .nil)) fun _ H=>⟨⟨x,y,rfl⟩,H.kept⟩
theorem cf85{size start:Int}{a:Option Addr}{c:Nat}(ds:List Day)(D:Bl p a ds.length ds)(O:Go.X.Cist.Ok size start ds)(z:Int):Kc prog md p 85 #[yV size start a ds.length c,.J z] (fun v=>(∃x y e:Int,v=.tuple #[.agg #[.J x,.J y],.J e]/\(0<=x/\x<=60)/\0<=y/\y<=60)):=by
 have h8:=O.yok.n;refine xkq func85 fun K b2=>?_;refine lq fun b4=>?_;refine drq [] R4 ?_;refine xaj rfl rfl rfl (yrn om) ?_;refine xa ?_;refine cdq (ysn D O) ?_;refine cq (fun cc=>?_) (fun cc=>?_)
 ·refine ax ?_;exact K.e rfl (xoq rfl (.tmp rfl .nil)) fun _ H=>⟨⟨0,0,_,rfl,⟨d_,d_⟩,d_,d_⟩,H.kept⟩
 have hz:0<=z/\z<=((ds.length:Nat):Int)-1:=by
  by_cases q:0<=z/\z<=((ds.length:Nat):Int)-1
  ·exact q
  ·simp[q]at cc
 obtain⟨i,rfl⟩:∃i:Nat,z=i:=⟨z.toNat,om⟩
 have hi:i<ds.length:=om;refine cpq (yqn size start c ds D O.yok) ?_;rintro _ p1 g1 ⟨a1,n1,c1,rfl,a5,V,S1,H1⟩;obtain⟨a4,k1,l1,a2,k2,l2,⟨M,I1,q1⟩,a3,I2,q2⟩:=Kx.at ⟨V,S1,H1⟩ a5.1;refine drq [15] R16 ?_;refine de_y rfl rfl (y_lp rfl M) ?_;refine ex ?_;refine de_y rfl rfl (y_lp rfl M) ?_;refine ex ?_;refine xph rfl fun b8=>?_;refine xa ?_;have q0:=q1 i (by have:=I1.len;omega)
 refine xjq (fun m_ l_ p_ L_=>∃(j:Nat)(x y:Int),m_=n1-j/\l_=[(1,none,.J ((i:Nat):Int)),(4,none,w_ b4 0),(7,none,.slice a1 n1 c1),(8,none,w_ b8 0),(9,none,.J ((j:Nat):Int))]/\p_=p1/\
  L_=[[(b8,.cells #[.J x,.J y] 45 (0,0))],[(b4,.cells #[.J 0,.J 0] 45 (0,0))],[(b2,.cells (yV size start a ds.length c).cells 31 (0,0))]]/\j<=n1/\(0<=x/\x<=60)/\0<=y/\y<=60) ⟨0,l1.getD i 0,l1.getD i 0,rfl,rfl,rfl,rfl,Nat.zero_le _,q0,q0⟩ sb ?_
 rintro _ _ p1 _ IH ⟨j,x,y,rfl,rfl,rfl,rfl,hj,hx,hy⟩;refine cq (fun cd=>?_) (fun cd=>?_)
 ·have a6:j<n1:=om;obtain⟨a4,k1,l1,a2,k2,l2,⟨M,I1,q1⟩,a3,I2,q2⟩:=Kx.at ⟨V,S1,H1⟩ a6;have q:=q1 i (by have:=I1.len;omega);refine drq [] R9 ?_;refine de_y rfl rfl (y_lp rfl M) ?_;refine xa ?_;refine cdq yy0 ?_;exact bkq (IH _ _ _ om ⟨j+1,min x (l1.getD i 0),max y (l1.getD i 0),rfl,rfl,rfl,rfl,om,om,om⟩)
 refine ax ?_;exact K.e rfl (xoq rfl (.tmp rfl .nil)) fun _ H=>⟨⟨x,y,0,rfl,hx,hy⟩,H.kept⟩
open Go.X.Cist (Day Bl dz dcs yV YOk Fq)
theorem ylg(size start:Int){a:Option Addr}(n c:Nat)(ds:List Day)(hn:ds.length=n)(D:Bl p a n ds)(O:YOk size start ds):Kc prog md p 169 #[yV size start a n c] (fun v=>(∃q:Bool,v=.bool q/\((∀i,i<n->(ds.getD i dz).want=0)->q=true)/\ ∀i,i<n->60<(ds.getD i dz).want->q=false)):=by
 intro h H;subst hn;exact ytn size start c ds D O h H
theorem cf78{size start:Int}{a:Option Addr}{c:Nat}(ds:List Day)(D:Bl p a ds.length ds)(O:Go.X.Cist.Ok size start ds):Kc prog md p 78 #[yV size start a ds.length c] (fun v=>(∃x e:Int,v=.tuple #[.J x,.J e]/\0<=x/\x<=60)):=by
 have h8:=O.yok.n;refine xkq func78 fun K b1=>?_;refine ax ?_;refine xrx rfl rfl (cf13 _ _ _ _ D om) ?_;rw[Go.X.Cist.A7.2 O];refine cq (fun V=>?_) (fun _=>?_)
 ·exact(V rfl).elim
 refine ax ?_;refine xnq (fun m l'=>∃(j:Nat),m=ds.length-j/\l'=[(1,none,w_ b1 0),(5,none,.J ((j:Nat):Int))]/\j<=ds.length) ⟨0,rfl,rfl,Nat.zero_le _⟩ sb ?_;rintro _ _ IH ⟨j,rfl,rfl,hj⟩;refine cq (fun M=>?_) (fun M=>?_)
 ·have H:j<ds.length:=om;refine ckq (yk6 size start c ds D O j H) ?_;rintro _ ⟨x,y,rfl⟩;refine ax ?_;refine lq fun b6=>?_;refine cq (fun ce=>?_) (fun ce=>?_)
  ·refine K.q ?_;exact⟨_,_,rfl,om,om⟩
  exact bkq (IH _ om ⟨j+1,rfl,rfl,om⟩)
 refine K.q ?_;exact⟨_,_,rfl,d_,d_⟩
theorem cf79{size start:Int}{a:Option Addr}{c:Nat}(ds:List Day)(D:Bl p a ds.length ds)(O:Go.X.Cist.Ok size start ds):Kc prog md p 79 #[yV size start a ds.length c] (fun v=>(∃x e:Int,v=.tuple #[.J x,.J e]/\0<=x/\x<=60)):=by
 intro h hp;have h8:=O.yok.n;refine xsq hp func79 fun K b1=>?_;refine ax ?_;refine xrx rfl rfl (cf13 _ _ _ _ D om) ?_;rw[Go.X.Cist.A7.2 O];refine cq (fun cc=>?_) (fun _=>?_)
 ·exact(cc rfl).elim
 refine ax ?_
 refine xjq (fun m_ V p_ L_=>∃(j:Nat),m_=61-j/\V=[(1,none,w_ b1 0),(5,none,.J ((j:Nat):Int))]/\PG h.size [] p p_/\
  L_=[[(b1,.cells (yV size start a ds.length c).cells 31 (0,0))]]/\j<=61) ⟨0,rfl,rfl,.refl _ _ _,rfl,Nat.zero_le _⟩ sb ?_
 rintro _ _ p1 _ IH ⟨j,rfl,rfl,H,rfl,hj⟩;refine cq (fun M=>?_) (fun M=>?_)
 ·have a3:j<=60:=om;refine ax ?_;refine xwv rfl rfl (yj6 size start ds.length c ds (Go.X.Cist.Bl.mono H.le D) om) ?_;rintro _ p2 g2 ⟨a2,c2,rfl,D2⟩;refine ax ?_;refine xeg rfl rfl (ytn _ _ c2 ds D2 (O.yok.sized ⟨om,om⟩)) ?_;rintro _ ⟨q,rfl,-,-⟩;refine cq (fun ce=>?_) (fun ce=>?_)
  ·refine K.q ?_;exact⟨_,_,rfl,om,om⟩
  exact bkq (IH _ _ _ om ⟨j+1,rfl,rfl,H.trans g2,rfl,om⟩)
 refine K.q ?_;exact⟨_,_,rfl,d_,d_⟩
theorem cf80{size start:Int}{a:Option Addr}{c:Nat}(ds:List Day)(D:Bl p a ds.length ds)(O:Go.X.Cist.Ok size start ds):Kc prog md p 80 #[yV size start a ds.length c] (fun v=>(∃x e:Int,v=.tuple #[.J x,.J e]/\0<=x/\x<=60)):=by
 intro h hp;have h8:=O.yok.n;refine xsq hp func80 fun K b1=>?_;refine ax ?_;refine xrx rfl rfl (cf13 _ _ _ _ D om) ?_;rw[Go.X.Cist.A7.2 O];refine cq (fun cc=>?_) (fun _=>?_)
 ·exact(cc rfl).elim
 refine ax ?_
 refine xjq (fun m_ l_ p_ L_=>∃(j:Nat),m_=j/\l_=[(1,none,w_ b1 0),(5,none,.J ((j:Nat):Int))]/\PG h.size [] p p_/\
  L_=[[(b1,.cells (yV size start a ds.length c).cells 31 (0,0))]]/\j<=20) ⟨20,rfl,rfl,.refl _ _ _,rfl,Nat.le_refl _⟩ sb ?_
 rintro j _ p1 _ IH ⟨_,rfl,rfl,V,rfl,hj⟩;refine cpq (yi6 size start c ds (Go.X.Cist.Bl.mono V.le D) h8) ?_;rintro _ p2 g2 ⟨a2,c2,rfl,D2⟩;have M:(Fq (fun _ w=>min ((j:Nat):Int) w) ds).length=ds.length:=Go.X.Cist.A5 _ _;refine ax ?_;refine xeg rfl rfl (ylg size start ds.length c2 (Fq (fun _ w=>min ((j:Nat):Int) w) ds) M D2 (O.yok.Fq fun i w _ _ _=>⟨om,om⟩)) ?_;rintro _ ⟨q,rfl,hq,-⟩;refine cq (fun H=>?_) (fun H=>?_)
 ·have a3:0<j:=by
   rcases Nat.eq_zero_or_pos j with z|z
   ·subst z;rw[hq fun i hi=>by
     rw[Go.X.Cist.Ma om];have:=(O.yok.d i om).2;omega]at H
    simp at H
   ·exact z
  refine ax ?_;rw[show((j:Nat):Int)-1=((j-1:Nat):Int) by omega];exact bkq (IH _ _ _ om ⟨j-1,rfl,rfl,V.trans g2,rfl,om⟩)
 refine K.q ?_;exact⟨_,_,rfl,om,om⟩
theorem cf81{size start:Int}{a:Option Addr}{c:Nat}(ds:List Day)(D:Bl p a ds.length ds)(O:Go.X.Cist.Ok size start ds)(z:Int):Kc prog md p 81 #[yV size start a ds.length c,.J z] (fun v=>(∃x e:Int,v=.tuple #[.J x,.J e]/\0<=x/\x<=60)):=by
 intro h hp;have h8:=O.yok.n;refine xsq hp func81 fun K b2=>?_;refine drq [] R4 ?_;refine xaj rfl rfl rfl (yrn om) ?_;refine xa ?_;refine cdq (ysn D O) ?_;refine cq (fun cc=>?_) (fun cc=>?_)
 ·refine K.q ?_;exact⟨0,_,rfl,d_,d_⟩
 have hz:0<=z/\z<=((ds.length:Nat):Int)-1:=by
  by_cases q:0<=z/\z<=((ds.length:Nat):Int)-1
  ·exact q
  ·simp[q]at cc
 obtain⟨i,rfl⟩:∃i:Nat,z=i:=⟨z.toNat,om⟩
 have hi:i<ds.length:=om;have hw:=O.yok.d i hi;refine ckq (ytn _ _ c ds D O.yok) ?_;rintro _ ⟨q,rfl,-,-⟩;refine cq (fun ce=>?_) (fun ce=>?_)
 ·refine K.q ?_;exact⟨_,_,rfl,d_,d_⟩
 refine ax ?_
 refine xjq (fun m_ l_ p_ L_=>∃(j:Nat),m_=60-j/\l_=[(1,none,.J ((i:Nat):Int)),(2,none,w_ b2 0),(7,none,.J ((j:Nat):Int))]/\PG h.size [] p p_/\
  L_=[[(b2,.cells (yV size start a ds.length c).cells 31 (0,0))]]/\j<=60) ⟨0,rfl,rfl,.refl _ _ _,rfl,Nat.zero_le _⟩ sb ?_
 rintro _ _ p1 _ IH ⟨j,rfl,rfl,V,rfl,hj⟩;refine ax ?_;refine xwv rfl rfl (yh6 size start c ds (Go.X.Cist.Bl.mono V.le D) O.yok i hi (((j:Nat):Int)+1) ⟨om,om⟩) ?_;rintro _ p2 g2 ⟨a2,c2,rfl,D2⟩;have H:(Go.X.Cist.B6 ds i ((ds.getD i dz).want+(((j:Nat):Int)+1))).length=ds.length:=Go.X.Cist.Do;have a3:(ds.getD i dz).want<=20:=by
  have:=O.2.2.2.2.2 i hi;unfold Go.X.Cist.Di at this;omega
 refine ax ?_;refine xeg rfl rfl (ylg size start ds.length c2 _ H D2 (O.yok.B6 hi ⟨om,om⟩)) ?_;rintro _ ⟨q,rfl,-,hq⟩;refine cq (fun M=>?_) (fun M=>?_)
 ·have a4:j<60:=by
   rcases Nat.lt_or_ge j 60 with z|z
   ·exact z
   ·rw[hq i om (by rw[Go.X.Cist.Fx hi,if_pos rfl];show 60<(ds.getD i dz).want+(((j:Nat):Int)+1);omega)]at M;simp at M
  exact bkq (IH _ _ _ om ⟨j+1,rfl,rfl,V.trans g2,rfl,om⟩)
 refine K.q ?_;exact⟨_,_,rfl,om,om⟩
open Go.X.Flow (Ch Wys wz ics Am Tn Vd tnV B9 Dh Hq K3 H2 Ky B0 put Li Fo Ke He)
variable{a1 a2 a3:Option Addr}
theorem yl6:Kc prog md p 167 #[.J x,.J y] (fun v=>(∃n:Int,v=.J n/\0<=n/\n<=3)):=by
 refine xlq func167 fun K=>?_;refine cq (fun M=>?_) (fun M=>?_)
 ·refine K.q ?_;exact⟨_,rfl,d_,d_⟩
 refine cq (fun H=>?_) (fun H=>?_)
 ·refine K.q ?_;exact⟨_,rfl,d_,d_⟩
 refine K.q ?_;exact⟨_,rfl,d_,d_⟩
theorem yg5{a:Option Addr}{m:Nat}{xs M:List Int}(S:Ar p a n xs)(S':Ar p b m M)(hn:n<=2^30/\m<=2^30):Kc prog md p 230 #[.slice a n ca,.slice b m cb] (fun v=>H0 v):=by
 refine xlq func230 fun K=>?_;refine xnq (fun V l=>∃j:Nat,V=n-j/\l=[(0,none,.slice a n ca),(1,none,.slice b m cb),(5,none,.J ((j:Nat):Int))]/\j<=n) ⟨0,rfl,rfl,Nat.zero_le _⟩ sb ?_;rintro _ _ IH ⟨j,rfl,rfl,hj⟩;refine cq (fun O=>?_) (fun O=>?_)
 ·have H:j<n/\j<m:=om;have a3:=H.1;have a2:=H.2;refine drq [] R8 ?_;refine cq (fun ce=>?_) (fun ce=>?_)
  ·refine drq [] R8 ?_;refine K.q ?_;exact⟨_,rfl⟩
  exact bkq (IH _ om ⟨j+1,rfl,rfl,om⟩)
 refine K.q ?_;exact⟨_,rfl⟩
theorem ygf(t:Tn)(T:Am p a1 t.nH a2 t.nW a3 t.m t){e:Option Addr}(c:Nat)(l:List Int)(I:Ar p e l.length l)(hm:l.length<=t.m)(a4:l.length<=12)(V:∀i,i<l.length->0<=l.getD i 0/\l.getD i 0<=9)(x:Int):Dc prog md p 179 #[tnV a1 a2 a3 c1 c2 c3 t,.slice e l.length c,.J x] (.J (B9 t l l.length x)):=by
 have Ty:Sl p a3 t.m 2 (Flow.wcs t.wy):=T.y;refine xkq func179 fun K b3=>?_;refine ax ?_;refine xnq (fun m l'=>∃(j:Nat)(n:Int),m=l.length-j/\l'=[(1,none,.slice e l.length c),(2,none,.J x),(3,none,w_ b3 0),(7,none,.J n),(8,none,.J ((j:Nat):Int))]/\j<=l.length/\n=B9 t l j x) ⟨0,0,rfl,rfl,Nat.zero_le _,rfl⟩ sb ?_;rintro _ _ IH ⟨j,n,rfl,rfl,hj,hn⟩;have hb:0<=B9 t l j x/\B9 t l j x<=1000*j:=B0 fun i hi=>by have:=V i om;unfold Flow.dv;omega
 rw[<- hn]at hb;refine cq (fun cd=>?_) (fun cd=>?_)
 ·have O:j<l.length:=om;have H:j<t.m:=om;have hx:=V j O;refine ax ?_;refine ro_y rfl (y_lp rfl (T.y.ho H)) ?_;refine cq (fun M=>?_) (fun M=>?_)
  ·exact bkq (IH _ om ⟨j+1,n+l.getD j 0,rfl,rfl,om,by rw[hn];exact Hq M⟩)
  exact bkq (IH _ om ⟨j+1,n,rfl,rfl,om,by rw[hn];exact K3 M⟩)
 obtain rfl:j=l.length:=om;refine K.q ?_;rw[hn];rfl
theorem ya1(t:Tn)(T:Am p a1 t.nH a2 t.nW a3 t.m t){e:Option Addr}(c:Nat)(l:List Int)(I:Ar p e l.length l)(hm:l.length<=t.m)(a4:l.length<=12)(V:∀i,i<l.length->0<=l.getD i 0/\l.getD i 0<=9):Dc prog md p 166 #[tnV a1 a2 a3 c1 c2 c3 t,.slice e l.length c,.J x] (.J (Dh t l l.length x)):=by
 have Ty:Sl p a3 t.m 2 (Flow.wcs t.wy):=T.y;refine xkq func166 fun K b3=>?_;refine ax ?_;refine xnq (fun m l'=>∃(j:Nat)(n:Int),m=l.length-j/\l'=[(1,none,.slice e l.length c),(2,none,.J x),(3,none,w_ b3 0),(7,none,.J n),(8,none,.J ((j:Nat):Int))]/\j<=l.length/\n=Dh t l j x) ⟨0,0,rfl,rfl,Nat.zero_le _,rfl⟩ sb ?_;rintro _ _ IH ⟨j,n,rfl,rfl,hj,hn⟩;have hb:0<=Dh t l j x/\Dh t l j x<=1000*j:=B0 fun i hi=>by have:=V i om;unfold Flow.dv;omega
 rw[<- hn]at hb;refine cq (fun cd=>?_) (fun cd=>?_)
 ·have O:j<l.length:=om;have H:j<t.m:=om;have hx:=V j O;refine ax ?_;refine ro_y rfl (y_lp rfl (T.y.we H)) ?_;refine cq (fun M=>?_) (fun M=>?_)
  ·exact bkq (IH _ om ⟨j+1,n+l.getD j 0,rfl,rfl,om,by rw[hn];exact H2 M⟩)
  exact bkq (IH _ om ⟨j+1,n,rfl,rfl,om,by rw[hn];exact Ky M⟩)
 obtain rfl:j=l.length:=om;refine K.q ?_;rw[hn];rfl
theorem ym6{a:Option Addr}(c:Nat)(l:List Int)(I:Ar p a l.length l)(hn:l.length<=12)(O:∀i,i<l.length->0<=l.getD i 0/\l.getD i 0<=9):Kc prog md p 164 #[.slice a l.length c] (fun v=>(∃x:Int,v=.J x/\0<=x/\x<=108)):=by
 refine xlq func164 fun K=>?_;refine xnq (fun m l'=>∃(j:Nat)(x:Int),m=l.length-j/\l'=[(0,none,.slice a l.length c),(3,none,.J x),(4,none,.J ((j:Nat):Int))]/\j<=l.length/\0<=x/\x<=9*j) ⟨0,0,rfl,rfl,Nat.zero_le _,om,om⟩ sb ?_;rintro _ _ IH ⟨j,x,rfl,rfl,hj,H,h1⟩;refine cq (fun M=>?_) (fun M=>?_)
 ·have V:j<l.length:=om;have hx:=O j om;exact bkq (IH _ om ⟨j+1,x+l.getD j 0,rfl,rfl,om,om,om⟩)
 refine K.q ?_;exact⟨x,rfl,H,om⟩
theorem yj4(md:Md)(p:Aa)(a:Option Addr)(c:Nat)(l:List Int)(I:Ar p a l.length l)(hc:l.length<=c)(hn:l.length<=1000)(z:Int):Lc prog md p 265 #[.slice a l.length c,.J z] (fun v p'=>∃a c,v=.slice a (put l z).length c/\(put l z).length<=c/\Ar p' a (put l z).length (put l z)):=by
 intro h hp;refine xxx hp func265 fun K=>?_;refine xnq (fun m l'=>∃(j:Nat),m=l.length-j/\l'=[(0,none,.slice a l.length c),(1,none,.J z),(5,none,.J ((j:Nat):Int))]/\j<=l.length/\ ∀i,i<j->z<=l.getD i 0) ⟨0,rfl,rfl,Nat.zero_le _,fun i hi=>om⟩ sb ?_;rintro _ _ IH ⟨j,rfl,rfl,O,M⟩;refine ax ?_;refine ro_y rfl (yuv rfl rfl sdu sdu (fun cg=>⟨by simp at cg;omega,Sl.ne I (by simp at cg;omega)⟩)) ?_;refine ro_y rfl (xoz rfl sdu (fun cg=>Ar.get I (by simp at cg;omega)) (u:=.J (l.getD j 0))) ?_;refine cq (fun cd=>?_) (fun cd=>?_)
 ·have a6:j<l.length:=om;exact bkq (IH _ om ⟨j+1,rfl,rfl,om,fun i hi=>by
   rcases Nat.lt_or_ge i j with y|y
   ·exact M i y
   ·obtain rfl:i=j:=om;exact cd.2⟩)
 have hz:l.length<=j\/ ¬ z<=l.getD j 0:=by
  rcases Nat.lt_or_ge j l.length with y|y
  ·exact .inr fun q=>cd ⟨om,q⟩
  ·exact .inl y
 have a3:=Li O M hz;refine ax ?_
 refine xqd 11 [7] [1,2,3,5,8,9,10] [0,4,6,7] (fun i=>match i with|4=>[0]|7=>[4,6]|_=>[]) (fun i=>match i with|3=>[1,2]|4=>[0,3]|6=>[5]|7=>[4,6]|10=>[8,9]|_=>[])
  (fun i _ _ v x=>match i with
   |0=>Ab 3 1 v [] x
   |1=>v=.slice a l.length c/\x=[]
   |2=>v=.J ((j:Nat):Int)/\x=[]
   |3=>v=.slice a j c/\x=[]
   |4=>Ab 3 1 v (ics (l.take j)) x
   |5=>v=.J z/\x=[]
   |6=>Ab 3 1 v (ics [z]) x
   |7=>Ab 3 1 v (ics (l.take j++[z])) x
   |8=>v=.slice a l.length c/\x=[]
   |9=>v=.J ((j:Nat):Int)/\x=[]
   |10=>v=.slice (Ga a c j 1) (l.length-j) (c-j)/\x=[]
   |_=>True) (fun i hi val piece M=>?_) (fun val piece j O v x q=>?_) (fun val piece M=>?_)
 ·match i,hi with
  |0,_=>
    refine xjk rfl rfl fun v Y o=>?_;have o:Ab 3 1 v [] Y:=o;exact xjz ⟨⟨_,rfl⟩,fun v' e=>by
     have e':=xqx e;subst e';show Ab _ _ _ _ ([Y]++[]).flatten;have V:([Y]++([]:List Pcs)).flatten=Y:=by simp
     rw[V];exact o⟩
  |1,_=>
    exact det
  |2,_=>
    exact det
  |3,_=>
    refine ykn (q:=l.length) (j:=j) rfl (by show some ([],val 1)=_;rw[(M 1 rfl).1]) (by show some ([],val 2)=_;rw[(M 2 rfl).1]) om ?_;exact det
  |4,_=>
    have o1:Ab 3 1 (val 0) [] (piece 0):=M 0 rfl;have Ip:Ar p a j (l.take j):=by
     have:=I.pre hc O;rwa[xl9]at this
    show DE _ _ _ _ _ _ _ _ _ [piece 0];refine xsf rfl rfl (by show some ([],val 3)=_;rw[(M 3 rfl).1]) o1 Ip (xcv _) (by simp;omega) fun v Y o=>?_;rw[List.nil_append]at o;exact xjz ⟨⟨_,rfl⟩,fun v' e=>by
     have e':=xqx e;subst e';show Ab _ _ _ _ ([Y]++[]).flatten;have V:([Y]++([]:List Pcs)).flatten=Y:=by simp
     rw[V];exact o⟩
  |5,_=>
    exact det
  |6,_=>
    refine xjk (vs:=[(0,.J z)]) (cells:=#[.J z]) rfl (by show some [(0,val 5)]=_;rw[(M 5 rfl).1]) fun v Y o=>?_;have o:Ab 3 1 v (ics [z]) Y:=o;exact xjz ⟨⟨_,rfl⟩,fun v' e=>by
     have e':=xqx e;subst e';show Ab _ _ _ _ ([Y]++[]).flatten;have V:([Y]++([]:List Pcs)).flatten=Y:=by simp
     rw[V];exact o⟩
  |7,_=>
    have o1:Ab 3 1 (val 4) (ics (l.take j)) (piece 4):=M 4 rfl;have o2:Ab 3 1 (val 6) (ics [z]) (piece 6):=M 6 rfl;show DE _ _ _ _ _ _ _ _ _ [piece 4,piece 6];refine xk9 rfl rfl rfl o1 o2 (xcv _) (by simp[ics];omega) fun v Y o=>?_;have o:=o.as (show _=ics (l.take j++[z]) by simp[ics]);exact xjz ⟨⟨_,rfl⟩,fun v' e=>by
     have e':=xqx e;subst e';show Ab _ _ _ _ ([Y]++[]).flatten;have V:([Y]++([]:List Pcs)).flatten=Y:=by simp
     rw[V];exact o⟩
  |8,_=>
    exact det
  |9,_=>
    exact det
  |10,_=>
    refine de_y rfl rfl (xys (by show some ([],val 8)=_;rw[(M 8 rfl).1]) (by show some ([],val 9)=_;rw[(M 9 rfl).1]) ⟨O,hc⟩ (q:=l.length) (j:=j)) ?_;exact det
  |_+11,h=>exact absurd h om
 ·have q:_:=q;simp only[List.mem_cons,List.not_mem_nil,or_false]at O;rcases O with rfl|rfl|rfl|rfl|rfl|rfl|rfl<;>exact q.2
 have o7:Ab 3 1 (val 7) (ics (l.take j++[z])) (piece 7):=M 7 d_;have a4:val 10=.slice (Ga a c j 1) (l.length-j) (c-j):=(M 10 d_).1;have Is:=I.suf hc O;show RO _ _ _ _ _ _ [piece 7];refine xmw rfl (by show some ([],val 10)=_;rw[a4]) o7 Is (xcv _) (by simp[ics];omega) fun v Y o=>?_;have o:Ab 3 1 v (ics (put l z)) Y:=o.as (by rw[a3];simp[ics]);refine ax ?_;refine xiq o (m:=(put l z).length) (by simp[ics]) d_ fun p2 a2 c2 g2 e2 a5 S2=>?_;subst e2;exact K.r rfl rfl fun _ H=>xqq H g2 ⟨a2,c2,rfl,a5,S2⟩
theorem Qd{a:Option Addr}(n c:Nat)(l:List Int)(M:l.length=n)(I:Ar p a n l)(hc:n<=c)(hn:n<=1000)(z:Int):Lc prog md p 265 #[.slice a n c,.J z] (fun v p'=>∃a c,v=.slice a (n+1) c/\n+1<=c/\Ar p' a (n+1) (put l z)):=by
 intro h H;subst M;have:=yj4 md p a c l I hc hn z h H;rwa[Fo]at this
theorem ypn(c1 c2 c3:Nat)(t:Tn)(T:Am p a1 t.nH a2 t.nW a3 t.m t)(v:Vd t){e:Option Addr}(c:Nat)(l:List Int)(I:Ar p e l.length l)(hm:l.length<=t.m)(a6:l.length<=12)(hl:∀i,i<l.length->0<=l.getD i 0/\l.getD i 0<=9):Lc prog md p 228 #[tnV a1 a2 a3 c1 c2 c3 t,.slice e l.length c] (fun v p'=>∃a c,v=.slice a t.nH c/\Ar p' a t.nH (Ke t l t.nH)):=by
 intro h hp;have h6:=v.nh;refine xsq hp func228 fun K b2=>?_;refine ax ?_
 refine xjq (fun m_ l_ p_ L_=>∃(j:Nat)(a:Option Addr)(M:Nat),m_=t.nH-j/\l_=[(1,none,.slice e l.length c),(2,none,w_ b2 0),(5,none,.slice a j M),(6,none,.J ((j:Nat):Int))]/\PG h.size [] p p_/\
  L_=[[(b2,.cells (tnV a1 a2 a3 c1 c2 c3 t).cells 28 (0,0))]]/\j<=t.nH/\j<=M/\Ar p_ a j (Ke t l j)) ⟨0,none,0,rfl,rfl,.refl _ _ _,rfl,Nat.zero_le _,Nat.le_refl _,Sl.nil _ _ _⟩ sb ?_
 rintro _ _ p1 _ IH ⟨j,a,M,rfl,rfl,O,rfl,hj,a4,L⟩;have T1:=Flow.Am.mono T O.le;have Th:=T1.h;refine cq (fun cd=>?_) (fun cd=>?_)
 ·have a7:j<t.nH:=om;have hx:=v.h j a7;have hb:0<=B9 t l l.length ((j:Nat):Int)/\B9 t l l.length ((j:Nat):Int)<=1000*l.length:=B0 fun i hi=>by have:=hl i om;unfold Flow.dv;omega
  refine drq [] R11 ?_;refine xaj rfl rfl rfl (ygf t T1 c l (I.mono O.le) hm a6 hl _) ?_;refine xa ?_;have V:=He t l j;refine xwv rfl rfl (Qd j M (Ke t l j) V L a4 om (t.hs.getD j 0-B9 t l l.length ((j:Nat):Int))) ?_;rintro _ p2 g2 ⟨a2,c2,rfl,a5,L2⟩;exact bkq (IH _ _ _ om ⟨j+1,a2,c2,rfl,rfl,O.trans g2,rfl,om,a5,L2⟩)
 obtain rfl:j=t.nH:=om;refine ax ?_;exact K.r rfl rfl fun _ H=>xqq H O ⟨a,M,rfl,L⟩
open Go.X.Flow (Ch Wys wz ics Am Tn Vd tnV B9 Dh E1 dvs dpre Gm Hc Gr RfD Ke)
theorem yun(t:Tn)(v:Vd t)(c7:t.m<=12):∀(f:Nat)(h:Heap)(p:Aa)(_:Per p h)(a1 a2 a3:Option Addr)(c1 c2 c3:Nat)(_:Am p a1 t.nH a2 t.nW a3 t.m t)(e:Option Addr)(M:Nat)(l:List Int)(_:Ar p e l.length l)(_:Gr t l)(_:l.length+f=t.m),
 Ac prog md 163 #[tnV a1 a2 a3 c1 c2 c3 t,.slice e l.length M] h (Cm p h fun v p'=>∃a n c,v=.slice a n c/\Rfs p' a n (dvs t f l)):=by
 intro f
 induction f with
 |zero=>
   intro h p hp a1 a2 a3 c1 c2 c3 T e M l I V hf;refine xsq hp func163 fun K b2=>?_;refine cq (fun cc=>?_) (fun cc=>?_)
   ·refine ax ?_;refine xtx rfl fun v1 Y1 o1=>?_;have o1:Ab 23 1 v1 [[.slice e l.length M]] Y1:=o1;refine ax ?_;refine xiq o1 (m:=1) rfl d_ fun p2 a4 c4 g2 e2 a8 S2=>?_;subst e2;exact K.r rfl rfl fun _ H=>xqq H g2 ⟨a4,1,c4,rfl,_,S2,(Inn.one I).mono g2.le⟩
   ·exact absurd om cc
 |succ f ih=>
   intro h p hp a1 a2 a3 c1 c2 c3 T e M l I V hf;have O:l.length<t.m:=om;have Th:=T.h;have Tw:=T.w;have Ty:Sl p a3 t.m 2 (Flow.wcs t.wy):=T.y;have w:=v.wok _ O;have hh:=v.h _ w.1.2;have hw:=v.w _ w.2.2;have bd:=V.bd (t.wy.getD l.length wz).1;have bg:=V.bd (t.wy.getD l.length wz).2;have b3:=bd.1;have b4:=bg.2;obtain⟨P,hP⟩:∃P,P=10^f:=⟨_,rfl⟩
   have b9:P*10<=1000000000000:=by
    have:=Nat.pow_le_pow_right (show 0<10 by decide) (show f+1<=12 by omega);rw[Nat.pow_succ,<- hP]at this;exact this
   refine xsq hp func163 fun K b2=>?_;refine cq (fun cc=>?_) (fun cc=>?_)
   ·exact absurd cc om
   refine ax ?_;refine ro_y rfl (xlk rfl (T.y.all O)) ?_;refine lq fun b5=>?_;refine drq [] R24 ?_;refine de_y rfl rfl (xpc rfl rfl om om (Sl.ne Th om)) ?_;refine de_y rfl rfl (y_lp rfl (Ar.get Th w.1.2)) ?_;refine ex ?_;refine xaj rfl rfl rfl (ygf t T M l I om om V.sm _) ?_;refine ex ?_;refine de_y rfl rfl (xpc rfl rfl om om (Sl.ne Tw om)) ?_;refine de_y rfl rfl (y_lp rfl (Ar.get Tw w.2.2)) ?_;refine ex ?_;refine xaj rfl rfl rfl (ya1 t T M l I om om V.sm) ?_;refine xa ?_;have b8:=V.Ea v O;rw[show min (t.hs.getD (t.wy.getD l.length wz).1.toNat 0-B9 t l l.length (t.wy.getD l.length wz).1) (t.ws.getD (t.wy.getD l.length wz).2.toNat 0-Dh t l l.length (t.wy.getD l.length wz).2)=E1 t l from rfl];clear hh hw bd bg b3 b4 w;refine xyj 23 1 fun o0=>?_
   refine xjq (fun m_ l_ p_ L_=>∃(j:Nat)(v:Value)(Y:Pcs)(es:List (List Value)),m_=(E1 t l+1).toNat-j/\l_=[(1,none,.slice e l.length M),(2,none,w_ b2 0),(6,none,.J (E1 t l)),(7,none,v),(8,none,.J ((j:Nat):Int))]/\PG h.size [] p p_/\
    L_=[Y,[(b5,.cells #[.J (t.wy.getD l.length wz).1,.J (t.wy.getD l.length wz).2] 93 (0,0))],[(b2,.cells (tnV a1 a2 a3 c1 c2 c3 t).cells 28 (0,0))]]/\(j:Int)<=E1 t l+1/\Ab 23 1 v es Y/\Inn p_ es (dpre t f l j) []/\es.length<=j*P) ⟨0,_,_,_,rfl,rfl,.refl _ _ _,rfl,om,o0,Inn.nil,Nat.zero_le _⟩ sb ?_
   clear o0;rintro _ _ p1 _ IH ⟨j,v1,Y,es,rfl,rfl,g1,rfl,hj,o,hI,hm⟩;refine cq (fun cd=>?_) (fun cd=>?_)
   ·have c9:j<=9:=om;have b6:(j+1)*P<=10*P:=Nat.mul_le_mul_right _ om;have b7:(j+1)*P=j*P+P:=Nat.succ_mul j P;have hlen:(l++[((j:Nat):Int)]).length=l.length+1:=by simp
    have hN:=V.next v O (n:=((j:Nat):Int)) om om;have b0:=Hc v hN (f:=f) (by rw[hlen];omega);rw[<- hP]at b0;refine ax ?_;refine xj2 (args6:=[.tmp 54,.tmp 60]) (QC:=fun v Z=>∃a n c,v=.slice a n c/\ ∀p',PLe p1 p'->(∀y∈Z,p' y.1=some y.2)->Rfs p' a n (dvs t f (l++[((j:Nat):Int)]))) 2 [1] [v1,tnV a1 a2 a3 c1 c2 c3 t,undef,.slice e l.length M,undef,.J ((j:Nat):Int)] (fun u=>[tnV a1 a2 a3 c1 c2 c3 t,u]) (I.mono g1.le) om rfl rfl s_ (fun val i hi=>?_) (fun val hv=>by show some ([],[val 1,val 7])=_;rw[hv 1 s_];rfl) (fun u Y o2 h L st=>?_) fun val piece hv q=>?_
    ·obtain rfl|rfl|rfl|rfl:i=0\/i=1\/i=3\/i=5:=om
     all_goals
      exact det
    ·obtain⟨p',⟨g',gl⟩,hy,s'⟩:=st.D6;obtain⟨a4,c4,e2,I2⟩:=o2.inP hy;subst e2;rw[Go.X.Flow.Ae]at I2⊢;refine(ih h p' s'.per a1 a2 a3 c1 c2 c3 (Flow.Am.mono T (g1.le.trans g'.le)) a4 c4 _ I2 hN (by rw[hlen];omega)).mono fun v' h' x=>?_;obtain⟨Z,⟨p2,⟨a5,n5,c5,e5,R5⟩,le⟩,N⟩:=x.pieces;exact⟨Z,⟨a5,n5,c5,e5,fun a6 l y=>R5.mono (le a6 (gl a6 l fun z hz=>y z (List.mem_append_right _ hz)) fun z hz=>y z (List.mem_append_left _ hz))⟩,N⟩
    obtain⟨a5,n5,c5,e5,a9⟩:=q;refine xkw (l':=[(1,none,.slice e l.length M),(2,none,w_ b2 0),(6,none,.J (E1 t l)),(8,none,.J ((j:Nat):Int)),(53,none,v1),(61,none,.slice a5 n5 c5)]) ?_ ⟨rfl,rfl,rfl,rfl,by show some (none,val 0)=_;rw[hv 0 om];rfl,by show some (none,val 8)=_;rw[e5],trivial⟩;refine xaw (piece 8) fun p3 g3 hy=>?_;have hR:=a9 p3 g3.le hy;have c8:=hR.len;obtain⟨d0,S3,a7⟩:=hR;have c6:=S3.len;refine ax ?_;refine xmw rfl rfl o S3 a7.Nw om fun v4 Y4 o4=>?_;refine ax ?_;rw[show((j:Nat):Int)+1=((j+1:Nat):Int) from om];exact bkq (IH _ _ _ om ⟨j+1,v4,Y4,_,rfl,rfl,g1.trans g3,rfl,om,o4,by rw[Gm];exact(hI.mono g3.le).app a7,by rw[List.length_append];omega⟩)
   have ej:dvs t (f+1) l=dpre t f l j:=by
    rw[dvs,show(E1 t l+1).toNat=j by omega];rfl
   refine ax ?_;refine xiq o (m:=es.length) rfl d_ fun p2 a4 c4 g2 e2 a8 S2=>?_;subst e2;exact K.r rfl rfl fun _ H=>xqq H (g1.trans g2) ⟨a4,_,c4,rfl,by rw[ej];exact⟨es,S2,hI.mono g2.le⟩⟩
theorem yz0(t:Tn)(v:Vd t)(a7:t.m<=12)(hp:Per p h)(c1 c2 c3:Nat)(T:Am p a1 t.nH a2 t.nW a3 t.m t):
 Ac prog md 175 #[tnV a1 a2 a3 c1 c2 c3 t] h (Cm p h fun v p'=>∃a c d,v=.slice a t.nH c/\Ar p' a t.nH (Ke t d t.nH)/\d∈dvs t t.m []):=by
 have h6:=v.nh;refine xsq hp func175 fun K b1=>?_;refine ax ?_;refine xwv rfl rfl (fun h pe=>yun t v a7 t.m h _ pe a1 a2 a3 c1 c2 c3 T none 0 [] (Sl.nil _ _ _) (Flow.Gr.nil v) s_) ?_;rintro _ p1 g1 ⟨a4,O,c4,rfl,R⟩;have R:RfD t p1 a4 O:=R;have hn:=R.pos v;obtain⟨b0,k0,l0,a8,I0,⟨b4,-⟩,c7,a9⟩:=R.at v hn;have c9:=R.le v a7;have R0:Rfs p1 a4 O (dvs t t.m []):=R;obtain⟨b9,S1,-⟩:=R0;have T1:=Flow.Am.mono T g1.le;refine drq [] R4 ?_;refine de_y rfl rfl (y_lp rfl a8) ?_;refine xa ?_;refine xwv rfl rfl (ypn c1 c2 c3 t T1 v k0 l0 I0 om om a9) ?_;rintro _ p2 M ⟨a5,c5,rfl,L2⟩;refine ax ?_
 refine xjq (fun m_ l_ p_ L_=>∃(j:Nat)(a:Option Addr)(c:Nat)(d:List Int),m_=O-j/\l_=[(1,none,w_ b1 0),(3,none,.slice a4 O c4),(4,none,.slice a t.nH c),(5,none,.J ((j:Nat):Int))]/\PG h.size [] p p_/\PLe p1 p_/\
  L_=[[(b1,.cells (tnV a1 a2 a3 c1 c2 c3 t).cells 28 (0,0))]]/\j<=O/\Ar p_ a t.nH (Ke t d t.nH)/\d∈dvs t t.m []) ⟨0,_,_,l0,rfl,rfl,g1.trans M,M.le,rfl,Nat.zero_le _,L2,b4⟩ sb ?_
 clear L2;rintro _ _ p2 _ IH ⟨j,a,c,d,rfl,rfl,M,l2,rfl,hj,L2,hd⟩;refine cq (fun cd=>?_) (fun cd=>?_)
 ·have b7:j<O:=om;have T2:=Flow.Am.mono T M.le;have S2:=Sl.mono l2 S1;obtain⟨b3,k3,l3,b5,I3,⟨b6,-⟩,c8,b8⟩:=(R.mono l2).at v b7;refine drq [] R5 ?_;refine de_y rfl rfl (y_lp rfl b5) ?_;refine xa ?_;refine xwv rfl rfl (ypn c1 c2 c3 t T2 v k3 l3 I3 om om b8) ?_;rintro _ p3 V ⟨a6,c6,rfl,L3⟩;refine ax ?_;refine xeg rfl rfl (yg5 L3 (L2.mono V.le) ⟨om,om⟩) ?_;rintro _ ⟨q,rfl⟩;refine cq (fun ce=>?_) (fun ce=>?_)
  ·exact bkq (IH _ _ _ om ⟨j+1,a6,c6,l3,rfl,rfl,M.trans V,l2.trans V.le,rfl,om,L3,b6⟩)
  exact bkq (IH _ _ _ om ⟨j+1,a,c,d,rfl,rfl,M.trans V,l2.trans V.le,rfl,om,L2.mono V.le,hd⟩)
 refine ax ?_;exact K.r rfl rfl fun _ H=>xqq H M ⟨a,c,d,rfl,L2,hd⟩
open Go.X.Flow (Ch Wys wz ics Am Tn Vd tnV B9 Dh dvs RfD RfX Ke B0)
theorem yi5(t:Tn)(v:Vd t)(M:t.m<=12)(O:Per p h)(T:Am p a1 t.nH a2 t.nW a3 t.m t)(q:Bool):
 Ac prog md 227 #[tnV a1 a2 a3 c1 c2 c3 t,.bool q] h fun v V=>v=.J (if q=true then 0 else 1)/\As h V:=by
 have h6:=v.nh;have h5:=v.nw;refine xsq O func227 fun K b1=>?_;refine ax ?_;refine xrx rfl rfl (cf27 t T ⟨om,om,om⟩) ?_;rw[Flow.Cf M v];refine cq (fun H=>?_) (fun _=>?_)
 ·exact(H rfl).elim
 refine cq (fun H=>?_) (fun H=>?_)
 ·refine K.q ?_;rw[if_neg H];rfl
 refine K.q ?_;rw[if_pos (Classical.not_not.1 H)];rfl
theorem cf82(t:Tn)(v:Vd t)(M:t.m<=12)(hp:Per p h)(T:Am p a1 t.nH a2 t.nW a3 t.m t):
 Ac prog md 82 #[tnV a1 a2 a3 c1 c2 c3 t] h (Cm p h fun w p'=>∃a c l,w=.tuple #[.slice a t.nH c,.J 0]/\Ar p' a t.nH l/\ ∀x∈l,-12000<=x/\x<=9):=by
 have h6:=v.nh;have h5:=v.nw;refine xsq hp func82 fun K b1=>?_;refine ax ?_;refine xrx rfl rfl (cf27 t T ⟨om,om,om⟩) ?_;rw[Flow.Cf M v];refine cq (fun cc=>?_) (fun _=>?_)
 ·exact(cc rfl).elim
 refine cpq (fun h pe=>yz0 t v M pe c1 c2 c3 T) ?_;rintro _ p1 V ⟨a4,c4,d,rfl,L,hd⟩;have O:=Flow.Lz v (Flow.Gr.nil v) s_ hd;refine ax ?_;exact K.r rfl rfl fun _ H=>xqq H V ⟨a4,c4,_,rfl,L,Flow.Ll v O.1.sm (by rw[O.2];exact M) (Nat.le_refl _)⟩
theorem cf76(t:Tn)(v:Vd t)(H:t.m<=12)(hp:Per p h)(T:Am p a1 t.nH a2 t.nW a3 t.m t):
 Ac prog md 76 #[tnV a1 a2 a3 c1 c2 c3 t] h fun w h'=>(∃x e:Int,w=.tuple #[.J x,.J e]/\0<=x/\x<=108)/\As h h':=by
 have h6:=v.nh;have h5:=v.nw;refine xsq hp func76 fun K b1=>?_;refine ax ?_;refine xrx rfl rfl (cf27 t T ⟨om,om,om⟩) ?_;rw[Flow.Cf H v];refine cq (fun cc=>?_) (fun _=>?_)
 ·exact(cc rfl).elim
 refine ax ?_;refine xwv rfl rfl (fun h pe=>yun t v H t.m h _ pe a1 a2 a3 c1 c2 c3 T none 0 [] (Sl.nil _ _ _) (Flow.Gr.nil v) s_) ?_;rintro _ p1 g1 ⟨V,M,c4,rfl,R⟩;have R:RfD t p1 V M:=R;have a9:=R.le v H;have R0:Rfs p1 V M (dvs t t.m []):=R;obtain⟨a7,S1,-⟩:=R0;refine ax ?_;refine xnq (fun m l'=>∃(j:Nat)(x:Int),m=M-j/\l'=[(5,none,.J x),(6,none,.slice V M c4),(7,none,.J ((j:Nat):Int))]/\j<=M/\0<=x/\x<=108) ⟨0,0,rfl,rfl,Nat.zero_le _,om,om⟩ sb ?_;rintro _ _ IH ⟨j,x,rfl,rfl,hj,x0,x1⟩;refine cq (fun cd=>?_) (fun cd=>?_)
 ·have a6:j<M:=om;obtain⟨b3,k3,l3,a5,I3,-,a8,O⟩:=R.at v a6;refine ax ?_;refine ro_y rfl (y_lp rfl a5) ?_;refine ax ?_;refine xeg rfl rfl (ym6 k3 l3 I3 om O) ?_;rintro _ ⟨y,rfl,y0,y1⟩;exact bkq (IH _ om ⟨j+1,max x y,rfl,rfl,om,om,om⟩)
 refine K.q ?_;exact⟨x,0,rfl,x0,x1⟩
theorem yb1(t:Tn)(v:Vd t)(M:t.m<=12)(hp:Per p h)(c1 c2 c3:Nat)(T:Am p a1 t.nH a2 t.nW a3 t.m t)(q:Bool):
 Ac prog md 165 #[tnV a1 a2 a3 c1 c2 c3 t,.bool q] h (Cm p h fun w p'=>∃a n c,w=.tuple #[.slice a n c,.J (if q=true then 0 else 1)]/\n<=1000000000000/\(q=true->0<n/\RfX t p' a n)):=by
 have h6:=v.nh;refine xsq hp func165 fun K b2=>?_;refine cdq (fun _ O=>yi5 t v M O T q) ?_;cases q with
 |false=>
   refine cq (fun cc=>?_) (fun cc=>?_)
   ·refine ax ?_;exact K.r rfl rfl fun _ H=>xqq H (.refl _ _ _) ⟨none,0,0,rfl,Nat.zero_le _,fun z=>by simp at z⟩
   ·exact(cc d_).elim
 |true=>
 refine cq (fun cc=>?_) (fun _=>?_)
 ·exact(cc rfl).elim
 refine cpq (fun h O=>yz0 t v M O c1 c2 c3 T) ?_;rintro _ p1 g1 ⟨a4,c4,d,rfl,L,hd⟩;refine ax ?_;refine xwv rfl rfl (fun h O=>yun t v M t.m h _ O a1 a2 a3 c1 c2 c3 (Flow.Am.mono T g1.le) none 0 [] (Sl.nil _ _ _) (Flow.Gr.nil v) s_) ?_;rintro _ p2 g2 ⟨a5,V,c5,rfl,R⟩;have R:RfD t p2 a5 V:=R;have d0:=R.le v M;have R0:Rfs p2 a5 V (dvs t t.m []):=R;have d6:=R0.len;obtain⟨c9,S1,-⟩:=R0;have L1:=L.mono g2.le;refine ax ?_;refine xyj 23 1 fun o0=>?_
 refine xjq (fun m_ l_ p_ L_=>∃(j:Nat)(v:Value)(Y:Pcs)(es:List (List Value))(xss:List (List Int)),m_=V-j/\l_=[(2,none,w_ b2 0),(7,none,.slice a4 t.nH c4),(8,none,.slice a5 V c5),(9,none,v),(10,none,.J ((j:Nat):Int))]/\PG h.size [] p p_/\PLe p2 p_/\
  L_=[Y,[(b2,.cells (tnV a1 a2 a3 c1 c2 c3 t).cells 28 (0,0))]]/\j<=V/\Ab 23 1 v es Y/\Inn p_ es xss []/\(∀l∈xss,l.length=t.m/\ ∀i,i<l.length->0<=l.getD i 0/\l.getD i 0<=9)/\es.length<=j/\ ∀i,i<j->Ke t ((dvs t t.m []).getD i []) t.nH=Ke t d t.nH->0<es.length) ⟨0,_,_,_,[],rfl,rfl,g1.trans g2,.refl _,rfl,Nat.zero_le _,o0,Inn.nil,fun x hx=>by simp at hx,Nat.zero_le _,fun i hi=>om⟩ sb ?_
 clear o0;rintro _ _ p3 _ IH ⟨j,v1,Y,es,xss,rfl,rfl,g3,l3,rfl,hj,o,hI,hH,hn,hk⟩;refine cq (fun cd=>?_) (fun cd=>?_)
 ·have a9:j<V:=om;have T3:=Flow.Am.mono T g3.le;have S2:=Sl.mono l3 S1;obtain⟨b6,k6,l6,b7,I6,⟨d8,b5⟩,d5,b0⟩:=(R.mono l3).at v a9;refine drq [5] [0,1,2,3,4,6,5] ?_;refine de_y rfl rfl (y_lp rfl b7) ?_;refine ex ?_
  refine xsk (first:=[]) (cap:=[]) (vs:=[tnV a1 a2 a3 c1 c2 c3 t,.slice b6 l6.length k6]) (Q:=fun w Y=>∃a c,w=.slice a t.nH c/\ ∀p',PLe p3 p'->(∀y∈Y,p' y.1=some y.2)->Ar p' a t.nH (Ke t l6 t.nH)) rfl rfl rfl
   (fun h O=>(ypn c1 c2 c3 t T3 v k6 l6 I6 om om b0 h O).mono fun w h' x=>by
    obtain⟨Z,⟨p4,⟨a7,c7,e,I⟩,le⟩,N⟩:=x.pieces;exact⟨Z,⟨a7,c7,e,fun p' l y=>I.mono (le p' l y)⟩,N⟩) fun w1 Z q=>?_
  obtain⟨a7,c7,rfl,b9⟩:=q;refine ex ?_;refine xaw Z fun p4 g4 hy=>?_;have L4:=b9 p4 g4.le hy;have l4:=l3.trans g4.le;refine ax ?_;refine xrx rfl rfl (cf19 _ _ L4 (L1.mono l4) ⟨om,om⟩) ?_;refine cq (fun ce=>?_) (fun ce=>?_)
  ·have S4:=Sl.mono l4 S1;obtain⟨b8,k8,l8,c6,I8,-,b4,b3⟩:=(R.mono l4).at v a9;refine ax ?_;refine ro_y rfl (y_lp rfl c6) ?_;refine xtx rfl fun v2 Y2 o2=>?_;have o2:Ab 23 1 v2 [[.slice b8 l8.length k8]] Y2:=o2;refine ax ?_;refine xbv rfl rfl o o2 (by simp[Be]) (by simp;omega) fun v5 Y5 o5=>?_;exact bkq (IH _ _ _ om ⟨j+1,v5,Y5,_,xss++[l8],rfl,rfl,g3.trans g4,l4,rfl,om,o5,(hI.mono g4.le).app (Inn.one I8),fun x hx=>(List.mem_append.1 hx).elim (hH x) fun z=>by rw[List.mem_singleton.1 z];exact⟨b4,b3⟩,by simp;omega,fun _ _ _=>by simp⟩)
  exact bkq (IH _ _ _ om ⟨j+1,v1,Y,es,xss,rfl,rfl,g3.trans g4,l4,rfl,om,o,hI.mono g4.le,hH,om,fun i hi z=>by
   rcases Nat.lt_or_ge i j with y|y
   ·exact hk i y z
   ·obtain rfl:i=j:=om;rw[<- b5]at z;exact absurd z ce⟩)
 have a6:0<es.length:=by
  obtain⟨i,hi,e⟩:=List.mem_iff_getElem.1 hd;exact hk i om (by rw[Flow.A8 hi,e])
 refine ax ?_;refine xiq o (m:=es.length) rfl d_ fun p5 a8 c8 g5 e5 d7 S5=>?_;subst e5;exact K.r rfl rfl fun _ H=>xqq H (g3.trans g5) ⟨a8,_,c8,rfl,om,fun _=>⟨a6,xss,⟨es,S5,hI.mono g5.le⟩,hH⟩⟩
open Go.X.Flow (Ch Wys wz ics Am Tn Vd tnV B9 Dh RfX B0)
theorem cf84(t:Tn)(v:Vd t)(b6:t.m<=12)(hp:Per p h)(T:Am p a1 t.nH a2 t.nW a3 t.m t)(x:Int):
 Ac prog md 84 #[tnV a1 a2 a3 c1 c2 c3 t,.J x] h fun w h'=>(∃y z e:Int,w=.tuple #[.agg #[.J y,.J z],.J e]/\(0<=y/\y<=12000)/\0<=z/\z<=12000)/\As h h':=by
 have h6:=v.nh;refine xsq hp func84 fun K b2=>?_;refine lq fun b4=>?_;refine drq [4] R9 ?_;refine xaj rfl rfl rfl (cf7 t om _) ?_;generalize hq:decide (0<=x/\x<=(t.nH:Int)-1)=q;refine ex ?_
 refine xsk (first:=[]) (cap:=[]) (vs:=[tnV a1 a2 a3 c1 c2 c3 t,.bool q]) (Q:=fun w Y=>∃a n c,w=.tuple #[.slice a n c,.J (if q=true then 0 else 1)]/\n<=1000000000000/\(q=true->0<n/\ ∀p',PLe p p'->(∀y∈Y,p' y.1=some y.2)->RfX t p' a n)) rfl rfl rfl
  (fun h pe=>(yb1 t v b6 pe c1 c2 c3 T q).mono fun w h' x=>by
   obtain⟨Z,⟨p4,⟨a7,n7,c7,e,hn,R⟩,le⟩,N⟩:=x.pieces;exact⟨Z,⟨a7,n7,c7,e,hn,fun z=>⟨(R z).1,fun p' l y=>(R z).2.mono (le p' l y)⟩⟩,N⟩) fun w1 Z q1=>?_
 obtain⟨a4,n4,c4,rfl,c8,hR⟩:=q1;refine ex ?_;refine xaw Z fun p1 g1 hy=>?_;clear hq;cases q with
 |false=>
   refine cq (fun cc=>?_) (fun cc=>?_)
   ·refine ax ?_;exact K.e rfl (xoq rfl (.tmp rfl .nil)) fun _ H=>⟨⟨0,0,_,rfl,⟨d_,d_⟩,d_,d_⟩,H.kept⟩
   ·exact(cc d_).elim
 |true=>
 obtain⟨O,hR⟩:=hR rfl;have R:=hR p1 g1.le hy;have T1:=Flow.Am.mono T g1.le;obtain⟨b0,k0,l0,b8,I0,a9,V⟩:=R.at O;have R0:=R;obtain⟨xss,⟨c6,S1,-⟩,-⟩:=R0;have bd:∀l:List Int,l.length=t.m->(∀i,i<l.length->0<=l.getD i 0/\l.getD i 0<=9)->0<=B9 t l l.length x/\B9 t l l.length x<=12000:=fun l hm hd=>by
  have:0<=B9 t l l.length x/\B9 t l l.length x<=1000*l.length:=B0 fun i hi=>by have:=hd i hi;unfold Flow.dv;omega
  omega
 have d0:=bd l0 a9 V;refine cq (fun cc=>?_) (fun _=>?_)
 ·exact(cc rfl).elim
 refine drq [] R5 ?_;refine de_y rfl rfl (y_lp rfl b8) ?_;refine xa ?_;refine xrx rfl rfl (ygf t T1 k0 l0 I0 om om V x) ?_;refine lq fun b9=>?_;refine ax ?_
 refine xjq (fun m_ l_ p_ L_=>∃(j:Nat)(y z:Int),m_=n4-j/\l_=[(1,none,.J x),(2,none,w_ b2 0),(4,none,w_ b4 0),(6,none,.slice a4 n4 c4),(9,none,w_ b9 0),(10,none,.J ((j:Nat):Int))]/\p_=p1/\
  L_=[[(b9,.cells #[.J y,.J z] 45 (0,0))],[(b4,.cells #[.J 0,.J 0] 45 (0,0))],[(b2,.cells (tnV a1 a2 a3 c1 c2 c3 t).cells 28 (0,0))]]/\j<=n4/\(0<=y/\y<=12000)/\0<=z/\z<=12000) ⟨0,_,_,rfl,rfl,rfl,rfl,Nat.zero_le _,d0,d0⟩ sb ?_
 rintro _ _ p1 _ IH ⟨j,y,z,rfl,rfl,rfl,rfl,hj,a6,a8⟩;refine cq (fun cd=>?_) (fun cd=>?_)
 ·have b7:j<n4:=om;obtain⟨b3,k3,M,b5,I3,c5,a5⟩:=R.at b7;have d3:=bd M c5 a5;refine drq [] R6 ?_;refine de_y rfl rfl (y_lp rfl b5) ?_;refine xa ?_;refine xrx rfl rfl (ygf t T1 k3 M I3 om om a5 x) ?_;exact bkq (IH _ _ _ om ⟨j+1,min y (B9 t M M.length x),max z (B9 t M M.length x),rfl,rfl,rfl,rfl,om,om,om⟩)
 refine ax ?_;exact K.e rfl (xoq rfl (.tmp rfl .nil)) fun _ H=>⟨⟨y,z,0,rfl,a6,a8⟩,H.kept⟩
theorem cf77(t:Tn)(v:Vd t)(a6:t.m<=12)(hp:Per p h)(T:Am p a1 t.nH a2 t.nW a3 t.m t)(x:Int):
 Ac prog md 77 #[tnV a1 a2 a3 c1 c2 c3 t,.J x] h fun w h'=>(∃y e:Int,w=.tuple #[.J y,.J e]/\0<=y/\y<=3)/\As h h':=by
 have h5:=v.nw;refine xsq hp func77 fun K b2=>?_;refine drq [4] R9 ?_;refine xaj rfl rfl rfl (cf6 t om _) ?_;generalize hq:decide (0<=x/\x<=(t.nW:Int)-1)=q;refine ex ?_
 refine xsk (first:=[]) (cap:=[]) (vs:=[tnV a1 a2 a3 c1 c2 c3 t,.bool q]) (Q:=fun w Y=>∃a n c,w=.tuple #[.slice a n c,.J (if q=true then 0 else 1)]/\n<=1000000000000/\(q=true->0<n/\ ∀p',PLe p p'->(∀y∈Y,p' y.1=some y.2)->RfX t p' a n)) rfl rfl rfl
  (fun h pe=>(yb1 t v a6 pe c1 c2 c3 T q).mono fun w h' x=>by
   obtain⟨Z,⟨p4,⟨a7,n7,c7,e,hn,R⟩,le⟩,N⟩:=x.pieces;exact⟨Z,⟨a7,n7,c7,e,hn,fun z=>⟨(R z).1,fun p' l y=>(R z).2.mono (le p' l y)⟩⟩,N⟩) fun w1 Z q1=>?_
 obtain⟨a4,H,c4,rfl,b4,V⟩:=q1;refine ex ?_;refine xaw Z fun p1 g1 hy=>?_;cases q with
 |false=>
   refine cq (fun M=>?_) (fun M=>?_)
   ·refine K.q ?_;exact⟨0,_,rfl,d_,d_⟩
   ·exact(M d_).elim
 |true=>
 have hx:=of_decide_eq_true hq;obtain⟨i,rfl⟩:∃i:Nat,x=i:=⟨x.toNat,om⟩
 have hi:i<t.nW:=om;obtain⟨a9,V⟩:=V rfl;have R:=V p1 g1.le hy;have T1:=Flow.Am.mono T g1.le;have Tw:=T1.w;have R0:=R;obtain⟨xss,⟨b0,S1,-⟩,-⟩:=R0;refine cq (fun M=>?_) (fun _=>?_)
 ·exact(M rfl).elim
 refine ax ?_;refine xnq (fun m l'=>∃(j n:Nat),m=H-j/\l'=[(1,none,.J ((i:Nat):Int)),(2,none,w_ b2 0),(6,none,.slice a4 H c4),(8,none,.J ((n:Nat):Int)),(9,none,.J ((j:Nat):Int))]/\j<=H/\n<=j) ⟨0,0,rfl,rfl,Nat.zero_le _,Nat.le_refl _⟩ sb ?_;rintro _ _ IH ⟨j,n,rfl,rfl,hj,hn⟩;refine cq (fun cd=>?_) (fun cd=>?_)
 ·have a8:j<H:=om;obtain⟨b3,k3,l3,a5,I3,b5,O⟩:=R.at a8;refine drq [] R12 ?_;refine de_y rfl rfl (y_lp rfl a5) ?_;refine ex ?_;refine xaj rfl rfl rfl (ya1 t T1 k3 l3 I3 om om O) ?_;refine ex ?_;refine cq (fun ce=>?_) (fun ce=>?_)
  ·exact bkq (IH _ om ⟨j+1,n+1,rfl,rfl,om,om⟩)
  exact bkq (IH _ om ⟨j+1,n,rfl,rfl,om,om⟩)
 refine ckq yl6 ?_;rintro _ ⟨y,rfl,y0,y1⟩;refine K.q ?_;exact⟨y,0,rfl,y0,y1⟩
theorem yf6(t:Tn)(v:Vd t)(hp:Per p h)(c1 c2 c3:Nat)(T:Am p a1 t.nH a2 t.nW a3 t.m t){e:Option Addr}(c:Nat)(l:List Int)(I:Ar p e l.length l)(h6:l.length<=6)(hl:∀i,i<l.length->0<=l.getD i 0/\l.getD i 0<t.nH):
 Ac prog md 177 #[tnV a1 a2 a3 c1 c2 c3 t,.slice e l.length c] h fun w h'=>(∃x:Int,w=.J x/\0<=x/\x<=54)/\As h h':=by
 have M:=T.h;refine xsq hp func177 fun K b2=>?_;refine ax ?_;refine xnq (fun m l'=>∃(j:Nat)(x:Int),m=l.length-j/\l'=[(1,none,.slice e l.length c),(2,none,w_ b2 0),(5,none,.J x),(6,none,.J ((j:Nat):Int))]/\j<=l.length/\0<=x/\x<=9*j) ⟨0,0,rfl,rfl,Nat.zero_le _,om,om⟩ sb ?_;rintro _ _ IH ⟨j,x,rfl,rfl,hj,V,x1⟩;refine cq (fun cd=>?_) (fun cd=>?_)
 ·have H:j<l.length:=om;have O:=hl j H;have hw:=v.h (l.getD j 0).toNat om;refine drq [] R9 ?_;refine de_y rfl rfl (xpc rfl rfl O.1 O.2 (Sl.ne M om)) ?_;refine de_y rfl rfl (y_lp rfl (Ar.get M om)) ?_;refine ex ?_;exact bkq (IH _ om ⟨j+1,x+t.hs.getD (l.getD j 0).toNat 0,rfl,rfl,om,om,om⟩)
 refine K.q ?_;exact⟨x,rfl,V,om⟩
theorem P7{a b a' H:Int}:∀h(K:Bool->Heap->Prop),K (decide (a=a'/\b=H)) h->wpS prog (Op.equalIn (9999+1) 93 (.agg #[.J a,.J b]) (.agg #[.J a',.J H])) h K:=fun h K k=>
 xvj underlying93 k_ (yv2 underlying3 underlying3 rfl rfl d_ d_ k_ k_) k
theorem cf87(t:Tn)(M:t.m<=2^20)(V:Per p h)(T:Am p a1 t.nH a2 t.nW a3 t.m t)(x y:Int):
 Ac prog md 87 #[tnV a1 a2 a3 c1 c2 c3 t,.agg #[.J x,.J y]] h fun w h'=>H0 w/\As h h':=by
 have Ty:Sl p a3 t.m 2 (Flow.wcs t.wy):=T.y;refine xsq V func87 fun K b2=>?_;refine bq fun b3=>?_;refine ax ?_;refine xnq (fun m l'=>∃(j:Nat),m=t.m-j/\l'=[(2,none,w_ b2 0),(3,none,w_ b3 0),(5,none,.J ((j:Nat):Int))]/\j<=t.m) ⟨0,rfl,rfl,Nat.zero_le _⟩ sb ?_;rintro _ _ IH ⟨j,rfl,rfl,hj⟩;refine cq (fun O=>?_) (fun O=>?_)
 ·have H:j<t.m:=om;refine drq [] R6 ?_;refine de_y rfl rfl (xlk rfl (T.y.all H)) ?_;refine ex ?_;refine yir rfl rfl P7 ?_;refine cq (fun ce=>?_) (fun ce=>?_)
  ·refine K.q ?_;exact⟨_,rfl⟩
  exact bkq (IH _ om ⟨j+1,rfl,rfl,om⟩)
 refine K.q ?_;exact⟨_,rfl⟩
open Go.X.Flow (Ch Wys wz ics Am Tn Vd tnV HsL RfH)
theorem yg6(m b:Nat)(hm:m<=6)(hb:b<=6):∀(f:Nat)(h:Heap)(p:Aa)(_:Per p h)(e:Option Addr)(V:Nat)(l:List Int)(_:Ar p e l.length l)(_:HsL b l)(_:l.length+f=m),
 Ac prog md 176 #[.slice e l.length V,.J ((m:Nat):Int),.J ((b:Nat):Int)] h (Cm p h fun v p'=>∃a n c,v=.slice a n c/\n<=6^f/\RfH m b p' a n):=by
 intro f
 induction f with
 |zero=>
   intro h p hp e V l I hl hf;refine xxx hp func176 fun K=>?_;refine cq (fun cc=>?_) (fun cc=>?_)
   ·refine ax ?_;refine xtx rfl fun v1 Y1 o1=>?_;have o1:Ab 23 1 v1 [[.slice e l.length V]] Y1:=o1;refine ax ?_;refine xiq o1 (m:=1) rfl d_ fun p2 a4 c4 M e2 a9 S2=>?_;subst e2;exact K.r rfl rfl fun _ H=>xqq H M ⟨a4,1,c4,rfl,d_,[l],⟨_,S2,(Inn.one I).mono M.le⟩,fun x O=>by rw[List.mem_singleton.1 O];exact⟨om,hl⟩⟩
   ·exact absurd om cc
 |succ f ih=>
   intro h p hp e V l I hl hf;obtain⟨P,hP⟩:∃P,P=6^f:=⟨_,rfl⟩
   have b8:P*6<=46656:=by
    have:=Nat.pow_le_pow_right (show 0<6 by decide) (show f+1<=6 by omega);rw[Nat.pow_succ,<- hP]at this;exact this
   refine xxx hp func176 fun K=>?_;refine cq (fun cc=>?_) (fun cc=>?_)
   ·exact absurd cc om
   refine ax ?_;refine xgz (fun l' p_ L_=>∃fr:Nat,fr<=b/\l'=[(0,none,.slice e l.length V),(1,none,.J ((m:Nat):Int)),(2,none,.J ((b:Nat):Int)),(7,none,.J ((fr:Nat):Int))]/\p_=p/\L_=[]) ?_ fun k' nx=>?_;rotate_left
   ·refine cq (fun cd=>?_) (fun cd=>?_)
    ·have a2:0<l.length:=om;have O:=hl (l.length-1) om;have e1:l.getD (((l.length:Nat):Int)-1).toNat 0+1=(((l.getD (l.length-1) 0+1).toNat:Nat):Int):=by
      rw[show(((l.length:Nat):Int)-1).toNat=l.length-1 from om];omega
     have c2:0<=l.getD (((l.length:Nat):Int)-1).toNat 0/\l.getD (((l.length:Nat):Int)-1).toNat 0<b:=by
      rw[show(((l.length:Nat):Int)-1).toNat=l.length-1 from om];exact O
     refine ax ?_;refine ro_y rfl (xpc rfl rfl om om (Sl.ne I a2)) ?_;refine ro_y rfl (y_lp rfl (Ar.get I om)) ?_;refine ax ?_;rw[e1];exact xgx (nx _ _ _ ⟨(l.getD (l.length-1) 0+1).toNat,om,rfl,rfl,rfl⟩) sb
    ·refine ax ?_;exact xgx (nx _ _ _ ⟨0,Nat.zero_le _,rfl,rfl,rfl⟩) sb
   rintro _ p _ ⟨fr,b0,rfl,rfl,rfl⟩;refine ax ?_;refine xyj 23 1 fun o0=>?_
   refine xjq (fun m_ l_ p_ L_=>∃(j:Nat)(v:Value)(Y:Pcs)(es:List (List Value))(xss:List (List Int)),m_=b-j/\l_=[(0,none,.slice e l.length V),(1,none,.J ((m:Nat):Int)),(2,none,.J ((b:Nat):Int)),(8,none,v),(9,none,.J ((j:Nat):Int))]/\PG h.size [] p p_/\
    L_=[Y]/\j<=b/\Ab 23 1 v es Y/\Inn p_ es xss []/\(∀l∈xss,l.length=m/\HsL b l)/\es.length<=j*P) ⟨fr,_,_,_,[],rfl,rfl,.refl _ _ _,rfl,b0,o0,Inn.nil,fun x O=>by simp at O,Nat.zero_le _⟩ sb ?_
   clear o0;rintro _ _ p1 _ IH ⟨j,v1,Y,es,xss,rfl,rfl,g1,rfl,hj,o,hI,hH,hn⟩;refine cq (fun cd=>?_) (fun cd=>?_)
   ·have b7:j<b:=om;have b4:(j+1)*P<=6*P:=Nat.mul_le_mul_right _ om;have b5:(j+1)*P=j*P+P:=Nat.succ_mul j P;have hlen:(l++[((j:Nat):Int)]).length=l.length+1:=by simp
    refine ax ?_;refine xtx rfl fun v2 Y2 o2=>?_;have o2:Ab 3 1 v2 [] Y2:=o2;refine ax ?_;refine xmw rfl rfl o2 (I.mono g1.le) (xcv _) (by simp;omega) fun v3 Y3 o3=>?_;refine ax ?_;refine xtx rfl fun v4 Y4 o4=>?_;have o4:Ab 3 1 v4 (ics [((j:Nat):Int)]) Y4:=o4;refine xbv rfl rfl o3 o4 (xcv _) (by simp[ics];omega) fun v5 Y5 o5=>?_;have o5:Ab 3 1 v5 (ics (l++[((j:Nat):Int)])) Y5:=o5.as (by simp[ics]);refine ax ?_;refine xhx o5 (m:=(l++[((j:Nat):Int)]).length) (by simp[ics]) d_ fun p2 a6 c6 M e6 c1 S6=>?_;subst e6;refine xwv rfl rfl (fun h pe=>ih h _ pe a6 c6 _ S6 (hl.snoc ⟨om,om⟩) (by rw[hlen];omega)) ?_;rintro _ p3 g3 ⟨a7,n7,c7,rfl,a8,a5,⟨b6,S7,a3⟩,b3⟩;have c3:=S7.len;rw[<- hP]at a8;refine xmw rfl rfl o S7 a3.Nw om fun v8 Y8 o8=>?_;exact bkq (IH _ _ _ om ⟨j+1,v8,Y8,_,xss++a5,rfl,rfl,(g1.trans M).trans g3,rfl,om,o8,(hI.mono (M.trans g3).le).app a3,fun x O=>(List.mem_append.1 O).elim (hH x) (b3 x),by rw[List.length_append];omega⟩)
   have b9:j*P<=6*P:=Nat.mul_le_mul_right _ om;refine ax ?_;refine xiq o (m:=es.length) rfl d_ fun p2 a4 c4 M e2 a9 S2=>?_;subst e2;exact K.r rfl rfl fun _ H=>xqq H (g1.trans M) ⟨a4,_,c4,rfl,by rw[Nat.pow_succ,<- hP];omega,xss,⟨es,S2,hI.mono M.le⟩,hH⟩
theorem ye6(t:Tn)(v:Vd t)(a4:t.m<=12)(hp:Per p h)(c1 c2 c3:Nat)(T:Am p a1 t.nH a2 t.nW a3 t.m t){e:Option Addr}(c:Nat)(l:List Int)(I:Ar p e l.length l)(h6:l.length<=6):
 Ac prog md 178 #[tnV a1 a2 a3 c1 c2 c3 t,.slice e l.length c] h fun w h'=>(∃x:Int,w=.J x/\0<=x/\x<=100)/\As h h':=by
 have Tw:=T.w;have h5:=v.nw;have Ty:Sl p a3 t.m 2 (Flow.wcs t.wy):=T.y;refine xsq hp func178 fun K b2=>?_;refine ax ?_;refine xnq (fun m l'=>∃(j:Nat)(x:Int),m=t.nW-j/\l'=[(1,none,.slice e l.length c),(2,none,w_ b2 0),(5,none,.J x),(6,none,.J ((j:Nat):Int))]/\j<=t.nW/\0<=x/\x<=20*j) ⟨0,0,rfl,rfl,Nat.zero_le _,om,om⟩ sb ?_;rintro _ _ V ⟨j,x,rfl,rfl,hj,x0,x1⟩;refine cq (fun cd=>?_) (fun cd=>?_)
 ·have O:j<t.nW:=om;have hw:=v.w j O;refine ax ?_;refine xnq (fun m l'=>∃(i:Nat)(q:Bool),m=t.m-i/\l'=[(1,none,.slice e l.length c),(2,none,w_ b2 0),(5,none,.J x),(6,none,.J ((j:Nat):Int)),(7,none,.bool q),(8,none,.J ((i:Nat):Int))]/\i<=t.m) ⟨0,false,rfl,rfl,Nat.zero_le _⟩ sb ?_;rintro _ _ M ⟨i,q,rfl,rfl,hi⟩;refine cq (fun ce=>?_) (fun ce=>?_)
  ·have H:i<t.m:=om;refine ax ?_;refine ro_y rfl (xoz rfl sdu (fun _=>T.y.we H) (u:=.J (t.wy.getD i wz).2)) ?_;refine ax ?_;refine ro_y rfl (xoz rfl sdu (fun _=>T.y.ho H) (u:=.J (t.wy.getD i wz).1)) ?_;refine ax ?_;refine ykx (Q:=fun _=>True) rfl rfl rfl sdu (fun h pe=>(yg0 _ c l I om h pe).mono fun _ _⟨⟨q,e⟩,k⟩=>⟨⟨q,e,trivial⟩,k⟩) fun q2 _=>?_;exact bkq (M _ om ⟨i+1,_,rfl,rfl,om⟩)
  refine cq (fun cf=>?_) (fun cf=>?_)
  ·exact bkq (V _ om ⟨j+1,x+t.ws.getD j 0,rfl,rfl,om,om,om⟩)
  exact bkq (V _ om ⟨j+1,x,rfl,rfl,om,om,om⟩)
 refine K.q ?_;exact⟨x,rfl,x0,om⟩
theorem cf83(t:Tn)(v:Vd t)(a5:t.m<=12)(hp:Per p h)(T:Am p a1 t.nH a2 t.nW a3 t.m t):
 Ac prog md 83 #[tnV a1 a2 a3 c1 c2 c3 t] h (Cm p h fun w p'=>∃a c e l,w=.tuple #[.slice a l.length c,.J e]/\Ar p' a l.length l/\l.length<=6/\HsL t.nH l):=by
 have h6:=v.nh;have h5:=v.nw;refine xsq hp func83 fun K b1=>?_;refine ax ?_;refine xrx rfl rfl (cf27 t T ⟨om,om,om⟩) ?_;rw[Flow.Cf a5 v];refine cq (fun cc=>?_) (fun _=>?_)
 ·exact(cc rfl).elim
 refine ax ?_
 refine xjq (fun m_ l_ p_ L_=>∃(j:Nat),m_=t.nH-j/\l_=[(1,none,w_ b1 0),(5,none,.J ((j+1:Nat):Int))]/\PG h.size [] p p_/\
  L_=[[(b1,.cells (tnV a1 a2 a3 c1 c2 c3 t).cells 28 (0,0))]]/\j<=t.nH) ⟨0,rfl,rfl,.refl _ _ _,rfl,Nat.zero_le _⟩ sb ?_
 rintro _ _ p1 _ IH ⟨j,rfl,rfl,g1,rfl,hj⟩;refine cq (fun cd=>?_) (fun cd=>?_)
 ·have b5:j<t.nH:=om;refine ax ?_;refine xwv rfl rfl (fun h pe=>yg6 (j+1) t.nH om h6 (j+1) h _ pe none 0 [] (Sl.nil _ _ _) (fun i hi=>by simp at hi) s_) ?_;rintro _ p2 g2 ⟨a4,O,c4,rfl,a8,R⟩;have T2:=Flow.Am.mono T (g1.trans g2).le;have R0:=R;obtain⟨xss,⟨a9,S1,-⟩,-⟩:=R0;have b4:O<=46656:=Nat.le_trans a8 (Nat.pow_le_pow_right (n:=6) d_ (show j+1<=6 by omega));refine ax ?_;refine xnq (fun m l'=>∃(i:Nat),m=O-i/\l'=[(1,none,w_ b1 0),(5,none,.J ((j+1:Nat):Int)),(6,none,.slice a4 O c4),(7,none,.J ((i:Nat):Int))]/\i<=O) ⟨0,rfl,rfl,Nat.zero_le _⟩ sb ?_;rintro _ _ a7 ⟨i,rfl,rfl,hi⟩;refine cq (fun ce=>?_) (fun ce=>?_)
  ·have a6:i<O:=om;obtain⟨b3,k3,l3,M,I3,b0,V⟩:=R.at a6;refine drq [5] [0,1,2,3,4,6,7,8,9,10,5] ?_;refine de_y rfl rfl (y_lp rfl M) ?_;refine ex ?_;refine de_y rfl rfl (y_lp rfl M) ?_;refine ex ?_;refine xgn rfl rfl rfl (fun h pe=>yf6 t v pe c1 c2 c3 T2 k3 l3 I3 om V) ?_;rintro _ ⟨x,rfl,x0,x1⟩;refine xa ?_;refine xeg rfl rfl (fun h pe=>ye6 t v a5 pe c1 c2 c3 T2 k3 l3 I3 om) ?_;rintro _ ⟨y,rfl,y0,y1⟩;refine cq (fun cf=>?_) (fun cf=>?_)
   ·refine ax ?_;refine ro_y rfl (y_lp rfl M) ?_;refine ax ?_;exact K.r rfl rfl fun _ H=>xqq H (g1.trans g2) ⟨b3,k3,0,l3,rfl,I3,om,V⟩
   exact bkq (a7 _ om ⟨i+1,rfl,rfl,om⟩)
  refine ax ?_;rw[show((j+1:Nat):Int)+1=((j+1+1:Nat):Int) from om];exact bkq (IH _ _ _ om ⟨j+1,rfl,rfl,g1.trans g2,rfl,om⟩)
 refine ax ?_;exact K.r rfl rfl fun _ H=>xqq H g1 ⟨none,0,3,[],rfl,Sl.nil _ _ _,d_,fun i hi=>by simp at hi⟩
theorem ym5(s:Shf)(hk:s.ok):∀(f:Nat)(h:Heap)(p:Aa)(_:Per p h)(a b:Option Addr)(ca cb:Nat)(_:Cz p a b s)(e:Option Addr)(c:Nat)(l:List Int)(_:Ar p e l.length l)(_:stp s l)(fr:Nat)
 (_:l=[]->fr=1) (_:0<l.length->l.getD (l.length-1) 0+1=(fr:Nat)) (_:fr+f=s.Af.length+1) (_:l.length<fr),
 Ac prog md 223 #[shV a b ca cb s,.slice e l.length c] h (Cm p h fun v p'=>∃a n c,v=.slice a n c/\n<=2^f/\RfS s p' a n):=by
 intro f
 induction f using Nat.strongRecOn with
 |ind f ih=>
 intro h p hp a b ca cb S e c l I hl fr h0 h1 hf hm;have b7:=hk.2.2.1;refine xsq hp func223 fun K b2=>?_;refine ax ?_;refine xtx rfl fun v1 Y1 o1=>?_;have o1:Ab 23 1 v1 [[.slice e l.length c]] Y1:=o1;refine ax ?_;refine xgz (fun l' p_ L_=>l'=[(1,none,.slice e l.length c),(2,none,w_ b2 0),(5,none,v1),(6,none,.J (fr:Nat))]/\p_=p/\L_=[Y1,[(b2,.cells (shV a b ca cb s).cells 25 (0,0))]]) ?_ fun k' nx=>?_;rotate_left
 ·refine cq (fun ce=>?_) (fun ce=>?_)
  ·have O:0<l.length:=om;have e1:l.getD (((l.length:Nat):Int)-1).toNat 0+1=((fr:Nat):Int):=by
    rw[show(((l.length:Nat):Int)-1).toNat=l.length-1 from om];exact h1 om
   refine ax ?_;refine ro_y rfl (xpc rfl rfl om om (Sl.ne I O)) ?_;refine ro_y rfl (y_lp rfl (Ar.get I om)) ?_;refine ax ?_;rw[e1];exact xgx (nx _ _ _ ⟨rfl,rfl,rfl⟩) sb
  ·have:fr=1:=h0 (List.eq_nil_of_length_eq_zero om);subst this;refine ax ?_;exact xgx (nx _ _ _ ⟨rfl,rfl,rfl⟩) sb
 rintro _ p _ ⟨rfl,rfl,rfl⟩;refine ax ?_
 refine xjq (fun m_ l_ p_ L_=>∃(j:Nat)(v:Value)(Y:Pcs)(es:List (List Value))(xss:List (List Int)),m_=f-j/\l_=[(1,none,.slice e l.length c),(2,none,w_ b2 0),(5,none,v),(7,none,.J ((fr+j:Nat):Int))]/\PG h.size [] p p_/\
  L_=[Y,[(b2,.cells (shV a b ca cb s).cells 25 (0,0))]]/\j<=f/\Ab 23 1 v es Y/\Inn p_ es xss []/\(∀l∈xss,stp s l)/\es.length+2^(f-j)<=2^f+1) ⟨0,v1,Y1,_,[l],rfl,rfl,.refl _ _ _,rfl,Nat.zero_le _,o1,Inn.one I,fun x hx=>by rw[List.mem_singleton.1 hx];exact hl,by simp;omega⟩ sb ?_
 clear o1;rintro _ _ p1 _ IH ⟨j,v,Y,es,xss,rfl,rfl,g1,rfl,hj,o,hI,hH,hn⟩;have b5:2^f<=2^12:=Nat.pow_le_pow_right d_ (by have:=hf;omega);refine cq (fun cd=>?_) (fun cd=>?_)
 ·have b3:j<f:=om;have b4:2^(f-j)=2^(f-j-1)*2:=by rw[<- Nat.pow_succ];congr 1;omega
  refine ax ?_;have b0:∀i,i<l.length->(l++[((fr+j:Nat):Int)]).getD i 0=l.getD i 0:=fun i hi=>by rw[List.getD_eq_getElem?_getD,List.getElem?_append_left hi,<- List.getD_eq_getElem?_getD]
  have a4:(l++[((fr+j:Nat):Int)]).getD l.length 0=((fr+j:Nat):Int):=by rw[List.getD_eq_getElem?_getD,List.getElem?_append_right (Nat.le_refl _),Nat.sub_self];rfl
  have hlen:(l++[((fr+j:Nat):Int)]).length=l.length+1:=by simp
  refine xj2 (args6:=[.tmp 29,.tmp 35]) (QC:=fun v Z=>∃a n c,v=.slice a n c/\n<=2^(f-j-1)/\ ∀p',PLe p1 p'->(∀y∈Z,p' y.1=some y.2)->RfS s p' a n) 2 [1] [v,shV a b ca cb s,undef,.slice e l.length c,undef,.J ((fr+j:Nat):Int)] (fun u=>[shV a b ca cb s,u]) (I.mono g1.le) (by have:=hl.1;omega) rfl rfl s_ (fun val i hi=>?_) (fun val hv=>by show some ([],[val 1,val 7])=_;rw[hv 1 s_];rfl) (fun u Y o2 h L st=>?_) fun val piece hv q=>?_
  ·obtain rfl|rfl|rfl|rfl:i=0\/i=1\/i=3\/i=5:=om
   all_goals
    exact det
  ·obtain⟨p',⟨g',gl⟩,hy,s'⟩:=st.D6;obtain⟨a2,c2,e2,I2⟩:=o2.inP hy;subst e2;rw[Go.X.Flow.Ae]at I2⊢;refine(ih (f-j-1) om h p' s'.per a b ca cb ((S.mono g1.le).mono g'.le) a2 c2 _ I2 ⟨by rw[hlen];omega,fun i hi=>?_⟩ (fr+j+1) (fun z=>by simp at z) (fun _=>by rw[hlen,show l.length+1-1=l.length from rfl,a4];omega) om (by rw[hlen];omega)).mono fun v' h' x=>?_
   ·rw[hlen]at hi;by_cases V:i<l.length
    ·rw[b0 i V];exact hl.2 i V
    ·obtain rfl:i=l.length:=om;rw[a4];omega
   ·obtain⟨Z,⟨p2,⟨a3,n3,c3,e3,a6,R3⟩,le⟩,N⟩:=x.pieces;exact⟨Z,⟨a3,n3,c3,e3,a6,fun M l y=>R3.mono (le M (gl M l fun z hz=>y z (List.mem_append_right _ hz)) fun z hz=>y z (List.mem_append_left _ hz))⟩,N⟩
  obtain⟨a3,n3,c3,e3,a6,a7⟩:=q;refine xkw (l':=[(1,none,.slice e l.length c),(2,none,w_ b2 0),(7,none,.J ((fr+j:Nat):Int)),(28,none,v),(36,none,.slice a3 n3 c3)]) ?_ ⟨rfl,rfl,rfl,by show some (none,val 0)=_;rw[hv 0 om];rfl,by show some (none,val 8)=_;rw[e3],trivial⟩;refine xaw (piece 8) fun p3 g3 hy=>?_;obtain⟨a9,⟨b8,S3,a5⟩,a8⟩:=a7 p3 g3.le hy;refine ax ?_;refine xmw rfl rfl o S3 a5.Nw om fun v4 Y4 o4=>?_;exact bkq (IH _ _ _ om ⟨j+1,v4,Y4,_,xss++a9,rfl,rfl,g1.trans g3,rfl,om,o4,(hI.mono g3.le).app a5,fun x hx=>(List.mem_append.1 hx).elim (hH x) (a8 x),by rw[List.length_append,S3.len];rw[show f-(j+1)=f-j-1 from om];omega⟩)
 obtain rfl:j=f:=om;refine ax ?_;refine xiq o (m:=es.length) rfl d_ fun p2 a2 c2 g2 e2 b6 S2=>?_;subst e2;exact K.r rfl rfl fun _ H=>xqq H (g1.trans g2) ⟨a2,_,c2,rfl,by rw[Nat.sub_self]at hn;omega,xss,⟨es,S2,hI.mono g2.le⟩,hH⟩
theorem ye1{a:Option Addr}(ca cb:Nat)(s:Shf)(S:Cz p a b s)(M:s.ok):Lc prog md p 157 #[shV a b ca cb s] (fun v p'=>∃a n c e,v=.tuple #[.slice a n c,.J e]/\(e=0\/e=3)/\(e=0->0<n)/\n<=4096/\RfS s p' a n):=by
 intro h hp;have h4:=M.1;have a6:=M.2.2.1;have a9:2^s.Af.length<=2^12:=Nat.pow_le_pow_right d_ a6;refine xsq hp func157 fun K b1=>?_;refine ax ?_;refine xrx rfl rfl (cf26 s S ⟨om,om⟩) ?_;rw[show Hd s=0 from if_pos M];refine cq (fun cc=>?_) (fun _=>?_)
 ·exact(cc rfl).elim
 refine ax ?_;refine xwv rfl rfl (fun h pe=>ym5 s M s.Af.length h _ pe a b ca cb S none 0 [] (Sl.nil _ _ _) ⟨s_,fun i hi=>by simp at hi⟩ 1 (fun _=>rfl) (fun z=>by simp at z) om d_) ?_;rintro _ p1 g1 ⟨a1,V,c1,rfl,b3,a8,⟨a4,S1,a3⟩,a5⟩;have T:=S.mono g1.le;refine ax ?_;refine xyj 23 1 fun o0=>?_
 refine xjq (fun m_ l_ p_ L_=>∃(j:Nat)(v:Value)(Y:Pcs)(es:List (List Value))(xss:List (List Int)),m_=V-j/\l_=[(1,none,w_ b1 0),(5,none,v),(6,none,.slice a1 V c1),(7,none,.J ((j:Nat):Int))]/\p_=p1/\
  L_=[Y,[(b1,.cells (shV a b ca cb s).cells 25 (0,0))]]/\j<=V/\Ab 23 1 v es Y/\Inn p1 es xss []/\(∀l∈xss,stp s l)/\es.length<=j) ⟨0,_,_,_,[],rfl,rfl,rfl,rfl,Nat.zero_le _,o0,Inn.nil,fun x O=>by simp at O,Nat.zero_le _⟩ sb ?_
 clear o0;rintro _ _ p1 _ IH ⟨j,v,Y,es,xss,rfl,rfl,rfl,rfl,hj,o,hI,hH,hn⟩;refine cq (fun cd=>?_) (fun cd=>?_)
 ·have a7:j<V:=om;obtain⟨b,c,l,hc,I,hl⟩:=RfS.at ⟨a8,⟨a4,S1,a3⟩,a5⟩ a7;refine drq [] R5 ?_;refine de_y rfl rfl (y_lp rfl hc) ?_;refine xa ?_;refine ckq (yl5 s T M c l I hl) ?_;rintro _ ⟨q,rfl⟩;refine cq (fun ce=>?_) (fun ce=>?_)
  ·refine ax ?_;refine ro_y rfl (y_lp rfl hc) ?_;refine xtx rfl fun v2 Y2 o2=>?_;have o2:Ab 23 1 v2 [[.slice b l.length c]] Y2:=o2;refine ax ?_;refine xbv rfl rfl o o2 (by simp[Be]) (by simp;omega) fun v4 Y4 o4=>?_;exact bkq (IH _ _ _ om ⟨j+1,v4,Y4,_,xss++[l],rfl,rfl,rfl,rfl,om,o4,hI.app (Inn.one I),fun x O=>(List.mem_append.1 O).elim (hH x) fun z=>by rw[List.mem_singleton.1 z];exact hl,by simp;omega⟩)
  exact bkq (IH _ _ _ om ⟨j+1,v,Y,es,xss,rfl,rfl,rfl,rfl,om,o,hI,hH,om⟩)
 refine ax ?_;refine ro_y rfl (xzs rfl sdt o rfl) ?_;refine cq (fun ce=>?_) (fun ce=>?_)
 ·refine ax ?_;exact K.r rfl rfl fun _ H=>xqq H g1 ⟨none,0,0,3,rfl,.inr rfl,fun z=>by simp at z,Nat.zero_le _,[],⟨[],Sl.nil _ _ _,Inn.nil⟩,fun x O=>by simp at O⟩
 refine ax ?_;refine xiq o (m:=es.length) rfl d_ fun p2 a2 c2 g2 e2 b0 S2=>?_;subst e2;exact K.r rfl rfl fun _ H=>xqq H (g1.trans g2) ⟨a2,_,c2,0,rfl,.inl rfl,fun _=>om,om,xss,⟨es,S2,hI.mono g2.le⟩,hH⟩
theorem yq6{a:Option Addr}(ca cb:Nat)(s:Shf)(S:Cz p a b s)(hk:s.ok):Kc prog md p 156 #[shV a b ca cb s] (fun v=>(∃b n c e,v=.tuple #[.slice b n c,.J e]/\(e=0\/e=3)/\n<=12)):=by
 refine xkq func156 fun K b1=>?_;refine cpq (ye1 ca cb s S hk) ?_;rintro _ p1 g1 ⟨a1,n1,c1,e,rfl,he,H,hn,a3,⟨M,S1,a2⟩,O⟩;refine cq (fun cc=>?_) (fun cc=>?_)
 ·refine K.q ?_;exact⟨_,_,_,_,rfl,he,Nat.zero_le _⟩
 have H:=H (Classical.not_not.1 cc);obtain⟨b0,c0,l0,a4,_,a6⟩:=RfS.at ⟨a3,⟨M,S1,a2⟩,O⟩ H;refine ax ?_;refine ro_y rfl (y_lp rfl a4) ?_;refine ax ?_;refine xnq (fun m l'=>∃(j:Nat)(b:Option Addr)(n c:Nat),m=n1-j/\l'=[(4,none,.slice a1 n1 c1),(6,none,.slice b n c),(7,none,.J ((j:Nat):Int))]/\j<=n1/\n<=12) ⟨0,b0,_,c0,rfl,rfl,Nat.zero_le _,a6.1⟩ sb ?_;rintro _ _ IH ⟨j,b,n,c,rfl,rfl,hj,hb⟩;refine cq (fun cd=>?_) (fun cd=>?_)
 ·have a7:j<n1:=om;obtain⟨b2,c2,l2,V,_,a5⟩:=RfS.at ⟨a3,⟨M,S1,a2⟩,O⟩ a7;refine ax ?_;refine ro_y rfl (y_lp rfl V) ?_;refine cq (fun ce=>?_) (fun ce=>?_)
  ·refine ax ?_;refine ro_y rfl (y_lp rfl V) ?_;exact bkq (IH _ om ⟨j+1,b2,_,c2,rfl,rfl,om,a5.1⟩)
  exact bkq (IH _ om ⟨j+1,b,n,c,rfl,rfl,om,hb⟩)
 refine K.q ?_;exact⟨_,_,_,0,rfl,.inl rfl,hb⟩
theorem cf72{a:Option Addr}(s:Shf)(S:Cz p a b s)(H:s.ok):Kc prog md p 72 #[shV a b ca cb s] (fun v=>(∃n e,v=.tuple #[.J n,.J e]/\ -1000000<=n/\n<=1000000)):=by
 refine xkq func72 fun K b1=>?_;refine ckq (yq6 ca cb s S H) ?_;rintro _ ⟨b,n,c,e,rfl,_,hn⟩;refine K.q ?_;exact⟨_,_,rfl,om,om⟩
theorem cf73{a:Option Addr}(s:Shf)(S:Cz p a b s)(hk:s.ok):Kc prog md p 73 #[shV a b ca cb s] (fun v=>(∃n e,v=.tuple #[.J n,.J e]/\ -100000<=n/\n<=100000)):=by
 refine xkq func73 fun K b1=>?_;refine cpq (ye1 ca cb s S hk) ?_;rintro _ p1 g1 ⟨a1,n1,c1,e,rfl,he,H,hn,a2,⟨M,S1,V⟩,O⟩;have T:=S.mono g1.le;refine cq (fun cc=>?_) (fun cc=>?_)
 ·refine K.q ?_;exact⟨0,_,rfl,om,om⟩
 have H:=H (Classical.not_not.1 cc);obtain⟨b0,c0,l0,a3,I0,a5⟩:=RfS.at ⟨a2,⟨M,S1,V⟩,O⟩ H;refine drq [] R4 ?_;refine de_y rfl rfl (y_lp rfl a3) ?_;refine xa ?_;refine ckq (yd1 s T hk c0 l0 I0 a5) ?_;rintro _ ⟨x0,rfl,x1,x2⟩;refine ax ?_;refine xnq (fun m l'=>∃(j:Nat)(x:Int),m=n1-j/\l'=[(1,none,w_ b1 0),(4,none,.slice a1 n1 c1),(6,none,.J x),(7,none,.J ((j:Nat):Int))]/\j<=n1/\ -100000<=x/\x<=100000) ⟨0,x0,rfl,rfl,Nat.zero_le _,x1,x2⟩ sb ?_;rintro _ _ IH ⟨j,x,rfl,rfl,hj,x3,x4⟩;refine cq (fun cd=>?_) (fun cd=>?_)
 ·have a7:j<n1:=om;obtain⟨b2,c2,l2,a6,I2,a4⟩:=RfS.at ⟨a2,⟨M,S1,V⟩,O⟩ a7;refine drq [6] R7 ?_;refine de_y rfl rfl (y_lp rfl a6) ?_;refine ex ?_;refine xgn rfl rfl rfl (yd1 s T hk c2 l2 I2 a4) ?_;rintro _ ⟨y,rfl,y1,y2⟩;refine ex ?_;exact bkq (IH _ om ⟨j+1,min x y,rfl,rfl,om,om,om⟩)
 refine K.q ?_;exact⟨x,0,rfl,x3,x4⟩
theorem yo6{a:Option Addr}(s:Shf)(S:Cz p a b s)(hn:s.Ai.length<=2^20/\s.Af.length<=2^20)(d:Nat)(M:d<=s.Af.length):Lc prog md p 161 #[shV a b ca cb s,.J (d:Nat)] (fun v p'=>∃a b ca cb,v=shV a b ca cb (Fh s d)/\Cz p' a b (Fh s d)):=by
 refine xkq func161 fun K b2=>?_;refine lq fun b4=>?_;refine coq (cf35 s S hn) ?_;rintro _ _ ⟨a1,c1,a2,c2,Y1,Y2,rfl,o1,O,rfl⟩;have h2:=O.room d_ rfl;refine lq fun b5=>?_;refine ax ?_;refine xmd (j:=d) rfl rfl om ?_;refine ax ?_;refine xqz Y1 Y2 ?_;refine xiq o1 (m:=s.Ai.length) (by simp[rcs]) d_ fun p1 a3 c3 g1 e1 a6 S1=>?_;cases e1;refine xiq O (m:=s.Af.length) (by simp[ics]) d_ fun p2 a4 c4 V e2 a5 S2=>?_;cases e2;exact K.e rfl (xoq rfl .nil) fun _ H=>xqq H (g1.trans V) ⟨a1,a2,c1,c2,by show _=Value.agg #[_,.slice _ (s.Af.take d).length _,_,_,_];rw[List.length_take,Nat.min_eq_left M];rfl,ypg (⟨S1.mono V.le,S2⟩:Cz _ _ _ s) M⟩
theorem yn6{a:Option Addr}(s:Shf)(S:Cz p a b s)(hn:s.Ai.length<=2^20/\s.Af.length<=2^20)(x:Int):Lc prog md p 162 #[shV a b ca cb s,.J x] (fun v p'=>∃a b ca cb,v=shV a b ca cb {s with Af:=s.Af++[x]}/\Cz p' a b {s with Af:=s.Af++[x]}):=by
 refine xkq func162 fun K b2=>?_;refine lq fun b4=>?_;refine coq (cf35 s S hn) ?_;rintro _ _ ⟨a1,c1,a2,c2,Y1,Y2,rfl,o1,o2,rfl⟩;refine lq fun b5=>?_;refine ax ?_;refine xtx rfl fun v3 Y3 O=>?_;have O:Ab 3 1 v3 (ics [x]) Y3:=O;refine xbc Y1 Y2 ?_;refine xbv rfl rfl o2 O (xtv _) (by simp[ics];omega) fun v4 Y4 M=>?_;have M:Ab 3 1 v4 (ics (s.Af++[x])) Y4:=M.as (by simp[ics]);obtain⟨a4,c4,rfl,-⟩:=M.val;rw[show(ics (s.Af++[x])).length=s.Af.length+1 by simp[ics]]at M⊢;refine ax ?_;refine xiq o1 (m:=s.Ai.length) (by simp[rcs]) d_ fun p1 a3 c3 g1 e1 a7 S1=>?_;cases e1;refine xiq M (m:=s.Af.length+1) (by simp[ics]) d_ fun p2 a5 c5 V e2 a6 S2=>?_;cases e2;exact K.e rfl (xoq rfl .nil) fun _ H=>xqq H (g1.trans V) ⟨a1,a4,c1,c4,by show _=Value.agg #[_,.slice _ (s.Af++[x]).length _,_,_,_];rw[List.length_append];rfl,S1.mono V.le,by show Ar _ _ (s.Af++[x]).length _;rw[List.length_append];exact S2⟩
theorem cf74{a:Option Addr}(s:Shf)(S:Cz p a b s)(H:s.ok)(x:Int):Kc prog md p 74 #[shV a b ca cb s,.J x] (fun v=>(∃n e,v=.tuple #[.J n,.J e]/\ -1000000<=n/\n<=1000000)):=by
 intro h hp;have h4:=H.1;have a5:=H.2.2.1;refine xsq hp func74 fun K b1=>?_;refine drq [2] R3 ?_;refine xgn rfl rfl rfl (yp6 x) ?_;rintro _ ⟨q,rfl⟩;refine xa ?_;refine cdq (yc1 s S H q) ?_;refine cq (fun cc=>?_) (fun cc=>?_)
 ·refine K.q ?_;exact⟨0,_,rfl,om,om⟩
 refine ax ?_;refine xjq (fun O l_ p_ L_=>∃j:Nat,O=j/\l_=[(1,none,.J x),(2,none,w_ b1 0),(7,none,.J ((j:Nat):Int))]/\PG h.size [] p p_/\L_=[[(b1,.cells (shV a b ca cb s).cells 25 (0,0))],[]]/\j<=s.Af.length) ⟨s.Af.length,rfl,rfl,.refl _ _ _,rfl,Nat.le_refl _⟩ sb ?_;rintro O _ p1 _ IH ⟨j,hm,rfl,M,rfl,V⟩;refine cq (fun cd=>?_) (fun cd=>?_)
 ·refine ax ?_;refine xwv rfl rfl (yo6 s (S.mono M.le) ⟨om,om⟩ j V) ?_;rintro _ p2 g2 ⟨a2,b2,a4,a3,rfl,T⟩;refine ckq (cf73 _ T (ytc H)) ?_;rintro _ ⟨n,e,rfl,n1,n2⟩;refine cq (fun ce=>?_) (fun ce=>?_)
  ·refine K.q ?_;exact⟨_,0,rfl,om,om⟩
  obtain⟨i,rfl⟩:∃i,j=i+1:=⟨j-1,om⟩
  refine ax ?_;rw[show(((i+1:Nat):Int))-1=((i:Nat):Int) from om];exact bkq (IH _ _ _ om ⟨i,rfl,rfl,M.trans g2,rfl,om⟩)
 refine K.q ?_;exact⟨0,0,rfl,om,om⟩
theorem cf75{a:Option Addr}(s:Shf)(S:Cz p a b s)(H:s.ok)(x:Int):Kc prog md p 75 #[shV a b ca cb s,.J x] (fun v=>(∃n e,v=.tuple #[.J n,.J e]/\ -1000000<=n/\n<=1000000)):=by
 have h4:=H.1;have a4:=H.2.2.1;refine xkq func75 fun K b1=>?_;refine drq [] R4 ?_;refine xaj rfl rfl rfl (cf47 s om x) ?_;refine xa ?_;refine cdq (yc1 s S H _) ?_;refine cq (fun M=>?_) (fun M=>?_)
 ·refine K.q ?_;exact⟨0,_,rfl,om,om⟩
 have V:okF s.Ai.length x:=by
  by_cases z:okF s.Ai.length x
  ·exact z
  ·simp[z]at M
 refine cq (fun O=>?_) (fun O=>?_)
 ·refine K.q ?_;exact⟨0,_,rfl,om,om⟩
 refine ckq (cf73 s S H) ?_;rintro _ ⟨n1,e1,rfl,n2,n3⟩;refine ax ?_;refine xwv rfl rfl (yn6 s S ⟨om,om⟩ x) ?_;rintro _ p2 g2 ⟨a2,b2,a5,a3,rfl,T⟩;refine xeg rfl rfl (cf73 _ T (yzl H om V)) ?_;rintro _ ⟨n4,e4,rfl,n5,n6⟩;refine cq (fun ce=>?_) (fun ce=>?_)
 ·refine K.q ?_;exact⟨0,_,rfl,om,om⟩
 refine K.q ?_;exact⟨_,0,rfl,om,om⟩
end Go.Proofs.YtadndcpcjmmngaaGreatDoor
