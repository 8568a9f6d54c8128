/-
  Part of proofs about a town's master: a calculus for Bc beside goroutines that are only leaving, and the Bc. No condition.
-/
import Derived.Test.YtofhlcococeifaaGreatDoorYN
set_option maxHeartbeats 1600000
set_option maxRecDepth 20000
set_option synthInstance.maxSize 2000
namespace Go.X
open Go.Conc
open Go.X.Flow (ics)
variable{aft:Array Edge}{ats ats6:Array TypeId}{l:Env}{K K':Env->List Pcs->Prop}{ff:FuncId}{xss:List (List Int)}{es:List (List Value)}{effs todo zz:List Nat}{ops:List Oper}{args args6:List Operand}{L0 LL:List Pcs}{cap first:List Value}{i n:Nat}{x x6:Operand}{d:Option Tmp}{p p':Ab}{P:Program}{ty:TypeId}{QC:Value->Pcs->Prop}{Q:Value->Prop}
theorem Inn.mono{p p':Ab}{es:List (List Value)}{xss:List (List Int)}(x:Inn p es xss [])(H:PLe p p'):Inn p' es xss []:=fun q l h=>x q (H.trans l) h
theorem Inn.Og{p:Ab}{es:List (List Value)}{xss:List (List Int)}(x:Inn p es xss []):∀u∈es.flatten,Bj u=true:=fun u H=>by
 obtain⟨l,r⟩:=x p (.refl p) s_;obtain⟨e,he,H⟩:=List.mem_flatten.1 H;obtain⟨i,hi,rfl⟩:=List.mem_iff_getElem.1 he;obtain⟨a,c,e,_⟩:=r i om;rw[List.getElem?_eq_getElem hi]at e;rw[Option.some.inj e,List.mem_singleton]at H;rw[H];rfl
def Rfs(p:Ab)(a:Option Addr)(n:Nat)(xss:List (List Int)):Prop:=∃es,Sl p a n 1 es/\Inn p es xss []
section
variable{a:Option Addr}
theorem Rfs.len(r:Rfs p a n xss):xss.length=n:=by
 obtain⟨es,s,x⟩:=r;rw[<- (x p (.refl p) s_).1];exact s.len
theorem Rfs.mono(r:Rfs p a n xss)(H:PLe p p'):Rfs p' a n xss:=by
 obtain⟨es,s,x⟩:=r;exact⟨es,Sl.mono H s,x.mono H⟩
theorem Rfs.ne(r:Rfs p a n xss)(h:0<n):a=some (adr a):=by
 obtain⟨es,s,x⟩:=r;exact s.ne h
theorem Rfs.at(r:Rfs p a n xss)(hi:i<n):∃b c,Aw p ((adr a).add (i*1))=some (.slice b (xss.getD i []).length c)/\Ax p b (xss.getD i []).length (xss.getD i []):=by
 have H:=r.len;obtain⟨es,s,x⟩:=r;obtain⟨b,c,e,I⟩:=(x p (.refl p) s_).2 i om;exact⟨b,c,Sl.get s i _ e 0 _ rfl,I⟩
end
def Ci(QC:Value->Pcs->Prop)(T:TypeId)(B:Nat)(V:List Value)(H:List Int)(d:Int)(i:Nat)(v:Value)(x:Pcs):Prop:=
 if i=B then Aa T 1 v (ics []) x else if i=B+2 then Aa T 1 v (ics H) x else if i=B+4 then Aa T 1 v (ics [d]) x else if i=B+5 then Aa T 1 v (ics (H++[d])) x else if i=B+6 then QC v x else(v=V.getD i undef/\x=[])
theorem DR.mono{P:Program}{md:Md}{ops:List Oper}{n:Nat}{z9:Heap}{zz:List Nat}{p:Ab}{LF:Pcs}{effs todo:List Nat}{K K':Env->List Pcs->Prop}{l:Env}{LL:List Pcs}(h:DR P md ops n z9 zz p LF effs K todo l LL)(e:∀l LL,K l LL->K' l LL):DR P md ops n z9 zz p LF effs K' todo l LL:=by
 induction h with
 |nil k=>exact .nil (e _ _ k)
 |det ho h nx ih=>exact .det ho h ih
 |pin ho hb h nx ih=>exact .pin ho hb h ih
 |N6 ho he hr h nx ih=>exact .N6 ho he hr h ih
theorem ye1{X:Cx}{k:List Item}{H:Env}{P Q:Value->Pcs->Prop}(e:∀v x,P v x->Q v x)
 (h:DE X k ops (.to fun l' LL'=>(∃v,l'=ent ((ops[i]?).bind (·.dst)) none v H)/\ ∀v,l'=ent ((ops[i]?).bind (·.dst)) none v H->P v LL'.flatten) p LL effs todo l L0):
 DE X k ops (.to fun l' LL'=>(∃v,l'=ent ((ops[i]?).bind (·.dst)) none v H)/\ ∀v,l'=ent ((ops[i]?).bind (·.dst)) none v H->Q v LL'.flatten) p LL effs todo l L0:=
 ⟨h.run.mono fun _ _⟨a,b⟩=>⟨a,fun v z=>e _ _ (b v z)⟩⟩
theorem xl3{X:Cx}{k:List Item}{id:Nat}{sT eT:TypeId}{a8 b9 a6 b4 a7:TypeId}{b5 c6 b8 b7 b6:String}{c3 c5 c2 a9 a5:Array Edge}{d0 d1 d2 d3 d4 d5 d6:Nat}{a:Option Addr}{c:Nat}{H:List Int}{d:Int}(B:Nat)(us:List Nat)(V:List Value)(vs:Value->List Value)
 (I:Ax p a n H)(hn:n<=1000)(v1:V.getD (B+1) undef=.slice a n c)(v3:V.getD (B+3) undef=.J d)(has:∀i∈us,i<B)
 (pu:∀val,∀i,i<B\/i=B+1\/i=B+3->DE X k ops (.to fun l' LL'=>(∃v,l'=ent ((ops[i]?).bind (·.dst)) none v (Gz ops val (B+7) l))/\ ∀v,l'=ent ((ops[i]?).bind (·.dst)) none v (Gz ops val (B+7) l)->v=V.getD i undef/\LL'.flatten=[]) p LL [B,B+2,B+4,B+5,B+6] [i] (Gz ops val (B+7) l) [])
 (b0:∀val,(∀i∈us,val i=V.getD i undef)->D4 (Gz ops val (B+7) l) args6=some ([],vs (val (B+5))))
 (b3:∀u Y,Aa eT 1 u (ics (H++[d])) Y-> ∀h L,St X.z9 X.zz p h (Y++L)->Ac X.P X.md ff (first++(vs u++cap)).toArray h fun v' h'=>∃Z,QC v' (Z++Y)/\New h h' Z)
 (nx:∀(val:Nat->Value)(piece:Nat->Pcs),(∀i,i<B->val i=V.getD i undef)->QC (val (B+6)) (piece (B+6))->RO X k ops (ops.drop (B+7)) (Gz ops val (B+7) l) p (piece (B+6)::LL))
 [hT:Ca X.P sT eT][hs:Ak X.P eT 1][hz:Bg X.P eT (.J 0)][hb:ByC X.P eT 8]
 (h0:ops[B]?=some ⟨some d0,.buildSlice sT 0 #[],a8,b5,c3,none⟩:=by rfl)
 (h2:ops[B+2]?=some ⟨some d2,.call ⟨.builtin .append,#[.tmp d0,.tmp d1],#[sT,sT]⟩,b9,c6,c5,none⟩:=by rfl)
 (h4:ops[B+4]?=some ⟨some d4,.buildSlice sT 1 #[(0,.tmp d3)],a6,b8,c2,none⟩:=by rfl)
 (h5:ops[B+5]?=some ⟨some d5,.call ⟨.builtin .append,#[.tmp d2,.tmp d4],#[sT,sT]⟩,b4,b7,a9,none⟩:=by rfl)
 (h6:ops[B+6]?=some ⟨some d6,.call ⟨.value x6,args6.toArray,ats6⟩,a7,b6,a5,none⟩:=by rfl)
 (lk:∀val:Nat->Value,(evS (Gz ops val (B+7) l) (.tmp d0)=some ([],val B)/\evS (Gz ops val (B+7) l) (.tmp d1)=some ([],val (B+1))/\evS (Gz ops val (B+7) l) (.tmp d2)=some ([],val (B+2))/\evS (Gz ops val (B+7) l) (.tmp d3)=some ([],val (B+3))/\evS (Gz ops val (B+7) l) (.tmp d4)=some ([],val (B+4)))/\evS (Gz ops val (B+7) l) x6=some ([],.func (.func ff) first.toArray cap.toArray):=by exact fun _=>⟨⟨rfl,rfl,rfl,rfl,rfl⟩,rfl⟩)
 (a4:Ao X.P ff=true:=by kernel_rfl)(a3:X.P.follows .mixedOrders=true:=by kernel_rfl)(ok:okD X.n ops=true:=by rfl)(c1:Bo ops (B+7) (clo ops)=true:=by kernel_rfl)(hm:Nat.ble (B+7) ops.length=true:=by kernel_rfl)
 (hk:H2 ops (B+7) [] (fun i=>bif i==B+2 then [B]else bif i==B+5 then [B+2,B+4]else bif i==B+6 then [B+5]else []) ([B+6]++(List.range (B+4)).filter fun i=>i !=B&&i !=B+2)=true:=by kernel_rfl)
 (a2:Ke ops (B+7) (clo ops) (fun i=>bif i==B+2 then [B,B+1]else bif i==B+4 then [B+3]else bif i==B+5 then [B+2,B+4]else bif i==B+6 then(B+5)::us else [])=true:=by kernel_rfl)(c4:P3 ops (B+7)=true:=by kernel_rfl):
 RE X (.code (.region id ops.toArray true)::k) l p LL:=by
 have q0:∀{v x},Ci QC eT B V H d B v x=Aa eT 1 v (ics []) x:=by intros;simp[Ci]
 have q2:∀{v x},Ci QC eT B V H d (B+2) v x=Aa eT 1 v (ics H) x:=by intros;simp[Ci]
 have q4:∀{v x},Ci QC eT B V H d (B+4) v x=Aa eT 1 v (ics [d]) x:=by intros;simp[Ci]
 have q5:∀{v x},Ci QC eT B V H d (B+5) v x=Aa eT 1 v (ics (H++[d])) x:=by intros;simp[Ci]
 have q6:∀{v x},Ci QC eT B V H d (B+6) v x=QC v x:=by intros;simp[Ci]
 have qp:∀{i v x},i≠B->i≠B+2->i≠B+4->i≠B+5->i≠B+6->Ci QC eT B V H d i v x=(v=V.getD i undef/\x=[]):=by
  intro i v x z0 z2 z4 z5 z6;unfold Ci;rw[if_neg z0,if_neg z2,if_neg z4,if_neg z5,if_neg z6]
 refine xzh (B+7) [B+6] ((List.range (B+4)).filter fun i=>i !=B&&i !=B+2) [B,B+2,B+4,B+5,B+6] (fun i=>bif i==B+2 then [B]else bif i==B+5 then [B+2,B+4]else bif i==B+6 then [B+5]else []) (fun i=>bif i==B+2 then [B,B+1]else bif i==B+4 then [B+3]else bif i==B+5 then [B+2,B+4]else bif i==B+6 then(B+5)::us else [])
  (fun i _ _ v x=>Ci QC eT B V H d i v x) (fun i hi val piece hq=>?_) (fun val piece j hj v x q=>?_) (fun val piece hq=>?_) a3 ok c1 hm hk ?_ a2 c4
 ·obtain⟨⟨k0,k1,k2,k3,k4⟩,k5⟩:=lk val;have hq:∀j,(bif i==B+2 then [B,B+1]else bif i==B+4 then [B+3]else bif i==B+5 then [B+2,B+4]else bif i==B+6 then(B+5)::us else []).contains j=true->Ci QC eT B V H d j (val j) (piece j):=hq;have M:∀{x y:Nat},x≠y->(x==y)=false:=fun h=>beq_false_of_ne h;have O:∀x:Nat,(x==x)=true:=fun x=>beq_self_eq_true x;show DE _ _ _ _ _ _ _ _ _ (List.map piece (bif i==B+2 then [B]else bif i==B+5 then [B+2,B+4]else bif i==B+6 then [B+5]else []));by_cases z0:i=B
  ·subst z0;rw[show(bif i==i+2 then [i]else bif i==i+5 then [i+2,i+4]else bif i==i+6 then [i+5]else [])=[] by rw[M om,M om,M om];rfl];refine xvz (n:=0) (parts:=[]) (vs:=[]) (cells:=#[]) h0 rfl (fun v Y o=>?_) (he:=List.contains_iff_mem.2 s_);rw[h0];exact xuq ⟨⟨_,rfl⟩,fun v' e=>by
    have e':=xmq e;subst e';show Ci QC eT i V H d i _ (Y++[]);rw[List.append_nil,q0];exact o⟩
  by_cases z2:i=B+2
  ·subst z2;have o:Ci QC eT B V H d B (val B) (piece B):=hq B (by rw[O];simp);have e1:Ci QC eT B V H d (B+1) (val (B+1)) (piece (B+1)):=hq (B+1) (by rw[O];simp);rw[qp om om om om om]at e1;rw[q0]at o;rw[show(bif B+2==B+2 then [B]else bif B+2==B+5 then [B+2,B+4]else bif B+2==B+6 then [B+5]else [])=[B] by rw[O];rfl];show DE _ _ _ _ _ _ _ _ _ [piece B];refine xgl (w:=1) h2 k0 (by rw[k1,e1.1,v1]) o I (xzv _) (by have:=I.len;simp[ics];omega) (fun v Y o2=>?_) (he:=List.contains_iff_mem.2 s_);rw[h2];exact xuq ⟨⟨_,rfl⟩,fun v' e=>by
    have e':=xmq e;subst e';show Ci QC eT B V H d (B+2) _ (Y++[]);rw[List.append_nil,q2];exact o2⟩
  by_cases z4:i=B+4
  ·subst z4;have e3:Ci QC eT B V H d (B+3) (val (B+3)) (piece (B+3)):=hq (B+3) (by rw[M om,O];simp);rw[qp om om om om om]at e3;rw[show(bif B+4==B+2 then [B]else bif B+4==B+5 then [B+2,B+4]else bif B+4==B+6 then [B+5]else [])=[] by rw[M om,M om,M om];rfl];refine xvz (n:=1) (parts:=[(0,.tmp d3)]) (vs:=[(0,.J d)]) (cells:=#[.J d]) h4 (by unfold Nu;rw[k3,e3.1,v3];rfl) (fun v Y o=>?_) (he:=List.contains_iff_mem.2 s_);rw[h4];exact xuq ⟨⟨_,rfl⟩,fun v' e=>by
    have e':=xmq e;subst e';show Ci QC eT B V H d (B+4) _ (Y++[]);rw[List.append_nil,q4];exact o⟩
  by_cases z5:i=B+5
  ·subst z5;have o2:Ci QC eT B V H d (B+2) (val (B+2)) (piece (B+2)):=hq (B+2) (by rw[M om,M om,O];simp);have o4:Ci QC eT B V H d (B+4) (val (B+4)) (piece (B+4)):=hq (B+4) (by rw[M om,M om,O];simp);rw[q2]at o2;rw[q4]at o4;rw[show(bif B+5==B+2 then [B]else bif B+5==B+5 then [B+2,B+4]else bif B+5==B+6 then [B+5]else [])=[B+2,B+4] by rw[M om,O];rfl];show DE _ _ _ _ _ _ _ _ _ [piece (B+2),piece (B+4)];refine xj2 h5 k2 k4 o2 o4 (xzv _) (by have:=I.len;simp[ics];omega) (fun v Y o=>?_) (he:=List.contains_iff_mem.2 s_);rw[h5];exact xuq ⟨⟨_,rfl⟩,fun v' e=>by
    have e':=xmq e;subst e';show Ci QC eT B V H d (B+5) _ (Y++[]);rw[List.append_nil,q5];exact o.as (by simp[ics])⟩
  by_cases z6:i=B+6
  ·subst z6;have e5:Ci QC eT B V H d (B+5) (val (B+5)) (piece (B+5)):=hq (B+5) (by rw[M om,M om,M om,O];simp);rw[q5]at e5;rw[show(bif B+6==B+2 then [B]else bif B+6==B+5 then [B+2,B+4]else bif B+6==B+6 then [B+5]else [])=[B+5] by rw[M om,M om,O];rfl];show DE _ _ _ _ _ _ _ _ _ [piece (B+5)];refine xhb (Q:=fun v Z=>QC v (Z++piece (B+5))) (piece (B+5)) h6 k5 (b0 val fun i hi=>?_) (fun h L s=>b3 _ _ e5 h L s) (fun v Z q=>?_) (he:=List.contains_iff_mem.2 s_) (hf:=a4)
   ·have hB:=has i hi;have e:Ci QC eT B V H d i (val i) (piece i):=hq i (by rw[M om,M om,M om,O];simp[hi]);rw[qp om om om om om]at e;exact e.1
   rw[h6];exact xuq ⟨⟨_,rfl⟩,fun v' e=>by
    have e':=xmq e;subst e';show Ci QC eT B V H d (B+6) _ ((Z++piece (B+5))++[]);rw[List.append_nil,q6];exact q⟩
  rw[show(bif i==B+2 then [B]else bif i==B+5 then [B+2,B+4]else bif i==B+6 then [B+5]else [])=[] by rw[M z2,M z5,M z6];rfl];exact ye1 (fun v x e=>by show Ci QC eT B V H d i v x;rw[qp z0 z2 z4 z5 z6];exact e) (pu val i om)
 ·have hj:=List.mem_filter.1 hj;have h1:=List.mem_range.1 hj.1;have h2:=hj.2;simp only[Bool.and_eq_true,bne_iff_ne,ne_eq]at h2;have q:Ci QC eT B V H d j v x:=q;rw[qp h2.1 h2.2 om om om]at q;exact q.2
 ·refine nx val piece (fun i hi=>?_) ?_
  ·have q:Ci QC eT B V H d i (val i) (piece i):=hq i om;rw[qp om om om om om]at q;exact q.1
  ·have q:Ci QC eT B V H d (B+6) (val (B+6)) (piece (B+6)):=hq (B+6) om;rwa[q6]at q
 ·rw[List.all_eq_true];intro j hj;have:=List.mem_range.1 (List.mem_filter.1 hj).1;exact decide_eq_true om
theorem xap{X:Cx}{k:List Item}{m:Ks}{LF:List Pcs}{pos:String}{vs:List Value}(ho:ops[i]?=some ⟨d,.call ⟨.value x,args.toArray,ats⟩,ty,pos,aft,none⟩)
 (O:evS l x=some ([],.func (.func ff) first.toArray cap.toArray))(H:D4 l args=some ([],vs))(hc:∀h,Per p h->Ac X.P X.md ff (first++(vs++cap)).toArray h fun v' M=>Q v'/\Av h M)(n:∀v,Q v->DE X k ops m p LF effs todo (ent d none v l) ([]::LL))
 (he:effs.contains i=true:=by rfl)(hf:Ao X.P ff=true:=by kernel_rfl):DE X k ops m p LF effs (i::todo) l LL:=
 xuk (Q:=fun v Y=>Q v/\Y=[]) ho O H (fun h V=>(hc h V).mono fun v M⟨q,k⟩=>⟨[],⟨q,rfl⟩,New.of k⟩) (fun v Y⟨q,e⟩=>by subst e;exact n v q) he hf
abbrev shV(a b:Option Addr)(ca cb:Nat)(s:Shf):Value:=.agg #[.slice a s.Ah.length ca,.slice b s.Af.length cb,.J s.deep,.J s.Cp,.J s.rest]
def sml(v:Value):Prop:=∃n:Int,v=.J n/\ -100000<=n/\n<=100000
def Kh(v:Value):Prop:=∃b:Bool,v=.bool b
def stp(s:Shf)(l:List Int):Prop:=l.length<=12/\ ∀i,i<l.length->1<=l.getD i 0/\l.getD i 0<=s.Af.length
end Go.X
namespace Go.X.Cist
variable{w:Int}{ds:List Day}{l:List Int}{i n:Nat}{P:Nat->Int->Prop}{p p':Ab}
abbrev yV(size start:Int)(a:Option Addr)(n c:Nat):Value:=.agg #[.J size,.J start,.slice a n c]
structure YOk(size start:Int)(ds:List Day):Prop where
 z:0<=size/\size<=60
 s:0<=start/\start<=size
 n:ds.length<=8
 d:∀i,i<ds.length->(0<=(ds.getD i dz).lo/\(ds.getD i dz).lo<=(ds.getD i dz).hi/\(ds.getD i dz).hi<=20)/\0<=(ds.getD i dz).want/\(ds.getD i dz).want<=1000
def Nv(ds:List Day)(l:List Int):Prop:=l.length=ds.length/\ ∀i,i<l.length->0<=l.getD i 0/\l.getD i 0<=20
def O4(l:List Int):Prop:=∀i,i<l.length->0<=l.getD i 0/\l.getD i 0<=60
def O2(ds:List Day)(l:List Int):Prop:=∀i,i<l.length->(0<=l.getD i 0/\l.getD i 0<=1000)/\((ds.getD i dz).want=0->l.getD i 0=0)/\(60<(ds.getD i dz).want->0<l.getD i 0)
theorem Hk{x:Int}(h:∀i,i<l.length->P i (l.getD i 0))(H:P l.length x):∀i,i<(l++[x]).length->P i ((l++[x]).getD i 0):=fun i hi=>by
 rw[List.length_append,List.length_singleton]at hi;rw[List.getD_eq_getElem?_getD];by_cases z:i<l.length
 ·rw[List.getElem?_append_left z,<- List.getD_eq_getElem?_getD];exact h i z
 ·obtain rfl:i=l.length:=om;rw[List.getElem?_append_right (Nat.le_refl _),Nat.sub_self];exact H
def Mu(p:Ab)(ds:List Day)(e:List Value):Prop:=∃a1 c1 H a2 c2 M a3 c3 n,e=[.slice a1 n c1,.slice a2 n c2,.slice a3 n c3]/\n=ds.length/\(Ax p a1 n H/\O4 H)/\Ax p a2 n M/\O2 ds M
theorem Mu.mono{p p':Ab}{ds:List Day}{e:List Value}(s:Mu p ds e)(H:PLe p p'):Mu p' ds e:=by
 obtain⟨a1,c1,M,a2,c2,l2,a3,c3,n,e,hn,⟨V,O⟩,I2,h2⟩:=s;exact⟨a1,c1,M,a2,c2,l2,a3,c3,n,e,hn,⟨V.mono H,O⟩,I2.mono H,h2⟩
def Nl(l:List Int):Prop:=∀i,i<l.length->0<=l.getD i 0/\l.getD i 0<=20
def RfW(ds:List Day)(p:Ab)(a:Option Addr)(n:Nat):Prop:=∃xss,Rfs p a n xss/\ ∀l∈xss,Nv ds l
theorem RfW.at{ds:List Day}{p:Ab}{a:Option Addr}{n i:Nat}(r:RfW ds p a n)(hi:i<n):∃b c l,Aw p ((adr a).add (i*1))=some (.slice b (List.length l) c)/\Ax p b l.length l/\Nv ds l:=by
 obtain⟨xss,R,H⟩:=r;obtain⟨b,c,e,I⟩:=R.at hi;exact⟨b,c,_,e,I,H _ (by rw[Flow.Au (by rw[R.len];exact hi)];exact List.getElem_mem _)⟩
theorem RfW.mono{ds:List Day}{p p':Ab}{a:Option Addr}{n:Nat}(r:RfW ds p a n)(M:PLe p p'):RfW ds p' a n:=by
 obtain⟨xss,R,H⟩:=r;exact⟨xss,R.mono M,H⟩
theorem Ok.yok{size start:Int}{ds:List Day}(h:Ok size start ds):YOk size start ds:=⟨⟨h.1,h.2.1⟩,⟨h.2.2.1,h.2.2.2.1⟩,h.2.2.2.2.1,fun i hi=>by
 have:=h.2.2.2.2.2 i hi;unfold Dq at this;omega⟩
theorem YOk.sized{size start:Int}{ds:List Day}(h:YOk size start ds){z:Int}(H:0<=z/\z<=60):YOk z (min start z) ds:=⟨H,by have:=h.s;omega,h.n,h.d⟩
theorem YOk.Hb{size start:Int}(h:YOk size start ds){wf:Nat->Int->Int}(hw:∀i w,i<ds.length->0<=w->w<=1000->0<=wf i w/\wf i w<=1000):YOk size start (Hb wf ds):=⟨h.z,h.s,by rw[B7];exact h.n,fun i hi=>by
 rw[B7]at hi;have d:=h.d i hi;have:=hw i _ hi d.2.1 d.2.2;unfold Cist.Hb;rw[xik hi,if_pos hi];exact⟨d.1,this⟩⟩
def K7(p:Ab)(ds:List Day)(a:Option Addr)(n:Nat):Prop:=∃es,Sl p a n 3 es/\ ∀e∈es,Mu p ds e
theorem K7.at{p:Ab}{ds:List Day}{a:Option Addr}{n i:Nat}(s:K7 p ds a n)(hi:i<n):∃b1 c1 M b2 c2 O,(Aw p ((adr a).add (i*3))=some (.slice b1 ds.length c1)/\Ax p b1 ds.length M/\O4 M)/\Aw p (((adr a).add (i*3)).add 1)=some (.slice b2 ds.length c2)/\Ax p b2 ds.length O/\O2 ds O:=by
 obtain⟨es,S,H⟩:=s;have hl:=S.len;obtain⟨a1,c1,M,a2,c2,O,a3,c3,n',e,rfl,⟨I1,V⟩,I2,h2⟩:=H es[i] (List.getElem_mem om);have he:es[i]?=some es[i]:=List.getElem?_eq_getElem om;exact⟨a1,c1,M,a2,c2,O,⟨Sl.get S i _ he 0 _ (by rw[e];rfl),I1,V⟩,Sl.get S i _ he 1 _ (by rw[e];rfl),I2,h2⟩
theorem K7.ne{p:Ab}{ds:List Day}{a:Option Addr}{n:Nat}(s:K7 p ds a n)(h:0<n):a=some (adr a):=by
 obtain⟨es,S,H⟩:=s;exact S.ne h
theorem K7.mono{p p':Ab}{ds:List Day}{a:Option Addr}{n:Nat}(s:K7 p ds a n)(M:PLe p p'):K7 p' ds a n:=by
 obtain⟨es,S,H⟩:=s;exact⟨es,Sl.mono M S,fun e he=>(H e he).mono M⟩
theorem Ds:(B8 ds i w).length=ds.length:=by simp[B8]
theorem Fx{k:Nat}(hi:i<ds.length):(B8 ds i w).getD k dz=if k=i then {ds.getD i dz with want:=w}else ds.getD k dz:=by
 simp only[B8,List.getD_eq_getElem?_getD,List.getElem?_set];by_cases e:i=k
 ·subst e;simp[hi]
 ·simp[e,Ne.symm e]
theorem Mp{wf:Nat->Int->Int}(hi:i<ds.length):((Hb wf ds).getD i dz).want=wf i (ds.getD i dz).want:=by
 unfold Hb;rw[xik hi,if_pos hi]
theorem YOk.B8{size start:Int}(h:YOk size start ds)(hi:i<ds.length)(hw:0<=w/\w<=1000):YOk size start (B8 ds i w):=⟨h.z,h.s,by rw[Ds];exact h.n,fun k H=>by
 rw[Ds]at H;rw[Fx hi];split
 ·rename_i e;subst e;exact⟨(h.d k H).1,hw⟩
 ·exact h.d k H⟩
end Go.X.Cist
namespace Go.X
theorem ybr{X:Cx}{k:List Item}{ops:List Oper}{m:Ks}{l:Env}{p:Ab}{LF LL:List Pcs}{effs todo:List Nat}{d:Option Tmp}{ty:TypeId}{pos:String}{aft:Array Edge}{x y:Operand}{i w:Nat}{t e:TypeId}{q c j:Nat}{a:Option Addr}{O:IntKind}(ho:ops[i]?=some ⟨d,.slice t x none (some y) none,ty,pos,aft,none⟩)
 (H:evS l x=some ([],.slice a q c))(hy:evS l y=some ([],.int O ((j:Nat):Int)))(M:j<=c)[f:Ca X.P t e][sz:Ak X.P e w]
 (n:DE X k ops m p LF effs todo (ent d none (.slice a j c) l) LL):DE X k ops m p LF effs (i::todo) l LL:=
 xk4 (g:=none) ho rfl rfl (fun tm V _ E _=>by
  have z:=xzk (tm:=tm) (h:=V) (d:=d) (ty:=ty) (pos:=pos) (aft:=aft) (gd:=none) f.h sz.h (xdq E H trivial) (.none 0) (.nat q (xdq E hy trivial)) (Nat.zero_le j) M;rw[xl4,Nat.sub_zero,Nat.sub_zero]at z;exact z) n
end Go.X
namespace Go.X.Flow
open Go.X
variable{x:Int}{d:List Int}{f i n:Nat}{p p':Ab}{t:Tn}
abbrev tnV(a1 a2 a3:Option Addr)(c1 c2 c3:Nat)(t:Tn):Value:=.agg #[.slice a1 t.nH c1,.slice a2 t.nW c2,.slice a3 t.m c3]
def Km(t:Tn)(d:List Int):Nat->List Int
 |0=>[]
 |k+1=>put (Km t d k) (t.hs.getD k 0-Cb t d d.length ((k:Nat):Int))
theorem Hs(t:Tn)(d:List Int):∀k,(Km t d k).length=k
 |0=>rfl
 |k+1=>by rw[Km,Fw,Hs t d k]
theorem Mb{t:Tn}{d:List Int}(v:Vd t)(M:∀i,i<d.length->0<=d.getD i 0/\d.getD i 0<=9)(H:d.length<=12):∀{k:Nat},k<=t.nH-> ∀x∈Km t d k,-12000<=x/\x<=9
 |0,_,x,hx=>by simp[Km]at hx
 |k+1,hk,x,hx=>by
   rcases List.mem_cons.1 ((xkf _ _).mem_iff.1 hx)with rfl|hx
   ·have:=v.h k hk;have b:0<=Cb t d d.length ((k:Nat):Int)/\Cb t d d.length ((k:Nat):Int)<=1000*d.length:=B3 fun i hi=>by have:=M i hi;unfold dv;omega
    omega
   ·exact Mb v M H (Nat.le_of_succ_le hk) x hx
def E8(t:Tn)(d:List Int):Int:=min (t.hs.getD (t.wy.getD d.length wz).1.toNat 0-Cb t d d.length (t.wy.getD d.length wz).1) (t.ws.getD (t.wy.getD d.length wz).2.toNat 0-Dk t d d.length (t.wy.getD d.length wz).2)
def dvs(t:Tn):Nat->List Int->List (List Int)
 |0,d=>[d]
 |f+1,d=>(List.range (E8 t d+1).toNat).flatMap fun n:Nat=>dvs t f (d++[(n:Int)])
def dpre(t:Tn)(f:Nat)(d:List Int)(k:Nat):List (List Int):=(List.range k).flatMap fun n:Nat=>dvs t f (d++[(n:Int)])
theorem Gq{k:Nat}:dpre t f d (k+1)=dpre t f d k++dvs t f (d++[(k:Int)]):=by
 unfold dpre;rw[List.range_succ,List.flatMap_append];simp
theorem yeg{P k:Nat}(H:∀n:Nat,n<k->(dvs t f (d++[(n:Int)])).length<=P):(dpre t f d k).length<=k*P:=by
 induction k with
 |zero=>simp[dpre]
 |succ k ih=>
   rw[Gq,List.length_append,Nat.succ_mul];have a:=ih fun n hn=>H n om;have b:=H k om;omega
structure Gt(t:Tn)(d:List Int):Prop where
 sm:∀i,i<d.length->0<=d.getD i 0/\d.getD i 0<=9
 hs:∀i,i<t.m->Cb t d d.length (t.wy.getD i wz).1<=t.hs.getD (t.wy.getD i wz).1.toNat 0
 ws:∀i,i<t.m->Dk t d d.length (t.wy.getD i wz).2<=t.ws.getD (t.wy.getD i wz).2.toNat 0
theorem ybw{n:Int}(h:i<d.length):dv (d++[n]) i=dv d i:=by
 unfold dv;rw[List.getD_eq_getElem?_getD,List.getD_eq_getElem?_getD,List.getElem?_append_left h]
theorem ycw{n:Int}:dv (d++[n]) d.length=n:=by
 unfold dv;rw[List.getD_eq_getElem?_getD,List.getElem?_append_right (Nat.le_refl _)];simp
theorem yew{n:Int}:Cb t (d++[n]) (d.length+1) x=Cb t d d.length x+if(t.wy.getD d.length wz).1=x then n else 0:=by
 unfold Cb;rw[sm,ycw,xux (g:=fun i=>if(t.wy.getD i wz).1=x then dv d i else 0) fun i hi=>by rw[ybw hi]]
theorem yav{n:Int}:Dk t (d++[n]) (d.length+1) x=Dk t d d.length x+if(t.wy.getD d.length wz).2=x then n else 0:=by
 unfold Dk;rw[sm,ycw,xux (g:=fun i=>if(t.wy.getD i wz).2=x then dv d i else 0) fun i hi=>by rw[ybw hi]]
theorem Gt.bd{t:Tn}{d:List Int}(D:Gt t d)(x:Int):(0<=Cb t d d.length x/\Cb t d d.length x<=1000*d.length)/\0<=Dk t d d.length x/\Dk t d d.length x<=1000*d.length:=
 have H:∀i,i<d.length->0<=dv d i/\dv d i<=1000:=fun i hi=>by have:=D.sm i hi;unfold dv;omega
 ⟨B3 H,B3 H⟩
theorem Gt.Fh{t:Tn}{d:List Int}(D:Gt t d)(v:Vd t)(h:d.length<t.m):0<=E8 t d/\E8 t d<=9:=by
 have w:=v.wok _ h;have a:=D.hs _ h;have b:=D.ws _ h;have c:=(D.bd (t.wy.getD d.length wz).1).1;have e:=v.h _ w.1.2;unfold E8;omega
theorem Gt.next{t:Tn}{d:List Int}(D:Gt t d)(v:Vd t)(h:d.length<t.m){n:Int}(V:0<=n)(M:n<=E8 t d):Gt t (d++[n]):=by
 have O:=D.Fh v h;have H:(d++[n]).length=d.length+1:=by simp
 have n9:=Int.le_trans M O.2;unfold E8 at M;refine⟨fun i hi=>?_,fun i hi=>?_,fun i hi=>?_⟩
 ·rw[H]at hi;show 0<=dv (d++[n]) i/\dv (d++[n]) i<=9;rcases Nat.lt_or_ge i d.length with z|z
  ·rw[ybw z];exact D.sm i z
  ·obtain rfl:i=d.length:=om;rw[ycw];omega
 ·rw[H,yew];have:=D.hs i hi;split
  ·rename_i e;rw[<- e]at this⊢;omega
  ·omega
 ·rw[H,yav];have:=D.ws i hi;split
  ·rename_i e;rw[<- e]at this⊢;omega
  ·omega
theorem Gt.nil{t:Tn}(v:Vd t):Gt t []:=⟨fun i hi=>by simp at hi,fun i hi=>(v.h _ (v.wok i hi).1.2).1,fun i hi=>(v.w _ (v.wok i hi).2.2).1⟩
theorem Hl{t:Tn}(v:Vd t):∀{f:Nat}{d:List Int},Gt t d->d.length+f=t.m->(dvs t f d).length<=10^f
 |0,_,_,_=>Nat.le_refl _
 |f+1,d,D,h=>by
   have H:=D.Fh v om;have:=yeg (t:=t) (f:=f) (d:=d) (P:=10^f) (k:=(E8 t d+1).toNat) fun n hn=>Hl v (D.next v om (n:=n) om om) (by simp;omega);have k:(E8 t d+1).toNat*10^f<=10*10^f:=Nat.mul_le_mul_right _ om;rw[Nat.pow_succ];unfold dpre at this;rw[dvs];omega
theorem yaw{t:Tn}(v:Vd t):∀{f:Nat}{d:List Int},Gt t d->d.length+f=t.m-> ∃l,l∈dvs t f d
 |0,d,_,_=>⟨d,List.mem_singleton.2 rfl⟩
 |f+1,d,D,h=>by
   have M:=D.Fh v om;obtain⟨l,H⟩:=yaw v (D.next v om (n:=((0:Nat):Int)) om om) (f:=f) (by simp;omega);exact⟨l,by rw[dvs];exact List.mem_flatMap.2 ⟨0,List.mem_range.2 om,H⟩⟩
theorem Mr{t:Tn}(v:Vd t):∀{f:Nat}{d l:List Int},Gt t d->d.length+f=t.m->l∈dvs t f d->Gt t l/\l.length=t.m
 |0,d,l,D,h,H=>by
   obtain rfl:=List.mem_singleton.1 H;exact⟨D,h⟩
 |f+1,d,l,D,h,H=>by
   have M:=D.Fh v om;rw[dvs]at H;obtain⟨n,hn,H⟩:=List.mem_flatMap.1 H;have hn:=List.mem_range.1 hn;exact Mr v (D.next v om (n:=n) om om) (by simp;omega) H
def RfD(t:Tn)(p:Ab)(a:Option Addr)(n:Nat):Prop:=Rfs p a n (dvs t t.m [])
theorem RfD.mono{t:Tn}{p p':Ab}{a:Option Addr}{n:Nat}(r:RfD t p a n)(H:PLe p p'):RfD t p' a n:=Rfs.mono r H
theorem RfD.pos{t:Tn}{p:Ab}{a:Option Addr}{n:Nat}(r:RfD t p a n)(v:Vd t):0<n:=by
 obtain⟨l,H⟩:=yaw v (Gt.nil v) (f:=t.m) s_;have:=Rfs.len r;have:=List.length_pos_of_mem H;omega
theorem RfD.le{t:Tn}{p:Ab}{a:Option Addr}{n:Nat}(r:RfD t p a n)(v:Vd t)(H:t.m<=12):n<=1000000000000:=by
 have:=Rfs.len r;have h:=Hl v (Gt.nil v) (f:=t.m) s_;have k:10^t.m<=10^12:=Nat.pow_le_pow_right d_ H;omega
theorem RfD.at{t:Tn}{p:Ab}{a:Option Addr}{n i:Nat}(r:RfD t p a n)(v:Vd t)(hi:i<n):∃b c l,Aw p ((adr a).add (i*1))=some (.slice b (List.length l) c)/\Ax p b l.length l/\(l∈dvs t t.m []/\l=(dvs t t.m []).getD i [])/\l.length=t.m/\ ∀i,i<l.length->0<=l.getD i 0/\l.getD i 0<=9:=by
 obtain⟨b,c,e,I⟩:=Rfs.at r hi;have H:(dvs t t.m []).getD i []∈dvs t t.m []:=by rw[Flow.Au (by rw[Rfs.len r];exact hi)];exact List.getElem_mem _
 have M:=Mr v (Gt.nil v) s_ H;exact⟨b,c,_,e,I,⟨H,rfl⟩,M.2,M.1.sm⟩
def RfX(t:Tn)(p:Ab)(a:Option Addr)(n:Nat):Prop:=∃xss,Rfs p a n xss/\ ∀l∈xss,l.length=t.m/\ ∀i,i<l.length->0<=l.getD i 0/\l.getD i 0<=9
theorem RfX.mono{t:Tn}{p p':Ab}{a:Option Addr}{n:Nat}(r:RfX t p a n)(M:PLe p p'):RfX t p' a n:=by
 obtain⟨x,R,H⟩:=r;exact⟨x,R.mono M,H⟩
theorem RfX.at{t:Tn}{p:Ab}{a:Option Addr}{n i:Nat}(r:RfX t p a n)(hi:i<n):∃b c l,Aw p ((adr a).add (i*1))=some (.slice b (List.length l) c)/\Ax p b l.length l/\l.length=t.m/\ ∀i,i<l.length->0<=l.getD i 0/\l.getD i 0<=9:=by
 obtain⟨x,R,H⟩:=r;obtain⟨b,c,e,I⟩:=R.at hi;have h:=H (x.getD i []) (by rw[Flow.Au (by rw[R.len];exact hi)];exact List.getElem_mem _);exact⟨b,c,_,e,I,h.1,h.2⟩
end Go.X.Flow
namespace Go.X
open Go.Conc
theorem yf4{P : Program}{dd : Nat}{f1 f2 : Field}{a b a' b' : Int}(h1 : P.underlying f1.type = some (.int .i64))(h2 : P.underlying f2.type = some (.int .i64))(o1 : f1.offset = 0)(o2 : f2.offset = 1)(m1 : f1.name ≠ "_")(m2 : f2.name ≠ "_")(g1 : Gs P f1.type = some false)(g2 : Gs P f2.type = some false):
 Pa P (dd+1) #[.J a,.J b] #[.J a',.J b'] [f1,f2] (decide (a=a'/\b=b')):=by
 refine⟨m1,_,_,decide (a=a'),fun h K k=>xlz g1 (by rw[o1];rfl) k,fun h K k=>xlz g1 (by rw[o1];rfl) k,fun h K k=>xpv h1 k,?_⟩;by_cases e1:a=a'
 ·refine .inr ⟨decide_eq_true e1,m2,_,_,decide (b=b'),fun h K k=>xlz g2 (by rw[o2];rfl) k,fun h K k=>xlz g2 (by rw[o2];rfl) k,fun h K k=>xpv h2 k,?_⟩;by_cases e2:b=b'
  ·exact .inr ⟨decide_eq_true e2,decide_eq_true ⟨e1,e2⟩⟩
  ·exact .inl ⟨decide_eq_false e2,decide_eq_false fun x=>e2 x.2⟩
 ·exact .inl ⟨decide_eq_false e1,decide_eq_false fun x=>e1 x.1⟩
end Go.X
namespace Go.X.Flow
open Go.X
def HsL(b:Nat)(l:List Int):Prop:=∀i,i<l.length->0<=l.getD i 0/\l.getD i 0<b
theorem HsL.snoc{b:Nat}{l:List Int}(H:HsL b l){x:Int}(M:0<=x/\x<b):HsL b (l++[x]):=fun i hi=>by
 rw[List.length_append,List.length_singleton]at hi;rw[List.getD_eq_getElem?_getD];rcases Nat.lt_or_ge i l.length with z|z
 ·rw[List.getElem?_append_left z,<- List.getD_eq_getElem?_getD];exact H i z
 ·obtain rfl:i=l.length:=om;rw[List.getElem?_append_right (Nat.le_refl _)];simpa using M
def RfH(m b:Nat)(p:Ab)(a:Option Addr)(n:Nat):Prop:=∃xss,Rfs p a n xss/\ ∀l∈xss,l.length=m/\HsL b l
theorem RfH.mono{m b:Nat}{p p':Ab}{a:Option Addr}{n:Nat}(r:RfH m b p a n)(M:PLe p p'):RfH m b p' a n:=by
 obtain⟨x,R,H⟩:=r;exact⟨x,R.mono M,H⟩
theorem RfH.at{m b:Nat}{p:Ab}{a:Option Addr}{n i:Nat}(r:RfH m b p a n)(hi:i<n):∃M c l,Aw p ((adr a).add (i*1))=some (.slice M (List.length l) c)/\Ax p M l.length l/\l.length=m/\HsL b l:=by
 obtain⟨x,R,H⟩:=r;obtain⟨M,c,e,I⟩:=R.at hi;have h:=H (x.getD i []) (by rw[Flow.Au (by rw[R.len];exact hi)];exact List.getElem_mem _);exact⟨M,c,_,e,I,h.1,h.2⟩
end Go.X.Flow
namespace Go.X
def RfS(s:Shf)(p:Ab)(a:Option Addr)(n:Nat):Prop:=∃xss,Rfs p a n xss/\ ∀l∈xss,stp s l
theorem RfS.at{s:Shf}{p:Ab}{a:Option Addr}{n i:Nat}(r:RfS s p a n)(hi:i<n):∃b c l,Aw p ((adr a).add (i*1))=some (.slice b (List.length l) c)/\Ax p b l.length l/\stp s l:=by
 obtain⟨xss,R,H⟩:=r;obtain⟨b,c,e,I⟩:=R.at hi;exact⟨b,c,_,e,I,H _ (by rw[Flow.Au (by rw[R.len];exact hi)];exact List.getElem_mem _)⟩
theorem RfS.ne{s:Shf}{p:Ab}{a:Option Addr}{n:Nat}(r:RfS s p a n)(h:0<n):a=some (adr a):=by
 obtain⟨xss,R,H⟩:=r;exact R.ne h
theorem RfS.mono{s:Shf}{p p':Ab}{a:Option Addr}{n:Nat}(r:RfS s p a n)(M:PLe p p'):RfS s p' a n:=by
 obtain⟨xss,R,H⟩:=r;exact⟨xss,R.mono M,H⟩
theorem yhf{s:Shf}(h:s.ok){d:Nat}:(Fc s d).ok:=⟨h.1,h.2.1,by have:=h.2.2.1;show(s.Af.take d).length<=12;rw[List.length_take];omega,fun x H=>h.2.2.2.1 x (List.mem_of_mem_take H),h.2.2.2.2⟩
theorem ypn{s:Shf}(h:s.ok)(H:s.Af.length<12){x:Int}(O:okF s.Ah.length x):({s with Af:=s.Af++[x]}:Shf).ok:=⟨h.1,h.2.1,by show(s.Af++[x]).length<=12;rw[List.length_append];exact H,fun y M=>(List.mem_append.1 M).elim (h.2.2.2.1 y) fun z=>by rw[List.mem_singleton.1 z];exact O,h.2.2.2.2⟩
end Go.X
namespace Go.Proofs.YtofhlcococeifaaGreatDoor
open Go.Proofs.Tryz
open Go.X Go.X.Ms Go.Conc
open Go.X.Flow (ics)
variable{h:Heap}{x y z:Int}{md:Md}{c1 c2 c3 ca cb n:Nat}{b:Option Addr}{p:Ab}
theorem ys1{a:Option Addr}(n c:Nat)(l:List Int)(I:Ax p a n l)(hn:n<=2^40):Kc prog md p 239 #[.slice a n c,.J x] (fun v=>Kh v):=by
 refine xlq func239 fun K=>?_;refine xnq (fun m l'=>∃j:Nat,m=n-j/\l'=[(0,none,.slice a n c),(1,none,.J x),(5,none,.J ((j:Nat):Int))]/\j<=n) ⟨0,rfl,rfl,Nat.zero_le _⟩ sb ?_;rintro _ _ H ⟨j,rfl,rfl,V⟩;refine cq (fun O=>?_) (fun O=>?_)
 ·have M:j<n:=om;refine cq (fun _=>?_) (fun _=>?_)
  ·refine K.q ?_;exact⟨_,rfl⟩
  exact bkq (H _ om ⟨j+1,rfl,rfl,om⟩)
 refine K.q ?_;exact⟨_,rfl⟩
theorem yc5{a:Option Addr}(n c:Nat)(l:List Int)(I:Ax p a n l)(hn:n<=2^40):Kc prog md p 318 #[.slice a n c,.J x,.J y] (fun v=>Kh v):=by
 refine xlq func318 fun K=>?_;refine xnq (fun m l'=>∃j:Nat,m=n-j/\l'=[(0,none,.slice a n c),(1,none,.J x),(2,none,.J y),(7,none,.J ((j:Nat):Int))]/\j<=n) ⟨0,rfl,rfl,Nat.zero_le _⟩ sb ?_;rintro _ _ M ⟨j,rfl,rfl,hj⟩;refine cq (fun V=>?_) (fun V=>?_)
 ·have O:j<n:=om;refine drq [] R21 ?_;refine xzz rfl rfl rfl cf95 ?_;refine ex ?_;refine de_y rfl rfl (xfv rfl rfl sdu sdu (fun H=>⟨⟨by simp at H;omega,om⟩,Sl.ne I om⟩)) ?_;refine de_y rfl rfl (xdj rfl sdu (fun _=>Ax.get I om) (u:=.J (l.getD (((j:Nat):Int)-1).toNat 0))) ?_;refine ex ?_;refine cq (fun _=>?_) (fun _=>?_)
  ·refine K.q ?_;exact⟨_,rfl⟩
  exact bkq (M _ om ⟨j+1,rfl,rfl,om⟩)
 refine K.q ?_;exact⟨_,rfl⟩
theorem yng{a:Option Addr}(s:Shf)(S:Cy p a b s)(O:s.ok)(i:Nat)(hi:i<s.Af.length)(M:x=(i:Nat)):Dc prog md p 272 #[shV a b ca cb s,.J x] (.agg #[.J (s.rk i).hr,.J (s.rk i).pe,.J (s.rk i).sd,.J (s.rk i).st]):=by
 subst M;have hf:=O.Fu (i:=i) om;have V:=S.f;refine xkq func272 fun K b1=>?_;refine lq fun b2=>?_;refine drq [] R9 ?_;refine de_y rfl rfl (xed rfl rfl om om (S.r.ne om)) ?_;refine de_y rfl rfl (xmj rfl (S.r.all hf.2.1)) ?_;refine xa ?_;exact K.e rfl (xpq rfl .nil) fun _ H=>⟨rfl,H.kept⟩
theorem ys6{a:Option Addr}(s:Shf)(S:Cy p a b s)(H:s.ok)(i:Nat)(hi:i<s.Af.length):Kc prog md p 233 #[shV a b ca cb s,.J (i:Nat)] (fun v=>(∃n:Int,v=.J n/\0<=n/\n<=300)):=by
 have M:=H.Li hi;have O:=H.2.2.1;have V:=Ns (i:=i) om H.2.2.2.2.1;unfold okR at M;refine xkq func233 fun K b1=>?_;refine drq [] R8 ?_;refine xzz rfl rfl rfl (yng s S H i hi rfl) ?_;refine ex ?_;refine K.q ?_;exact⟨_,rfl,om,om⟩
theorem yr6{a:Option Addr}(s:Shf)(S:Cy p a b s)(H:s.ok)(V:1<=x/\x<=s.Af.length):Kc prog md p 234 #[shV a b ca cb s,.J x] (fun v=>(∃n:Int,v=.J n/\ -1<=n/\n<=300)):=by
 have O:=H.Li (i:=(x-1).toNat) om;have hl:=H.2.2.1;have M:=Ns (i:=x.toNat) om H.2.2.2.2.2.1;rw[show((x.toNat:Nat):Int)=x from om]at M;unfold okR at O;refine xkq func234 fun K b1=>?_;refine drq [] R9 ?_;refine xzz rfl rfl rfl (yng s S H (x-1).toNat om om) ?_;refine ex ?_;refine K.q ?_;exact⟨_,rfl,om,om⟩
theorem ys5{a:Option Addr}(s:Shf)(S:Cy p a b s)(H:s.ok)(M:1<=x/\x<=s.Af.length):Kc prog md p 271 #[shV a b ca cb s,.J x] (fun v=>Kh v):=by
 have O:=H.2.2.1;refine xkq func271 fun K b1=>?_;refine ax ?_;refine xpx rfl rfl (yng s S H (x-1).toNat om om) ?_;refine K.q ?_;exact⟨_,rfl⟩
theorem yu5{a:Option Addr}(s:Shf){e:Option Addr}(c:Nat)(l:List Int)(I:Ax p e n l)(hn:n<=2^40):Kc prog md p 269 #[shV a b ca cb s,.slice e n c] (fun v=>Kh v):=by
 refine xkq func269 fun K b1=>?_;refine ckq (yc5 n c l I hn) ?_;rintro _ ⟨q,rfl⟩;refine K.q ?_;exact⟨_,rfl⟩
theorem yx7(x:Int):Kc prog md p 168 #[.J x] (fun v=>Kh v):=by
 refine xlq func168 fun K=>?_;refine cdq cf51 ?_;refine K.q ?_;exact⟨_,rfl⟩
theorem yo2{a:Option Addr}(s:Shf)(S:Cy p a b s)(M:s.ok)(q:Bool):Dc prog md p 167 #[shV a b ca cb s,.bool q] (.J (if q=true then 0 else 1)):=by
 have V:=M.1;have O:=M.2.2.1;refine xkq func167 fun K b1=>?_;refine ax ?_;refine xpx rfl rfl (cf32 s S ⟨om,om⟩) ?_;rw[show Hx s=0 from if_pos M];refine cq (fun H=>?_) (fun _=>?_)
 ·exact(H rfl).elim
 refine cq (fun H=>?_) (fun H=>?_)
 ·refine K.q ?_;rw[if_neg H];rfl
 refine K.q ?_;rw[if_pos (Classical.not_not.1 H)];rfl
theorem yp2{a:Option Addr}(s:Shf)(S:Cy p a b s)(M:s.ok){e:Option Addr}(c:Nat)(l:List Int)(I:Ax p e l.length l)(hl:stp s l):Kc prog md p 166 #[shV a b ca cb s,.slice e l.length c] (fun v=>sml v):=by
 have a2:=M.2.2.1;have a3:=hl.1;refine xkq func166 fun K b2=>?_;refine ax ?_;refine xnq (fun m l'=>∃(j:Nat)(x:Int),m=s.Af.length-j/\l'=[(1,none,.slice e l.length c),(2,none,w_ b2 0),(5,none,.J x),(6,none,.J ((j:Nat):Int))]/\j<=s.Af.length/\0<=x/\x<=300*j) ⟨0,0,rfl,rfl,Nat.zero_le _,om,om⟩ sb ?_;rintro _ _ H ⟨j,x,rfl,rfl,hj,h0,h1⟩;refine cq (fun V=>?_) (fun V=>?_)
 ·refine ax ?_;refine xzg rfl rfl (ys6 s S M j om) ?_;rintro _ ⟨n,rfl,n0,n1⟩;exact bkq (H _ om ⟨j+1,x+n,rfl,rfl,om,om,om⟩)
 clear H;refine ax ?_;refine xnq (fun m l'=>∃(i:Nat)(x:Int),m=l.length-i/\l'=[(1,none,.slice e l.length c),(2,none,w_ b2 0),(5,none,.J x),(7,none,.J ((i:Nat):Int))]/\i<=l.length/\ -i<=x/\x<=3600+300*i) ⟨0,x,rfl,rfl,Nat.zero_le _,om,om⟩ sb ?_;rintro _ _ H ⟨i,x,rfl,rfl,hi,h0,h1⟩;refine cq (fun V=>?_) (fun V=>?_)
 ·have O:i<l.length:=om;refine drq [6] R7 ?_;refine xap rfl rfl rfl (yr6 s S M (hl.2 i O)) ?_;rintro _ ⟨n,rfl,n0,n1⟩;refine ex ?_;exact bkq (H _ om ⟨i+1,x+n,rfl,rfl,om,om,om⟩)
 refine K.q ?_;exact⟨_,rfl,om,om⟩
theorem yt5{a:Option Addr}(s:Shf)(S:Cy p a b s)(O:s.ok){e:Option Addr}(c:Nat)(l:List Int)(I:Ax p e n l)(hn:n<=2^40):Kc prog md p 270 #[shV a b ca cb s,.slice e n c] (fun v=>sml v):=by
 have a2:=O.2.2.1;refine xkq func270 fun K b2=>?_;refine ax ?_;refine xnq (fun m l'=>∃(j x:Nat),m=s.Af.length-j/\l'=[(1,none,.slice e n c),(2,none,w_ b2 0),(5,none,.J ((x:Nat):Int)),(6,none,.J ((j:Nat):Int))]/\j<=s.Af.length/\x<=j) ⟨0,0,rfl,rfl,Nat.zero_le _,om⟩ sb ?_;rintro _ _ V ⟨j,x,rfl,rfl,hj,h1⟩;refine cq (fun cd=>?_) (fun cd=>?_)
 ·refine ax ?_;refine xnq (fun m l'=>∃(i:Nat),m=j+1-i/\l'=[(1,none,.slice e n c),(2,none,w_ b2 0),(5,none,.J ((x:Nat):Int)),(6,none,.J ((j:Nat):Int)),(7,none,.J ((i:Nat):Int))]/\i<=j+1) ⟨x,rfl,rfl,om⟩ sb ?_;rintro _ _ M ⟨i,rfl,rfl,hi⟩;refine cq (fun ce=>?_) (fun ce=>?_)
  ·refine ax ?_;refine xpx rfl rfl (yng s S O i om rfl) ?_;refine cq (fun H=>?_) (fun H=>?_)
   ·refine K.q ?_;exact⟨_,rfl,om,om⟩
   exact bkq (M _ om ⟨i+1,rfl,rfl,om⟩)
  refine ckq (ys1 n c l I hn) ?_;rintro _ ⟨q,rfl⟩;refine cq (fun H=>?_) (fun H=>?_)
  ·exact bkq (V _ om ⟨j+1,j+1,rfl,rfl,om,om⟩)
  exact bkq (V _ om ⟨j+1,x,rfl,rfl,om,om⟩)
 refine K.q ?_;exact⟨_,rfl,om,om⟩
theorem yt6{a:Option Addr}(s:Shf)(S:Cy p a b s)(O:s.ok){e:Option Addr}(c:Nat)(l:List Int)(I:Ax p e l.length l)(hl:stp s l):Kc prog md p 232 #[shV a b ca cb s,.slice e l.length c] (fun v=>Kh v):=by
 intro h hp;have a2:=O.2.2.1;have a3:=hl.1;refine xtq hp func232 fun K b2=>?_;refine ax ?_;refine xzg rfl rfl (yu5 s c l I om) ?_;rintro _ ⟨q,rfl⟩;refine ax ?_;refine yoh (fun n:Int=>.J n) rfl rfl rfl sdu (fun h pe=>(yt5 s S O c l I om h pe).mono fun _ _⟨⟨n,e,_⟩,k⟩=>⟨⟨n,e⟩,k⟩) fun n1=>?_;refine cq (fun M=>?_) (fun M=>?_)
 ·refine K.q ?_;exact⟨_,rfl⟩
 refine ax ?_;refine xnq (fun m l'=>∃i:Nat,m=l.length-i/\l'=[(1,none,.slice e l.length c),(2,none,w_ b2 0),(5,none,.J ((i:Nat):Int))]/\i<=l.length) ⟨0,rfl,rfl,Nat.zero_le _⟩ sb ?_;rintro _ _ IH ⟨i,rfl,rfl,hi⟩;refine cq (fun cd=>?_) (fun cd=>?_)
 ·have V:i<l.length:=om;refine drq [5] R6 ?_;refine xap rfl rfl rfl (ys5 s S O (hl.2 i V)) ?_;rintro _ ⟨n,rfl⟩;refine ex ?_;refine cq (fun M=>?_) (fun M=>?_)
  ·refine K.q ?_;exact⟨_,rfl⟩
  exact bkq (IH _ om ⟨i+1,rfl,rfl,om⟩)
 refine drq [] R18 ?_;refine de_y rfl rfl (xfv rfl rfl sdu sdu (fun H=>⟨⟨by simp at H;omega,om⟩,Sl.ne I (by simp at H;omega)⟩)) ?_;refine de_y rfl rfl (xdj rfl sdu (fun H=>Ax.get I (by simp at H;omega)) (u:=.J (l.getD (((l.length:Nat):Int)-1).toNat 0))) ?_;refine ex ?_;refine K.q ?_;exact⟨_,rfl⟩
open Go.X.Cist (Day Bp dz dcs yV YOk Nv O4 O2 Mu)
theorem ym6(size start:Int){a:Option Addr}(c:Nat)(ds:List Day)(D:Bp p a ds.length ds)(O:YOk size start ds)(cb:Nat)(l:List Int)(I:Ax p b n l)(hl:Nv ds l):Lc prog md p 241 #[yV size start a ds.length c,.slice b n cb] (fun v p'=>∃e,v=.agg e.toArray/\Mu p' ds e):=by
 intro h hp;have b7:=I.len;have hn:n=ds.length:=b7 ▸ hl.1;have h8:=O.n;have Dd:Sl p a ds.length 3 (dcs ds):=D;have hz:=O.z;refine xtq hp func241 fun K b2=>?_;refine lq fun b4=>?_;refine lq fun V=>?_;refine ax ?_;refine xjj 3 1 fun o1=>?_;refine xjj 3 1 fun o2=>?_;refine xjj 3 1 fun o3=>?_
 refine xhq (fun m_ l_ p_ L_=>∃(j:Nat)(x:Int)(v1 v2 v3:Value)(Y1 Y2 Y3:Pcs)(l1 l2 l3:List Int),m_=n-j/\l_=[(1,none,.slice b n cb),(2,none,w_ b2 0),(4,none,w_ b4 0),(5,none,w_ V 0),(6,none,.J x),(7,none,.J ((j:Nat):Int))]/\p_=p/\
  L_=[Y1,Y2,Y3,[(V,.cells #[v1,v2,v3] 206 (0,0))],[(b4,.cells #[.slice none 0 0,.slice none 0 0,.slice none 0 0] 206 (0,0))],[(b2,.cells (yV size start a ds.length c).cells 31 (0,0))]]/\j<=n/\(0<=x/\x<=size)/\
  (l1.length=j/\l2.length=j/\l3.length=j)/\(Aa 3 1 v1 (ics l1) Y1/\Aa 3 1 v2 (ics l2) Y2/\Aa 3 1 v3 (ics l3) Y3)/\O4 l1/\O2 ds l2) ⟨0,start,_,_,_,_,_,_,[],[],[],rfl,rfl,rfl,rfl,Nat.zero_le _,O.s,⟨rfl,rfl,rfl⟩,⟨o1,o2,o3⟩,fun i hi=>by simp at hi,fun i hi=>by simp at hi⟩ sb ?_
 clear o1 o2 o3;rintro _ _ p _ IH ⟨j,x,v1,v2,v3,Y1,Y2,Y3,l1,l2,l3,rfl,rfl,rfl,rfl,hj,hx,⟨e1,e2,e3⟩,⟨o1,o2,o3⟩,q1,q2⟩;refine cq (fun cd=>?_) (fun cd=>?_)
 ·have b8:j<n:=om;have a7:j<ds.length:=om;have hw:=hl.2 j om;have hd:=O.d j a7;have a4:=Go.X.Cist.Bp.want D a7;refine ax ?_;refine ro_y rfl (y_lp rfl a4) ?_;refine ax ?_;refine ro_y rfl (y_lp rfl a4) ?_;refine ax ?_;obtain⟨ov,a9⟩:∃y,y=max 0 (x+l.getD j 0-size):=⟨_,rfl⟩
  obtain⟨lk,a8⟩:∃y,y=max 0 ((ds.getD j dz).want-(x+l.getD j 0-ov)):=⟨_,rfl⟩
  obtain⟨x3,a6⟩:∃y,y=x+l.getD j 0-ov-((ds.getD j dz).want-lk):=⟨_,rfl⟩
  rw[<- a9,<- a8,<- a6];have b3:0<=x3/\x3<=size:=om;have bl:(0<=lk/\lk<=1000)/\((ds.getD j dz).want=0->lk=0)/\(60<(ds.getD j dz).want->0<lk):=⟨om,fun _=>om,fun _=>om⟩
  refine xbx (l':=[(1,none,.slice b n cb),(2,none,w_ b2 0),(4,none,w_ b4 0),(5,none,w_ V 0),(6,none,.J x3),(7,none,.J ((j:Nat):Int)),(8,none,.J ov),(9,none,.J lk)]) ?_ sb;clear a9 a8 a6 a4
  refine yan (LF:=[[(V,.cells #[v1,v2,v3] 206 (0,0))],[(b4,.cells #[.slice none 0 0,.slice none 0 0,.slice none 0 0] 206 (0,0))],[(b2,.cells (yV size start a ds.length c).cells 31 (0,0))]]) 16 [16,17,18] (fun i=>match i with|16=>Y1|17=>Y2|_=>Y3) [4,9,14] [0,1,2,5,6,7,10,11,12,15] [3,4,8,9,13,14] (fun i=>match i with|4=>[16,3]|9=>[17,8]|14=>[18,13]|_=>[])
   (fun i=>match i with|1=>[0]|3=>[2]|4=>[1,3]|6=>[5]|8=>[7]|9=>[6,8]|11=>[10]|13=>[12]|14=>[11,13]|_=>[])
   (fun i _ _ v x=>match i with
   |0=>v=w_ V 0/\x=[]
   |1=>v=v1/\x=[]
   |2=>v=.J x3/\x=[]
   |3=>Aa 3 1 v (ics [x3]) x
   |4=>Aa 3 1 v (ics (l1++[x3])) x
   |5=>v=w_ V 1/\x=[]
   |6=>v=v2/\x=[]
   |7=>v=.J lk/\x=[]
   |8=>Aa 3 1 v (ics [lk]) x
   |9=>Aa 3 1 v (ics (l2++[lk])) x
   |10=>v=w_ V 2/\x=[]
   |11=>v=v3/\x=[]
   |12=>v=.J ov/\x=[]
   |13=>Aa 3 1 v (ics [ov]) x
   |14=>Aa 3 1 v (ics (l3++[ov])) x
   |15=>v=w_ V 0/\x=[]
   |_=>True) s_ (fun i b6 val piece M hi=>?_) (fun val piece j hj v x q=>?_) (fun val piece M=>?_)
  ·match i,b6 with
   |0,_|2,_=>
     exact det
   |1,_=>
     refine de_y rfl rfl (y_ld (by show some (([]:List Prop),val 0)=_;rw[(M 0 rfl).1]) sdt (b:=V) (off:=0)) ?_;exact det
   |3,_=>
     refine xvz (vs:=[(0,.J x3)]) rfl (by show some [(0,val 2)]=_;rw[(M 2 rfl).1]) fun v Y(o:Aa 3 1 v (ics [x3]) Y)=>?_;exact xuq ⟨⟨_,rfl⟩,fun v' e=>by
      have e':=xmq e;subst e';show Aa _ _ _ _ (Y++[]);rw[List.append_nil];exact o⟩
   |4,_=>
     show DE _ _ _ _ _ _ _ _ _ [piece 16,piece 3];rw[hi 16 s_];refine xj2 rfl (by show some (([]:List Prop),val 1)=_;rw[(M 1 rfl).1]) rfl o1 (M 3 rfl) (xzv _) (by simp[ics];omega) fun v Y o=>?_;exact xuq ⟨⟨_,rfl⟩,fun v' e=>by
      have e':=xmq e;subst e';show Aa _ _ _ _ (Y++[]);rw[List.append_nil];exact o.as (by simp[ics])⟩
   |5,_|7,_=>
     exact det
   |6,_=>
     refine de_y rfl rfl (y_ld (by show some (([]:List Prop),val 5)=_;rw[(M 5 rfl).1]) sdt (b:=V) (off:=1)) ?_;exact det
   |8,_=>
     refine xvz (vs:=[(0,.J lk)]) rfl (by show some [(0,val 7)]=_;rw[(M 7 rfl).1]) fun v Y(o:Aa 3 1 v (ics [lk]) Y)=>?_;exact xuq ⟨⟨_,rfl⟩,fun v' e=>by
      have e':=xmq e;subst e';show Aa _ _ _ _ (Y++[]);rw[List.append_nil];exact o⟩
   |9,_=>
     show DE _ _ _ _ _ _ _ _ _ [piece 17,piece 8];rw[hi 17 s_];refine xj2 rfl (by show some (([]:List Prop),val 6)=_;rw[(M 6 rfl).1]) rfl o2 (M 8 rfl) (xzv _) (by simp[ics];omega) fun v Y o=>?_;exact xuq ⟨⟨_,rfl⟩,fun v' e=>by
      have e':=xmq e;subst e';show Aa _ _ _ _ (Y++[]);rw[List.append_nil];exact o.as (by simp[ics])⟩
   |10,_|12,_=>
     exact det
   |11,_=>
     refine de_y rfl rfl (y_ld (by show some (([]:List Prop),val 10)=_;rw[(M 10 rfl).1]) sdt (b:=V) (off:=2)) ?_;exact det
   |13,_=>
     refine xvz (vs:=[(0,.J ov)]) rfl (by show some [(0,val 12)]=_;rw[(M 12 rfl).1]) fun v Y(o:Aa 3 1 v (ics [ov]) Y)=>?_;exact xuq ⟨⟨_,rfl⟩,fun v' e=>by
      have e':=xmq e;subst e';show Aa _ _ _ _ (Y++[]);rw[List.append_nil];exact o⟩
   |14,_=>
     show DE _ _ _ _ _ _ _ _ _ [piece 18,piece 13];rw[hi 18 s_];refine xj2 rfl (by show some (([]:List Prop),val 11)=_;rw[(M 11 rfl).1]) rfl o3 (M 13 rfl) (xzv _) (by simp[ics];omega) fun v Y o=>?_;exact xuq ⟨⟨_,rfl⟩,fun v' e=>by
      have e':=xmq e;subst e';show Aa _ _ _ _ (Y++[]);rw[List.append_nil];exact o.as (by simp[ics])⟩
   |15,_=>
     exact det
   |n+16,h=>exact absurd h om
  ·simp only[List.mem_cons,List.not_mem_nil,or_false]at hj;rcases hj with rfl|rfl|rfl|rfl|rfl|rfl|rfl|rfl|rfl|rfl<;>exact q.2
  have q4:Aa 3 1 (val 4) (ics (l1++[x3])) (piece 4):=M 4 d_;have q9:Aa 3 1 (val 9) (ics (l2++[lk])) (piece 9):=M 9 d_;have a5:Aa 3 1 (val 14) (ics (l3++[ov])) (piece 14):=M 14 d_;have b0:val 15=w_ V 0:=(M 15 d_).1;obtain⟨d1,k1,w1,-⟩:=q4.val;obtain⟨d2,k2,w2,-⟩:=q9.val;obtain⟨d3,k3,w3,-⟩:=a5.val;refine xdk (l':=[(1,none,.slice b n cb),(2,none,w_ b2 0),(4,none,w_ b4 0),(5,none,w_ V 0),(6,none,.J x3),(7,none,.J ((j:Nat):Int)),(55,none,.slice d1 (ics (l1++[x3])).length k1),(60,none,.slice d2 (ics (l2++[lk])).length k2),(65,none,.slice d3 (ics (l3++[ov])).length k3),(66,none,w_ V 0)]) ?_ ⟨rfl,rfl,rfl,rfl,rfl,rfl,by show some (none,val 4)=_;rw[w1],by show some (none,val 9)=_;rw[w2],by show some (none,val 14)=_;rw[w3],by show some (none,val 15)=_;rw[b0],trivial⟩;show RO _ _ _ _ _ _ [piece 4,piece 9,piece 14,[(V,.cells #[v1,v2,v3] 206 (0,0))],[(b4,_)],[(b2,_)]];rw[w1]at q4;rw[w2]at q9;rw[w3]at a5;clear M b0 w1 w2 w3;exact bkq (IH _ _ _ om ⟨j+1,x3,_,_,_,piece 4,piece 9,piece 14,l1++[x3],l2++[lk],l3++[ov],rfl,rfl,rfl,rfl,om,b3,⟨by simp;omega,by simp;omega,by simp;omega⟩,⟨q4,q9,a5⟩,Go.X.Cist.Hk (P:=fun _ x=>0<=x/\x<=60) q1 ⟨om,om⟩,Go.X.Cist.Hk (P:=fun i x=>(0<=x/\x<=1000)/\((ds.getD i dz).want=0->x=0)/\(60<(ds.getD i dz).want->0<x)) q2 (by rw[e2];exact bl)⟩)
 obtain rfl:j=n:=om;refine xiq o1 (m:=j) (by simp[ics,e1]) d_ fun p1 a1 c1 g1 z1 _ S1=>?_;refine xiq o2 (m:=j) (by simp[ics,e2]) d_ fun p2 a2 c2 g2 z2 _ S2=>?_;refine xiq o3 (m:=j) (by simp[ics,e3]) d_ fun p3 a3 c3 g3 z3 _ S3=>?_;subst z1 z2 z3;refine ax ?_;exact K.e rfl (xpq rfl .nil) fun _ H=>xqq H ((g1.trans g2).trans g3) ⟨_,rfl,a1,c1,l1,a2,c2,l2,a3,c3,j,rfl,hn,⟨Sl.mono (g2.trans g3).le S1,q1⟩,Sl.mono g3.le S2,q2⟩
open Go.X.Cist (Day Bp dz dcs yV YOk Nv Nl RfW)
theorem yn6(size start:Int)(ds:List Day)(O:YOk size start ds):∀(f:Nat)(h:Heap)(p:Ab)(_:Per p h)(a:Option Addr)(c:Nat)(_:Bp p a ds.length ds)(e:Option Addr)(M:Nat)(l:List Int)(_:Ax p e l.length l)(_:Nl l)(_:l.length+f=ds.length),
 Ac prog md 240 #[yV size start a ds.length c,.slice e l.length M] h (Cn p h fun v p'=>∃a n c,v=.slice a n c/\(0<n/\n<=21^f)/\RfW ds p' a n):=by
 intro f
 induction f with
 |zero=>
   intro h p hp a c D e M l I hl hf;refine xtq hp func240 fun K b2=>?_;refine cq (fun cc=>?_) (fun cc=>?_)
   ·refine ax ?_;refine xxx rfl fun v1 Y1 o1=>?_;have o1:Aa 23 1 v1 [[.slice e l.length M]] Y1:=o1;refine ax ?_;refine xiq o1 (m:=1) rfl d_ fun p2 a2 c2 g2 e2 b3 S2=>?_;subst e2;exact K.r rfl rfl fun _ H=>xqq H g2 ⟨a2,1,c2,rfl,⟨d_,d_⟩,[l],⟨_,S2,(Inn.one I).mono g2.le⟩,fun x hx=>by rw[List.mem_singleton.1 hx];exact⟨om,hl⟩⟩
   ·exact absurd om cc
 |succ f ih=>
   intro h p hp a c D e M l I hl hf;have h8:=O.n;have a8:l.length<ds.length:=om;have Dd:Sl p a ds.length 3 (dcs ds):=D;have hd:=O.d _ a8;obtain⟨P,hP⟩:∃P,P=21^f:=⟨_,rfl⟩
   have b8:P*21<=37822859361:=by
    have:=Nat.pow_le_pow_right (show 0<21 by decide) (show f+1<=8 by omega);rw[Nat.pow_succ,<- hP]at this;exact this
   refine xtq hp func240 fun K b2=>?_;refine cq (fun cc=>?_) (fun cc=>?_)
   ·exact absurd cc om
   refine ax ?_;refine ro_y rfl (xmj rfl (Go.X.Cist.Bp.all D a8)) ?_;refine lq fun b6=>?_;refine ax ?_;generalize (ds.getD l.length dz).lo=lo at*;generalize (ds.getD l.length dz).hi=hi at*;generalize (ds.getD l.length dz).want=wa at*;refine xjj 23 1 fun o0=>?_
   refine xhq (fun m_ l_ p_ L_=>∃(j:Nat)(v:Value)(Y:Pcs)(es:List (List Value))(xss:List (List Int)),m_=(hi-lo+1).toNat-j/\l_=[(1,none,.slice e l.length M),(2,none,w_ b2 0),(5,none,v),(6,none,w_ b6 0),(7,none,.J (lo+((j:Nat):Int)))]/\PG h.size [] p p_/\
    L_=[Y,[(b6,.cells #[.J lo,.J hi,.J wa] 102 (0,0))],[(b2,.cells (yV size start a ds.length c).cells 31 (0,0))]]/\(j:Int)<=hi-lo+1/\Aa 23 1 v es Y/\Inn p_ es xss []/\(∀l∈xss,Nv ds l)/\j<=es.length/\es.length<=j*P) ⟨0,_,_,_,[],rfl,by rw[show lo+((0:Nat):Int)=lo by omega],.refl _ _ _,rfl,om,o0,Inn.nil,fun x hx=>by simp at hx,Nat.zero_le _,Nat.zero_le _⟩ sb ?_
   clear o0;rintro _ _ p1 _ IH ⟨j,v,Y,es,xss,rfl,rfl,g1,rfl,hj,o,hI,hH,hn,hm⟩;refine cq (fun cd=>?_) (fun cd=>?_)
   ·have b5:j<=20:=om;have a5:(j+1)*P<=21*P:=Nat.mul_le_mul_right _ om;have b7:(j+1)*P=j*P+P:=Nat.succ_mul j P;have hlen:(l++[lo+((j:Nat):Int)]).length=l.length+1:=by simp
    refine ax ?_;refine xl3 (args6:=[.tmp 33,.tmp 39]) (QC:=fun v Z=>∃a n c,v=.slice a n c/\(0<n/\n<=P)/\ ∀p',PLe p1 p'->(∀y∈Z,p' y.1=some y.2)->RfW ds p' a n) 2 [1] [v,yV size start a ds.length c,undef,.slice e l.length M,undef,.J (lo+((j:Nat):Int))] (fun u=>[yV size start a ds.length c,u]) (I.mono g1.le) om rfl rfl s_ (fun val i hi=>?_) (fun val hv=>by show some ([],[val 1,val 7])=_;rw[hv 1 s_];rfl) (fun u Y o2 h L st=>?_) fun val piece hv q=>?_
    ·obtain rfl|rfl|rfl|rfl:i=0\/i=1\/i=3\/i=5:=om
     all_goals
      exact det
    ·obtain⟨p',⟨g',gl⟩,hy,s'⟩:=st.Dj;obtain⟨a2,c2,e2,I2⟩:=o2.inP hy;subst e2;rw[Go.X.Flow.Ae]at I2⊢;refine(ih h p' s'.per a c (Go.X.Cist.Bp.mono (g1.le.trans g'.le) D) a2 c2 _ I2 (Go.X.Cist.Hk (P:=fun _ x=>0<=x/\x<=20) hl ⟨om,om⟩) (by rw[hlen];omega)).mono fun v' h' x=>?_;obtain⟨Z,⟨p2,⟨a3,n3,c3,e3,a7,R3⟩,le⟩,N⟩:=x.pieces;exact⟨Z,⟨a3,n3,c3,e3,by rw[hP];exact a7,fun a6 l y=>R3.mono (le a6 (gl a6 l fun z hz=>y z (List.mem_append_right _ hz)) fun z hz=>y z (List.mem_append_left _ hz))⟩,N⟩
    obtain⟨a3,n3,c3,e3,a7,a4⟩:=q;refine xdk (l':=[(1,none,.slice e l.length M),(2,none,w_ b2 0),(6,none,w_ b6 0),(7,none,.J (lo+((j:Nat):Int))),(32,none,v),(40,none,.slice a3 n3 c3)]) ?_ ⟨rfl,rfl,rfl,rfl,by show some (none,val 0)=_;rw[hv 0 om];rfl,by show some (none,val 8)=_;rw[e3],trivial⟩;refine xjz (piece 8) fun p3 g3 hy=>?_;obtain⟨a9,⟨b9,S3,V⟩,b0⟩:=a4 p3 g3.le hy;refine ax ?_;refine xiw rfl rfl o S3 V.Og om fun v4 Y4 o4=>?_;refine ax ?_;rw[show lo+((j:Nat):Int)+1=lo+((j+1:Nat):Int) from om];have a4:=S3.len;exact bkq (IH _ _ _ om ⟨j+1,v4,Y4,_,xss++a9,rfl,rfl,g1.trans g3,rfl,om,o4,(hI.mono g3.le).app V,fun x hx=>(List.mem_append.1 hx).elim (hH x) (b0 x),by rw[List.length_append];omega,by rw[List.length_append];omega⟩)
   have ej:((j:Nat):Int)=hi-lo+1:=om;have b4:j<=21:=om;have a5:j*P<=21*P:=Nat.mul_le_mul_right _ om;refine ax ?_;refine xiq o (m:=es.length) rfl d_ fun p2 a2 c2 g2 e2 b3 S2=>?_;subst e2;exact K.r rfl rfl fun _ H=>xqq H (g1.trans g2) ⟨a2,_,c2,rfl,⟨om,by rw[Nat.pow_succ,<- hP];omega⟩,xss,⟨es,S2,hI.mono g2.le⟩,hH⟩
open Go.X.Cist (Day Bp dz dcs yV YOk Nv Nl RfW Hb Hy Fp Hr By Aj)
variable{ds:List Day}
theorem yp6(hp:Per p h){a:Option Addr}(n c:Nat)(l:List Int)(I:Ax p a n l)(hn:n<=1000)(V:∀i,i<l.length->0<=l.getD i 0/\l.getD i 0<=1000):
 Ac prog md 237 #[.slice a n c,.J ((n:Nat):Int)] h fun v h'=>(∃x,v=.J x/\0<=x/\((∀i,i<n->l.getD i 0=0)->x=0)/\ ∀i,i<n->0<l.getD i 0->0<x)/\Av h h':=by
 have a3:=I.len;refine xaz hp func237 fun K=>?_;refine xnq (fun m l'=>∃(j:Nat)(x:Int),m=n-j/\l'=[(0,none,.slice a n c),(1,none,.J ((n:Nat):Int)),(5,none,.J x),(6,none,.J ((j:Nat):Int))]/\j<=n/\0<=x/\x<=1000*j/\((∀i,i<j->l.getD i 0=0)->x=0)/\ ∀i,i<j->0<l.getD i 0->0<x) ⟨0,0,rfl,rfl,Nat.zero_le _,om,om,fun _=>rfl,fun i hi=>om⟩ sb ?_;rintro _ _ IH ⟨j,x,rfl,rfl,hj,O,h1,M,H⟩;refine cq (fun cd=>?_) (fun cd=>?_)
 ·have a2:j<n:=om;have hx:=V j om;exact bkq (IH _ om ⟨j+1,x+l.getD j 0,rfl,rfl,om,om,om,fun z=>by
   have:=M fun i hi=>z i om;have:=z j om;omega,fun i hi z=>by
   by_cases e:i<j
   ·have:=H i e z;omega
   ·obtain rfl:i=j:=om;omega⟩)
 obtain rfl:j=n:=om;refine K.q ?_;exact⟨x,rfl,O,M,H⟩
theorem yk2:Dc prog md p 189 #[.agg #[.J x,.J y],.J z] (.agg #[.J (min x z),.J (max y z)]):=by
 refine xkq func189 fun K b1=>?_;refine lq fun b2=>?_;refine ax ?_;exact K.e rfl (xpq rfl .nil) fun _ H=>⟨rfl,H.kept⟩
theorem yir{size start:Int}{a:Option Addr}{c:Nat}(hn:n<=1000):Dc prog md p 181 #[yV size start a n c,.J x] (.bool (decide (0<=x/\x<=((n:Nat):Int)-1))):=by
 refine xkq func181 fun K b1=>?_;refine cdq cf54 ?_;exact K.q rfl
theorem yjr{size start:Int}{a:Option Addr}{c:Nat}(D:Bp p a n ds)(O:Go.X.Cist.Ok size start ds){q:Bool}:Dc prog md p 180 #[yV size start a n c,.bool q] (.J (if q=true then 0 else 1)):=by
 have V:=D.len;have M:=O.yok.n;refine xkq func180 fun K b1=>?_;refine ax ?_;refine xpx rfl rfl (cf34 D om) ?_;rw[Go.X.Cist.B5.2 O];refine cq (fun H=>?_) (fun _=>?_)
 ·exact(H rfl).elim
 refine cq (fun H=>?_) (fun H=>?_)
 ·refine K.q ?_;rw[if_neg H];rfl
 refine K.q ?_;rw[if_pos (Classical.not_not.1 H)];rfl
theorem yr7(size start:Int){a:Option Addr}(n c:Nat)(ds:List Day)(D:Bp p a n ds)(hn:n<=2^20):Lc prog md p 178 #[yV size start a n c,.J z] (fun v p'=>∃a c,v=yV z (min start z) a n c/\Bp p' a n ds):=by
 refine xkq func178 fun K b2=>?_;refine lq fun b4=>?_;refine coq (cf43 D hn) ?_;rintro _ Y ⟨a1,c1,rfl,o⟩;refine lq fun M=>?_;refine ax ?_;refine xuv [6] R7 M ?_;refine xa ?_;refine xiq o (m:=n) (by rw[Aj,D.len]) d_ fun p1 a2 c2 O V a3 S1=>?_;cases V;exact K.e rfl (xpq rfl .nil) fun _ H=>xqq H O ⟨a1,c1,rfl,S1⟩
theorem yp7(size start:Int){a:Option Addr}(c:Nat)(ds:List Day)(D:Bp p a ds.length ds)(O:YOk size start ds)(i:Nat)(hi:i<ds.length)(z:Int)(hz:0<=z/\z<=1000000):Lc prog md p 182 #[yV size start a ds.length c,.J ((i:Nat):Int),.J z] (fun v p'=>∃a c,v=yV size start a ds.length c/\Bp p' a ds.length (Go.X.Cist.B8 ds i ((ds.getD i dz).want+z))):=by
 have h8:=O.n;have hw:=O.d i hi;have M:(dcs ds)[i]?=some [.J (ds.getD i dz).lo,.J (ds.getD i dz).hi,.J (ds.getD i dz).want]:=by
  have:=Fp (wf:=fun _ w=>w) (ds:=ds) (k:=0) om;rw[Go.X.Cist.K8 hi];rfl
 refine xkq func182 fun K b3=>?_;refine lq fun b6=>?_;refine ax ?_;refine xjb rfl rfl (cf43 D om) ?_;rintro _ Y ⟨a1,c1,rfl,o⟩;refine lq fun b7=>?_;refine ax ?_;refine ro_y rfl (xkb rfl rfl o (by rw[Aj];exact hi) (i:=i)) ?_;refine ax ?_;refine xyh (j:=2) rfl o rfl M rfl ?_;refine ax ?_;refine ro_y rfl (xkb rfl rfl o (by rw[Aj];exact hi) (i:=i)) ?_;refine ax ?_;refine xkk (j:=2) rfl rfl o rfl rfl rfl rfl M (Nat.le_refl _) fun Y2 V=>?_;have V:=V.as (show _=dcs (Go.X.Cist.B8 ds i ((ds.getD i dz).want+z)) from Go.X.Cist.Mc);refine ax ?_;refine xiq V (m:=ds.length) (by rw[Aj];simp[Go.X.Cist.B8]) d_ fun p1 a2 c2 g1 e1 a3 S1=>?_;cases e1;exact K.e rfl (xpq rfl .nil) fun _ H=>xqq H g1 ⟨a1,c1,rfl,S1⟩
theorem yq7(size start:Int){a:Option Addr}(c:Nat)(ds:List Day)(D:Bp p a ds.length ds)(h8:ds.length<=8){r:Int}:Lc prog md p 179 #[yV size start a ds.length c,.J r] (fun v p'=>∃a c,v=yV size start a ds.length c/\Bp p' a ds.length (Hb (fun _ w=>min r w) ds)):=by
 refine xkq func179 fun K b2=>?_;refine lq fun b4=>?_;refine ax ?_;refine xjb rfl rfl (cf43 D om) ?_;rintro _ Y ⟨a1,c1,rfl,o⟩;refine lq fun b5=>?_;refine ax ?_
 refine xhq (fun m_ l p_ L_=>∃(k:Nat)(Y:Pcs),m_=ds.length-k/\l=[(1,none,.J r),(4,none,w_ b4 0),(5,none,w_ b5 0),(6,none,.J ((k:Nat):Int))]/\p_=p/\
  L_=[[(b5,.cells (yV size start a1 ds.length c1).cells 31 (0,0))],Y,[(b4,.cells (yV 0 0 none 0 0).cells 31 (0,0))],[(b2,.cells (yV size start a ds.length c).cells 31 (0,0))]]/\k<=ds.length/\Aa 102 3 (.slice a1 ds.length c1) (dcs (Hy (fun _ w=>min r w) ds k)) Y) ⟨0,Y,rfl,rfl,rfl,rfl,Nat.zero_le _,o.as (by rw[Go.X.Cist.Hz])⟩ sb ?_
 clear o;rintro _ _ p _ IH ⟨k,Y,rfl,rfl,rfl,rfl,hk,M⟩;have O:(dcs (Hy (fun _ w=>min r w) ds k)).length=ds.length:=by rw[Aj,By]
 refine cq (fun cc=>?_) (fun cc=>?_)
 ·refine drq [] R11 ?_;refine de_y rfl rfl (xew rfl rfl sdt sdt M om) ?_;refine ex ?_;refine de_y rfl rfl (xgb rfl sdt M rfl (Fp om) rfl (q:=2)) ?_;refine xa ?_;refine ro_y rfl (xkb rfl rfl M om) ?_;refine ax ?_;refine xkk (j:=2) rfl rfl M rfl rfl rfl rfl (Fp om) (Nat.le_refl _) fun Y3 V=>?_;have V:=V.as (show _=dcs (Hy (fun _ w=>min r w) ds (k+1)) from Hr om);exact bkq (IH _ _ _ om ⟨k+1,Y3,rfl,rfl,rfl,rfl,om,V⟩)
 have e:k=ds.length:=om;refine ax ?_;refine xiq M (m:=ds.length) O d_ fun p1 a2 c2 g1 e1 a3 S1=>?_;cases e1;exact K.e rfl (xpq rfl .nil) fun _ H=>xqq H g1 ⟨a1,c1,rfl,by rw[e]at S1;exact S1⟩
open Go.X.Cist (Day Bp dz dcs yV YOk Nv Nl RfW Mu K7 O4 O2 Hb)
theorem yhr(size start:Int){a:Option Addr}(c:Nat)(ds:List Day)(D:Bp p a ds.length ds)(O:YOk size start ds):Lc prog md p 188 #[yV size start a ds.length c] (fun v p'=>∃a n c,v=.slice a n c/\(0<n/\n<=37822859361)/\K7 p' ds a n):=by
 intro h hp;have h8:=O.n;have b4:21^ds.length<=21^8:=Nat.pow_le_pow_right d_ h8;have b6:(21:Nat)^8=37822859361:=by decide
 refine xtq hp func188 fun K b1=>?_;refine ax ?_;refine xqk rfl rfl (fun h pe=>yn6 size start ds O ds.length h _ pe a c D none 0 [] (Sl.nil _ _ _) (fun i hi=>by simp at hi) s_) ?_;rintro _ p1 g1 ⟨a1,n1,c1,rfl,b5,a8,⟨a9,S1,a7⟩,b3⟩;refine ax ?_;refine xjj 206 3 fun o0=>?_
 refine xhq (fun m_ l_ p_ L_=>∃(j:Nat)(v:Value)(Y:Pcs)(es:List (List Value)),m_=n1-j/\l_=[(1,none,w_ b1 0),(3,none,.slice a1 n1 c1),(4,none,v),(5,none,.J ((j:Nat):Int))]/\PG h.size [] p p_/\PLe p1 p_/\
  L_=[Y,[(b1,.cells (yV size start a ds.length c).cells 31 (0,0))]]/\j<=n1/\Aa 206 3 v es Y/\(∀e∈es,Mu p_ ds e)/\es.length=j) ⟨0,_,_,_,rfl,rfl,g1,.refl _,rfl,Nat.zero_le _,o0,fun e he=>by simp at he,rfl⟩ sb ?_
 clear o0;rintro _ _ p2 _ IH ⟨j,v,Y,es,rfl,rfl,g2,l2,rfl,hj,o,hS,hl⟩;have S2:=Sl.mono l2 S1;refine cq (fun cd=>?_) (fun cd=>?_)
 ·have b0:j<n1:=om;obtain⟨b,cb,l,hc,I,hR⟩:=RfW.at ⟨a8,⟨a9,S2,a7.mono l2⟩,b3⟩ b0;refine drq [6,7] R8 ?_;refine de_y rfl rfl (y_lp rfl hc) ?_;refine ex ?_
  refine xuk (first:=[]) (cap:=[]) (vs:=[yV size start a ds.length c,.slice b l.length cb]) (Q:=fun v Y=>∃a1 k1 a2 k2 a3 k3,v=.agg #[.slice a1 ds.length k1,.slice a2 ds.length k2,.slice a3 ds.length k3]/\ ∀p',PLe p2 p'->(∀y∈Y,p' y.1=some y.2)->Mu p' ds [.slice a1 ds.length k1,.slice a2 ds.length k2,.slice a3 ds.length k3]) rfl rfl rfl
   (fun h pe=>(ym6 size start c ds (Go.X.Cist.Bp.mono g2.le D) O cb l I hR h pe).mono fun v h' x=>by
    obtain⟨Z,⟨p3,⟨e,e1,st⟩,le⟩,N⟩:=x.pieces;obtain⟨a1,k1,l1,a2,k2,l2,a3,k3,n',rfl,rfl,q1,q2⟩:=st;exact⟨Z,⟨a1,k1,a2,k2,a3,k3,e1,fun p' l y=>Mu.mono ⟨a1,k1,l1,a2,k2,l2,a3,k3,_,rfl,rfl,q1,q2⟩ (le p' l y)⟩,N⟩) fun v1 Z q=>?_
  obtain⟨a4,k4,a5,k5,a6,k6,rfl,M⟩:=q;refine ex ?_;refine xvz rfl rfl fun v2 Y2 o2=>?_;have o2:Aa 206 3 v2 [[.slice a4 ds.length k4,.slice a5 ds.length k5,.slice a6 ds.length k6]] Y2:=o2;refine ex ?_;refine xjz Z fun p3 V hy=>?_;have M:=M p3 V.le hy;refine xiv rfl rfl o o2 (by simp[Bj]) (by simp;omega) fun v4 Y4 o4=>?_;exact bkq (IH _ _ _ om ⟨j+1,v4,Y4,_,rfl,rfl,g2.trans V,l2.trans V.le,rfl,om,o4,fun e he=>(List.mem_append.1 he).elim (fun z=>(hS e z).mono V.le) fun z=>by rw[List.mem_singleton.1 z];exact M,by simp;omega⟩)
 obtain rfl:j=n1:=om;refine xiq o (m:=j) hl d_ fun p3 a3 c3 V e3 b7 S3=>?_;subst e3;refine ax ?_;exact K.r rfl rfl fun _ H=>xqq H (g2.trans V) ⟨a3,j,c3,rfl,om,es,S3,fun e he=>(hS e he).mono V.le⟩
theorem ykr(size start:Int){a:Option Addr}(c:Nat)(ds:List Day)(D:Bp p a ds.length ds)(O:YOk size start ds):Kc prog md p 177 #[yV size start a ds.length c] (fun v=>(∃q:Bool,v=.bool q/\((∀i,i<ds.length->(ds.getD i dz).want=0)->q=true)/\ ∀i,i<ds.length->60<(ds.getD i dz).want->q=false)):=by
 intro h hp;have h8:=O.n;refine xtq hp func177 fun K b1=>?_;refine cpq (yhr size start c ds D O) ?_;rintro _ p1 g1 ⟨a1,H,c1,rfl,a3,M,S1,H1⟩;refine ax ?_;refine xnq (fun m l'=>∃(j:Nat),m=H-j/\l'=[(1,none,w_ b1 0),(3,none,.slice a1 H c1),(4,none,.J ((j:Nat):Int))]/\j<=H/\(0<j-> ∀i,i<ds.length-> ¬ 60<(ds.getD i dz).want)) ⟨0,rfl,rfl,Nat.zero_le _,fun z=>om⟩ sb ?_;rintro _ _ IH ⟨j,rfl,rfl,hj,hw⟩;refine cq (fun cd=>?_) (fun cd=>?_)
 ·have V:j<H:=om;obtain⟨a5,k1,l1,a6,k2,l2,-,a2,I2,q2⟩:=K7.at ⟨M,S1,H1⟩ V;have a4:=I2.len;refine drq [] R8 ?_;refine de_y rfl rfl (y_lp rfl a2) ?_;refine xa ?_;refine xzg rfl rfl (fun h pe=>yp6 pe ds.length k2 l2 I2 om fun i hi=>(q2 i hi).1) ?_;rintro _ ⟨x,rfl,x0,x1,x2⟩;refine cq (fun ce=>?_) (fun ce=>?_)
  ·refine K.q ?_;exact⟨false,rfl,fun z=>by
    have:=x1 fun i hi=>(q2 i om).2.1 (z i hi);omega,fun _ _ _=>rfl⟩
  exact bkq (IH _ om ⟨j+1,rfl,rfl,om,fun _ i hi z=>by
   have:=x2 i hi ((q2 i om).2.2 z);omega⟩)
 refine K.q ?_;exact⟨true,rfl,fun _=>rfl,fun i hi z=>absurd z (hw om i hi)⟩
theorem ys7(size start:Int){a:Option Addr}(c:Nat)(ds:List Day)(D:Bp p a ds.length ds)(O:Go.X.Cist.Ok size start ds)(i:Nat)(hi:i<ds.length):Kc prog md p 176 #[yV size start a ds.length c,.J ((i:Nat):Int)] (fun v=>(∃x y:Int,v=.tuple #[.agg #[.J x,.J y],.J 0])):=by
 have h8:=O.yok.n;refine xkq func176 fun K b2=>?_;refine lq fun b4=>?_;refine drq [] R4 ?_;refine xzz rfl rfl rfl (yir om) ?_;refine xa ?_;refine cdq (yjr D O) ?_;rw[show decide (0<=((i:Nat):Int)/\((i:Nat):Int)<=((ds.length:Nat):Int)-1)=true from decide_eq_true ⟨om,om⟩];refine cq (fun cc=>?_) (fun _=>?_)
 ·exact(cc rfl).elim
 refine cpq (yhr size start c ds D O.yok) ?_;rintro _ p1 g1 ⟨a1,n1,c1,rfl,a2,V,S1,H1⟩;obtain⟨a3,k1,l1,a5,k2,l2,-,M,I2,q2⟩:=K7.at ⟨V,S1,H1⟩ a2.1;refine drq [15] R16 ?_;refine de_y rfl rfl (y_lp rfl M) ?_;refine ex ?_;refine de_y rfl rfl (y_lp rfl M) ?_;refine ex ?_;refine xec rfl fun b8=>?_;refine xa ?_
 refine xhq (fun m_ l_ p_ L_=>∃(j:Nat)(x y:Int),m_=n1-j/\l_=[(1,none,.J ((i:Nat):Int)),(4,none,w_ b4 0),(7,none,.slice a1 n1 c1),(8,none,w_ b8 0),(9,none,.J ((j:Nat):Int))]/\p_=p1/\
  L_=[[(b8,.cells #[.J x,.J y] 100 (0,0))],[(b4,.cells #[.J 0,.J 0] 100 (0,0))],[(b2,.cells (yV size start a ds.length c).cells 31 (0,0))]]/\j<=n1) ⟨0,_,_,rfl,rfl,rfl,rfl,Nat.zero_le _⟩ sb ?_
 rintro _ _ p1 _ IH ⟨j,x,y,rfl,rfl,rfl,rfl,hj⟩;refine cq (fun cd=>?_) (fun cd=>?_)
 ·have a4:j<n1:=om;obtain⟨a3,k1,l1,a5,k2,l2,⟨a6,I1,q1⟩,M,I2,q2⟩:=K7.at ⟨V,S1,H1⟩ a4;refine drq [] R9 ?_;refine de_y rfl rfl (y_lp rfl M) ?_;refine xa ?_;refine cdq yk2 ?_;exact bkq (IH _ _ _ om ⟨j+1,_,_,rfl,rfl,rfl,rfl,om⟩)
 refine ax ?_;exact K.e rfl (xpq rfl (.tmp rfl .nil)) fun _ H=>⟨⟨x,y,rfl⟩,H.kept⟩
theorem cf88{size start:Int}{a:Option Addr}{c:Nat}(ds:List Day)(D:Bp p a ds.length ds)(O:Go.X.Cist.Ok size start ds)(z:Int):Kc prog md p 88 #[yV size start a ds.length c,.J z] (fun v=>(∃x y e:Int,v=.tuple #[.agg #[.J x,.J y],.J e]/\(0<=x/\x<=60)/\0<=y/\y<=60)):=by
 have h8:=O.yok.n;refine xkq func88 fun K b2=>?_;refine lq fun b4=>?_;refine drq [] R4 ?_;refine xzz rfl rfl rfl (yir om) ?_;refine xa ?_;refine cdq (yjr D O) ?_;refine cq (fun cc=>?_) (fun cc=>?_)
 ·refine ax ?_;exact K.e rfl (xpq rfl (.tmp rfl .nil)) fun _ H=>⟨⟨0,0,_,rfl,⟨d_,d_⟩,d_,d_⟩,H.kept⟩
 have hz:0<=z/\z<=((ds.length:Nat):Int)-1:=by
  by_cases q:0<=z/\z<=((ds.length:Nat):Int)-1
  ·exact q
  ·simp[q]at cc
 obtain⟨i,rfl⟩:∃i:Nat,z=i:=⟨z.toNat,om⟩
 have hi:i<ds.length:=om;refine cpq (yhr size start c ds D O.yok) ?_;rintro _ p1 g1 ⟨a1,n1,c1,rfl,a2,V,S1,H1⟩;obtain⟨a3,k1,l1,a6,k2,l2,⟨M,I1,q1⟩,a5,I2,q2⟩:=K7.at ⟨V,S1,H1⟩ a2.1;refine drq [15] R16 ?_;refine de_y rfl rfl (y_lp rfl M) ?_;refine ex ?_;refine de_y rfl rfl (y_lp rfl M) ?_;refine ex ?_;refine xec rfl fun b8=>?_;refine xa ?_;have q0:=q1 i (by have:=I1.len;omega)
 refine xhq (fun m_ l_ p_ L_=>∃(j:Nat)(x y:Int),m_=n1-j/\l_=[(1,none,.J ((i:Nat):Int)),(4,none,w_ b4 0),(7,none,.slice a1 n1 c1),(8,none,w_ b8 0),(9,none,.J ((j:Nat):Int))]/\p_=p1/\
  L_=[[(b8,.cells #[.J x,.J y] 100 (0,0))],[(b4,.cells #[.J 0,.J 0] 100 (0,0))],[(b2,.cells (yV size start a ds.length c).cells 31 (0,0))]]/\j<=n1/\(0<=x/\x<=60)/\0<=y/\y<=60) ⟨0,l1.getD i 0,l1.getD i 0,rfl,rfl,rfl,rfl,Nat.zero_le _,q0,q0⟩ sb ?_
 rintro _ _ p1 _ IH ⟨j,x,y,rfl,rfl,rfl,rfl,hj,hx,hy⟩;refine cq (fun cd=>?_) (fun cd=>?_)
 ·have a4:j<n1:=om;obtain⟨a3,k1,l1,a6,k2,l2,⟨M,I1,q1⟩,a5,I2,q2⟩:=K7.at ⟨V,S1,H1⟩ a4;have q:=q1 i (by have:=I1.len;omega);refine drq [] R9 ?_;refine de_y rfl rfl (y_lp rfl M) ?_;refine xa ?_;refine cdq yk2 ?_;exact bkq (IH _ _ _ om ⟨j+1,min x (l1.getD i 0),max y (l1.getD i 0),rfl,rfl,rfl,rfl,om,om,om⟩)
 refine ax ?_;exact K.e rfl (xpq rfl (.tmp rfl .nil)) fun _ H=>⟨⟨x,y,0,rfl,hx,hy⟩,H.kept⟩
open Go.X.Cist (Day Bp dz dcs yV YOk Hb)
theorem yyh(size start:Int){a:Option Addr}(n c:Nat)(ds:List Day)(hn:ds.length=n)(D:Bp p a n ds)(O:YOk size start ds):Kc prog md p 177 #[yV size start a n c] (fun v=>(∃q:Bool,v=.bool q/\((∀i,i<n->(ds.getD i dz).want=0)->q=true)/\ ∀i,i<n->60<(ds.getD i dz).want->q=false)):=by
 intro h H;subst hn;exact ykr size start c ds D O h H
theorem cf81{size start:Int}{a:Option Addr}{c:Nat}(ds:List Day)(D:Bp p a ds.length ds)(O:Go.X.Cist.Ok size start ds):Kc prog md p 81 #[yV size start a ds.length c] (fun v=>(∃x e:Int,v=.tuple #[.J x,.J e]/\0<=x/\x<=60)):=by
 have h8:=O.yok.n;refine xkq func81 fun K b1=>?_;refine ax ?_;refine xpx rfl rfl (cf34 D om) ?_;rw[Go.X.Cist.B5.2 O];refine cq (fun M=>?_) (fun _=>?_)
 ·exact(M rfl).elim
 refine ax ?_;refine xnq (fun m l'=>∃(j:Nat),m=ds.length-j/\l'=[(1,none,w_ b1 0),(5,none,.J ((j:Nat):Int))]/\j<=ds.length) ⟨0,rfl,rfl,Nat.zero_le _⟩ sb ?_;rintro _ _ IH ⟨j,rfl,rfl,hj⟩;refine cq (fun cd=>?_) (fun cd=>?_)
 ·have H:j<ds.length:=om;refine ckq (ys7 size start c ds D O j H) ?_;rintro _ ⟨x,y,rfl⟩;refine ax ?_;refine lq fun b6=>?_;refine cq (fun V=>?_) (fun V=>?_)
  ·refine K.q ?_;exact⟨_,_,rfl,om,om⟩
  exact bkq (IH _ om ⟨j+1,rfl,rfl,om⟩)
 refine K.q ?_;exact⟨_,_,rfl,d_,d_⟩
theorem cf82{size start:Int}{a:Option Addr}{c:Nat}(ds:List Day)(D:Bp p a ds.length ds)(O:Go.X.Cist.Ok size start ds):Kc prog md p 82 #[yV size start a ds.length c] (fun v=>(∃x e:Int,v=.tuple #[.J x,.J e]/\0<=x/\x<=60)):=by
 intro h hp;have h8:=O.yok.n;refine xtq hp func82 fun K b1=>?_;refine ax ?_;refine xpx rfl rfl (cf34 D om) ?_;rw[Go.X.Cist.B5.2 O];refine cq (fun cc=>?_) (fun _=>?_)
 ·exact(cc rfl).elim
 refine ax ?_
 refine xhq (fun m_ l_ V L_=>∃(j:Nat),m_=61-j/\l_=[(1,none,w_ b1 0),(5,none,.J ((j:Nat):Int))]/\PG h.size [] p V/\
  L_=[[(b1,.cells (yV size start a ds.length c).cells 31 (0,0))]]/\j<=61) ⟨0,rfl,rfl,.refl _ _ _,rfl,Nat.zero_le _⟩ sb ?_
 rintro _ _ p1 _ IH ⟨j,rfl,rfl,H,rfl,hj⟩;refine cq (fun cd=>?_) (fun cd=>?_)
 ·have a3:j<=60:=om;refine ax ?_;refine xqk rfl rfl (yr7 size start ds.length c ds (Go.X.Cist.Bp.mono H.le D) om) ?_;rintro _ p2 M ⟨a2,c2,rfl,D2⟩;refine ax ?_;refine xzg rfl rfl (ykr _ _ c2 ds D2 (O.yok.sized ⟨om,om⟩)) ?_;rintro _ ⟨q,rfl,-,-⟩;refine cq (fun ce=>?_) (fun ce=>?_)
  ·refine K.q ?_;exact⟨_,_,rfl,om,om⟩
  exact bkq (IH _ _ _ om ⟨j+1,rfl,rfl,H.trans M,rfl,om⟩)
 refine K.q ?_;exact⟨_,_,rfl,d_,d_⟩
theorem cf83{size start:Int}{a:Option Addr}{c:Nat}(ds:List Day)(D:Bp p a ds.length ds)(O:Go.X.Cist.Ok size start ds):Kc prog md p 83 #[yV size start a ds.length c] (fun v=>(∃x e:Int,v=.tuple #[.J x,.J e]/\0<=x/\x<=60)):=by
 intro h hp;have h8:=O.yok.n;refine xtq hp func83 fun K b1=>?_;refine ax ?_;refine xpx rfl rfl (cf34 D om) ?_;rw[Go.X.Cist.B5.2 O];refine cq (fun cc=>?_) (fun _=>?_)
 ·exact(cc rfl).elim
 refine ax ?_
 refine xhq (fun m_ l_ p_ L_=>∃(j:Nat),m_=j/\l_=[(1,none,w_ b1 0),(5,none,.J ((j:Nat):Int))]/\PG h.size [] p p_/\
  L_=[[(b1,.cells (yV size start a ds.length c).cells 31 (0,0))]]/\j<=20) ⟨20,rfl,rfl,.refl _ _ _,rfl,Nat.le_refl _⟩ sb ?_
 rintro j _ p1 _ IH ⟨_,rfl,rfl,V,rfl,hj⟩;refine cpq (yq7 size start c ds (Go.X.Cist.Bp.mono V.le D) h8) ?_;rintro _ p2 g2 ⟨a2,c2,rfl,D2⟩;have M:(Hb (fun _ w=>min ((j:Nat):Int) w) ds).length=ds.length:=Go.X.Cist.B7 _ _;refine ax ?_;refine xzg rfl rfl (yyh size start ds.length c2 (Hb (fun _ w=>min ((j:Nat):Int) w) ds) M D2 (O.yok.Hb fun i w _ _ _=>⟨om,om⟩)) ?_;rintro _ ⟨q,rfl,hq,-⟩;refine cq (fun H=>?_) (fun H=>?_)
 ·have a3:0<j:=by
   rcases Nat.eq_zero_or_pos j with z|z
   ·subst z;rw[hq fun i hi=>by
     rw[Go.X.Cist.Mp om];have:=(O.yok.d i om).2;omega]at H
    simp at H
   ·exact z
  refine ax ?_;rw[show((j:Nat):Int)-1=((j-1:Nat):Int) by omega];exact bkq (IH _ _ _ om ⟨j-1,rfl,rfl,V.trans g2,rfl,om⟩)
 refine K.q ?_;exact⟨_,_,rfl,om,om⟩
theorem cf84{size start:Int}{a:Option Addr}{c:Nat}(ds:List Day)(D:Bp p a ds.length ds)(O:Go.X.Cist.Ok size start ds)(z:Int):Kc prog md p 84 #[yV size start a ds.length c,.J z] (fun v=>(∃x e:Int,v=.tuple #[.J x,.J e]/\0<=x/\x<=60)):=by
 intro h hp;have h8:=O.yok.n;refine xtq hp func84 fun K b2=>?_;refine drq [] R4 ?_;refine xzz rfl rfl rfl (yir om) ?_;refine xa ?_;refine cdq (yjr D O) ?_;refine cq (fun cc=>?_) (fun cc=>?_)
 ·refine K.q ?_;exact⟨0,_,rfl,d_,d_⟩
 have hz:0<=z/\z<=((ds.length:Nat):Int)-1:=by
  by_cases q:0<=z/\z<=((ds.length:Nat):Int)-1
  ·exact q
  ·simp[q]at cc
 obtain⟨i,rfl⟩:∃i:Nat,z=i:=⟨z.toNat,om⟩
 have hi:i<ds.length:=om;have hw:=O.yok.d i hi;refine ckq (ykr _ _ c ds D O.yok) ?_;rintro _ ⟨q,rfl,-,-⟩;refine cq (fun ce=>?_) (fun ce=>?_)
 ·refine K.q ?_;exact⟨_,_,rfl,d_,d_⟩
 refine ax ?_
 refine xhq (fun m_ l_ p_ L_=>∃(j:Nat),m_=60-j/\l_=[(1,none,.J ((i:Nat):Int)),(2,none,w_ b2 0),(7,none,.J ((j:Nat):Int))]/\PG h.size [] p p_/\
  L_=[[(b2,.cells (yV size start a ds.length c).cells 31 (0,0))]]/\j<=60) ⟨0,rfl,rfl,.refl _ _ _,rfl,Nat.zero_le _⟩ sb ?_
 rintro _ _ p1 _ IH ⟨j,rfl,rfl,V,rfl,hj⟩;refine ax ?_;refine xqk rfl rfl (yp7 size start c ds (Go.X.Cist.Bp.mono V.le D) O.yok i hi (((j:Nat):Int)+1) ⟨om,om⟩) ?_;rintro _ p2 g2 ⟨a2,c2,rfl,D2⟩;have M:(Go.X.Cist.B8 ds i ((ds.getD i dz).want+(((j:Nat):Int)+1))).length=ds.length:=Go.X.Cist.Ds;have a3:(ds.getD i dz).want<=20:=by
  have:=O.2.2.2.2.2 i hi;unfold Go.X.Cist.Dq at this;omega
 refine ax ?_;refine xzg rfl rfl (yyh size start ds.length c2 _ M D2 (O.yok.B8 hi ⟨om,om⟩)) ?_;rintro _ ⟨q,rfl,-,hq⟩;refine cq (fun H=>?_) (fun H=>?_)
 ·have a4:j<60:=by
   rcases Nat.lt_or_ge j 60 with z|z
   ·exact z
   ·rw[hq i om (by rw[Go.X.Cist.Fx hi,if_pos rfl];show 60<(ds.getD i dz).want+(((j:Nat):Int)+1);omega)]at H;simp at H
  exact bkq (IH _ _ _ om ⟨j+1,rfl,rfl,V.trans g2,rfl,om⟩)
 refine K.q ?_;exact⟨_,_,rfl,om,om⟩
open Go.X.Flow (Cl Wys wz ics Al Tn Vd tnV Cb Dk Kf Le Kl K6 B3 put Ma Fw Km Hs)
variable{a1 a2 a3:Option Addr}
theorem yt7:Kc prog md p 175 #[.J x,.J y] (fun v=>(∃n:Int,v=.J n/\0<=n/\n<=3)):=by
 refine xlq func175 fun K=>?_;refine cq (fun H=>?_) (fun H=>?_)
 ·refine K.q ?_;exact⟨_,rfl,d_,d_⟩
 refine cq (fun M=>?_) (fun M=>?_)
 ·refine K.q ?_;exact⟨_,rfl,d_,d_⟩
 refine K.q ?_;exact⟨_,rfl,d_,d_⟩
theorem yo6{a:Option Addr}{m:Nat}{xs ys:List Int}(S:Ax p a n xs)(S':Ax p b m ys)(hn:n<=2^30/\m<=2^30):Kc prog md p 238 #[.slice a n ca,.slice b m cb] (fun v=>Kh v):=by
 refine xlq func238 fun K=>?_;refine xnq (fun m_ l=>∃j:Nat,m_=n-j/\l=[(0,none,.slice a n ca),(1,none,.slice b m cb),(5,none,.J ((j:Nat):Int))]/\j<=n) ⟨0,rfl,rfl,Nat.zero_le _⟩ sb ?_;rintro _ _ V ⟨j,rfl,rfl,hj⟩;refine cq (fun cd=>?_) (fun cd=>?_)
 ·have H:j<n/\j<m:=om;have a2:=H.1;have M:=H.2;refine drq [] R8 ?_;refine cq (fun O=>?_) (fun O=>?_)
  ·refine drq [] R8 ?_;refine K.q ?_;exact⟨_,rfl⟩
  exact bkq (V _ om ⟨j+1,rfl,rfl,om⟩)
 refine K.q ?_;exact⟨_,rfl⟩
theorem yrg(t:Tn)(T:Al p a1 t.nH a2 t.nW a3 t.m t){e:Option Addr}(c:Nat)(l:List Int)(I:Ax p e l.length l)(hm:l.length<=t.m)(a4:l.length<=12)(V:∀i,i<l.length->0<=l.getD i 0/\l.getD i 0<=9)(x:Int):Dc prog md p 187 #[tnV a1 a2 a3 c1 c2 c3 t,.slice e l.length c,.J x] (.J (Cb t l l.length x)):=by
 have Ty:Sl p a3 t.m 2 (Flow.wcs t.wy):=T.y;refine xkq func187 fun K b3=>?_;refine ax ?_;refine xnq (fun m l'=>∃(j:Nat)(n:Int),m=l.length-j/\l'=[(1,none,.slice e l.length c),(2,none,.J x),(3,none,w_ b3 0),(7,none,.J n),(8,none,.J ((j:Nat):Int))]/\j<=l.length/\n=Cb t l j x) ⟨0,0,rfl,rfl,Nat.zero_le _,rfl⟩ sb ?_;rintro _ _ IH ⟨j,n,rfl,rfl,hj,hn⟩;have hb:0<=Cb t l j x/\Cb t l j x<=1000*j:=B3 fun i hi=>by have:=V i om;unfold Flow.dv;omega
 rw[<- hn]at hb;refine cq (fun cd=>?_) (fun cd=>?_)
 ·have O:j<l.length:=om;have H:j<t.m:=om;have hx:=V j O;refine ax ?_;refine ro_y rfl (y_lp rfl (T.y.ho H)) ?_;refine cq (fun M=>?_) (fun M=>?_)
  ·exact bkq (IH _ om ⟨j+1,n+l.getD j 0,rfl,rfl,om,by rw[hn];exact Kf M⟩)
  exact bkq (IH _ om ⟨j+1,n,rfl,rfl,om,by rw[hn];exact Le M⟩)
 obtain rfl:j=l.length:=om;refine K.q ?_;rw[hn];rfl
theorem ym2(t:Tn)(T:Al p a1 t.nH a2 t.nW a3 t.m t){e:Option Addr}(c:Nat)(l:List Int)(I:Ax p e l.length l)(hm:l.length<=t.m)(a4:l.length<=12)(V:∀i,i<l.length->0<=l.getD i 0/\l.getD i 0<=9):Dc prog md p 174 #[tnV a1 a2 a3 c1 c2 c3 t,.slice e l.length c,.J x] (.J (Dk t l l.length x)):=by
 have Ty:Sl p a3 t.m 2 (Flow.wcs t.wy):=T.y;refine xkq func174 fun K b3=>?_;refine ax ?_;refine xnq (fun m l'=>∃(j:Nat)(n:Int),m=l.length-j/\l'=[(1,none,.slice e l.length c),(2,none,.J x),(3,none,w_ b3 0),(7,none,.J n),(8,none,.J ((j:Nat):Int))]/\j<=l.length/\n=Dk t l j x) ⟨0,0,rfl,rfl,Nat.zero_le _,rfl⟩ sb ?_;rintro _ _ IH ⟨j,n,rfl,rfl,hj,hn⟩;have hb:0<=Dk t l j x/\Dk t l j x<=1000*j:=B3 fun i hi=>by have:=V i om;unfold Flow.dv;omega
 rw[<- hn]at hb;refine cq (fun cd=>?_) (fun cd=>?_)
 ·have O:j<l.length:=om;have H:j<t.m:=om;have hx:=V j O;refine ax ?_;refine ro_y rfl (y_lp rfl (T.y.we H)) ?_;refine cq (fun M=>?_) (fun M=>?_)
  ·exact bkq (IH _ om ⟨j+1,n+l.getD j 0,rfl,rfl,om,by rw[hn];exact Kl M⟩)
  exact bkq (IH _ om ⟨j+1,n,rfl,rfl,om,by rw[hn];exact K6 M⟩)
 obtain rfl:j=l.length:=om;refine K.q ?_;rw[hn];rfl
theorem yu7{a:Option Addr}(c:Nat)(l:List Int)(I:Ax p a l.length l)(hn:l.length<=12)(M:∀i,i<l.length->0<=l.getD i 0/\l.getD i 0<=9):Kc prog md p 172 #[.slice a l.length c] (fun v=>(∃x:Int,v=.J x/\0<=x/\x<=108)):=by
 refine xlq func172 fun K=>?_;refine xnq (fun m l'=>∃(j:Nat)(x:Int),m=l.length-j/\l'=[(0,none,.slice a l.length c),(3,none,.J x),(4,none,.J ((j:Nat):Int))]/\j<=l.length/\0<=x/\x<=9*j) ⟨0,0,rfl,rfl,Nat.zero_le _,om,om⟩ sb ?_;rintro _ _ O ⟨j,x,rfl,rfl,hj,H,h1⟩;refine cq (fun cd=>?_) (fun cd=>?_)
 ·have V:j<l.length:=om;have hx:=M j om;exact bkq (O _ om ⟨j+1,x+l.getD j 0,rfl,rfl,om,om,om⟩)
 refine K.q ?_;exact⟨x,rfl,H,om⟩
theorem yr5(md:Md)(p:Ab)(a:Option Addr)(c:Nat)(l:List Int)(I:Ax p a l.length l)(hc:l.length<=c)(hn:l.length<=1000)(z:Int):Lc prog md p 273 #[.slice a l.length c,.J z] (fun v p'=>∃a c,v=.slice a (put l z).length c/\(put l z).length<=c/\Ax p' a (put l z).length (put l z)):=by
 intro h hp;refine xaz hp func273 fun K=>?_;refine xnq (fun m l'=>∃(j:Nat),m=l.length-j/\l'=[(0,none,.slice a l.length c),(1,none,.J z),(5,none,.J ((j:Nat):Int))]/\j<=l.length/\ ∀i,i<j->z<=l.getD i 0) ⟨0,rfl,rfl,Nat.zero_le _,fun i hi=>om⟩ sb ?_;rintro _ _ IH ⟨j,rfl,rfl,O,M⟩;refine ax ?_;refine ro_y rfl (xs8 rfl rfl sdu sdu (fun cg=>⟨by simp at cg;omega,Sl.ne I (by simp at cg;omega)⟩)) ?_;refine ro_y rfl (xdj rfl sdu (fun cg=>Ax.get I (by simp at cg;omega)) (u:=.J (l.getD j 0))) ?_;refine cq (fun cd=>?_) (fun cd=>?_)
 ·have a6:j<l.length:=om;exact bkq (IH _ om ⟨j+1,rfl,rfl,om,fun i hi=>by
   rcases Nat.lt_or_ge i j with y|y
   ·exact M i y
   ·obtain rfl:i=j:=om;exact cd.2⟩)
 have hz:l.length<=j\/ ¬ z<=l.getD j 0:=by
  rcases Nat.lt_or_ge j l.length with y|y
  ·exact .inr fun q=>cd ⟨om,q⟩
  ·exact .inl y
 have a3:=Ma O M hz;refine ax ?_
 refine xzh 11 [7] [1,2,3,5,8,9,10] [0,4,6,7] (fun i=>match i with|4=>[0]|7=>[4,6]|_=>[]) (fun i=>match i with|3=>[1,2]|4=>[0,3]|6=>[5]|7=>[4,6]|10=>[8,9]|_=>[])
  (fun i _ _ v x=>match i with
   |0=>Aa 3 1 v [] x
   |1=>v=.slice a l.length c/\x=[]
   |2=>v=.J ((j:Nat):Int)/\x=[]
   |3=>v=.slice a j c/\x=[]
   |4=>Aa 3 1 v (ics (l.take j)) x
   |5=>v=.J z/\x=[]
   |6=>Aa 3 1 v (ics [z]) x
   |7=>Aa 3 1 v (ics (l.take j++[z])) x
   |8=>v=.slice a l.length c/\x=[]
   |9=>v=.J ((j:Nat):Int)/\x=[]
   |10=>v=.slice (Cf a c j 1) (l.length-j) (c-j)/\x=[]
   |_=>True) (fun i hi val piece M=>?_) (fun val piece j O v x q=>?_) (fun val piece M=>?_)
 ·match i,hi with
  |0,_=>
    refine xvz rfl rfl fun v Y o=>?_;have o:Aa 3 1 v [] Y:=o;exact xuq ⟨⟨_,rfl⟩,fun v' e=>by
     have V:=xmq e;subst V;show Aa _ _ _ _ ([Y]++[]).flatten;have ey:([Y]++([]:List Pcs)).flatten=Y:=by simp
     rw[ey];exact o⟩
  |1,_=>
    exact det
  |2,_=>
    exact det
  |3,_=>
    refine ybr (q:=l.length) (j:=j) rfl (by show some ([],val 1)=_;rw[(M 1 rfl).1]) (by show some ([],val 2)=_;rw[(M 2 rfl).1]) om ?_;exact det
  |4,_=>
    have o1:Aa 3 1 (val 0) [] (piece 0):=M 0 rfl;have Ip:Ax p a j (l.take j):=by
     have:=I.pre hc O;rwa[xl4]at this
    show DE _ _ _ _ _ _ _ _ _ [piece 0];refine xgl rfl rfl (by show some ([],val 3)=_;rw[(M 3 rfl).1]) o1 Ip (xev _) (by simp;omega) fun v Y o=>?_;rw[List.nil_append]at o;exact xuq ⟨⟨_,rfl⟩,fun v' e=>by
     have V:=xmq e;subst V;show Aa _ _ _ _ ([Y]++[]).flatten;have ey:([Y]++([]:List Pcs)).flatten=Y:=by simp
     rw[ey];exact o⟩
  |5,_=>
    exact det
  |6,_=>
    refine xvz (vs:=[(0,.J z)]) (cells:=#[.J z]) rfl (by show some [(0,val 5)]=_;rw[(M 5 rfl).1]) fun v Y o=>?_;have o:Aa 3 1 v (ics [z]) Y:=o;exact xuq ⟨⟨_,rfl⟩,fun v' e=>by
     have V:=xmq e;subst V;show Aa _ _ _ _ ([Y]++[]).flatten;have ey:([Y]++([]:List Pcs)).flatten=Y:=by simp
     rw[ey];exact o⟩
  |7,_=>
    have o1:Aa 3 1 (val 4) (ics (l.take j)) (piece 4):=M 4 rfl;have o2:Aa 3 1 (val 6) (ics [z]) (piece 6):=M 6 rfl;show DE _ _ _ _ _ _ _ _ _ [piece 4,piece 6];refine xj2 rfl rfl rfl o1 o2 (xev _) (by simp[ics];omega) fun v Y o=>?_;have o:=o.as (show _=ics (l.take j++[z]) by simp[ics]);exact xuq ⟨⟨_,rfl⟩,fun v' e=>by
     have V:=xmq e;subst V;show Aa _ _ _ _ ([Y]++[]).flatten;have ey:([Y]++([]:List Pcs)).flatten=Y:=by simp
     rw[ey];exact o⟩
  |8,_=>
    exact det
  |9,_=>
    exact det
  |10,_=>
    refine de_y rfl rfl (xhl (by show some ([],val 8)=_;rw[(M 8 rfl).1]) (by show some ([],val 9)=_;rw[(M 9 rfl).1]) ⟨O,hc⟩ (q:=l.length) (j:=j)) ?_;exact det
  |_+11,h=>exact absurd h om
 ·have q:_:=q;simp only[List.mem_cons,List.not_mem_nil,or_false]at O;rcases O with rfl|rfl|rfl|rfl|rfl|rfl|rfl<;>exact q.2
 have o7:Aa 3 1 (val 7) (ics (l.take j++[z])) (piece 7):=M 7 d_;have a4:val 10=.slice (Cf a c j 1) (l.length-j) (c-j):=(M 10 d_).1;have Is:=I.suf hc O;show RO _ _ _ _ _ _ [piece 7];refine xiw rfl (by show some ([],val 10)=_;rw[a4]) o7 Is (xev _) (by simp[ics];omega) fun v Y o=>?_;have o:Aa 3 1 v (ics (put l z)) Y:=o.as (by rw[a3];simp[ics]);refine ax ?_;refine xiq o (m:=(put l z).length) (by simp[ics]) d_ fun p2 a2 c2 g2 e2 a5 S2=>?_;subst e2;exact K.r rfl rfl fun _ H=>xqq H g2 ⟨a2,c2,rfl,a5,S2⟩
theorem Qy{a:Option Addr}(n c:Nat)(l:List Int)(H:l.length=n)(I:Ax p a n l)(hc:n<=c)(hn:n<=1000)(z:Int):Lc prog md p 273 #[.slice a n c,.J z] (fun v p'=>∃a c,v=.slice a (n+1) c/\n+1<=c/\Ax p' a (n+1) (put l z)):=by
 intro h M;subst H;have:=yr5 md p a c l I hc hn z h M;rwa[Fw]at this
theorem ygr(c1 c2 c3:Nat)(t:Tn)(T:Al p a1 t.nH a2 t.nW a3 t.m t)(v:Vd t){e:Option Addr}(c:Nat)(l:List Int)(I:Ax p e l.length l)(hm:l.length<=t.m)(a5:l.length<=12)(hl:∀i,i<l.length->0<=l.getD i 0/\l.getD i 0<=9):Lc prog md p 236 #[tnV a1 a2 a3 c1 c2 c3 t,.slice e l.length c] (fun v p'=>∃a c,v=.slice a t.nH c/\Ax p' a t.nH (Km t l t.nH)):=by
 intro h hp;have h6:=v.nh;refine xtq hp func236 fun K b2=>?_;refine ax ?_
 refine xhq (fun m_ l_ p_ L_=>∃(j:Nat)(a:Option Addr)(M:Nat),m_=t.nH-j/\l_=[(1,none,.slice e l.length c),(2,none,w_ b2 0),(5,none,.slice a j M),(6,none,.J ((j:Nat):Int))]/\PG h.size [] p p_/\
  L_=[[(b2,.cells (tnV a1 a2 a3 c1 c2 c3 t).cells 28 (0,0))]]/\j<=t.nH/\j<=M/\Ax p_ a j (Km t l j)) ⟨0,none,0,rfl,rfl,.refl _ _ _,rfl,Nat.zero_le _,Nat.le_refl _,Sl.nil _ _ _⟩ sb ?_
 rintro _ _ p1 _ IH ⟨j,a,M,rfl,rfl,O,rfl,hj,a6,L⟩;have T1:=Flow.Al.mono T O.le;have Th:=T1.h;refine cq (fun cd=>?_) (fun cd=>?_)
 ·have a4:j<t.nH:=om;have hx:=v.h j a4;have hb:0<=Cb t l l.length ((j:Nat):Int)/\Cb t l l.length ((j:Nat):Int)<=1000*l.length:=B3 fun i hi=>by have:=hl i om;unfold Flow.dv;omega
  refine drq [] R11 ?_;refine xzz rfl rfl rfl (yrg t T1 c l (I.mono O.le) hm a5 hl _) ?_;refine xa ?_;have V:=Hs t l j;refine xqk rfl rfl (Qy j M (Km t l j) V L a6 om (t.hs.getD j 0-Cb t l l.length ((j:Nat):Int))) ?_;rintro _ p2 g2 ⟨a2,c2,rfl,a7,L2⟩;exact bkq (IH _ _ _ om ⟨j+1,a2,c2,rfl,rfl,O.trans g2,rfl,om,a7,L2⟩)
 obtain rfl:j=t.nH:=om;refine ax ?_;exact K.r rfl rfl fun _ H=>xqq H O ⟨a,M,rfl,L⟩
open Go.X.Flow (Cl Wys wz ics Al Tn Vd tnV Cb Dk E8 dvs dpre Gq Hl Gt RfD Km)
theorem ylr(t:Tn)(v:Vd t)(c8:t.m<=12):∀(f:Nat)(h:Heap)(p:Ab)(_:Per p h)(a1 a2 a3:Option Addr)(c1 c2 c3:Nat)(_:Al p a1 t.nH a2 t.nW a3 t.m t)(e:Option Addr)(M:Nat)(l:List Int)(_:Ax p e l.length l)(_:Gt t l)(_:l.length+f=t.m),
 Ac prog md 171 #[tnV a1 a2 a3 c1 c2 c3 t,.slice e l.length M] h (Cn p h fun v p'=>∃a n c,v=.slice a n c/\Rfs p' a n (dvs t f l)):=by
 intro f
 induction f with
 |zero=>
   intro h p hp a1 a2 a3 c1 c2 c3 T e M l I V hf;refine xtq hp func171 fun K b2=>?_;refine cq (fun cc=>?_) (fun cc=>?_)
   ·refine ax ?_;refine xxx rfl fun v1 Y1 o1=>?_;have o1:Aa 23 1 v1 [[.slice e l.length M]] Y1:=o1;refine ax ?_;refine xiq o1 (m:=1) rfl d_ fun p2 a4 c4 g2 e2 b4 S2=>?_;subst e2;exact K.r rfl rfl fun _ H=>xqq H g2 ⟨a4,1,c4,rfl,_,S2,(Inn.one I).mono g2.le⟩
   ·exact absurd om cc
 |succ f ih=>
   intro h p hp a1 a2 a3 c1 c2 c3 T e M l I V hf;have O:l.length<t.m:=om;have Th:=T.h;have Tw:=T.w;have Ty:Sl p a3 t.m 2 (Flow.wcs t.wy):=T.y;have w:=v.wok _ O;have hh:=v.h _ w.1.2;have hw:=v.w _ w.2.2;have bd:=V.bd (t.wy.getD l.length wz).1;have bg:=V.bd (t.wy.getD l.length wz).2;have b0:=bd.1;have b3:=bg.2;obtain⟨P,hP⟩:∃P,P=10^f:=⟨_,rfl⟩
   have b8:P*10<=1000000000000:=by
    have:=Nat.pow_le_pow_right (show 0<10 by decide) (show f+1<=12 by omega);rw[Nat.pow_succ,<- hP]at this;exact this
   refine xtq hp func171 fun K b2=>?_;refine cq (fun cc=>?_) (fun cc=>?_)
   ·exact absurd cc om
   refine ax ?_;refine ro_y rfl (xmj rfl (T.y.all O)) ?_;refine lq fun b5=>?_;refine drq [] R24 ?_;refine de_y rfl rfl (xed rfl rfl om om (Sl.ne Th om)) ?_;refine de_y rfl rfl (y_lp rfl (Ax.get Th w.1.2)) ?_;refine ex ?_;refine xzz rfl rfl rfl (yrg t T M l I om om V.sm _) ?_;refine ex ?_;refine de_y rfl rfl (xed rfl rfl om om (Sl.ne Tw om)) ?_;refine de_y rfl rfl (y_lp rfl (Ax.get Tw w.2.2)) ?_;refine ex ?_;refine xzz rfl rfl rfl (ym2 t T M l I om om V.sm) ?_;refine xa ?_;have c6:=V.Fh v O;rw[show min (t.hs.getD (t.wy.getD l.length wz).1.toNat 0-Cb t l l.length (t.wy.getD l.length wz).1) (t.ws.getD (t.wy.getD l.length wz).2.toNat 0-Dk t l l.length (t.wy.getD l.length wz).2)=E8 t l from rfl];clear hh hw bd bg b0 b3 w;refine xjj 23 1 fun o0=>?_
   refine xhq (fun m_ l_ p_ L_=>∃(j:Nat)(v:Value)(Y:Pcs)(es:List (List Value)),m_=(E8 t l+1).toNat-j/\l_=[(1,none,.slice e l.length M),(2,none,w_ b2 0),(6,none,.J (E8 t l)),(7,none,v),(8,none,.J ((j:Nat):Int))]/\PG h.size [] p p_/\
    L_=[Y,[(b5,.cells #[.J (t.wy.getD l.length wz).1,.J (t.wy.getD l.length wz).2] 98 (0,0))],[(b2,.cells (tnV a1 a2 a3 c1 c2 c3 t).cells 28 (0,0))]]/\(j:Int)<=E8 t l+1/\Aa 23 1 v es Y/\Inn p_ es (dpre t f l j) []/\es.length<=j*P) ⟨0,_,_,_,rfl,rfl,.refl _ _ _,rfl,om,o0,Inn.nil,Nat.zero_le _⟩ sb ?_
   clear o0;rintro _ _ p1 _ IH ⟨j,v1,Y,es,rfl,rfl,g1,rfl,hj,o,hI,hm⟩;refine cq (fun cd=>?_) (fun cd=>?_)
   ·have c7:j<=9:=om;have b6:(j+1)*P<=10*P:=Nat.mul_le_mul_right _ om;have b7:(j+1)*P=j*P+P:=Nat.succ_mul j P;have hlen:(l++[((j:Nat):Int)]).length=l.length+1:=by simp
    have hN:=V.next v O (n:=((j:Nat):Int)) om om;have a8:=Hl v hN (f:=f) (by rw[hlen];omega);rw[<- hP]at a8;refine ax ?_;refine xl3 (args6:=[.tmp 54,.tmp 60]) (QC:=fun v Z=>∃a n c,v=.slice a n c/\ ∀p',PLe p1 p'->(∀y∈Z,p' y.1=some y.2)->Rfs p' a n (dvs t f (l++[((j:Nat):Int)]))) 2 [1] [v1,tnV a1 a2 a3 c1 c2 c3 t,undef,.slice e l.length M,undef,.J ((j:Nat):Int)] (fun u=>[tnV a1 a2 a3 c1 c2 c3 t,u]) (I.mono g1.le) om rfl rfl s_ (fun val i hi=>?_) (fun val hv=>by show some ([],[val 1,val 7])=_;rw[hv 1 s_];rfl) (fun u Y o2 h L st=>?_) fun val piece hv q=>?_
    ·obtain rfl|rfl|rfl|rfl:i=0\/i=1\/i=3\/i=5:=om
     all_goals
      exact det
    ·obtain⟨p',⟨g',gl⟩,hy,s'⟩:=st.Dj;obtain⟨a4,c4,e2,I2⟩:=o2.inP hy;subst e2;rw[Go.X.Flow.Ae]at I2⊢;refine(ih h p' s'.per a1 a2 a3 c1 c2 c3 (Flow.Al.mono T (g1.le.trans g'.le)) a4 c4 _ I2 hN (by rw[hlen];omega)).mono fun v' h' x=>?_;obtain⟨Z,⟨p2,⟨a5,n5,c5,e5,R5⟩,le⟩,N⟩:=x.pieces;exact⟨Z,⟨a5,n5,c5,e5,fun a7 l y=>R5.mono (le a7 (gl a7 l fun z hz=>y z (List.mem_append_right _ hz)) fun z hz=>y z (List.mem_append_left _ hz))⟩,N⟩
    obtain⟨a5,n5,c5,e5,a9⟩:=q;refine xdk (l':=[(1,none,.slice e l.length M),(2,none,w_ b2 0),(6,none,.J (E8 t l)),(8,none,.J ((j:Nat):Int)),(53,none,v1),(61,none,.slice a5 n5 c5)]) ?_ ⟨rfl,rfl,rfl,rfl,by show some (none,val 0)=_;rw[hv 0 om];rfl,by show some (none,val 8)=_;rw[e5],trivial⟩;refine xjz (piece 8) fun p3 g3 hy=>?_;have hR:=a9 p3 g3.le hy;have c9:=hR.len;obtain⟨d0,S3,a6⟩:=hR;have b9:=S3.len;refine ax ?_;refine xiw rfl rfl o S3 a6.Og om fun v4 Y4 o4=>?_;refine ax ?_;rw[show((j:Nat):Int)+1=((j+1:Nat):Int) from om];exact bkq (IH _ _ _ om ⟨j+1,v4,Y4,_,rfl,rfl,g1.trans g3,rfl,om,o4,by rw[Gq];exact(hI.mono g3.le).app a6,by rw[List.length_append];omega⟩)
   have ej:dvs t (f+1) l=dpre t f l j:=by
    rw[dvs,show(E8 t l+1).toNat=j by omega];rfl
   refine ax ?_;refine xiq o (m:=es.length) rfl d_ fun p2 a4 c4 g2 e2 b4 S2=>?_;subst e2;exact K.r rfl rfl fun _ H=>xqq H (g1.trans g2) ⟨a4,_,c4,rfl,by rw[ej];exact⟨es,S2,hI.mono g2.le⟩⟩
theorem yl2(t:Tn)(v:Vd t)(a7:t.m<=12)(hp:Per p h)(c1 c2 c3:Nat)(T:Al p a1 t.nH a2 t.nW a3 t.m t):
 Ac prog md 183 #[tnV a1 a2 a3 c1 c2 c3 t] h (Cn p h fun v p'=>∃a c d,v=.slice a t.nH c/\Ax p' a t.nH (Km t d t.nH)/\d∈dvs t t.m []):=by
 have h6:=v.nh;refine xtq hp func183 fun K b1=>?_;refine ax ?_;refine xqk rfl rfl (fun h pe=>ylr t v a7 t.m h _ pe a1 a2 a3 c1 c2 c3 T none 0 [] (Sl.nil _ _ _) (Flow.Gt.nil v) s_) ?_;rintro _ p1 g1 ⟨a4,V,c4,rfl,R⟩;have R:RfD t p1 a4 V:=R;have hn:=R.pos v;obtain⟨b0,k0,l0,b8,I0,⟨a8,-⟩,b9,b7⟩:=R.at v hn;have c9:=R.le v a7;have R0:Rfs p1 a4 V (dvs t t.m []):=R;obtain⟨c7,S1,-⟩:=R0;have T1:=Flow.Al.mono T g1.le;refine drq [] R4 ?_;refine de_y rfl rfl (y_lp rfl b8) ?_;refine xa ?_;refine xqk rfl rfl (ygr c1 c2 c3 t T1 v k0 l0 I0 om om b7) ?_;rintro _ p2 M ⟨a5,c5,rfl,O⟩;refine ax ?_
 refine xhq (fun m_ l_ p_ L_=>∃(j:Nat)(a:Option Addr)(c:Nat)(d:List Int),m_=V-j/\l_=[(1,none,w_ b1 0),(3,none,.slice a4 V c4),(4,none,.slice a t.nH c),(5,none,.J ((j:Nat):Int))]/\PG h.size [] p p_/\PLe p1 p_/\
  L_=[[(b1,.cells (tnV a1 a2 a3 c1 c2 c3 t).cells 28 (0,0))]]/\j<=V/\Ax p_ a t.nH (Km t d t.nH)/\d∈dvs t t.m []) ⟨0,_,_,l0,rfl,rfl,g1.trans M,M.le,rfl,Nat.zero_le _,O,a8⟩ sb ?_
 clear O;rintro _ _ p2 _ IH ⟨j,a,c,d,rfl,rfl,M,l2,rfl,hj,O,hd⟩;refine cq (fun cd=>?_) (fun cd=>?_)
 ·have b6:j<V:=om;have T2:=Flow.Al.mono T M.le;have S2:=Sl.mono l2 S1;obtain⟨b3,k3,l3,b4,I3,⟨b5,-⟩,c8,a9⟩:=(R.mono l2).at v b6;refine drq [] R5 ?_;refine de_y rfl rfl (y_lp rfl b4) ?_;refine xa ?_;refine xqk rfl rfl (ygr c1 c2 c3 t T2 v k3 l3 I3 om om a9) ?_;rintro _ p3 g3 ⟨a6,c6,rfl,L3⟩;refine ax ?_;refine xzg rfl rfl (yo6 L3 (O.mono g3.le) ⟨om,om⟩) ?_;rintro _ ⟨q,rfl⟩;refine cq (fun ce=>?_) (fun ce=>?_)
  ·exact bkq (IH _ _ _ om ⟨j+1,a6,c6,l3,rfl,rfl,M.trans g3,l2.trans g3.le,rfl,om,L3,b5⟩)
  exact bkq (IH _ _ _ om ⟨j+1,a,c,d,rfl,rfl,M.trans g3,l2.trans g3.le,rfl,om,O.mono g3.le,hd⟩)
 refine ax ?_;exact K.r rfl rfl fun _ H=>xqq H M ⟨a,c,d,rfl,O,hd⟩
open Go.X.Flow (Cl Wys wz ics Al Tn Vd tnV Cb Dk dvs RfD RfX Km B3)
theorem yq6(t:Tn)(v:Vd t)(M:t.m<=12)(V:Per p h)(T:Al p a1 t.nH a2 t.nW a3 t.m t)(q:Bool):
 Ac prog md 235 #[tnV a1 a2 a3 c1 c2 c3 t,.bool q] h fun v O=>v=.J (if q=true then 0 else 1)/\Av h O:=by
 have h6:=v.nh;have h5:=v.nw;refine xtq V func235 fun K b1=>?_;refine ax ?_;refine xpx rfl rfl (cf33 t T ⟨om,om,om⟩) ?_;rw[Flow.Cw M v];refine cq (fun H=>?_) (fun _=>?_)
 ·exact(H rfl).elim
 refine cq (fun H=>?_) (fun H=>?_)
 ·refine K.q ?_;rw[if_neg H];rfl
 refine K.q ?_;rw[if_pos (Classical.not_not.1 H)];rfl
theorem cf85(t:Tn)(v:Vd t)(M:t.m<=12)(hp:Per p h)(T:Al p a1 t.nH a2 t.nW a3 t.m t):
 Ac prog md 85 #[tnV a1 a2 a3 c1 c2 c3 t] h (Cn p h fun w p'=>∃a c l,w=.tuple #[.slice a t.nH c,.J 0]/\Ax p' a t.nH l/\ ∀x∈l,-12000<=x/\x<=9):=by
 have h6:=v.nh;have h5:=v.nw;refine xtq hp func85 fun K b1=>?_;refine ax ?_;refine xpx rfl rfl (cf33 t T ⟨om,om,om⟩) ?_;rw[Flow.Cw M v];refine cq (fun cc=>?_) (fun _=>?_)
 ·exact(cc rfl).elim
 refine cpq (fun h pe=>yl2 t v M pe c1 c2 c3 T) ?_;rintro _ p1 g1 ⟨a4,c4,d,rfl,L,V⟩;have O:=Flow.Mr v (Flow.Gt.nil v) s_ V;refine ax ?_;exact K.r rfl rfl fun _ H=>xqq H g1 ⟨a4,c4,_,rfl,L,Flow.Mb v O.1.sm (by rw[O.2];exact M) (Nat.le_refl _)⟩
theorem cf79(t:Tn)(v:Vd t)(H:t.m<=12)(hp:Per p h)(T:Al p a1 t.nH a2 t.nW a3 t.m t):
 Ac prog md 79 #[tnV a1 a2 a3 c1 c2 c3 t] h fun w h'=>(∃x e:Int,w=.tuple #[.J x,.J e]/\0<=x/\x<=108)/\Av h h':=by
 have h6:=v.nh;have h5:=v.nw;refine xtq hp func79 fun K b1=>?_;refine ax ?_;refine xpx rfl rfl (cf33 t T ⟨om,om,om⟩) ?_;rw[Flow.Cw H v];refine cq (fun cc=>?_) (fun _=>?_)
 ·exact(cc rfl).elim
 refine ax ?_;refine xqk rfl rfl (fun h pe=>ylr t v H t.m h _ pe a1 a2 a3 c1 c2 c3 T none 0 [] (Sl.nil _ _ _) (Flow.Gt.nil v) s_) ?_;rintro _ p1 g1 ⟨a4,M,c4,rfl,R⟩;have R:RfD t p1 a4 M:=R;have a8:=R.le v H;have R0:Rfs p1 a4 M (dvs t t.m []):=R;obtain⟨a6,S1,-⟩:=R0;refine ax ?_;refine xnq (fun m l'=>∃(j:Nat)(x:Int),m=M-j/\l'=[(5,none,.J x),(6,none,.slice a4 M c4),(7,none,.J ((j:Nat):Int))]/\j<=M/\0<=x/\x<=108) ⟨0,0,rfl,rfl,Nat.zero_le _,om,om⟩ sb ?_;rintro _ _ IH ⟨j,x,rfl,rfl,hj,x0,x1⟩;refine cq (fun cd=>?_) (fun cd=>?_)
 ·have a5:j<M:=om;obtain⟨b3,k3,l3,V,I3,-,a7,O⟩:=R.at v a5;refine ax ?_;refine ro_y rfl (y_lp rfl V) ?_;refine ax ?_;refine xzg rfl rfl (yu7 k3 l3 I3 om O) ?_;rintro _ ⟨y,rfl,y0,y1⟩;exact bkq (IH _ om ⟨j+1,max x y,rfl,rfl,om,om,om⟩)
 refine K.q ?_;exact⟨x,0,rfl,x0,x1⟩
theorem yn2(t:Tn)(v:Vd t)(M:t.m<=12)(hp:Per p h)(c1 c2 c3:Nat)(T:Al p a1 t.nH a2 t.nW a3 t.m t)(q:Bool):
 Ac prog md 173 #[tnV a1 a2 a3 c1 c2 c3 t,.bool q] h (Cn p h fun w p'=>∃a n c,w=.tuple #[.slice a n c,.J (if q=true then 0 else 1)]/\n<=1000000000000/\(q=true->0<n/\RfX t p' a n)):=by
 have h6:=v.nh;refine xtq hp func173 fun K b2=>?_;refine cdq (fun _ O=>yq6 t v M O T q) ?_;cases q with
 |false=>
   refine cq (fun cc=>?_) (fun cc=>?_)
   ·refine ax ?_;exact K.r rfl rfl fun _ H=>xqq H (.refl _ _ _) ⟨none,0,0,rfl,Nat.zero_le _,fun z=>by simp at z⟩
   ·exact(cc d_).elim
 |true=>
 refine cq (fun cc=>?_) (fun _=>?_)
 ·exact(cc rfl).elim
 refine cpq (fun h O=>yl2 t v M O c1 c2 c3 T) ?_;rintro _ p1 g1 ⟨a4,c4,d,rfl,L,hd⟩;refine ax ?_;refine xqk rfl rfl (fun h O=>ylr t v M t.m h _ O a1 a2 a3 c1 c2 c3 (Flow.Al.mono T g1.le) none 0 [] (Sl.nil _ _ _) (Flow.Gt.nil v) s_) ?_;rintro _ p2 g2 ⟨a5,V,c5,rfl,R⟩;have R:RfD t p2 a5 V:=R;have d8:=R.le v M;have R0:Rfs p2 a5 V (dvs t t.m []):=R;have d6:=R0.len;obtain⟨d5,S1,-⟩:=R0;have L1:=L.mono g2.le;refine ax ?_;refine xjj 23 1 fun o0=>?_
 refine xhq (fun m_ l_ p_ L_=>∃(j:Nat)(v:Value)(Y:Pcs)(es:List (List Value))(xss:List (List Int)),m_=V-j/\l_=[(2,none,w_ b2 0),(7,none,.slice a4 t.nH c4),(8,none,.slice a5 V c5),(9,none,v),(10,none,.J ((j:Nat):Int))]/\PG h.size [] p p_/\PLe p2 p_/\
  L_=[Y,[(b2,.cells (tnV a1 a2 a3 c1 c2 c3 t).cells 28 (0,0))]]/\j<=V/\Aa 23 1 v es Y/\Inn p_ es xss []/\(∀l∈xss,l.length=t.m/\ ∀i,i<l.length->0<=l.getD i 0/\l.getD i 0<=9)/\es.length<=j/\ ∀i,i<j->Km t ((dvs t t.m []).getD i []) t.nH=Km t d t.nH->0<es.length) ⟨0,_,_,_,[],rfl,rfl,g1.trans g2,.refl _,rfl,Nat.zero_le _,o0,Inn.nil,fun x hx=>by simp at hx,Nat.zero_le _,fun i hi=>om⟩ sb ?_
 clear o0;rintro _ _ p3 _ IH ⟨j,v1,Y,es,xss,rfl,rfl,g3,l3,rfl,hj,o,hI,hH,hn,hk⟩;refine cq (fun cd=>?_) (fun cd=>?_)
 ·have a6:j<V:=om;have T3:=Flow.Al.mono T g3.le;have S2:=Sl.mono l3 S1;obtain⟨b6,k6,l6,b0,I6,⟨d0,b9⟩,d7,b4⟩:=(R.mono l3).at v a6;refine drq [5] [0,1,2,3,4,6,5] ?_;refine de_y rfl rfl (y_lp rfl b0) ?_;refine ex ?_
  refine xuk (first:=[]) (cap:=[]) (vs:=[tnV a1 a2 a3 c1 c2 c3 t,.slice b6 l6.length k6]) (Q:=fun w Y=>∃a c,w=.slice a t.nH c/\ ∀p',PLe p3 p'->(∀y∈Y,p' y.1=some y.2)->Ax p' a t.nH (Km t l6 t.nH)) rfl rfl rfl
   (fun h O=>(ygr c1 c2 c3 t T3 v k6 l6 I6 om om b4 h O).mono fun w h' x=>by
    obtain⟨Z,⟨p4,⟨a7,c7,e,I⟩,le⟩,N⟩:=x.pieces;exact⟨Z,⟨a7,c7,e,fun p' l y=>I.mono (le p' l y)⟩,N⟩) fun w1 Z q=>?_
  obtain⟨a7,c7,rfl,b5⟩:=q;refine ex ?_;refine xjz Z fun p4 g4 hy=>?_;have L4:=b5 p4 g4.le hy;have l4:=l3.trans g4.le;refine ax ?_;refine xpx rfl rfl (cf23 _ _ L4 (L1.mono l4) ⟨om,om⟩) ?_;refine cq (fun ce=>?_) (fun ce=>?_)
  ·have S4:=Sl.mono l4 S1;obtain⟨b8,k8,l8,c6,I8,-,b7,b3⟩:=(R.mono l4).at v a6;refine ax ?_;refine ro_y rfl (y_lp rfl c6) ?_;refine xxx rfl fun v2 Y2 o2=>?_;have o2:Aa 23 1 v2 [[.slice b8 l8.length k8]] Y2:=o2;refine ax ?_;refine xiv rfl rfl o o2 (by simp[Bj]) (by simp;omega) fun v5 Y5 o5=>?_;exact bkq (IH _ _ _ om ⟨j+1,v5,Y5,_,xss++[l8],rfl,rfl,g3.trans g4,l4,rfl,om,o5,(hI.mono g4.le).app (Inn.one I8),fun x hx=>(List.mem_append.1 hx).elim (hH x) fun z=>by rw[List.mem_singleton.1 z];exact⟨b7,b3⟩,by simp;omega,fun _ _ _=>by simp⟩)
  exact bkq (IH _ _ _ om ⟨j+1,v1,Y,es,xss,rfl,rfl,g3.trans g4,l4,rfl,om,o,hI.mono g4.le,hH,om,fun i hi z=>by
   rcases Nat.lt_or_ge i j with y|y
   ·exact hk i y z
   ·obtain rfl:i=j:=om;rw[<- b9]at z;exact absurd z ce⟩)
 have a9:0<es.length:=by
  obtain⟨i,hi,e⟩:=List.mem_iff_getElem.1 hd;exact hk i om (by rw[Flow.Au hi,e])
 refine ax ?_;refine xiq o (m:=es.length) rfl d_ fun p5 a8 c8 g5 e5 c9 S5=>?_;subst e5;exact K.r rfl rfl fun _ H=>xqq H (g3.trans g5) ⟨a8,_,c8,rfl,om,fun _=>⟨a9,xss,⟨es,S5,hI.mono g5.le⟩,hH⟩⟩
open Go.X.Flow (Cl Wys wz ics Al Tn Vd tnV Cb Dk RfX B3)
theorem cf87(t:Tn)(v:Vd t)(b8:t.m<=12)(hp:Per p h)(T:Al p a1 t.nH a2 t.nW a3 t.m t)(x:Int):
 Ac prog md 87 #[tnV a1 a2 a3 c1 c2 c3 t,.J x] h fun w h'=>(∃y z e:Int,w=.tuple #[.agg #[.J y,.J z],.J e]/\(0<=y/\y<=12000)/\0<=z/\z<=12000)/\Av h h':=by
 have h6:=v.nh;refine xtq hp func87 fun K b2=>?_;refine lq fun b4=>?_;refine drq [4] R9 ?_;refine xzz rfl rfl rfl (cf91 t om) ?_;generalize hq:decide (0<=x/\x<=(t.nH:Int)-1)=q;refine ex ?_
 refine xuk (first:=[]) (cap:=[]) (vs:=[tnV a1 a2 a3 c1 c2 c3 t,.bool q]) (Q:=fun w Y=>∃a n c,w=.tuple #[.slice a n c,.J (if q=true then 0 else 1)]/\n<=1000000000000/\(q=true->0<n/\ ∀p',PLe p p'->(∀y∈Y,p' y.1=some y.2)->RfX t p' a n)) rfl rfl rfl
  (fun h pe=>(yn2 t v b8 pe c1 c2 c3 T q).mono fun w h' x=>by
   obtain⟨Z,⟨p4,⟨a7,n7,c7,e,hn,R⟩,le⟩,N⟩:=x.pieces;exact⟨Z,⟨a7,n7,c7,e,hn,fun z=>⟨(R z).1,fun p' l y=>(R z).2.mono (le p' l y)⟩⟩,N⟩) fun w1 Z q1=>?_
 obtain⟨a4,n4,c4,rfl,c6,hR⟩:=q1;refine ex ?_;refine xjz Z fun p1 g1 hy=>?_;clear hq;cases q with
 |false=>
   refine cq (fun cc=>?_) (fun cc=>?_)
   ·refine ax ?_;exact K.e rfl (xpq rfl (.tmp rfl .nil)) fun _ H=>⟨⟨0,0,_,rfl,⟨d_,d_⟩,d_,d_⟩,H.kept⟩
   ·exact(cc d_).elim
 |true=>
 obtain⟨V,hR⟩:=hR rfl;have R:=hR p1 g1.le hy;have T1:=Flow.Al.mono T g1.le;obtain⟨b0,k0,l0,c5,I0,a8,a5⟩:=R.at V;have R0:=R;obtain⟨xss,⟨c8,S1,-⟩,-⟩:=R0;have bd:∀l:List Int,l.length=t.m->(∀i,i<l.length->0<=l.getD i 0/\l.getD i 0<=9)->0<=Cb t l l.length x/\Cb t l l.length x<=12000:=fun l hm hd=>by
  have:0<=Cb t l l.length x/\Cb t l l.length x<=1000*l.length:=B3 fun i hi=>by have:=hd i hi;unfold Flow.dv;omega
  omega
 have d0:=bd l0 a8 a5;refine cq (fun cc=>?_) (fun _=>?_)
 ·exact(cc rfl).elim
 refine drq [] R5 ?_;refine de_y rfl rfl (y_lp rfl c5) ?_;refine xa ?_;refine xpx rfl rfl (yrg t T1 k0 l0 I0 om om a5 x) ?_;refine lq fun b9=>?_;refine ax ?_
 refine xhq (fun m_ l_ p_ L_=>∃(j:Nat)(y z:Int),m_=n4-j/\l_=[(1,none,.J x),(2,none,w_ b2 0),(4,none,w_ b4 0),(6,none,.slice a4 n4 c4),(9,none,w_ b9 0),(10,none,.J ((j:Nat):Int))]/\p_=p1/\
  L_=[[(b9,.cells #[.J y,.J z] 100 (0,0))],[(b4,.cells #[.J 0,.J 0] 100 (0,0))],[(b2,.cells (tnV a1 a2 a3 c1 c2 c3 t).cells 28 (0,0))]]/\j<=n4/\(0<=y/\y<=12000)/\0<=z/\z<=12000) ⟨0,_,_,rfl,rfl,rfl,rfl,Nat.zero_le _,d0,d0⟩ sb ?_
 rintro _ _ p1 _ IH ⟨j,y,z,rfl,rfl,rfl,rfl,hj,a6,b7⟩;refine cq (fun cd=>?_) (fun cd=>?_)
 ·have b5:j<n4:=om;obtain⟨b3,k3,M,a9,I3,b6,O⟩:=R.at b5;have d3:=bd M b6 O;refine drq [] R6 ?_;refine de_y rfl rfl (y_lp rfl a9) ?_;refine xa ?_;refine xpx rfl rfl (yrg t T1 k3 M I3 om om O x) ?_;exact bkq (IH _ _ _ om ⟨j+1,min y (Cb t M M.length x),max z (Cb t M M.length x),rfl,rfl,rfl,rfl,om,om,om⟩)
 refine ax ?_;exact K.e rfl (xpq rfl (.tmp rfl .nil)) fun _ H=>⟨⟨y,z,0,rfl,a6,b7⟩,H.kept⟩
theorem cf80(t:Tn)(v:Vd t)(a6:t.m<=12)(hp:Per p h)(T:Al p a1 t.nH a2 t.nW a3 t.m t)(x:Int):
 Ac prog md 80 #[tnV a1 a2 a3 c1 c2 c3 t,.J x] h fun w h'=>(∃y e:Int,w=.tuple #[.J y,.J e]/\0<=y/\y<=3)/\Av h h':=by
 have h5:=v.nw;refine xtq hp func80 fun K b2=>?_;refine drq [4] R9 ?_;refine xzz rfl rfl rfl (cf92 t om) ?_;generalize hq:decide (0<=x/\x<=(t.nW:Int)-1)=q;refine ex ?_
 refine xuk (first:=[]) (cap:=[]) (vs:=[tnV a1 a2 a3 c1 c2 c3 t,.bool q]) (Q:=fun w Y=>∃a n c,w=.tuple #[.slice a n c,.J (if q=true then 0 else 1)]/\n<=1000000000000/\(q=true->0<n/\ ∀p',PLe p p'->(∀y∈Y,p' y.1=some y.2)->RfX t p' a n)) rfl rfl rfl
  (fun h pe=>(yn2 t v a6 pe c1 c2 c3 T q).mono fun w h' x=>by
   obtain⟨Z,⟨p4,⟨a7,n7,c7,e,hn,R⟩,le⟩,N⟩:=x.pieces;exact⟨Z,⟨a7,n7,c7,e,hn,fun z=>⟨(R z).1,fun p' l y=>(R z).2.mono (le p' l y)⟩⟩,N⟩) fun w1 Z q1=>?_
 obtain⟨a4,M,c4,rfl,a9,hR⟩:=q1;refine ex ?_;refine xjz Z fun p1 g1 hy=>?_;cases q with
 |false=>
   refine cq (fun H=>?_) (fun H=>?_)
   ·refine K.q ?_;exact⟨0,_,rfl,d_,d_⟩
   ·exact(H d_).elim
 |true=>
 have hx:=of_decide_eq_true hq;obtain⟨i,rfl⟩:∃i:Nat,x=i:=⟨x.toNat,om⟩
 have hi:i<t.nW:=om;obtain⟨a8,hR⟩:=hR rfl;have R:=hR p1 g1.le hy;have T1:=Flow.Al.mono T g1.le;have Tw:=T1.w;have R0:=R;obtain⟨xss,⟨b0,S1,-⟩,-⟩:=R0;refine cq (fun H=>?_) (fun _=>?_)
 ·exact(H rfl).elim
 refine ax ?_;refine xnq (fun m l'=>∃(j n:Nat),m=M-j/\l'=[(1,none,.J ((i:Nat):Int)),(2,none,w_ b2 0),(6,none,.slice a4 M c4),(8,none,.J ((n:Nat):Int)),(9,none,.J ((j:Nat):Int))]/\j<=M/\n<=j) ⟨0,0,rfl,rfl,Nat.zero_le _,Nat.le_refl _⟩ sb ?_;rintro _ _ IH ⟨j,n,rfl,rfl,hj,hn⟩;refine cq (fun cd=>?_) (fun cd=>?_)
 ·have a5:j<M:=om;obtain⟨b3,k3,l3,V,I3,b4,O⟩:=R.at a5;refine drq [] R12 ?_;refine de_y rfl rfl (y_lp rfl V) ?_;refine ex ?_;refine xzz rfl rfl rfl (ym2 t T1 k3 l3 I3 om om O) ?_;refine ex ?_;refine cq (fun ce=>?_) (fun ce=>?_)
  ·exact bkq (IH _ om ⟨j+1,n+1,rfl,rfl,om,om⟩)
  exact bkq (IH _ om ⟨j+1,n,rfl,rfl,om,om⟩)
 refine ckq yt7 ?_;rintro _ ⟨y,rfl,y0,y1⟩;refine K.q ?_;exact⟨y,0,rfl,y0,y1⟩
theorem yn7(t:Tn)(v:Vd t)(hp:Per p h)(c1 c2 c3:Nat)(T:Al p a1 t.nH a2 t.nW a3 t.m t){e:Option Addr}(c:Nat)(l:List Int)(I:Ax p e l.length l)(h6:l.length<=6)(V:∀i,i<l.length->0<=l.getD i 0/\l.getD i 0<t.nH):
 Ac prog md 185 #[tnV a1 a2 a3 c1 c2 c3 t,.slice e l.length c] h fun w h'=>(∃x:Int,w=.J x/\0<=x/\x<=54)/\Av h h':=by
 have O:=T.h;refine xtq hp func185 fun K b2=>?_;refine ax ?_;refine xnq (fun m l'=>∃(j:Nat)(x:Int),m=l.length-j/\l'=[(1,none,.slice e l.length c),(2,none,w_ b2 0),(5,none,.J x),(6,none,.J ((j:Nat):Int))]/\j<=l.length/\0<=x/\x<=9*j) ⟨0,0,rfl,rfl,Nat.zero_le _,om,om⟩ sb ?_;rintro _ _ IH ⟨j,x,rfl,rfl,hj,x0,x1⟩;refine cq (fun cd=>?_) (fun cd=>?_)
 ·have H:j<l.length:=om;have M:=V j H;have hw:=v.h (l.getD j 0).toNat om;refine drq [] R9 ?_;refine de_y rfl rfl (xed rfl rfl M.1 M.2 (Sl.ne O om)) ?_;refine de_y rfl rfl (y_lp rfl (Ax.get O om)) ?_;refine ex ?_;exact bkq (IH _ om ⟨j+1,x+t.hs.getD (l.getD j 0).toNat 0,rfl,rfl,om,om,om⟩)
 refine K.q ?_;exact⟨x,rfl,x0,om⟩
theorem Qz{a b a' H:Int}:∀h(K:Bool->Heap->Prop),K (decide (a=a'/\b=H)) h->wpS prog (Op.equalIn (9999+1) 98 (.agg #[.J a,.J b]) (.agg #[.J a',.J H])) h K:=fun h K k=>
 xbk underlying98 k_ (yf4 underlying3 underlying3 rfl rfl d_ d_ k_ k_) k
theorem cf93(t:Tn)(M:t.m<=2^20)(hp:Per p h)(T:Al p a1 t.nH a2 t.nW a3 t.m t)(x y:Int):
 Ac prog md 93 #[tnV a1 a2 a3 c1 c2 c3 t,.agg #[.J x,.J y]] h fun w h'=>Kh w/\Av h h':=by
 have Ty:Sl p a3 t.m 2 (Flow.wcs t.wy):=T.y;refine xtq hp func93 fun K b2=>?_;refine bq fun O=>?_;refine ax ?_;refine xnq (fun m l'=>∃(j:Nat),m=t.m-j/\l'=[(2,none,w_ b2 0),(3,none,w_ O 0),(5,none,.J ((j:Nat):Int))]/\j<=t.m) ⟨0,rfl,rfl,Nat.zero_le _⟩ sb ?_;rintro _ _ IH ⟨j,rfl,rfl,hj⟩;refine cq (fun cd=>?_) (fun cd=>?_)
 ·have H:j<t.m:=om;refine drq [] R6 ?_;refine de_y rfl rfl (xmj rfl (T.y.all H)) ?_;refine ex ?_;refine yys rfl rfl Qz ?_;refine cq (fun V=>?_) (fun V=>?_)
  ·refine K.q ?_;exact⟨_,rfl⟩
  exact bkq (IH _ om ⟨j+1,rfl,rfl,om⟩)
 refine K.q ?_;exact⟨_,rfl⟩
open Go.X.Flow (Cl Wys wz ics Al Tn Vd tnV HsL RfH)
theorem yo7(m b:Nat)(hm:m<=6)(hb:b<=6):∀(f:Nat)(h:Heap)(p:Ab)(_:Per p h)(e:Option Addr)(V:Nat)(l:List Int)(_:Ax p e l.length l)(_:HsL b l)(_:l.length+f=m),
 Ac prog md 184 #[.slice e l.length V,.J ((m:Nat):Int),.J ((b:Nat):Int)] h (Cn p h fun v p'=>∃a n c,v=.slice a n c/\n<=6^f/\RfH m b p' a n):=by
 intro f
 induction f with
 |zero=>
   intro h p hp e V l I hl hf;refine xaz hp func184 fun K=>?_;refine cq (fun cc=>?_) (fun cc=>?_)
   ·refine ax ?_;refine xxx rfl fun v1 Y1 o1=>?_;have o1:Aa 23 1 v1 [[.slice e l.length V]] Y1:=o1;refine ax ?_;refine xiq o1 (m:=1) rfl d_ fun p2 a4 c4 M e2 b0 S2=>?_;subst e2;exact K.r rfl rfl fun _ H=>xqq H M ⟨a4,1,c4,rfl,d_,[l],⟨_,S2,(Inn.one I).mono M.le⟩,fun x O=>by rw[List.mem_singleton.1 O];exact⟨om,hl⟩⟩
   ·exact absurd om cc
 |succ f ih=>
   intro h p hp e V l I hl hf;obtain⟨P,hP⟩:∃P,P=6^f:=⟨_,rfl⟩
   have b6:P*6<=46656:=by
    have:=Nat.pow_le_pow_right (show 0<6 by decide) (show f+1<=6 by omega);rw[Nat.pow_succ,<- hP]at this;exact this
   refine xaz hp func184 fun K=>?_;refine cq (fun cc=>?_) (fun cc=>?_)
   ·exact absurd cc om
   refine ax ?_;refine xfz (fun l' p_ L_=>∃fr:Nat,fr<=b/\l'=[(0,none,.slice e l.length V),(1,none,.J ((m:Nat):Int)),(2,none,.J ((b:Nat):Int)),(7,none,.J ((fr:Nat):Int))]/\p_=p/\L_=[]) ?_ fun k' nx=>?_;rotate_left
   ·refine cq (fun cd=>?_) (fun cd=>?_)
    ·have a3:0<l.length:=om;have O:=hl (l.length-1) om;have e1:l.getD (((l.length:Nat):Int)-1).toNat 0+1=(((l.getD (l.length-1) 0+1).toNat:Nat):Int):=by
      rw[show(((l.length:Nat):Int)-1).toNat=l.length-1 from om];omega
     have c3:0<=l.getD (((l.length:Nat):Int)-1).toNat 0/\l.getD (((l.length:Nat):Int)-1).toNat 0<b:=by
      rw[show(((l.length:Nat):Int)-1).toNat=l.length-1 from om];exact O
     refine ax ?_;refine ro_y rfl (xed rfl rfl om om (Sl.ne I a3)) ?_;refine ro_y rfl (y_lp rfl (Ax.get I om)) ?_;refine ax ?_;rw[e1];exact xbx (nx _ _ _ ⟨(l.getD (l.length-1) 0+1).toNat,om,rfl,rfl,rfl⟩) sb
    ·refine ax ?_;exact xbx (nx _ _ _ ⟨0,Nat.zero_le _,rfl,rfl,rfl⟩) sb
   rintro _ p _ ⟨fr,a9,rfl,rfl,rfl⟩;refine ax ?_;refine xjj 23 1 fun o0=>?_
   refine xhq (fun m_ l_ p_ L_=>∃(j:Nat)(v:Value)(Y:Pcs)(es:List (List Value))(xss:List (List Int)),m_=b-j/\l_=[(0,none,.slice e l.length V),(1,none,.J ((m:Nat):Int)),(2,none,.J ((b:Nat):Int)),(8,none,v),(9,none,.J ((j:Nat):Int))]/\PG h.size [] p p_/\
    L_=[Y]/\j<=b/\Aa 23 1 v es Y/\Inn p_ es xss []/\(∀l∈xss,l.length=m/\HsL b l)/\es.length<=j*P) ⟨fr,_,_,_,[],rfl,rfl,.refl _ _ _,rfl,a9,o0,Inn.nil,fun x O=>by simp at O,Nat.zero_le _⟩ sb ?_
   clear o0;rintro _ _ p1 _ IH ⟨j,v1,Y,es,xss,rfl,rfl,g1,rfl,hj,o,hI,hH,hn⟩;refine cq (fun cd=>?_) (fun cd=>?_)
   ·have b7:j<b:=om;have b4:(j+1)*P<=6*P:=Nat.mul_le_mul_right _ om;have b5:(j+1)*P=j*P+P:=Nat.succ_mul j P;have hlen:(l++[((j:Nat):Int)]).length=l.length+1:=by simp
    refine ax ?_;refine xxx rfl fun v2 Y2 o2=>?_;have o2:Aa 3 1 v2 [] Y2:=o2;refine ax ?_;refine xiw rfl rfl o2 (I.mono g1.le) (xev _) (by simp;omega) fun v3 Y3 o3=>?_;refine ax ?_;refine xxx rfl fun v4 Y4 o4=>?_;have o4:Aa 3 1 v4 (ics [((j:Nat):Int)]) Y4:=o4;refine xiv rfl rfl o3 o4 (xev _) (by simp[ics];omega) fun v5 Y5 o5=>?_;have o5:Aa 3 1 v5 (ics (l++[((j:Nat):Int)])) Y5:=o5.as (by simp[ics]);refine ax ?_;refine xzq o5 (m:=(l++[((j:Nat):Int)]).length) (by simp[ics]) d_ fun p2 a6 c6 M e6 c1 S6=>?_;subst e6;refine xqk rfl rfl (fun h pe=>ih h _ pe a6 c6 _ S6 (hl.snoc ⟨om,om⟩) (by rw[hlen];omega)) ?_;rintro _ p3 g3 ⟨a7,n7,c7,rfl,a5,a8,⟨b9,S7,a2⟩,b3⟩;have c2:=S7.len;rw[<- hP]at a5;refine xiw rfl rfl o S7 a2.Og om fun v8 Y8 o8=>?_;exact bkq (IH _ _ _ om ⟨j+1,v8,Y8,_,xss++a8,rfl,rfl,(g1.trans M).trans g3,rfl,om,o8,(hI.mono (M.trans g3).le).app a2,fun x O=>(List.mem_append.1 O).elim (hH x) (b3 x),by rw[List.length_append];omega⟩)
   have b8:j*P<=6*P:=Nat.mul_le_mul_right _ om;refine ax ?_;refine xiq o (m:=es.length) rfl d_ fun p2 a4 c4 M e2 b0 S2=>?_;subst e2;exact K.r rfl rfl fun _ H=>xqq H (g1.trans M) ⟨a4,_,c4,rfl,by rw[Nat.pow_succ,<- hP];omega,xss,⟨es,S2,hI.mono M.le⟩,hH⟩
theorem ym7(t:Tn)(v:Vd t)(a4:t.m<=12)(hp:Per p h)(c1 c2 c3:Nat)(T:Al p a1 t.nH a2 t.nW a3 t.m t){e:Option Addr}(c:Nat)(l:List Int)(I:Ax p e l.length l)(h6:l.length<=6):
 Ac prog md 186 #[tnV a1 a2 a3 c1 c2 c3 t,.slice e l.length c] h fun w h'=>(∃x:Int,w=.J x/\0<=x/\x<=100)/\Av h h':=by
 have Tw:=T.w;have h5:=v.nw;have Ty:Sl p a3 t.m 2 (Flow.wcs t.wy):=T.y;refine xtq hp func186 fun K b2=>?_;refine ax ?_;refine xnq (fun m l'=>∃(j:Nat)(x:Int),m=t.nW-j/\l'=[(1,none,.slice e l.length c),(2,none,w_ b2 0),(5,none,.J x),(6,none,.J ((j:Nat):Int))]/\j<=t.nW/\0<=x/\x<=20*j) ⟨0,0,rfl,rfl,Nat.zero_le _,om,om⟩ sb ?_;rintro _ _ V ⟨j,x,rfl,rfl,hj,x0,x1⟩;refine cq (fun cd=>?_) (fun cd=>?_)
 ·have M:j<t.nW:=om;have hw:=v.w j M;refine ax ?_;refine xnq (fun m l'=>∃(i:Nat)(q:Bool),m=t.m-i/\l'=[(1,none,.slice e l.length c),(2,none,w_ b2 0),(5,none,.J x),(6,none,.J ((j:Nat):Int)),(7,none,.bool q),(8,none,.J ((i:Nat):Int))]/\i<=t.m) ⟨0,false,rfl,rfl,Nat.zero_le _⟩ sb ?_;rintro _ _ O ⟨i,q,rfl,rfl,hi⟩;refine cq (fun ce=>?_) (fun ce=>?_)
  ·have H:i<t.m:=om;refine ax ?_;refine ro_y rfl (xdj rfl sdu (fun _=>T.y.we H) (u:=.J (t.wy.getD i wz).2)) ?_;refine ax ?_;refine ro_y rfl (xdj rfl sdu (fun _=>T.y.ho H) (u:=.J (t.wy.getD i wz).1)) ?_;refine ax ?_;refine xdr (Q:=fun _=>True) rfl rfl rfl sdu (fun h pe=>(ys1 _ c l I om h pe).mono fun _ _⟨⟨q,e⟩,k⟩=>⟨⟨q,e,trivial⟩,k⟩) fun q2 _=>?_;exact bkq (O _ om ⟨i+1,_,rfl,rfl,om⟩)
  refine cq (fun cf=>?_) (fun cf=>?_)
  ·exact bkq (V _ om ⟨j+1,x+t.ws.getD j 0,rfl,rfl,om,om,om⟩)
  exact bkq (V _ om ⟨j+1,x,rfl,rfl,om,om,om⟩)
 refine K.q ?_;exact⟨x,rfl,x0,om⟩
theorem cf86(t:Tn)(v:Vd t)(a5:t.m<=12)(hp:Per p h)(T:Al p a1 t.nH a2 t.nW a3 t.m t):
 Ac prog md 86 #[tnV a1 a2 a3 c1 c2 c3 t] h (Cn p h fun w p'=>∃a c e l,w=.tuple #[.slice a l.length c,.J e]/\Ax p' a l.length l/\l.length<=6/\HsL t.nH l):=by
 have h6:=v.nh;have h5:=v.nw;refine xtq hp func86 fun K b1=>?_;refine ax ?_;refine xpx rfl rfl (cf33 t T ⟨om,om,om⟩) ?_;rw[Flow.Cw a5 v];refine cq (fun cc=>?_) (fun _=>?_)
 ·exact(cc rfl).elim
 refine ax ?_
 refine xhq (fun m_ l_ p_ L_=>∃(j:Nat),m_=t.nH-j/\l_=[(1,none,w_ b1 0),(5,none,.J ((j+1:Nat):Int))]/\PG h.size [] p p_/\
  L_=[[(b1,.cells (tnV a1 a2 a3 c1 c2 c3 t).cells 28 (0,0))]]/\j<=t.nH) ⟨0,rfl,rfl,.refl _ _ _,rfl,Nat.zero_le _⟩ sb ?_
 rintro _ _ p1 _ IH ⟨j,rfl,rfl,g1,rfl,hj⟩;refine cq (fun cd=>?_) (fun cd=>?_)
 ·have b0:j<t.nH:=om;refine ax ?_;refine xqk rfl rfl (fun h V=>yo7 (j+1) t.nH om h6 (j+1) h _ V none 0 [] (Sl.nil _ _ _) (fun i hi=>by simp at hi) s_) ?_;rintro _ p2 g2 ⟨a4,n4,c4,rfl,a6,R⟩;have T2:=Flow.Al.mono T (g1.trans g2).le;have R0:=R;obtain⟨xss,⟨a9,S1,-⟩,-⟩:=R0;have b5:n4<=46656:=Nat.le_trans a6 (Nat.pow_le_pow_right (n:=6) d_ (show j+1<=6 by omega));refine ax ?_;refine xnq (fun m l'=>∃(i:Nat),m=n4-i/\l'=[(1,none,w_ b1 0),(5,none,.J ((j+1:Nat):Int)),(6,none,.slice a4 n4 c4),(7,none,.J ((i:Nat):Int))]/\i<=n4) ⟨0,rfl,rfl,Nat.zero_le _⟩ sb ?_;rintro _ _ a7 ⟨i,rfl,rfl,hi⟩;refine cq (fun ce=>?_) (fun ce=>?_)
  ·have a8:i<n4:=om;obtain⟨b3,k3,l3,M,I3,b4,O⟩:=R.at a8;refine drq [5] [0,1,2,3,4,6,7,8,9,10,5] ?_;refine de_y rfl rfl (y_lp rfl M) ?_;refine ex ?_;refine de_y rfl rfl (y_lp rfl M) ?_;refine ex ?_;refine xap rfl rfl rfl (fun h V=>yn7 t v V c1 c2 c3 T2 k3 l3 I3 om O) ?_;rintro _ ⟨x,rfl,x0,x1⟩;refine xa ?_;refine xzg rfl rfl (fun h V=>ym7 t v a5 V c1 c2 c3 T2 k3 l3 I3 om) ?_;rintro _ ⟨y,rfl,y0,y1⟩;refine cq (fun cf=>?_) (fun cf=>?_)
   ·refine ax ?_;refine ro_y rfl (y_lp rfl M) ?_;refine ax ?_;exact K.r rfl rfl fun _ H=>xqq H (g1.trans g2) ⟨b3,k3,0,l3,rfl,I3,om,O⟩
   exact bkq (a7 _ om ⟨i+1,rfl,rfl,om⟩)
  refine ax ?_;rw[show((j+1:Nat):Int)+1=((j+1+1:Nat):Int) from om];exact bkq (IH _ _ _ om ⟨j+1,rfl,rfl,g1.trans g2,rfl,om⟩)
 refine ax ?_;exact K.r rfl rfl fun _ H=>xqq H g1 ⟨none,0,3,[],rfl,Sl.nil _ _ _,d_,fun i hi=>by simp at hi⟩
theorem yu6(s:Shf)(hk:s.ok):∀(f:Nat)(h:Heap)(p:Ab)(_:Per p h)(a b:Option Addr)(ca cb:Nat)(_:Cy p a b s)(e:Option Addr)(c:Nat)(l:List Int)(_:Ax p e l.length l)(_:stp s l)(fr:Nat)
 (_:l=[]->fr=1) (_:0<l.length->l.getD (l.length-1) 0+1=(fr:Nat)) (_:fr+f=s.Af.length+1) (_:l.length<fr),
 Ac prog md 231 #[shV a b ca cb s,.slice e l.length c] h (Cn p h fun v p'=>∃a n c,v=.slice a n c/\n<=2^f/\RfS s p' a n):=by
 intro f
 induction f using Nat.strongRecOn with
 |ind f ih=>
 intro h p hp a b ca cb S e c l I hl fr h0 h1 hf hm;have b6:=hk.2.2.1;refine xtq hp func231 fun K b2=>?_;refine ax ?_;refine xxx rfl fun v1 Y1 o1=>?_;have o1:Aa 23 1 v1 [[.slice e l.length c]] Y1:=o1;refine ax ?_;refine xfz (fun l' p_ L_=>l'=[(1,none,.slice e l.length c),(2,none,w_ b2 0),(5,none,v1),(6,none,.J (fr:Nat))]/\p_=p/\L_=[Y1,[(b2,.cells (shV a b ca cb s).cells 25 (0,0))]]) ?_ fun k' nx=>?_;rotate_left
 ·refine cq (fun ce=>?_) (fun ce=>?_)
  ·have a4:0<l.length:=om;have e1:l.getD (((l.length:Nat):Int)-1).toNat 0+1=((fr:Nat):Int):=by
    rw[show(((l.length:Nat):Int)-1).toNat=l.length-1 from om];exact h1 om
   refine ax ?_;refine ro_y rfl (xed rfl rfl om om (Sl.ne I a4)) ?_;refine ro_y rfl (y_lp rfl (Ax.get I om)) ?_;refine ax ?_;rw[e1];exact xbx (nx _ _ _ ⟨rfl,rfl,rfl⟩) sb
  ·have:fr=1:=h0 (List.eq_nil_of_length_eq_zero om);subst this;refine ax ?_;exact xbx (nx _ _ _ ⟨rfl,rfl,rfl⟩) sb
 rintro _ p _ ⟨rfl,rfl,rfl⟩;refine ax ?_
 refine xhq (fun m_ l_ p_ L_=>∃(j:Nat)(v:Value)(Y:Pcs)(es:List (List Value))(xss:List (List Int)),m_=f-j/\l_=[(1,none,.slice e l.length c),(2,none,w_ b2 0),(5,none,v),(7,none,.J ((fr+j:Nat):Int))]/\PG h.size [] p p_/\
  L_=[Y,[(b2,.cells (shV a b ca cb s).cells 25 (0,0))]]/\j<=f/\Aa 23 1 v es Y/\Inn p_ es xss []/\(∀l∈xss,stp s l)/\es.length+2^(f-j)<=2^f+1) ⟨0,v1,Y1,_,[l],rfl,rfl,.refl _ _ _,rfl,Nat.zero_le _,o1,Inn.one I,fun x hx=>by rw[List.mem_singleton.1 hx];exact hl,by simp;omega⟩ sb ?_
 clear o1;rintro _ _ p1 _ IH ⟨j,v,Y,es,xss,rfl,rfl,g1,rfl,hj,o,hI,hH,hn⟩;have b3:2^f<=2^12:=Nat.pow_le_pow_right d_ (by have:=hf;omega);refine cq (fun cd=>?_) (fun cd=>?_)
 ·have b4:j<f:=om;have b5:2^(f-j)=2^(f-j-1)*2:=by rw[<- Nat.pow_succ];congr 1;omega
  refine ax ?_;have b0:∀i,i<l.length->(l++[((fr+j:Nat):Int)]).getD i 0=l.getD i 0:=fun i hi=>by rw[List.getD_eq_getElem?_getD,List.getElem?_append_left hi,<- List.getD_eq_getElem?_getD]
  have O:(l++[((fr+j:Nat):Int)]).getD l.length 0=((fr+j:Nat):Int):=by rw[List.getD_eq_getElem?_getD,List.getElem?_append_right (Nat.le_refl _),Nat.sub_self];rfl
  have hlen:(l++[((fr+j:Nat):Int)]).length=l.length+1:=by simp
  refine xl3 (args6:=[.tmp 29,.tmp 35]) (QC:=fun v Z=>∃a n c,v=.slice a n c/\n<=2^(f-j-1)/\ ∀p',PLe p1 p'->(∀y∈Z,p' y.1=some y.2)->RfS s p' a n) 2 [1] [v,shV a b ca cb s,undef,.slice e l.length c,undef,.J ((fr+j:Nat):Int)] (fun u=>[shV a b ca cb s,u]) (I.mono g1.le) (by have:=hl.1;omega) rfl rfl s_ (fun val i hi=>?_) (fun val hv=>by show some ([],[val 1,val 7])=_;rw[hv 1 s_];rfl) (fun u Y o2 h L st=>?_) fun val piece hv q=>?_
  ·obtain rfl|rfl|rfl|rfl:i=0\/i=1\/i=3\/i=5:=om
   all_goals
    exact det
  ·obtain⟨p',⟨g',gl⟩,hy,s'⟩:=st.Dj;obtain⟨a2,c2,e2,I2⟩:=o2.inP hy;subst e2;rw[Go.X.Flow.Ae]at I2⊢;refine(ih (f-j-1) om h p' s'.per a b ca cb ((S.mono g1.le).mono g'.le) a2 c2 _ I2 ⟨by rw[hlen];omega,fun i hi=>?_⟩ (fr+j+1) (fun z=>by simp at z) (fun _=>by rw[hlen,show l.length+1-1=l.length from rfl,O];omega) om (by rw[hlen];omega)).mono fun v' h' x=>?_
   ·rw[hlen]at hi;by_cases V:i<l.length
    ·rw[b0 i V];exact hl.2 i V
    ·obtain rfl:i=l.length:=om;rw[O];omega
   ·obtain⟨Z,⟨p2,⟨a3,n3,c3,e3,a6,R3⟩,le⟩,N⟩:=x.pieces;exact⟨Z,⟨a3,n3,c3,e3,a6,fun a5 l y=>R3.mono (le a5 (gl a5 l fun z hz=>y z (List.mem_append_right _ hz)) fun z hz=>y z (List.mem_append_left _ hz))⟩,N⟩
  obtain⟨a3,n3,c3,e3,a6,a7⟩:=q;refine xdk (l':=[(1,none,.slice e l.length c),(2,none,w_ b2 0),(7,none,.J ((fr+j:Nat):Int)),(28,none,v),(36,none,.slice a3 n3 c3)]) ?_ ⟨rfl,rfl,rfl,by show some (none,val 0)=_;rw[hv 0 om];rfl,by show some (none,val 8)=_;rw[e3],trivial⟩;refine xjz (piece 8) fun p3 g3 hy=>?_;obtain⟨a8,⟨b7,S3,M⟩,a9⟩:=a7 p3 g3.le hy;refine ax ?_;refine xiw rfl rfl o S3 M.Og om fun v4 Y4 o4=>?_;exact bkq (IH _ _ _ om ⟨j+1,v4,Y4,_,xss++a8,rfl,rfl,g1.trans g3,rfl,om,o4,(hI.mono g3.le).app M,fun x hx=>(List.mem_append.1 hx).elim (hH x) (a9 x),by rw[List.length_append,S3.len];rw[show f-(j+1)=f-j-1 from om];omega⟩)
 obtain rfl:j=f:=om;refine ax ?_;refine xiq o (m:=es.length) rfl d_ fun p2 a2 c2 g2 e2 b8 S2=>?_;subst e2;exact K.r rfl rfl fun _ H=>xqq H (g1.trans g2) ⟨a2,_,c2,rfl,by rw[Nat.sub_self]at hn;omega,xss,⟨es,S2,hI.mono g2.le⟩,hH⟩
theorem yq2{a:Option Addr}(ca cb:Nat)(s:Shf)(S:Cy p a b s)(M:s.ok):Lc prog md p 165 #[shV a b ca cb s] (fun v p'=>∃a n c e,v=.tuple #[.slice a n c,.J e]/\(e=0\/e=3)/\(e=0->0<n)/\n<=4096/\RfS s p' a n):=by
 intro h hp;have h4:=M.1;have a5:=M.2.2.1;have a9:2^s.Af.length<=2^12:=Nat.pow_le_pow_right d_ a5;refine xtq hp func165 fun K b1=>?_;refine ax ?_;refine xpx rfl rfl (cf32 s S ⟨om,om⟩) ?_;rw[show Hx s=0 from if_pos M];refine cq (fun cc=>?_) (fun _=>?_)
 ·exact(cc rfl).elim
 refine ax ?_;refine xqk rfl rfl (fun h pe=>yu6 s M s.Af.length h _ pe a b ca cb S none 0 [] (Sl.nil _ _ _) ⟨s_,fun i hi=>by simp at hi⟩ 1 (fun _=>rfl) (fun z=>by simp at z) om d_) ?_;rintro _ p1 g1 ⟨a1,V,c1,rfl,b3,a6,⟨a4,S1,a3⟩,a8⟩;have T:=S.mono g1.le;refine ax ?_;refine xjj 23 1 fun o0=>?_
 refine xhq (fun m_ l_ p_ L_=>∃(j:Nat)(v:Value)(Y:Pcs)(es:List (List Value))(xss:List (List Int)),m_=V-j/\l_=[(1,none,w_ b1 0),(5,none,v),(6,none,.slice a1 V c1),(7,none,.J ((j:Nat):Int))]/\p_=p1/\
  L_=[Y,[(b1,.cells (shV a b ca cb s).cells 25 (0,0))]]/\j<=V/\Aa 23 1 v es Y/\Inn p1 es xss []/\(∀l∈xss,stp s l)/\es.length<=j) ⟨0,_,_,_,[],rfl,rfl,rfl,rfl,Nat.zero_le _,o0,Inn.nil,fun x O=>by simp at O,Nat.zero_le _⟩ sb ?_
 clear o0;rintro _ _ p1 _ IH ⟨j,v,Y,es,xss,rfl,rfl,rfl,rfl,hj,o,hI,hH,hn⟩;refine cq (fun cd=>?_) (fun cd=>?_)
 ·have a7:j<V:=om;obtain⟨b,c,l,hc,I,hl⟩:=RfS.at ⟨a6,⟨a4,S1,a3⟩,a8⟩ a7;refine drq [] R5 ?_;refine de_y rfl rfl (y_lp rfl hc) ?_;refine xa ?_;refine ckq (yt6 s T M c l I hl) ?_;rintro _ ⟨q,rfl⟩;refine cq (fun ce=>?_) (fun ce=>?_)
  ·refine ax ?_;refine ro_y rfl (y_lp rfl hc) ?_;refine xxx rfl fun v2 Y2 o2=>?_;have o2:Aa 23 1 v2 [[.slice b l.length c]] Y2:=o2;refine ax ?_;refine xiv rfl rfl o o2 (by simp[Bj]) (by simp;omega) fun v4 Y4 o4=>?_;exact bkq (IH _ _ _ om ⟨j+1,v4,Y4,_,xss++[l],rfl,rfl,rfl,rfl,om,o4,hI.app (Inn.one I),fun x O=>(List.mem_append.1 O).elim (hH x) fun z=>by rw[List.mem_singleton.1 z];exact hl,by simp;omega⟩)
  exact bkq (IH _ _ _ om ⟨j+1,v,Y,es,xss,rfl,rfl,rfl,rfl,om,o,hI,hH,om⟩)
 refine ax ?_;refine ro_y rfl (xzt rfl sdt o rfl) ?_;refine cq (fun ce=>?_) (fun ce=>?_)
 ·refine ax ?_;exact K.r rfl rfl fun _ H=>xqq H g1 ⟨none,0,0,3,rfl,.inr rfl,fun z=>by simp at z,Nat.zero_le _,[],⟨[],Sl.nil _ _ _,Inn.nil⟩,fun x O=>by simp at O⟩
 refine ax ?_;refine xiq o (m:=es.length) rfl d_ fun p2 a2 c2 g2 e2 b0 S2=>?_;subst e2;exact K.r rfl rfl fun _ H=>xqq H (g1.trans g2) ⟨a2,_,c2,0,rfl,.inl rfl,fun _=>om,om,xss,⟨es,S2,hI.mono g2.le⟩,hH⟩
theorem yy7{a:Option Addr}(ca cb:Nat)(s:Shf)(S:Cy p a b s)(hk:s.ok):Kc prog md p 164 #[shV a b ca cb s] (fun v=>(∃b n c e,v=.tuple #[.slice b n c,.J e]/\(e=0\/e=3)/\n<=12)):=by
 refine xkq func164 fun K b1=>?_;refine cpq (yq2 ca cb s S hk) ?_;rintro _ p1 g1 ⟨a1,n1,c1,e,rfl,he,H,hn,O,⟨V,S1,M⟩,a3⟩;refine cq (fun cc=>?_) (fun cc=>?_)
 ·refine K.q ?_;exact⟨_,_,_,_,rfl,he,Nat.zero_le _⟩
 have H:=H (Classical.not_not.1 cc);obtain⟨b0,c0,l0,a7,_,a4⟩:=RfS.at ⟨O,⟨V,S1,M⟩,a3⟩ H;refine ax ?_;refine ro_y rfl (y_lp rfl a7) ?_;refine ax ?_;refine xnq (fun m l'=>∃(j:Nat)(b:Option Addr)(n c:Nat),m=n1-j/\l'=[(4,none,.slice a1 n1 c1),(6,none,.slice b n c),(7,none,.J ((j:Nat):Int))]/\j<=n1/\n<=12) ⟨0,b0,_,c0,rfl,rfl,Nat.zero_le _,a4.1⟩ sb ?_;rintro _ _ IH ⟨j,b,n,c,rfl,rfl,hj,hb⟩;refine cq (fun cd=>?_) (fun cd=>?_)
 ·have a6:j<n1:=om;obtain⟨b2,c2,l2,a2,_,a5⟩:=RfS.at ⟨O,⟨V,S1,M⟩,a3⟩ a6;refine ax ?_;refine ro_y rfl (y_lp rfl a2) ?_;refine cq (fun ce=>?_) (fun ce=>?_)
  ·refine ax ?_;refine ro_y rfl (y_lp rfl a2) ?_;exact bkq (IH _ om ⟨j+1,b2,_,c2,rfl,rfl,om,a5.1⟩)
  exact bkq (IH _ om ⟨j+1,b,n,c,rfl,rfl,om,hb⟩)
 refine K.q ?_;exact⟨_,_,_,0,rfl,.inl rfl,hb⟩
theorem cf75{a:Option Addr}(s:Shf)(S:Cy p a b s)(H:s.ok):Kc prog md p 75 #[shV a b ca cb s] (fun v=>(∃n e,v=.tuple #[.J n,.J e]/\ -1000000<=n/\n<=1000000)):=by
 refine xkq func75 fun K b1=>?_;refine ckq (yy7 ca cb s S H) ?_;rintro _ ⟨b,n,c,e,rfl,_,hn⟩;refine K.q ?_;exact⟨_,_,rfl,om,om⟩
theorem cf76{a:Option Addr}(s:Shf)(S:Cy p a b s)(hk:s.ok):Kc prog md p 76 #[shV a b ca cb s] (fun v=>(∃n e,v=.tuple #[.J n,.J e]/\ -100000<=n/\n<=100000)):=by
 refine xkq func76 fun K b1=>?_;refine cpq (yq2 ca cb s S hk) ?_;rintro _ p1 g1 ⟨a1,n1,c1,e,rfl,he,H,hn,O,⟨V,S1,M⟩,a2⟩;have T:=S.mono g1.le;refine cq (fun cc=>?_) (fun cc=>?_)
 ·refine K.q ?_;exact⟨0,_,rfl,om,om⟩
 have H:=H (Classical.not_not.1 cc);obtain⟨b0,c0,l0,a6,I0,a3⟩:=RfS.at ⟨O,⟨V,S1,M⟩,a2⟩ H;refine drq [] R4 ?_;refine de_y rfl rfl (y_lp rfl a6) ?_;refine xa ?_;refine ckq (yp2 s T hk c0 l0 I0 a3) ?_;rintro _ ⟨x0,rfl,x1,x2⟩;refine ax ?_;refine xnq (fun m l'=>∃(j:Nat)(x:Int),m=n1-j/\l'=[(1,none,w_ b1 0),(4,none,.slice a1 n1 c1),(6,none,.J x),(7,none,.J ((j:Nat):Int))]/\j<=n1/\ -100000<=x/\x<=100000) ⟨0,x0,rfl,rfl,Nat.zero_le _,x1,x2⟩ sb ?_;rintro _ _ IH ⟨j,x,rfl,rfl,hj,x3,x4⟩;refine cq (fun cd=>?_) (fun cd=>?_)
 ·have a5:j<n1:=om;obtain⟨b2,c2,l2,a7,I2,a4⟩:=RfS.at ⟨O,⟨V,S1,M⟩,a2⟩ a5;refine drq [6] R7 ?_;refine de_y rfl rfl (y_lp rfl a7) ?_;refine ex ?_;refine xap rfl rfl rfl (yp2 s T hk c2 l2 I2 a4) ?_;rintro _ ⟨y,rfl,y1,y2⟩;refine ex ?_;exact bkq (IH _ om ⟨j+1,min x y,rfl,rfl,om,om,om⟩)
 refine K.q ?_;exact⟨x,0,rfl,x3,x4⟩
theorem yw7{a:Option Addr}(s:Shf)(S:Cy p a b s)(hn:s.Ah.length<=2^20/\s.Af.length<=2^20)(d:Nat)(O:d<=s.Af.length):Lc prog md p 169 #[shV a b ca cb s,.J (d:Nat)] (fun v p'=>∃a b ca cb,v=shV a b ca cb (Fc s d)/\Cy p' a b (Fc s d)):=by
 refine xkq func169 fun K b2=>?_;refine lq fun b4=>?_;refine coq (cf41 s S hn) ?_;rintro _ _ ⟨a1,c1,a2,c2,Y1,Y2,rfl,o1,V,rfl⟩;have h2:=V.room d_ rfl;refine lq fun b5=>?_;refine ax ?_;refine xef (j:=d) rfl rfl om ?_;refine ax ?_;refine xrz Y1 Y2 ?_;refine xiq o1 (m:=s.Ah.length) (by simp[rcs]) d_ fun p1 a3 c3 g1 e1 a5 S1=>?_;cases e1;refine xiq V (m:=s.Af.length) (by simp[ics]) d_ fun p2 a4 c4 M e2 a6 S2=>?_;cases e2;exact K.e rfl (xpq rfl .nil) fun _ H=>xqq H (g1.trans M) ⟨a1,a2,c1,c2,by show _=Value.agg #[_,.slice _ (s.Af.take d).length _,_,_,_];rw[List.length_take,Nat.min_eq_left O];rfl,ycl (⟨S1.mono M.le,S2⟩:Cy _ _ _ s) O⟩
theorem yv7{a:Option Addr}(s:Shf)(S:Cy p a b s)(hn:s.Ah.length<=2^20/\s.Af.length<=2^20)(x:Int):Lc prog md p 170 #[shV a b ca cb s,.J x] (fun v p'=>∃a b ca cb,v=shV a b ca cb {s with Af:=s.Af++[x]}/\Cy p' a b {s with Af:=s.Af++[x]}):=by
 refine xkq func170 fun K b2=>?_;refine lq fun b4=>?_;refine coq (cf41 s S hn) ?_;rintro _ _ ⟨a1,c1,a2,c2,Y1,Y2,rfl,o1,o2,rfl⟩;refine lq fun b5=>?_;refine ax ?_;refine xxx rfl fun v3 Y3 O=>?_;have O:Aa 3 1 v3 (ics [x]) Y3:=O;refine xqc Y1 Y2 ?_;refine xiv rfl rfl o2 O (xzv _) (by simp[ics];omega) fun v4 Y4 M=>?_;have M:Aa 3 1 v4 (ics (s.Af++[x])) Y4:=M.as (by simp[ics]);obtain⟨a4,c4,rfl,-⟩:=M.val;rw[show(ics (s.Af++[x])).length=s.Af.length+1 by simp[ics]]at M⊢;refine ax ?_;refine xiq o1 (m:=s.Ah.length) (by simp[rcs]) d_ fun p1 a3 c3 g1 e1 a6 S1=>?_;cases e1;refine xiq M (m:=s.Af.length+1) (by simp[ics]) d_ fun p2 a5 c5 V e2 a7 S2=>?_;cases e2;exact K.e rfl (xpq rfl .nil) fun _ H=>xqq H (g1.trans V) ⟨a1,a4,c1,c4,by show _=Value.agg #[_,.slice _ (s.Af++[x]).length _,_,_,_];rw[List.length_append];rfl,S1.mono V.le,by show Ax _ _ (s.Af++[x]).length _;rw[List.length_append];exact S2⟩
theorem cf77{a:Option Addr}(s:Shf)(S:Cy p a b s)(H:s.ok)(x:Int):Kc prog md p 77 #[shV a b ca cb s,.J x] (fun v=>(∃n e,v=.tuple #[.J n,.J e]/\ -1000000<=n/\n<=1000000)):=by
 intro h hp;have h4:=H.1;have a5:=H.2.2.1;refine xtq hp func77 fun K b1=>?_;refine drq [2] R3 ?_;refine xap rfl rfl rfl (yx7 x) ?_;rintro _ ⟨q,rfl⟩;refine xa ?_;refine cdq (yo2 s S H q) ?_;refine cq (fun cc=>?_) (fun cc=>?_)
 ·refine K.q ?_;exact⟨0,_,rfl,om,om⟩
 refine ax ?_;refine xhq (fun O l_ p_ L_=>∃j:Nat,O=j/\l_=[(1,none,.J x),(2,none,w_ b1 0),(7,none,.J ((j:Nat):Int))]/\PG h.size [] p p_/\L_=[[(b1,.cells (shV a b ca cb s).cells 25 (0,0))],[]]/\j<=s.Af.length) ⟨s.Af.length,rfl,rfl,.refl _ _ _,rfl,Nat.le_refl _⟩ sb ?_;rintro O _ p1 _ IH ⟨j,hm,rfl,M,rfl,hj⟩;refine cq (fun cd=>?_) (fun cd=>?_)
 ·refine ax ?_;refine xqk rfl rfl (yw7 s (S.mono M.le) ⟨om,om⟩ j hj) ?_;rintro _ p2 V ⟨a2,b2,a4,a3,rfl,T⟩;refine ckq (cf76 _ T (yhf H)) ?_;rintro _ ⟨n,e,rfl,n1,n2⟩;refine cq (fun ce=>?_) (fun ce=>?_)
  ·refine K.q ?_;exact⟨_,0,rfl,om,om⟩
  obtain⟨i,rfl⟩:∃i,j=i+1:=⟨j-1,om⟩
  refine ax ?_;rw[show(((i+1:Nat):Int))-1=((i:Nat):Int) from om];exact bkq (IH _ _ _ om ⟨i,rfl,rfl,M.trans V,rfl,om⟩)
 refine K.q ?_;exact⟨0,0,rfl,om,om⟩
theorem cf78{a:Option Addr}(s:Shf)(S:Cy p a b s)(H:s.ok)(x:Int):Kc prog md p 78 #[shV a b ca cb s,.J x] (fun v=>(∃n e,v=.tuple #[.J n,.J e]/\ -1000000<=n/\n<=1000000)):=by
 have h4:=H.1;have O:=H.2.2.1;refine xkq func78 fun K b1=>?_;refine drq [] R4 ?_;refine xzz rfl rfl rfl (cf52 s om x) ?_;refine xa ?_;refine cdq (yo2 s S H _) ?_;refine cq (fun M=>?_) (fun M=>?_)
 ·refine K.q ?_;exact⟨0,_,rfl,om,om⟩
 have V:okF s.Ah.length x:=by
  by_cases z:okF s.Ah.length x
  ·exact z
  ·simp[z]at M
 refine cq (fun cd=>?_) (fun cd=>?_)
 ·refine K.q ?_;exact⟨0,_,rfl,om,om⟩
 refine ckq (cf76 s S H) ?_;rintro _ ⟨n1,e1,rfl,n2,n3⟩;refine ax ?_;refine xqk rfl rfl (yv7 s S ⟨om,om⟩ x) ?_;rintro _ p2 g2 ⟨a2,b2,a4,a3,rfl,T⟩;refine xzg rfl rfl (cf76 _ T (ypn H om V)) ?_;rintro _ ⟨n4,e4,rfl,n5,n6⟩;refine cq (fun ce=>?_) (fun ce=>?_)
 ·refine K.q ?_;exact⟨0,_,rfl,om,om⟩
 refine K.q ?_;exact⟨_,0,rfl,om,om⟩
end Go.Proofs.YtofhlcococeifaaGreatDoor
