/-
  Part of proofs about a town's master: a calculus for Be beside goroutines that are only leaving, and the Be. No condition.
-/
import Derived.Test.YtblcmdjhidhnjaaGreatDoorGN
set_option maxRecDepth 20000
set_option synthInstance.maxSize 2000
namespace Go.X
open Go.Conc
open Go.X.Flow (ics)
theorem Inn.mono{p p':Ab}{es:List (List Value)}{xss:List (List Int)}(x:Inn p es xss [])(H:PLe p p'):Inn p' es xss []:=fun q l h=>x q (H.trans l) h
theorem Inn.Nt{p:Ab}{es:List (List Value)}{xss:List (List Int)}(x:Inn p es xss []):∀u∈es.flatten,A7 u=true:=fun u H=>by
 obtain⟨l,r⟩:=x p (.refl p) s_;obtain⟨e,he,H⟩:=List.mem_flatten.1 H;obtain⟨i,hi,rfl⟩:=List.mem_iff_getElem.1 he;obtain⟨a,c,e,_⟩:=r i om;rw[List.getElem?_eq_getElem hi]at e;rw[Option.some.inj e,List.mem_singleton]at H;rw[H];rfl
def Rfs(p:Ab)(a:Option Addr)(n:Nat)(xss:List (List Int)):Prop:=∃es,Sl p a n 1 es/\Inn p es xss []
section
variable{p p':Ab}{a:Option Addr}{n i:Nat}{xss:List (List Int)}
theorem Rfs.len(r:Rfs p a n xss):xss.length=n:=by
 obtain⟨es,s,x⟩:=r;rw[<- (x p (.refl p) s_).1];exact s.len
theorem Rfs.mono(r:Rfs p a n xss)(H:PLe p p'):Rfs p' a n xss:=by
 obtain⟨es,s,x⟩:=r;exact⟨es,Sl.mono H s,x.mono H⟩
theorem Rfs.at(r:Rfs p a n xss)(hi:i<n):∃b c,At p ((adr a).add (i*1))=some (.slice b (xss.getD i []).length c)/\As p b (xss.getD i []).length (xss.getD i []):=by
 have H:=r.len;obtain⟨es,s,x⟩:=r;obtain⟨b,c,e,I⟩:=(x p (.refl p) s_).2 i om;exact⟨b,c,Sl.get s i _ e 0 _ rfl,I⟩
end
def Ca(QC:Value->Pcs->Prop)(T:TypeId)(B:Nat)(V:List Value)(H:List Int)(d:Int)(i:Nat)(v:Value)(x:Pcs):Prop:=
 if i=B then Ac T 1 v (ics []) x else if i=B+2 then Ac T 1 v (ics H) x else if i=B+4 then Ac T 1 v (ics [d]) x else if i=B+5 then Ac T 1 v (ics (H++[d])) x else if i=B+6 then QC v x else(v=V.getD i undef/\x=[])
theorem DR.mono{P:Program}{md:Md}{ops:List Oper}{n:Nat}{z9:Heap}{zz:List Nat}{p:Ab}{LF:Pcs}{H todo:List Nat}{K M:Env->List Pcs->Prop}{l:Env}{LL:List Pcs}(h:DR P md ops n z9 zz p LF H K todo l LL)(e:∀l LL,K l LL->M l LL):DR P md ops n z9 zz p LF H M todo l LL:=by
 induction h with
 |nil k=>exact .nil (e _ _ k)
 |det ho h nx ih=>exact .det ho h ih
 |pin ho hb h nx ih=>exact .pin ho hb h ih
 |Ny ho he hr h nx ih=>exact .Ny ho he hr h ih
theorem yer{X:Cx}{k:List Item}{ops:List Oper}{p:Ab}{LL:List Pcs}{H todo:List Nat}{i:Nat}{l M:Env}{L0:List Pcs}{P Q:Value->Pcs->Prop}(e:∀v x,P v x->Q v x)
 (h:DE X k ops (.to fun l' LL'=>(∃v,l'=ent ((ops[i]?).bind (·.dst)) none v M)/\ ∀v,l'=ent ((ops[i]?).bind (·.dst)) none v M->P v LL'.flatten) p LL H todo l L0):
 DE X k ops (.to fun l' LL'=>(∃v,l'=ent ((ops[i]?).bind (·.dst)) none v M)/\ ∀v,l'=ent ((ops[i]?).bind (·.dst)) none v M->Q v LL'.flatten) p LL H todo l L0:=
 ⟨h.run.mono fun _ _⟨a,b⟩=>⟨a,fun v z=>e _ _ (b v z)⟩⟩
theorem xe1{X:Cx}{k:List Item}{ops:List Oper}{l:Env}{p:Ab}{LL:List Pcs}{id:Nat}{sT eT:TypeId}{a6 a9 b9 a8 b5:TypeId}{b8 b6 b3 c3 c2:String}{d7 b4 e0 c1 d8:Array Edge}{d0 d1 d2 d3 d4 d5 d6:Nat}{a:Option Addr}{n c:Nat}{H:List Int}{d:Int}{x6:Operand}{args6:List Operand}{a2:Array TypeId}{ff:FuncId}{first cap:List Value}{QC:Value->Pcs->Prop}(B:Nat)(us:List Nat)(V:List Value)(vs:Value->List Value)
 (I:As p a n H)(hn:n<=1000)(v1:V.getD (B+1) undef=.slice a n c)(v3:V.getD (B+3) undef=.J d)(has:∀i∈us,i<B)
 (pu:∀val,∀i,i<B\/i=B+1\/i=B+3->DE X k ops (.to fun l' LL'=>(∃v,l'=ent ((ops[i]?).bind (·.dst)) none v (Gf ops val (B+7) l))/\ ∀v,l'=ent ((ops[i]?).bind (·.dst)) none v (Gf ops val (B+7) l)->v=V.getD i undef/\LL'.flatten=[]) p LL [B,B+2,B+4,B+5,B+6] [i] (Gf ops val (B+7) l) [])
 (d9:∀val,(∀i∈us,val i=V.getD i undef)->C9 (Gf ops val (B+7) l) args6=some ([],vs (val (B+5))))
 (b0:∀u Y,Ac eT 1 u (ics (H++[d])) Y-> ∀h L,St X.z9 X.zz p h (Y++L)->Aa X.P X.md ff (first++(vs u++cap)).toArray h fun v' h'=>∃Z,QC v' (Z++Y)/\New h h' Z)
 (nx:∀(val:Nat->Value)(piece:Nat->Pcs),(∀i,i<B->val i=V.getD i undef)->QC (val (B+6)) (piece (B+6))->RO X k ops (ops.drop (B+7)) (Gf ops val (B+7) l) p (piece (B+6)::LL))
 [hT:Bv X.P sT eT][hs:Ai X.P eT 1][hz:A5 X.P eT (.J 0)][hb:ByC X.P eT 8]
 (h0:ops[B]?=some ⟨some d0,.buildSlice sT 0 #[],a6,b8,d7,none⟩:=by rfl)
 (h2:ops[B+2]?=some ⟨some d2,.call ⟨.builtin .append,#[.tmp d0,.tmp d1],#[sT,sT]⟩,a9,b6,b4,none⟩:=by rfl)
 (h4:ops[B+4]?=some ⟨some d4,.buildSlice sT 1 #[(0,.tmp d3)],b9,b3,e0,none⟩:=by rfl)
 (h5:ops[B+5]?=some ⟨some d5,.call ⟨.builtin .append,#[.tmp d2,.tmp d4],#[sT,sT]⟩,a8,c3,c1,none⟩:=by rfl)
 (h6:ops[B+6]?=some ⟨some d6,.call ⟨.value x6,args6.toArray,a2⟩,b5,c2,d8,none⟩:=by rfl)
 (lk:∀val:Nat->Value,(evS (Gf ops val (B+7) l) (.tmp d0)=some ([],val B)/\evS (Gf ops val (B+7) l) (.tmp d1)=some ([],val (B+1))/\evS (Gf ops val (B+7) l) (.tmp d2)=some ([],val (B+2))/\evS (Gf ops val (B+7) l) (.tmp d3)=some ([],val (B+3))/\evS (Gf ops val (B+7) l) (.tmp d4)=some ([],val (B+4)))/\evS (Gf ops val (B+7) l) x6=some ([],.func (.func ff) first.toArray cap.toArray):=by exact fun _=>⟨⟨rfl,rfl,rfl,rfl,rfl⟩,rfl⟩)
 (a4:Am X.P ff=true:=by kernel_rfl)(a5:X.P.follows .mixedOrders=true:=by kernel_rfl)(ok:okD X.n ops=true:=by rfl)(a7:Bp ops (B+7) (clo ops)=true:=by kernel_rfl)(hm:Nat.ble (B+7) ops.length=true:=by kernel_rfl)
 (hk:Ky ops (B+7) [] (fun i=>bif i==B+2 then [B]else bif i==B+5 then [B+2,B+4]else bif i==B+6 then [B+5]else []) ([B+6]++(List.range (B+4)).filter fun i=>i !=B&&i !=B+2)=true:=by kernel_rfl)
 (a3:K2 ops (B+7) (clo ops) (fun i=>bif i==B+2 then [B,B+1]else bif i==B+4 then [B+3]else bif i==B+5 then [B+2,B+4]else bif i==B+6 then(B+5)::us else [])=true:=by kernel_rfl)(b7:Pk ops (B+7)=true:=by kernel_rfl):
 RE X (.code (.region id ops.toArray true)::k) l p LL:=by
 have q0:∀{v x},Ca QC eT B V H d B v x=Ac eT 1 v (ics []) x:=by intros;simp[Ca]
 have q2:∀{v x},Ca QC eT B V H d (B+2) v x=Ac eT 1 v (ics H) x:=by intros;simp[Ca]
 have q4:∀{v x},Ca QC eT B V H d (B+4) v x=Ac eT 1 v (ics [d]) x:=by intros;simp[Ca]
 have q5:∀{v x},Ca QC eT B V H d (B+5) v x=Ac eT 1 v (ics (H++[d])) x:=by intros;simp[Ca]
 have q6:∀{v x},Ca QC eT B V H d (B+6) v x=QC v x:=by intros;simp[Ca]
 have qp:∀{i v x},i≠B->i≠B+2->i≠B+4->i≠B+5->i≠B+6->Ca QC eT B V H d i v x=(v=V.getD i undef/\x=[]):=by
  intro i v x z0 z2 z4 z5 z6;unfold Ca;rw[if_neg z0,if_neg z2,if_neg z4,if_neg z5,if_neg z6]
 refine xpg (B+7) [B+6] ((List.range (B+4)).filter fun i=>i !=B&&i !=B+2) [B,B+2,B+4,B+5,B+6] (fun i=>bif i==B+2 then [B]else bif i==B+5 then [B+2,B+4]else bif i==B+6 then [B+5]else []) (fun i=>bif i==B+2 then [B,B+1]else bif i==B+4 then [B+3]else bif i==B+5 then [B+2,B+4]else bif i==B+6 then(B+5)::us else [])
  (fun i _ _ v x=>Ca QC eT B V H d i v x) (fun i hi val piece hq=>?_) (fun val piece j hj v x q=>?_) (fun val piece hq=>?_) a5 ok a7 hm hk ?_ a3 b7
 ·obtain⟨⟨k0,k1,k2,k3,k4⟩,k5⟩:=lk val;have hq:∀j,(bif i==B+2 then [B,B+1]else bif i==B+4 then [B+3]else bif i==B+5 then [B+2,B+4]else bif i==B+6 then(B+5)::us else []).contains j=true->Ca QC eT B V H d j (val j) (piece j):=hq;have M:∀{x y:Nat},x≠y->(x==y)=false:=fun h=>beq_false_of_ne h;have O:∀x:Nat,(x==x)=true:=fun x=>beq_self_eq_true x;show DE _ _ _ _ _ _ _ _ _ (List.map piece (bif i==B+2 then [B]else bif i==B+5 then [B+2,B+4]else bif i==B+6 then [B+5]else []));by_cases z0:i=B
  ·subst z0;rw[show(bif i==i+2 then [i]else bif i==i+5 then [i+2,i+4]else bif i==i+6 then [i+5]else [])=[] by rw[M om,M om,M om];rfl];refine xvk (n:=0) (parts:=[]) (vs:=[]) (cells:=#[]) h0 rfl (fun v Y o=>?_) (he:=List.contains_iff_mem.2 s_);rw[h0];exact xzq ⟨⟨_,rfl⟩,fun v' e=>by
    have e':=xpq e;subst e';show Ca QC eT i V H d i _ (Y++[]);rw[List.append_nil,q0];exact o⟩
  by_cases z2:i=B+2
  ·subst z2;have o:Ca QC eT B V H d B (val B) (piece B):=hq B (by rw[O];simp);have e1:Ca QC eT B V H d (B+1) (val (B+1)) (piece (B+1)):=hq (B+1) (by rw[O];simp);rw[qp om om om om om]at e1;rw[q0]at o;rw[show(bif B+2==B+2 then [B]else bif B+2==B+5 then [B+2,B+4]else bif B+2==B+6 then [B+5]else [])=[B] by rw[O];rfl];show DE _ _ _ _ _ _ _ _ _ [piece B];refine xxg (w:=1) h2 k0 (by rw[k1,e1.1,v1]) o I (xyv _) (by have:=I.len;simp[ics];omega) (fun v Y o2=>?_) (he:=List.contains_iff_mem.2 s_);rw[h2];exact xzq ⟨⟨_,rfl⟩,fun v' e=>by
    have e':=xpq e;subst e';show Ca QC eT B V H d (B+2) _ (Y++[]);rw[List.append_nil,q2];exact o2⟩
  by_cases z4:i=B+4
  ·subst z4;have e3:Ca QC eT B V H d (B+3) (val (B+3)) (piece (B+3)):=hq (B+3) (by rw[M om,O];simp);rw[qp om om om om om]at e3;rw[show(bif B+4==B+2 then [B]else bif B+4==B+5 then [B+2,B+4]else bif B+4==B+6 then [B+5]else [])=[] by rw[M om,M om,M om];rfl];refine xvk (n:=1) (parts:=[(0,.tmp d3)]) (vs:=[(0,.J d)]) (cells:=#[.J d]) h4 (by unfold Mp;rw[k3,e3.1,v3];rfl) (fun v Y o=>?_) (he:=List.contains_iff_mem.2 s_);rw[h4];exact xzq ⟨⟨_,rfl⟩,fun v' e=>by
    have e':=xpq e;subst e';show Ca QC eT B V H d (B+4) _ (Y++[]);rw[List.append_nil,q4];exact o⟩
  by_cases z5:i=B+5
  ·subst z5;have o2:Ca QC eT B V H d (B+2) (val (B+2)) (piece (B+2)):=hq (B+2) (by rw[M om,M om,O];simp);have o4:Ca QC eT B V H d (B+4) (val (B+4)) (piece (B+4)):=hq (B+4) (by rw[M om,M om,O];simp);rw[q2]at o2;rw[q4]at o4;rw[show(bif B+5==B+2 then [B]else bif B+5==B+5 then [B+2,B+4]else bif B+5==B+6 then [B+5]else [])=[B+2,B+4] by rw[M om,O];rfl];show DE _ _ _ _ _ _ _ _ _ [piece (B+2),piece (B+4)];refine xu7 h5 k2 k4 o2 o4 (xyv _) (by have:=I.len;simp[ics];omega) (fun v Y o=>?_) (he:=List.contains_iff_mem.2 s_);rw[h5];exact xzq ⟨⟨_,rfl⟩,fun v' e=>by
    have e':=xpq e;subst e';show Ca QC eT B V H d (B+5) _ (Y++[]);rw[List.append_nil,q5];exact o.as (by simp[ics])⟩
  by_cases z6:i=B+6
  ·subst z6;have e5:Ca QC eT B V H d (B+5) (val (B+5)) (piece (B+5)):=hq (B+5) (by rw[M om,M om,M om,O];simp);rw[q5]at e5;rw[show(bif B+6==B+2 then [B]else bif B+6==B+5 then [B+2,B+4]else bif B+6==B+6 then [B+5]else [])=[B+5] by rw[M om,M om,O];rfl];show DE _ _ _ _ _ _ _ _ _ [piece (B+5)];refine yir (Q:=fun v Z=>QC v (Z++piece (B+5))) (piece (B+5)) h6 k5 (d9 val fun i hi=>?_) (fun h L s=>b0 _ _ e5 h L s) (fun v Z q=>?_) (he:=List.contains_iff_mem.2 s_) (hf:=a4)
   ·have hB:=has i hi;have e:Ca QC eT B V H d i (val i) (piece i):=hq i (by rw[M om,M om,M om,O];simp[hi]);rw[qp om om om om om]at e;exact e.1
   rw[h6];exact xzq ⟨⟨_,rfl⟩,fun v' e=>by
    have e':=xpq e;subst e';show Ca QC eT B V H d (B+6) _ ((Z++piece (B+5))++[]);rw[List.append_nil,q6];exact q⟩
  rw[show(bif i==B+2 then [B]else bif i==B+5 then [B+2,B+4]else bif i==B+6 then [B+5]else [])=[] by rw[M z2,M z5,M z6];rfl];exact yer (fun v x e=>by show Ca QC eT B V H d i v x;rw[qp z0 z2 z4 z5 z6];exact e) (pu val i om)
 ·have hj:=List.mem_filter.1 hj;have h1:=List.mem_range.1 hj.1;have h2:=hj.2;simp only[Bool.and_eq_true,bne_iff_ne,ne_eq]at h2;have q:Ca QC eT B V H d j v x:=q;rw[qp h2.1 h2.2 om om om]at q;exact q.2
 ·refine nx val piece (fun i hi=>?_) ?_
  ·have q:Ca QC eT B V H d i (val i) (piece i):=hq i om;rw[qp om om om om om]at q;exact q.1
  ·have q:Ca QC eT B V H d (B+6) (val (B+6)) (piece (B+6)):=hq (B+6) om;rwa[q6]at q
 ·rw[List.all_eq_true];intro j hj;have:=List.mem_range.1 (List.mem_filter.1 hj).1;exact decide_eq_true om
theorem xkm{X:Cx}{k:List Item}{ops:List Oper}{m:Ks}{l:Env}{p:Ab}{LF LL:List Pcs}{H todo:List Nat}{d:Option Tmp}{ty:TypeId}{pos:String}{aft:Array Edge}{x:Operand}{i:Nat}{args:List Operand}{ats:Array TypeId}{ff:FuncId}{first cap vs:List Value}{Q:Value->Prop}(V:ops[i]?=some ⟨d,.call ⟨.value x,args.toArray,ats⟩,ty,pos,aft,none⟩)
 (hx:evS l x=some ([],.func (.func ff) first.toArray cap.toArray))(M:C9 l args=some ([],vs))(hc:∀h,Per p h->Aa X.P X.md ff (first++(vs++cap)).toArray h fun v' O=>Q v'/\Af h O)(n:∀v,Q v->DE X k ops m p LF H todo (ent d none v l) ([]::LL))
 (he:H.contains i=true:=by rfl)(hf:Am X.P ff=true:=by kernel_rfl):DE X k ops m p LF H (i::todo) l LL:=
 xuk (Q:=fun v Y=>Q v/\Y=[]) V hx M (fun h pe=>(hc h pe).mono fun v O⟨q,k⟩=>⟨[],⟨q,rfl⟩,New.of k⟩) (fun v Y⟨q,e⟩=>by subst e;exact n v q) he hf
abbrev shV(a b:Option Addr)(ca cb:Nat)(s:Shf):Value:=.agg #[.slice a s.Ah.length ca,.slice b s.Ag.length cb,.J s.deep,.J s.Cf,.J s.rest]
def sml(v:Value):Prop:=∃n:Int,v=.J n/\ -100000<=n/\n<=100000
def Hf(v:Value):Prop:=∃b:Bool,v=.bool b
def stp(s:Shf)(l:List Int):Prop:=l.length<=12/\ ∀i,i<l.length->1<=l.getD i 0/\l.getD i 0<=s.Ag.length
end Go.X
namespace Go.X.Cist
abbrev yV(size start:Int)(a:Option Addr)(n c:Nat):Value:=.agg #[.J size,.J start,.slice a n c]
structure YOk(size start:Int)(ds:List Day):Prop where
 z:0<=size/\size<=60
 s:0<=start/\start<=size
 n:ds.length<=8
 d:∀i,i<ds.length->(0<=(ds.getD i dz).lo/\(ds.getD i dz).lo<=(ds.getD i dz).hi/\(ds.getD i dz).hi<=20)/\0<=(ds.getD i dz).want/\(ds.getD i dz).want<=1000
def M9(ds:List Day)(l:List Int):Prop:=l.length=ds.length/\ ∀i,i<l.length->0<=l.getD i 0/\l.getD i 0<=20
def Om(l:List Int):Prop:=∀i,i<l.length->0<=l.getD i 0/\l.getD i 0<=60
def Of(ds:List Day)(l:List Int):Prop:=∀i,i<l.length->(0<=l.getD i 0/\l.getD i 0<=1000)/\((ds.getD i dz).want=0->l.getD i 0=0)/\(60<(ds.getD i dz).want->0<l.getD i 0)
theorem Gz{P:Nat->Int->Prop}{l:List Int}{x:Int}(h:∀i,i<l.length->P i (l.getD i 0))(H:P l.length x):∀i,i<(l++[x]).length->P i ((l++[x]).getD i 0):=fun i hi=>by
 rw[List.length_append,List.length_singleton]at hi;rw[List.getD_eq_getElem?_getD];by_cases z:i<l.length
 ·rw[List.getElem?_append_left z,<- List.getD_eq_getElem?_getD];exact h i z
 ·obtain rfl:i=l.length:=om;rw[List.getElem?_append_right (Nat.le_refl _),Nat.sub_self];exact H
def L8(p:Ab)(ds:List Day)(e:List Value):Prop:=∃a1 c1 O M V H a3 c3 n,e=[.slice a1 n c1,.slice M n V,.slice a3 n c3]/\n=ds.length/\(As p a1 n O/\Om O)/\As p M n H/\Of ds H
theorem L8.mono{p p':Ab}{ds:List Day}{e:List Value}(s:L8 p ds e)(H:PLe p p'):L8 p' ds e:=by
 obtain⟨a1,c1,M,a2,c2,l2,V,c3,n,e,hn,⟨O,h1⟩,I2,h2⟩:=s;exact⟨a1,c1,M,a2,c2,l2,V,c3,n,e,hn,⟨O.mono H,h1⟩,I2.mono H,h2⟩
def Mu(l:List Int):Prop:=∀i,i<l.length->0<=l.getD i 0/\l.getD i 0<=20
def RfW(ds:List Day)(p:Ab)(a:Option Addr)(n:Nat):Prop:=∃xss,Rfs p a n xss/\ ∀l∈xss,M9 ds l
theorem RfW.at{ds:List Day}{p:Ab}{a:Option Addr}{n i:Nat}(r:RfW ds p a n)(hi:i<n):∃b c l,At p ((adr a).add (i*1))=some (.slice b (List.length l) c)/\As p b l.length l/\M9 ds l:=by
 obtain⟨xss,R,H⟩:=r;obtain⟨b,c,e,I⟩:=R.at hi;exact⟨b,c,_,e,I,H _ (by rw[Flow.Bn (by rw[R.len];exact hi)];exact List.getElem_mem _)⟩
theorem RfW.mono{ds:List Day}{p p':Ab}{a:Option Addr}{n:Nat}(r:RfW ds p a n)(M:PLe p p'):RfW ds p' a n:=by
 obtain⟨xss,R,H⟩:=r;exact⟨xss,R.mono M,H⟩
theorem Ok.yok{size start:Int}{ds:List Day}(h:Ok size start ds):YOk size start ds:=⟨⟨h.1,h.2.1⟩,⟨h.2.2.1,h.2.2.2.1⟩,h.2.2.2.2.1,fun i hi=>by
 have:=h.2.2.2.2.2 i hi;unfold C7 at this;omega⟩
theorem YOk.sized{size start:Int}{ds:List Day}(h:YOk size start ds){z:Int}(H:0<=z/\z<=60):YOk z (min start z) ds:=⟨H,by have:=h.s;omega,h.n,h.d⟩
theorem YOk.Gp{size start:Int}{ds:List Day}(h:YOk size start ds){wf:Nat->Int->Int}(hw:∀i w,i<ds.length->0<=w->w<=1000->0<=wf i w/\wf i w<=1000):YOk size start (Gp wf ds):=⟨h.z,h.s,by rw[B0];exact h.n,fun i hi=>by
 rw[B0]at hi;have d:=h.d i hi;have:=hw i _ hi d.2.1 d.2.2;unfold Cist.Gp;rw[xck hi,if_pos hi];exact⟨d.1,this⟩⟩
def Mh(p:Ab)(ds:List Day)(a:Option Addr)(n:Nat):Prop:=∃es,Sl p a n 3 es/\ ∀e∈es,L8 p ds e
theorem Mh.at{p:Ab}{ds:List Day}{a:Option Addr}{n i:Nat}(s:Mh p ds a n)(hi:i<n):∃b1 c1 M b2 V O,(At p ((adr a).add (i*3))=some (.slice b1 ds.length c1)/\As p b1 ds.length M/\Om M)/\At p (((adr a).add (i*3)).add 1)=some (.slice b2 ds.length V)/\As p b2 ds.length O/\Of ds O:=by
 obtain⟨es,S,H⟩:=s;have hl:=S.len;obtain⟨a1,c1,M,a2,V,O,a3,c3,n',e,rfl,⟨I1,h1⟩,I2,h2⟩:=H es[i] (List.getElem_mem om);have he:es[i]?=some es[i]:=List.getElem?_eq_getElem om;exact⟨a1,c1,M,a2,V,O,⟨Sl.get S i _ he 0 _ (by rw[e];rfl),I1,h1⟩,Sl.get S i _ he 1 _ (by rw[e];rfl),I2,h2⟩
theorem C4{ds:List Day}{i:Nat}{w:Int}:(By ds i w).length=ds.length:=by simp[By]
theorem Fk{ds:List Day}{i k:Nat}{w:Int}(hi:i<ds.length):(By ds i w).getD k dz=if k=i then {ds.getD i dz with want:=w}else ds.getD k dz:=by
 simp only[By,List.getD_eq_getElem?_getD,List.getElem?_set];by_cases e:i=k
 ·subst e;simp[hi]
 ·simp[e,Ne.symm e]
theorem Lu{wf:Nat->Int->Int}{ds:List Day}{i:Nat}(hi:i<ds.length):((Gp wf ds).getD i dz).want=wf i (ds.getD i dz).want:=by
 unfold Gp;rw[xck hi,if_pos hi]
theorem YOk.By{size start:Int}{ds:List Day}(h:YOk size start ds){i:Nat}(hi:i<ds.length){w:Int}(hw:0<=w/\w<=1000):YOk size start (By ds i w):=⟨h.z,h.s,by rw[C4];exact h.n,fun k H=>by
 rw[C4]at H;rw[Fk hi];split
 ·rename_i e;subst e;exact⟨(h.d k H).1,hw⟩
 ·exact h.d k H⟩
end Go.X.Cist
namespace Go.X
theorem ynl{X:Cx}{k:List Item}{ops:List Oper}{m:Ks}{l:Env}{p:Ab}{LF LL:List Pcs}{H todo:List Nat}{d:Option Tmp}{ty:TypeId}{pos:String}{aft:Array Edge}{x y:Operand}{i w:Nat}{t e:TypeId}{q c j:Nat}{a:Option Addr}{kk:IntKind}(V:ops[i]?=some ⟨d,.slice t x none (some y) none,ty,pos,aft,none⟩)
 (hx:evS l x=some ([],.slice a q c))(M:evS l y=some ([],.int kk ((j:Nat):Int)))(hj:j<=c)[f:Bv X.P t e][sz:Ai X.P e w]
 (n:DE X k ops m p LF H todo (ent d none (.slice a j c) l) LL):DE X k ops m p LF H (i::todo) l LL:=
 xuz (g:=none) V rfl rfl (fun tm O _ E _=>by
  have z:=xsw (tm:=tm) (h:=O) (d:=d) (ty:=ty) (pos:=pos) (aft:=aft) (gd:=none) f.h sz.h (xeq E hx trivial) (.none 0) (.nat q (xeq E M trivial)) (Nat.zero_le j) hj;rw[xv7,Nat.sub_zero,Nat.sub_zero]at z;exact z) n
end Go.X
namespace Go.X.Flow
open Go.X
abbrev tnV(a1 O V:Option Addr)(c1 M H:Nat)(t:Tn):Value:=.agg #[.slice a1 t.nH c1,.slice O t.nW M,.slice V t.m H]
def Hy(t:Tn)(d:List Int):Nat->List Int
 |0=>[]
 |k+1=>put (Hy t d k) (t.hs.getD k 0-B3 t d d.length ((k:Nat):Int))
theorem Gu(t:Tn)(d:List Int):∀k,(Hy t d k).length=k
 |0=>rfl
 |k+1=>by rw[Hy,Fb,Gu t d k]
theorem Lm{t:Tn}{d:List Int}(v:Vd t)(M:∀i,i<d.length->0<=d.getD i 0/\d.getD i 0<=9)(H:d.length<=12):∀{k:Nat},k<=t.nH-> ∀x∈Hy t d k,-12000<=x/\x<=9
 |0,_,x,hx=>by simp[Hy]at hx
 |k+1,hk,x,hx=>by
   rcases List.mem_cons.1 ((xrd _ _).mem_iff.1 hx)with rfl|hx
   ·have:=v.h k hk;have b:0<=B3 t d d.length ((k:Nat):Int)/\B3 t d d.length ((k:Nat):Int)<=1000*d.length:=Br fun i hi=>by have:=M i hi;unfold dv;omega
    omega
   ·exact Lm v M H (Nat.le_of_succ_le hk) x hx
def Eo(t:Tn)(d:List Int):Int:=min (t.hs.getD (t.wy.getD d.length wz).1.toNat 0-B3 t d d.length (t.wy.getD d.length wz).1) (t.ws.getD (t.wy.getD d.length wz).2.toNat 0-C1 t d d.length (t.wy.getD d.length wz).2)
def dvs(t:Tn):Nat->List Int->List (List Int)
 |0,d=>[d]
 |f+1,d=>(List.range (Eo t d+1).toNat).flatMap fun n:Nat=>dvs t f (d++[(n:Int)])
def dpre(t:Tn)(f:Nat)(d:List Int)(k:Nat):List (List Int):=(List.range k).flatMap fun n:Nat=>dvs t f (d++[(n:Int)])
theorem F9{t:Tn}{f:Nat}{d:List Int}{k:Nat}:dpre t f d (k+1)=dpre t f d k++dvs t f (d++[(k:Int)]):=by
 unfold dpre;rw[List.range_succ,List.flatMap_append];simp
theorem yub{t:Tn}{f:Nat}{d:List Int}{P k:Nat}(H:∀n:Nat,n<k->(dvs t f (d++[(n:Int)])).length<=P):(dpre t f d k).length<=k*P:=by
 induction k with
 |zero=>simp[dpre]
 |succ k ih=>
   rw[F9,List.length_append,Nat.succ_mul];have a:=ih fun n hn=>H n om;have b:=H k om;omega
structure Gc(t:Tn)(d:List Int):Prop where
 sm:∀i,i<d.length->0<=d.getD i 0/\d.getD i 0<=9
 hs:∀i,i<t.m->B3 t d d.length (t.wy.getD i wz).1<=t.hs.getD (t.wy.getD i wz).1.toNat 0
 ws:∀i,i<t.m->C1 t d d.length (t.wy.getD i wz).2<=t.ws.getD (t.wy.getD i wz).2.toNat 0
theorem yaj{d:List Int}{n:Int}{i:Nat}(h:i<d.length):dv (d++[n]) i=dv d i:=by
 unfold dv;rw[List.getD_eq_getElem?_getD,List.getD_eq_getElem?_getD,List.getElem?_append_left h]
theorem ybj{d:List Int}{n:Int}:dv (d++[n]) d.length=n:=by
 unfold dv;rw[List.getD_eq_getElem?_getD,List.getElem?_append_right (Nat.le_refl _)];simp
theorem ydj{t:Tn}{d:List Int}{n x:Int}:B3 t (d++[n]) (d.length+1) x=B3 t d d.length x+if(t.wy.getD d.length wz).1=x then n else 0:=by
 unfold B3;rw[sm,ybj,xxz (g:=fun i=>if(t.wy.getD i wz).1=x then dv d i else 0) fun i hi=>by rw[yaj hi]]
theorem ybz{t:Tn}{d:List Int}{n x:Int}:C1 t (d++[n]) (d.length+1) x=C1 t d d.length x+if(t.wy.getD d.length wz).2=x then n else 0:=by
 unfold C1;rw[sm,ybj,xxz (g:=fun i=>if(t.wy.getD i wz).2=x then dv d i else 0) fun i hi=>by rw[yaj hi]]
theorem Gc.bd{t:Tn}{d:List Int}(D:Gc t d)(x:Int):(0<=B3 t d d.length x/\B3 t d d.length x<=1000*d.length)/\0<=C1 t d d.length x/\C1 t d d.length x<=1000*d.length:=
 have H:∀i,i<d.length->0<=dv d i/\dv d i<=1000:=fun i hi=>by have:=D.sm i hi;unfold dv;omega
 ⟨Br H,Br H⟩
theorem Gc.E8{t:Tn}{d:List Int}(D:Gc t d)(v:Vd t)(h:d.length<t.m):0<=Eo t d/\Eo t d<=9:=by
 have w:=v.wok _ h;have a:=D.hs _ h;have b:=D.ws _ h;have c:=(D.bd (t.wy.getD d.length wz).1).1;have e:=v.h _ w.1.2;unfold Eo;omega
theorem Gc.next{t:Tn}{d:List Int}(D:Gc t d)(v:Vd t)(h:d.length<t.m){n:Int}(n0:0<=n)(M:n<=Eo t d):Gc t (d++[n]):=by
 have O:=D.E8 v h;have H:(d++[n]).length=d.length+1:=by simp
 have V:=Int.le_trans M O.2;unfold Eo at M;refine⟨fun i hi=>?_,fun i hi=>?_,fun i hi=>?_⟩
 ·rw[H]at hi;show 0<=dv (d++[n]) i/\dv (d++[n]) i<=9;rcases Nat.lt_or_ge i d.length with z|z
  ·rw[yaj z];exact D.sm i z
  ·obtain rfl:i=d.length:=om;rw[ybj];omega
 ·rw[H,ydj];have:=D.hs i hi;split
  ·rename_i e;rw[<- e]at this⊢;omega
  ·omega
 ·rw[H,ybz];have:=D.ws i hi;split
  ·rename_i e;rw[<- e]at this⊢;omega
  ·omega
theorem Gc.nil{t:Tn}(v:Vd t):Gc t []:=⟨fun i hi=>by simp at hi,fun i hi=>(v.h _ (v.wok i hi).1.2).1,fun i hi=>(v.w _ (v.wok i hi).2.2).1⟩
theorem G0{t:Tn}(v:Vd t):∀{f:Nat}{d:List Int},Gc t d->d.length+f=t.m->(dvs t f d).length<=10^f
 |0,_,_,_=>Nat.le_refl _
 |f+1,d,D,h=>by
   have H:=D.E8 v om;have:=yub (t:=t) (f:=f) (d:=d) (P:=10^f) (k:=(Eo t d+1).toNat) fun n hn=>G0 v (D.next v om (n:=n) om om) (by simp;omega);have k:(Eo t d+1).toNat*10^f<=10*10^f:=Nat.mul_le_mul_right _ om;rw[Nat.pow_succ];unfold dpre at this;rw[dvs];omega
theorem yzz{t:Tn}(v:Vd t):∀{f:Nat}{d:List Int},Gc t d->d.length+f=t.m-> ∃l,l∈dvs t f d
 |0,d,_,_=>⟨d,List.mem_singleton.2 rfl⟩
 |f+1,d,D,h=>by
   have M:=D.E8 v om;obtain⟨l,H⟩:=yzz v (D.next v om (n:=((0:Nat):Int)) om om) (f:=f) (by simp;omega);exact⟨l,by rw[dvs];exact List.mem_flatMap.2 ⟨0,List.mem_range.2 om,H⟩⟩
theorem Lt{t:Tn}(v:Vd t):∀{f:Nat}{d l:List Int},Gc t d->d.length+f=t.m->l∈dvs t f d->Gc t l/\l.length=t.m
 |0,d,l,D,h,H=>by
   obtain rfl:=List.mem_singleton.1 H;exact⟨D,h⟩
 |f+1,d,l,D,h,H=>by
   have M:=D.E8 v om;rw[dvs]at H;obtain⟨n,hn,H⟩:=List.mem_flatMap.1 H;have hn:=List.mem_range.1 hn;exact Lt v (D.next v om (n:=n) om om) (by simp;omega) H
def RfD(t:Tn)(p:Ab)(a:Option Addr)(n:Nat):Prop:=Rfs p a n (dvs t t.m [])
theorem RfD.mono{t:Tn}{p p':Ab}{a:Option Addr}{n:Nat}(r:RfD t p a n)(H:PLe p p'):RfD t p' a n:=Rfs.mono r H
theorem RfD.pos{t:Tn}{p:Ab}{a:Option Addr}{n:Nat}(r:RfD t p a n)(v:Vd t):0<n:=by
 obtain⟨l,H⟩:=yzz v (Gc.nil v) (f:=t.m) s_;have:=Rfs.len r;have:=List.length_pos_of_mem H;omega
theorem RfD.le{t:Tn}{p:Ab}{a:Option Addr}{n:Nat}(r:RfD t p a n)(v:Vd t)(H:t.m<=12):n<=1000000000000:=by
 have:=Rfs.len r;have h:=G0 v (Gc.nil v) (f:=t.m) s_;have k:10^t.m<=10^12:=Nat.pow_le_pow_right d_ H;omega
theorem RfD.at{t:Tn}{p:Ab}{a:Option Addr}{n i:Nat}(r:RfD t p a n)(v:Vd t)(hi:i<n):∃b c l,At p ((adr a).add (i*1))=some (.slice b (List.length l) c)/\As p b l.length l/\(l∈dvs t t.m []/\l=(dvs t t.m []).getD i [])/\l.length=t.m/\ ∀i,i<l.length->0<=l.getD i 0/\l.getD i 0<=9:=by
 obtain⟨b,c,e,I⟩:=Rfs.at r hi;have H:(dvs t t.m []).getD i []∈dvs t t.m []:=by rw[Flow.Bn (by rw[Rfs.len r];exact hi)];exact List.getElem_mem _
 have M:=Lt v (Gc.nil v) s_ H;exact⟨b,c,_,e,I,⟨H,rfl⟩,M.2,M.1.sm⟩
def RfX(t:Tn)(p:Ab)(a:Option Addr)(n:Nat):Prop:=∃xss,Rfs p a n xss/\ ∀l∈xss,l.length=t.m/\ ∀i,i<l.length->0<=l.getD i 0/\l.getD i 0<=9
theorem RfX.mono{t:Tn}{p p':Ab}{a:Option Addr}{n:Nat}(r:RfX t p a n)(M:PLe p p'):RfX t p' a n:=by
 obtain⟨x,R,H⟩:=r;exact⟨x,R.mono M,H⟩
theorem RfX.at{t:Tn}{p:Ab}{a:Option Addr}{n i:Nat}(r:RfX t p a n)(hi:i<n):∃b c l,At p ((adr a).add (i*1))=some (.slice b (List.length l) c)/\As p b l.length l/\l.length=t.m/\ ∀i,i<l.length->0<=l.getD i 0/\l.getD i 0<=9:=by
 obtain⟨x,R,H⟩:=r;obtain⟨b,c,e,I⟩:=R.at hi;have h:=H (x.getD i []) (by rw[Flow.Bn (by rw[R.len];exact hi)];exact List.getElem_mem _);exact⟨b,c,_,e,I,h.1,h.2⟩
end Go.X.Flow
namespace Go.X
open Go.Conc
theorem yks{P : Program}{dd : Nat}{f1 f2 : Field}{a b a' b' : Int}(h1 : P.underlying f1.type = some (.int .i64))(h2 : P.underlying f2.type = some (.int .i64))(o1 : f1.offset = 0)(o2 : f2.offset = 1)(m1 : f1.name ≠ "_")(m2 : f2.name ≠ "_")(g1 : Gd P f1.type = some false)(g2 : Gd P f2.type = some false):
 Ou P (dd+1) #[.J a,.J b] #[.J a',.J b'] [f1,f2] (decide (a=a'/\b=b')):=by
 refine⟨m1,_,_,decide (a=a'),fun h K k=>xkz g1 (by rw[o1];rfl) k,fun h K k=>xkz g1 (by rw[o1];rfl) k,fun h K k=>xmv h1 k,?_⟩;by_cases e1:a=a'
 ·refine .inr ⟨decide_eq_true e1,m2,_,_,decide (b=b'),fun h K k=>xkz g2 (by rw[o2];rfl) k,fun h K k=>xkz g2 (by rw[o2];rfl) k,fun h K k=>xmv h2 k,?_⟩;by_cases e2:b=b'
  ·exact .inr ⟨decide_eq_true e2,decide_eq_true ⟨e1,e2⟩⟩
  ·exact .inl ⟨decide_eq_false e2,decide_eq_false fun x=>e2 x.2⟩
 ·exact .inl ⟨decide_eq_false e1,decide_eq_false fun x=>e1 x.1⟩
end Go.X
namespace Go.X.Flow
open Go.X
def HsL(b:Nat)(l:List Int):Prop:=∀i,i<l.length->0<=l.getD i 0/\l.getD i 0<b
theorem HsL.snoc{b:Nat}{l:List Int}(H:HsL b l){x:Int}(M:0<=x/\x<b):HsL b (l++[x]):=fun i hi=>by
 rw[List.length_append,List.length_singleton]at hi;rw[List.getD_eq_getElem?_getD];rcases Nat.lt_or_ge i l.length with z|z
 ·rw[List.getElem?_append_left z,<- List.getD_eq_getElem?_getD];exact H i z
 ·obtain rfl:i=l.length:=om;rw[List.getElem?_append_right (Nat.le_refl _)];simpa using M
def RfH(m b:Nat)(p:Ab)(a:Option Addr)(n:Nat):Prop:=∃xss,Rfs p a n xss/\ ∀l∈xss,l.length=m/\HsL b l
theorem RfH.at{m b:Nat}{p:Ab}{a:Option Addr}{n i:Nat}(r:RfH m b p a n)(hi:i<n):∃M c l,At p ((adr a).add (i*1))=some (.slice M (List.length l) c)/\As p M l.length l/\l.length=m/\HsL b l:=by
 obtain⟨x,R,H⟩:=r;obtain⟨M,c,e,I⟩:=R.at hi;have h:=H (x.getD i []) (by rw[Flow.Bn (by rw[R.len];exact hi)];exact List.getElem_mem _);exact⟨M,c,_,e,I,h.1,h.2⟩
end Go.X.Flow
namespace Go.X
def RfS(s:Shf)(p:Ab)(a:Option Addr)(n:Nat):Prop:=∃xss,Rfs p a n xss/\ ∀l∈xss,stp s l
theorem RfS.at{s:Shf}{p:Ab}{a:Option Addr}{n i:Nat}(r:RfS s p a n)(hi:i<n):∃b c l,At p ((adr a).add (i*1))=some (.slice b (List.length l) c)/\As p b l.length l/\stp s l:=by
 obtain⟨xss,R,H⟩:=r;obtain⟨b,c,e,I⟩:=R.at hi;exact⟨b,c,_,e,I,H _ (by rw[Flow.Bn (by rw[R.len];exact hi)];exact List.getElem_mem _)⟩
theorem RfS.mono{s:Shf}{p p':Ab}{a:Option Addr}{n:Nat}(r:RfS s p a n)(M:PLe p p'):RfS s p' a n:=by
 obtain⟨xss,R,H⟩:=r;exact⟨xss,R.mono M,H⟩
theorem ybb{s:Shf}(h:s.ok){d:Nat}:(E1 s d).ok:=⟨h.1,h.2.1,by have:=h.2.2.1;show(s.Ag.take d).length<=12;rw[List.length_take];omega,fun x H=>h.2.2.2.1 x (List.mem_of_mem_take H),h.2.2.2.2⟩
theorem ych{s:Shf}(h:s.ok)(M:s.Ag.length<12){x:Int}(O:okF s.Ah.length x):({s with Ag:=s.Ag++[x]}:Shf).ok:=⟨h.1,h.2.1,by show(s.Ag++[x]).length<=12;rw[List.length_append];exact M,fun y H=>(List.mem_append.1 H).elim (h.2.2.2.1 y) fun z=>by rw[List.mem_singleton.1 z];exact O,h.2.2.2.2⟩
end Go.X
namespace Go.Proofs.YtblcmdjhidhnjaaGreatDoor
open Go.Proofs.Tryz
open Go.X Go.X.Ms Go.Conc
open Go.X.Flow (ics)
section
variable{h:Heap}{md:Md}{ca cb:Nat}{a b:Option Addr}{p:Ab}
theorem Qv(V:Per p h)(n c:Nat)(l:List Int)(I:As p a n l)(hn:n<=2^40){x:Int}:
 Aa prog md 261 #[.slice a n c,.J x] h fun v M=>Hf v/\Af h M:=by
 refine xdq V func261 fun _ _ _ K=>?_;refine xsq (fun m l'=>∃j:Nat,m=n-j/\l'=[(0,none,.slice a n c),(1,none,.J x),(5,none,.J ((j:Nat):Int))]/\j<=n) ⟨0,rfl,rfl,Nat.zero_le _⟩ sb ?_;rintro _ _ IH ⟨j,rfl,rfl,hj⟩;refine cq (fun cd=>?_) (fun cd=>?_)
 ·have O:j<n:=om;refine cq (fun _=>?_) (fun _=>?_)
  ·refine ax ?_;exact K.r rfl rfl fun _ H=>⟨⟨_,rfl⟩,H.kept⟩
  refine ax ?_;exact xhq (IH _ om ⟨j+1,rfl,rfl,om⟩)
 refine ax ?_;exact K.r rfl rfl fun _ H=>⟨⟨_,rfl⟩,H.kept⟩
theorem U0(hp:Per p h)(n c:Nat)(l:List Int)(I:As p a n l)(hn:n<=2^40){x y:Int}:
 Aa prog md 336 #[.slice a n c,.J x,.J y] h fun v O=>Hf v/\Af h O:=by
 refine xdq hp func336 fun _ _ _ K=>?_;refine xsq (fun m l'=>∃j:Nat,m=n-j/\l'=[(0,none,.slice a n c),(1,none,.J x),(2,none,.J y),(7,none,.J ((j:Nat):Int))]/\j<=n) ⟨0,rfl,rfl,Nat.zero_le _⟩ sb ?_;rintro _ _ IH ⟨j,rfl,rfl,hj⟩;refine cq (fun cd=>?_) (fun cd=>?_)
 ·have V:j<n:=om;refine ax ?_;refine xqq [] R21 ?_;refine ex ?_;refine xvz rfl rfl rfl (fun _ pe=>Pf pe) ?_;refine ex ?_;refine xtk rfl rfl rfl rfl sdu sdu (fun M=>⟨⟨by simp at M;omega,om⟩,Sl.ne I om⟩) ?_;refine xak (u:=.J (l.getD (((j:Nat):Int)-1).toNat 0)) rfl rfl rfl sdu (fun _=>As.get I om) ?_;refine ex ?_;refine cq (fun _=>?_) (fun _=>?_)
  ·refine ax ?_;exact K.r rfl rfl fun _ H=>⟨⟨_,rfl⟩,H.kept⟩
  refine ax ?_;exact xhq (IH _ om ⟨j+1,rfl,rfl,om⟩)
 refine ax ?_;exact K.r rfl rfl fun _ H=>⟨⟨_,rfl⟩,H.kept⟩
theorem O1(M:Per p h)(s:Shf)(S:Ck p a b s)(V:s.ok)(i:Nat)(hi:i<s.Ag.length){x:Int}(O:x=(i:Nat)):
 Aa prog md 311 #[shV a b ca cb s,.J x] h fun v h'=>v=.agg #[.J (s.rk i).hr,.J (s.rk i).pe,.J (s.rk i).sd,.J (s.rk i).st]/\Af h h':=by
 subst O;have hf:=V.E7 (i:=i) om;have Sf:=S.f;refine xdq M func311 fun _ _ _ K=>?_;refine xgq rfl fun b1=>?_;refine lq fun b2=>?_;refine ax ?_;refine xqq [] R9 ?_;refine ex ?_;refine xrc rfl rfl rfl om om (S.r.ne om) ?_;refine xbw rfl rfl (S.r.all hf.2.1) ?_;refine ex ?_;refine ax ?_;exact K.e rfl (xtq rfl .nil) fun _ H=>⟨rfl,H.kept⟩
theorem Un(O:Per p h)(s:Shf)(S:Ck p a b s)(M:s.ok)(i:Nat)(hi:i<s.Ag.length):
 Aa prog md 255 #[shV a b ca cb s,.J (i:Nat)] h fun v V=>(∃n:Int,v=.J n/\0<=n/\n<=300)/\Af h V:=by
 have hr:=M.Kc hi;have hl:=M.2.2.1;have hm:=Na (i:=i) om M.2.2.2.2.1;unfold okR at hr;refine xdq O func255 fun _ _ _ K=>?_;refine xgq rfl fun b1=>?_;refine ax ?_;refine xqq [] R8 ?_;refine ex ?_;refine xvz rfl rfl rfl (fun _ pe=>O1 pe s S M i hi rfl) ?_;refine ex ?_;refine ax ?_;exact K.r rfl rfl fun _ H=>⟨⟨_,rfl,om,om⟩,H.kept⟩
theorem Ur(V:Per p h)(s:Shf)(S:Ck p a b s)(M:s.ok){x:Int}(hx:1<=x/\x<=s.Ag.length):
 Aa prog md 256 #[shV a b ca cb s,.J x] h fun v h'=>(∃n:Int,v=.J n/\ -1<=n/\n<=300)/\Af h h':=by
 have hr:=M.Kc (i:=(x-1).toNat) om;have hl:=M.2.2.1;have O:=Na (i:=x.toNat) om M.2.2.2.2.2.1;rw[show((x.toNat:Nat):Int)=x from om]at O;unfold okR at hr;refine xdq V func256 fun _ _ _ K=>?_;refine xgq rfl fun b1=>?_;refine ax ?_;refine xqq [] R9 ?_;refine ex ?_;refine xvz rfl rfl rfl (fun _ pe=>O1 pe s S M (x-1).toNat om om) ?_;refine ex ?_;refine ax ?_;exact K.r rfl rfl fun _ H=>⟨⟨_,rfl,om,om⟩,H.kept⟩
theorem Vq(O:Per p h)(s:Shf)(S:Ck p a b s)(M:s.ok){x:Int}(hx:1<=x/\x<=s.Ag.length):
 Aa prog md 310 #[shV a b ca cb s,.J x] h fun v V=>Hf v/\Af h V:=by
 have hl:=M.2.2.1;refine xdq O func310 fun _ _ _ K=>?_;refine xgq rfl fun b1=>?_;refine ax ?_;refine xiq rfl rfl (fun _ pe=>O1 pe s S M (x-1).toNat om om) ?_;refine ax ?_;exact K.r rfl rfl fun _ H=>⟨⟨_,rfl⟩,H.kept⟩
theorem c308(O:Per p h)(s:Shf){e:Option Addr}{n:Nat}(c:Nat)(l:List Int)(I:As p e n l)(hn:n<=2^40):
 Aa prog md 308 #[shV a b ca cb s,.slice e n c] h fun v M=>Hf v/\Af h M:=by
 refine xdq O func308 fun _ _ _ K=>?_;refine xgq rfl fun b1=>?_;refine ax ?_;refine xrz rfl rfl (fun h V=>U0 V n c l I hn) ?_;rintro _ ⟨q,rfl⟩;refine ax ?_;exact K.r rfl rfl fun _ H=>⟨⟨_,rfl⟩,H.kept⟩
theorem V5(M:Per p h)(x:Int):Aa prog md 204 #[.J x] h fun v O=>Hf v/\Af h O:=by
 refine xdq M func204 fun _ _ _ K=>?_;refine xiq rfl rfl (fun _ V=>c63 V) ?_;refine ax ?_;exact K.r rfl rfl fun _ H=>⟨⟨_,rfl⟩,H.kept⟩
theorem Qm(V:Per p h)(s:Shf)(S:Ck p a b s)(O:s.ok)(q:Bool):
 Aa prog md 203 #[shV a b ca cb s,.bool q] h fun v h'=>v=.J (if q=true then 0 else 1)/\Af h h':=by
 have h4:=O.1;have a2:=O.2.2.1;refine xdq V func203 fun _ _ _ K=>?_;refine xgq rfl fun b1=>?_;refine ax ?_;refine xiq rfl rfl (fun _ pe=>c33 pe s S ⟨om,om⟩) ?_;rw[show Hc s=0 from if_pos O];refine cq (fun M=>?_) (fun _=>?_)
 ·exact(M rfl).elim
 refine cq (fun M=>?_) (fun M=>?_)
 ·refine ax ?_;exact K.r rfl rfl fun _ H=>⟨by rw[if_neg M];rfl,H.kept⟩
 refine ax ?_;exact K.r rfl rfl fun _ H=>⟨by rw[if_pos (Classical.not_not.1 M)];rfl,H.kept⟩
theorem Qe(hp:Per p h)(s:Shf)(S:Ck p a b s)(hk:s.ok){e:Option Addr}(c:Nat)(l:List Int)(I:As p e l.length l)(hl:stp s l):
 Aa prog md 202 #[shV a b ca cb s,.slice e l.length c] h fun v h'=>sml v/\Af h h':=by
 have a3:=hk.2.2.1;have a2:=hl.1;refine xdq hp func202 fun _ _ _ K=>?_;refine xgq rfl fun b2=>?_;refine ax ?_;refine xsq (fun m l'=>∃(j:Nat)(x:Int),m=s.Ag.length-j/\l'=[(1,none,.slice e l.length c),(2,none,w_ b2 0),(5,none,.J x),(6,none,.J ((j:Nat):Int))]/\j<=s.Ag.length/\0<=x/\x<=300*j) ⟨0,0,rfl,rfl,Nat.zero_le _,om,om⟩ sb ?_;rintro _ _ M ⟨j,x,rfl,rfl,hj,h0,h1⟩;refine cq (fun V=>?_) (fun V=>?_)
 ·refine ax ?_;refine xrz rfl rfl (fun h pe=>Un pe s S hk j om) ?_;rintro _ ⟨n,rfl,n0,n1⟩;refine ax ?_;exact xhq (M _ om ⟨j+1,x+n,rfl,rfl,om,om,om⟩)
 clear M;refine ax ?_;refine xsq (fun m l'=>∃(i:Nat)(x:Int),m=l.length-i/\l'=[(1,none,.slice e l.length c),(2,none,w_ b2 0),(5,none,.J x),(7,none,.J ((i:Nat):Int))]/\i<=l.length/\ -i<=x/\x<=3600+300*i) ⟨0,x,rfl,rfl,Nat.zero_le _,om,om⟩ sb ?_;rintro _ _ M ⟨i,x,rfl,rfl,hi,h0,h1⟩;refine cq (fun V=>?_) (fun V=>?_)
 ·have O:i<l.length:=om;refine ax ?_;refine xqq [6] R7 ?_;refine ex ?_;refine xkm rfl rfl rfl (fun _ pe=>Ur pe s S hk (hl.2 i O)) ?_;rintro _ ⟨n,rfl,n0,n1⟩;refine ex ?_;refine ax ?_;exact xhq (M _ om ⟨i+1,x+n,rfl,rfl,om,om,om⟩)
 refine ax ?_;exact K.r rfl rfl fun _ H=>⟨⟨_,rfl,om,om⟩,H.kept⟩
theorem Ui(hp:Per p h)(s:Shf)(S:Ck p a b s)(hk:s.ok){e:Option Addr}{n:Nat}(c:Nat)(l:List Int)(I:As p e n l)(hn:n<=2^40):
 Aa prog md 309 #[shV a b ca cb s,.slice e n c] h fun v h'=>sml v/\Af h h':=by
 have a2:=hk.2.2.1;refine xdq hp func309 fun _ _ _ K=>?_;refine xgq rfl fun b2=>?_;refine ax ?_;refine xsq (fun m l'=>∃(j x:Nat),m=s.Ag.length-j/\l'=[(1,none,.slice e n c),(2,none,w_ b2 0),(5,none,.J ((x:Nat):Int)),(6,none,.J ((j:Nat):Int))]/\j<=s.Ag.length/\x<=j) ⟨0,0,rfl,rfl,Nat.zero_le _,om⟩ sb ?_;rintro _ _ IH ⟨j,x,rfl,rfl,hj,h1⟩;refine cq (fun cd=>?_) (fun cd=>?_)
 ·refine ax ?_;refine xsq (fun m l'=>∃(i:Nat),m=j+1-i/\l'=[(1,none,.slice e n c),(2,none,w_ b2 0),(5,none,.J ((x:Nat):Int)),(6,none,.J ((j:Nat):Int)),(7,none,.J ((i:Nat):Int))]/\i<=j+1) ⟨x,rfl,rfl,om⟩ sb ?_;rintro _ _ O ⟨i,rfl,rfl,hi⟩;refine cq (fun ce=>?_) (fun ce=>?_)
  ·refine ax ?_;refine xiq rfl rfl (fun _ V=>O1 V s S hk i om rfl) ?_;refine cq (fun M=>?_) (fun M=>?_)
   ·refine ax ?_;exact K.r rfl rfl fun _ H=>⟨⟨_,rfl,om,om⟩,H.kept⟩
   refine ax ?_;exact xhq (O _ om ⟨i+1,rfl,rfl,om⟩)
  refine ax ?_;refine xrz rfl rfl (fun h V=>Qv V n c l I hn) ?_;rintro _ ⟨q,rfl⟩;refine cq (fun M=>?_) (fun M=>?_)
  ·refine ax ?_;exact xhq (IH _ om ⟨j+1,j+1,rfl,rfl,om,om⟩)
  refine ax ?_;exact xhq (IH _ om ⟨j+1,x,rfl,rfl,om,om⟩)
 refine ax ?_;exact K.r rfl rfl fun _ H=>⟨⟨_,rfl,om,om⟩,H.kept⟩
theorem Vt(hp:Per p h)(s:Shf)(S:Ck p a b s)(hk:s.ok){e:Option Addr}(c:Nat)(l:List Int)(I:As p e l.length l)(hl:stp s l):
 Aa prog md 254 #[shV a b ca cb s,.slice e l.length c] h fun v h'=>Hf v/\Af h h':=by
 have a3:=hk.2.2.1;have a2:=hl.1;refine xdq hp func254 fun _ _ _ K=>?_;refine xgq rfl fun b2=>?_;refine ax ?_;refine xrz rfl rfl (fun h M=>c308 M s c l I om) ?_;rintro _ ⟨q,rfl⟩;refine ax ?_;refine yen (fun n:Int=>.J n) rfl rfl rfl sdu (fun h M=>(Ui M s S hk c l I om).mono fun _ _⟨⟨n,e,_⟩,k⟩=>⟨⟨n,e⟩,k⟩) fun n1=>?_;refine cq (fun cf=>?_) (fun cf=>?_)
 ·refine ax ?_;exact K.r rfl rfl fun _ H=>⟨⟨_,rfl⟩,H.kept⟩
 refine ax ?_;refine xsq (fun m l'=>∃i:Nat,m=l.length-i/\l'=[(1,none,.slice e l.length c),(2,none,w_ b2 0),(5,none,.J ((i:Nat):Int))]/\i<=l.length) ⟨0,rfl,rfl,Nat.zero_le _⟩ sb ?_;rintro _ _ IH ⟨i,rfl,rfl,hi⟩;refine cq (fun cd=>?_) (fun cd=>?_)
 ·have V:i<l.length:=om;refine ax ?_;refine xqq [5] R6 ?_;refine ex ?_;refine xkm rfl rfl rfl (fun _ M=>Vq M s S hk (hl.2 i V)) ?_;rintro _ ⟨n,rfl⟩;refine ex ?_;refine cq (fun cf=>?_) (fun cf=>?_)
  ·refine ax ?_;exact K.r rfl rfl fun _ H=>⟨⟨_,rfl⟩,H.kept⟩
  refine ax ?_;exact xhq (IH _ om ⟨i+1,rfl,rfl,om⟩)
 refine ax ?_;refine xqq [] R18 ?_;refine ex ?_;refine xtk rfl rfl rfl rfl sdu sdu (fun O=>⟨⟨by simp at O;omega,om⟩,Sl.ne I (by simp at O;omega)⟩) ?_;refine xak (u:=.J (l.getD (((l.length:Nat):Int)-1).toNat 0)) rfl rfl rfl sdu (fun O=>As.get I (by simp at O;omega)) ?_;refine ex ?_;refine ax ?_;exact K.r rfl rfl fun _ H=>⟨⟨_,rfl⟩,H.kept⟩
end
open Go.X.Cist (Day Ba dz dcs yV YOk M9 Om Of L8)
set_option maxHeartbeats 800000 in
theorem T9{md:Md}{h:Heap}{p:Ab}(hp:Per p h)(size start:Int){a:Option Addr}(c:Nat)(ds:List Day)(D:Ba p a ds.length ds)(O:YOk size start ds){b:Option Addr}{n:Nat}(cb:Nat)(l:List Int)(I:As p b n l)(hl:M9 ds l):
 Aa prog md 263 #[yV size start a ds.length c,.slice b n cb] h (Ar p h fun v p'=>∃e,v=.agg e.toArray/\L8 p' ds e):=by
 have b6:=I.len;have hn:n=ds.length:=b6 ▸ hl.1;have h8:=O.n;have Dd:Sl p a ds.length 3 (dcs ds):=D;have hz:=O.z;refine xdq hp func263 fun _ _ _ K=>?_;refine xgq rfl fun b2=>?_;refine lq fun b4=>?_;refine lq fun V=>?_;refine ax ?_;refine xzj 3 1 fun o1=>?_;refine xzj 3 1 fun o2=>?_;refine xzj 3 1 fun o3=>?_
 refine xmq (fun m_ l_ p_ L_=>∃(j:Nat)(x:Int)(v1 v2 v3:Value)(Y1 Y2 Y3:Pcs)(l1 l2 l3:List Int),m_=n-j/\l_=[(1,none,.slice b n cb),(2,none,w_ b2 0),(4,none,w_ b4 0),(5,none,w_ V 0),(6,none,.J x),(7,none,.J ((j:Nat):Int))]/\p_=p/\
  L_=[Y1,Y2,Y3,[(V,.cells #[v1,v2,v3] 248 (0,0))],[(b4,.cells #[.slice none 0 0,.slice none 0 0,.slice none 0 0] 248 (0,0))],[(b2,.cells (yV size start a ds.length c).cells 31 (0,0))]]/\j<=n/\(0<=x/\x<=size)/\
  (l1.length=j/\l2.length=j/\l3.length=j)/\(Ac 3 1 v1 (ics l1) Y1/\Ac 3 1 v2 (ics l2) Y2/\Ac 3 1 v3 (ics l3) Y3)/\Om l1/\Of ds l2) ⟨0,start,_,_,_,_,_,_,[],[],[],rfl,rfl,rfl,rfl,Nat.zero_le _,O.s,⟨rfl,rfl,rfl⟩,⟨o1,o2,o3⟩,fun i hi=>by simp at hi,fun i hi=>by simp at hi⟩ sb ?_
 clear o1 o2 o3;rintro _ _ p _ IH ⟨j,x,v1,v2,v3,Y1,Y2,Y3,l1,l2,l3,rfl,rfl,rfl,rfl,hj,hx,⟨e1,e2,e3⟩,⟨o1,o2,o3⟩,q1,q2⟩;refine cq (fun cd=>?_) (fun cd=>?_)
 ·have b8:j<n:=om;have b0:j<ds.length:=om;have hw:=hl.2 j om;have hd:=O.d j b0;have a5:=Go.X.Cist.Ba.want D b0;refine ax ?_;refine xoz rfl a5 ?_;refine ax ?_;refine xoz rfl a5 ?_;refine ax ?_;obtain⟨ov,a9⟩:∃y,y=max 0 (x+l.getD j 0-size):=⟨_,rfl⟩
  obtain⟨lk,a8⟩:∃y,y=max 0 ((ds.getD j dz).want-(x+l.getD j 0-ov)):=⟨_,rfl⟩
  obtain⟨x3,a6⟩:∃y,y=x+l.getD j 0-ov-((ds.getD j dz).want-lk):=⟨_,rfl⟩
  rw[<- a9,<- a8,<- a6];have b3:0<=x3/\x3<=size:=om;have bl:(0<=lk/\lk<=1000)/\((ds.getD j dz).want=0->lk=0)/\(60<(ds.getD j dz).want->0<lk):=⟨om,fun _=>om,fun _=>om⟩
  refine xox (l':=[(1,none,.slice b n cb),(2,none,w_ b2 0),(4,none,w_ b4 0),(5,none,w_ V 0),(6,none,.J x3),(7,none,.J ((j:Nat):Int)),(8,none,.J ov),(9,none,.J lk)]) ?_ sb;clear a9 a8 a6 a5
  refine yng (LF:=[[(V,.cells #[v1,v2,v3] 248 (0,0))],[(b4,.cells #[.slice none 0 0,.slice none 0 0,.slice none 0 0] 248 (0,0))],[(b2,.cells (yV size start a ds.length c).cells 31 (0,0))]]) 16 [16,17,18] (fun i=>match i with|16=>Y1|17=>Y2|_=>Y3) [4,9,14] [0,1,2,5,6,7,10,11,12,15] [3,4,8,9,13,14] (fun i=>match i with|4=>[16,3]|9=>[17,8]|14=>[18,13]|_=>[])
   (fun i=>match i with|1=>[0]|3=>[2]|4=>[1,3]|6=>[5]|8=>[7]|9=>[6,8]|11=>[10]|13=>[12]|14=>[11,13]|_=>[])
   (fun i _ _ v x=>match i with
   |0=>v=w_ V 0/\x=[]
   |1=>v=v1/\x=[]
   |2=>v=.J x3/\x=[]
   |3=>Ac 3 1 v (ics [x3]) x
   |4=>Ac 3 1 v (ics (l1++[x3])) x
   |5=>v=w_ V 1/\x=[]
   |6=>v=v2/\x=[]
   |7=>v=.J lk/\x=[]
   |8=>Ac 3 1 v (ics [lk]) x
   |9=>Ac 3 1 v (ics (l2++[lk])) x
   |10=>v=w_ V 2/\x=[]
   |11=>v=v3/\x=[]
   |12=>v=.J ov/\x=[]
   |13=>Ac 3 1 v (ics [ov]) x
   |14=>Ac 3 1 v (ics (l3++[ov])) x
   |15=>v=w_ V 0/\x=[]
   |_=>True) s_ (fun i b7 val piece M hi=>?_) (fun val piece j hj v x q=>?_) (fun val piece M=>?_)
  ·match i,b7 with
   |0,_|2,_=>
     refine ex ?_;exact xzq ⟨⟨_,rfl⟩,fun v e=>⟨xpq e,rfl⟩⟩
   |1,_=>
     refine xnf (b:=V) (off:=0) rfl rfl (by show some (([]:List Prop),val 0)=_;rw[(M 0 rfl).1]) sdt ?_;exact xzq ⟨⟨_,rfl⟩,fun v e=>⟨xpq e,rfl⟩⟩
   |3,_=>
     refine xvk (vs:=[(0,.J x3)]) rfl (by show some [(0,val 2)]=_;rw[(M 2 rfl).1]) fun v Y(o:Ac 3 1 v (ics [x3]) Y)=>?_;exact xzq ⟨⟨_,rfl⟩,fun v' e=>by
      have e':=xpq e;subst e';show Ac _ _ _ _ (Y++[]);rw[List.append_nil];exact o⟩
   |4,_=>
     show DE _ _ _ _ _ _ _ _ _ [piece 16,piece 3];rw[hi 16 s_];refine xu7 rfl (by show some (([]:List Prop),val 1)=_;rw[(M 1 rfl).1]) rfl o1 (M 3 rfl) (xyv _) (by simp[ics];omega) fun v Y o=>?_;exact xzq ⟨⟨_,rfl⟩,fun v' e=>by
      have e':=xpq e;subst e';show Ac _ _ _ _ (Y++[]);rw[List.append_nil];exact o.as (by simp[ics])⟩
   |5,_|7,_=>
     refine ex ?_;exact xzq ⟨⟨_,rfl⟩,fun v e=>⟨xpq e,rfl⟩⟩
   |6,_=>
     refine xnf (b:=V) (off:=1) rfl rfl (by show some (([]:List Prop),val 5)=_;rw[(M 5 rfl).1]) sdt ?_;exact xzq ⟨⟨_,rfl⟩,fun v e=>⟨xpq e,rfl⟩⟩
   |8,_=>
     refine xvk (vs:=[(0,.J lk)]) rfl (by show some [(0,val 7)]=_;rw[(M 7 rfl).1]) fun v Y(o:Ac 3 1 v (ics [lk]) Y)=>?_;exact xzq ⟨⟨_,rfl⟩,fun v' e=>by
      have e':=xpq e;subst e';show Ac _ _ _ _ (Y++[]);rw[List.append_nil];exact o⟩
   |9,_=>
     show DE _ _ _ _ _ _ _ _ _ [piece 17,piece 8];rw[hi 17 s_];refine xu7 rfl (by show some (([]:List Prop),val 6)=_;rw[(M 6 rfl).1]) rfl o2 (M 8 rfl) (xyv _) (by simp[ics];omega) fun v Y o=>?_;exact xzq ⟨⟨_,rfl⟩,fun v' e=>by
      have e':=xpq e;subst e';show Ac _ _ _ _ (Y++[]);rw[List.append_nil];exact o.as (by simp[ics])⟩
   |10,_|12,_=>
     refine ex ?_;exact xzq ⟨⟨_,rfl⟩,fun v e=>⟨xpq e,rfl⟩⟩
   |11,_=>
     refine xnf (b:=V) (off:=2) rfl rfl (by show some (([]:List Prop),val 10)=_;rw[(M 10 rfl).1]) sdt ?_;exact xzq ⟨⟨_,rfl⟩,fun v e=>⟨xpq e,rfl⟩⟩
   |13,_=>
     refine xvk (vs:=[(0,.J ov)]) rfl (by show some [(0,val 12)]=_;rw[(M 12 rfl).1]) fun v Y(o:Ac 3 1 v (ics [ov]) Y)=>?_;exact xzq ⟨⟨_,rfl⟩,fun v' e=>by
      have e':=xpq e;subst e';show Ac _ _ _ _ (Y++[]);rw[List.append_nil];exact o⟩
   |14,_=>
     show DE _ _ _ _ _ _ _ _ _ [piece 18,piece 13];rw[hi 18 s_];refine xu7 rfl (by show some (([]:List Prop),val 11)=_;rw[(M 11 rfl).1]) rfl o3 (M 13 rfl) (xyv _) (by simp[ics];omega) fun v Y o=>?_;exact xzq ⟨⟨_,rfl⟩,fun v' e=>by
      have e':=xpq e;subst e';show Ac _ _ _ _ (Y++[]);rw[List.append_nil];exact o.as (by simp[ics])⟩
   |15,_=>
     refine ex ?_;exact xzq ⟨⟨_,rfl⟩,fun v e=>⟨xpq e,rfl⟩⟩
   |n+16,h=>exact absurd h om
  ·simp only[List.mem_cons,List.not_mem_nil,or_false]at hj;rcases hj with rfl|rfl|rfl|rfl|rfl|rfl|rfl|rfl|rfl|rfl<;>exact q.2
  have q4:Ac 3 1 (val 4) (ics (l1++[x3])) (piece 4):=M 4 d_;have q9:Ac 3 1 (val 9) (ics (l2++[lk])) (piece 9):=M 9 d_;have a4:Ac 3 1 (val 14) (ics (l3++[ov])) (piece 14):=M 14 d_;have a7:val 15=w_ V 0:=(M 15 d_).1;obtain⟨d1,k1,w1,-⟩:=q4.val;obtain⟨d2,k2,w2,-⟩:=q9.val;obtain⟨d3,k3,w3,-⟩:=a4.val;refine xgb (l':=[(1,none,.slice b n cb),(2,none,w_ b2 0),(4,none,w_ b4 0),(5,none,w_ V 0),(6,none,.J x3),(7,none,.J ((j:Nat):Int)),(55,none,.slice d1 (ics (l1++[x3])).length k1),(60,none,.slice d2 (ics (l2++[lk])).length k2),(65,none,.slice d3 (ics (l3++[ov])).length k3),(66,none,w_ V 0)]) ?_ ⟨rfl,rfl,rfl,rfl,rfl,rfl,by show some (none,val 4)=_;rw[w1],by show some (none,val 9)=_;rw[w2],by show some (none,val 14)=_;rw[w3],by show some (none,val 15)=_;rw[a7],trivial⟩;show RO _ _ _ _ _ _ [piece 4,piece 9,piece 14,[(V,.cells #[v1,v2,v3] 248 (0,0))],[(b4,_)],[(b2,_)]];rw[w1]at q4;rw[w2]at q9;rw[w3]at a4;clear M a7 w1 w2 w3;refine ax ?_;exact xhq (IH _ _ _ om ⟨j+1,x3,_,_,_,piece 4,piece 9,piece 14,l1++[x3],l2++[lk],l3++[ov],rfl,rfl,rfl,rfl,om,b3,⟨by simp;omega,by simp;omega,by simp;omega⟩,⟨q4,q9,a4⟩,Go.X.Cist.Gz (P:=fun _ x=>0<=x/\x<=60) q1 ⟨om,om⟩,Go.X.Cist.Gz (P:=fun i x=>(0<=x/\x<=1000)/\((ds.getD i dz).want=0->x=0)/\(60<(ds.getD i dz).want->0<x)) q2 (by rw[e2];exact bl)⟩)
 obtain rfl:j=n:=om;refine xoq o1 (m:=j) (by simp[ics,e1]) d_ fun p1 a1 c1 g1 z1 _ S1=>?_;refine xoq o2 (m:=j) (by simp[ics,e2]) d_ fun p2 a2 c2 g2 z2 _ S2=>?_;refine xoq o3 (m:=j) (by simp[ics,e3]) d_ fun p3 a3 c3 g3 z3 _ S3=>?_;subst z1 z2 z3;refine ax ?_;exact K.e rfl (xtq rfl .nil) fun _ H=>xwq H ((g1.trans g2).trans g3) ⟨_,rfl,a1,c1,l1,a2,c2,l2,a3,c3,j,rfl,hn,⟨Sl.mono (g2.trans g3).le S1,q1⟩,Sl.mono g3.le S2,q2⟩
open Go.X.Cist (Day Ba dz dcs yV YOk M9 Mu RfW)
set_option maxHeartbeats 800000 in
theorem Su{md:Md}(size start:Int)(ds:List Day)(O:YOk size start ds):∀(f:Nat)(h:Heap)(p:Ab)(_:Per p h)(a:Option Addr)(c:Nat)(_:Ba p a ds.length ds)(e:Option Addr)(M:Nat)(l:List Int)(_:As p e l.length l)(_:Mu l)(_:l.length+f=ds.length),
 Aa prog md 262 #[yV size start a ds.length c,.slice e l.length M] h (Ar p h fun v p'=>∃a n c,v=.slice a n c/\(0<n/\n<=21^f)/\RfW ds p' a n):=by
 intro f
 induction f with
 |zero=>
   intro h p hp a c D e M l I hl hf;refine xdq hp func262 fun _ _ _ K=>?_;refine xgq rfl fun b2=>?_;refine cq (fun cc=>?_) (fun cc=>?_)
   ·refine ax ?_;refine xbz rfl fun v1 Y1 o1=>?_;have o1:Ac 23 1 v1 [[.slice e l.length M]] Y1:=o1;refine ax ?_;refine xoq o1 (m:=1) rfl d_ fun p2 a2 c2 g2 e2 a9 S2=>?_;subst e2;exact K.r rfl rfl fun _ H=>xwq H g2 ⟨a2,1,c2,rfl,⟨d_,d_⟩,[l],⟨_,S2,(Inn.one I).mono g2.le⟩,fun x hx=>by rw[List.mem_singleton.1 hx];exact⟨om,hl⟩⟩
   ·exact absurd om cc
 |succ f ih=>
   intro h p hp a c D e M l I hl hf;have h8:=O.n;have a5:l.length<ds.length:=om;have Dd:Sl p a ds.length 3 (dcs ds):=D;have hd:=O.d _ a5;obtain⟨P,hP⟩:∃P,P=21^f:=⟨_,rfl⟩
   have b9:P*21<=37822859361:=by
    have:=Nat.pow_le_pow_right (show 0<21 by decide) (show f+1<=8 by omega);rw[Nat.pow_succ,<- hP]at this;exact this
   refine xdq hp func262 fun _ _ _ K=>?_;refine xgq rfl fun b2=>?_;refine cq (fun cc=>?_) (fun cc=>?_)
   ·exact absurd cc om
   refine ax ?_;refine xfk rfl (Go.X.Cist.Ba.all D a5) ?_;refine lq fun b6=>?_;refine ax ?_;generalize (ds.getD l.length dz).lo=lo at*;generalize (ds.getD l.length dz).hi=hi at*;generalize (ds.getD l.length dz).want=wa at*;refine xzj 23 1 fun o0=>?_
   refine xmq (fun m_ l_ p_ L_=>∃(j:Nat)(v:Value)(Y:Pcs)(es:List (List Value))(xss:List (List Int)),m_=(hi-lo+1).toNat-j/\l_=[(1,none,.slice e l.length M),(2,none,w_ b2 0),(5,none,v),(6,none,w_ b6 0),(7,none,.J (lo+((j:Nat):Int)))]/\PG h.size [] p p_/\
    L_=[Y,[(b6,.cells #[.J lo,.J hi,.J wa] 98 (0,0))],[(b2,.cells (yV size start a ds.length c).cells 31 (0,0))]]/\(j:Int)<=hi-lo+1/\Ac 23 1 v es Y/\Inn p_ es xss []/\(∀l∈xss,M9 ds l)/\j<=es.length/\es.length<=j*P) ⟨0,_,_,_,[],rfl,by rw[show lo+((0:Nat):Int)=lo by omega],.refl _ _ _,rfl,om,o0,Inn.nil,fun x hx=>by simp at hx,Nat.zero_le _,Nat.zero_le _⟩ sb ?_
   clear o0;rintro _ _ p1 _ IH ⟨j,v,Y,es,xss,rfl,rfl,g1,rfl,hj,o,hI,hH,hn,hm⟩;refine cq (fun cd=>?_) (fun cd=>?_)
   ·have b5:j<=20:=om;have a6:(j+1)*P<=21*P:=Nat.mul_le_mul_right _ om;have b4:(j+1)*P=j*P+P:=Nat.succ_mul j P;have hlen:(l++[lo+((j:Nat):Int)]).length=l.length+1:=by simp
    refine ax ?_;refine xe1 (args6:=[.tmp 33,.tmp 39]) (QC:=fun v Z=>∃a n c,v=.slice a n c/\(0<n/\n<=P)/\ ∀p',PLe p1 p'->(∀y∈Z,p' y.1=some y.2)->RfW ds p' a n) 2 [1] [v,yV size start a ds.length c,undef,.slice e l.length M,undef,.J (lo+((j:Nat):Int))] (fun u=>[yV size start a ds.length c,u]) (I.mono g1.le) om rfl rfl s_ (fun val i hi=>?_) (fun val hv=>by show some ([],[val 1,val 7])=_;rw[hv 1 s_];rfl) (fun u Y o2 h L st=>?_) fun val piece hv q=>?_
    ·obtain rfl|rfl|rfl|rfl:i=0\/i=1\/i=3\/i=5:=om
     all_goals
      refine ex ?_;exact xzq ⟨⟨_,rfl⟩,fun v e=>⟨xpq e,rfl⟩⟩
    ·obtain⟨p',⟨g',gl⟩,hy,s'⟩:=st.Fz;obtain⟨a2,c2,e2,I2⟩:=o2.inP hy;subst e2;rw[Go.X.Flow.Ae]at I2⊢;refine(ih h p' s'.per a c (Go.X.Cist.Ba.mono (g1.le.trans g'.le) D) a2 c2 _ I2 (Go.X.Cist.Gz (P:=fun _ x=>0<=x/\x<=20) hl ⟨om,om⟩) (by rw[hlen];omega)).mono fun v' h' x=>?_;obtain⟨Z,⟨p2,⟨a3,n3,c3,e3,a8,R3⟩,le⟩,N⟩:=x.pieces;exact⟨Z,⟨a3,n3,c3,e3,by rw[hP];exact a8,fun V l y=>R3.mono (le V (gl V l fun z hz=>y z (List.mem_append_right _ hz)) fun z hz=>y z (List.mem_append_left _ hz))⟩,N⟩
    obtain⟨a3,n3,c3,e3,a8,a4⟩:=q;refine xgb (l':=[(1,none,.slice e l.length M),(2,none,w_ b2 0),(6,none,w_ b6 0),(7,none,.J (lo+((j:Nat):Int))),(32,none,v),(40,none,.slice a3 n3 c3)]) ?_ ⟨rfl,rfl,rfl,rfl,by show some (none,val 0)=_;rw[hv 0 om];rfl,by show some (none,val 8)=_;rw[e3],trivial⟩;refine xfw (piece 8) fun p3 g3 hy=>?_;obtain⟨b3,⟨b8,S3,a7⟩,b0⟩:=a4 p3 g3.le hy;refine ax ?_;refine xow rfl rfl o S3 a7.Nt om fun v4 Y4 o4=>?_;refine ax ?_;rw[show lo+((j:Nat):Int)+1=lo+((j+1:Nat):Int) from om];have a4:=S3.len;exact xhq (IH _ _ _ om ⟨j+1,v4,Y4,_,xss++b3,rfl,rfl,g1.trans g3,rfl,om,o4,(hI.mono g3.le).app a7,fun x hx=>(List.mem_append.1 hx).elim (hH x) (b0 x),by rw[List.length_append];omega,by rw[List.length_append];omega⟩)
   have ej:((j:Nat):Int)=hi-lo+1:=om;have b7:j<=21:=om;have a6:j*P<=21*P:=Nat.mul_le_mul_right _ om;refine ax ?_;refine xoq o (m:=es.length) rfl d_ fun p2 a2 c2 g2 e2 a9 S2=>?_;subst e2;exact K.r rfl rfl fun _ H=>xwq H (g1.trans g2) ⟨a2,_,c2,rfl,⟨om,by rw[Nat.pow_succ,<- hP];omega⟩,xss,⟨es,S2,hI.mono g2.le⟩,hH⟩
open Go.X.Cist (Day Ba dz dcs yV YOk M9 Mu RfW Gp Hd E9 G9 Bl Aj)
section
variable{h:Heap}{md:Md}{a:Option Addr}{p:Ab}
theorem S9(hp:Per p h)(n c:Nat)(l:List Int)(I:As p a n l)(hn:n<=1000)(V:∀i,i<l.length->0<=l.getD i 0/\l.getD i 0<=1000):
 Aa prog md 259 #[.slice a n c,.J ((n:Nat):Int)] h fun v h'=>(∃x,v=.J x/\0<=x/\((∀i,i<n->l.getD i 0=0)->x=0)/\ ∀i,i<n->0<l.getD i 0->0<x)/\Af h h':=by
 have a3:=I.len;refine xdq hp func259 fun _ _ _ K=>?_;refine xsq (fun m l'=>∃(j:Nat)(x:Int),m=n-j/\l'=[(0,none,.slice a n c),(1,none,.J ((n:Nat):Int)),(5,none,.J x),(6,none,.J ((j:Nat):Int))]/\j<=n/\0<=x/\x<=1000*j/\((∀i,i<j->l.getD i 0=0)->x=0)/\ ∀i,i<j->0<l.getD i 0->0<x) ⟨0,0,rfl,rfl,Nat.zero_le _,om,om,fun _=>rfl,fun i hi=>om⟩ sb ?_;rintro _ _ IH ⟨j,x,rfl,rfl,hj,h0,h1,O,M⟩;refine cq (fun cd=>?_) (fun cd=>?_)
 ·have a2:j<n:=om;have hx:=V j om;refine ax ?_;exact xhq (IH _ om ⟨j+1,x+l.getD j 0,rfl,rfl,om,om,om,fun z=>by
   have:=O fun i hi=>z i om;have:=z j om;omega,fun i hi z=>by
   by_cases e:i<j
   ·have:=M i e z;omega
   ·obtain rfl:i=j:=om;omega⟩)
 obtain rfl:j=n:=om;refine ax ?_;exact K.r rfl rfl fun _ H=>⟨⟨x,rfl,h0,O,M⟩,H.kept⟩
theorem Qo(M:Per p h){x y z:Int}:
 Aa prog md 225 #[.agg #[.J x,.J y],.J z] h fun v O=>v=.agg #[.J (min x z),.J (max y z)]/\Af h O:=by
 refine xdq M func225 fun _ _ _ K=>?_;refine xgq rfl fun b1=>?_;refine lq fun b2=>?_;refine ax ?_;exact K.e rfl (xtq rfl .nil) fun _ H=>⟨rfl,H.kept⟩
theorem P4(M:Per p h){size start:Int}{n c:Nat}(hn:n<=1000){x:Int}:
 Aa prog md 217 #[yV size start a n c,.J x] h fun v O=>v=.bool (decide (0<=x/\x<=((n:Nat):Int)-1))/\Af h O:=by
 refine xdq M func217 fun _ _ _ K=>?_;refine xgq rfl fun b1=>?_;refine ax ?_;refine xiq rfl rfl (fun _ V=>c66 V) ?_;refine ax ?_;exact K.r rfl rfl fun _ H=>⟨rfl,H.kept⟩
theorem Pt(hp:Per p h){size start:Int}{n c:Nat}{ds:List Day}(D:Ba p a n ds)(O:Go.X.Cist.Ok size start ds){q:Bool}:
 Aa prog md 216 #[yV size start a n c,.bool q] h fun v V=>v=.J (if q=true then 0 else 1)/\Af h V:=by
 have hl:=D.len;have h8:=O.yok.n;refine xdq hp func216 fun _ _ _ K=>?_;refine xgq rfl fun b1=>?_;refine ax ?_;refine xiq rfl rfl (fun _ pe=>c35 pe D om) ?_;rw[Go.X.Cist.Bu.2 O];refine cq (fun M=>?_) (fun _=>?_)
 ·exact(M rfl).elim
 refine cq (fun M=>?_) (fun M=>?_)
 ·refine ax ?_;exact K.r rfl rfl fun _ H=>⟨by rw[if_neg M];rfl,H.kept⟩
 refine ax ?_;exact K.r rfl rfl fun _ H=>⟨by rw[if_pos (Classical.not_not.1 M)];rfl,H.kept⟩
theorem Tg(hp:Per p h)(size start:Int)(n c:Nat)(ds:List Day)(D:Ba p a n ds)(hn:n<=2^20){z:Int}:
 Aa prog md 214 #[yV size start a n c,.J z] h (Ar p h fun v p'=>∃a c,v=yV z (min start z) a n c/\Ba p' a n ds):=by
 refine xdq hp func214 fun _ _ _ K=>?_;refine xgq rfl fun b2=>?_;refine lq fun b4=>?_;refine ax ?_;refine xdj rfl rfl (fun _ pe=>c38 pe D hn) ?_;rintro _ Y ⟨a1,O,rfl,o⟩;refine lq fun b5=>?_;refine ax ?_;refine xuv [6] R7 b5 ?_;refine ex ?_;refine ax ?_;refine xoq o (m:=n) (by rw[Aj,D.len]) d_ fun p1 a2 c2 g1 e1 V M=>?_;cases e1;exact K.e rfl (xtq rfl .nil) fun _ H=>xwq H g1 ⟨a1,O,rfl,M⟩
theorem U4(hp:Per p h)(size start:Int)(c:Nat)(ds:List Day)(D:Ba p a ds.length ds)(O:YOk size start ds)(i:Nat)(hi:i<ds.length)(z:Int)(hz:0<=z/\z<=1000000):
 Aa prog md 218 #[yV size start a ds.length c,.J ((i:Nat):Int),.J z] h (Ar p h fun v p'=>∃a c,v=yV size start a ds.length c/\Ba p' a ds.length (Go.X.Cist.By ds i ((ds.getD i dz).want+z))):=by
 have h8:=O.n;have hw:=O.d i hi;have M:(dcs ds)[i]?=some [.J (ds.getD i dz).lo,.J (ds.getD i dz).hi,.J (ds.getD i dz).want]:=by
  have:=E9 (wf:=fun _ w=>w) (ds:=ds) (k:=0) om;rw[Go.X.Cist.Kt hi];rfl
 refine xdq hp func218 fun _ _ _ K=>?_;refine xgq rfl fun b3=>?_;refine lq fun b6=>?_;refine ax ?_;refine xdj rfl rfl (fun _ pe=>c38 pe D om) ?_;rintro _ Y ⟨a1,c1,rfl,o⟩;refine lq fun b7=>?_;refine ax ?_;refine xzk rfl rfl o (i:=i) (by rw[Aj];exact hi) ?_;refine ax ?_;refine xog (j:=2) rfl o rfl M rfl ?_;refine ax ?_;refine xzk rfl rfl o (i:=i) (by rw[Aj];exact hi) ?_;refine ax ?_;refine xek (j:=2) rfl rfl o rfl rfl rfl rfl M (Nat.le_refl _) fun Y2 V=>?_;have V:=V.as (show _=dcs (Go.X.Cist.By ds i ((ds.getD i dz).want+z)) from Go.X.Cist.Ls);refine ax ?_;refine xoq V (m:=ds.length) (by rw[Aj];simp[Go.X.Cist.By]) d_ fun p1 a2 c2 g1 e1 a3 S1=>?_;cases e1;exact K.e rfl (xtq rfl .nil) fun _ H=>xwq H g1 ⟨a1,c1,rfl,S1⟩
theorem Rw(hp:Per p h)(size start:Int)(c:Nat)(ds:List Day)(D:Ba p a ds.length ds)(h8:ds.length<=8){r:Int}:
 Aa prog md 215 #[yV size start a ds.length c,.J r] h (Ar p h fun v p'=>∃a c,v=yV size start a ds.length c/\Ba p' a ds.length (Gp (fun _ w=>min r w) ds)):=by
 refine xdq hp func215 fun _ _ _ K=>?_;refine xgq rfl fun b2=>?_;refine lq fun b4=>?_;refine ax ?_;refine xdj rfl rfl (fun _ pe=>c38 pe D om) ?_;rintro _ Y ⟨a1,V,rfl,o⟩;refine lq fun b5=>?_;refine ax ?_
 refine xmq (fun m_ l p_ L_=>∃(k:Nat)(Y:Pcs),m_=ds.length-k/\l=[(1,none,.J r),(4,none,w_ b4 0),(5,none,w_ b5 0),(6,none,.J ((k:Nat):Int))]/\p_=p/\
  L_=[[(b5,.cells (yV size start a1 ds.length V).cells 31 (0,0))],Y,[(b4,.cells (yV 0 0 none 0 0).cells 31 (0,0))],[(b2,.cells (yV size start a ds.length c).cells 31 (0,0))]]/\k<=ds.length/\Ac 98 3 (.slice a1 ds.length V) (dcs (Hd (fun _ w=>min r w) ds k)) Y) ⟨0,Y,rfl,rfl,rfl,rfl,Nat.zero_le _,o.as (by rw[Go.X.Cist.Hj])⟩ sb ?_
 clear o;rintro _ _ p _ IH ⟨k,Y,rfl,rfl,rfl,rfl,hk,M⟩;have a3:(dcs (Hd (fun _ w=>min r w) ds k)).length=ds.length:=by rw[Aj,Bl]
 refine cq (fun cc=>?_) (fun cc=>?_)
 ·refine ax ?_;refine xqq [] R11 ?_;refine ex ?_;refine xlk rfl rfl rfl rfl sdt sdt M om ?_;refine ex ?_;refine xev (q:=2) rfl rfl rfl sdt M rfl (E9 om) rfl ?_;refine ex ?_;refine ax ?_;refine xzk rfl rfl M om ?_;refine ax ?_;refine xek (j:=2) rfl rfl M rfl rfl rfl rfl (E9 om) (Nat.le_refl _) fun Y3 O=>?_;have O:=O.as (show _=dcs (Hd (fun _ w=>min r w) ds (k+1)) from G9 om);refine ax ?_;exact xhq (IH _ _ _ om ⟨k+1,Y3,rfl,rfl,rfl,rfl,om,O⟩)
 have e:k=ds.length:=om;refine ax ?_;refine xoq M (m:=ds.length) a3 d_ fun p1 a2 c2 g1 e1 a4 S1=>?_;cases e1;exact K.e rfl (xtq rfl .nil) fun _ H=>xwq H g1 ⟨a1,V,rfl,by rw[e]at S1;exact S1⟩
end
open Go.X.Cist (Day Ba dz dcs yV YOk M9 Mu RfW L8 Mh Om Of Gp)
theorem Pq{md:Md}{h:Heap}{p:Ab}(hp:Per p h)(size start:Int){a:Option Addr}(c:Nat)(ds:List Day)(D:Ba p a ds.length ds)(O:YOk size start ds):
 Aa prog md 224 #[yV size start a ds.length c] h (Ar p h fun v p'=>∃a n c,v=.slice a n c/\(0<n/\n<=37822859361)/\Mh p' ds a n):=by
 have h8:=O.n;have b5:21^ds.length<=21^8:=Nat.pow_le_pow_right d_ h8;have b6:(21:Nat)^8=37822859361:=by decide
 refine xdq hp func224 fun _ _ _ K=>?_;refine xgq rfl fun b1=>?_;refine ax ?_;refine xvx rfl rfl (fun h pe=>Su size start ds O ds.length h _ pe a c D none 0 [] (Sl.nil _ _ _) (fun i hi=>by simp at hi) s_) ?_;rintro _ p1 g1 ⟨a1,n1,c1,rfl,b4,b3,⟨a9,S1,a7⟩,b0⟩;refine ax ?_;refine xzj 248 3 fun o0=>?_
 refine xmq (fun m_ l_ p_ L_=>∃(j:Nat)(v:Value)(Y:Pcs)(es:List (List Value)),m_=n1-j/\l_=[(1,none,w_ b1 0),(3,none,.slice a1 n1 c1),(4,none,v),(5,none,.J ((j:Nat):Int))]/\PG h.size [] p p_/\PLe p1 p_/\
  L_=[Y,[(b1,.cells (yV size start a ds.length c).cells 31 (0,0))]]/\j<=n1/\Ac 248 3 v es Y/\(∀e∈es,L8 p_ ds e)/\es.length=j) ⟨0,_,_,_,rfl,rfl,g1,.refl _,rfl,Nat.zero_le _,o0,fun e he=>by simp at he,rfl⟩ sb ?_
 clear o0;rintro _ _ p2 _ IH ⟨j,v,Y,es,rfl,rfl,g2,l2,rfl,hj,o,hS,hl⟩;have S2:=Sl.mono l2 S1;refine cq (fun cd=>?_) (fun cd=>?_)
 ·have a8:j<n1:=om;obtain⟨b,cb,l,hc,I,hR⟩:=RfW.at ⟨b3,⟨a9,S2,a7.mono l2⟩,b0⟩ a8;refine ax ?_;refine xqq [6,7] R8 ?_;refine ex ?_;refine xgj rfl rfl hc ?_;refine ex ?_
  refine xuk (first:=[]) (cap:=[]) (vs:=[yV size start a ds.length c,.slice b l.length cb]) (Q:=fun v Y=>∃a1 k1 a2 k2 a3 k3,v=.agg #[.slice a1 ds.length k1,.slice a2 ds.length k2,.slice a3 ds.length k3]/\ ∀p',PLe p2 p'->(∀y∈Y,p' y.1=some y.2)->L8 p' ds [.slice a1 ds.length k1,.slice a2 ds.length k2,.slice a3 ds.length k3]) rfl rfl rfl
   (fun h pe=>(T9 pe size start c ds (Go.X.Cist.Ba.mono g2.le D) O cb l I hR).mono fun v h' x=>by
    obtain⟨Z,⟨p3,⟨e,e1,st⟩,le⟩,N⟩:=x.pieces;obtain⟨a1,k1,l1,a2,k2,l2,a3,k3,n',rfl,rfl,q1,q2⟩:=st;exact⟨Z,⟨a1,k1,a2,k2,a3,k3,e1,fun p' l y=>L8.mono ⟨a1,k1,l1,a2,k2,l2,a3,k3,_,rfl,rfl,q1,q2⟩ (le p' l y)⟩,N⟩) fun v1 Z q=>?_
  obtain⟨a4,k4,a5,k5,a6,k6,rfl,M⟩:=q;refine ex ?_;refine xvk rfl rfl fun v2 Y2 o2=>?_;have o2:Ac 248 3 v2 [[.slice a4 ds.length k4,.slice a5 ds.length k5,.slice a6 ds.length k6]] Y2:=o2;refine ex ?_;refine xfw Z fun p3 V hy=>?_;have M:=M p3 V.le hy;refine xfv rfl rfl o o2 (by simp[A7]) (by simp;omega) fun v4 Y4 o4=>?_;refine ax ?_;exact xhq (IH _ _ _ om ⟨j+1,v4,Y4,_,rfl,rfl,g2.trans V,l2.trans V.le,rfl,om,o4,fun e he=>(List.mem_append.1 he).elim (fun z=>(hS e z).mono V.le) fun z=>by rw[List.mem_singleton.1 z];exact M,by simp;omega⟩)
 obtain rfl:j=n1:=om;refine xoq o (m:=j) hl d_ fun p3 a3 c3 V e3 b7 S3=>?_;subst e3;refine ax ?_;exact K.r rfl rfl fun _ H=>xwq H (g2.trans V) ⟨a3,j,c3,rfl,om,es,S3,fun e he=>(hS e he).mono V.le⟩
theorem P6{md:Md}{h:Heap}{p:Ab}(hp:Per p h)(size start:Int){a:Option Addr}(c:Nat)(ds:List Day)(D:Ba p a ds.length ds)(O:YOk size start ds):
 Aa prog md 213 #[yV size start a ds.length c] h fun v h'=>(∃q:Bool,v=.bool q/\((∀i,i<ds.length->(ds.getD i dz).want=0)->q=true)/\ ∀i,i<ds.length->60<(ds.getD i dz).want->q=false)/\Af h h':=by
 have h8:=O.n;refine xdq hp func213 fun _ _ _ K=>?_;refine xgq rfl fun b1=>?_;refine ax ?_;refine xvx rfl rfl (fun h pe=>Pq pe size start c ds D O) ?_;rintro _ p1 g1 ⟨a1,M,c1,rfl,a7,V,S1,H1⟩;refine ax ?_;refine xsq (fun m l'=>∃(j:Nat),m=M-j/\l'=[(1,none,w_ b1 0),(3,none,.slice a1 M c1),(4,none,.J ((j:Nat):Int))]/\j<=M/\(0<j-> ∀i,i<ds.length-> ¬ 60<(ds.getD i dz).want)) ⟨0,rfl,rfl,Nat.zero_le _,fun z=>om⟩ sb ?_;rintro _ _ IH ⟨j,rfl,rfl,hj,hw⟩;refine cq (fun cd=>?_) (fun cd=>?_)
 ·have a3:j<M:=om;obtain⟨a4,k1,l1,a6,k2,l2,-,a2,I2,q2⟩:=Mh.at ⟨V,S1,H1⟩ a3;have a5:=I2.len;refine ax ?_;refine xqq [] R8 ?_;refine ex ?_;refine xgj rfl rfl a2 ?_;refine ex ?_;refine ax ?_;refine xrz rfl rfl (fun h pe=>S9 pe ds.length k2 l2 I2 om fun i hi=>(q2 i hi).1) ?_;rintro _ ⟨x,rfl,x0,x1,x2⟩;refine cq (fun ce=>?_) (fun ce=>?_)
  ·refine ax ?_;exact K.r rfl rfl fun _ H=>⟨⟨false,rfl,fun z=>by
    have:=x1 fun i hi=>(q2 i om).2.1 (z i hi);omega,fun _ _ _=>rfl⟩,H.kept⟩
  refine ax ?_;exact xhq (IH _ om ⟨j+1,rfl,rfl,om,fun _ i hi z=>by
   have:=x2 i hi ((q2 i om).2.2 z);omega⟩)
 refine ax ?_;exact K.r rfl rfl fun _ H=>⟨⟨true,rfl,fun _=>rfl,fun i hi z=>absurd z (hw om i hi)⟩,H.kept⟩
set_option maxHeartbeats 400000 in
theorem Tu{md:Md}{h:Heap}{p:Ab}(hp:Per p h)(size start:Int){a:Option Addr}(c:Nat)(ds:List Day)(D:Ba p a ds.length ds)(O:Go.X.Cist.Ok size start ds)(i:Nat)(hi:i<ds.length):
 Aa prog md 212 #[yV size start a ds.length c,.J ((i:Nat):Int)] h fun v h'=>(∃x y:Int,v=.tuple #[.agg #[.J x,.J y],.J 0])/\Af h h':=by
 have h8:=O.yok.n;refine xdq hp func212 fun _ _ _ K=>?_;refine xgq rfl fun b2=>?_;refine lq fun b4=>?_;refine ax ?_;refine xqq [] R4 ?_;refine ex ?_;refine xvz rfl rfl rfl (fun _ V=>P4 V om) ?_;refine ex ?_;refine ax ?_;refine xiq rfl rfl (fun _ V=>Pt V D O) ?_;rw[show decide (0<=((i:Nat):Int)/\((i:Nat):Int)<=((ds.length:Nat):Int)-1)=true from decide_eq_true ⟨om,om⟩];refine cq (fun cc=>?_) (fun _=>?_)
 ·exact(cc rfl).elim
 refine ax ?_;refine xvx rfl rfl (fun h V=>Pq V size start c ds D O.yok) ?_;rintro _ p1 g1 ⟨a1,n1,c1,rfl,a6,a2,S1,H1⟩;obtain⟨a3,k1,l1,a5,k2,l2,-,M,I2,q2⟩:=Mh.at ⟨a2,S1,H1⟩ a6.1;refine ax ?_;refine xqq [15] R16 ?_;refine ex ?_;refine xgj rfl rfl M ?_;refine ex ?_;refine xgj rfl rfl M ?_;refine ex ?_;refine xdh rfl fun b8=>?_;refine ex ?_;refine ax ?_
 refine xmq (fun m_ l_ p_ L_=>∃(j:Nat)(x y:Int),m_=n1-j/\l_=[(1,none,.J ((i:Nat):Int)),(4,none,w_ b4 0),(7,none,.slice a1 n1 c1),(8,none,w_ b8 0),(9,none,.J ((j:Nat):Int))]/\p_=p1/\
  L_=[[(b8,.cells #[.J x,.J y] 96 (0,0))],[(b4,.cells #[.J 0,.J 0] 96 (0,0))],[(b2,.cells (yV size start a ds.length c).cells 31 (0,0))]]/\j<=n1) ⟨0,_,_,rfl,rfl,rfl,rfl,Nat.zero_le _⟩ sb ?_
 rintro _ _ p1 _ IH ⟨j,x,y,rfl,rfl,rfl,rfl,hj⟩;refine cq (fun cd=>?_) (fun cd=>?_)
 ·have a4:j<n1:=om;obtain⟨a3,k1,l1,a5,k2,l2,⟨a7,I1,q1⟩,M,I2,q2⟩:=Mh.at ⟨a2,S1,H1⟩ a4;refine ax ?_;refine xqq [] R9 ?_;refine ex ?_;refine xgj rfl rfl M ?_;refine ex ?_;refine ax ?_;refine xiq rfl rfl (fun _ V=>Qo V) ?_;refine ax ?_;exact xhq (IH _ _ _ om ⟨j+1,_,_,rfl,rfl,rfl,rfl,om⟩)
 refine ax ?_;exact K.e rfl (xtq rfl (.tmp rfl .nil)) fun _ H=>⟨⟨x,y,rfl⟩,H.kept⟩
set_option maxHeartbeats 400000 in
theorem Wk{md:Md}{h:Heap}{p:Ab}(hp:Per p h){size start:Int}{a:Option Addr}{c:Nat}(ds:List Day)(D:Ba p a ds.length ds)(O:Go.X.Cist.Ok size start ds)(z:Int):
 Aa prog md 149 #[yV size start a ds.length c,.J z] h fun v h'=>(∃x y e:Int,v=.tuple #[.agg #[.J x,.J y],.J e]/\(0<=x/\x<=60)/\0<=y/\y<=60)/\Af h h':=by
 have h8:=O.yok.n;refine xdq hp func149 fun _ _ _ K=>?_;refine xgq rfl fun b2=>?_;refine lq fun b4=>?_;refine ax ?_;refine xqq [] R4 ?_;refine ex ?_;refine xvz rfl rfl rfl (fun _ V=>P4 V om) ?_;refine ex ?_;refine ax ?_;refine xiq rfl rfl (fun _ V=>Pt V D O) ?_;refine cq (fun cc=>?_) (fun cc=>?_)
 ·refine ax ?_;exact K.e rfl (xtq rfl (.tmp rfl .nil)) fun _ H=>⟨⟨0,0,_,rfl,⟨d_,d_⟩,d_,d_⟩,H.kept⟩
 have hz:0<=z/\z<=((ds.length:Nat):Int)-1:=by
  by_cases q:0<=z/\z<=((ds.length:Nat):Int)-1
  ·exact q
  ·simp[q]at cc
 obtain⟨i,rfl⟩:∃i:Nat,z=i:=⟨z.toNat,om⟩
 have hi:i<ds.length:=om;refine ax ?_;refine xvx rfl rfl (fun h V=>Pq V size start c ds D O.yok) ?_;rintro _ p1 g1 ⟨a1,n1,c1,rfl,a7,a2,S1,H1⟩;obtain⟨a3,k1,l1,a6,k2,l2,⟨M,I1,q1⟩,a4,I2,q2⟩:=Mh.at ⟨a2,S1,H1⟩ a7.1;refine ax ?_;refine xqq [15] R16 ?_;refine ex ?_;refine xgj rfl rfl M ?_;refine ex ?_;refine xgj rfl rfl M ?_;refine ex ?_;refine xdh rfl fun b8=>?_;refine ex ?_;refine ax ?_;have q0:=q1 i (by have:=I1.len;omega)
 refine xmq (fun m_ l_ p_ L_=>∃(j:Nat)(x y:Int),m_=n1-j/\l_=[(1,none,.J ((i:Nat):Int)),(4,none,w_ b4 0),(7,none,.slice a1 n1 c1),(8,none,w_ b8 0),(9,none,.J ((j:Nat):Int))]/\p_=p1/\
  L_=[[(b8,.cells #[.J x,.J y] 96 (0,0))],[(b4,.cells #[.J 0,.J 0] 96 (0,0))],[(b2,.cells (yV size start a ds.length c).cells 31 (0,0))]]/\j<=n1/\(0<=x/\x<=60)/\0<=y/\y<=60) ⟨0,l1.getD i 0,l1.getD i 0,rfl,rfl,rfl,rfl,Nat.zero_le _,q0,q0⟩ sb ?_
 rintro _ _ p1 _ IH ⟨j,x,y,rfl,rfl,rfl,rfl,hj,hx,hy⟩;refine cq (fun cd=>?_) (fun cd=>?_)
 ·have a5:j<n1:=om;obtain⟨a3,k1,l1,a6,k2,l2,⟨M,I1,q1⟩,a4,I2,q2⟩:=Mh.at ⟨a2,S1,H1⟩ a5;have q:=q1 i (by have:=I1.len;omega);refine ax ?_;refine xqq [] R9 ?_;refine ex ?_;refine xgj rfl rfl M ?_;refine ex ?_;refine ax ?_;refine xiq rfl rfl (fun _ V=>Qo V) ?_;refine ax ?_;exact xhq (IH _ _ _ om ⟨j+1,min x (l1.getD i 0),max y (l1.getD i 0),rfl,rfl,rfl,rfl,om,om,om⟩)
 refine ax ?_;exact K.e rfl (xtq rfl (.tmp rfl .nil)) fun _ H=>⟨⟨x,y,0,rfl,hx,hy⟩,H.kept⟩
open Go.X.Cist (Day Ba dz dcs yV YOk Gp)
theorem yed{md:Md}{h:Heap}{p:Ab}(H:Per p h)(size start:Int){a:Option Addr}(n c:Nat)(ds:List Day)(hn:ds.length=n)(D:Ba p a n ds)(O:YOk size start ds):
 Aa prog md 213 #[yV size start a n c] h fun v M=>(∃q:Bool,v=.bool q/\((∀i,i<n->(ds.getD i dz).want=0)->q=true)/\ ∀i,i<n->60<(ds.getD i dz).want->q=false)/\Af h M:=by
 subst hn;exact P6 H size start c ds D O
theorem Vr{md:Md}{h:Heap}{p:Ab}(hp:Per p h){size start:Int}{a:Option Addr}{c:Nat}(ds:List Day)(D:Ba p a ds.length ds)(O:Go.X.Cist.Ok size start ds):
 Aa prog md 142 #[yV size start a ds.length c] h fun v h'=>(∃x e:Int,v=.tuple #[.J x,.J e]/\0<=x/\x<=60)/\Af h h':=by
 have h8:=O.yok.n;refine xdq hp func142 fun _ _ _ K=>?_;refine xgq rfl fun b1=>?_;refine ax ?_;refine xiq rfl rfl (fun _ V=>c35 V D om) ?_;rw[Go.X.Cist.Bu.2 O];refine cq (fun cc=>?_) (fun _=>?_)
 ·exact(cc rfl).elim
 refine ax ?_;refine xsq (fun m l'=>∃(j:Nat),m=ds.length-j/\l'=[(1,none,w_ b1 0),(5,none,.J ((j:Nat):Int))]/\j<=ds.length) ⟨0,rfl,rfl,Nat.zero_le _⟩ sb ?_;rintro _ _ IH ⟨j,rfl,rfl,hj⟩;refine cq (fun cd=>?_) (fun cd=>?_)
 ·have M:j<ds.length:=om;refine ax ?_;refine xrz rfl rfl (fun h V=>Tu V size start c ds D O j M) ?_;rintro _ ⟨x,y,rfl⟩;refine ax ?_;refine lq fun b6=>?_;refine cq (fun ce=>?_) (fun ce=>?_)
  ·refine ax ?_;exact K.r rfl rfl fun _ H=>⟨⟨_,_,rfl,om,om⟩,H.kept⟩
  refine ax ?_;exact xhq (IH _ om ⟨j+1,rfl,rfl,om⟩)
 refine ax ?_;exact K.r rfl rfl fun _ H=>⟨⟨_,_,rfl,d_,d_⟩,H.kept⟩
theorem Sx{md:Md}{h:Heap}{p:Ab}(hp:Per p h){size start:Int}{a:Option Addr}{c:Nat}(ds:List Day)(D:Ba p a ds.length ds)(O:Go.X.Cist.Ok size start ds):
 Aa prog md 143 #[yV size start a ds.length c] h fun v h'=>(∃x e:Int,v=.tuple #[.J x,.J e]/\0<=x/\x<=60)/\Af h h':=by
 have h8:=O.yok.n;refine xdq hp func143 fun _ _ _ K=>?_;refine xgq rfl fun b1=>?_;refine ax ?_;refine xiq rfl rfl (fun _ M=>c35 M D om) ?_;rw[Go.X.Cist.Bu.2 O];refine cq (fun cc=>?_) (fun _=>?_)
 ·exact(cc rfl).elim
 refine ax ?_
 refine xmq (fun m_ l_ p_ L_=>∃(j:Nat),m_=61-j/\l_=[(1,none,w_ b1 0),(5,none,.J ((j:Nat):Int))]/\PG h.size [] p p_/\
  L_=[[(b1,.cells (yV size start a ds.length c).cells 31 (0,0))]]/\j<=61) ⟨0,rfl,rfl,.refl _ _ _,rfl,Nat.zero_le _⟩ sb ?_
 rintro _ _ p1 _ IH ⟨j,rfl,rfl,V,rfl,hj⟩;refine cq (fun cd=>?_) (fun cd=>?_)
 ·have a3:j<=60:=om;refine ax ?_;refine xvx rfl rfl (fun h M=>Tg M size start ds.length c ds (Go.X.Cist.Ba.mono V.le D) om) ?_;rintro _ p2 g2 ⟨a2,c2,rfl,D2⟩;refine ax ?_;refine xrz rfl rfl (fun h M=>P6 M _ _ c2 ds D2 (O.yok.sized ⟨om,om⟩)) ?_;rintro _ ⟨q,rfl,-,-⟩;refine cq (fun ce=>?_) (fun ce=>?_)
  ·refine ax ?_;exact K.r rfl rfl fun _ H=>⟨⟨_,_,rfl,om,om⟩,H.kept⟩
  refine ax ?_;exact xhq (IH _ _ _ om ⟨j+1,rfl,rfl,V.trans g2,rfl,om⟩)
 refine ax ?_;exact K.r rfl rfl fun _ H=>⟨⟨_,_,rfl,d_,d_⟩,H.kept⟩
theorem V6{md:Md}{h:Heap}{p:Ab}(hp:Per p h){size start:Int}{a:Option Addr}{c:Nat}(ds:List Day)(D:Ba p a ds.length ds)(O:Go.X.Cist.Ok size start ds):
 Aa prog md 144 #[yV size start a ds.length c] h fun v h'=>(∃x e:Int,v=.tuple #[.J x,.J e]/\0<=x/\x<=60)/\Af h h':=by
 have h8:=O.yok.n;refine xdq hp func144 fun _ _ _ K=>?_;refine xgq rfl fun b1=>?_;refine ax ?_;refine xiq rfl rfl (fun _ M=>c35 M D om) ?_;rw[Go.X.Cist.Bu.2 O];refine cq (fun cc=>?_) (fun _=>?_)
 ·exact(cc rfl).elim
 refine ax ?_
 refine xmq (fun m_ l_ p_ L_=>∃(j:Nat),m_=j/\l_=[(1,none,w_ b1 0),(5,none,.J ((j:Nat):Int))]/\PG h.size [] p p_/\
  L_=[[(b1,.cells (yV size start a ds.length c).cells 31 (0,0))]]/\j<=20) ⟨20,rfl,rfl,.refl _ _ _,rfl,Nat.le_refl _⟩ sb ?_
 rintro j _ p1 _ IH ⟨_,rfl,rfl,g1,rfl,hj⟩;refine ax ?_;refine xvx rfl rfl (fun h M=>Rw M size start c ds (Go.X.Cist.Ba.mono g1.le D) h8) ?_;rintro _ p2 g2 ⟨a2,c2,rfl,D2⟩;have V:(Gp (fun _ w=>min ((j:Nat):Int) w) ds).length=ds.length:=Go.X.Cist.B0 _ _;refine ax ?_;refine xrz rfl rfl (fun h M=>yed M size start ds.length c2 (Gp (fun _ w=>min ((j:Nat):Int) w) ds) V D2 (O.yok.Gp fun i w _ _ _=>⟨om,om⟩)) ?_;rintro _ ⟨q,rfl,hq,-⟩;refine cq (fun ce=>?_) (fun ce=>?_)
 ·have a3:0<j:=by
   rcases Nat.eq_zero_or_pos j with z|z
   ·subst z;rw[hq fun i hi=>by
     rw[Go.X.Cist.Lu om];have:=(O.yok.d i om).2;omega]at ce
    simp at ce
   ·exact z
  refine ax ?_;rw[show((j:Nat):Int)-1=((j-1:Nat):Int) by omega];exact xhq (IH _ _ _ om ⟨j-1,rfl,rfl,g1.trans g2,rfl,om⟩)
 refine ax ?_;exact K.r rfl rfl fun _ H=>⟨⟨_,_,rfl,om,om⟩,H.kept⟩
theorem Sq{md:Md}{h:Heap}{p:Ab}(hp:Per p h){size start:Int}{a:Option Addr}{c:Nat}(ds:List Day)(D:Ba p a ds.length ds)(O:Go.X.Cist.Ok size start ds)(z:Int):
 Aa prog md 145 #[yV size start a ds.length c,.J z] h fun v h'=>(∃x e:Int,v=.tuple #[.J x,.J e]/\0<=x/\x<=60)/\Af h h':=by
 have h8:=O.yok.n;refine xdq hp func145 fun _ _ _ K=>?_;refine xgq rfl fun b2=>?_;refine ax ?_;refine xqq [] R4 ?_;refine ex ?_;refine xvz rfl rfl rfl (fun _ M=>P4 M om) ?_;refine ex ?_;refine ax ?_;refine xiq rfl rfl (fun _ M=>Pt M D O) ?_;refine cq (fun cc=>?_) (fun cc=>?_)
 ·refine ax ?_;exact K.r rfl rfl fun _ H=>⟨⟨0,_,rfl,d_,d_⟩,H.kept⟩
 have hz:0<=z/\z<=((ds.length:Nat):Int)-1:=by
  by_cases q:0<=z/\z<=((ds.length:Nat):Int)-1
  ·exact q
  ·simp[q]at cc
 obtain⟨i,rfl⟩:∃i:Nat,z=i:=⟨z.toNat,om⟩
 have hi:i<ds.length:=om;have hw:=O.yok.d i hi;refine ax ?_;refine xrz rfl rfl (fun h M=>P6 M _ _ c ds D O.yok) ?_;rintro _ ⟨q,rfl,-,-⟩;refine cq (fun ce=>?_) (fun ce=>?_)
 ·refine ax ?_;exact K.r rfl rfl fun _ H=>⟨⟨_,_,rfl,d_,d_⟩,H.kept⟩
 refine ax ?_
 refine xmq (fun m_ l_ p_ L_=>∃(j:Nat),m_=60-j/\l_=[(1,none,.J ((i:Nat):Int)),(2,none,w_ b2 0),(7,none,.J ((j:Nat):Int))]/\PG h.size [] p p_/\
  L_=[[(b2,.cells (yV size start a ds.length c).cells 31 (0,0))]]/\j<=60) ⟨0,rfl,rfl,.refl _ _ _,rfl,Nat.zero_le _⟩ sb ?_
 rintro _ _ p1 _ IH ⟨j,rfl,rfl,g1,rfl,hj⟩;refine ax ?_;refine xvx rfl rfl (fun h M=>U4 M size start c ds (Go.X.Cist.Ba.mono g1.le D) O.yok i hi (((j:Nat):Int)+1) ⟨om,om⟩) ?_;rintro _ p2 g2 ⟨a2,c2,rfl,D2⟩;have a3:(Go.X.Cist.By ds i ((ds.getD i dz).want+(((j:Nat):Int)+1))).length=ds.length:=Go.X.Cist.C4;have a4:(ds.getD i dz).want<=20:=by
  have:=O.2.2.2.2.2 i hi;unfold Go.X.Cist.C7 at this;omega
 refine ax ?_;refine xrz rfl rfl (fun h M=>yed M size start ds.length c2 _ a3 D2 (O.yok.By hi ⟨om,om⟩)) ?_;rintro _ ⟨q,rfl,-,hq⟩;refine cq (fun V=>?_) (fun V=>?_)
 ·have a5:j<60:=by
   rcases Nat.lt_or_ge j 60 with z|z
   ·exact z
   ·rw[hq i om (by rw[Go.X.Cist.Fk hi,if_pos rfl];show 60<(ds.getD i dz).want+(((j:Nat):Int)+1);omega)]at V;simp at V
  refine ax ?_;exact xhq (IH _ _ _ om ⟨j+1,rfl,rfl,g1.trans g2,rfl,om⟩)
 refine ax ?_;exact K.r rfl rfl fun _ H=>⟨⟨_,_,rfl,om,om⟩,H.kept⟩
open Go.X.Flow (Cc Wys wz ics Ao Tn Vd tnV B3 C1 Hq Kq Hh Km Br put Le Fb Hy Gu)
section
variable{h:Heap}{md:Md}{p:Ab}
theorem Wq(O:Per p h){x y:Int}:
 Aa prog md 211 #[.J x,.J y] h fun v h'=>(∃n:Int,v=.J n/\0<=n/\n<=3)/\Af h h':=by
 refine xdq O func211 fun _ _ _ K=>?_;refine cq (fun M=>?_) (fun M=>?_)
 ·refine ax ?_;exact K.r rfl rfl fun _ H=>⟨⟨_,rfl,d_,d_⟩,H.kept⟩
 refine cq (fun V=>?_) (fun V=>?_)
 ·refine ax ?_;exact K.r rfl rfl fun _ H=>⟨⟨_,rfl,d_,d_⟩,H.kept⟩
 refine ax ?_;exact K.r rfl rfl fun _ H=>⟨⟨_,rfl,d_,d_⟩,H.kept⟩
theorem Vp(hp:Per p h){a b:Option Addr}{n m ca cb:Nat}{xs ys:List Int}(S:As p a n xs)(S':As p b m ys)(hn:n<=2^30/\m<=2^30):
 Aa prog md 260 #[.slice a n ca,.slice b m cb] h fun v h'=>Hf v/\Af h h':=by
 refine xdq hp func260 fun _ _ _ K=>?_;refine xsq (fun O l=>∃j:Nat,O=n-j/\l=[(0,none,.slice a n ca),(1,none,.slice b m cb),(5,none,.J ((j:Nat):Int))]/\j<=n) ⟨0,rfl,rfl,Nat.zero_le _⟩ sb ?_;rintro _ _ IH ⟨j,rfl,rfl,hj⟩;refine cq (fun cd=>?_) (fun cd=>?_)
 ·have M:j<n/\j<m:=om;have a2:=M.1;have a3:=M.2;refine ax ?_;refine xqq [] R8 ?_;refine ex ?_;refine cq (fun V=>?_) (fun V=>?_)
  ·refine ax ?_;refine xqq [] R8 ?_;refine ex ?_;refine ax ?_;exact K.r rfl rfl fun _ H=>⟨⟨_,rfl⟩,H.kept⟩
  refine ax ?_;exact xhq (IH _ om ⟨j+1,rfl,rfl,om⟩)
 refine ax ?_;exact K.r rfl rfl fun _ H=>⟨⟨_,rfl⟩,H.kept⟩
theorem O8(hp:Per p h){a1 a2 O:Option Addr}{c1 c2 c3:Nat}(t:Tn)(T:Ao p a1 t.nH a2 t.nW O t.m t){e:Option Addr}(c:Nat)(l:List Int)(I:As p e l.length l)(hm:l.length<=t.m)(a5:l.length<=12)(hl:∀i,i<l.length->0<=l.getD i 0/\l.getD i 0<=9)(x:Int):
 Aa prog md 223 #[tnV a1 a2 O c1 c2 c3 t,.slice e l.length c,.J x] h fun v h'=>v=.J (B3 t l l.length x)/\Af h h':=by
 have Ty:Sl p O t.m 2 (Flow.wcs t.wy):=T.y;refine xdq hp func223 fun _ _ _ K=>?_;refine xgq rfl fun b3=>?_;refine ax ?_;refine xsq (fun m l'=>∃(j:Nat)(n:Int),m=l.length-j/\l'=[(1,none,.slice e l.length c),(2,none,.J x),(3,none,w_ b3 0),(7,none,.J n),(8,none,.J ((j:Nat):Int))]/\j<=l.length/\n=B3 t l j x) ⟨0,0,rfl,rfl,Nat.zero_le _,rfl⟩ sb ?_;rintro _ _ IH ⟨j,n,rfl,rfl,hj,hn⟩;have hb:0<=B3 t l j x/\B3 t l j x<=1000*j:=Br fun i hi=>by have:=hl i om;unfold Flow.dv;omega
 rw[<- hn]at hb;refine cq (fun cd=>?_) (fun cd=>?_)
 ·have V:j<l.length:=om;have a4:j<t.m:=om;have hx:=hl j V;refine ax ?_;refine xoz rfl (T.y.ho a4) ?_;refine cq (fun M=>?_) (fun M=>?_)
  ·refine ax ?_;exact xhq (IH _ om ⟨j+1,n+l.getD j 0,rfl,rfl,om,by rw[hn];exact Hq M⟩)
  refine ax ?_;exact xhq (IH _ om ⟨j+1,n,rfl,rfl,om,by rw[hn];exact Kq M⟩)
 obtain rfl:j=l.length:=om;refine ax ?_;exact K.r rfl rfl fun _ H=>⟨by rw[hn];rfl,H.kept⟩
theorem Qj(hp:Per p h){a1 a2 O:Option Addr}{c1 c2 c3:Nat}(t:Tn)(T:Ao p a1 t.nH a2 t.nW O t.m t){e:Option Addr}(c:Nat)(l:List Int)(I:As p e l.length l)(hm:l.length<=t.m)(a5:l.length<=12)(hl:∀i,i<l.length->0<=l.getD i 0/\l.getD i 0<=9){x:Int}:
 Aa prog md 210 #[tnV a1 a2 O c1 c2 c3 t,.slice e l.length c,.J x] h fun v h'=>v=.J (C1 t l l.length x)/\Af h h':=by
 have Ty:Sl p O t.m 2 (Flow.wcs t.wy):=T.y;refine xdq hp func210 fun _ _ _ K=>?_;refine xgq rfl fun b3=>?_;refine ax ?_;refine xsq (fun m l'=>∃(j:Nat)(n:Int),m=l.length-j/\l'=[(1,none,.slice e l.length c),(2,none,.J x),(3,none,w_ b3 0),(7,none,.J n),(8,none,.J ((j:Nat):Int))]/\j<=l.length/\n=C1 t l j x) ⟨0,0,rfl,rfl,Nat.zero_le _,rfl⟩ sb ?_;rintro _ _ IH ⟨j,n,rfl,rfl,hj,hn⟩;have hb:0<=C1 t l j x/\C1 t l j x<=1000*j:=Br fun i hi=>by have:=hl i om;unfold Flow.dv;omega
 rw[<- hn]at hb;refine cq (fun cd=>?_) (fun cd=>?_)
 ·have V:j<l.length:=om;have a4:j<t.m:=om;have hx:=hl j V;refine ax ?_;refine xoz rfl (T.y.we a4) ?_;refine cq (fun M=>?_) (fun M=>?_)
  ·refine ax ?_;exact xhq (IH _ om ⟨j+1,n+l.getD j 0,rfl,rfl,om,by rw[hn];exact Hh M⟩)
  refine ax ?_;exact xhq (IH _ om ⟨j+1,n,rfl,rfl,om,by rw[hn];exact Km M⟩)
 obtain rfl:j=l.length:=om;refine ax ?_;exact K.r rfl rfl fun _ H=>⟨by rw[hn];rfl,H.kept⟩
theorem R2(hp:Per p h){a:Option Addr}(c:Nat)(l:List Int)(I:As p a l.length l)(hn:l.length<=12)(M:∀i,i<l.length->0<=l.getD i 0/\l.getD i 0<=9):
 Aa prog md 208 #[.slice a l.length c] h fun v O=>(∃x:Int,v=.J x/\0<=x/\x<=108)/\Af h O:=by
 refine xdq hp func208 fun _ _ _ K=>?_;refine xsq (fun m l'=>∃(j:Nat)(x:Int),m=l.length-j/\l'=[(0,none,.slice a l.length c),(3,none,.J x),(4,none,.J ((j:Nat):Int))]/\j<=l.length/\0<=x/\x<=9*j) ⟨0,0,rfl,rfl,Nat.zero_le _,om,om⟩ sb ?_;rintro _ _ IH ⟨j,x,rfl,rfl,hj,V,h1⟩;refine cq (fun cd=>?_) (fun cd=>?_)
 ·have a2:j<l.length:=om;have hx:=M j om;refine ax ?_;exact xhq (IH _ om ⟨j+1,x+l.getD j 0,rfl,rfl,om,om,om⟩)
 refine ax ?_;exact K.r rfl rfl fun _ H=>⟨⟨x,rfl,V,om⟩,H.kept⟩
set_option maxHeartbeats 400000 in
theorem c312(md:Md)(h:Heap)(p:Ab)(hp:Per p h)(a:Option Addr)(c:Nat)(l:List Int)(I:As p a l.length l)(hc:l.length<=c)(hn:l.length<=1000)(z:Int):
 Aa prog md 312 #[.slice a l.length c,.J z] h (Ar p h fun v p'=>∃a c,v=.slice a (put l z).length c/\(put l z).length<=c/\As p' a (put l z).length (put l z)):=by
 refine xdq hp func312 fun _ _ _ K=>?_;refine xsq (fun m l'=>∃(j:Nat),m=l.length-j/\l'=[(0,none,.slice a l.length c),(1,none,.J z),(5,none,.J ((j:Nat):Int))]/\j<=l.length/\ ∀i,i<j->z<=l.getD i 0) ⟨0,rfl,rfl,Nat.zero_le _,fun i hi=>om⟩ sb ?_;rintro _ _ IH ⟨j,rfl,rfl,hj,M⟩;refine ax ?_;refine xo9 rfl rfl rfl sdu sdu (fun cg=>⟨by simp at cg;omega,Sl.ne I (by simp at cg;omega)⟩) ?_;refine xhb (u:=.J (l.getD j 0)) rfl rfl sdu (fun cg=>As.get I (by simp at cg;omega)) ?_;refine cq (fun cd=>?_) (fun cd=>?_)
 ·have a6:j<l.length:=om;refine ax ?_;exact xhq (IH _ om ⟨j+1,rfl,rfl,om,fun i hi=>by
   rcases Nat.lt_or_ge i j with y|y
   ·exact M i y
   ·obtain rfl:i=j:=om;exact cd.2⟩)
 have hz:l.length<=j\/ ¬ z<=l.getD j 0:=by
  rcases Nat.lt_or_ge j l.length with y|y
  ·exact .inr fun q=>cd ⟨om,q⟩
  ·exact .inl y
 have a3:=Le hj M hz;refine ax ?_
 refine xpg 11 [7] [1,2,3,5,8,9,10] [0,4,6,7] (fun i=>match i with|4=>[0]|7=>[4,6]|_=>[]) (fun i=>match i with|3=>[1,2]|4=>[0,3]|6=>[5]|7=>[4,6]|10=>[8,9]|_=>[])
  (fun i _ _ v x=>match i with
   |0=>Ac 3 1 v [] x
   |1=>v=.slice a l.length c/\x=[]
   |2=>v=.J ((j:Nat):Int)/\x=[]
   |3=>v=.slice a j c/\x=[]
   |4=>Ac 3 1 v (ics (l.take j)) x
   |5=>v=.J z/\x=[]
   |6=>Ac 3 1 v (ics [z]) x
   |7=>Ac 3 1 v (ics (l.take j++[z])) x
   |8=>v=.slice a l.length c/\x=[]
   |9=>v=.J ((j:Nat):Int)/\x=[]
   |10=>v=.slice (Ft a c j 1) (l.length-j) (c-j)/\x=[]
   |_=>True) (fun i hi val piece M=>?_) (fun val piece j hj v x q=>?_) (fun val piece M=>?_)
 ·match i,hi with
  |0,_=>
    refine xvk rfl rfl fun v Y o=>?_;have o:Ac 3 1 v [] Y:=o;exact xzq ⟨⟨_,rfl⟩,fun v' e=>by
     have O:=xpq e;subst O;show Ac _ _ _ _ ([Y]++[]).flatten;have V:([Y]++([]:List Pcs)).flatten=Y:=by simp
     rw[V];exact o⟩
  |1,_=>
    refine ex ?_;exact xzq ⟨⟨_,rfl⟩,fun v e=>⟨xpq e,rfl⟩⟩
  |2,_=>
    refine ex ?_;exact xzq ⟨⟨_,rfl⟩,fun v e=>⟨xpq e,rfl⟩⟩
  |3,_=>
    refine ynl (q:=l.length) (j:=j) rfl (by show some ([],val 1)=_;rw[(M 1 rfl).1]) (by show some ([],val 2)=_;rw[(M 2 rfl).1]) om ?_;exact xzq ⟨⟨_,rfl⟩,fun v e=>⟨xpq e,rfl⟩⟩
  |4,_=>
    have o1:Ac 3 1 (val 0) [] (piece 0):=M 0 rfl;have Ip:As p a j (l.take j):=by
     have:=I.pre hc hj;rwa[xv7]at this
    show DE _ _ _ _ _ _ _ _ _ [piece 0];refine xxg rfl rfl (by show some ([],val 3)=_;rw[(M 3 rfl).1]) o1 Ip (xdv _) (by simp;omega) fun v Y o=>?_;rw[List.nil_append]at o;exact xzq ⟨⟨_,rfl⟩,fun v' e=>by
     have O:=xpq e;subst O;show Ac _ _ _ _ ([Y]++[]).flatten;have V:([Y]++([]:List Pcs)).flatten=Y:=by simp
     rw[V];exact o⟩
  |5,_=>
    refine ex ?_;exact xzq ⟨⟨_,rfl⟩,fun v e=>⟨xpq e,rfl⟩⟩
  |6,_=>
    refine xvk (vs:=[(0,.J z)]) (cells:=#[.J z]) rfl (by show some [(0,val 5)]=_;rw[(M 5 rfl).1]) fun v Y o=>?_;have o:Ac 3 1 v (ics [z]) Y:=o;exact xzq ⟨⟨_,rfl⟩,fun v' e=>by
     have O:=xpq e;subst O;show Ac _ _ _ _ ([Y]++[]).flatten;have V:([Y]++([]:List Pcs)).flatten=Y:=by simp
     rw[V];exact o⟩
  |7,_=>
    have o1:Ac 3 1 (val 4) (ics (l.take j)) (piece 4):=M 4 rfl;have o2:Ac 3 1 (val 6) (ics [z]) (piece 6):=M 6 rfl;show DE _ _ _ _ _ _ _ _ _ [piece 4,piece 6];refine xu7 rfl rfl rfl o1 o2 (xdv _) (by simp[ics];omega) fun v Y o=>?_;have o:=o.as (show _=ics (l.take j++[z]) by simp[ics]);exact xzq ⟨⟨_,rfl⟩,fun v' e=>by
     have O:=xpq e;subst O;show Ac _ _ _ _ ([Y]++[]).flatten;have V:([Y]++([]:List Pcs)).flatten=Y:=by simp
     rw[V];exact o⟩
  |8,_=>
    refine ex ?_;exact xzq ⟨⟨_,rfl⟩,fun v e=>⟨xpq e,rfl⟩⟩
  |9,_=>
    refine ex ?_;exact xzq ⟨⟨_,rfl⟩,fun v e=>⟨xpq e,rfl⟩⟩
  |10,_=>
    refine xwg (q:=l.length) (j:=j) rfl (by show some ([],val 8)=_;rw[(M 8 rfl).1]) (by show some ([],val 9)=_;rw[(M 9 rfl).1]) ⟨hj,hc⟩ ?_;exact xzq ⟨⟨_,rfl⟩,fun v e=>⟨xpq e,rfl⟩⟩
  |_+11,h=>exact absurd h om
 ·have q:_:=q;simp only[List.mem_cons,List.not_mem_nil,or_false]at hj;rcases hj with rfl|rfl|rfl|rfl|rfl|rfl|rfl<;>exact q.2
 have o7:Ac 3 1 (val 7) (ics (l.take j++[z])) (piece 7):=M 7 d_;have a5:val 10=.slice (Ft a c j 1) (l.length-j) (c-j):=(M 10 d_).1;have Is:=I.suf hc hj;show RO _ _ _ _ _ _ [piece 7];refine xow rfl (by show some ([],val 10)=_;rw[a5]) o7 Is (xdv _) (by simp[ics];omega) fun v Y o=>?_;have o:Ac 3 1 v (ics (put l z)) Y:=o.as (by rw[a3];simp[ics]);refine ax ?_;refine xoq o (m:=(put l z).length) (by simp[ics]) d_ fun p2 a2 c2 g2 e2 a4 S2=>?_;subst e2;exact K.r rfl rfl fun _ H=>xwq H g2 ⟨a2,c2,rfl,a4,S2⟩
theorem Rf(M:Per p h){a:Option Addr}(n c:Nat)(l:List Int)(H:l.length=n)(I:As p a n l)(hc:n<=c)(hn:n<=1000)(z:Int):
 Aa prog md 312 #[.slice a n c,.J z] h (Ar p h fun v p'=>∃a c,v=.slice a (n+1) c/\n+1<=c/\As p' a (n+1) (put l z)):=by
 subst H;have:=c312 md h p M a c l I hc hn z;rwa[Fb]at this
theorem Pw(hp:Per p h){a1 M a3:Option Addr}(c1 V c3:Nat)(t:Tn)(T:Ao p a1 t.nH M t.nW a3 t.m t)(v:Vd t){e:Option Addr}(c:Nat)(l:List Int)(I:As p e l.length l)(hm:l.length<=t.m)(a6:l.length<=12)(hl:∀i,i<l.length->0<=l.getD i 0/\l.getD i 0<=9):
 Aa prog md 258 #[tnV a1 M a3 c1 V c3 t,.slice e l.length c] h (Ar p h fun v p'=>∃a c,v=.slice a t.nH c/\As p' a t.nH (Hy t l t.nH)):=by
 have h6:=v.nh;refine xdq hp func258 fun _ _ _ K=>?_;refine xgq rfl fun b2=>?_;refine ax ?_
 refine xmq (fun m_ l_ p_ L_=>∃(j:Nat)(a:Option Addr)(O:Nat),m_=t.nH-j/\l_=[(1,none,.slice e l.length c),(2,none,w_ b2 0),(5,none,.slice a j O),(6,none,.J ((j:Nat):Int))]/\PG h.size [] p p_/\
  L_=[[(b2,.cells (tnV a1 M a3 c1 V c3 t).cells 28 (0,0))]]/\j<=t.nH/\j<=O/\As p_ a j (Hy t l j)) ⟨0,none,0,rfl,rfl,.refl _ _ _,rfl,Nat.zero_le _,Nat.le_refl _,Sl.nil _ _ _⟩ sb ?_
 rintro _ _ p1 _ IH ⟨j,a,O,rfl,rfl,g1,rfl,hj,a8,L⟩;have T1:=Flow.Ao.mono T g1.le;have Th:=T1.h;refine cq (fun cd=>?_) (fun cd=>?_)
 ·have a7:j<t.nH:=om;have hx:=v.h j a7;have hb:0<=B3 t l l.length ((j:Nat):Int)/\B3 t l l.length ((j:Nat):Int)<=1000*l.length:=Br fun i hi=>by have:=hl i om;unfold Flow.dv;omega
  refine ax ?_;refine xqq [] R11 ?_;refine ex ?_;refine xvz rfl rfl rfl (fun _ pe=>O8 pe t T1 c l (I.mono g1.le) hm a6 hl _) ?_;refine ex ?_;refine ax ?_;have a4:=Gu t l j;refine xvx rfl rfl (fun h pe=>Rf pe j O (Hy t l j) a4 L a8 om (t.hs.getD j 0-B3 t l l.length ((j:Nat):Int))) ?_;rintro _ p2 g2 ⟨M,V,rfl,a5,L2⟩;refine ax ?_;exact xhq (IH _ _ _ om ⟨j+1,M,V,rfl,rfl,g1.trans g2,rfl,om,a5,L2⟩)
 obtain rfl:j=t.nH:=om;refine ax ?_;exact K.r rfl rfl fun _ H=>xwq H g1 ⟨a,O,rfl,L⟩
end
open Go.X.Flow (Cc Wys wz ics Ao Tn Vd tnV B3 C1 Eo dvs dpre F9 G0 Gc RfD Hy)
set_option maxHeartbeats 800000 in
theorem P8{md:Md}(t:Tn)(v:Vd t)(b9:t.m<=12):∀(f:Nat)(h:Heap)(p:Ab)(_:Per p h)(a1 a2 V:Option Addr)(c1 c2 c3:Nat)(_:Ao p a1 t.nH a2 t.nW V t.m t)(e:Option Addr)(O:Nat)(l:List Int)(_:As p e l.length l)(_:Gc t l)(_:l.length+f=t.m),
 Aa prog md 207 #[tnV a1 a2 V c1 c2 c3 t,.slice e l.length O] h (Ar p h fun v p'=>∃a n c,v=.slice a n c/\Rfs p' a n (dvs t f l)):=by
 intro f
 induction f with
 |zero=>
   intro h p hp a1 a2 V c1 c2 c3 T e O l I hl hf;refine xdq hp func207 fun _ _ _ K=>?_;refine xgq rfl fun b2=>?_;refine cq (fun cc=>?_) (fun cc=>?_)
   ·refine ax ?_;refine xbz rfl fun v1 Y1 o1=>?_;have o1:Ac 23 1 v1 [[.slice e l.length O]] Y1:=o1;refine ax ?_;refine xoq o1 (m:=1) rfl d_ fun p2 a4 c4 g2 e2 a9 S2=>?_;subst e2;exact K.r rfl rfl fun _ H=>xwq H g2 ⟨a4,1,c4,rfl,_,S2,(Inn.one I).mono g2.le⟩
   ·exact absurd om cc
 |succ f ih=>
   intro h p hp a1 a2 V c1 c2 c3 T e O l I hl hf;have M:l.length<t.m:=om;have Th:=T.h;have Tw:=T.w;have Ty:Sl p V t.m 2 (Flow.wcs t.wy):=T.y;have w:=v.wok _ M;have hh:=v.h _ w.1.2;have hw:=v.w _ w.2.2;have bd:=hl.bd (t.wy.getD l.length wz).1;have bg:=hl.bd (t.wy.getD l.length wz).2;have b4:=bd.1;have a8:=bg.2;obtain⟨P,hP⟩:∃P,P=10^f:=⟨_,rfl⟩
   have d7:P*10<=1000000000000:=by
    have:=Nat.pow_le_pow_right (show 0<10 by decide) (show f+1<=12 by omega);rw[Nat.pow_succ,<- hP]at this;exact this
   refine xdq hp func207 fun _ _ _ K=>?_;refine xgq rfl fun b2=>?_;refine cq (fun cc=>?_) (fun cc=>?_)
   ·exact absurd cc om
   refine ax ?_;refine xfk rfl (T.y.all M) ?_;refine lq fun b5=>?_;refine ax ?_;refine xqq [] R24 ?_;refine ex ?_;refine xrc rfl rfl rfl om om (Sl.ne Th om) ?_;refine xgj rfl rfl (As.get Th w.1.2) ?_;refine ex ?_;refine xvz rfl rfl rfl (fun _ pe=>O8 pe t T O l I om om hl.sm _) ?_;refine ex ?_;refine xrc rfl rfl rfl om om (Sl.ne Tw om) ?_;refine xgj rfl rfl (As.get Tw w.2.2) ?_;refine ex ?_;refine xvz rfl rfl rfl (fun _ pe=>Qj pe t T O l I om om hl.sm) ?_;refine ex ?_;refine ax ?_;have b8:=hl.E8 v M;rw[show min (t.hs.getD (t.wy.getD l.length wz).1.toNat 0-B3 t l l.length (t.wy.getD l.length wz).1) (t.ws.getD (t.wy.getD l.length wz).2.toNat 0-C1 t l l.length (t.wy.getD l.length wz).2)=Eo t l from rfl];clear hh hw bd bg b4 a8 w;refine xzj 23 1 fun o0=>?_
   refine xmq (fun m_ l_ p_ L_=>∃(j:Nat)(v:Value)(Y:Pcs)(es:List (List Value)),m_=(Eo t l+1).toNat-j/\l_=[(1,none,.slice e l.length O),(2,none,w_ b2 0),(6,none,.J (Eo t l)),(7,none,v),(8,none,.J ((j:Nat):Int))]/\PG h.size [] p p_/\
    L_=[Y,[(b5,.cells #[.J (t.wy.getD l.length wz).1,.J (t.wy.getD l.length wz).2] 94 (0,0))],[(b2,.cells (tnV a1 a2 V c1 c2 c3 t).cells 28 (0,0))]]/\(j:Int)<=Eo t l+1/\Ac 23 1 v es Y/\Inn p_ es (dpre t f l j) []/\es.length<=j*P) ⟨0,_,_,_,rfl,rfl,.refl _ _ _,rfl,om,o0,Inn.nil,Nat.zero_le _⟩ sb ?_
   clear o0;rintro _ _ p1 _ IH ⟨j,v1,Y,es,rfl,rfl,g1,rfl,hj,o,hI,hm⟩;refine cq (fun cd=>?_) (fun cd=>?_)
   ·have d8:j<=9:=om;have b7:(j+1)*P<=10*P:=Nat.mul_le_mul_right _ om;have b6:(j+1)*P=j*P+P:=Nat.succ_mul j P;have hlen:(l++[((j:Nat):Int)]).length=l.length+1:=by simp
    have hN:=hl.next v M (n:=((j:Nat):Int)) om om;have b3:=G0 v hN (f:=f) (by rw[hlen];omega);rw[<- hP]at b3;refine ax ?_;refine xe1 (args6:=[.tmp 54,.tmp 60]) (QC:=fun v Z=>∃a n c,v=.slice a n c/\ ∀p',PLe p1 p'->(∀y∈Z,p' y.1=some y.2)->Rfs p' a n (dvs t f (l++[((j:Nat):Int)]))) 2 [1] [v1,tnV a1 a2 V c1 c2 c3 t,undef,.slice e l.length O,undef,.J ((j:Nat):Int)] (fun u=>[tnV a1 a2 V c1 c2 c3 t,u]) (I.mono g1.le) om rfl rfl s_ (fun val i hi=>?_) (fun val hv=>by show some ([],[val 1,val 7])=_;rw[hv 1 s_];rfl) (fun u Y o2 h L st=>?_) fun val piece hv q=>?_
    ·obtain rfl|rfl|rfl|rfl:i=0\/i=1\/i=3\/i=5:=om
     all_goals
      refine ex ?_;exact xzq ⟨⟨_,rfl⟩,fun v e=>⟨xpq e,rfl⟩⟩
    ·obtain⟨p',⟨g',gl⟩,hy,s'⟩:=st.Fz;obtain⟨a4,c4,e2,I2⟩:=o2.inP hy;subst e2;rw[Go.X.Flow.Ae]at I2⊢;refine(ih h p' s'.per a1 a2 V c1 c2 c3 (Flow.Ao.mono T (g1.le.trans g'.le)) a4 c4 _ I2 hN (by rw[hlen];omega)).mono fun v' h' x=>?_;obtain⟨Z,⟨p2,⟨a5,n5,c5,e5,R5⟩,le⟩,N⟩:=x.pieces;exact⟨Z,⟨a5,n5,c5,e5,fun a6 l y=>R5.mono (le a6 (gl a6 l fun z hz=>y z (List.mem_append_right _ hz)) fun z hz=>y z (List.mem_append_left _ hz))⟩,N⟩
    obtain⟨a5,n5,c5,e5,b0⟩:=q;refine xgb (l':=[(1,none,.slice e l.length O),(2,none,w_ b2 0),(6,none,.J (Eo t l)),(8,none,.J ((j:Nat):Int)),(53,none,v1),(61,none,.slice a5 n5 c5)]) ?_ ⟨rfl,rfl,rfl,rfl,by show some (none,val 0)=_;rw[hv 0 om];rfl,by show some (none,val 8)=_;rw[e5],trivial⟩;refine xfw (piece 8) fun p3 g3 hy=>?_;have hR:=b0 p3 g3.le hy;have d6:=hR.len;obtain⟨d5,S3,a7⟩:=hR;have d0:=S3.len;refine ax ?_;refine xow rfl rfl o S3 a7.Nt om fun v4 Y4 o4=>?_;refine ax ?_;rw[show((j:Nat):Int)+1=((j+1:Nat):Int) from om];exact xhq (IH _ _ _ om ⟨j+1,v4,Y4,_,rfl,rfl,g1.trans g3,rfl,om,o4,by rw[F9];exact(hI.mono g3.le).app a7,by rw[List.length_append];omega⟩)
   have ej:dvs t (f+1) l=dpre t f l j:=by
    rw[dvs,show(Eo t l+1).toNat=j by omega];rfl
   refine ax ?_;refine xoq o (m:=es.length) rfl d_ fun p2 a4 c4 g2 e2 a9 S2=>?_;subst e2;exact K.r rfl rfl fun _ H=>xwq H (g1.trans g2) ⟨a4,_,c4,rfl,by rw[ej];exact⟨es,S2,hI.mono g2.le⟩⟩
theorem Ql{md:Md}(t:Tn)(v:Vd t)(a7:t.m<=12){h:Heap}{p:Ab}(hp:Per p h){a1 a2 a3:Option Addr}(c1 c2 c3:Nat)(T:Ao p a1 t.nH a2 t.nW a3 t.m t):
 Aa prog md 219 #[tnV a1 a2 a3 c1 c2 c3 t] h (Ar p h fun v p'=>∃a c d,v=.slice a t.nH c/\As p' a t.nH (Hy t d t.nH)/\d∈dvs t t.m []):=by
 have h6:=v.nh;refine xdq hp func219 fun _ _ _ K=>?_;refine xgq rfl fun b1=>?_;refine ax ?_;refine xvx rfl rfl (fun h M=>P8 t v a7 t.m h _ M a1 a2 a3 c1 c2 c3 T none 0 [] (Sl.nil _ _ _) (Flow.Gc.nil v) s_) ?_;rintro _ p1 g1 ⟨a4,n4,c4,rfl,R⟩;have R:RfD t p1 a4 n4:=R;have hn:=R.pos v;obtain⟨b0,k0,l0,b7,I0,⟨a9,-⟩,b9,b4⟩:=R.at v hn;have d0:=R.le v a7;have R0:Rfs p1 a4 n4 (dvs t t.m []):=R;obtain⟨d5,S1,-⟩:=R0;have T1:=Flow.Ao.mono T g1.le;refine ax ?_;refine xqq [] R4 ?_;refine ex ?_;refine xgj rfl rfl b7 ?_;refine ex ?_;refine ax ?_;refine xvx rfl rfl (fun h M=>Pw M c1 c2 c3 t T1 v k0 l0 I0 om om b4) ?_;rintro _ p2 O ⟨a5,c5,rfl,V⟩;refine ax ?_
 refine xmq (fun m_ l_ p_ L_=>∃(j:Nat)(a:Option Addr)(c:Nat)(d:List Int),m_=n4-j/\l_=[(1,none,w_ b1 0),(3,none,.slice a4 n4 c4),(4,none,.slice a t.nH c),(5,none,.J ((j:Nat):Int))]/\PG h.size [] p p_/\PLe p1 p_/\
  L_=[[(b1,.cells (tnV a1 a2 a3 c1 c2 c3 t).cells 28 (0,0))]]/\j<=n4/\As p_ a t.nH (Hy t d t.nH)/\d∈dvs t t.m []) ⟨0,_,_,l0,rfl,rfl,g1.trans O,O.le,rfl,Nat.zero_le _,V,a9⟩ sb ?_
 clear V;rintro _ _ p2 _ IH ⟨j,a,c,d,rfl,rfl,O,l2,rfl,hj,V,hd⟩;refine cq (fun cd=>?_) (fun cd=>?_)
 ·have b6:j<n4:=om;have T2:=Flow.Ao.mono T O.le;have S2:=Sl.mono l2 S1;obtain⟨b3,k3,l3,b5,I3,⟨a8,-⟩,d6,b8⟩:=(R.mono l2).at v b6;refine ax ?_;refine xqq [] R5 ?_;refine ex ?_;refine xgj rfl rfl b5 ?_;refine ex ?_;refine ax ?_;refine xvx rfl rfl (fun h M=>Pw M c1 c2 c3 t T2 v k3 l3 I3 om om b8) ?_;rintro _ p3 g3 ⟨a6,c6,rfl,L3⟩;refine ax ?_;refine xrz rfl rfl (fun h M=>Vp M L3 (V.mono g3.le) ⟨om,om⟩) ?_;rintro _ ⟨q,rfl⟩;refine cq (fun ce=>?_) (fun ce=>?_)
  ·refine ax ?_;exact xhq (IH _ _ _ om ⟨j+1,a6,c6,l3,rfl,rfl,O.trans g3,l2.trans g3.le,rfl,om,L3,a8⟩)
  refine ax ?_;exact xhq (IH _ _ _ om ⟨j+1,a,c,d,rfl,rfl,O.trans g3,l2.trans g3.le,rfl,om,V.mono g3.le,hd⟩)
 refine ax ?_;exact K.r rfl rfl fun _ H=>xwq H O ⟨a,c,d,rfl,V,hd⟩
open Go.X.Flow (Cc Wys wz ics Ao Tn Vd tnV B3 C1 dvs RfD RfX Hy Br)
theorem Uy{md:Md}(t:Tn)(v:Vd t)(O:t.m<=12){h:Heap}{p:Ab}(hp:Per p h){a1 V a3:Option Addr}{c1 c2 c3:Nat}(T:Ao p a1 t.nH V t.nW a3 t.m t)(q:Bool):
 Aa prog md 257 #[tnV a1 V a3 c1 c2 c3 t,.bool q] h fun v h'=>v=.J (if q=true then 0 else 1)/\Af h h':=by
 have h6:=v.nh;have h5:=v.nw;refine xdq hp func257 fun _ _ _ K=>?_;refine xgq rfl fun b1=>?_;refine ax ?_;refine xiq rfl rfl (fun _ pe=>c34 pe t T ⟨om,om,om⟩) ?_;rw[Flow.Cj O v];refine cq (fun M=>?_) (fun _=>?_)
 ·exact(M rfl).elim
 refine cq (fun M=>?_) (fun M=>?_)
 ·refine ax ?_;exact K.r rfl rfl fun _ H=>⟨by rw[if_neg M];rfl,H.kept⟩
 refine ax ?_;exact K.r rfl rfl fun _ H=>⟨by rw[if_pos (Classical.not_not.1 M)];rfl,H.kept⟩
theorem Vi{md:Md}(t:Tn)(v:Vd t)(M:t.m<=12){h:Heap}{p:Ab}(hp:Per p h){a1 a2 a3:Option Addr}{V c2 c3:Nat}(T:Ao p a1 t.nH a2 t.nW a3 t.m t):
 Aa prog md 146 #[tnV a1 a2 a3 V c2 c3 t] h (Ar p h fun w p'=>∃a c l,w=.tuple #[.slice a t.nH c,.J 0]/\As p' a t.nH l/\ ∀x∈l,-12000<=x/\x<=9):=by
 have h6:=v.nh;have h5:=v.nw;refine xdq hp func146 fun _ _ _ K=>?_;refine xgq rfl fun b1=>?_;refine ax ?_;refine xiq rfl rfl (fun _ O=>c34 O t T ⟨om,om,om⟩) ?_;rw[Flow.Cj M v];refine cq (fun cc=>?_) (fun _=>?_)
 ·exact(cc rfl).elim
 refine ax ?_;refine xvx rfl rfl (fun h O=>Ql t v M O V c2 c3 T) ?_;rintro _ p1 g1 ⟨a4,c4,d,rfl,L,hd⟩;have ok:=Flow.Lt v (Flow.Gc.nil v) s_ hd;refine ax ?_;exact K.r rfl rfl fun _ H=>xwq H g1 ⟨a4,c4,_,rfl,L,Flow.Lm v ok.1.sm (by rw[ok.2];exact M) (Nat.le_refl _)⟩
theorem Uu{md:Md}(t:Tn)(v:Vd t)(M:t.m<=12){h:Heap}{p:Ab}(hp:Per p h){a1 a2 a3:Option Addr}{c1 c2 c3:Nat}(T:Ao p a1 t.nH a2 t.nW a3 t.m t):
 Aa prog md 140 #[tnV a1 a2 a3 c1 c2 c3 t] h fun w h'=>(∃x e:Int,w=.tuple #[.J x,.J e]/\0<=x/\x<=108)/\Af h h':=by
 have h6:=v.nh;have h5:=v.nw;refine xdq hp func140 fun _ _ _ K=>?_;refine xgq rfl fun b1=>?_;refine ax ?_;refine xiq rfl rfl (fun _ V=>c34 V t T ⟨om,om,om⟩) ?_;rw[Flow.Cj M v];refine cq (fun cc=>?_) (fun _=>?_)
 ·exact(cc rfl).elim
 refine ax ?_;refine xvx rfl rfl (fun h V=>P8 t v M t.m h _ V a1 a2 a3 c1 c2 c3 T none 0 [] (Sl.nil _ _ _) (Flow.Gc.nil v) s_) ?_;rintro _ p1 g1 ⟨a4,O,c4,rfl,R⟩;have R:RfD t p1 a4 O:=R;have b0:=R.le v M;have R0:Rfs p1 a4 O (dvs t t.m []):=R;obtain⟨a9,S1,-⟩:=R0;refine ax ?_;refine xsq (fun m l'=>∃(j:Nat)(x:Int),m=O-j/\l'=[(5,none,.J x),(6,none,.slice a4 O c4),(7,none,.J ((j:Nat):Int))]/\j<=O/\0<=x/\x<=108) ⟨0,0,rfl,rfl,Nat.zero_le _,om,om⟩ sb ?_;rintro _ _ IH ⟨j,x,rfl,rfl,hj,x0,x1⟩;refine cq (fun cd=>?_) (fun cd=>?_)
 ·have a7:j<O:=om;obtain⟨b3,k3,l3,a6,I3,-,a8,a5⟩:=R.at v a7;refine ax ?_;refine xoz rfl a6 ?_;refine ax ?_;refine xrz rfl rfl (fun h V=>R2 V k3 l3 I3 om a5) ?_;rintro _ ⟨y,rfl,y0,y1⟩;refine ax ?_;exact xhq (IH _ om ⟨j+1,max x y,rfl,rfl,om,om,om⟩)
 refine ax ?_;exact K.r rfl rfl fun _ H=>⟨⟨x,0,rfl,x0,x1⟩,H.kept⟩
set_option maxHeartbeats 400000 in
theorem Qq{md:Md}(t:Tn)(v:Vd t)(M:t.m<=12){h:Heap}{p:Ab}(hp:Per p h){a1 a2 a3:Option Addr}(c1 c2 c3:Nat)(T:Ao p a1 t.nH a2 t.nW a3 t.m t)(q:Bool):
 Aa prog md 209 #[tnV a1 a2 a3 c1 c2 c3 t,.bool q] h (Ar p h fun w p'=>∃a n c,w=.tuple #[.slice a n c,.J (if q=true then 0 else 1)]/\n<=1000000000000/\(q=true->0<n/\RfX t p' a n)):=by
 have h6:=v.nh;refine xdq hp func209 fun _ _ _ K=>?_;refine xgq rfl fun b2=>?_;refine ax ?_;refine xiq rfl rfl (fun _ O=>Uy t v M O T q) ?_;cases q with
 |false=>
   refine cq (fun cc=>?_) (fun cc=>?_)
   ·refine ax ?_;exact K.r rfl rfl fun _ H=>xwq H (.refl _ _ _) ⟨none,0,0,rfl,Nat.zero_le _,fun z=>by simp at z⟩
   ·exact(cc d_).elim
 |true=>
 refine cq (fun cc=>?_) (fun _=>?_)
 ·exact(cc rfl).elim
 refine ax ?_;refine xvx rfl rfl (fun h O=>Ql t v M O c1 c2 c3 T) ?_;rintro _ p1 g1 ⟨a4,c4,d,rfl,L,hd⟩;refine ax ?_;refine xvx rfl rfl (fun h O=>P8 t v M t.m h _ O a1 a2 a3 c1 c2 c3 (Flow.Ao.mono T g1.le) none 0 [] (Sl.nil _ _ _) (Flow.Gc.nil v) s_) ?_;rintro _ p2 g2 ⟨a5,n5,c5,rfl,R⟩;have R:RfD t p2 a5 n5:=R;have d5:=R.le v M;have R0:Rfs p2 a5 n5 (dvs t t.m []):=R;have d9:=R0.len;obtain⟨d8,S1,-⟩:=R0;have L1:=L.mono g2.le;refine ax ?_;refine xzj 23 1 fun o0=>?_
 refine xmq (fun m_ l_ p_ L_=>∃(j:Nat)(v:Value)(Y:Pcs)(es:List (List Value))(xss:List (List Int)),m_=n5-j/\l_=[(2,none,w_ b2 0),(7,none,.slice a4 t.nH c4),(8,none,.slice a5 n5 c5),(9,none,v),(10,none,.J ((j:Nat):Int))]/\PG h.size [] p p_/\PLe p2 p_/\
  L_=[Y,[(b2,.cells (tnV a1 a2 a3 c1 c2 c3 t).cells 28 (0,0))]]/\j<=n5/\Ac 23 1 v es Y/\Inn p_ es xss []/\(∀l∈xss,l.length=t.m/\ ∀i,i<l.length->0<=l.getD i 0/\l.getD i 0<=9)/\es.length<=j/\ ∀i,i<j->Hy t ((dvs t t.m []).getD i []) t.nH=Hy t d t.nH->0<es.length) ⟨0,_,_,_,[],rfl,rfl,g1.trans g2,.refl _,rfl,Nat.zero_le _,o0,Inn.nil,fun x hx=>by simp at hx,Nat.zero_le _,fun i hi=>om⟩ sb ?_
 clear o0;rintro _ _ p3 _ IH ⟨j,v1,Y,es,xss,rfl,rfl,g3,l3,rfl,hj,o,hI,hH,hn,hk⟩;refine cq (fun cd=>?_) (fun cd=>?_)
 ·have a9:j<n5:=om;have T3:=Flow.Ao.mono T g3.le;have S2:=Sl.mono l3 S1;obtain⟨b6,k6,l6,b9,I6,⟨e0,b5⟩,d6,b7⟩:=(R.mono l3).at v a9;refine ax ?_;refine xqq [5] [0,1,2,3,4,6,5] ?_;refine ex ?_;refine xgj rfl rfl b9 ?_;refine ex ?_
  refine xuk (first:=[]) (cap:=[]) (vs:=[tnV a1 a2 a3 c1 c2 c3 t,.slice b6 l6.length k6]) (Q:=fun w Y=>∃a c,w=.slice a t.nH c/\ ∀p',PLe p3 p'->(∀y∈Y,p' y.1=some y.2)->As p' a t.nH (Hy t l6 t.nH)) rfl rfl rfl
   (fun h O=>(Pw O c1 c2 c3 t T3 v k6 l6 I6 om om b7).mono fun w h' x=>by
    obtain⟨Z,⟨p4,⟨a7,c7,e,I⟩,le⟩,N⟩:=x.pieces;exact⟨Z,⟨a7,c7,e,fun p' l y=>I.mono (le p' l y)⟩,N⟩) fun w1 Z q=>?_
  obtain⟨a7,c7,rfl,b4⟩:=q;refine ex ?_;refine xfw Z fun p4 V hy=>?_;have L4:=b4 p4 V.le hy;have l4:=l3.trans V.le;refine ax ?_;refine xiq rfl rfl (fun _ O=>c13 _ _ _ O _ _ _ _ _ _ _ _ L4 (L1.mono l4) ⟨om,om⟩) ?_;refine cq (fun ce=>?_) (fun ce=>?_)
  ·have S4:=Sl.mono l4 S1;obtain⟨b8,k8,l8,d0,I8,-,b0,b3⟩:=(R.mono l4).at v a9;refine ax ?_;refine xoz rfl d0 ?_;refine xbz rfl fun v2 Y2 o2=>?_;have o2:Ac 23 1 v2 [[.slice b8 l8.length k8]] Y2:=o2;refine ax ?_;refine xfv rfl rfl o o2 (by simp[A7]) (by simp;omega) fun v5 Y5 o5=>?_;refine ax ?_;exact xhq (IH _ _ _ om ⟨j+1,v5,Y5,_,xss++[l8],rfl,rfl,g3.trans V,l4,rfl,om,o5,(hI.mono V.le).app (Inn.one I8),fun x hx=>(List.mem_append.1 hx).elim (hH x) fun z=>by rw[List.mem_singleton.1 z];exact⟨b0,b3⟩,by simp;omega,fun _ _ _=>by simp⟩)
  refine ax ?_;exact xhq (IH _ _ _ om ⟨j+1,v1,Y,es,xss,rfl,rfl,g3.trans V,l4,rfl,om,o,hI.mono V.le,hH,om,fun i hi z=>by
   rcases Nat.lt_or_ge i j with y|y
   ·exact hk i y z
   ·obtain rfl:i=j:=om;rw[<- b5]at z;exact absurd z ce⟩)
 have a6:0<es.length:=by
  obtain⟨i,hi,e⟩:=List.mem_iff_getElem.1 hd;exact hk i om (by rw[Flow.Bn hi,e])
 refine ax ?_;refine xoq o (m:=es.length) rfl d_ fun p5 a8 c8 g5 e5 d7 S5=>?_;subst e5;exact K.r rfl rfl fun _ H=>xwq H (g3.trans g5) ⟨a8,_,c8,rfl,om,fun _=>⟨a6,xss,⟨es,S5,hI.mono g5.le⟩,hH⟩⟩
open Go.X.Flow (Cc Wys wz ics Ao Tn Vd tnV B3 C1 RfX Br)
theorem Tl{md:Md}(t:Tn)(v:Vd t)(b5:t.m<=12){h:Heap}{p:Ab}(hp:Per p h){a1 a2 a3:Option Addr}{c1 c2 c3:Nat}(T:Ao p a1 t.nH a2 t.nW a3 t.m t)(x:Int):
 Aa prog md 148 #[tnV a1 a2 a3 c1 c2 c3 t,.J x] h fun w h'=>(∃y z e:Int,w=.tuple #[.agg #[.J y,.J z],.J e]/\(0<=y/\y<=12000)/\0<=z/\z<=12000)/\Af h h':=by
 have h6:=v.nh;refine xdq hp func148 fun _ _ _ K=>?_;refine xgq rfl fun b2=>?_;refine lq fun b4=>?_;refine ax ?_;refine xqq [4] R9 ?_;refine ex ?_;refine xvz rfl rfl rfl (fun _ M=>Pp M t om) ?_;generalize hq:decide (0<=x/\x<=(t.nH:Int)-1)=q;refine ex ?_
 refine xuk (first:=[]) (cap:=[]) (vs:=[tnV a1 a2 a3 c1 c2 c3 t,.bool q]) (Q:=fun w Y=>∃a n c,w=.tuple #[.slice a n c,.J (if q=true then 0 else 1)]/\n<=1000000000000/\(q=true->0<n/\ ∀p',PLe p p'->(∀y∈Y,p' y.1=some y.2)->RfX t p' a n)) rfl rfl rfl
  (fun h M=>(Qq t v b5 M c1 c2 c3 T q).mono fun w h' x=>by
   obtain⟨Z,⟨p4,⟨a7,n7,c7,e,hn,R⟩,le⟩,N⟩:=x.pieces;exact⟨Z,⟨a7,n7,c7,e,hn,fun z=>⟨(R z).1,fun p' l y=>(R z).2.mono (le p' l y)⟩⟩,N⟩) fun w1 Z q1=>?_
 obtain⟨a4,n4,c4,rfl,d7,hR⟩:=q1;refine ex ?_;refine xfw Z fun p1 g1 hy=>?_;clear hq;cases q with
 |false=>
   refine cq (fun cc=>?_) (fun cc=>?_)
   ·refine ax ?_;exact K.e rfl (xtq rfl (.tmp rfl .nil)) fun _ H=>⟨⟨0,0,_,rfl,⟨d_,d_⟩,d_,d_⟩,H.kept⟩
   ·exact(cc d_).elim
 |true=>
 obtain⟨V,hR⟩:=hR rfl;have R:=hR p1 g1.le hy;have T1:=Flow.Ao.mono T g1.le;obtain⟨b0,k0,l0,b7,I0,a9,a6⟩:=R.at V;have R0:=R;obtain⟨xss,⟨d8,S1,-⟩,-⟩:=R0;have bd:∀l:List Int,l.length=t.m->(∀i,i<l.length->0<=l.getD i 0/\l.getD i 0<=9)->0<=B3 t l l.length x/\B3 t l l.length x<=12000:=fun l hm hd=>by
  have:0<=B3 t l l.length x/\B3 t l l.length x<=1000*l.length:=Br fun i hi=>by have:=hd i hi;unfold Flow.dv;omega
  omega
 have d0:=bd l0 a9 a6;refine cq (fun cc=>?_) (fun _=>?_)
 ·exact(cc rfl).elim
 refine ax ?_;refine xqq [] R5 ?_;refine ex ?_;refine xgj rfl rfl b7 ?_;refine ex ?_;refine ax ?_;refine xiq rfl rfl (fun _ M=>O8 M t T1 k0 l0 I0 om om a6 x) ?_;refine lq fun b9=>?_;refine ax ?_
 refine xmq (fun m_ l_ p_ L_=>∃(j:Nat)(y z:Int),m_=n4-j/\l_=[(1,none,.J x),(2,none,w_ b2 0),(4,none,w_ b4 0),(6,none,.slice a4 n4 c4),(9,none,w_ b9 0),(10,none,.J ((j:Nat):Int))]/\p_=p1/\
  L_=[[(b9,.cells #[.J y,.J z] 96 (0,0))],[(b4,.cells #[.J 0,.J 0] 96 (0,0))],[(b2,.cells (tnV a1 a2 a3 c1 c2 c3 t).cells 28 (0,0))]]/\j<=n4/\(0<=y/\y<=12000)/\0<=z/\z<=12000) ⟨0,_,_,rfl,rfl,rfl,rfl,Nat.zero_le _,d0,d0⟩ sb ?_
 rintro _ _ p1 _ IH ⟨j,y,z,rfl,rfl,rfl,rfl,hj,b8,d6⟩;refine cq (fun cd=>?_) (fun cd=>?_)
 ·have b6:j<n4:=om;obtain⟨b3,k3,O,d5,I3,a8,a5⟩:=R.at b6;have d3:=bd O a8 a5;refine ax ?_;refine xqq [] R6 ?_;refine ex ?_;refine xgj rfl rfl d5 ?_;refine ex ?_;refine ax ?_;refine xiq rfl rfl (fun _ M=>O8 M t T1 k3 O I3 om om a5 x) ?_;refine ax ?_;exact xhq (IH _ _ _ om ⟨j+1,min y (B3 t O O.length x),max z (B3 t O O.length x),rfl,rfl,rfl,rfl,om,om,om⟩)
 refine ax ?_;exact K.e rfl (xtq rfl (.tmp rfl .nil)) fun _ H=>⟨⟨y,z,0,rfl,b8,d6⟩,H.kept⟩
theorem V3{md:Md}(t:Tn)(v:Vd t)(a6:t.m<=12){h:Heap}{p:Ab}(hp:Per p h){a1 a2 a3:Option Addr}{c1 c2 c3:Nat}(T:Ao p a1 t.nH a2 t.nW a3 t.m t)(x:Int):
 Aa prog md 141 #[tnV a1 a2 a3 c1 c2 c3 t,.J x] h fun w h'=>(∃y e:Int,w=.tuple #[.J y,.J e]/\0<=y/\y<=3)/\Af h h':=by
 have h5:=v.nw;refine xdq hp func141 fun _ _ _ K=>?_;refine xgq rfl fun b2=>?_;refine ax ?_;refine xqq [4] R9 ?_;refine ex ?_;refine xvz rfl rfl rfl (fun _ M=>Pv M t om) ?_;generalize hq:decide (0<=x/\x<=(t.nW:Int)-1)=q;refine ex ?_
 refine xuk (first:=[]) (cap:=[]) (vs:=[tnV a1 a2 a3 c1 c2 c3 t,.bool q]) (Q:=fun w Y=>∃a n c,w=.tuple #[.slice a n c,.J (if q=true then 0 else 1)]/\n<=1000000000000/\(q=true->0<n/\ ∀p',PLe p p'->(∀y∈Y,p' y.1=some y.2)->RfX t p' a n)) rfl rfl rfl
  (fun h M=>(Qq t v a6 M c1 c2 c3 T q).mono fun w h' x=>by
   obtain⟨Z,⟨p4,⟨a7,n7,c7,e,hn,R⟩,le⟩,N⟩:=x.pieces;exact⟨Z,⟨a7,n7,c7,e,hn,fun z=>⟨(R z).1,fun p' l y=>(R z).2.mono (le p' l y)⟩⟩,N⟩) fun w1 Z q1=>?_
 obtain⟨a4,V,c4,rfl,b6,hR⟩:=q1;refine ex ?_;refine xfw Z fun p1 g1 hy=>?_;cases q with
 |false=>
   refine cq (fun O=>?_) (fun O=>?_)
   ·refine ax ?_;exact K.r rfl rfl fun _ H=>⟨⟨0,_,rfl,d_,d_⟩,H.kept⟩
   ·exact(O d_).elim
 |true=>
 have hx:=of_decide_eq_true hq;obtain⟨i,rfl⟩:∃i:Nat,x=i:=⟨x.toNat,om⟩
 have hi:i<t.nW:=om;obtain⟨b0,hR⟩:=hR rfl;have R:=hR p1 g1.le hy;have T1:=Flow.Ao.mono T g1.le;have Tw:=T1.w;have R0:=R;obtain⟨xss,⟨b4,S1,-⟩,-⟩:=R0;refine cq (fun O=>?_) (fun _=>?_)
 ·exact(O rfl).elim
 refine ax ?_;refine xsq (fun m l'=>∃(j n:Nat),m=V-j/\l'=[(1,none,.J ((i:Nat):Int)),(2,none,w_ b2 0),(6,none,.slice a4 V c4),(8,none,.J ((n:Nat):Int)),(9,none,.J ((j:Nat):Int))]/\j<=V/\n<=j) ⟨0,0,rfl,rfl,Nat.zero_le _,Nat.le_refl _⟩ sb ?_;rintro _ _ IH ⟨j,n,rfl,rfl,hj,hn⟩;refine cq (fun cd=>?_) (fun cd=>?_)
 ·have a8:j<V:=om;obtain⟨b3,k3,l3,a5,I3,b5,a9⟩:=R.at a8;refine ax ?_;refine xqq [] R12 ?_;refine ex ?_;refine xgj rfl rfl a5 ?_;refine ex ?_;refine xvz rfl rfl rfl (fun _ M=>Qj M t T1 k3 l3 I3 om om a9) ?_;refine ex ?_;refine cq (fun ce=>?_) (fun ce=>?_)
  ·refine ax ?_;exact xhq (IH _ om ⟨j+1,n+1,rfl,rfl,om,om⟩)
  refine ax ?_;exact xhq (IH _ om ⟨j+1,n,rfl,rfl,om,om⟩)
 refine ax ?_;refine xrz rfl rfl (fun h M=>Wq M) ?_;rintro _ ⟨y,rfl,y0,y1⟩;refine ax ?_;exact K.r rfl rfl fun _ H=>⟨⟨y,0,rfl,y0,y1⟩,H.kept⟩
theorem Vg{md:Md}(t:Tn)(v:Vd t){h:Heap}{p:Ab}(hp:Per p h){a1 V a3:Option Addr}(c1 c2 c3:Nat)(T:Ao p a1 t.nH V t.nW a3 t.m t){e:Option Addr}(c:Nat)(l:List Int)(I:As p e l.length l)(h6:l.length<=6)(hl:∀i,i<l.length->0<=l.getD i 0/\l.getD i 0<t.nH):
 Aa prog md 221 #[tnV a1 V a3 c1 c2 c3 t,.slice e l.length c] h fun w h'=>(∃x:Int,w=.J x/\0<=x/\x<=54)/\Af h h':=by
 have O:=T.h;refine xdq hp func221 fun _ _ _ K=>?_;refine xgq rfl fun b2=>?_;refine ax ?_;refine xsq (fun m l'=>∃(j:Nat)(x:Int),m=l.length-j/\l'=[(1,none,.slice e l.length c),(2,none,w_ b2 0),(5,none,.J x),(6,none,.J ((j:Nat):Int))]/\j<=l.length/\0<=x/\x<=9*j) ⟨0,0,rfl,rfl,Nat.zero_le _,om,om⟩ sb ?_;rintro _ _ IH ⟨j,x,rfl,rfl,hj,x0,x1⟩;refine cq (fun cd=>?_) (fun cd=>?_)
 ·have M:j<l.length:=om;have hx:=hl j M;have hw:=v.h (l.getD j 0).toNat om;refine ax ?_;refine xqq [] R9 ?_;refine ex ?_;refine xrc rfl rfl rfl hx.1 hx.2 (Sl.ne O om) ?_;refine xgj rfl rfl (As.get O om) ?_;refine ex ?_;refine ax ?_;exact xhq (IH _ om ⟨j+1,x+t.hs.getD (l.getD j 0).toNat 0,rfl,rfl,om,om,om⟩)
 refine ax ?_;exact K.r rfl rfl fun _ H=>⟨⟨x,rfl,x0,om⟩,H.kept⟩
theorem Sn{a b a' H:Int}:∀h(K:Bool->Heap->Prop),K (decide (a=a'/\b=H)) h->wpS prog (Op.equalIn (9999+1) 94 (.agg #[.J a,.J b]) (.agg #[.J a',.J H])) h K:=fun h K k=>
 xxj underlying94 k_ (yks underlying3 underlying3 rfl rfl d_ d_ k_ k_) k
theorem Uz{md:Md}(t:Tn)(a4:t.m<=2^20){h:Heap}{p:Ab}(hp:Per p h){a1 V O:Option Addr}{c1 c2 c3:Nat}(T:Ao p a1 t.nH V t.nW O t.m t)(x y:Int):
 Aa prog md 154 #[tnV a1 V O c1 c2 c3 t,.agg #[.J x,.J y]] h fun w h'=>Hf w/\Af h h':=by
 have Ty:Sl p O t.m 2 (Flow.wcs t.wy):=T.y;refine xdq hp func154 fun _ _ _ K=>?_;refine xgq rfl fun b2=>?_;refine bq fun b3=>?_;refine ax ?_;refine xsq (fun m l'=>∃(j:Nat),m=t.m-j/\l'=[(2,none,w_ b2 0),(3,none,w_ b3 0),(5,none,.J ((j:Nat):Int))]/\j<=t.m) ⟨0,rfl,rfl,Nat.zero_le _⟩ sb ?_;rintro _ _ IH ⟨j,rfl,rfl,hj⟩;refine cq (fun cd=>?_) (fun cd=>?_)
 ·have M:j<t.m:=om;refine ax ?_;refine xqq [] R6 ?_;refine ex ?_;refine xbw rfl rfl (T.y.all M) ?_;refine ex ?_;refine yzm rfl rfl (Sn) ?_;refine cq (fun ce=>?_) (fun ce=>?_)
  ·refine ax ?_;exact K.r rfl rfl fun _ H=>⟨⟨_,rfl⟩,H.kept⟩
  refine ax ?_;exact xhq (IH _ om ⟨j+1,rfl,rfl,om⟩)
 refine ax ?_;exact K.r rfl rfl fun _ H=>⟨⟨_,rfl⟩,H.kept⟩
open Go.X.Flow (Cc Wys wz ics Ao Tn Vd tnV HsL RfH)
set_option maxHeartbeats 400000 in
theorem To{md:Md}(m b:Nat)(hm:m<=6)(hb:b<=6):∀(f:Nat)(h:Heap)(p:Ab)(_:Per p h)(e:Option Addr)(V:Nat)(l:List Int)(_:As p e l.length l)(_:HsL b l)(_:l.length+f=m),
 Aa prog md 220 #[.slice e l.length V,.J ((m:Nat):Int),.J ((b:Nat):Int)] h (Ar p h fun v p'=>∃a n c,v=.slice a n c/\n<=6^f/\RfH m b p' a n):=by
 intro f
 induction f with
 |zero=>
   intro h p hp e V l I hl hf;refine xdq hp func220 fun _ _ _ K=>?_;refine cq (fun cc=>?_) (fun cc=>?_)
   ·refine ax ?_;refine xbz rfl fun v1 Y1 o1=>?_;have o1:Ac 23 1 v1 [[.slice e l.length V]] Y1:=o1;refine ax ?_;refine xoq o1 (m:=1) rfl d_ fun p2 a4 c4 M e2 a5 S2=>?_;subst e2;exact K.r rfl rfl fun _ H=>xwq H M ⟨a4,1,c4,rfl,d_,[l],⟨_,S2,(Inn.one I).mono M.le⟩,fun x O=>by rw[List.mem_singleton.1 O];exact⟨om,hl⟩⟩
   ·exact absurd om cc
 |succ f ih=>
   intro h p hp e V l I hl hf;obtain⟨P,hP⟩:∃P,P=6^f:=⟨_,rfl⟩
   have c2:P*6<=46656:=by
    have:=Nat.pow_le_pow_right (show 0<6 by decide) (show f+1<=6 by omega);rw[Nat.pow_succ,<- hP]at this;exact this
   refine xdq hp func220 fun _ _ _ K=>?_;refine cq (fun cc=>?_) (fun cc=>?_)
   ·exact absurd cc om
   refine ax ?_;refine xiz (fun l' p_ L_=>∃fr:Nat,fr<=b/\l'=[(0,none,.slice e l.length V),(1,none,.J ((m:Nat):Int)),(2,none,.J ((b:Nat):Int)),(7,none,.J ((fr:Nat):Int))]/\p_=p/\L_=[]) ?_ fun k' nx=>?_;rotate_left
   ·refine xlq rfl (fun cd=>?_) (fun cd=>?_)
    ·have a2:0<l.length:=om;have O:=hl (l.length-1) om;have e1:l.getD (((l.length:Nat):Int)-1).toNat 0+1=(((l.getD (l.length-1) 0+1).toNat:Nat):Int):=by
      rw[show(((l.length:Nat):Int)-1).toNat=l.length-1 from om];omega
     have b9:0<=l.getD (((l.length:Nat):Int)-1).toNat 0/\l.getD (((l.length:Nat):Int)-1).toNat 0<b:=by
      rw[show(((l.length:Nat):Int)-1).toNat=l.length-1 from om];exact O
     refine ax ?_;refine xgl rfl rfl om om (Sl.ne I a2) ?_;refine xoz rfl (As.get I om) ?_;refine ax ?_;rw[e1];exact xox (nx _ _ _ ⟨(l.getD (l.length-1) 0+1).toNat,om,rfl,rfl,rfl⟩) sb
    ·refine ax ?_;exact xox (nx _ _ _ ⟨0,Nat.zero_le _,rfl,rfl,rfl⟩) sb
   rintro _ p _ ⟨fr,a8,rfl,rfl,rfl⟩;refine ax ?_;refine xzj 23 1 fun o0=>?_
   refine xmq (fun m_ l_ p_ L_=>∃(j:Nat)(v:Value)(Y:Pcs)(es:List (List Value))(xss:List (List Int)),m_=b-j/\l_=[(0,none,.slice e l.length V),(1,none,.J ((m:Nat):Int)),(2,none,.J ((b:Nat):Int)),(8,none,v),(9,none,.J ((j:Nat):Int))]/\PG h.size [] p p_/\
    L_=[Y]/\j<=b/\Ac 23 1 v es Y/\Inn p_ es xss []/\(∀l∈xss,l.length=m/\HsL b l)/\es.length<=j*P) ⟨fr,_,_,_,[],rfl,rfl,.refl _ _ _,rfl,a8,o0,Inn.nil,fun x O=>by simp at O,Nat.zero_le _⟩ sb ?_
   clear o0;rintro _ _ p1 _ IH ⟨j,v1,Y,es,xss,rfl,rfl,g1,rfl,hj,o,hI,hH,hn⟩;refine cq (fun cd=>?_) (fun cd=>?_)
   ·have c3:j<b:=om;have b5:(j+1)*P<=6*P:=Nat.mul_le_mul_right _ om;have b4:(j+1)*P=j*P+P:=Nat.succ_mul j P;have hlen:(l++[((j:Nat):Int)]).length=l.length+1:=by simp
    refine ax ?_;refine xbz rfl fun v2 Y2 o2=>?_;have o2:Ac 3 1 v2 [] Y2:=o2;refine ax ?_;refine xow rfl rfl o2 (I.mono g1.le) (xdv _) (by simp;omega) fun v3 Y3 o3=>?_;refine ax ?_;refine xbz rfl fun v4 Y4 o4=>?_;have o4:Ac 3 1 v4 (ics [((j:Nat):Int)]) Y4:=o4;refine xfv rfl rfl o3 o4 (xdv _) (by simp[ics];omega) fun v5 Y5 o5=>?_;have o5:Ac 3 1 v5 (ics (l++[((j:Nat):Int)])) Y5:=o5.as (by simp[ics]);refine ax ?_;refine xpx o5 (m:=(l++[((j:Nat):Int)]).length) (by simp[ics]) d_ fun p2 a6 c6 M e6 b8 S6=>?_;subst e6;refine xvx rfl rfl (fun h pe=>ih h _ pe a6 c6 _ S6 (hl.snoc ⟨om,om⟩) (by rw[hlen];omega)) ?_;rintro _ p3 g3 ⟨a7,n7,c7,rfl,b0,b3,⟨b7,S7,a3⟩,a9⟩;have c1:=S7.len;rw[<- hP]at b0;refine xow rfl rfl o S7 a3.Nt om fun v8 Y8 o8=>?_;refine ax ?_;exact xhq (IH _ _ _ om ⟨j+1,v8,Y8,_,xss++b3,rfl,rfl,(g1.trans M).trans g3,rfl,om,o8,(hI.mono (M.trans g3).le).app a3,fun x O=>(List.mem_append.1 O).elim (hH x) (a9 x),by rw[List.length_append];omega⟩)
   have b6:j*P<=6*P:=Nat.mul_le_mul_right _ om;refine ax ?_;refine xoq o (m:=es.length) rfl d_ fun p2 a4 c4 M e2 a5 S2=>?_;subst e2;exact K.r rfl rfl fun _ H=>xwq H (g1.trans M) ⟨a4,_,c4,rfl,by rw[Nat.pow_succ,<- hP];omega,xss,⟨es,S2,hI.mono M.le⟩,hH⟩
theorem Tj{md:Md}(t:Tn)(v:Vd t)(a5:t.m<=12){h:Heap}{p:Ab}(hp:Per p h){a1 a2 O:Option Addr}(c1 c2 c3:Nat)(T:Ao p a1 t.nH a2 t.nW O t.m t){e:Option Addr}(c:Nat)(l:List Int)(I:As p e l.length l)(h6:l.length<=6):
 Aa prog md 222 #[tnV a1 a2 O c1 c2 c3 t,.slice e l.length c] h fun w h'=>(∃x:Int,w=.J x/\0<=x/\x<=100)/\Af h h':=by
 have Tw:=T.w;have h5:=v.nw;have Ty:Sl p O t.m 2 (Flow.wcs t.wy):=T.y;refine xdq hp func222 fun _ _ _ K=>?_;refine xgq rfl fun b2=>?_;refine ax ?_;refine xsq (fun m l'=>∃(j:Nat)(x:Int),m=t.nW-j/\l'=[(1,none,.slice e l.length c),(2,none,w_ b2 0),(5,none,.J x),(6,none,.J ((j:Nat):Int))]/\j<=t.nW/\0<=x/\x<=20*j) ⟨0,0,rfl,rfl,Nat.zero_le _,om,om⟩ sb ?_;rintro _ _ IH ⟨j,x,rfl,rfl,hj,x0,x1⟩;refine cq (fun cd=>?_) (fun cd=>?_)
 ·have V:j<t.nW:=om;have hw:=v.w j V;refine ax ?_;refine xsq (fun m l'=>∃(i:Nat)(q:Bool),m=t.m-i/\l'=[(1,none,.slice e l.length c),(2,none,w_ b2 0),(5,none,.J x),(6,none,.J ((j:Nat):Int)),(7,none,.bool q),(8,none,.J ((i:Nat):Int))]/\i<=t.m) ⟨0,false,rfl,rfl,Nat.zero_le _⟩ sb ?_;rintro _ _ a4 ⟨i,q,rfl,rfl,hi⟩;refine cq (fun ce=>?_) (fun ce=>?_)
  ·have M:i<t.m:=om;refine ax ?_;refine xhb (u:=.J (t.wy.getD i wz).2) rfl rfl sdu (fun _=>T.y.we M) ?_;refine ax ?_;refine xhb (u:=.J (t.wy.getD i wz).1) rfl rfl sdu (fun _=>T.y.ho M) ?_;refine ax ?_;refine xxs (Q:=fun _=>True) rfl rfl rfl sdu (fun h pe=>(Qv pe _ c l I om).mono fun _ _⟨⟨q,e⟩,k⟩=>⟨⟨q,e,trivial⟩,k⟩) fun q2 _=>?_;refine ax ?_;exact xhq (a4 _ om ⟨i+1,_,rfl,rfl,om⟩)
  refine cq (fun cf=>?_) (fun cf=>?_)
  ·refine ax ?_;exact xhq (IH _ om ⟨j+1,x+t.ws.getD j 0,rfl,rfl,om,om,om⟩)
  refine ax ?_;exact xhq (IH _ om ⟨j+1,x,rfl,rfl,om,om,om⟩)
 refine ax ?_;exact K.r rfl rfl fun _ H=>⟨⟨x,rfl,x0,om⟩,H.kept⟩
theorem Rv{md:Md}(t:Tn)(v:Vd t)(a6:t.m<=12){h:Heap}{p:Ab}(hp:Per p h){a1 a2 a3:Option Addr}{c1 c2 c3:Nat}(T:Ao p a1 t.nH a2 t.nW a3 t.m t):
 Aa prog md 147 #[tnV a1 a2 a3 c1 c2 c3 t] h (Ar p h fun w p'=>∃a c e l,w=.tuple #[.slice a l.length c,.J e]/\As p' a l.length l/\l.length<=6/\HsL t.nH l):=by
 have h6:=v.nh;have h5:=v.nw;refine xdq hp func147 fun _ _ _ K=>?_;refine xgq rfl fun b1=>?_;refine ax ?_;refine xiq rfl rfl (fun _ O=>c34 O t T ⟨om,om,om⟩) ?_;rw[Flow.Cj a6 v];refine cq (fun cc=>?_) (fun _=>?_)
 ·exact(cc rfl).elim
 refine ax ?_
 refine xmq (fun m_ l_ p_ L_=>∃(j:Nat),m_=t.nH-j/\l_=[(1,none,w_ b1 0),(5,none,.J ((j+1:Nat):Int))]/\PG h.size [] p p_/\
  L_=[[(b1,.cells (tnV a1 a2 a3 c1 c2 c3 t).cells 28 (0,0))]]/\j<=t.nH) ⟨0,rfl,rfl,.refl _ _ _,rfl,Nat.zero_le _⟩ sb ?_
 rintro _ _ p1 _ IH ⟨j,rfl,rfl,g1,rfl,hj⟩;refine cq (fun cd=>?_) (fun cd=>?_)
 ·have b6:j<t.nH:=om;refine ax ?_;refine xvx rfl rfl (fun h O=>To (j+1) t.nH om h6 (j+1) h _ O none 0 [] (Sl.nil _ _ _) (fun i hi=>by simp at hi) s_) ?_;rintro _ p2 g2 ⟨a4,V,c4,rfl,a9,R⟩;have T2:=Flow.Ao.mono T (g1.trans g2).le;have R0:=R;obtain⟨xss,⟨b4,S1,-⟩,-⟩:=R0;have b5:V<=46656:=Nat.le_trans a9 (Nat.pow_le_pow_right (n:=6) d_ (show j+1<=6 by omega));refine ax ?_;refine xsq (fun m l'=>∃(i:Nat),m=V-i/\l'=[(1,none,w_ b1 0),(5,none,.J ((j+1:Nat):Int)),(6,none,.slice a4 V c4),(7,none,.J ((i:Nat):Int))]/\i<=V) ⟨0,rfl,rfl,Nat.zero_le _⟩ sb ?_;rintro _ _ a8 ⟨i,rfl,rfl,hi⟩;refine cq (fun ce=>?_) (fun ce=>?_)
  ·have a7:i<V:=om;obtain⟨b3,k3,l3,M,I3,b0,a5⟩:=R.at a7;refine ax ?_;refine xqq [5] [0,1,2,3,4,6,7,8,9,10,5] ?_;refine ex ?_;refine xgj rfl rfl M ?_;refine ex ?_;refine xgj rfl rfl M ?_;refine ex ?_;refine xkm rfl rfl rfl (fun h O=>Vg t v O c1 c2 c3 T2 k3 l3 I3 om a5) ?_;rintro _ ⟨x,rfl,x0,x1⟩;refine ex ?_;refine ax ?_;refine xrz rfl rfl (fun h O=>Tj t v a6 O c1 c2 c3 T2 k3 l3 I3 om) ?_;rintro _ ⟨y,rfl,y0,y1⟩;refine cq (fun cf=>?_) (fun cf=>?_)
   ·refine ax ?_;refine xoz rfl M ?_;refine ax ?_;exact K.r rfl rfl fun _ H=>xwq H (g1.trans g2) ⟨b3,k3,0,l3,rfl,I3,om,a5⟩
   refine ax ?_;exact xhq (a8 _ om ⟨i+1,rfl,rfl,om⟩)
  refine ax ?_;rw[show((j+1:Nat):Int)+1=((j+1+1:Nat):Int) from om];exact xhq (IH _ _ _ om ⟨j+1,rfl,rfl,g1.trans g2,rfl,om⟩)
 refine ax ?_;exact K.r rfl rfl fun _ H=>xwq H g1 ⟨none,0,3,[],rfl,Sl.nil _ _ _,d_,fun i hi=>by simp at hi⟩
section
variable{h:Heap}{md:Md}{ca cb:Nat}{a b:Option Addr}{p:Ab}
set_option maxHeartbeats 800000 in
theorem Uc(s:Shf)(hk:s.ok):∀(f:Nat)(h:Heap)(p:Ab)(_:Per p h)(a b:Option Addr)(ca cb:Nat)(_:Ck p a b s)(e:Option Addr)(c:Nat)(l:List Int)(_:As p e l.length l)(_:stp s l)(fr:Nat)
 (_:l=[]->fr=1) (_:0<l.length->l.getD (l.length-1) 0+1=(fr:Nat)) (_:fr+f=s.Ag.length+1) (_:l.length<fr),
 Aa prog md 253 #[shV a b ca cb s,.slice e l.length c] h (Ar p h fun v p'=>∃a n c,v=.slice a n c/\n<=2^f/\RfS s p' a n):=by
 intro f
 induction f using Nat.strongRecOn with
 |ind f ih=>
 intro h p hp a b ca cb S e c l I hl fr h0 h1 hf hm;have b5:=hk.2.2.1;refine xdq hp func253 fun _ _ _ K=>?_;refine xgq rfl fun b2=>?_;refine ax ?_;refine xbz rfl fun v1 Y1 o1=>?_;have o1:Ac 23 1 v1 [[.slice e l.length c]] Y1:=o1;refine ax ?_;refine xiz (fun l' p_ L_=>l'=[(1,none,.slice e l.length c),(2,none,w_ b2 0),(5,none,v1),(6,none,.J (fr:Nat))]/\p_=p/\L_=[Y1,[(b2,.cells (shV a b ca cb s).cells 25 (0,0))]]) ?_ fun k' nx=>?_;rotate_left
 ·refine xlq rfl (fun ce=>?_) (fun ce=>?_)
  ·have M:0<l.length:=om;have e1:l.getD (((l.length:Nat):Int)-1).toNat 0+1=((fr:Nat):Int):=by
    rw[show(((l.length:Nat):Int)-1).toNat=l.length-1 from om];exact h1 om
   refine ax ?_;refine xgl rfl rfl om om (Sl.ne I M) ?_;refine xoz rfl (As.get I om) ?_;refine ax ?_;rw[e1];exact xox (nx _ _ _ ⟨rfl,rfl,rfl⟩) sb
  ·have:fr=1:=h0 (List.eq_nil_of_length_eq_zero om);subst this;refine ax ?_;exact xox (nx _ _ _ ⟨rfl,rfl,rfl⟩) sb
 rintro _ p _ ⟨rfl,rfl,rfl⟩;refine ax ?_
 refine xmq (fun m_ l_ p_ L_=>∃(j:Nat)(v:Value)(Y:Pcs)(es:List (List Value))(xss:List (List Int)),m_=f-j/\l_=[(1,none,.slice e l.length c),(2,none,w_ b2 0),(5,none,v),(7,none,.J ((fr+j:Nat):Int))]/\PG h.size [] p p_/\
  L_=[Y,[(b2,.cells (shV a b ca cb s).cells 25 (0,0))]]/\j<=f/\Ac 23 1 v es Y/\Inn p_ es xss []/\(∀l∈xss,stp s l)/\es.length+2^(f-j)<=2^f+1) ⟨0,v1,Y1,_,[l],rfl,rfl,.refl _ _ _,rfl,Nat.zero_le _,o1,Inn.one I,fun x hx=>by rw[List.mem_singleton.1 hx];exact hl,by simp;omega⟩ sb ?_
 clear o1;rintro _ _ p1 _ IH ⟨j,v,Y,es,xss,rfl,rfl,g1,rfl,hj,o,hI,hH,hn⟩;have b7:2^f<=2^12:=Nat.pow_le_pow_right d_ (by have:=hf;omega);refine cq (fun cd=>?_) (fun cd=>?_)
 ·have b8:j<f:=om;have b3:2^(f-j)=2^(f-j-1)*2:=by rw[<- Nat.pow_succ];congr 1;omega
  refine ax ?_;have a8:∀i,i<l.length->(l++[((fr+j:Nat):Int)]).getD i 0=l.getD i 0:=fun i hi=>by rw[List.getD_eq_getElem?_getD,List.getElem?_append_left hi,<- List.getD_eq_getElem?_getD]
  have a4:(l++[((fr+j:Nat):Int)]).getD l.length 0=((fr+j:Nat):Int):=by rw[List.getD_eq_getElem?_getD,List.getElem?_append_right (Nat.le_refl _),Nat.sub_self];rfl
  have hlen:(l++[((fr+j:Nat):Int)]).length=l.length+1:=by simp
  refine xe1 (args6:=[.tmp 29,.tmp 35]) (QC:=fun v Z=>∃a n c,v=.slice a n c/\n<=2^(f-j-1)/\ ∀p',PLe p1 p'->(∀y∈Z,p' y.1=some y.2)->RfS s p' a n) 2 [1] [v,shV a b ca cb s,undef,.slice e l.length c,undef,.J ((fr+j:Nat):Int)] (fun u=>[shV a b ca cb s,u]) (I.mono g1.le) (by have:=hl.1;omega) rfl rfl s_ (fun val i hi=>?_) (fun val hv=>by show some ([],[val 1,val 7])=_;rw[hv 1 s_];rfl) (fun u Y o2 h L st=>?_) fun val piece hv q=>?_
  ·obtain rfl|rfl|rfl|rfl:i=0\/i=1\/i=3\/i=5:=om
   all_goals
    refine ex ?_;exact xzq ⟨⟨_,rfl⟩,fun v e=>⟨xpq e,rfl⟩⟩
  ·obtain⟨p',⟨g',gl⟩,hy,s'⟩:=st.Fz;obtain⟨a2,c2,e2,I2⟩:=o2.inP hy;subst e2;rw[Go.X.Flow.Ae]at I2⊢;refine(ih (f-j-1) om h p' s'.per a b ca cb ((S.mono g1.le).mono g'.le) a2 c2 _ I2 ⟨by rw[hlen];omega,fun i hi=>?_⟩ (fr+j+1) (fun z=>by simp at z) (fun _=>by rw[hlen,show l.length+1-1=l.length from rfl,a4];omega) om (by rw[hlen];omega)).mono fun v' h' x=>?_
   ·rw[hlen]at hi;by_cases V:i<l.length
    ·rw[a8 i V];exact hl.2 i V
    ·obtain rfl:i=l.length:=om;rw[a4];omega
   ·obtain⟨Z,⟨p2,⟨a3,n3,c3,e3,a6,R3⟩,le⟩,N⟩:=x.pieces;exact⟨Z,⟨a3,n3,c3,e3,a6,fun O l y=>R3.mono (le O (gl O l fun z hz=>y z (List.mem_append_right _ hz)) fun z hz=>y z (List.mem_append_left _ hz))⟩,N⟩
  obtain⟨a3,n3,c3,e3,a6,a7⟩:=q;refine xgb (l':=[(1,none,.slice e l.length c),(2,none,w_ b2 0),(7,none,.J ((fr+j:Nat):Int)),(28,none,v),(36,none,.slice a3 n3 c3)]) ?_ ⟨rfl,rfl,rfl,by show some (none,val 0)=_;rw[hv 0 om];rfl,by show some (none,val 8)=_;rw[e3],trivial⟩;refine xfw (piece 8) fun p3 g3 hy=>?_;obtain⟨b0,⟨b6,S3,a5⟩,a9⟩:=a7 p3 g3.le hy;refine ax ?_;refine xow rfl rfl o S3 a5.Nt om fun v4 Y4 o4=>?_;refine ax ?_;exact xhq (IH _ _ _ om ⟨j+1,v4,Y4,_,xss++b0,rfl,rfl,g1.trans g3,rfl,om,o4,(hI.mono g3.le).app a5,fun x hx=>(List.mem_append.1 hx).elim (hH x) (a9 x),by rw[List.length_append,S3.len];rw[show f-(j+1)=f-j-1 from om];omega⟩)
 obtain rfl:j=f:=om;refine ax ?_;refine xoq o (m:=es.length) rfl d_ fun p2 a2 c2 g2 e2 b4 S2=>?_;subst e2;exact K.r rfl rfl fun _ H=>xwq H (g1.trans g2) ⟨a2,_,c2,rfl,by rw[Nat.sub_self]at hn;omega,xss,⟨es,S2,hI.mono g2.le⟩,hH⟩
set_option maxHeartbeats 400000 in
theorem c201(hp:Per p h)(ca cb:Nat)(s:Shf)(S:Ck p a b s)(V:s.ok):
 Aa prog md 201 #[shV a b ca cb s] h (Ar p h fun v p'=>∃a n c e,v=.tuple #[.slice a n c,.J e]/\(e=0\/e=3)/\(e=0->0<n)/\n<=4096/\RfS s p' a n):=by
 have h4:=V.1;have a6:=V.2.2.1;have b3:2^s.Ag.length<=2^12:=Nat.pow_le_pow_right d_ a6;refine xdq hp func201 fun _ _ _ K=>?_;refine xgq rfl fun b1=>?_;refine ax ?_;refine xiq rfl rfl (fun _ O=>c33 O s S ⟨om,om⟩) ?_;rw[show Hc s=0 from if_pos V];refine cq (fun cc=>?_) (fun _=>?_)
 ·exact(cc rfl).elim
 refine ax ?_;refine xvx rfl rfl (fun h O=>Uc s V s.Ag.length h _ O a b ca cb S none 0 [] (Sl.nil _ _ _) ⟨s_,fun i hi=>by simp at hi⟩ 1 (fun _=>rfl) (fun z=>by simp at z) om d_) ?_;rintro _ p1 g1 ⟨a1,n1,c1,rfl,b0,a8,⟨a4,S1,a3⟩,a5⟩;have T:=S.mono g1.le;refine ax ?_;refine xzj 23 1 fun o0=>?_
 refine xmq (fun m_ l_ p_ L_=>∃(j:Nat)(v:Value)(Y:Pcs)(es:List (List Value))(xss:List (List Int)),m_=n1-j/\l_=[(1,none,w_ b1 0),(5,none,v),(6,none,.slice a1 n1 c1),(7,none,.J ((j:Nat):Int))]/\p_=p1/\
  L_=[Y,[(b1,.cells (shV a b ca cb s).cells 25 (0,0))]]/\j<=n1/\Ac 23 1 v es Y/\Inn p1 es xss []/\(∀l∈xss,stp s l)/\es.length<=j) ⟨0,_,_,_,[],rfl,rfl,rfl,rfl,Nat.zero_le _,o0,Inn.nil,fun x M=>by simp at M,Nat.zero_le _⟩ sb ?_
 clear o0;rintro _ _ p1 _ IH ⟨j,v,Y,es,xss,rfl,rfl,rfl,rfl,hj,o,hI,hH,hn⟩;refine cq (fun cd=>?_) (fun cd=>?_)
 ·have a7:j<n1:=om;obtain⟨b,c,l,hc,I,hl⟩:=RfS.at ⟨a8,⟨a4,S1,a3⟩,a5⟩ a7;refine ax ?_;refine xqq [] R5 ?_;refine ex ?_;refine xgj rfl rfl hc ?_;refine ex ?_;refine ax ?_;refine xrz rfl rfl (fun h O=>Vt O s T V c l I hl) ?_;rintro _ ⟨q,rfl⟩;refine cq (fun ce=>?_) (fun ce=>?_)
  ·refine ax ?_;refine xoz rfl hc ?_;refine xbz rfl fun v2 Y2 o2=>?_;have o2:Ac 23 1 v2 [[.slice b l.length c]] Y2:=o2;refine ax ?_;refine xfv rfl rfl o o2 (by simp[A7]) (by simp;omega) fun v4 Y4 o4=>?_;refine ax ?_;exact xhq (IH _ _ _ om ⟨j+1,v4,Y4,_,xss++[l],rfl,rfl,rfl,rfl,om,o4,hI.app (Inn.one I),fun x M=>(List.mem_append.1 M).elim (hH x) fun z=>by rw[List.mem_singleton.1 z];exact hl,by simp;omega⟩)
  refine ax ?_;exact xhq (IH _ _ _ om ⟨j+1,v,Y,es,xss,rfl,rfl,rfl,rfl,om,o,hI,hH,om⟩)
 refine ax ?_;refine xfl rfl rfl sdt o rfl ?_;refine cq (fun ce=>?_) (fun ce=>?_)
 ·refine ax ?_;exact K.r rfl rfl fun _ H=>xwq H g1 ⟨none,0,0,3,rfl,.inr rfl,fun z=>by simp at z,Nat.zero_le _,[],⟨[],Sl.nil _ _ _,Inn.nil⟩,fun x M=>by simp at M⟩
 refine ax ?_;refine xoq o (m:=es.length) rfl d_ fun p2 a2 c2 g2 e2 a9 S2=>?_;subst e2;exact K.r rfl rfl fun _ H=>xwq H (g1.trans g2) ⟨a2,_,c2,0,rfl,.inl rfl,fun _=>om,om,xss,⟨es,S2,hI.mono g2.le⟩,hH⟩
theorem Ry(hp:Per p h)(ca cb:Nat)(s:Shf)(S:Ck p a b s)(hk:s.ok):
 Aa prog md 200 #[shV a b ca cb s] h fun v h'=>(∃b n c e,v=.tuple #[.slice b n c,.J e]/\(e=0\/e=3)/\n<=12)/\Af h h':=by
 refine xdq hp func200 fun _ _ _ K=>?_;refine xgq rfl fun b1=>?_;refine ax ?_;refine xvx rfl rfl (fun h pe=>c201 pe ca cb s S hk) ?_;rintro _ p1 g1 ⟨a1,n1,c1,e,rfl,he,M,hn,a2,⟨O,S1,a4⟩,V⟩;refine cq (fun cc=>?_) (fun cc=>?_)
 ·refine ax ?_;exact K.r rfl rfl fun _ H=>⟨⟨_,_,_,_,rfl,he,Nat.zero_le _⟩,H.kept⟩
 have M:=M (Classical.not_not.1 cc);obtain⟨b0,c0,l0,a8,_,a7⟩:=RfS.at ⟨a2,⟨O,S1,a4⟩,V⟩ M;refine ax ?_;refine xoz rfl a8 ?_;refine ax ?_;refine xsq (fun m l'=>∃(j:Nat)(b:Option Addr)(n c:Nat),m=n1-j/\l'=[(4,none,.slice a1 n1 c1),(6,none,.slice b n c),(7,none,.J ((j:Nat):Int))]/\j<=n1/\n<=12) ⟨0,b0,_,c0,rfl,rfl,Nat.zero_le _,a7.1⟩ sb ?_;rintro _ _ IH ⟨j,b,n,c,rfl,rfl,hj,hb⟩;refine cq (fun cd=>?_) (fun cd=>?_)
 ·have a6:j<n1:=om;obtain⟨b2,c2,l2,a3,_,a5⟩:=RfS.at ⟨a2,⟨O,S1,a4⟩,V⟩ a6;refine ax ?_;refine xoz rfl a3 ?_;refine cq (fun ce=>?_) (fun ce=>?_)
  ·refine ax ?_;refine xoz rfl a3 ?_;refine ax ?_;exact xhq (IH _ om ⟨j+1,b2,_,c2,rfl,rfl,om,a5.1⟩)
  refine ax ?_;exact xhq (IH _ om ⟨j+1,b,n,c,rfl,rfl,om,hb⟩)
 refine ax ?_;exact K.r rfl rfl fun _ H=>⟨⟨_,_,_,0,rfl,.inl rfl,hb⟩,H.kept⟩
theorem Sk(O:Per p h)(s:Shf)(S:Ck p a b s)(hk:s.ok):
 Aa prog md 136 #[shV a b ca cb s] h fun v M=>(∃n e,v=.tuple #[.J n,.J e]/\ -1000000<=n/\n<=1000000)/\Af h M:=by
 refine xdq O func136 fun _ _ _ K=>?_;refine xgq rfl fun b1=>?_;refine ax ?_;refine xrz rfl rfl (fun h V=>Ry V ca cb s S hk) ?_;rintro _ ⟨b,n,c,e,rfl,_,hn⟩;refine ax ?_;exact K.r rfl rfl fun _ H=>⟨⟨_,_,rfl,om,om⟩,H.kept⟩
theorem O4(hp:Per p h)(s:Shf)(S:Ck p a b s)(hk:s.ok):
 Aa prog md 137 #[shV a b ca cb s] h fun v h'=>(∃n e,v=.tuple #[.J n,.J e]/\ -100000<=n/\n<=100000)/\Af h h':=by
 refine xdq hp func137 fun _ _ _ K=>?_;refine xgq rfl fun b1=>?_;refine ax ?_;refine xvx rfl rfl (fun h pe=>c201 pe ca cb s S hk) ?_;rintro _ p1 g1 ⟨a1,n1,c1,e,rfl,he,M,hn,a2,⟨V,S1,a3⟩,O⟩;have T:=S.mono g1.le;refine cq (fun cc=>?_) (fun cc=>?_)
 ·refine ax ?_;exact K.r rfl rfl fun _ H=>⟨⟨0,_,rfl,om,om⟩,H.kept⟩
 have M:=M (Classical.not_not.1 cc);obtain⟨b0,c0,l0,a8,I0,a7⟩:=RfS.at ⟨a2,⟨V,S1,a3⟩,O⟩ M;refine ax ?_;refine xqq [] R4 ?_;refine ex ?_;refine xgj rfl rfl a8 ?_;refine ex ?_;refine ax ?_;refine xrz rfl rfl (fun h pe=>Qe pe s T hk c0 l0 I0 a7) ?_;rintro _ ⟨x0,rfl,x1,x2⟩;refine ax ?_;refine xsq (fun m l'=>∃(j:Nat)(x:Int),m=n1-j/\l'=[(1,none,w_ b1 0),(4,none,.slice a1 n1 c1),(6,none,.J x),(7,none,.J ((j:Nat):Int))]/\j<=n1/\ -100000<=x/\x<=100000) ⟨0,x0,rfl,rfl,Nat.zero_le _,x1,x2⟩ sb ?_;rintro _ _ IH ⟨j,x,rfl,rfl,hj,x3,x4⟩;refine cq (fun cd=>?_) (fun cd=>?_)
 ·have a6:j<n1:=om;obtain⟨b2,c2,l2,a5,I2,a4⟩:=RfS.at ⟨a2,⟨V,S1,a3⟩,O⟩ a6;refine ax ?_;refine xqq [6] R7 ?_;refine ex ?_;refine xgj rfl rfl a5 ?_;refine ex ?_;refine xkm rfl rfl rfl (fun _ pe=>Qe pe s T hk c2 l2 I2 a4) ?_;rintro _ ⟨y,rfl,y1,y2⟩;refine ex ?_;refine ax ?_;exact xhq (IH _ om ⟨j+1,min x y,rfl,rfl,om,om,om⟩)
 refine ax ?_;exact K.r rfl rfl fun _ H=>⟨⟨x,0,rfl,x3,x4⟩,H.kept⟩
theorem Rr(hp:Per p h)(s:Shf)(S:Ck p a b s)(hn:s.Ah.length<=2^20/\s.Ag.length<=2^20)(d:Nat)(V:d<=s.Ag.length):
 Aa prog md 205 #[shV a b ca cb s,.J (d:Nat)] h (Ar p h fun v p'=>∃a b ca cb,v=shV a b ca cb (E1 s d)/\Ck p' a b (E1 s d)):=by
 refine xdq hp func205 fun _ _ _ K=>?_;refine xgq rfl fun b2=>?_;refine lq fun b4=>?_;refine ax ?_;refine xdj rfl rfl (fun _ pe=>c36 pe s S hn) ?_;rintro _ _ ⟨a1,c1,a2,c2,Y1,Y2,rfl,o1,M,rfl⟩;have h2:=M.room d_ rfl;refine lq fun b5=>?_;refine ax ?_;refine xld (j:=d) rfl rfl om ?_;refine ax ?_;refine xpz Y1 Y2 ?_;refine xoq o1 (m:=s.Ah.length) (by simp[rcs]) d_ fun p1 a3 c3 g1 e1 a6 S1=>?_;cases e1;refine xoq M (m:=s.Ag.length) (by simp[ics]) d_ fun p2 a4 c4 O e2 a5 S2=>?_;cases e2;exact K.e rfl (xtq rfl .nil) fun _ H=>xwq H (g1.trans O) ⟨a1,a2,c1,c2,by show _=Value.agg #[_,.slice _ (s.Ag.take d).length _,_,_,_];rw[List.length_take,Nat.min_eq_left V];rfl,yid (⟨S1.mono O.le,S2⟩:Ck _ _ _ s) V⟩
theorem Sz(hp:Per p h)(s:Shf)(S:Ck p a b s)(hn:s.Ah.length<=2^20/\s.Ag.length<=2^20)(x:Int):
 Aa prog md 206 #[shV a b ca cb s,.J x] h (Ar p h fun v p'=>∃a b ca cb,v=shV a b ca cb {s with Ag:=s.Ag++[x]}/\Ck p' a b {s with Ag:=s.Ag++[x]}):=by
 refine xdq hp func206 fun _ _ _ K=>?_;refine xgq rfl fun b2=>?_;refine lq fun b4=>?_;refine ax ?_;refine xdj rfl rfl (fun _ pe=>c36 pe s S hn) ?_;rintro _ _ ⟨a1,c1,a2,c2,Y1,Y2,rfl,o1,o2,rfl⟩;refine lq fun b5=>?_;refine ax ?_;refine xbz rfl fun v3 Y3 O=>?_;have O:Ac 3 1 v3 (ics [x]) Y3:=O;refine xcc Y1 Y2 ?_;refine xfv rfl rfl o2 O (xyv _) (by simp[ics];omega) fun v4 Y4 M=>?_;have M:Ac 3 1 v4 (ics (s.Ag++[x])) Y4:=M.as (by simp[ics]);obtain⟨a4,c4,rfl,-⟩:=M.val;rw[show(ics (s.Ag++[x])).length=s.Ag.length+1 by simp[ics]]at M⊢;refine ax ?_;refine xoq o1 (m:=s.Ah.length) (by simp[rcs]) d_ fun p1 a3 c3 g1 e1 a7 S1=>?_;cases e1;refine xoq M (m:=s.Ag.length+1) (by simp[ics]) d_ fun p2 a5 c5 V e2 a6 S2=>?_;cases e2;exact K.e rfl (xtq rfl .nil) fun _ H=>xwq H (g1.trans V) ⟨a1,a4,c1,c4,by show _=Value.agg #[_,.slice _ (s.Ag++[x]).length _,_,_,_];rw[List.length_append];rfl,S1.mono V.le,by show As _ _ (s.Ag++[x]).length _;rw[List.length_append];exact S2⟩
theorem S0(hp:Per p h)(s:Shf)(S:Ck p a b s)(O:s.ok)(x:Int):
 Aa prog md 138 #[shV a b ca cb s,.J x] h fun v h'=>(∃n e,v=.tuple #[.J n,.J e]/\ -1000000<=n/\n<=1000000)/\Af h h':=by
 have h4:=O.1;have a5:=O.2.2.1;refine xdq hp func138 fun _ _ _ K=>?_;refine xgq rfl fun b1=>?_;refine ax ?_;refine xqq [2] R3 ?_;refine ex ?_;refine xkm rfl rfl rfl (fun _ M=>V5 M x) ?_;rintro _ ⟨q,rfl⟩;refine ex ?_;refine ax ?_;refine xiq rfl rfl (fun _ M=>Qm M s S O q) ?_;refine cq (fun cc=>?_) (fun cc=>?_)
 ·refine ax ?_;exact K.r rfl rfl fun _ H=>⟨⟨0,_,rfl,om,om⟩,H.kept⟩
 refine ax ?_;refine xmq (fun m_ l_ p_ L_=>∃j:Nat,m_=j/\l_=[(1,none,.J x),(2,none,w_ b1 0),(7,none,.J ((j:Nat):Int))]/\PG h.size [] p p_/\L_=[[(b1,.cells (shV a b ca cb s).cells 25 (0,0))],[]]/\j<=s.Ag.length) ⟨s.Ag.length,rfl,rfl,.refl _ _ _,rfl,Nat.le_refl _⟩ sb ?_;rintro m_ _ p1 _ IH ⟨j,hm,rfl,V,rfl,hj⟩;refine cq (fun cd=>?_) (fun cd=>?_)
 ·refine ax ?_;refine xvx rfl rfl (fun h M=>Rr M s (S.mono V.le) ⟨om,om⟩ j hj) ?_;rintro _ p2 g2 ⟨a2,b2,a4,a3,rfl,T⟩;refine xrz rfl rfl (fun h M=>O4 M _ T (ybb O)) ?_;rintro _ ⟨n,e,rfl,n1,n2⟩;refine cq (fun ce=>?_) (fun ce=>?_)
  ·refine ax ?_;exact K.r rfl rfl fun _ H=>⟨⟨_,0,rfl,om,om⟩,H.kept⟩
  obtain⟨i,rfl⟩:∃i,j=i+1:=⟨j-1,om⟩
  refine ax ?_;rw[show(((i+1:Nat):Int))-1=((i:Nat):Int) from om];exact xhq (IH _ _ _ om ⟨i,rfl,rfl,V.trans g2,rfl,om⟩)
 refine ax ?_;exact K.r rfl rfl fun _ H=>⟨⟨0,0,rfl,om,om⟩,H.kept⟩
theorem Rx(hp:Per p h)(s:Shf)(S:Ck p a b s)(O:s.ok)(x:Int):
 Aa prog md 139 #[shV a b ca cb s,.J x] h fun v h'=>(∃n e,v=.tuple #[.J n,.J e]/\ -1000000<=n/\n<=1000000)/\Af h h':=by
 have h4:=O.1;have a4:=O.2.2.1;refine xdq hp func139 fun _ _ _ K=>?_;refine xgq rfl fun b1=>?_;refine ax ?_;refine xqq [] R4 ?_;refine ex ?_;refine xvz rfl rfl rfl (fun _ M=>c64 M s om x) ?_;refine ex ?_;refine ax ?_;refine xiq rfl rfl (fun _ M=>Qm M s S O _) ?_;refine cq (fun V=>?_) (fun V=>?_)
 ·refine ax ?_;exact K.r rfl rfl fun _ H=>⟨⟨0,_,rfl,om,om⟩,H.kept⟩
 have hx:okF s.Ah.length x:=by
  by_cases z:okF s.Ah.length x
  ·exact z
  ·simp[z]at V
 refine cq (fun cd=>?_) (fun cd=>?_)
 ·refine ax ?_;exact K.r rfl rfl fun _ H=>⟨⟨0,_,rfl,om,om⟩,H.kept⟩
 refine ax ?_;refine xrz rfl rfl (fun h M=>O4 M s S O) ?_;rintro _ ⟨n1,e1,rfl,n2,n3⟩;refine ax ?_;refine xvx rfl rfl (fun h M=>Sz M s S ⟨om,om⟩ x) ?_;rintro _ p2 g2 ⟨a2,b2,a5,a3,rfl,T⟩;refine xrz rfl rfl (fun h M=>O4 M _ T (ych O om hx)) ?_;rintro _ ⟨n4,e4,rfl,n5,n6⟩;refine cq (fun ce=>?_) (fun ce=>?_)
 ·refine ax ?_;exact K.r rfl rfl fun _ H=>⟨⟨0,_,rfl,om,om⟩,H.kept⟩
 refine ax ?_;exact K.r rfl rfl fun _ H=>⟨⟨_,0,rfl,om,om⟩,H.kept⟩
end
end Go.Proofs.YtblcmdjhidhnjaaGreatDoor
