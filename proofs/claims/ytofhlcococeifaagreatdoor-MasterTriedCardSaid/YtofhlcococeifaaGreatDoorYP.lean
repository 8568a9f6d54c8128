/-
  Part of proofs about a town's master: a calculus for Bc beside goroutines that are only leaving, and the Bc. No condition.
-/
import Derived.Test.YtofhlcococeifaaGreatDoorYO
namespace Go.X.Bf
variable{N:Nat}
structure Arc where
 fr:Nat
 to:Nat
 cost:Int
 way:Int
 more:Int
deriving Inhabited,DecidableEq
variable{E:List Arc}
def a0:Arc:=⟨0,0,0,0,0⟩
def far:Int:=2^60
structure Lab where
 c:List Int
 b:List Arc
variable{s:Lab}
def L(s:Lab)(v:Nat):Int:=s.c.getD v far
def B(s:Lab)(v:Nat):Arc:=s.b.getD v a0
def rel(s:Lab)(a:Arc):Lab:=if L s a.fr<far/\L s a.fr+a.cost<L s a.to then⟨s.c.set a.to (L s a.fr+a.cost),s.b.set a.to a⟩else s
def Px(E:List Arc)(s:Lab):Lab:=E.foldl rel s
def Bu(E:List Arc):Nat->Lab->Lab
 |0,s=>s
 |n+1,s=>Px E (Bu E n s)
def Fa(N sp:Nat):Lab:=⟨(List.replicate N far).set sp 0,List.replicate N a0⟩
inductive Path (E:List Arc) (sp:Nat):Nat->Int->List Arc->Prop
 |nil:Path E sp sp 0 []
 |cons {a:Arc} {x:Int} {l:List Arc}:a∈E->Path E sp a.fr x l->Path E sp a.to (x+a.cost) (a::l)
def M1(E:List Arc)(π:Nat->Int):Prop:=∀a∈E,π a.to<=π a.fr+a.cost
theorem xvs{E sp π v x l}(F:M1 E π)(P:Path E sp v x l):π v-π sp<=x:=by
 induction P with
 |nil=>omega
 |cons ha _ ih=>have:=F _ ha;omega
theorem xir{E sp π}(F:M1 E π):∀{l1 l2 v x},Path E sp v x (l1++l2)-> ∃y u,Path E sp u y l2/\π v-π u<=x-y/\(∀b r,l2=b::r->u=b.to)
 |[],l2,v,x,P=>⟨x,v,P,om,fun b r e=>by simp only[List.nil_append,e]at P;cases P;rfl⟩
 |a::l1,l2,_,_,.cons ha P=>by
   have⟨y,u,Q,h,e⟩:=xir F P;have:=F _ ha;exact⟨y,u,Q,om,e⟩
theorem xpf:∀{N:Nat}{l:List Nat},l.Nodup->(∀x∈l,x<N)->l.length<=N
 |0,[],_,_=>Nat.le_refl _
 |0,x::l,_,h=>absurd (h x (List.mem_cons_self ..)) om
 |N+1,l,d,h=>by
   by_cases m:N∈l
   ·have H:=xpf (N:=N) (d.erase N) fun x z=>by
     have⟨ne,z'⟩:=d.mem_erase_iff.1 z;have:=h x z';omega
    rw[List.length_erase_of_mem m]at H;omega
   ·have:=xpf (N:=N) d fun x z=>by
     have:=h x z;by_cases e:x=N
     ·exact absurd (e ▸ z) m
     ·omega
    omega
theorem xq3{E sp π}(F:M1 E π){v x l}(P:Path E sp v x l):∃H l',Path E sp v H l'/\H<=x/\(sp::l'.map Arc.to).Nodup:=by
 induction P with
 |nil=>exact⟨0,[],.nil,Int.le_refl _,s_⟩
 |@cons a x l ha P ih=>
   obtain⟨H,l',Q,hx,hn⟩:=ih;have hF:=F _ ha;have hq:=xvs F Q;by_cases e:a.to=sp
   ·exact⟨0,[],e ▸ .nil,by rw[e]at hF;omega,s_⟩
   ·by_cases m:a.to∈l'.map Arc.to
    ·obtain⟨b,hb,O⟩:=List.mem_map.1 m;obtain⟨l1,M,rfl⟩:=List.append_of_mem hb;obtain⟨y,u,R,hy,V⟩:=xir F Q;obtain rfl:=V b M rfl;refine⟨y,b::M,O ▸ R,by rw[O]at hy;omega,?_⟩;rw[List.nodup_cons]at hn⊢;refine⟨fun z=>hn.1 ?_,?_⟩
     ·rw[List.map_append];exact List.mem_append.2 (.inr z)
     ·have:=hn.2;rw[List.map_append,List.nodup_append]at this;exact this.2.1
    ·refine⟨H+a.cost,a::l',.cons ha Q,om,?_⟩;rw[List.nodup_cons]at hn⊢;rw[List.map_cons,List.nodup_cons,List.mem_cons];exact⟨fun z=>z.elim (fun z=>e z.symm) hn.1,m,hn.2⟩
theorem xo9{E sp π N}(F:M1 E π)(M:sp<N)(hE:∀a∈E,a.fr<N/\a.to<N){v x l}(P:Path E sp v x l):∃H l',Path E sp v H l'/\H<=x/\l'.length<N:=by
 obtain⟨H,l',Q,V,hn⟩:=xq3 F P;refine⟨H,l',Q,V,?_⟩;have hm:∀{v x l},Path E sp v x l-> ∀a∈l,a∈E:=fun P=>by
  induction P with
  |nil=>exact fun a h=>absurd h s_
  |cons ha _ ih=>exact fun a h=>(List.mem_cons.1 h).elim (fun e=>e ▸ ha) (ih a)
 have:=xpf (N:=N) hn fun z O=>by
  rcases List.mem_cons.1 O with rfl|O
  ·exact M
  ·obtain⟨b,hb,rfl⟩:=List.mem_map.1 O;exact(hE b (hm Q b hb)).2
 simp only[List.length_cons,List.length_map]at this;omega
theorem xj6{E sp C}(H:∀a∈E,a.cost<=C){v x l}(P:Path E sp v x l):x<=C*l.length:=by
 induction P with
 |nil=>simp
 |cons ha _ ih=>have:=H _ ha;rw[List.length_cons,Int.natCast_add,Int.mul_add];omega
theorem ybh{a:Arc}(h:a.to<s.c.length)(v:Nat):L (rel s a) v=if L s a.fr<far/\L s a.fr+a.cost<L s a.to/\a.to=v then L s a.fr+a.cost else L s v:=by
 unfold rel;by_cases e:L s a.fr<far/\L s a.fr+a.cost<L s a.to
 ·rw[if_pos e];by_cases d:a.to=v
  ·subst d;rw[if_pos ⟨e.1,e.2,rfl⟩];simp only[L,List.getD_eq_getElem?_getD,List.getElem?_set,if_true,if_pos h];rfl
  ·rw[if_neg fun z=>d z.2.2];simp only[L,List.getD_eq_getElem?_getD,List.getElem?_set,if_neg d]
 ·rw[if_neg e,if_neg fun z=>e ⟨z.1,z.2.1⟩]
theorem zaq{a:Arc}(h:a.to<s.b.length)(v:Nat):B (rel s a) v=if L s a.fr<far/\L s a.fr+a.cost<L s a.to/\a.to=v then a else B s v:=by
 unfold rel;by_cases e:L s a.fr<far/\L s a.fr+a.cost<L s a.to
 ·rw[if_pos e];by_cases d:a.to=v
  ·subst d;rw[if_pos ⟨e.1,e.2,rfl⟩];simp only[B,List.getD_eq_getElem?_getD,List.getElem?_set,if_true,if_pos h];rfl
  ·rw[if_neg fun z=>d z.2.2];simp only[B,List.getD_eq_getElem?_getD,List.getElem?_set,if_neg d]
 ·rw[if_neg e,if_neg fun z=>e ⟨z.1,z.2.1⟩]
theorem xzm{a:Arc}:(rel s a).c.length=s.c.length/\(rel s a).b.length=s.b.length:=by
 unfold rel;split<;>simp
theorem xeg:∀{s:Lab},(E.foldl rel s).c.length=s.c.length/\(E.foldl rel s).b.length=s.b.length:=by
 induction E with
 |nil=>exact⟨rfl,rfl⟩
 |cons a E ih=>intro s;rw[List.foldl_cons];have h:=ih (s:=rel s a);have g:=xzm (s:=s) (a:=a);exact⟨h.1.trans g.1,h.2.trans g.2⟩
theorem ymt{a:Arc}(h:a.to<s.c.length)(v:Nat):L (rel s a) v<=L s v:=by
 rw[ybh h];split
 ·next e=>rw[<- e.2.2];omega
 ·exact Int.le_refl _
theorem xy3:∀{s:Lab},s.c.length=N->(∀a∈E,a.to<N)-> ∀v,L (E.foldl rel s) v<=L s v:=by
 induction E with
 |nil=>exact fun _ _ v=>Int.le_refl _
 |cons a E ih=>
   intro s hs H v;rw[List.foldl_cons];exact Int.le_trans (ih (xzm.1.trans hs) (fun b M=>H b (List.mem_cons_of_mem _ M)) v) (ymt (by rw[hs];exact H a (List.mem_cons_self ..)) v)
theorem yaf(hs:s.c.length=N)(V:∀a∈E,a.to<N){a:Arc}(ha:a∈E)(hf:L s a.fr<far):L (E.foldl rel s) a.to<=L s a.fr+a.cost:=by
 obtain⟨H,E2,rfl⟩:=List.append_of_mem ha;rw[List.foldl_append,List.foldl_cons];have h1:=xy3 (N:=N) (E:=H) hs (fun b O=>V b (List.mem_append.2 (.inl O))) a.fr;have l1:(H.foldl rel s).c.length=N:=xeg.1.trans hs;have a2:a.to<(H.foldl rel s).c.length:=by rw[l1];exact V a ha
 have M:=xy3 (N:=N) (E:=E2) (s:=rel (H.foldl rel s) a) (xzm.1.trans l1) (fun b O=>V b (List.mem_append.2 (.inr (List.mem_cons_of_mem _ O)))) a.to;rw[ybh a2]at M;by_cases e:L (H.foldl rel s) a.fr+a.cost<L (H.foldl rel s) a.to
 ·rw[if_pos ⟨om,e,rfl⟩]at M;omega
 ·rw[if_neg fun z=>e z.2.1]at M;omega
theorem xck{E:List Arc}{s:Lab}:∀n,(Bu E n s).c.length=s.c.length/\(Bu E n s).b.length=s.b.length
 |0=>⟨rfl,rfl⟩
 |n+1=>⟨xeg.1.trans (xck n).1,xeg.2.trans (xck n).2⟩
theorem xb3{E sp N C}(O:∀a∈E,a.to<N)(hC:∀a∈E,a.cost<=C)(V:0<=C){s:Lab}(hs:s.c.length=N)(M:L s sp<=0)(hb:C*N<far):
 ∀{v x l},Path E sp v x l->l.length<=N-> ∀r,l.length<=r->L (Bu E r s) v<=x:=by
 have hm:∀r v,L (Bu E (r+1) s) v<=L (Bu E r s) v:=fun r v=>xy3 (N:=N) ((xck r).1.trans hs) O v;have H:∀r,L (Bu E r s) sp<=0:=fun r=>by
  induction r with
  |zero=>exact M
  |succ r ih=>exact Int.le_trans (hm r sp) ih
 intro v x l P
 induction P with
 |nil=>exact fun _ r _=>H r
 |@cons a x l ha P ih=>
   intro hN r hr;rw[List.length_cons]at hN hr;cases r with
   |zero=>omega
   |succ r=>
     have h1:=ih om r om;have h2:=xj6 hC P;have h3:C*(l.length:Int)<=C*N:=Int.mul_le_mul_of_nonneg_left om V;have h4:=yaf (N:=N) ((xck r).1.trans hs) O ha (s:=Bu E r s) om;exact Int.le_trans h4 om
structure Inv(E:List Arc)(sp N:Nat)(s:Lab)(τ:Nat->Nat)(T:Nat):Prop where
 lc:s.c.length=N
 lb:s.b.length=N
 z:L s sp=0
 walk:∀v,v<N->L s v<far-> ∃l,Path E sp v (L s v) l
 top:∀v,L s v<=far
 by_:∀v,v<N->v≠sp->L s v<far->B s v∈E/\(B s v).to=v/\L s (B s v).fr<far/\L s (B s v).fr+(B s v).cost<=L s v/\(L s (B s v).fr+(B s v).cost=L s v->τ (B s v).fr<τ v)
 clock:∀v,τ v<T
theorem Inv.start{E sp N}(M:sp<N):Inv E sp N (Fa N sp) (fun _=>0) 1:=by
 have H:∀v,L (Fa N sp) v=if v=sp then 0 else far:=fun v=>by
  unfold L Fa;rw[List.getD_eq_getElem?_getD,List.getElem?_set];by_cases e:v=sp
  ·subst e;simp[M]
  ·rw[if_neg (Ne.symm e),if_neg e,List.getElem?_replicate];split<;>rfl
 refine⟨by simp[Fa],by simp[Fa],by rw[H,if_pos rfl],fun v hv hf=>?_,fun v=>?_,fun v hv O hf=>?_,fun v=>by simp⟩
 ·by_cases e:v=sp
  ·subst e;exact⟨[],by rw[H,if_pos rfl];exact .nil⟩
  ·rw[H,if_neg e]at hf;omega
 ·rw[H];split<;>decide
 ·rw[H,if_neg O]at hf;omega
theorem Inv.step{E sp N π s τ T}(F:M1 E π)(hE:∀a∈E,a.fr<N/\a.to<N)(I:Inv E sp N s τ T){a:Arc}(V:a∈E):∃τ' T',Inv E sp N (rel s a) τ' T':=by
 by_cases e:L s a.fr<far/\L s a.fr+a.cost<L s a.to
 ·have⟨hfr,hto⟩:=hE a V;have a2:=fun v=>ybh (s:=s) (a:=a) (by rw[I.lc];exact hto) v;have M:=fun v=>zaq (s:=s) (a:=a) (by rw[I.lb];exact hto) v;obtain⟨l,P⟩:=I.walk _ hfr e.1;have a3:a.to≠sp:=fun z=>by
   have h:=xvs F (Path.cons V P);rw[z]at h e;rw[I.z]at e;omega
  have O:a.fr≠a.to:=fun z=>by
   have h:=F _ V;rw[z]at h e;omega
  have hv:L (rel s a) a.to=L s a.fr+a.cost:=by rw[a2,if_pos ⟨e.1,e.2,rfl⟩]
  have H:∀w,w≠a.to->L (rel s a) w=L s w:=fun w hw=>by rw[a2,if_neg fun z=>hw z.2.2.symm]
  have bv:B (rel s a) a.to=a:=by rw[M,if_pos ⟨e.1,e.2,rfl⟩]
  have bo:∀w,w≠a.to->B (rel s a) w=B s w:=fun w hw=>by rw[M,if_neg fun z=>hw z.2.2.symm]
  refine⟨fun w=>if w=a.to then T else τ w,T+1,xzm.1.trans I.lc,xzm.2.trans I.lb,by rw[H _ a3.symm];exact I.z,fun w hw hf=>?_,fun w=>?_,fun w hw hn hf=>?_,fun w=>?_⟩
  ·by_cases d:w=a.to
   ·subst d;rw[hv];exact⟨_,.cons V P⟩
   ·rw[H w d]at hf⊢;exact I.walk w hw hf
  ·by_cases d:w=a.to
   ·subst d;rw[hv];have:=I.top a.to;omega
   ·rw[H w d];exact I.top w
  ·by_cases d:w=a.to
   ·subst d;rw[bv,hv,H _ O];refine⟨V,rfl,e.1,Int.le_refl _,fun _=>?_⟩;rw[if_pos rfl,if_neg O];exact I.clock _
   ·rw[bo w d,H w d];rw[H w d]at hf;obtain⟨h1,h2,h3,h4,h5⟩:=I.by_ w hw hn hf;by_cases c:(B s w).fr=a.to
    ·rw[c]at h3 h4;rw[c,hv];exact⟨h1,h2,om,om,fun z=>om⟩
    ·rw[H _ c];refine⟨h1,h2,h3,h4,fun z=>?_⟩;rw[if_neg d,if_neg c];exact h5 z
  ·have:=I.clock w;split<;>omega
 ·refine⟨τ,T,?_⟩;rw[show rel s a=s from if_neg e];exact I
theorem Inv.fold{E sp N π}(F:M1 E π)(M:∀a∈E,a.fr<N/\a.to<N):∀{H:List Arc}{s:Lab}{τ:Nat->Nat}{T:Nat},(∀a∈H,a∈E)->Inv E sp N s τ T-> ∃τ' T',Inv E sp N (H.foldl rel s) τ' T'
 |[],s,τ,T,_,I=>⟨τ,T,I⟩
 |a::H,s,τ,T,h,I=>by
   obtain⟨τ',T',V⟩:=I.step F M (h a (List.mem_cons_self ..));rw[List.foldl_cons];exact Inv.fold F M (fun b O=>h b (List.mem_cons_of_mem _ O)) V
theorem Inv.Bu{E sp N π}(F:M1 E π)(H:∀a∈E,a.fr<N/\a.to<N){s τ T}(I:Inv E sp N s τ T):∀n,∃τ' T',Inv E sp N (Bu E n s) τ' T'
 |0=>⟨τ,T,I⟩
 |n+1=>by obtain⟨_,_,J⟩:=Inv.Bu F H I n;exact Inv.fold F H (fun _ h=>h) J
inductive E0 (s:Lab) (sp:Nat):Nat->List Arc->Prop
 |nil:E0 s sp sp []
 |cons {v p}:v≠sp->E0 s sp (B s v).fr p->E0 s sp v (B s v::p)
theorem ylh{E sp N C π}(F:M1 E π)(O:sp<N)(hE:∀a∈E,a.fr<N/\a.to<N)(hC:∀a∈E,a.cost<=C)(h0:0<=C)(hb:C*N<far)(hs:s=Bu E N (Fa N sp)):
 L s sp=0/\(∀v,L s v<=far)/\(∀a∈E,L s a.fr<far->L s a.to<far/\L s a.to<=L s a.fr+a.cost)/\
 (∀v,v<N->L s v<far-> ∃p,E0 s sp v p/\Path E sp v (L s v) p/\(sp::p.map Arc.to).Nodup/\ ∀a∈p,a∈E/\L s a.fr+a.cost=L s a.to/\L s a.fr<far):=by
 obtain⟨τ,T,I⟩:=(Inv.start (E:=E) O).Bu F hE N;rw[<- hs]at I;have I0:=Inv.start (E:=E) (N:=N) O;have hP:=@xb3 E sp N C (fun a h=>(hE a h).2) hC h0 (Fa N sp) I0.lc (by rw[I0.z];exact Int.le_refl _) hb;have a2:∀{v x l},Path E sp v x l->L s v<=x/\L s v<far:=fun P=>by
  obtain⟨x',l',Q,hx,hl⟩:=xo9 F O hE P;have h:=hP Q om N om;rw[<- hs]at h;have M:=xj6 hC Q;have V:C*(l'.length:Int)<=C*N:=Int.mul_le_mul_of_nonneg_left om h0;exact⟨om,om⟩
 have H:∀a∈E,L s a.fr<far->L s a.to<far/\L s a.to<=L s a.fr+a.cost:=fun a ha hf=>by
  obtain⟨l,P⟩:=I.walk _ (hE a ha).1 hf;have:=a2 (.cons ha P);exact⟨this.2,this.1⟩
 refine⟨I.z,I.top,H,?_⟩;have a4:∀v,v<N->L s v<far->0<=L s v-π v+π sp:=fun v hv hf=>by
  obtain⟨l,P⟩:=I.walk _ hv hf;have:=xvs F P;omega
 have key:∀n v,v<N->L s v<far->(L s v-π v+π sp).toNat*T+τ v=n-> ∃p,E0 s sp v p/\Path E sp v (L s v) p/\(sp::p.map Arc.to).Nodup/\(∀a∈p,a∈E/\L s a.fr+a.cost=L s a.to/\L s a.fr<far)/\
  ∀u∈p.map Arc.to,(L s u-π u+π sp).toNat*T+τ u<=n:=by
  intro n
  induction n using Nat.strongRecOn with
  |_ n ih=>
    intro v hv hf hn;by_cases e:v=sp
    ·subst e;exact⟨[],.nil,by rw[I.z];exact .nil,s_,s_,s_⟩
    ·obtain⟨h1,M,V,h4,h5⟩:=I.by_ v hv e hf;have hc:=H _ h1 V;rw[M]at hc;have hF:=F _ h1;rw[M]at hF;have hu:=(hE _ h1).1;have a6:=a4 _ hu V;have a5:(L s (B s v).fr-π (B s v).fr+π sp).toNat*T+τ (B s v).fr<n:=by
      have t1:=I.clock (B s v).fr;have t2:=I.clock v;have t3:=h5 om;have le:(L s (B s v).fr-π (B s v).fr+π sp).toNat<=(L s v-π v+π sp).toNat:=om;have:=Nat.mul_le_mul_right T le;omega
     obtain⟨p,hp,hq,hd,ht,hr⟩:=ih _ a5 _ hu V rfl;have a3:=Path.cons h1 hq;rw[M,show L s (B s v).fr+(B s v).cost=L s v by omega]at a3;refine⟨B s v::p,.cons e hp,a3,?_,fun a ha=>?_,fun u hm=>?_⟩
     ·rw[List.nodup_cons]at hd⊢;rw[List.map_cons,List.nodup_cons,List.mem_cons,M];refine⟨fun z=>z.elim (fun z=>e z.symm) hd.1,fun z=>?_,hd.2⟩;have:=hr v z;omega
     ·rcases List.mem_cons.1 ha with rfl|ha
      ·exact⟨h1,by rw[M];omega,V⟩
      ·exact ht a ha
     ·rw[List.map_cons,List.mem_cons,M]at hm;rcases hm with rfl|hm
      ·omega
      ·have:=hr u hm;omega
 intro v hv hf;obtain⟨p,h1,M,V,h4,_⟩:=key _ v hv hf rfl;exact⟨p,h1,M,V,h4⟩
theorem yzz{a:Arc}{K C:Int}(h:a.to<s.c.length)(hc: -C<=a.cost/\a.cost<=C)(H:∀v,L s v<far-> -K<=L s v/\L s v<=K):∀v,L (rel s a) v<far-> -(K+C)<=L (rel s a) v/\L (rel s a) v<=K+C:=by
 intro v hf;rw[ybh h]at hf⊢;by_cases d:L s a.fr<far/\L s a.fr+a.cost<L s a.to/\a.to=v
 ·rw[if_pos d];have:=H _ d.1;omega
 ·rw[if_neg d]at hf⊢;have:=H _ hf;omega
end Go.X.Bf
namespace Go.X.Flow
open Go.X.Bf
variable{d:List Int}{j:Nat}{f:Nat->Int}{P:Prop}
structure Tn where
 hs:List Int
 ws:List Int
 wy:List (Int×Int)
variable{t:Tn}
structure Wi where
 Ew:Int
 Kp:Int
 sign:Int
def H0:Wi:=⟨-1,-1,0⟩
def sm:Nat->(Nat->Int)->Int
 |0,_=>0
 |k+1,f=>sm k f+f k
theorem xux{f g:Nat->Int}:∀{k},(∀i,i<k->f i=g i)->sm k f=sm k g
 |0,_=>rfl
 |k+1,h=>by rw[sm,sm,xux fun i hi=>h i om,h k om]
theorem xc9{f g:Nat->Int}:∀{k},(∀i,i<k->f i<=g i)->sm k f<=sm k g
 |0,_=>Int.le_refl _
 |k+1,h=>by have:=xc9 (k:=k) fun i hi=>h i om;have:=h k om;simp only[sm];omega
theorem xrb(f g:Nat->Int):∀k,sm k (fun i=>f i+g i)=sm k f+sm k g
 |0=>rfl
 |k+1=>by simp only[sm];rw[xrb f g k];omega
theorem xuh(f g:Nat->Int):∀k,sm k (fun i=>f i-g i)=sm k f-sm k g
 |0=>rfl
 |k+1=>by simp only[sm];rw[xuh f g k];omega
theorem yzx(f:Nat->Int)(c:Int):∀k,sm k (fun i=>f i*c)=sm k f*c
 |0=>by simp[sm]
 |k+1=>by simp only[sm];rw[yzx f c k,Int.add_mul]
theorem xbv:∀k,sm k (fun _=>0)=0
 |0=>rfl
 |k+1=>by rw[sm,xbv k];rfl
theorem xqb{k}(h:∀i,i<k->0<=f i):0<=sm k f:=by rw[<- xbv k];exact xc9 h
theorem xm5{k:Nat}(c:Nat->Int)(h:j<k):sm k (fun i=>if j=i then c i else 0)=c j:=by
 induction k with
 |zero=>omega
 |succ k ih=>
   rw[sm];by_cases e:j=k
   ·subst e;rw[if_pos rfl,xux (g:=fun _=>0) (fun i hi=>if_neg om),xbv];omega
   ·rw[if_neg e,ih om];omega
theorem yaz{k:Nat}(H:∀i,i<k->0<=f i)(h:j<k):f j<=sm k f:=by
 induction k with
 |zero=>omega
 |succ k ih=>
   rw[sm];have:=xqb (k:=k) fun i hi=>H i om;by_cases e:j=k
   ·subst e;omega
   ·have:=ih (fun i hi=>H i om) om;have:=H k om;omega
namespace Tn
variable(t:Tn)
def nH:=t.hs.length
def nW:=t.ws.length
def m:=t.wy.length
def hv(h:Nat):Int:=t.hs.getD h 0
def wv(w:Nat):Int:=t.ws.getD w 0
def wh(i:Nat):Nat:=(t.wy.getD i (0,0)).1.toNat
def ww(i:Nat):Nat:=(t.wy.getD i (0,0)).2.toNat
def sp:=t.nW+t.nH
def si:=t.nW+t.nH+1
end Tn
def dv(d:List Int)(i:Nat):Int:=d.getD i 0
def draw(t:Tn)(d:List Int)(h:Nat):Int:=sm t.m fun i=>if t.wh i=h then dv d i else 0
def give(t:Tn)(d:List Int)(w:Nat):Int:=sm t.m fun i=>if t.ww i=w then dv d i else 0
def As(t:Tn)(d:List Int)(h:Nat):Int:=t.hv h-draw t d h
def has(t:Tn)(d:List Int)(w:Nat):Int:=t.wv w-give t d w
def tot(t:Tn)(d:List Int):Int:=sm t.m (dv d)
structure Ok(t:Tn):Prop where
 nh:t.nH<=6
 nw:t.nW<=5
 nm:t.m<=13
 h:∀h,h<t.nH->0<=t.hv h/\t.hv h<=9
 w:∀w,w<t.nW->0<=t.wv w/\t.wv w<=21
 y:∀i,i<t.m->t.wh i<t.nH/\t.ww i<t.nW
structure Div(t:Tn)(d:List Int):Prop where
 len:d.length=t.m
 pos:∀i,i<t.m->0<=dv d i
 hs:∀h,h<t.nH->draw t d h<=t.hv h
 ws:∀w,w<t.nW->give t d w<=t.wv w
theorem xaw{t d}(D:Div t d)(h:Nat):0<=draw t d h:=xqb fun i hi=>by split;exact D.pos i hi;exact Int.le_refl _
theorem xsd{t d}(D:Div t d)(w:Nat):0<=give t d w:=xqb fun i hi=>by split;exact D.pos i hi;exact Int.le_refl _
theorem xfs(f:Nat->Int)(g:Nat->Nat)(v:Nat->Int){n:Nat}:∀{k},(∀i,i<k->g i<n)->sm n (fun h=>sm k (fun i=>if g i=h then v i else 0)*f h)=sm k (fun i=>v i*f (g i))
 |0,_=>by simp only[sm,Int.zero_mul];exact xbv n
 |k+1,hg=>by
   simp only[sm];rw[xux (g:=fun h=>sm k (fun i=>if g i=h then v i else 0)*f h+(if g k=h then v k*f h else 0)) (fun h _=>by rw[Int.add_mul];split<;>simp),xrb,xfs f g v fun i hi=>hg i om];rw[xm5 (fun h=>v k*f h) (hg k om)]
theorem xgs{t d}(H:∀i,i<t.m->t.wh i<t.nH)(f:Nat->Int):sm t.nH (fun h=>draw t d h*f h)=sm t.m (fun i=>dv d i*f (t.wh i)):=xfs f t.wh (dv d) H
theorem xh5{t d}(H:∀i,i<t.m->t.ww i<t.nW)(f:Nat->Int):sm t.nW (fun w=>give t d w*f w)=sm t.m (fun i=>dv d i*f (t.ww i)):=xfs f t.ww (dv d) H
theorem xds{t d}(H:∀i,i<t.m->t.wh i<t.nH):sm t.nH (draw t d)=tot t d:=by
 have:=xgs (d:=d) H (fun _=>1);simp only[Int.mul_one]at this;exact this
def Bi(n:Nat):Int:=1000*7^n
theorem xcj(n:Nat):Bi (n+1)=7*Bi n:=by simp only[Bi,Int.pow_succ];omega
theorem xsz(n:Nat):1000<=Bi n:=by
 induction n with
 |zero=>decide
 |succ n ih=>rw[xcj];omega
theorem xav{a b:Nat}(h:a<=b):Bi a<=Bi b:=by
 induction h with
 |refl=>exact Int.le_refl _
 |@step b _ ih=>rw[xcj];have:=xsz b;omega
def gap(z:Int):Int:=if 2<=z\/z<= -2 then 36000 else 0
theorem yiw(n:Nat):∀k:Nat,(k:Int)*(Bi (n+1)-Bi n)+gap k<=Bi (n+k)-Bi n
 |0=>by simp[gap]
 |1=>by simp[gap]
 |k+2=>by
   have O:gap (k+2:Nat)=36000:=by unfold gap;rw[if_pos om]
   have V:=yiw n (k+1);have H:n+(k+2)=(n+(k+1))+1:=om;rw[O,H,xcj (n+(k+1))];have M:=xav (show n+1<=n+(k+1) by omega);have h3:=xsz n;rw[xcj]at M V⊢;have e:((k+2:Nat):Int)*(7*Bi n-Bi n)=((k+1:Nat):Int)*(7*Bi n-Bi n)+(7*Bi n-Bi n):=by
    rw[show((k+2:Nat):Int)=((k+1:Nat):Int)+1 by omega,Int.add_mul,Int.one_mul]
   rw[e];have:0<=gap ((k+1:Nat):Int):=by unfold gap;split<;>omega
   omega
theorem xi2(n:Nat):∀k:Nat,Bi (n+k)-Bi n+gap k<=(k:Int)*(Bi (n+k)-Bi (n+k-1))
 |0=>by simp[gap]
 |1=>by simp[gap]
 |k+2=>by
   have O:gap (k+2:Nat)=36000:=by unfold gap;rw[if_pos om]
   have H:=xi2 n (k+1);have V:n+(k+2)-1=n+(k+1):=om;have e2:n+(k+1)-1=n+k:=om;have M:n+(k+2)=(n+k)+1+1:=om;rw[e2]at H;rw[O,V,M,xcj,show n+(k+1)=(n+k)+1 from rfl,xcj];rw[show n+(k+1)=(n+k)+1 from rfl,xcj]at H;have h1:=xsz (n+k);have:0<=gap ((k+1:Nat):Int):=by unfold gap;split<;>omega
   have e:((k+2:Nat):Int)*(7*(7*Bi (n+k))-7*Bi (n+k))=7*(((k+1:Nat):Int)*(7*Bi (n+k)-Bi (n+k)))+42*Bi (n+k):=by
    rw[show((k+2:Nat):Int)=((k+1:Nat):Int)+1 by omega,Int.add_mul,Int.one_mul,show 7*(7*Bi (n+k))-7*Bi (n+k)=7*(7*Bi (n+k)-Bi (n+k)) by omega,Int.mul_left_comm];omega
   rw[e];have h2:((k+1:Nat):Int)*(7*Bi (n+k)-Bi (n+k))≥7*Bi (n+k)-Bi n:=om;have h3:=xav (show n<=n+k by omega);omega
def bh(w:Wi)(h:Nat):Int:=if(h:Int)=w.Ew then w.sign else 0
def bw(w:Wi)(x:Nat):Int:=if(x:Int)=w.Kp then w.sign else 0
def F(t:Tn)(w:Wi)(d:List Int):Int:=sm t.nH (fun h=>Bi (As t d h).toNat-draw t d h*bh w h)-sm t.nW (fun x=>give t d x*bw w x)
structure Cert(t:Tn)(w:Wi)(d:List Int)(π:Nat->Int):Prop where
 f1:∀x,x<t.nW->0<has t d x->π x<=π t.sp-bw w x
 f2:∀x,x<t.nW->has t d x<t.wv x->π t.sp<=π x+bw w x
 f3:∀h,h<t.nH->0<As t d h->π t.si<=π (t.nW+h)+(Bi ((As t d h).toNat-1)-Bi (As t d h).toNat-bh w h)
 f4:∀h,h<t.nH->As t d h<t.hv h->π (t.nW+h)<=π t.si+(Bi ((As t d h).toNat+1)-Bi (As t d h).toNat+bh w h)
 f5:∀i,i<t.m->π (t.nW+t.wh i)<=π (t.ww i)
 f6:∀i,i<t.m->0<dv d i->π (t.ww i)<=π (t.nW+t.wh i)
theorem Cert.le{t w d π d'}(hy:∀i,i<t.m->t.wh i<t.nH/\t.ww i<t.nW)(D:Div t d)(O:Div t d')(C:Cert t w d π):
 (tot t d'-tot t d)*(π t.si-π t.sp)+sm t.nH (fun h=>gap (As t d' h-As t d h))<=F t w d'-F t w d:=by
 have hH:∀h,h<t.nH->(draw t d' h-draw t d h)*(π t.si-π (t.nW+h))+gap (As t d' h-As t d h)<=(Bi (As t d' h).toNat-draw t d' h*bh w h)-(Bi (As t d h).toNat-draw t d h*bh w h):=fun h hh=>by
  have p1:=D.hs h hh;have p2:=O.hs h hh;have q1:=xaw D h;have q2:=xaw O h
  have el:As t d h=t.hv h-draw t d h:=rfl;have a4:As t d' h=t.hv h-draw t d' h:=rfl;have eb:draw t d' h*bh w h-draw t d h*bh w h=(draw t d' h-draw t d h)*bh w h:=by rw[Int.sub_mul]
  by_cases c:draw t d h<draw t d' h
  ·have f:=C.f3 h hh om;obtain⟨k,hk⟩:∃k:Nat,draw t d' h-draw t d h=k:=⟨(draw t d' h-draw t d h).toNat,om⟩
   obtain⟨n,hn⟩:∃n:Nat,As t d' h=n:=⟨(As t d' h).toNat,om⟩
   have H:(As t d h).toNat=n+k:=om;have hm:=xi2 n k;have ek:As t d' h-As t d h= -(k:Int):=om;have eg:gap (-(k:Int))=gap k:=by unfold gap;by_cases z:2<=(k:Int);rw[if_pos om,if_pos om];rw[if_neg om,if_neg om]
   rw[H]at f⊢;rw[ek,eg,show(As t d' h).toNat=n by omega,hk];rw[hk]at eb;have hf:=Int.mul_le_mul_of_nonneg_left (a:=π t.si-π (t.nW+h)) (b:=Bi (n+k-1)-Bi (n+k)-bh w h) (c:=(k:Int)) om om;have e1:(k:Int)*(Bi (n+k-1)-Bi (n+k)-bh w h)= -((k:Int)*(Bi (n+k)-Bi (n+k-1)))-(k:Int)*bh w h:=by rw[Int.mul_sub,Int.mul_sub,Int.mul_sub];omega
   omega
  ·by_cases c2:draw t d' h<draw t d h
   ·have f:=C.f4 h hh om;obtain⟨k,hk⟩:∃k:Nat,draw t d h-draw t d' h=k:=⟨(draw t d h-draw t d' h).toNat,om⟩
    obtain⟨n,hn⟩:∃n:Nat,As t d h=n:=⟨(As t d h).toNat,om⟩
    have H:(As t d' h).toNat=n+k:=om;have hm:=yiw n k;have ek:As t d' h-As t d h=(k:Int):=om;rw[show(As t d h).toNat=n by omega]at f⊢;have M:draw t d' h-draw t d h= -(k:Int):=om;rw[ek,H,M,Int.neg_mul];rw[M,Int.neg_mul]at eb;have hf:=Int.mul_le_mul_of_nonneg_left (a:=π (t.nW+h)-π t.si) (b:=Bi (n+1)-Bi n+bh w h) (c:=(k:Int)) om om;have e1:(k:Int)*(Bi (n+1)-Bi n+bh w h)=(k:Int)*(Bi (n+1)-Bi n)+(k:Int)*bh w h:=by rw[Int.mul_add]
    have e2:(k:Int)*(π (t.nW+h)-π t.si)= -((k:Int)*(π t.si-π (t.nW+h))):=by rw[<- Int.mul_neg];congr 1;omega
    omega
   ·have e:draw t d' h=draw t d h:=om;have e':As t d' h=As t d h:=om;rw[e,e',Int.sub_self,Int.sub_self,Int.zero_mul];simp[gap]
 have hW:∀x,x<t.nW->(give t d' x-give t d x)*(π x-π t.sp)<= -(give t d' x*bw w x-give t d x*bw w x):=fun x V=>by
  have p1:=D.ws x V;have p2:=O.ws x V;have q1:=xsd D x;have q2:=xsd O x
  have el:has t d x=t.wv x-give t d x:=rfl;have eb: -(give t d' x*bw w x-give t d x*bw w x)=(give t d' x-give t d x)*(-bw w x):=by rw[Int.mul_neg,Int.sub_mul]
  rw[eb];by_cases c:give t d x<give t d' x
  ·have f:=C.f1 x V om;exact Int.mul_le_mul_of_nonneg_left om om
  ·by_cases c2:give t d' x<give t d x
   ·have f:=C.f2 x V om;have:=Int.mul_le_mul_of_nonneg_left (a:=π t.sp-π x) (b:=bw w x) (c:=give t d x-give t d' x) om om;have e1:(give t d' x-give t d x)*(π x-π t.sp)=(give t d x-give t d' x)*(π t.sp-π x):=by
     rw[show give t d' x-give t d x= -(give t d x-give t d' x) by omega,show π x-π t.sp= -(π t.sp-π x) by omega,Int.neg_mul_neg]
    have e2:(give t d' x-give t d x)* -bw w x=(give t d x-give t d' x)*bw w x:=by
     rw[show give t d' x-give t d x= -(give t d x-give t d' x) by omega,Int.neg_mul_neg]
    rw[e1,e2];exact this
   ·have e:give t d' x=give t d x:=om;rw[e,Int.sub_self,Int.zero_mul,Int.zero_mul];exact Int.le_refl _
 have hM:∀i,i<t.m->(dv d' i-dv d i)*(π (t.nW+t.wh i)-π (t.ww i))<=0:=fun i hi=>by
  have q1:=D.pos i hi;have q2:=O.pos i hi
  have f5:=C.f5 i hi;by_cases c:dv d i<=dv d' i
  ·have:=Int.mul_le_mul_of_nonneg_left (a:=π (t.nW+t.wh i)-π (t.ww i)) (b:=0) (c:=dv d' i-dv d i) om om;rw[Int.mul_zero]at this;exact this
  ·have f6:=C.f6 i hi om;have:π (t.nW+t.wh i)-π (t.ww i)=0:=om;rw[this,Int.mul_zero];exact Int.le_refl _
 have sH:=xc9 hH;have sW:=xc9 hW;have sM:=xc9 hM;rw[xbv]at sM;rw[xrb,xuh (fun h=>Bi (As t d' h).toNat-draw t d' h*bh w h)]at sH;have eW:sm t.nW (fun x=>-(give t d' x*bw w x-give t d x*bw w x))= -(sm t.nW (fun x=>give t d' x*bw w x)-sm t.nW (fun x=>give t d x*bw w x)):=by
  rw[<- xuh];have:=yzx (fun x=>give t d' x*bw w x-give t d x*bw w x) (-1) t.nW;rw[Int.mul_neg_one]at this;rw[<- this];exact xux fun i _=>by rw[Int.mul_neg_one]
 rw[eW]at sW;have a1:sm t.nH (fun h=>(draw t d' h-draw t d h)*(π t.si-π (t.nW+h)))=sm t.m (fun i=>(dv d' i-dv d i)*(π t.si-π (t.nW+t.wh i))):=by
  rw[xux (g:=fun h=>draw t d' h*(π t.si-π (t.nW+h))-draw t d h*(π t.si-π (t.nW+h))) (fun i _=>Int.sub_mul ..),xuh,xgs (fun i hi=>(hy i hi).1) (fun h=>π t.si-π (t.nW+h)),xgs (fun i hi=>(hy i hi).1) (fun h=>π t.si-π (t.nW+h)),<- xuh];exact xux fun i _=>(Int.sub_mul ..).symm
 have a2:sm t.nW (fun x=>(give t d' x-give t d x)*(π x-π t.sp))=sm t.m (fun i=>(dv d' i-dv d i)*(π (t.ww i)-π t.sp)):=by
  rw[xux (g:=fun x=>give t d' x*(π x-π t.sp)-give t d x*(π x-π t.sp)) (fun i _=>Int.sub_mul ..),xuh,xh5 (fun i hi=>(hy i hi).2) (fun x=>π x-π t.sp),xh5 (fun i hi=>(hy i hi).2) (fun x=>π x-π t.sp),<- xuh];exact xux fun i _=>(Int.sub_mul ..).symm
 have a3:(tot t d'-tot t d)*(π t.si-π t.sp)=sm t.m (fun i=>(dv d' i-dv d i)*(π t.si-π (t.nW+t.wh i)))+sm t.m (fun i=>(dv d' i-dv d i)*(π (t.nW+t.wh i)-π (t.ww i)))+sm t.m (fun i=>(dv d' i-dv d i)*(π (t.ww i)-π t.sp)):=by
  rw[<- xrb,<- xrb,tot,tot,<- xuh,<- yzx];exact xux fun i _=>by rw[<- Int.mul_add,<- Int.mul_add];congr 1;omega
 unfold F;omega
def E7(t:Tn)(w:Wi)(d:List Int)(x:Nat):List Arc:=
 (if 0<has t d x then [⟨t.sp,x,-bw w x,-1,0⟩]else [])++(if has t d x<t.wv x then [⟨x,t.sp,bw w x,-1,0⟩]else [])
def Ez(t:Tn)(w:Wi)(d:List Int)(h:Nat):List Arc:=
 (if 0<As t d h then [⟨t.nW+h,t.si,Bi ((As t d h).toNat-1)-Bi (As t d h).toNat-bh w h,-1,0⟩]else [])++
 (if As t d h<t.hv h then [⟨t.si,t.nW+h,Bi ((As t d h).toNat+1)-Bi (As t d h).toNat+bh w h,-1,0⟩]else [])
def Fg(t:Tn)(d:List Int)(i:Nat):List Arc:=
 ⟨t.ww i,t.nW+t.wh i,0,i,1⟩::(if 0<dv d i then [⟨t.nW+t.wh i,t.ww i,0,i,-1⟩]else [])
def Bh(t:Tn)(w:Wi)(d:List Int):List Arc:=(List.range t.nW).flatMap (E7 t w d)++((List.range t.nH).flatMap (Ez t w d)++(List.range t.m).flatMap (Fg t d))
inductive Kind (t:Tn) (w:Wi) (d:List Int):Arc->Prop
 |k1 {x}:x<t.nW->0<has t d x->Kind t w d ⟨t.sp,x,-bw w x,-1,0⟩
 |k2 {x}:x<t.nW->has t d x<t.wv x->Kind t w d ⟨x,t.sp,bw w x,-1,0⟩
 |k3 {h}:h<t.nH->0<As t d h->Kind t w d ⟨t.nW+h,t.si,Bi ((As t d h).toNat-1)-Bi (As t d h).toNat-bh w h,-1,0⟩
 |k4 {h}:h<t.nH->As t d h<t.hv h->Kind t w d ⟨t.si,t.nW+h,Bi ((As t d h).toNat+1)-Bi (As t d h).toNat+bh w h,-1,0⟩
 |k5 {i}:i<t.m->Kind t w d ⟨t.ww i,t.nW+t.wh i,0,i,1⟩
 |k6 {i}:i<t.m->0<dv d i->Kind t w d ⟨t.nW+t.wh i,t.ww i,0,i,-1⟩
theorem xyj{t w d a}:a∈Bh t w d<->Kind t w d a:=by
 constructor
 ·intro h;simp only[Bh,List.mem_append,List.mem_flatMap,List.mem_range]at h;rcases h with⟨x,H,h⟩|⟨x,H,h⟩|⟨i,hi,h⟩
  ·simp only[E7,List.mem_append]at h;rcases h with h|h
   ·by_cases c:0<has t d x
    ·rw[if_pos c,List.mem_singleton]at h;subst h;exact .k1 H c
    ·rw[if_neg c]at h;cases h
   ·by_cases c:has t d x<t.wv x
    ·rw[if_pos c,List.mem_singleton]at h;subst h;exact .k2 H c
    ·rw[if_neg c]at h;cases h
  ·simp only[Ez,List.mem_append]at h;rcases h with h|h
   ·by_cases c:0<As t d x
    ·rw[if_pos c,List.mem_singleton]at h;subst h;exact .k3 H c
    ·rw[if_neg c]at h;cases h
   ·by_cases c:As t d x<t.hv x
    ·rw[if_pos c,List.mem_singleton]at h;subst h;exact .k4 H c
    ·rw[if_neg c]at h;cases h
  ·simp only[Fg,List.mem_cons]at h;rcases h with rfl|h
   ·exact .k5 hi
   ·by_cases c:0<dv d i
    ·rw[if_pos c,List.mem_singleton]at h;subst h;exact .k6 hi c
    ·rw[if_neg c]at h;cases h
 ·intro h;simp only[Bh,List.mem_append,List.mem_flatMap,List.mem_range];cases h with
  |@k1 x H c=>exact .inl ⟨x,H,by simp[E7,c]⟩
  |@k2 x H c=>exact .inl ⟨x,H,by simp[E7,c]⟩
  |@k3 x H c=>exact .inr (.inl ⟨x,H,by simp[Ez,c]⟩)
  |@k4 x H c=>exact .inr (.inl ⟨x,H,by simp[Ez,c]⟩)
  |@k5 i hi=>exact .inr (.inr ⟨i,hi,by simp[Fg]⟩)
  |@k6 i hi c=>exact .inr (.inr ⟨i,hi,by simp[Fg,c]⟩)
theorem yiv{t w d π}(f:M1 (Bh t w d) π):Cert t w d π where
 f1 x hx c:=by have:=f _ (xyj.2 (.k1 hx c));simp only at this;omega
 f2 x hx c:=f _ (xyj.2 (.k2 hx c))
 f3 x hx c:=f _ (xyj.2 (.k3 hx c))
 f4 x hx c:=f _ (xyj.2 (.k4 hx c))
 f5 i hi:=by have:=f _ (xyj.2 (.k5 (w:=w) (d:=d) hi));simp only at this;omega
 f6 i hi c:=by have:=f _ (xyj.2 (.k6 (w:=w) hi c));simp only at this;omega
theorem xl2{t w d π}(C:Cert t w d π):M1 (Bh t w d) π:=fun a H=>by
 cases xyj.1 H with
 |k1 hx c=>have:=C.f1 _ hx c;simp only;omega
 |k2 hx c=>exact C.f2 _ hx c
 |k3 hx c=>exact C.f3 _ hx c
 |k4 hx c=>exact C.f4 _ hx c
 |k5 hi=>have:=C.f5 _ hi;simp only;omega
 |k6 hi c=>have:=C.f6 _ hi c;simp only;omega
def nN(t:Tn):=t.nW+t.nH+2
theorem xxc{w d}(H:∀i,i<t.m->t.wh i<t.nH/\t.ww i<t.nW):∀a∈Bh t w d,a.fr<nN t/\a.to<nN t:=fun a M=>by
 simp only[nN];cases xyj.1 M with
 |k1 hx c=>exact⟨by simp only[Tn.sp];omega,by simp only;omega⟩
 |k2 hx c=>exact⟨by simp only;omega,by simp only[Tn.sp];omega⟩
 |k3 hx c=>exact⟨by simp only;omega,by simp only[Tn.si];omega⟩
 |k4 hx c=>exact⟨by simp only[Tn.si];omega,by simp only;omega⟩
 |@k5 i hi=>have:=H i hi;exact⟨by simp only;omega,by simp only;omega⟩
 |@k6 i hi c=>have:=H i hi;exact⟨by simp only;omega,by simp only;omega⟩
structure Sg(w:Wi):Prop where
 lo: -1<=w.sign
 hi:w.sign<=1
theorem Sg.bh{w}(S:Sg w)(h): -1<=bh w h/\bh w h<=1:=by have:=S.lo;have:=S.hi;unfold Flow.bh;split<;>omega
theorem Sg.bw{w}(S:Sg w)(h): -1<=bw w h/\bw w h<=1:=by have:=S.lo;have:=S.hi;unfold Flow.bw;split<;>omega
def cC:Int:=1000*7^9+1
theorem xem{w d}(O:Ok t)(S:Sg w)(D:Div t d):∀a∈Bh t w d,-cC<=a.cost/\a.cost<=cC:=fun a ha=>by
 have e9:Bi 9+1=cC:=rfl;have h0:=xsz 0;cases xyj.1 ha with
 |@k1 x hx c=>have:=xsz 9;have:=S.bw x;simp only;omega
 |@k2 x hx c=>have:=xsz 9;have:=S.bw x;simp only;omega
 |@k3 h hx c=>
   have V:=O.h h hx;have dn:=xaw D h;have H:As t d h=t.hv h-draw t d h:=rfl
   have m1:=xav (show(As t d h).toNat<=9 by omega);have m2:=xav (show(As t d h).toNat-1<=9 by omega);have p1:=xsz (As t d h).toNat;have M:=xsz ((As t d h).toNat-1);have:=S.bh h;simp only;omega
 |@k4 h hx c=>
   have V:=O.h h hx;have dn:=xaw D h;have H:As t d h=t.hv h-draw t d h:=rfl
   have m1:=xav (show(As t d h).toNat<=9 by omega);have m2:=xav (show(As t d h).toNat+1<=9 by omega);have p1:=xsz (As t d h).toNat;have M:=xsz ((As t d h).toNat+1);have:=S.bh h;simp only;omega
 |k5 hi=>have:=xsz 9;simp only;omega
 |k6 hi c=>have:=xsz 9;simp only;omega
def sp_(f:Arc->Int):List Arc->Int
 |[]=>0
 |a::p=>f a+sp_ f p
def is(P:Prop)[Decidable P]:Int:=if P then 1 else 0
theorem xuj[Decidable P]:0<=is P:=by unfold is;split<;>decide
theorem xrl{f g:Arc->Int}:∀{p},(∀a∈p,f a=g a)->sp_ f p=sp_ g p
 |[],_=>rfl
 |a::p,h=>by rw[sp_,sp_,h a (List.mem_cons_self ..),xrl fun b H=>h b (List.mem_cons_of_mem _ H)]
theorem xa9{f g:Arc->Int}:∀{p},(∀a∈p,f a<=g a)->sp_ f p<=sp_ g p
 |[],_=>Int.le_refl _
 |a::p,h=>by have:=h a (List.mem_cons_self ..);have:=xa9 fun b H=>h b (List.mem_cons_of_mem _ H);simp only[sp_];omega
theorem xo0(f g:Arc->Int):∀p,sp_ (fun a=>f a+g a) p=sp_ f p+sp_ g p
 |[]=>rfl
 |a::p=>by simp only[sp_];rw[xo0 f g p];omega
theorem xk5(f g:Arc->Int):∀p,sp_ (fun a=>f a-g a) p=sp_ f p-sp_ g p
 |[]=>rfl
 |a::p=>by simp only[sp_];rw[xk5 f g p];omega
theorem xc3(f:Arc->Int)(c:Int):∀p,sp_ (fun a=>c*f a) p=c*sp_ f p
 |[]=>by simp[sp_]
 |a::p=>by simp only[sp_];rw[xc3 f c p,Int.mul_add]
theorem xtj{f:Arc->Int}{p}(h:∀a∈p,0<=f a):0<=sp_ f p:=by
 have:=xa9 (f:=fun _=>0) h;have z:∀p,sp_ (fun _=>0) p=0:=fun p=>by induction p with|nil=>rfl|cons a p ih=>rw[sp_,ih];rfl
 rw[z]at this;exact this
theorem xb9{f:Arc->Int}:∀{p},0<sp_ f p-> ∃a∈p,0<f a
 |[],h=>absurd h (by simp[sp_])
 |a::p,h=>by
   by_cases c:0<f a
   ·exact⟨a,List.mem_cons_self ..,c⟩
   ·obtain⟨b,H,hc⟩:=xb9 (f:=f) (p:=p) (by simp only[sp_]at h;omega);exact⟨b,List.mem_cons_of_mem _ H,hc⟩
theorem xt1[Decidable P](h:0<is P):P:=by unfold is at h;split at h;assumption;omega
def toN(x:Nat)(p:List Arc):Int:=sp_ (fun a=>is (a.to=x)) p
def frN(x:Nat)(p:List Arc):Int:=sp_ (fun a=>is (a.fr=x)) p
theorem bal{E sp v c p}(P:Path E sp v c p)(x:Nat):toN x p+is (x=sp)=frN x p+is (x=v):=by
 induction P with
 |nil=>rfl
 |@cons a c l _ _ ih=>
   have O:toN x (a::l)=is (a.to=x)+toN x l:=rfl;have V:frN x (a::l)=is (a.fr=x)+frN x l:=rfl;have H:is (x=a.fr)=is (a.fr=x):=by unfold is;by_cases z:x=a.fr;rw[if_pos z,if_pos z.symm];rw[if_neg z,if_neg (Ne.symm z)]
   have M:is (x=a.to)=is (a.to=x):=by unfold is;by_cases z:x=a.to;rw[if_pos z,if_pos z.symm];rw[if_neg z,if_neg (Ne.symm z)]
   omega
theorem xwp{x:Nat}:∀{p:List Arc},(p.map Arc.to).Nodup->toN x p<=1/\(x∉p.map Arc.to->toN x p=0)
 |[],_=>⟨by simp[toN,sp_],fun _=>rfl⟩
 |a::p,h=>by
   rw[List.map_cons,List.nodup_cons]at h;have H:=xwp (x:=x) h.2;have M:toN x (a::p)=is (a.to=x)+toN x p:=rfl;by_cases c:a.to=x
   ·have:=H.2 (c ▸ h.1);have:is (a.to=x)=1:=if_pos c;exact⟨om,fun z=>absurd (List.mem_cons.2 (.inl c.symm)) (by rw[List.map_cons]at z;exact z)⟩
   ·have:is (a.to=x)=0:=if_neg c;exact⟨om,fun z=>by have:=H.2 (fun y=>z (by rw[List.map_cons];exact List.mem_cons_of_mem _ y));omega⟩
theorem ymj{E sp v c p}(P:Path E sp v c p):c=sp_ Arc.cost p:=by
 induction P with
 |nil=>rfl
 |cons _ _ ih=>rw[sp_];omega
theorem xk6{E sp v c p}(P:Path E sp v c p):∀a∈p,a∈E:=by
 induction P with
 |nil=>exact fun a h=>absurd h s_
 |cons ha _ ih=>exact fun a h=>(List.mem_cons.1 h).elim (fun e=>e ▸ ha) (ih a)
def aug(d:List Int)(p:List Arc):List Int:=p.foldl (fun d a=>if 0<=a.way then d.set a.way.toNat (dv d a.way.toNat+a.more)else d) d
def dl(i:Nat)(p:List Arc):Int:=sp_ (fun a=>if a.way=(i:Int)then a.more else 0) p
theorem Ht:∀{p:List Arc}{d:List Int},(aug d p).length=d.length
 |[],_=>rfl
 |a::p,d=>by
   have:=Ht (p:=p) (d:=if 0<=a.way then d.set a.way.toNat (dv d a.way.toNat+a.more)else d);rw[show aug d (a::p)=aug (if 0<=a.way then d.set a.way.toNat (dv d a.way.toNat+a.more)else d) p from rfl,this];split<;>simp
theorem ydl{x:Int}(h:j<d.length)(i:Nat):dv (d.set j x) i=if j=i then x else dv d i:=by
 unfold dv;rw[List.getD_eq_getElem?_getD,List.getElem?_set,List.getD_eq_getElem?_getD];by_cases e:j=i
 ·rw[if_pos e,if_pos e,if_pos h];rfl
 ·rw[if_neg e,if_neg e]
theorem ydw{i:Nat}:∀{p:List Arc}{d:List Int},(∀a∈p,a.way<(d.length:Int))->dv (aug d p) i=dv d i+dl i p
 |[],d,_=>by simp[aug,dl,sp_]
 |a::p,d,h=>by
   have e:aug d (a::p)=aug (if 0<=a.way then d.set a.way.toNat (dv d a.way.toNat+a.more)else d) p:=rfl;have M:dl i (a::p)=(if a.way=(i:Int)then a.more else 0)+dl i p:=rfl;have O:=h a (List.mem_cons_self ..);rw[e,M];by_cases c:0<=a.way
   ·rw[if_pos c,ydw (fun b H=>by rw[List.length_set];exact h b (List.mem_cons_of_mem _ H)),ydl om];by_cases z:a.way=(i:Int)
    ·rw[if_pos (show a.way.toNat=i by omega),if_pos z,show a.way.toNat=i by omega];omega
    ·rw[if_neg (show ¬ a.way.toNat=i by omega),if_neg z];omega
   ·rw[if_neg c,ydw (fun b H=>h b (List.mem_cons_of_mem _ H)),if_neg (show ¬ a.way=(i:Int) by omega)];omega
theorem xpm(g:Nat->Nat)(x m:Nat):∀{p:List Arc},(∀a∈p,a.way<(m:Int))->sm m (fun i=>if g i=x then dl i p else 0)=sp_ (fun a=>if 0<=a.way/\g a.way.toNat=x then a.more else 0) p
 |[],_=>by
   rw[xux (g:=fun _=>0) (fun i _=>by split<;>rfl),xbv];rfl
 |a::p,h=>by
   have e:∀i,(if g i=x then dl i (a::p)else 0)=(if a.way.toNat=i then(if 0<=a.way/\g a.way.toNat=x then a.more else 0)else 0)+(if g i=x then dl i p else 0):=fun i=>by
    have O:dl i (a::p)=(if a.way=(i:Int)then a.more else 0)+dl i p:=rfl;rw[O];by_cases c:g i=x
    ·rw[if_pos c,if_pos c];by_cases z:a.way=(i:Int)
     ·have:a.way.toNat=i:=om;rw[if_pos z,if_pos this,if_pos ⟨om,by rw[this];exact c⟩]
     ·rw[if_neg z];by_cases H:a.way.toNat=i
      ·rw[if_pos H,if_neg om]
      ·rw[if_neg H]
    ·rw[if_neg c,if_neg c];by_cases H:a.way.toNat=i
     ·rw[if_pos H,if_neg (fun y=>c (by rw[<- H];exact y.2))];omega
     ·rw[if_neg H];omega
   have V:=h a (List.mem_cons_self ..);rw[xux (fun i _=>e i),xrb,xpm g x m fun b M=>h b (List.mem_cons_of_mem _ M)];simp only[sp_];congr 1;by_cases c:0<=a.way
   ·rw[xm5 (fun _=>if 0<=a.way/\g a.way.toNat=x then a.more else 0) om]
   ·rw[xux (g:=fun _=>0) (fun i _=>by rw[if_neg (show ¬ (0<=a.way/\g a.way.toNat=x) from fun z=>c z.1)];split<;>rfl),xbv,if_neg (fun z=>c z.1)]
theorem Kind.eqs{t w d a}(K:Kind t w d a):
 (∃x,x<t.nW/\0<has t d x/\a.fr=t.sp/\a.to=x/\a.cost= -bw w x/\a.way= -1/\a.more=0)\/
 (∃x,x<t.nW/\a.fr=x/\a.to=t.sp/\a.way= -1/\a.more=0)\/
 (∃h,h<t.nH/\0<As t d h/\a.fr=t.nW+h/\a.to=t.si/\a.cost=Bi ((As t d h).toNat-1)-Bi (As t d h).toNat-bh w h/\a.way= -1/\a.more=0)\/
 (∃h,h<t.nH/\a.fr=t.si/\a.to=t.nW+h/\a.way= -1/\a.more=0)\/
 (∃i:Nat,i<t.m/\a.fr=t.ww i/\a.to=t.nW+t.wh i/\a.cost=0/\a.way=i/\a.way.toNat=i/\a.more=1)\/
 (∃i:Nat,i<t.m/\0<dv d i/\a.fr=t.nW+t.wh i/\a.to=t.ww i/\a.cost=0/\a.way=i/\a.way.toNat=i/\a.more= -1):=by
 cases K with
 |@k1 x hx c=>exact .inl ⟨x,hx,c,rfl,rfl,rfl,rfl,rfl⟩
 |@k2 x hx c=>exact .inr (.inl ⟨x,hx,rfl,rfl,rfl,rfl⟩)
 |@k3 h hx c=>exact .inr (.inr (.inl ⟨h,hx,c,rfl,rfl,rfl,rfl,rfl⟩))
 |@k4 h hx c=>exact .inr (.inr (.inr (.inl ⟨h,hx,rfl,rfl,rfl,rfl⟩)))
 |@k5 i hi=>exact .inr (.inr (.inr (.inr (.inl ⟨i,hi,rfl,rfl,rfl,rfl,Int.toNat_natCast i,rfl⟩))))
 |@k6 i hi c=>exact .inr (.inr (.inr (.inr (.inr ⟨i,hi,c,rfl,rfl,rfl,rfl,Int.toNat_natCast i,rfl⟩))))
theorem yvg{t w d π c p}(hy:∀i,i<t.m->t.wh i<t.nH/\t.ww i<t.nW)(D:Div t d)(C:Cert t w d π)(P:Path (Bh t w d) t.sp t.si c p)
 (nd:(t.sp::p.map Arc.to).Nodup)(a3:∀a∈p,π a.fr+a.cost=π a.to):Div t (aug d p)/\Cert t w (aug d p) π/\tot t d<tot t (aug d p):=by
 have hk:∀a∈p,Kind t w d a:=fun a ha=>xyj.1 (xk6 P a ha);have hw:∀a∈p,a.way<(t.m:Int):=fun a ha=>by rcases(hk a ha).eqs with⟨x',H,M,O,V,e5,e6,e7⟩|⟨x',H,M,O,V,e5⟩|⟨h',H,M,O,V,e5,e6,e7⟩|⟨h',H,M,O,V,e5⟩|⟨i,H,M,O,V,e5,e6,e7⟩|⟨i,H,e0,M,O,V,e5,e6,e7⟩<;>omega
 rw[List.nodup_cons]at nd;have c4:t.si≠t.sp:=by simp only[Tn.si,Tn.sp];omega
 have bS:=bal P t.si;have c1:∀x,0<=frN x p:=fun x=>xtj fun a _=>xuj;have c7:is (t.si=t.si)=1:=if_pos rfl;have c6:is (t.si=t.sp)=0:=if_neg c4;have t1:=(xwp (x:=t.si) nd.2).1;have c8:frN t.si p=0:=by have:=c1 t.si;omega
 have c5:toN t.si p=1:=by have:=c1 t.si;omega
 have a5:∀a∈p,a.fr≠t.si:=fun a ha z=>by
  have:0<frN t.si p:=by
   obtain⟨l1,l2,rfl⟩:=List.append_of_mem ha;have b5:∀(f:Arc->Int)l1 l2,sp_ f (l1++l2)=sp_ f l1+sp_ f l2:=fun f l1 l2=>by
    induction l1 with
    |nil=>simp[sp_]
    |cons b l ih=>rw[List.cons_append,sp_,sp_,ih];omega
   unfold frN;rw[b5,sp_];have h1:0<=sp_ (fun a=>is (a.fr=t.si)) l1:=xtj fun a _=>xuj;have h2:0<=sp_ (fun a=>is (a.fr=t.si)) l2:=xtj fun a _=>xuj;have:is (a.fr=t.si)=1:=if_pos z;omega
  omega
 have b8:∀a∈p,a.to≠t.sp:=fun a ha z=>nd.1 (List.mem_map.2 ⟨a,ha,z⟩);have a8:∀i,i<t.m->dv (aug d p) i=dv d i+dl i p:=fun i _=>ydw fun a ha=>by rw[D.len];exact hw a ha
 have hH:∀h,h<t.nH->draw t (aug d p) h=draw t d h+sp_ (fun a=>is (a.fr=t.nW+h/\a.to=t.si)) p:=fun h hh=>by
  have H:draw t (aug d p) h=draw t d h+sm t.m (fun i=>if t.wh i=h then dl i p else 0):=by
   unfold draw;rw[<- xrb];exact xux fun i hi=>by rw[a8 i hi];split<;>omega
  rw[H,xpm t.wh h t.m hw];have M:sp_ (fun a=>if 0<=a.way/\t.wh a.way.toNat=h then a.more else 0) p=sp_ (fun a=>(is (a.to=t.nW+h)-is (a.fr=t.nW+h))+is (a.fr=t.nW+h/\a.to=t.si)) p:=xrl fun a ha=>by
   have f1:=a5 a ha;have f2:=b8 a ha
   have es:t.sp=t.nW+t.nH:=rfl;have ei:t.si=t.nW+t.nH+1:=rfl;unfold is;rcases(hk a ha).eqs with⟨x',H,M,O,V,e5,e6,e7⟩|⟨x',H,M,O,V,e5⟩|⟨h',H,M,O,V,e5,e6,e7⟩|⟨h',H,M,O,V,e5⟩|⟨i,H,M,O,V,e5,e6,e7⟩|⟨i,H,e0,M,O,V,e5,e6,e7⟩
   ·(repeat' split)<;>omega
   ·(repeat' split)<;>omega
   ·(repeat' split)<;>omega
   ·(repeat' split)<;>omega
   ·have:=hy i H;rw[e6];(repeat' split)<;>omega
   ·have:=hy i H;rw[e6];(repeat' split)<;>omega
  rw[M,xo0,xk5];have b:=bal P (t.nW+h);have i1:is (t.nW+h=t.sp)=0:=if_neg (by simp only[Tn.sp];omega);have i2:is (t.nW+h=t.si)=0:=if_neg (by simp only[Tn.si];omega);have u1:toN (t.nW+h) p=sp_ (fun a=>is (a.to=t.nW+h)) p:=rfl;have u2:frN (t.nW+h) p=sp_ (fun a=>is (a.fr=t.nW+h)) p:=rfl;omega
 have a6:∀h,h<t.nH->sp_ (fun a=>is (a.fr=t.nW+h/\a.to=t.si)) p<=1:=fun h _=>by
  have:sp_ (fun a=>is (a.fr=t.nW+h/\a.to=t.si)) p<=toN t.si p:=xa9 fun a _=>by
   unfold is;by_cases z:a.to=t.si
   ·rw[if_pos z];split<;>omega
   ·rw[if_neg z,if_neg fun y=>z y.2];omega
  omega
 have a7:∀h,0<=sp_ (fun a=>is (a.fr=t.nW+h/\a.to=t.si)) p:=fun h=>xtj fun a _=>xuj;have c2:∀h,h<t.nH->0<sp_ (fun a=>is (a.fr=t.nW+h/\a.to=t.si)) p->0<As t d h/\π (t.nW+h)+(Bi ((As t d h).toNat-1)-Bi (As t d h).toNat-bh w h)=π t.si:=fun h hh z=>by
  obtain⟨a,ha,hp⟩:=xb9 z;obtain⟨z1,z2⟩:=xt1 hp;have tg:=a3 a ha;have f1:=a5 a ha;have es:t.sp=t.nW+t.nH:=rfl;have ei:t.si=t.nW+t.nH+1:=rfl;rcases(hk a ha).eqs with⟨x',H,M,O,V,e5,e6,e7⟩|⟨x',H,M,O,V,e5⟩|⟨h',H,M,O,V,e5,e6,e7⟩|⟨h',H,M,O,V,e5⟩|⟨i,H,M,O,V,e5,e6,e7⟩|⟨i,H,e0,M,O,V,e5,e6,e7⟩
  ·omega
  ·omega
  ·obtain rfl:h'=h:=om;exact⟨M,by rw[O,V,e5]at tg;exact tg⟩
  ·omega
  ·have:=hy i H;omega
  ·have:=hy i H;omega
 have hW:∀x,x<t.nW->give t (aug d p) x=give t d x+sp_ (fun a=>is (a.fr=t.sp/\a.to=x)) p:=fun x hx=>by
  have H:give t (aug d p) x=give t d x+sm t.m (fun i=>if t.ww i=x then dl i p else 0):=by
   unfold give;rw[<- xrb];exact xux fun i hi=>by rw[a8 i hi];split<;>omega
  rw[H,xpm t.ww x t.m hw];have M:sp_ (fun a=>if 0<=a.way/\t.ww a.way.toNat=x then a.more else 0) p=sp_ (fun a=>(is (a.fr=x)-is (a.to=x))+is (a.fr=t.sp/\a.to=x)) p:=xrl fun a ha=>by
   have f1:=a5 a ha;have f2:=b8 a ha
   have es:t.sp=t.nW+t.nH:=rfl;have ei:t.si=t.nW+t.nH+1:=rfl;unfold is;rcases(hk a ha).eqs with⟨x',H,M,O,V,e5,e6,e7⟩|⟨x',H,M,O,V,e5⟩|⟨h',H,M,O,V,e5,e6,e7⟩|⟨h',H,M,O,V,e5⟩|⟨i,H,M,O,V,e5,e6,e7⟩|⟨i,H,e0,M,O,V,e5,e6,e7⟩
   ·(repeat' split)<;>omega
   ·(repeat' split)<;>omega
   ·(repeat' split)<;>omega
   ·(repeat' split)<;>omega
   ·have:=hy i H;rw[e6];(repeat' split)<;>omega
   ·have:=hy i H;rw[e6];(repeat' split)<;>omega
  rw[M,xo0,xk5];have b:=bal P x;have i1:is (x=t.sp)=0:=if_neg (by simp only[Tn.sp];omega);have i2:is (x=t.si)=0:=if_neg (by simp only[Tn.si];omega);have u1:toN x p=sp_ (fun a=>is (a.to=x)) p:=rfl;have u2:frN x p=sp_ (fun a=>is (a.fr=x)) p:=rfl;omega
 have b7:∀x,sp_ (fun a=>is (a.fr=t.sp/\a.to=x)) p<=1:=fun x=>by
  have:sp_ (fun a=>is (a.fr=t.sp/\a.to=x)) p<=toN x p:=xa9 fun a _=>by
   unfold is;by_cases z:a.to=x
   ·rw[if_pos z];split<;>omega
   ·rw[if_neg z,if_neg fun y=>z y.2];omega
  have:=(xwp (x:=x) nd.2).1;omega
 have b4:∀x,0<=sp_ (fun a=>is (a.fr=t.sp/\a.to=x)) p:=fun x=>xtj fun a _=>xuj;have b9:∀x,x<t.nW->0<sp_ (fun a=>is (a.fr=t.sp/\a.to=x)) p->0<has t d x/\π t.sp+ -bw w x=π x:=fun x hx z=>by
  obtain⟨a,ha,hp⟩:=xb9 z;obtain⟨z1,z2⟩:=xt1 hp;have tg:=a3 a ha;have f1:=a5 a ha;have es:t.sp=t.nW+t.nH:=rfl;have ei:t.si=t.nW+t.nH+1:=rfl;rcases(hk a ha).eqs with⟨x',H,M,O,V,e5,e6,e7⟩|⟨x',H,M,O,V,e5⟩|⟨h',H,M,O,V,e5,e6,e7⟩|⟨h',H,M,O,V,e5⟩|⟨i,H,M,O,V,e5,e6,e7⟩|⟨i,H,e0,M,O,V,e5,e6,e7⟩
  ·obtain rfl:x'=x:=om;exact⟨M,by rw[O,V,e5]at tg;exact tg⟩
  ·omega
  ·omega
  ·omega
  ·have:=hy i H;omega
  ·have:=hy i H;omega
 have hY:∀i,i<t.m->dl i p=sp_ (fun a=>is (a.way=i/\a.more=1)) p-sp_ (fun a=>is (a.way=i/\a.more= -1)) p:=fun i _=>by
  unfold dl;rw[<- xk5];exact xrl fun a ha=>by
   unfold is;rcases(hk a ha).eqs with⟨x',H,M,O,V,e5,e6,e7⟩|⟨x',H,M,O,V,e5⟩|⟨h',H,M,O,V,e5,e6,e7⟩|⟨h',H,M,O,V,e5⟩|⟨i,H,M,O,V,e5,e6,e7⟩|⟨i,H,e0,M,O,V,e5,e6,e7⟩<;>(repeat' split)<;>omega
 have c3:∀i,sp_ (fun a=>is (a.way=(i:Nat)/\a.more= -1)) p<=1:=fun i=>by
  have:sp_ (fun a=>is (a.way=(i:Nat)/\a.more= -1)) p<=toN (t.ww i) p:=xa9 fun a ha=>by
   unfold is;rcases(hk a ha).eqs with⟨x',H,M,O,V,e5,e6,e7⟩|⟨x',H,M,O,V,e5⟩|⟨h',H,M,O,V,e5,e6,e7⟩|⟨h',H,M,O,V,e5⟩|⟨j,H,M,O,V,e5,e6,e7⟩|⟨j,H,e0,M,O,V,e5,e6,e7⟩
   ·(repeat' split)<;>omega
   ·(repeat' split)<;>omega
   ·(repeat' split)<;>omega
   ·(repeat' split)<;>omega
   ·(repeat' split)<;>omega
   ·by_cases z:j=i
    ·subst z;(repeat' split)<;>omega
    ·(repeat' split)<;>omega
  have:=(xwp (x:=t.ww i) nd.2).1;omega
 have b6:∀i,0<sp_ (fun a=>is (a.way=(i:Nat)/\a.more= -1)) p->0<dv d i:=fun i z=>by
  obtain⟨a,ha,hp⟩:=xb9 z;obtain⟨z1,z2⟩:=xt1 hp;rcases(hk a ha).eqs with⟨x',H,M,O,V,e5,e6,e7⟩|⟨x',H,M,O,V,e5⟩|⟨h',H,M,O,V,e5,e6,e7⟩|⟨h',H,M,O,V,e5⟩|⟨j,H,M,O,V,e5,e6,e7⟩|⟨j,H,e0,M,O,V,e5,e6,e7⟩
  ·omega
  ·omega
  ·omega
  ·omega
  ·omega
  ·obtain rfl:j=i:=om;exact e0
 have b0:∀i,0<=sp_ (fun a=>is (a.way=(i:Nat)/\a.more=1)) p:=fun i=>xtj fun a _=>xuj;have b3:∀i,0<=sp_ (fun a=>is (a.way=(i:Nat)/\a.more= -1)) p:=fun i=>xtj fun a _=>xuj;have a9:∀i,0<sp_ (fun a=>is (a.way=(i:Nat)/\a.more=1)) p->π (t.ww i)=π (t.nW+t.wh i):=fun i z=>by
  obtain⟨a,ha,hp⟩:=xb9 z;obtain⟨z1,z2⟩:=xt1 hp;have tg:=a3 a ha;rcases(hk a ha).eqs with⟨x',H,M,O,V,e5,e6,e7⟩|⟨x',H,M,O,V,e5⟩|⟨h',H,M,O,V,e5,e6,e7⟩|⟨h',H,M,O,V,e5⟩|⟨j,H,M,O,V,e5,e6,e7⟩|⟨j,H,e0,M,O,V,e5,e6,e7⟩
  ·omega
  ·omega
  ·omega
  ·omega
  ·obtain rfl:j=i:=om;rw[M,O,V]at tg;omega
  ·omega
 have a2:∀h d,As t d h=t.hv h-draw t d h:=fun _ _=>rfl;have a4:∀x d,has t d x=t.wv x-give t d x:=fun _ _=>rfl;refine⟨⟨Ht.trans D.len,fun i hi=>?_,fun h hh=>?_,fun x hx=>?_⟩,⟨fun x hx c=>?_,fun x hx c=>?_,fun h hh c=>?_,fun h hh c=>?_,fun i hi=>C.f5 i hi,fun i hi c=>?_⟩,?_⟩
 ·rw[a8 i hi,hY i hi];have:=D.pos i hi;have:=b0 i;have:=c3 i;have:=b6 i;have:=b3 i
  omega
 ·rw[hH h hh];have:=a6 h hh;have:=a7 h;have:=c2 h hh;have:=D.hs h hh;have:=a2 h d
  omega
 ·rw[hW x hx];have:=b7 x;have:=b4 x;have:=b9 x hx;have:=D.ws x hx;have:=a4 x d
  omega
 ·refine C.f1 x hx ?_;rw[a4,hW x hx]at c;have:=b4 x;have:=a4 x d;omega
 ·rw[a4,hW x hx]at c;by_cases z:0<sp_ (fun a=>is (a.fr=t.sp/\a.to=x)) p
  ·have:=(b9 x hx z).2;omega
  ·exact C.f2 x hx (by have:=b4 x;have:=a4 x d;omega)
 ·rw[a2,hH h hh]at c⊢;have i0:=a7 h;have i1:=a6 h hh;have el:=a2 h d;have f:=C.f3 h hh om
  by_cases z:0<sp_ (fun a=>is (a.fr=t.nW+h/\a.to=t.si)) p
  ·have e:sp_ (fun a=>is (a.fr=t.nW+h/\a.to=t.si)) p=1:=om;rw[e]at c⊢;obtain⟨n,hn⟩:∃n:Nat,(As t d h).toNat=n+2:=⟨(As t d h).toNat-2,om⟩
   rw[hn]at f;rw[show(t.hv h-(draw t d h+1)).toNat=n+1 by omega];simp only[Nat.add_sub_cancel,show n+2-1=n+1 from rfl]at f⊢;rw[xcj (n+1),xcj n]at f;rw[xcj n];have:=xsz n;omega
  ·have e:sp_ (fun a=>is (a.fr=t.nW+h/\a.to=t.si)) p=0:=om;rw[e,Int.add_zero,<- a2];exact f
 ·rw[a2,hH h hh]at c⊢;have i0:=a7 h;have i1:=a6 h hh;have el:=a2 h d
  by_cases z:0<sp_ (fun a=>is (a.fr=t.nW+h/\a.to=t.si)) p
  ·have e:sp_ (fun a=>is (a.fr=t.nW+h/\a.to=t.si)) p=1:=om;have⟨g1,g2⟩:=c2 h hh z;rw[e]at c⊢;obtain⟨n,hn⟩:∃n:Nat,(As t d h).toNat=n+1:=⟨(As t d h).toNat-1,om⟩
   rw[hn]at g2;rw[show(t.hv h-(draw t d h+1)).toNat=n by omega];simp only[Nat.add_sub_cancel]at g2;omega
  ·have e:sp_ (fun a=>is (a.fr=t.nW+h/\a.to=t.si)) p=0:=om;rw[e,Int.add_zero,<- a2];rw[e,Int.add_zero,<- a2]at c;exact C.f4 h hh c
 ·by_cases z:0<dv d i
  ·exact C.f6 i hi z
  ·rw[a8 i hi,hY i hi]at c;have:=a9 i;have:=b3 i;have:=b0 i
   have:=D.pos i hi;have e:=a9 i om;omega
 ·rw[<- xds fun i hi=>(hy i hi).1,<- xds fun i hi=>(hy i hi).1,xux hH,xrb];have:0<sm t.nH (fun h=>sp_ (fun a=>is (a.fr=t.nW+h/\a.to=t.si)) p):=by
   obtain⟨a,ha,hp⟩:=xb9 (show 0<sp_ (fun a=>is (a.to=t.si)) p by have:toN t.si p=sp_ (fun a=>is (a.to=t.si)) p:=rfl;omega);have z:=xt1 hp;have f1:=a5 a ha;obtain⟨h,hh,ef⟩:∃h,h<t.nH/\a.fr=t.nW+h:=by
    have es:t.sp=t.nW+t.nH:=rfl;have ei:t.si=t.nW+t.nH+1:=rfl;rcases(hk a ha).eqs with⟨x',H,M,O,V,e5,e6,e7⟩|⟨x',H,M,O,V,e5⟩|⟨h',H,M,O,V,e5,e6,e7⟩|⟨h',H,M,O,V,e5⟩|⟨i,H,M,O,V,e5,e6,e7⟩|⟨i,H,e0,M,O,V,e5,e6,e7⟩
    ·omega
    ·omega
    ·exact⟨h',H,O⟩
    ·omega
    ·have:=hy i H;omega
    ·have:=hy i H;omega
   have m1:=yaz (f:=fun h=>sp_ (fun a=>is (a.fr=t.nW+h/\a.to=t.si)) p) (fun i _=>a7 i) hh;have m2:0<sp_ (fun a=>is (a.fr=t.nW+h/\a.to=t.si)) p:=by
    obtain⟨l1,l2,rfl⟩:=List.append_of_mem ha;have b5:∀(f:Arc->Int)l1 l2,sp_ f (l1++l2)=sp_ f l1+sp_ f l2:=fun f l1 l2=>by
     induction l1 with
     |nil=>simp[sp_]
     |cons b l ih=>rw[List.cons_append,sp_,sp_,ih];omega
    rw[b5,sp_];have h1:0<=sp_ (fun a=>is (a.fr=t.nW+h/\a.to=t.si)) l1:=xtj fun a _=>xuj;have h2:0<=sp_ (fun a=>is (a.fr=t.nW+h/\a.to=t.si)) l2:=xtj fun a _=>xuj;have:is (a.fr=t.nW+h/\a.to=t.si)=1:=if_pos ⟨ef,z⟩;omega
   omega
  omega
def bf(t:Tn)(w:Wi)(d:List Int):Lab:=Bu (Bh t w d) (nN t) (Fa (nN t) t.sp)
def Mm(s:Lab)(sp:Nat):Nat->Nat->List Arc
 |0,_=>[]
 |f+1,v=>if v=sp then []else B s v::Mm s sp f (B s v).fr
def D6(t:Tn)(w:Wi)(d:List Int):Int:=L (bf t w d) t.si
def Br(t:Tn)(w:Wi)(d:List Int):List Arc:=if D6 t w d<far then Mm (bf t w d) t.sp (nN t) t.si else []
def Fi(t:Tn)(w:Wi):Nat->List Int->List Int
 |0,d=>d
 |n+1,d=>if 0<=D6 t w d then d else Fi t w n (aug d (Br t w d))
def C6(t:Tn)(w:Wi):List Int:=Fi t w ((sm t.nH t.hv).toNat+1) (List.replicate t.m 0)
theorem yvq{s sp v p}(C:E0 s sp v p):∀{f},p.length<f->Mm s sp f v=p:=by
 induction C with
 |nil=>intro f h;cases f with|zero=>omega|succ f=>rw[Mm,if_pos rfl]
 |@cons v p ne _ ih=>
   intro f h;cases f with
   |zero=>omega
   |succ f=>rw[Mm,if_neg ne,ih (by rw[List.length_cons]at h;omega)]
structure Good(t:Tn)(w:Wi)(d:List Int):Prop where
 div:Div t d
 low:∃π,Cert t w d π/\π t.si<=π t.sp
structure Pw(t:Tn)(w:Wi)(d:List Int):Prop extends Good t w d where
 high:∃π,Cert t w d π/\π t.sp<=π t.si
 cut:∃R:Nat->Bool,R t.sp=true/\R t.si=false/\ ∀a∈Bh t w d,R a.fr=true->R a.to=true
theorem yvh(f:Nat->Int):∀n,∃M,∀v,v<n->f v<=M
 |0=>⟨0,fun v h=>absurd h om⟩
 |n+1=>by
   obtain⟨M,h⟩:=yvh f n;refine⟨max M (f n),fun v hv=>?_⟩;by_cases e:v=n
   ·subst e;omega
   ·have:=h v om;omega
structure Find(t:Tn)(w:Wi)(d:List Int):Prop where
 z:L (bf t w d) t.sp=0
 top:∀v,L (bf t w d) v<=far
 closed:∀a∈Bh t w d,L (bf t w d) a.fr<far->L (bf t w d) a.to<far/\L (bf t w d) a.to<=L (bf t w d) a.fr+a.cost
 way:D6 t w d<far->Path (Bh t w d) t.sp t.si (D6 t w d) (Br t w d)/\E0 (bf t w d) t.sp t.si (Br t w d)/\(t.sp::(Br t w d).map Arc.to).Nodup/\
  ∀a∈Br t w d,a∈Bh t w d/\L (bf t w d) a.fr+a.cost=L (bf t w d) a.to/\L (bf t w d) a.fr<far
theorem Good.find{t w d}(O:Ok t)(S:Sg w)(G:Good t w d):Find t w d:=by
 obtain⟨π,C,_⟩:=G.low;have e9:cC*nN t<far:=by
  have:=O.nh;have:=O.nw
  have H:(nN t:Int)<=13:=by simp only[nN];omega
  have:=Int.mul_le_mul_of_nonneg_left H (show(0:Int)<=cC by decide);have:cC*13<far:=by decide
  omega
 have hs:t.sp<nN t:=by simp only[Tn.sp,nN];omega
 have hi:t.si<nN t:=by simp only[Tn.si,nN];omega
 obtain⟨H,h2,h3,h4⟩:=ylh (xl2 C) hs (xxc O.y) (fun a h=>(xem O S G.div a h).2) d_ e9 (s:=bf t w d) rfl;refine⟨H,h2,h3,fun hf=>?_⟩;obtain⟨p,c,P,V,tg⟩:=h4 t.si hi hf;have hl:p.length<nN t:=by
  have:=xpf (N:=nN t) V fun z M=>by
   rcases List.mem_cons.1 M with rfl|M
   ·exact hs
   ·obtain⟨b,hb,rfl⟩:=List.mem_map.1 M;exact(xxc O.y b (xk6 P b hb)).2
  simp only[List.length_cons,List.length_map]at this;omega
 have e:Br t w d=p:=by rw[Br,if_pos hf,yvq c hl]
 rw[e];exact⟨P,c,V,tg⟩
theorem Good.Qa{t w d}(O:Ok t)(S:Sg w)(G:Good t w d):∃π,Cert t w d π/\(∀v,L (bf t w d) v<far->π v=L (bf t w d) v)/\(¬ D6 t w d<far->0<=π t.si):=by
 have Fd:=G.find O S;obtain⟨π,C,_⟩:=G.low;obtain⟨M,hM⟩:=yvh (fun v=>far+cC-π v) (nN t);have hi:t.si<nN t:=by simp only[Tn.si,nN];omega
 have V:0<=far:=by decide
 have a2:0<=cC:=by decide
 refine⟨fun v=>if L (bf t w d) v<far then L (bf t w d) v else M+π v,yiv fun a H=>?_,fun v h=>if_pos h,fun h=>?_⟩
 ·have⟨e1,e2⟩:=xxc O.y a H;have cc:=xem O S G.div a H;have F1:=xl2 C a H;have m1:=hM _ e1;by_cases f:L (bf t w d) a.fr<far
  ·have:=Fd.closed a H f;simp only[if_pos f,if_pos this.1];omega
  ·by_cases g:L (bf t w d) a.to<far
   ·simp only[if_neg f,if_pos g];omega
   ·simp only[if_neg f,if_neg g];omega
 ·have m1:=hM _ hi;have e:¬ L (bf t w d) t.si<far:=h;simp only[if_neg e];omega
theorem Good.next{t w d}(O:Ok t)(S:Sg w)(G:Good t w d)(h:D6 t w d<0):Good t w (aug d (Br t w d))/\tot t d<tot t (aug d (Br t w d)):=by
 have M:0<far:=by decide
 have V:=G.find O S;obtain⟨π,C,H,_⟩:=G.Qa O S;obtain⟨P,_,nd,tg⟩:=V.way om;have A:=yvg O.y G.div C P nd fun a ha=>by
  obtain⟨h1,h2,h3⟩:=tg a ha;rw[H _ h3,H _ (V.closed a h1 h3).1];exact h2
 refine⟨⟨A.1,π,A.2.1,?_⟩,A.2.2⟩;have h':L (bf t w d) t.si<0:=h;rw[H _ om,H _ (by rw[V.z];exact M),V.z];omega
theorem Good.last{t w d}(O:Ok t)(S:Sg w)(G:Good t w d)(h:0<=D6 t w d):Pw t w d:=by
 have V:0<far:=by decide
 have Fd:=G.find O S;obtain⟨π,C,a4,h0⟩:=G.Qa O S;have a3:¬ D6 t w d<far:=fun hf=>by
  obtain⟨P,_,nd,tg⟩:=Fd.way hf;rw[List.nodup_cons]at nd;have hc:=ymj P;have a2:t.si≠t.sp:=by simp only[Tn.si,Tn.sp];omega
  have bS:=bal P t.si;have bs:=bal P t.sp;have i1:is (t.si=t.si)=1:=if_pos rfl;have i2:is (t.si=t.sp)=0:=if_neg a2;have i3:is (t.sp=t.sp)=1:=if_pos rfl;have i4:is (t.sp=t.si)=0:=if_neg a2.symm;have n1:0<=frN t.si (Br t w d):=xtj fun a _=>xuj;have t0:=(xwp (x:=t.sp) nd.2).2 nd.1;have a5:sp_ Arc.cost (Br t w d)<=sp_ (fun a=>-5999*is (a.to=t.si)+is (a.fr=t.sp)) (Br t w d)+100000000000*frN t.si (Br t w d):=by
   have:sp_ Arc.cost (Br t w d)<=sp_ (fun a=>(-5999*is (a.to=t.si)+is (a.fr=t.sp))+100000000000*is (a.fr=t.si)) (Br t w d):=xa9 fun a ha=>by
    have a6:a.to≠t.sp:=fun z=>nd.1 (List.mem_map.2 ⟨a,ha,z⟩);have es:t.sp=t.nW+t.nH:=rfl;have ei:t.si=t.nW+t.nH+1:=rfl;have cc:=(xem O S G.div a (tg a ha).1).2;have eC:cC<100000000000-5999:=by decide
    unfold is;rcases(xyj.1 (tg a ha).1).eqs with⟨x',H,e2,e3,e4,M,e6,e7⟩|⟨x',H,e2,e3,e4,M⟩|⟨h',H,e2,e3,e4,M,e6,e7⟩|⟨h',H,e2,e3,e4,M⟩|⟨i,H,e2,e3,e4,M,e6,e7⟩|⟨i,H,e0,e2,e3,e4,M,e6,e7⟩
    ·have:=S.bw x';(repeat' split)<;>omega
    ·omega
    ·obtain⟨n,hn⟩:∃n:Nat,(As t d h').toNat=n+1:=⟨(As t d h').toNat-1,om⟩
     have:=S.bh h';have:=xsz n;rw[hn,Nat.add_sub_cancel,xcj]at M
     (repeat' split)<;>omega
    ·(repeat' split)<;>omega
    ·have:=O.y i H;(repeat' split)<;>omega
    ·have:=O.y i H;(repeat' split)<;>omega
   rw[xo0,xc3]at this;exact this
  rw[xo0,xc3]at a5;have u1:toN t.si (Br t w d)=sp_ (fun a=>is (a.to=t.si)) (Br t w d):=rfl;have u2:frN t.sp (Br t w d)=sp_ (fun a=>is (a.fr=t.sp)) (Br t w d):=rfl;have t1:=(xwp (x:=t.si) nd.2).1;have f0:frN t.si (Br t w d)=0:=om;omega
 refine⟨G,⟨π,C,?_⟩,fun v=>decide (L (bf t w d) v<far),by simp only[Fd.z];decide,decide_eq_false a3,fun a ha hf=>?_⟩
 ·rw[a4 _ (by rw[Fd.z];exact V),Fd.z];exact h0 a3
 ·exact decide_eq_true (Fd.closed a ha (of_decide_eq_true hf)).1
theorem Good.start{t w}(O:Ok t)(S:Sg w):Good t w (List.replicate t.m 0):=by
 have H:∀i,dv (List.replicate t.m 0) i=0:=fun i=>by
  unfold dv;rw[List.getD_eq_getElem?_getD,List.getElem?_replicate];split<;>rfl
 have dr:∀h,draw t (List.replicate t.m 0) h=0:=fun h=>by
  unfold draw;exact(xux (g:=fun _=>0) fun i _=>by rw[H];split<;>rfl).trans (xbv _)
 have gv:∀h,give t (List.replicate t.m 0) h=0:=fun h=>by
  unfold give;exact(xux (g:=fun _=>0) fun i _=>by rw[H];split<;>rfl).trans (xbv _)
 have es:t.sp=t.nW+t.nH:=rfl;have ei:t.si=t.nW+t.nH+1:=rfl;have d9:Bi 9<999999999990:=by decide
 refine⟨⟨s_,fun i _=>by rw[H];exact Int.le_refl _,fun h M=>by rw[dr];exact(O.h h M).1,fun x V=>by rw[gv];exact(O.w x V).1⟩,
  fun v=>if v=t.sp then 0 else if v=t.si then -999999999999 else -1,⟨fun x V c=>?_,fun x V c=>?_,fun h M c=>?_,fun h M c=>?_,fun i hi=>?_,fun i hi c=>?_⟩,?_⟩
 ·have:=S.bw x;simp only[if_neg (show ¬ x=t.sp by omega),if_neg (show ¬ x=t.si by omega),if_true];omega
 ·unfold has at c;rw[gv]at c;omega
 ·have:=S.bh h;have l9:(As t (List.replicate t.m 0) h).toNat<=9:=by have:=O.h h M;unfold As;rw[dr];omega
  have:=xav l9;have:=xsz ((As t (List.replicate t.m 0) h).toNat-1);simp only[if_neg (show ¬ t.si=t.sp by omega),if_neg (show ¬ t.nW+h=t.sp by omega),if_neg (show ¬ t.nW+h=t.si by omega),if_true];omega
 ·unfold As at c;rw[dr]at c;omega
 ·have:=O.y i hi;simp only[if_neg (show ¬ t.nW+t.wh i=t.sp by omega),if_neg (show ¬ t.nW+t.wh i=t.si by omega),if_neg (show ¬ t.ww i=t.sp by omega),if_neg (show ¬ t.ww i=t.si by omega)];exact Int.le_refl _
 ·rw[H]at c;omega
 ·simp only[if_neg (show ¬ t.si=t.sp by omega),if_true];decide
theorem yih{t d}(O:Ok t)(D:Div t d):tot t d<=sm t.nH t.hv:=by
 rw[<- xds fun i hi=>(O.y i hi).1];exact xc9 D.hs
theorem xv1{t w}(O:Ok t)(S:Sg w):∀{n:Nat}{d},Good t w d->sm t.nH t.hv-tot t d<n->Pw t w (Fi t w n d)
 |0,d,G,h=>by have:=yih O G.div;omega
 |n+1,d,G,h=>by
   rw[Fi];by_cases c:0<=D6 t w d
   ·rw[if_pos c];exact G.last O S c
   ·rw[if_neg c];obtain⟨H,M⟩:=G.next O S om;exact xv1 O S H om
theorem xsw{t w}(O:Ok t)(S:Sg w):Pw t w (C6 t w):=by
 refine xv1 O S (Good.start O S) ?_;have:0<=tot t (List.replicate t.m 0):=xqb (Good.start O S).div.pos;omega
def ob(b:Bool):Int:=if b then 0 else 1
def put:List Int->Int->List Int
 |[],n=>[n]
 |a::l,n=>if n<=a then a::put l n else n::a::l
def srt(l:List Int):List Int:=l.foldl put []
def Na(l:List Int):Prop:=l.Pairwise (fun a b=>b<=a)
theorem xkf(n:Int):∀l,(put l n).Perm (n::l)
 |[]=>.refl _
 |a::l=>by
   rw[put];split
   ·exact((xkf n l).cons a).trans (.swap ..)
   ·exact .refl _
theorem xh6{n:Int}:∀{l},Na l->Na (put l n)
 |[],_=>by simp[put,Na]
 |a::l,h=>by
   have h:=List.pairwise_cons.1 h;rw[put];split
   ·next c=>
    refine List.pairwise_cons.2 ⟨fun z H=>?_,xh6 h.2⟩;rcases List.mem_cons.1 ((xkf n l).mem_iff.1 H)with rfl|H
    ·exact c
    ·exact h.1 z H
   ·next c=>
    refine List.pairwise_cons.2 ⟨fun z H=>?_,List.pairwise_cons.2 h⟩;rcases List.mem_cons.1 H with rfl|H
    ·omega
    ·have:=h.1 z H;omega
theorem xlt:∀{l o:List Int},Na o->Na (l.foldl put o)/\(l.foldl put o).Perm (l++o)
 |[],o,h=>⟨h,.refl _⟩
 |a::l,o,h=>by
   have:=xlt (l:=l) (xh6 (n:=a) h);exact⟨this.1,this.2.trans (((xkf a o).append_left l).trans (List.perm_middle))⟩
theorem ywb(l):Na (srt l):=(xlt (l:=l) (o:=[]) .nil).1
theorem xhs(l):(srt l).Perm l:=by have:=(xlt (l:=l) (o:=[]) .nil).2;rwa[List.append_nil]at this
theorem xzn:∀{a b:List Int},Na a->Na b->a.Perm b->a=b
 |[],b,_,_,p=>(List.Perm.nil_eq p)
 |x::a,[],_,_,p=>absurd (p.symm.nil_eq) s_
 |x::a,y::b,ha,hb,p=>by
   have O:=List.pairwise_cons.1 ha;have V:=List.pairwise_cons.1 hb;have e:x=y:=by
    have M:x∈y::b:=p.mem_iff.1 (List.mem_cons_self ..);have H:y∈x::a:=p.mem_iff.2 (List.mem_cons_self ..);rcases List.mem_cons.1 M with e|M
    ·exact e
    ·rcases List.mem_cons.1 H with e|H
     ·exact e.symm
     ·have:=O.1 y H;have:=V.1 x M;omega
   subst e;rw[xzn O.2 V.2 ((List.perm_cons x).1 p)]
theorem yms{l r:List Int}(h:Na r)(p:r.Perm l):srt l=r:=xzn (ywb l) h ((xhs l).trans p.symm)
def val:List Int->Int
 |[]=>0
 |a::l=>Bi a.toNat+val l
def G0(t:Tn)(d:List Int):List Int:=(List.range t.nH).map (As t d)
def Ed(t:Tn)(d:List Int):List Int:=srt (G0 t d)
theorem ypk(t d):(Ed t d).length=t.nH:=by rw[Ed,(xhs _).length_eq,G0];simp
theorem ynk{t d z}:z∈Ed t d<-> ∃h,h<t.nH/\As t d h=z:=by
 rw[Ed,(xhs _).mem_iff,G0];simp
theorem xnd:Sg H0:=⟨d_,d_⟩
def LK(t:Tn):List Int:=Ed t (C6 t H0)
end Go.X.Flow
