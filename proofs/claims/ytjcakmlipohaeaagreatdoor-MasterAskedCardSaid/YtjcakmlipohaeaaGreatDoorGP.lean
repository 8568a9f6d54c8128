/-
  Part of proofs about a town's master: a calculus for walks beside goroutines that are only leaving, and the walks. No condition.
-/
import Derived.Test.YtjcakmlipohaeaaGreatDoorGO
namespace Go.X.Bf
structure Arc where
 fr:Nat
 to:Nat
 cost:Int
 way:Int
 more:Int
deriving Inhabited,DecidableEq
def a0:Arc:=⟨0,0,0,0,0⟩
def far:Int:=2^60
structure Lab where
 c:List Int
 b:List Arc
def L(s:Lab)(v:Nat):Int:=s.c.getD v far
def B(s:Lab)(v:Nat):Arc:=s.b.getD v a0
def rel(s:Lab)(a:Arc):Lab:=if L s a.fr<far/\L s a.fr+a.cost<L s a.to then⟨s.c.set a.to (L s a.fr+a.cost),s.b.set a.to a⟩else s
def sweep(E:List Arc)(s:Lab):Lab:=E.foldl rel s
def sweeps(E:List Arc):Nat->Lab->Lab
 |0,s=>s
 |n+1,s=>sweep E (sweeps E n s)
def lab0(N sp:Nat):Lab:=⟨(List.replicate N far).set sp 0,List.replicate N a0⟩
inductive Path (E:List Arc) (sp:Nat):Nat->Int->List Arc->Prop
 |nil:Path E sp sp 0 []
 |cons {a:Arc} {x:Int} {l:List Arc}:a∈E->Path E sp a.fr x l->Path E sp a.to (x+a.cost) (a::l)
def Feas(E:List Arc)(π:Nat->Int):Prop:=∀a∈E,π a.to<=π a.fr+a.cost
theorem xur{E sp π v x l}(F:Feas E π)(P:Path E sp v x l):π v-π sp<=x:=by
 induction P with
 |nil=>omega
 |cons ha _ ih=>have:=F _ ha;omega
theorem xep{E sp π}(F:Feas E π):∀{l1 l2 v x},Path E sp v x (l1++l2)-> ∃y u,Path E sp u y l2/\π v-π u<=x-y/\(∀b r,l2=b::r->u=b.to)
 |[],l2,v,x,P=>⟨x,v,P,om,fun b r e=>by simp only[List.nil_append,e]at P;cases P;rfl⟩
 |a::l1,l2,_,_,.cons ha P=>by
   have⟨y,u,Q,h,e⟩:=xep F P
   have:=F _ ha
   exact⟨y,u,Q,om,e⟩
theorem xjf:∀{N:Nat}{l:List Nat},l.Nodup->(∀x∈l,x<N)->l.length<=N
 |0,[],_,_=>Nat.le_refl _
 |0,x::l,_,h=>absurd (h x (List.mem_cons_self ..)) om
 |N+1,l,d,h=>by
   by_cases m:N∈l
   ·have hl:=xjf (N:=N) (d.erase N) fun x z=>by
     have⟨ne,z'⟩:=d.mem_erase_iff.1 z
     have:=h x z';omega
    rw[List.length_erase_of_mem m]at hl
    omega
   ·have:=xjf (N:=N) d fun x z=>by
     have:=h x z
     by_cases e:x=N
     ·exact absurd (e ▸ z) m
     ·omega
    omega
theorem xi2{E sp π}(F:Feas E π){v x l}(P:Path E sp v x l):∃x' l',Path E sp v x' l'/\x'<=x/\(sp::l'.map Arc.to).Nodup:=by
 induction P with
 |nil=>exact⟨0,[],.nil,Int.le_refl _,by simp⟩
 |@cons a x l ha P ih=>
   obtain⟨x',l',Q,hx,hn⟩:=ih
   have hF:=F _ ha
   have hq:=xur F Q
   by_cases e:a.to=sp
   ·exact⟨0,[],e ▸ .nil,by rw[e]at hF;omega,by simp⟩
   ·by_cases m:a.to∈l'.map Arc.to
    ·obtain⟨b,hb,eb⟩:=List.mem_map.1 m
     obtain⟨l1,l2,rfl⟩:=List.append_of_mem hb
     obtain⟨y,u,R,hy,hu⟩:=xep F Q
     obtain rfl:=hu b l2 rfl
     refine⟨y,b::l2,eb ▸ R,by rw[eb]at hy;omega,?_⟩
     rw[List.nodup_cons]at hn⊢
     refine⟨fun z=>hn.1 ?_,?_⟩
     ·rw[List.map_append];exact List.mem_append.2 (.inr z)
     ·have:=hn.2;rw[List.map_append,List.nodup_append]at this;exact this.2.1
    ·refine⟨x'+a.cost,a::l',.cons ha Q,om,?_⟩
     rw[List.nodup_cons]at hn⊢
     rw[List.map_cons,List.nodup_cons,List.mem_cons]
     exact⟨fun z=>z.elim (fun z=>e z.symm) hn.1,m,hn.2⟩
theorem xs7{E sp π N}(F:Feas E π)(hsp:sp<N)(hE:∀a∈E,a.fr<N/\a.to<N){v x l}(P:Path E sp v x l):∃x' l',Path E sp v x' l'/\x'<=x/\l'.length<N:=by
 obtain⟨x',l',Q,hx,hn⟩:=xi2 F P
 refine⟨x',l',Q,hx,?_⟩
 have hm:∀{v x l},Path E sp v x l-> ∀a∈l,a∈E:=fun P=>by
  induction P with
  |nil=>exact fun a h=>absurd h (by simp)
  |cons ha _ ih=>exact fun a h=>(List.mem_cons.1 h).elim (fun e=>e ▸ ha) (ih a)
 have:=xjf (N:=N) hn fun z hz=>by
  rcases List.mem_cons.1 hz with rfl|hz
  ·exact hsp
  ·obtain⟨b,hb,rfl⟩:=List.mem_map.1 hz
   exact(hE b (hm Q b hb)).2
 simp only[List.length_cons,List.length_map]at this
 omega
theorem xs4{E sp C}(hC:∀a∈E,a.cost<=C){v x l}(P:Path E sp v x l):x<=C*l.length:=by
 induction P with
 |nil=>simp
 |cons ha _ ih=>have:=hC _ ha;rw[List.length_cons,Int.natCast_add,Int.mul_add];omega
theorem yvd{s:Lab}{a:Arc}(h:a.to<s.c.length)(v:Nat):L (rel s a) v=if L s a.fr<far/\L s a.fr+a.cost<L s a.to/\a.to=v then L s a.fr+a.cost else L s v:=by
 unfold rel
 by_cases e:L s a.fr<far/\L s a.fr+a.cost<L s a.to
 ·rw[if_pos e]
  by_cases d:a.to=v
  ·subst d
   rw[if_pos ⟨e.1,e.2,rfl⟩]
   simp only[L,List.getD_eq_getElem?_getD,List.getElem?_set,if_true,if_pos h];rfl
  ·rw[if_neg fun z=>d z.2.2]
   simp only[L,List.getD_eq_getElem?_getD,List.getElem?_set,if_neg d]
 ·rw[if_neg e,if_neg fun z=>e ⟨z.1,z.2.1⟩]
theorem yvt{s:Lab}{a:Arc}(h:a.to<s.b.length)(v:Nat):B (rel s a) v=if L s a.fr<far/\L s a.fr+a.cost<L s a.to/\a.to=v then a else B s v:=by
 unfold rel
 by_cases e:L s a.fr<far/\L s a.fr+a.cost<L s a.to
 ·rw[if_pos e]
  by_cases d:a.to=v
  ·subst d
   rw[if_pos ⟨e.1,e.2,rfl⟩]
   simp only[B,List.getD_eq_getElem?_getD,List.getElem?_set,if_true,if_pos h];rfl
  ·rw[if_neg fun z=>d z.2.2]
   simp only[B,List.getD_eq_getElem?_getD,List.getElem?_set,if_neg d]
 ·rw[if_neg e,if_neg fun z=>e ⟨z.1,z.2.1⟩]
theorem xam{s:Lab}{a:Arc}:(rel s a).c.length=s.c.length/\(rel s a).b.length=s.b.length:=by
 unfold rel;split<;>simp
theorem xnf{E:List Arc}:∀{s:Lab},(E.foldl rel s).c.length=s.c.length/\(E.foldl rel s).b.length=s.b.length:=by
 induction E with
 |nil=>exact⟨rfl,rfl⟩
 |cons a E ih=>intro s;rw[List.foldl_cons];have h:=ih (s:=rel s a);have g:=xam (s:=s) (a:=a);exact⟨h.1.trans g.1,h.2.trans g.2⟩
theorem yxp{s:Lab}{a:Arc}(h:a.to<s.c.length)(v:Nat):L (rel s a) v<=L s v:=by
 rw[yvd h];split
 ·next e=>rw[<- e.2.2];omega
 ·exact Int.le_refl _
theorem xp2{N:Nat}{E:List Arc}:∀{s:Lab},s.c.length=N->(∀a∈E,a.to<N)-> ∀v,L (E.foldl rel s) v<=L s v:=by
 induction E with
 |nil=>exact fun _ _ v=>Int.le_refl _
 |cons a E ih=>
   intro s hs hE v
   rw[List.foldl_cons]
   exact Int.le_trans (ih (xam.1.trans hs) (fun b hb=>hE b (List.mem_cons_of_mem _ hb)) v) (yxp (by rw[hs];exact hE a (List.mem_cons_self ..)) v)
theorem yzb{N:Nat}{E:List Arc}{s:Lab}(hs:s.c.length=N)(hE:∀a∈E,a.to<N){a:Arc}(ha:a∈E)(hf:L s a.fr<far):L (E.foldl rel s) a.to<=L s a.fr+a.cost:=by
 obtain⟨E1,E2,rfl⟩:=List.append_of_mem ha
 rw[List.foldl_append,List.foldl_cons]
 have h1:=xp2 (N:=N) (E:=E1) hs (fun b hb=>hE b (List.mem_append.2 (.inl hb))) a.fr
 have l1:(E1.foldl rel s).c.length=N:=xnf.1.trans hs
 have hat:a.to<(E1.foldl rel s).c.length:=by rw[l1];exact hE a ha
 have h2:=xp2 (N:=N) (E:=E2) (s:=rel (E1.foldl rel s) a) (xam.1.trans l1) (fun b hb=>hE b (List.mem_append.2 (.inr (List.mem_cons_of_mem _ hb)))) a.to
 rw[yvd hat]at h2
 by_cases e:L (E1.foldl rel s) a.fr+a.cost<L (E1.foldl rel s) a.to
 ·rw[if_pos ⟨om,e,rfl⟩]at h2;omega
 ·rw[if_neg fun z=>e z.2.1]at h2;omega
theorem xtj{E:List Arc}{s:Lab}:∀n,(sweeps E n s).c.length=s.c.length/\(sweeps E n s).b.length=s.b.length
 |0=>⟨rfl,rfl⟩
 |n+1=>⟨xnf.1.trans (xtj n).1,xnf.2.trans (xtj n).2⟩
theorem xq1{E sp N C}(hE:∀a∈E,a.to<N)(hC:∀a∈E,a.cost<=C)(h0:0<=C){s:Lab}(hs:s.c.length=N)(hsp:L s sp<=0)(hb:C*N<far):
 ∀{v x l},Path E sp v x l->l.length<=N-> ∀r,l.length<=r->L (sweeps E r s) v<=x:=by
 have hm:∀r v,L (sweeps E (r+1) s) v<=L (sweeps E r s) v:=fun r v=>xp2 (N:=N) ((xtj r).1.trans hs) hE v
 have hsp':∀r,L (sweeps E r s) sp<=0:=fun r=>by
  induction r with
  |zero=>exact hsp
  |succ r ih=>exact Int.le_trans (hm r sp) ih
 intro v x l P
 induction P with
 |nil=>exact fun _ r _=>hsp' r
 |@cons a x l ha P ih=>
   intro hN r hr
   rw[List.length_cons]at hN hr
   cases r with
   |zero=>omega
   |succ r=>
     have h1:=ih om r om
     have h2:=xs4 hC P
     have h3:C*(l.length:Int)<=C*N:=Int.mul_le_mul_of_nonneg_left om h0
     have h4:=yzb (N:=N) ((xtj r).1.trans hs) hE ha (s:=sweeps E r s) om
     exact Int.le_trans h4 om
structure Inv(E:List Arc)(sp N:Nat)(s:Lab)(τ:Nat->Nat)(T:Nat):Prop where
 lc:s.c.length=N
 lb:s.b.length=N
 z:L s sp=0
 walk:∀v,v<N->L s v<far-> ∃l,Path E sp v (L s v) l
 top:∀v,L s v<=far
 by_:∀v,v<N->v≠sp->L s v<far->B s v∈E/\(B s v).to=v/\L s (B s v).fr<far/\L s (B s v).fr+(B s v).cost<=L s v/\(L s (B s v).fr+(B s v).cost=L s v->τ (B s v).fr<τ v)
 clock:∀v,τ v<T
theorem Inv.start{E sp N}(hsp:sp<N):Inv E sp N (lab0 N sp) (fun _=>0) 1:=by
 have hL:∀v,L (lab0 N sp) v=if v=sp then 0 else far:=fun v=>by
  unfold L lab0
  rw[List.getD_eq_getElem?_getD,List.getElem?_set]
  by_cases e:v=sp
  ·subst e;simp[hsp]
  ·rw[if_neg (Ne.symm e),if_neg e,List.getElem?_replicate];split<;>rfl
 refine⟨by simp[lab0],by simp[lab0],by rw[hL,if_pos rfl],fun v hv hf=>?_,fun v=>?_,fun v hv ne hf=>?_,fun v=>by simp⟩
 ·by_cases e:v=sp
  ·subst e;exact⟨[],by rw[hL,if_pos rfl];exact .nil⟩
  ·rw[hL,if_neg e]at hf;omega
 ·rw[hL];split<;>decide
 ·rw[hL,if_neg ne]at hf;omega
theorem Inv.step{E sp N π s τ T}(F:Feas E π)(hE:∀a∈E,a.fr<N/\a.to<N)(I:Inv E sp N s τ T){a:Arc}(ha:a∈E):∃τ' T',Inv E sp N (rel s a) τ' T':=by
 by_cases e:L s a.fr<far/\L s a.fr+a.cost<L s a.to
 ·have⟨hfr,hto⟩:=hE a ha
  have hLr:=fun v=>yvd (s:=s) (a:=a) (by rw[I.lc];exact hto) v
  have hBr:=fun v=>yvt (s:=s) (a:=a) (by rw[I.lb];exact hto) v
  obtain⟨l,P⟩:=I.walk _ hfr e.1
  have hne:a.to≠sp:=fun z=>by
   have h:=xur F (Path.cons ha P)
   rw[z]at h e
   rw[I.z]at e
   omega
  have hnf:a.fr≠a.to:=fun z=>by
   have h:=F _ ha
   rw[z]at h e
   omega
  have hv:L (rel s a) a.to=L s a.fr+a.cost:=by rw[hLr,if_pos ⟨e.1,e.2,rfl⟩]
  have ho:∀w,w≠a.to->L (rel s a) w=L s w:=fun w hw=>by rw[hLr,if_neg fun z=>hw z.2.2.symm]
  have bv:B (rel s a) a.to=a:=by rw[hBr,if_pos ⟨e.1,e.2,rfl⟩]
  have bo:∀w,w≠a.to->B (rel s a) w=B s w:=fun w hw=>by rw[hBr,if_neg fun z=>hw z.2.2.symm]
  refine⟨fun w=>if w=a.to then T else τ w,T+1,xam.1.trans I.lc,xam.2.trans I.lb,by rw[ho _ hne.symm];exact I.z,fun w hw hf=>?_,fun w=>?_,fun w hw hn hf=>?_,fun w=>?_⟩
  ·by_cases d:w=a.to
   ·subst d;rw[hv];exact⟨_,.cons ha P⟩
   ·rw[ho w d]at hf⊢;exact I.walk w hw hf
  ·by_cases d:w=a.to
   ·subst d;rw[hv];have:=I.top a.to;omega
   ·rw[ho w d];exact I.top w
  ·by_cases d:w=a.to
   ·subst d
    rw[bv,hv,ho _ hnf]
    refine⟨ha,rfl,e.1,Int.le_refl _,fun _=>?_⟩
    rw[if_pos rfl,if_neg hnf];exact I.clock _
   ·rw[bo w d,ho w d];rw[ho w d]at hf
    obtain⟨h1,h2,h3,h4,h5⟩:=I.by_ w hw hn hf
    by_cases c:(B s w).fr=a.to
    ·rw[c]at h3 h4;rw[c,hv]
     exact⟨h1,h2,om,om,fun z=>om⟩
    ·rw[ho _ c]
     refine⟨h1,h2,h3,h4,fun z=>?_⟩
     rw[if_neg d,if_neg c];exact h5 z
  ·have:=I.clock w;split<;>omega
 ·refine⟨τ,T,?_⟩
  rw[show rel s a=s from if_neg e];exact I
theorem Inv.fold{E sp N π}(F:Feas E π)(hE:∀a∈E,a.fr<N/\a.to<N):∀{E':List Arc}{s:Lab}{τ:Nat->Nat}{T:Nat},(∀a∈E',a∈E)->Inv E sp N s τ T-> ∃τ' T',Inv E sp N (E'.foldl rel s) τ' T'
 |[],s,τ,T,_,I=>⟨τ,T,I⟩
 |a::E',s,τ,T,h,I=>by
   obtain⟨τ',T',I'⟩:=I.step F hE (h a (List.mem_cons_self ..))
   rw[List.foldl_cons]
   exact Inv.fold F hE (fun b hb=>h b (List.mem_cons_of_mem _ hb)) I'
theorem Inv.sweeps{E sp N π}(F:Feas E π)(hE:∀a∈E,a.fr<N/\a.to<N){s τ T}(I:Inv E sp N s τ T):∀n,∃τ' T',Inv E sp N (sweeps E n s) τ' T'
 |0=>⟨τ,T,I⟩
 |n+1=>by obtain⟨_,_,J⟩:=Inv.sweeps F hE I n;exact Inv.fold F hE (fun _ h=>h) J
inductive Chain (s:Lab) (sp:Nat):Nat->List Arc->Prop
 |nil:Chain s sp sp []
 |cons {v p}:v≠sp->Chain s sp (B s v).fr p->Chain s sp v (B s v::p)
theorem ybf{E sp N C π}(F:Feas E π)(hsp:sp<N)(hE:∀a∈E,a.fr<N/\a.to<N)(hC:∀a∈E,a.cost<=C)(h0:0<=C)(hb:C*N<far){s:Lab}(hs:s=sweeps E N (lab0 N sp)):
 L s sp=0/\(∀v,L s v<=far)/\(∀a∈E,L s a.fr<far->L s a.to<far/\L s a.to<=L s a.fr+a.cost)/\
 (∀v,v<N->L s v<far-> ∃p,Chain s sp v p/\Path E sp v (L s v) p/\(sp::p.map Arc.to).Nodup/\ ∀a∈p,a∈E/\L s a.fr+a.cost=L s a.to/\L s a.fr<far):=by
 obtain⟨τ,T,I⟩:=(Inv.start (E:=E) hsp).sweeps F hE N
 rw[<- hs]at I
 have I0:=Inv.start (E:=E) (N:=N) hsp
 have hP:=@xq1 E sp N C (fun a h=>(hE a h).2) hC h0 (lab0 N sp) I0.lc (by rw[I0.z];exact Int.le_refl _) hb
 have hmin:∀{v x l},Path E sp v x l->L s v<=x/\L s v<far:=fun P=>by
  obtain⟨x',l',Q,hx,hl⟩:=xs7 F hsp hE P
  have h:=hP Q om N om
  rw[<- hs]at h
  have h2:=xs4 hC Q
  have h3:C*(l'.length:Int)<=C*N:=Int.mul_le_mul_of_nonneg_left om h0
  exact⟨om,om⟩
 have hclosed:∀a∈E,L s a.fr<far->L s a.to<far/\L s a.to<=L s a.fr+a.cost:=fun a ha hf=>by
  obtain⟨l,P⟩:=I.walk _ (hE a ha).1 hf
  have:=hmin (.cons ha P)
  exact⟨this.2,this.1⟩
 refine⟨I.z,I.top,hclosed,?_⟩
 have hlow:∀v,v<N->L s v<far->0<=L s v-π v+π sp:=fun v hv hf=>by
  obtain⟨l,P⟩:=I.walk _ hv hf
  have:=xur F P;omega
 have key:∀n v,v<N->L s v<far->(L s v-π v+π sp).toNat*T+τ v=n-> ∃p,Chain s sp v p/\Path E sp v (L s v) p/\(sp::p.map Arc.to).Nodup/\(∀a∈p,a∈E/\L s a.fr+a.cost=L s a.to/\L s a.fr<far)/\
  ∀u∈p.map Arc.to,(L s u-π u+π sp).toNat*T+τ u<=n:=by
  intro n
  induction n using Nat.strongRecOn with
  |_ n ih=>
    intro v hv hf hn
    by_cases e:v=sp
    ·subst e;exact⟨[],.nil,by rw[I.z];exact .nil,by simp,by simp,by simp⟩
    ·obtain⟨h1,h2,h3,h4,h5⟩:=I.by_ v hv e hf
     have hc:=hclosed _ h1 h3
     rw[h2]at hc
     have hF:=F _ h1
     rw[h2]at hF
     have hu:=(hE _ h1).1
     have hlo:=hlow _ hu h3
     have hlt:(L s (B s v).fr-π (B s v).fr+π sp).toNat*T+τ (B s v).fr<n:=by
      have t1:=I.clock (B s v).fr
      have t2:=I.clock v
      have t3:=h5 om
      have le:(L s (B s v).fr-π (B s v).fr+π sp).toNat<=(L s v-π v+π sp).toNat:=om
      have:=Nat.mul_le_mul_right T le
      omega
     obtain⟨p,hp,hq,hd,ht,hr⟩:=ih _ hlt _ hu h3 rfl
     have hq':=Path.cons h1 hq
     rw[h2,show L s (B s v).fr+(B s v).cost=L s v by omega]at hq'
     refine⟨B s v::p,.cons e hp,hq',?_,fun a ha=>?_,fun u hm=>?_⟩
     ·rw[List.nodup_cons]at hd⊢
      rw[List.map_cons,List.nodup_cons,List.mem_cons,h2]
      refine⟨fun z=>z.elim (fun z=>e z.symm) hd.1,fun z=>?_,hd.2⟩
      have:=hr v z
      omega
     ·rcases List.mem_cons.1 ha with rfl|ha
      ·exact⟨h1,by rw[h2];omega,h3⟩
      ·exact ht a ha
     ·rw[List.map_cons,List.mem_cons,h2]at hm
      rcases hm with rfl|hm
      ·omega
      ·have:=hr u hm;omega
 intro v hv hf
 obtain⟨p,h1,h2,h3,h4,_⟩:=key _ v hv hf rfl
 exact⟨p,h1,h2,h3,h4⟩
theorem yfx{s:Lab}{a:Arc}{K C:Int}(h:a.to<s.c.length)(hc: -C<=a.cost/\a.cost<=C)(hK:∀v,L s v<far-> -K<=L s v/\L s v<=K):∀v,L (rel s a) v<far-> -(K+C)<=L (rel s a) v/\L (rel s a) v<=K+C:=by
 intro v hf
 rw[yvd h]at hf⊢
 by_cases d:L s a.fr<far/\L s a.fr+a.cost<L s a.to/\a.to=v
 ·rw[if_pos d];have:=hK _ d.1;omega
 ·rw[if_neg d]at hf⊢;have:=hK _ hf;omega
end Go.X.Bf
namespace Go.X.Flow
open Go.X.Bf
structure Tn where
 hs:List Int
 ws:List Int
 wy:List (Int×Int)
structure Wi where
 house:Int
 well:Int
 sign:Int
def none0:Wi:=⟨-1,-1,0⟩
def sm:Nat->(Nat->Int)->Int
 |0,_=>0
 |k+1,f=>sm k f+f k
theorem xnj{f g:Nat->Int}:∀{k},(∀i,i<k->f i=g i)->sm k f=sm k g
 |0,_=>rfl
 |k+1,h=>by rw[sm,sm,xnj fun i hi=>h i om,h k om]
theorem yug{f g:Nat->Int}:∀{k},(∀i,i<k->f i<=g i)->sm k f<=sm k g
 |0,_=>Int.le_refl _
 |k+1,h=>by have:=yug (k:=k) fun i hi=>h i om;have:=h k om;simp only[sm];omega
theorem xtn(f g:Nat->Int):∀k,sm k (fun i=>f i+g i)=sm k f+sm k g
 |0=>rfl
 |k+1=>by simp only[sm];rw[xtn f g k];omega
theorem xrw:∀k,sm k (fun _=>0)=0
 |0=>rfl
 |k+1=>by rw[sm,xrw k];rfl
theorem xpb{f:Nat->Int}{k}(h:∀i,i<k->0<=f i):0<=sm k f:=by rw[<- xrw k];exact yug h
theorem yyd{k j:Nat}(c:Nat->Int)(h:j<k):sm k (fun i=>if j=i then c i else 0)=c j:=by
 induction k with
 |zero=>omega
 |succ k ih=>
   rw[sm]
   by_cases e:j=k
   ·subst e
    rw[if_pos rfl,xnj (g:=fun _=>0) (fun i hi=>if_neg om),xrw];omega
   ·rw[if_neg e,ih om];omega
theorem xr9{f:Nat->Int}{k j:Nat}(h0:∀i,i<k->0<=f i)(h:j<k):f j<=sm k f:=by
 induction k with
 |zero=>omega
 |succ k ih=>
   rw[sm]
   have:=xpb (k:=k) fun i hi=>h0 i om
   by_cases e:j=k
   ·subst e;omega
   ·have:=ih (fun i hi=>h0 i om) om;have:=h0 k om;omega
namespace Tn
variable(t:Tn)
def nH:=t.hs.length
def nW:=t.ws.length
def m:=t.wy.length
def hv(h:Nat):Int:=t.hs.getD h 0
def wv(w:Nat):Int:=t.ws.getD w 0
def wh(i:Nat):Nat:=(t.wy.getD i (0,0)).1.toNat
def ww(i:Nat):Nat:=(t.wy.getD i (0,0)).2.toNat
def sp:=t.nW+t.nH
def si:=t.nW+t.nH+1
end Tn
def dv(d:List Int)(i:Nat):Int:=d.getD i 0
def draw(t:Tn)(d:List Int)(h:Nat):Int:=sm t.m fun i=>if t.wh i=h then dv d i else 0
def give(t:Tn)(d:List Int)(w:Nat):Int:=sm t.m fun i=>if t.ww i=w then dv d i else 0
def lack(t:Tn)(d:List Int)(h:Nat):Int:=t.hv h-draw t d h
def has(t:Tn)(d:List Int)(w:Nat):Int:=t.wv w-give t d w
def tot(t:Tn)(d:List Int):Int:=sm t.m (dv d)
structure Ok(t:Tn):Prop where
 nh:t.nH<=6
 nw:t.nW<=5
 nm:t.m<=13
 h:∀h,h<t.nH->0<=t.hv h/\t.hv h<=9
 w:∀w,w<t.nW->0<=t.wv w/\t.wv w<=21
 y:∀i,i<t.m->t.wh i<t.nH/\t.ww i<t.nW
structure Div(t:Tn)(d:List Int):Prop where
 len:d.length=t.m
 pos:∀i,i<t.m->0<=dv d i
 hs:∀h,h<t.nH->draw t d h<=t.hv h
 ws:∀w,w<t.nW->give t d w<=t.wv w
theorem xpd{t d}(D:Div t d)(h:Nat):0<=draw t d h:=xpb fun i hi=>by split;exact D.pos i hi;exact Int.le_refl _
theorem xo2{t d}(D:Div t d)(w:Nat):0<=give t d w:=xpb fun i hi=>by split;exact D.pos i hi;exact Int.le_refl _
theorem xt3(f:Nat->Int)(g:Nat->Nat)(v:Nat->Int){n:Nat}:∀{k},(∀i,i<k->g i<n)->sm n (fun h=>sm k (fun i=>if g i=h then v i else 0)*f h)=sm k (fun i=>v i*f (g i))
 |0,_=>by simp only[sm,Int.zero_mul];exact xrw n
 |k+1,hg=>by
   simp only[sm]
   rw[xnj (g:=fun h=>sm k (fun i=>if g i=h then v i else 0)*f h+(if g k=h then v k*f h else 0)) (fun h _=>by rw[Int.add_mul];split<;>simp),xtn,xt3 f g v fun i hi=>hg i om]
   rw[yyd (fun h=>v k*f h) (hg k om)]
theorem yyv{t d}(hy:∀i,i<t.m->t.wh i<t.nH)(f:Nat->Int):sm t.nH (fun h=>draw t d h*f h)=sm t.m (fun i=>dv d i*f (t.wh i)):=xt3 f t.wh (dv d) hy
theorem xbr{t d}(hy:∀i,i<t.m->t.wh i<t.nH):sm t.nH (draw t d)=tot t d:=by
 have:=yyv (d:=d) hy (fun _=>1)
 simp only[Int.mul_one]at this;exact this
def dear(n:Nat):Int:=1000*7^n
theorem xov(n:Nat):dear (n+1)=7*dear n:=by simp only[dear,Int.pow_succ];omega
theorem xvz(n:Nat):1000<=dear n:=by
 induction n with
 |zero=>decide
 |succ n ih=>rw[xov];omega
theorem xmw{a b:Nat}(h:a<=b):dear a<=dear b:=by
 induction h with
 |refl=>exact Int.le_refl _
 |@step b _ ih=>rw[xov];have:=xvz b;omega
def gap(z:Int):Int:=if 2<=z\/z<= -2 then 36000 else 0
def bh(w:Wi)(h:Nat):Int:=if(h:Int)=w.house then w.sign else 0
def bw(w:Wi)(x:Nat):Int:=if(x:Int)=w.well then w.sign else 0
def F(t:Tn)(w:Wi)(d:List Int):Int:=sm t.nH (fun h=>dear (lack t d h).toNat-draw t d h*bh w h)-sm t.nW (fun x=>give t d x*bw w x)
structure Cert(t:Tn)(w:Wi)(d:List Int)(π:Nat->Int):Prop where
 f1:∀x,x<t.nW->0<has t d x->π x<=π t.sp-bw w x
 f2:∀x,x<t.nW->has t d x<t.wv x->π t.sp<=π x+bw w x
 f3:∀h,h<t.nH->0<lack t d h->π t.si<=π (t.nW+h)+(dear ((lack t d h).toNat-1)-dear (lack t d h).toNat-bh w h)
 f4:∀h,h<t.nH->lack t d h<t.hv h->π (t.nW+h)<=π t.si+(dear ((lack t d h).toNat+1)-dear (lack t d h).toNat+bh w h)
 f5:∀i,i<t.m->π (t.nW+t.wh i)<=π (t.ww i)
 f6:∀i,i<t.m->0<dv d i->π (t.ww i)<=π (t.nW+t.wh i)
end Go.X.Flow
namespace Go.X.Flow
open Go.X.Bf
def arcsW(t:Tn)(w:Wi)(d:List Int)(x:Nat):List Arc:=
 (if 0<has t d x then [⟨t.sp,x,-bw w x,-1,0⟩]else [])++(if has t d x<t.wv x then [⟨x,t.sp,bw w x,-1,0⟩]else [])
def arcsH(t:Tn)(w:Wi)(d:List Int)(h:Nat):List Arc:=
 (if 0<lack t d h then [⟨t.nW+h,t.si,dear ((lack t d h).toNat-1)-dear (lack t d h).toNat-bh w h,-1,0⟩]else [])++
 (if lack t d h<t.hv h then [⟨t.si,t.nW+h,dear ((lack t d h).toNat+1)-dear (lack t d h).toNat+bh w h,-1,0⟩]else [])
def arcsY(t:Tn)(d:List Int)(i:Nat):List Arc:=
 ⟨t.ww i,t.nW+t.wh i,0,i,1⟩::(if 0<dv d i then [⟨t.nW+t.wh i,t.ww i,0,i,-1⟩]else [])
def arcsL(t:Tn)(w:Wi)(d:List Int):List Arc:=(List.range t.nW).flatMap (arcsW t w d)++((List.range t.nH).flatMap (arcsH t w d)++(List.range t.m).flatMap (arcsY t d))
inductive Kind (t:Tn) (w:Wi) (d:List Int):Arc->Prop
 |k1 {x}:x<t.nW->0<has t d x->Kind t w d ⟨t.sp,x,-bw w x,-1,0⟩
 |k2 {x}:x<t.nW->has t d x<t.wv x->Kind t w d ⟨x,t.sp,bw w x,-1,0⟩
 |k3 {h}:h<t.nH->0<lack t d h->Kind t w d ⟨t.nW+h,t.si,dear ((lack t d h).toNat-1)-dear (lack t d h).toNat-bh w h,-1,0⟩
 |k4 {h}:h<t.nH->lack t d h<t.hv h->Kind t w d ⟨t.si,t.nW+h,dear ((lack t d h).toNat+1)-dear (lack t d h).toNat+bh w h,-1,0⟩
 |k5 {i}:i<t.m->Kind t w d ⟨t.ww i,t.nW+t.wh i,0,i,1⟩
 |k6 {i}:i<t.m->0<dv d i->Kind t w d ⟨t.nW+t.wh i,t.ww i,0,i,-1⟩
theorem xoj{t w d a}:a∈arcsL t w d<->Kind t w d a:=by
 constructor
 ·intro h
  simp only[arcsL,List.mem_append,List.mem_flatMap,List.mem_range]at h
  rcases h with⟨x,hx,h⟩|⟨x,hx,h⟩|⟨i,hi,h⟩
  ·simp only[arcsW,List.mem_append]at h
   rcases h with h|h
   ·by_cases c:0<has t d x
    ·rw[if_pos c,List.mem_singleton]at h;subst h;exact .k1 hx c
    ·rw[if_neg c]at h;cases h
   ·by_cases c:has t d x<t.wv x
    ·rw[if_pos c,List.mem_singleton]at h;subst h;exact .k2 hx c
    ·rw[if_neg c]at h;cases h
  ·simp only[arcsH,List.mem_append]at h
   rcases h with h|h
   ·by_cases c:0<lack t d x
    ·rw[if_pos c,List.mem_singleton]at h;subst h;exact .k3 hx c
    ·rw[if_neg c]at h;cases h
   ·by_cases c:lack t d x<t.hv x
    ·rw[if_pos c,List.mem_singleton]at h;subst h;exact .k4 hx c
    ·rw[if_neg c]at h;cases h
  ·simp only[arcsY,List.mem_cons]at h
   rcases h with rfl|h
   ·exact .k5 hi
   ·by_cases c:0<dv d i
    ·rw[if_pos c,List.mem_singleton]at h;subst h;exact .k6 hi c
    ·rw[if_neg c]at h;cases h
 ·intro h
  simp only[arcsL,List.mem_append,List.mem_flatMap,List.mem_range]
  cases h with
  |@k1 x hx c=>exact .inl ⟨x,hx,by simp[arcsW,c]⟩
  |@k2 x hx c=>exact .inl ⟨x,hx,by simp[arcsW,c]⟩
  |@k3 x hx c=>exact .inr (.inl ⟨x,hx,by simp[arcsH,c]⟩)
  |@k4 x hx c=>exact .inr (.inl ⟨x,hx,by simp[arcsH,c]⟩)
  |@k5 i hi=>exact .inr (.inr ⟨i,hi,by simp[arcsY]⟩)
  |@k6 i hi c=>exact .inr (.inr ⟨i,hi,by simp[arcsY,c]⟩)
theorem yjj{t w d π}(f:Feas (arcsL t w d) π):Cert t w d π where
 f1 x hx c:=by have:=f _ (xoj.2 (.k1 hx c));simp only at this;omega
 f2 x hx c:=f _ (xoj.2 (.k2 hx c))
 f3 x hx c:=f _ (xoj.2 (.k3 hx c))
 f4 x hx c:=f _ (xoj.2 (.k4 hx c))
 f5 i hi:=by have:=f _ (xoj.2 (.k5 (w:=w) (d:=d) hi));simp only at this;omega
 f6 i hi c:=by have:=f _ (xoj.2 (.k6 (w:=w) hi c));simp only at this;omega
theorem xx0{t w d π}(C:Cert t w d π):Feas (arcsL t w d) π:=fun a ha=>by
 cases xoj.1 ha with
 |k1 hx c=>have:=C.f1 _ hx c;simp only;omega
 |k2 hx c=>exact C.f2 _ hx c
 |k3 hx c=>exact C.f3 _ hx c
 |k4 hx c=>exact C.f4 _ hx c
 |k5 hi=>have:=C.f5 _ hi;simp only;omega
 |k6 hi c=>have:=C.f6 _ hi c;simp only;omega
def nN(t:Tn):=t.nW+t.nH+2
theorem xqc{t:Tn}{w d}(hy:∀i,i<t.m->t.wh i<t.nH/\t.ww i<t.nW):∀a∈arcsL t w d,a.fr<nN t/\a.to<nN t:=fun a ha=>by
 simp only[nN]
 cases xoj.1 ha with
 |k1 hx c=>exact⟨by simp only[Tn.sp];omega,by simp only;omega⟩
 |k2 hx c=>exact⟨by simp only;omega,by simp only[Tn.sp];omega⟩
 |k3 hx c=>exact⟨by simp only;omega,by simp only[Tn.si];omega⟩
 |k4 hx c=>exact⟨by simp only[Tn.si];omega,by simp only;omega⟩
 |@k5 i hi=>have:=hy i hi;exact⟨by simp only;omega,by simp only;omega⟩
 |@k6 i hi c=>have:=hy i hi;exact⟨by simp only;omega,by simp only;omega⟩
structure Sg(w:Wi):Prop where
 lo: -1<=w.sign
 hi:w.sign<=1
theorem Sg.bh{w}(S:Sg w)(h): -1<=bh w h/\bh w h<=1:=by have:=S.lo;have:=S.hi;unfold Flow.bh;split<;>omega
theorem Sg.bw{w}(S:Sg w)(h): -1<=bw w h/\bw w h<=1:=by have:=S.lo;have:=S.hi;unfold Flow.bw;split<;>omega
def cC:Int:=1000*7^9+1
theorem xfl{t:Tn}{w d}(O:Ok t)(S:Sg w)(D:Div t d):∀a∈arcsL t w d,-cC<=a.cost/\a.cost<=cC:=fun a ha=>by
 have e9:dear 9+1=cC:=rfl
 have h0:=xvz 0
 cases xoj.1 ha with
 |@k1 x hx c=>have:=xvz 9;have:=S.bw x;simp only;omega
 |@k2 x hx c=>have:=xvz 9;have:=S.bw x;simp only;omega
 |@k3 h hx c=>
   have hh:=O.h h hx;have dn:=xpd D h;have el:lack t d h=t.hv h-draw t d h:=rfl
   have m1:=xmw (show(lack t d h).toNat<=9 by omega)
   have m2:=xmw (show(lack t d h).toNat-1<=9 by omega)
   have p1:=xvz (lack t d h).toNat;have p2:=xvz ((lack t d h).toNat-1);have:=S.bh h;simp only;omega
 |@k4 h hx c=>
   have hh:=O.h h hx;have dn:=xpd D h;have el:lack t d h=t.hv h-draw t d h:=rfl
   have m1:=xmw (show(lack t d h).toNat<=9 by omega)
   have m2:=xmw (show(lack t d h).toNat+1<=9 by omega)
   have p1:=xvz (lack t d h).toNat;have p2:=xvz ((lack t d h).toNat+1);have:=S.bh h;simp only;omega
 |k5 hi=>have:=xvz 9;simp only;omega
 |k6 hi c=>have:=xvz 9;simp only;omega
def sp_(f:Arc->Int):List Arc->Int
 |[]=>0
 |a::p=>f a+sp_ f p
def is(P:Prop)[Decidable P]:Int:=if P then 1 else 0
theorem xkj(P:Prop)[Decidable P]:0<=is P:=by unfold is;split<;>decide
theorem xwh{f g:Arc->Int}:∀{p},(∀a∈p,f a=g a)->sp_ f p=sp_ g p
 |[],_=>rfl
 |a::p,h=>by rw[sp_,sp_,h a (List.mem_cons_self ..),xwh fun b hb=>h b (List.mem_cons_of_mem _ hb)]
theorem xg7{f g:Arc->Int}:∀{p},(∀a∈p,f a<=g a)->sp_ f p<=sp_ g p
 |[],_=>Int.le_refl _
 |a::p,h=>by have:=h a (List.mem_cons_self ..);have:=xg7 fun b hb=>h b (List.mem_cons_of_mem _ hb);simp only[sp_];omega
theorem xkt(f g:Arc->Int):∀p,sp_ (fun a=>f a+g a) p=sp_ f p+sp_ g p
 |[]=>rfl
 |a::p=>by simp only[sp_];rw[xkt f g p];omega
theorem xw3(f g:Arc->Int):∀p,sp_ (fun a=>f a-g a) p=sp_ f p-sp_ g p
 |[]=>rfl
 |a::p=>by simp only[sp_];rw[xw3 f g p];omega
theorem xt1(f:Arc->Int)(c:Int):∀p,sp_ (fun a=>c*f a) p=c*sp_ f p
 |[]=>by simp[sp_]
 |a::p=>by simp only[sp_];rw[xt1 f c p,Int.mul_add]
theorem xjj{f:Arc->Int}{p}(h:∀a∈p,0<=f a):0<=sp_ f p:=by
 have:=xg7 (f:=fun _=>0) h
 have z:∀p,sp_ (fun _=>0) p=0:=fun p=>by induction p with|nil=>rfl|cons a p ih=>rw[sp_,ih];rfl
 rw[z]at this;exact this
theorem xh7{f:Arc->Int}:∀{p},0<sp_ f p-> ∃a∈p,0<f a
 |[],h=>absurd h (by simp[sp_])
 |a::p,h=>by
   by_cases c:0<f a
   ·exact⟨a,List.mem_cons_self ..,c⟩
   ·obtain⟨b,hb,hc⟩:=xh7 (f:=f) (p:=p) (by simp only[sp_]at h;omega);exact⟨b,List.mem_cons_of_mem _ hb,hc⟩
theorem xn0{P:Prop}[Decidable P](h:0<is P):P:=by unfold is at h;split at h;assumption;omega
def toN(x:Nat)(p:List Arc):Int:=sp_ (fun a=>is (a.to=x)) p
def frN(x:Nat)(p:List Arc):Int:=sp_ (fun a=>is (a.fr=x)) p
theorem bal{E sp v c p}(P:Path E sp v c p)(x:Nat):toN x p+is (x=sp)=frN x p+is (x=v):=by
 induction P with
 |nil=>rfl
 |@cons a c l _ _ ih=>
   have e1:toN x (a::l)=is (a.to=x)+toN x l:=rfl
   have e2:frN x (a::l)=is (a.fr=x)+frN x l:=rfl
   have e3:is (x=a.fr)=is (a.fr=x):=by unfold is;by_cases z:x=a.fr;rw[if_pos z,if_pos z.symm];rw[if_neg z,if_neg (Ne.symm z)]
   have e4:is (x=a.to)=is (a.to=x):=by unfold is;by_cases z:x=a.to;rw[if_pos z,if_pos z.symm];rw[if_neg z,if_neg (Ne.symm z)]
   omega
theorem xrn{x:Nat}:∀{p:List Arc},(p.map Arc.to).Nodup->toN x p<=1/\(x∉p.map Arc.to->toN x p=0)
 |[],_=>⟨by simp[toN,sp_],fun _=>rfl⟩
 |a::p,h=>by
   rw[List.map_cons,List.nodup_cons]at h
   have ih:=xrn (x:=x) h.2
   have e1:toN x (a::p)=is (a.to=x)+toN x p:=rfl
   by_cases c:a.to=x
   ·have:=ih.2 (c ▸ h.1)
    have:is (a.to=x)=1:=if_pos c
    exact⟨om,fun z=>absurd (List.mem_cons.2 (.inl c.symm)) (by rw[List.map_cons]at z;exact z)⟩
   ·have:is (a.to=x)=0:=if_neg c
    exact⟨om,fun z=>by have:=ih.2 (fun y=>z (by rw[List.map_cons];exact List.mem_cons_of_mem _ y));omega⟩
theorem yqx{E sp v c p}(P:Path E sp v c p):c=sp_ Arc.cost p:=by
 induction P with
 |nil=>rfl
 |cons _ _ ih=>rw[sp_];omega
theorem xt4{E sp v c p}(P:Path E sp v c p):∀a∈p,a∈E:=by
 induction P with
 |nil=>exact fun a h=>absurd h (by simp)
 |cons ha _ ih=>exact fun a h=>(List.mem_cons.1 h).elim (fun e=>e ▸ ha) (ih a)
def aug(d:List Int)(p:List Arc):List Int:=p.foldl (fun d a=>if 0<=a.way then d.set a.way.toNat (dv d a.way.toNat+a.more)else d) d
def dl(i:Nat)(p:List Arc):Int:=sp_ (fun a=>if a.way=(i:Int)then a.more else 0) p
theorem aug_len:∀{p:List Arc}{d:List Int},(aug d p).length=d.length
 |[],_=>rfl
 |a::p,d=>by
   have:=aug_len (p:=p) (d:=if 0<=a.way then d.set a.way.toNat (dv d a.way.toNat+a.more)else d)
   rw[show aug d (a::p)=aug (if 0<=a.way then d.set a.way.toNat (dv d a.way.toNat+a.more)else d) p from rfl,this]
   split<;>simp
theorem yyf{d:List Int}{j:Nat}{x:Int}(h:j<d.length)(i:Nat):dv (d.set j x) i=if j=i then x else dv d i:=by
 unfold dv
 rw[List.getD_eq_getElem?_getD,List.getElem?_set,List.getD_eq_getElem?_getD]
 by_cases e:j=i
 ·rw[if_pos e,if_pos e,if_pos h];rfl
 ·rw[if_neg e,if_neg e]
theorem yek{i:Nat}:∀{p:List Arc}{d:List Int},(∀a∈p,a.way<(d.length:Int))->dv (aug d p) i=dv d i+dl i p
 |[],d,_=>by simp[aug,dl,sp_]
 |a::p,d,h=>by
   have e:aug d (a::p)=aug (if 0<=a.way then d.set a.way.toNat (dv d a.way.toNat+a.more)else d) p:=rfl
   have e2:dl i (a::p)=(if a.way=(i:Int)then a.more else 0)+dl i p:=rfl
   have ha:=h a (List.mem_cons_self ..)
   rw[e,e2]
   by_cases c:0<=a.way
   ·rw[if_pos c,yek (fun b hb=>by rw[List.length_set];exact h b (List.mem_cons_of_mem _ hb)),yyf om]
    by_cases z:a.way=(i:Int)
    ·rw[if_pos (show a.way.toNat=i by omega),if_pos z,show a.way.toNat=i by omega];omega
    ·rw[if_neg (show ¬ a.way.toNat=i by omega),if_neg z];omega
   ·rw[if_neg c,yek (fun b hb=>h b (List.mem_cons_of_mem _ hb)),if_neg (show ¬ a.way=(i:Int) by omega)];omega
theorem xml(g:Nat->Nat)(x m:Nat):∀{p:List Arc},(∀a∈p,a.way<(m:Int))->sm m (fun i=>if g i=x then dl i p else 0)=sp_ (fun a=>if 0<=a.way/\g a.way.toNat=x then a.more else 0) p
 |[],_=>by
   rw[xnj (g:=fun _=>0) (fun i _=>by split<;>rfl),xrw];rfl
 |a::p,h=>by
   have e:∀i,(if g i=x then dl i (a::p)else 0)=(if a.way.toNat=i then(if 0<=a.way/\g a.way.toNat=x then a.more else 0)else 0)+(if g i=x then dl i p else 0):=fun i=>by
    have e2:dl i (a::p)=(if a.way=(i:Int)then a.more else 0)+dl i p:=rfl
    rw[e2]
    by_cases c:g i=x
    ·rw[if_pos c,if_pos c]
     by_cases z:a.way=(i:Int)
     ·have:a.way.toNat=i:=om
      rw[if_pos z,if_pos this,if_pos ⟨om,by rw[this];exact c⟩]
     ·rw[if_neg z]
      by_cases z2:a.way.toNat=i
      ·rw[if_pos z2,if_neg om]
      ·rw[if_neg z2]
    ·rw[if_neg c,if_neg c]
     by_cases z2:a.way.toNat=i
     ·rw[if_pos z2,if_neg (fun y=>c (by rw[<- z2];exact y.2))];omega
     ·rw[if_neg z2];omega
   have ha:=h a (List.mem_cons_self ..)
   rw[xnj (fun i _=>e i),xtn,xml g x m fun b hb=>h b (List.mem_cons_of_mem _ hb)]
   simp only[sp_]
   congr 1
   by_cases c:0<=a.way
   ·rw[yyd (fun _=>if 0<=a.way/\g a.way.toNat=x then a.more else 0) om]
   ·rw[xnj (g:=fun _=>0) (fun i _=>by rw[if_neg (show ¬ (0<=a.way/\g a.way.toNat=x) from fun z=>c z.1)];split<;>rfl),xrw,if_neg (fun z=>c z.1)]
theorem Kind.eqs{t w d a}(K:Kind t w d a):
 (∃x,x<t.nW/\0<has t d x/\a.fr=t.sp/\a.to=x/\a.cost= -bw w x/\a.way= -1/\a.more=0)\/
 (∃x,x<t.nW/\a.fr=x/\a.to=t.sp/\a.way= -1/\a.more=0)\/
 (∃h,h<t.nH/\0<lack t d h/\a.fr=t.nW+h/\a.to=t.si/\a.cost=dear ((lack t d h).toNat-1)-dear (lack t d h).toNat-bh w h/\a.way= -1/\a.more=0)\/
 (∃h,h<t.nH/\a.fr=t.si/\a.to=t.nW+h/\a.way= -1/\a.more=0)\/
 (∃i:Nat,i<t.m/\a.fr=t.ww i/\a.to=t.nW+t.wh i/\a.cost=0/\a.way=i/\a.way.toNat=i/\a.more=1)\/
 (∃i:Nat,i<t.m/\0<dv d i/\a.fr=t.nW+t.wh i/\a.to=t.ww i/\a.cost=0/\a.way=i/\a.way.toNat=i/\a.more= -1):=by
 cases K with
 |@k1 x hx c=>exact .inl ⟨x,hx,c,rfl,rfl,rfl,rfl,rfl⟩
 |@k2 x hx c=>exact .inr (.inl ⟨x,hx,rfl,rfl,rfl,rfl⟩)
 |@k3 h hx c=>exact .inr (.inr (.inl ⟨h,hx,c,rfl,rfl,rfl,rfl,rfl⟩))
 |@k4 h hx c=>exact .inr (.inr (.inr (.inl ⟨h,hx,rfl,rfl,rfl,rfl⟩)))
 |@k5 i hi=>exact .inr (.inr (.inr (.inr (.inl ⟨i,hi,rfl,rfl,rfl,rfl,Int.toNat_natCast i,rfl⟩))))
 |@k6 i hi c=>exact .inr (.inr (.inr (.inr (.inr ⟨i,hi,c,rfl,rfl,rfl,rfl,Int.toNat_natCast i,rfl⟩))))
theorem ynd{t w d π c p}(hy:∀i,i<t.m->t.wh i<t.nH/\t.ww i<t.nW)(D:Div t d)(C:Cert t w d π)(P:Path (arcsL t w d) t.sp t.si c p)
 (nd:(t.sp::p.map Arc.to).Nodup)(tight:∀a∈p,π a.fr+a.cost=π a.to):Div t (aug d p)/\Cert t w (aug d p) π/\tot t d<tot t (aug d p):=by
 have hk:∀a∈p,Kind t w d a:=fun a ha=>xoj.1 (xt4 P a ha)
 have hw:∀a∈p,a.way<(t.m:Int):=fun a ha=>by rcases(hk a ha).eqs with⟨x',e1,e2,e3,e4,e5,e6,e7⟩|⟨x',e1,e2,e3,e4,e5⟩|⟨h',e1,e2,e3,e4,e5,e6,e7⟩|⟨h',e1,e2,e3,e4,e5⟩|⟨i,e1,e2,e3,e4,e5,e6,e7⟩|⟨i,e1,e0,e2,e3,e4,e5,e6,e7⟩<;>omega
 rw[List.nodup_cons]at nd
 have hsi:t.si≠t.sp:=by simp only[Tn.si,Tn.sp];omega
 have bS:=bal P t.si
 have nfr:∀x,0<=frN x p:=fun x=>xjj fun a _=>xkj _
 have hi1:is (t.si=t.si)=1:=if_pos rfl
 have hi0:is (t.si=t.sp)=0:=if_neg hsi
 have t1:=(xrn (x:=t.si) nd.2).1
 have fr0:frN t.si p=0:=by have:=nfr t.si;omega
 have to1:toN t.si p=1:=by have:=nfr t.si;omega
 have frs:∀a∈p,a.fr≠t.si:=fun a ha z=>by
  have:0<frN t.si p:=by
   obtain⟨l1,l2,rfl⟩:=List.append_of_mem ha
   have app:∀(f:Arc->Int)l1 l2,sp_ f (l1++l2)=sp_ f l1+sp_ f l2:=fun f l1 l2=>by
    induction l1 with
    |nil=>simp[sp_]
    |cons b l ih=>rw[List.cons_append,sp_,sp_,ih];omega
   unfold frN;rw[app,sp_]
   have h1:0<=sp_ (fun a=>is (a.fr=t.si)) l1:=xjj fun a _=>xkj _
   have h2:0<=sp_ (fun a=>is (a.fr=t.si)) l2:=xjj fun a _=>xkj _
   have:is (a.fr=t.si)=1:=if_pos z
   omega
  omega
 have tos:∀a∈p,a.to≠t.sp:=fun a ha z=>nd.1 (List.mem_map.2 ⟨a,ha,z⟩)
 have dvA:∀i,i<t.m->dv (aug d p) i=dv d i+dl i p:=fun i _=>yek fun a ha=>by rw[D.len];exact hw a ha
 have hH:∀h,h<t.nH->draw t (aug d p) h=draw t d h+sp_ (fun a=>is (a.fr=t.nW+h/\a.to=t.si)) p:=fun h hh=>by
  have e1:draw t (aug d p) h=draw t d h+sm t.m (fun i=>if t.wh i=h then dl i p else 0):=by
   unfold draw;rw[<- xtn];exact xnj fun i hi=>by rw[dvA i hi];split<;>omega
  rw[e1,xml t.wh h t.m hw]
  have e2:sp_ (fun a=>if 0<=a.way/\t.wh a.way.toNat=h then a.more else 0) p=sp_ (fun a=>(is (a.to=t.nW+h)-is (a.fr=t.nW+h))+is (a.fr=t.nW+h/\a.to=t.si)) p:=xwh fun a ha=>by
   have f1:=frs a ha;have f2:=tos a ha
   have es:t.sp=t.nW+t.nH:=rfl
   have ei:t.si=t.nW+t.nH+1:=rfl
   unfold is
   rcases(hk a ha).eqs with⟨x',e1,e2,e3,e4,e5,e6,e7⟩|⟨x',e1,e2,e3,e4,e5⟩|⟨h',e1,e2,e3,e4,e5,e6,e7⟩|⟨h',e1,e2,e3,e4,e5⟩|⟨i,e1,e2,e3,e4,e5,e6,e7⟩|⟨i,e1,e0,e2,e3,e4,e5,e6,e7⟩
   ·(repeat' split)<;>omega
   ·(repeat' split)<;>omega
   ·(repeat' split)<;>omega
   ·(repeat' split)<;>omega
   ·have:=hy i e1;rw[e6];(repeat' split)<;>omega
   ·have:=hy i e1;rw[e6];(repeat' split)<;>omega
  rw[e2,xkt,xw3]
  have b:=bal P (t.nW+h)
  have i1:is (t.nW+h=t.sp)=0:=if_neg (by simp only[Tn.sp];omega)
  have i2:is (t.nW+h=t.si)=0:=if_neg (by simp only[Tn.si];omega)
  have u1:toN (t.nW+h) p=sp_ (fun a=>is (a.to=t.nW+h)) p:=rfl
  have u2:frN (t.nW+h) p=sp_ (fun a=>is (a.fr=t.nW+h)) p:=rfl
  omega
 have hHle:∀h,h<t.nH->sp_ (fun a=>is (a.fr=t.nW+h/\a.to=t.si)) p<=1:=fun h _=>by
  have:sp_ (fun a=>is (a.fr=t.nW+h/\a.to=t.si)) p<=toN t.si p:=xg7 fun a _=>by
   unfold is;by_cases z:a.to=t.si
   ·rw[if_pos z];split<;>omega
   ·rw[if_neg z,if_neg fun y=>z y.2];omega
  omega
 have hH0:∀h,0<=sp_ (fun a=>is (a.fr=t.nW+h/\a.to=t.si)) p:=fun h=>xjj fun a _=>xkj _
 have hH1:∀h,h<t.nH->0<sp_ (fun a=>is (a.fr=t.nW+h/\a.to=t.si)) p->0<lack t d h/\π (t.nW+h)+(dear ((lack t d h).toNat-1)-dear (lack t d h).toNat-bh w h)=π t.si:=fun h hh z=>by
  obtain⟨a,ha,hp⟩:=xh7 z
  obtain⟨z1,z2⟩:=xn0 hp
  have tg:=tight a ha
  have f1:=frs a ha
  have es:t.sp=t.nW+t.nH:=rfl
  have ei:t.si=t.nW+t.nH+1:=rfl
  rcases(hk a ha).eqs with⟨x',e1,e2,e3,e4,e5,e6,e7⟩|⟨x',e1,e2,e3,e4,e5⟩|⟨h',e1,e2,e3,e4,e5,e6,e7⟩|⟨h',e1,e2,e3,e4,e5⟩|⟨i,e1,e2,e3,e4,e5,e6,e7⟩|⟨i,e1,e0,e2,e3,e4,e5,e6,e7⟩
  ·omega
  ·omega
  ·obtain rfl:h'=h:=om
   exact⟨e2,by rw[e3,e4,e5]at tg;exact tg⟩
  ·omega
  ·have:=hy i e1;omega
  ·have:=hy i e1;omega
 have hW:∀x,x<t.nW->give t (aug d p) x=give t d x+sp_ (fun a=>is (a.fr=t.sp/\a.to=x)) p:=fun x hx=>by
  have e1:give t (aug d p) x=give t d x+sm t.m (fun i=>if t.ww i=x then dl i p else 0):=by
   unfold give;rw[<- xtn];exact xnj fun i hi=>by rw[dvA i hi];split<;>omega
  rw[e1,xml t.ww x t.m hw]
  have e2:sp_ (fun a=>if 0<=a.way/\t.ww a.way.toNat=x then a.more else 0) p=sp_ (fun a=>(is (a.fr=x)-is (a.to=x))+is (a.fr=t.sp/\a.to=x)) p:=xwh fun a ha=>by
   have f1:=frs a ha;have f2:=tos a ha
   have es:t.sp=t.nW+t.nH:=rfl
   have ei:t.si=t.nW+t.nH+1:=rfl
   unfold is
   rcases(hk a ha).eqs with⟨x',e1,e2,e3,e4,e5,e6,e7⟩|⟨x',e1,e2,e3,e4,e5⟩|⟨h',e1,e2,e3,e4,e5,e6,e7⟩|⟨h',e1,e2,e3,e4,e5⟩|⟨i,e1,e2,e3,e4,e5,e6,e7⟩|⟨i,e1,e0,e2,e3,e4,e5,e6,e7⟩
   ·(repeat' split)<;>omega
   ·(repeat' split)<;>omega
   ·(repeat' split)<;>omega
   ·(repeat' split)<;>omega
   ·have:=hy i e1;rw[e6];(repeat' split)<;>omega
   ·have:=hy i e1;rw[e6];(repeat' split)<;>omega
  rw[e2,xkt,xw3]
  have b:=bal P x
  have i1:is (x=t.sp)=0:=if_neg (by simp only[Tn.sp];omega)
  have i2:is (x=t.si)=0:=if_neg (by simp only[Tn.si];omega)
  have u1:toN x p=sp_ (fun a=>is (a.to=x)) p:=rfl
  have u2:frN x p=sp_ (fun a=>is (a.fr=x)) p:=rfl
  omega
 have hWle:∀x,sp_ (fun a=>is (a.fr=t.sp/\a.to=x)) p<=1:=fun x=>by
  have:sp_ (fun a=>is (a.fr=t.sp/\a.to=x)) p<=toN x p:=xg7 fun a _=>by
   unfold is;by_cases z:a.to=x
   ·rw[if_pos z];split<;>omega
   ·rw[if_neg z,if_neg fun y=>z y.2];omega
  have:=(xrn (x:=x) nd.2).1
  omega
 have hW0:∀x,0<=sp_ (fun a=>is (a.fr=t.sp/\a.to=x)) p:=fun x=>xjj fun a _=>xkj _
 have hW1:∀x,x<t.nW->0<sp_ (fun a=>is (a.fr=t.sp/\a.to=x)) p->0<has t d x/\π t.sp+ -bw w x=π x:=fun x hx z=>by
  obtain⟨a,ha,hp⟩:=xh7 z
  obtain⟨z1,z2⟩:=xn0 hp
  have tg:=tight a ha
  have f1:=frs a ha
  have es:t.sp=t.nW+t.nH:=rfl
  have ei:t.si=t.nW+t.nH+1:=rfl
  rcases(hk a ha).eqs with⟨x',e1,e2,e3,e4,e5,e6,e7⟩|⟨x',e1,e2,e3,e4,e5⟩|⟨h',e1,e2,e3,e4,e5,e6,e7⟩|⟨h',e1,e2,e3,e4,e5⟩|⟨i,e1,e2,e3,e4,e5,e6,e7⟩|⟨i,e1,e0,e2,e3,e4,e5,e6,e7⟩
  ·obtain rfl:x'=x:=om
   exact⟨e2,by rw[e3,e4,e5]at tg;exact tg⟩
  ·omega
  ·omega
  ·omega
  ·have:=hy i e1;omega
  ·have:=hy i e1;omega
 have hY:∀i,i<t.m->dl i p=sp_ (fun a=>is (a.way=i/\a.more=1)) p-sp_ (fun a=>is (a.way=i/\a.more= -1)) p:=fun i _=>by
  unfold dl;rw[<- xw3]
  exact xwh fun a ha=>by
   unfold is
   rcases(hk a ha).eqs with⟨x',e1,e2,e3,e4,e5,e6,e7⟩|⟨x',e1,e2,e3,e4,e5⟩|⟨h',e1,e2,e3,e4,e5,e6,e7⟩|⟨h',e1,e2,e3,e4,e5⟩|⟨i,e1,e2,e3,e4,e5,e6,e7⟩|⟨i,e1,e0,e2,e3,e4,e5,e6,e7⟩<;>(repeat' split)<;>omega
 have hYb:∀i,sp_ (fun a=>is (a.way=(i:Nat)/\a.more= -1)) p<=1:=fun i=>by
  have:sp_ (fun a=>is (a.way=(i:Nat)/\a.more= -1)) p<=toN (t.ww i) p:=xg7 fun a ha=>by
   unfold is
   rcases(hk a ha).eqs with⟨x',e1,e2,e3,e4,e5,e6,e7⟩|⟨x',e1,e2,e3,e4,e5⟩|⟨h',e1,e2,e3,e4,e5,e6,e7⟩|⟨h',e1,e2,e3,e4,e5⟩|⟨j,e1,e2,e3,e4,e5,e6,e7⟩|⟨j,e1,e0,e2,e3,e4,e5,e6,e7⟩
   ·(repeat' split)<;>omega
   ·(repeat' split)<;>omega
   ·(repeat' split)<;>omega
   ·(repeat' split)<;>omega
   ·(repeat' split)<;>omega
   ·by_cases z:j=i
    ·subst z;(repeat' split)<;>omega
    ·(repeat' split)<;>omega
  have:=(xrn (x:=t.ww i) nd.2).1
  omega
 have hYb1:∀i,0<sp_ (fun a=>is (a.way=(i:Nat)/\a.more= -1)) p->0<dv d i:=fun i z=>by
  obtain⟨a,ha,hp⟩:=xh7 z
  obtain⟨z1,z2⟩:=xn0 hp
  rcases(hk a ha).eqs with⟨x',e1,e2,e3,e4,e5,e6,e7⟩|⟨x',e1,e2,e3,e4,e5⟩|⟨h',e1,e2,e3,e4,e5,e6,e7⟩|⟨h',e1,e2,e3,e4,e5⟩|⟨j,e1,e2,e3,e4,e5,e6,e7⟩|⟨j,e1,e0,e2,e3,e4,e5,e6,e7⟩
  ·omega
  ·omega
  ·omega
  ·omega
  ·omega
  ·obtain rfl:j=i:=om
   exact e0
 have hYf0:∀i,0<=sp_ (fun a=>is (a.way=(i:Nat)/\a.more=1)) p:=fun i=>xjj fun a _=>xkj _
 have hYb0:∀i,0<=sp_ (fun a=>is (a.way=(i:Nat)/\a.more= -1)) p:=fun i=>xjj fun a _=>xkj _
 have hYf1:∀i,0<sp_ (fun a=>is (a.way=(i:Nat)/\a.more=1)) p->π (t.ww i)=π (t.nW+t.wh i):=fun i z=>by
  obtain⟨a,ha,hp⟩:=xh7 z
  obtain⟨z1,z2⟩:=xn0 hp
  have tg:=tight a ha
  rcases(hk a ha).eqs with⟨x',e1,e2,e3,e4,e5,e6,e7⟩|⟨x',e1,e2,e3,e4,e5⟩|⟨h',e1,e2,e3,e4,e5,e6,e7⟩|⟨h',e1,e2,e3,e4,e5⟩|⟨j,e1,e2,e3,e4,e5,e6,e7⟩|⟨j,e1,e0,e2,e3,e4,e5,e6,e7⟩
  ·omega
  ·omega
  ·omega
  ·omega
  ·obtain rfl:j=i:=om
   rw[e2,e3,e4]at tg;omega
  ·omega
 have elk:∀h d,lack t d h=t.hv h-draw t d h:=fun _ _=>rfl
 have ehs:∀x d,has t d x=t.wv x-give t d x:=fun _ _=>rfl
 refine⟨⟨aug_len.trans D.len,fun i hi=>?_,fun h hh=>?_,fun x hx=>?_⟩,⟨fun x hx c=>?_,fun x hx c=>?_,fun h hh c=>?_,fun h hh c=>?_,fun i hi=>C.f5 i hi,fun i hi c=>?_⟩,?_⟩
 ·rw[dvA i hi,hY i hi]
  have:=D.pos i hi;have:=hYf0 i;have:=hYb i;have:=hYb1 i;have:=hYb0 i
  omega
 ·rw[hH h hh]
  have:=hHle h hh;have:=hH0 h;have:=hH1 h hh;have:=D.hs h hh;have:=elk h d
  omega
 ·rw[hW x hx]
  have:=hWle x;have:=hW0 x;have:=hW1 x hx;have:=D.ws x hx;have:=ehs x d
  omega
 ·refine C.f1 x hx ?_
  rw[ehs,hW x hx]at c
  have:=hW0 x;have:=ehs x d;omega
 ·rw[ehs,hW x hx]at c
  by_cases z:0<sp_ (fun a=>is (a.fr=t.sp/\a.to=x)) p
  ·have:=(hW1 x hx z).2;omega
  ·exact C.f2 x hx (by have:=hW0 x;have:=ehs x d;omega)
 ·rw[elk,hH h hh]at c⊢
  have i0:=hH0 h;have i1:=hHle h hh;have el:=elk h d;have f:=C.f3 h hh om
  by_cases z:0<sp_ (fun a=>is (a.fr=t.nW+h/\a.to=t.si)) p
  ·have e:sp_ (fun a=>is (a.fr=t.nW+h/\a.to=t.si)) p=1:=om
   rw[e]at c⊢
   obtain⟨n,hn⟩:∃n:Nat,(lack t d h).toNat=n+2:=⟨(lack t d h).toNat-2,om⟩
   rw[hn]at f
   rw[show(t.hv h-(draw t d h+1)).toNat=n+1 by omega]
   simp only[Nat.add_sub_cancel,show n+2-1=n+1 from rfl]at f⊢
   rw[xov (n+1),xov n]at f
   rw[xov n]
   have:=xvz n;omega
  ·have e:sp_ (fun a=>is (a.fr=t.nW+h/\a.to=t.si)) p=0:=om
   rw[e,Int.add_zero,<- elk];exact f
 ·rw[elk,hH h hh]at c⊢
  have i0:=hH0 h;have i1:=hHle h hh;have el:=elk h d
  by_cases z:0<sp_ (fun a=>is (a.fr=t.nW+h/\a.to=t.si)) p
  ·have e:sp_ (fun a=>is (a.fr=t.nW+h/\a.to=t.si)) p=1:=om
   have⟨g1,g2⟩:=hH1 h hh z
   rw[e]at c⊢
   obtain⟨n,hn⟩:∃n:Nat,(lack t d h).toNat=n+1:=⟨(lack t d h).toNat-1,om⟩
   rw[hn]at g2
   rw[show(t.hv h-(draw t d h+1)).toNat=n by omega]
   simp only[Nat.add_sub_cancel]at g2
   omega
  ·have e:sp_ (fun a=>is (a.fr=t.nW+h/\a.to=t.si)) p=0:=om
   rw[e,Int.add_zero,<- elk]
   rw[e,Int.add_zero,<- elk]at c
   exact C.f4 h hh c
 ·by_cases z:0<dv d i
  ·exact C.f6 i hi z
  ·rw[dvA i hi,hY i hi]at c
   have:=hYf1 i;have:=hYb0 i;have:=hYf0 i
   have:=D.pos i hi
   have e:=hYf1 i om
   omega
 ·rw[<- xbr fun i hi=>(hy i hi).1,<- xbr fun i hi=>(hy i hi).1,xnj hH,xtn]
  have:0<sm t.nH (fun h=>sp_ (fun a=>is (a.fr=t.nW+h/\a.to=t.si)) p):=by
   obtain⟨a,ha,hp⟩:=xh7 (show 0<sp_ (fun a=>is (a.to=t.si)) p by have:toN t.si p=sp_ (fun a=>is (a.to=t.si)) p:=rfl;omega)
   have z:=xn0 hp
   have f1:=frs a ha
   obtain⟨h,hh,ef⟩:∃h,h<t.nH/\a.fr=t.nW+h:=by
    have es:t.sp=t.nW+t.nH:=rfl
    have ei:t.si=t.nW+t.nH+1:=rfl
    rcases(hk a ha).eqs with⟨x',e1,e2,e3,e4,e5,e6,e7⟩|⟨x',e1,e2,e3,e4,e5⟩|⟨h',e1,e2,e3,e4,e5,e6,e7⟩|⟨h',e1,e2,e3,e4,e5⟩|⟨i,e1,e2,e3,e4,e5,e6,e7⟩|⟨i,e1,e0,e2,e3,e4,e5,e6,e7⟩
    ·omega
    ·omega
    ·exact⟨h',e1,e3⟩
    ·omega
    ·have:=hy i e1;omega
    ·have:=hy i e1;omega
   have m1:=xr9 (f:=fun h=>sp_ (fun a=>is (a.fr=t.nW+h/\a.to=t.si)) p) (fun i _=>hH0 i) hh
   have m2:0<sp_ (fun a=>is (a.fr=t.nW+h/\a.to=t.si)) p:=by
    obtain⟨l1,l2,rfl⟩:=List.append_of_mem ha
    have app:∀(f:Arc->Int)l1 l2,sp_ f (l1++l2)=sp_ f l1+sp_ f l2:=fun f l1 l2=>by
     induction l1 with
     |nil=>simp[sp_]
     |cons b l ih=>rw[List.cons_append,sp_,sp_,ih];omega
    rw[app,sp_]
    have h1:0<=sp_ (fun a=>is (a.fr=t.nW+h/\a.to=t.si)) l1:=xjj fun a _=>xkj _
    have h2:0<=sp_ (fun a=>is (a.fr=t.nW+h/\a.to=t.si)) l2:=xjj fun a _=>xkj _
    have:is (a.fr=t.nW+h/\a.to=t.si)=1:=if_pos ⟨ef,z⟩
    omega
   omega
  omega
def bf(t:Tn)(w:Wi)(d:List Int):Lab:=sweeps (arcsL t w d) (nN t) (lab0 (nN t) t.sp)
def backL(s:Lab)(sp:Nat):Nat->Nat->List Arc
 |0,_=>[]
 |f+1,v=>if v=sp then []else B s v::backL s sp f (B s v).fr
def costL(t:Tn)(w:Wi)(d:List Int):Int:=L (bf t w d) t.si
def pathL(t:Tn)(w:Wi)(d:List Int):List Arc:=if costL t w d<far then backL (bf t w d) t.sp (nN t) t.si else []
def fairF(t:Tn)(w:Wi):Nat->List Int->List Int
 |0,d=>d
 |n+1,d=>if 0<=costL t w d then d else fairF t w n (aug d (pathL t w d))
def fairP(t:Tn)(w:Wi):List Int:=fairF t w ((sm t.nH t.hv).toNat+1) (List.replicate t.m 0)
theorem xv8{s sp v p}(C:Chain s sp v p):∀{f},p.length<f->backL s sp f v=p:=by
 induction C with
 |nil=>intro f h;cases f with|zero=>omega|succ f=>rw[backL,if_pos rfl]
 |@cons v p ne _ ih=>
   intro f h
   cases f with
   |zero=>omega
   |succ f=>rw[backL,if_neg ne,ih (by rw[List.length_cons]at h;omega)]
structure Good(t:Tn)(w:Wi)(d:List Int):Prop where
 div:Div t d
 low:∃π,Cert t w d π/\π t.si<=π t.sp
structure Best(t:Tn)(w:Wi)(d:List Int):Prop extends Good t w d where
 high:∃π,Cert t w d π/\π t.sp<=π t.si
 cut:∃R:Nat->Bool,R t.sp=true/\R t.si=false/\ ∀a∈arcsL t w d,R a.fr=true->R a.to=true
theorem yqf(f:Nat->Int):∀n,∃M,∀v,v<n->f v<=M
 |0=>⟨0,fun v h=>absurd h om⟩
 |n+1=>by
   obtain⟨M,h⟩:=yqf f n
   refine⟨max M (f n),fun v hv=>?_⟩
   by_cases e:v=n
   ·subst e;omega
   ·have:=h v om;omega
structure Find(t:Tn)(w:Wi)(d:List Int):Prop where
 z:L (bf t w d) t.sp=0
 top:∀v,L (bf t w d) v<=far
 closed:∀a∈arcsL t w d,L (bf t w d) a.fr<far->L (bf t w d) a.to<far/\L (bf t w d) a.to<=L (bf t w d) a.fr+a.cost
 way:costL t w d<far->Path (arcsL t w d) t.sp t.si (costL t w d) (pathL t w d)/\Chain (bf t w d) t.sp t.si (pathL t w d)/\(t.sp::(pathL t w d).map Arc.to).Nodup/\
  ∀a∈pathL t w d,a∈arcsL t w d/\L (bf t w d) a.fr+a.cost=L (bf t w d) a.to/\L (bf t w d) a.fr<far
theorem Good.find{t w d}(O:Ok t)(S:Sg w)(G:Good t w d):Find t w d:=by
 obtain⟨π,C,_⟩:=G.low
 have e9:cC*nN t<far:=by
  have:=O.nh;have:=O.nw
  have h1:(nN t:Int)<=13:=by simp only[nN];omega
  have:=Int.mul_le_mul_of_nonneg_left h1 (show(0:Int)<=cC by decide)
  have:cC*13<far:=by decide
  omega
 have hs:t.sp<nN t:=by simp only[Tn.sp,nN];omega
 have hi:t.si<nN t:=by simp only[Tn.si,nN];omega
 obtain⟨h1,h2,h3,h4⟩:=ybf (xx0 C) hs (xqc O.y) (fun a h=>(xfl O S G.div a h).2) (by decide) e9 (s:=bf t w d) rfl
 refine⟨h1,h2,h3,fun hf=>?_⟩
 obtain⟨p,c,P,nd,tg⟩:=h4 t.si hi hf
 have hl:p.length<nN t:=by
  have:=xjf (N:=nN t) nd fun z hz=>by
   rcases List.mem_cons.1 hz with rfl|hz
   ·exact hs
   ·obtain⟨b,hb,rfl⟩:=List.mem_map.1 hz
    exact(xqc O.y b (xt4 P b hb)).2
  simp only[List.length_cons,List.length_map]at this
  omega
 have e:pathL t w d=p:=by rw[pathL,if_pos hf,xv8 c hl]
 rw[e]
 exact⟨P,c,nd,tg⟩
theorem Good.pots{t w d}(O:Ok t)(S:Sg w)(G:Good t w d):∃π,Cert t w d π/\(∀v,L (bf t w d) v<far->π v=L (bf t w d) v)/\(¬ costL t w d<far->0<=π t.si):=by
 have Fd:=G.find O S
 obtain⟨π,C,_⟩:=G.low
 obtain⟨M,hM⟩:=yqf (fun v=>far+cC-π v) (nN t)
 have hi:t.si<nN t:=by simp only[Tn.si,nN];omega
 have hfar:0<=far:=by decide
 have hcC:0<=cC:=by decide
 refine⟨fun v=>if L (bf t w d) v<far then L (bf t w d) v else M+π v,yjj fun a ha=>?_,fun v h=>if_pos h,fun h=>?_⟩
 ·have⟨e1,e2⟩:=xqc O.y a ha
  have cc:=xfl O S G.div a ha
  have F1:=xx0 C a ha
  have m1:=hM _ e1
  by_cases f:L (bf t w d) a.fr<far
  ·have:=Fd.closed a ha f
   simp only[if_pos f,if_pos this.1];omega
  ·by_cases g:L (bf t w d) a.to<far
   ·simp only[if_neg f,if_pos g];omega
   ·simp only[if_neg f,if_neg g];omega
 ·have m1:=hM _ hi
  have e:¬ L (bf t w d) t.si<far:=h
  simp only[if_neg e];omega
theorem Good.next{t w d}(O:Ok t)(S:Sg w)(G:Good t w d)(h:costL t w d<0):Good t w (aug d (pathL t w d))/\tot t d<tot t (aug d (pathL t w d)):=by
 have hfar:0<far:=by decide
 have Fd:=G.find O S
 obtain⟨π,C,hπ,_⟩:=G.pots O S
 obtain⟨P,_,nd,tg⟩:=Fd.way om
 have A:=ynd O.y G.div C P nd fun a ha=>by
  obtain⟨h1,h2,h3⟩:=tg a ha
  rw[hπ _ h3,hπ _ (Fd.closed a h1 h3).1];exact h2
 refine⟨⟨A.1,π,A.2.1,?_⟩,A.2.2⟩
 have h':L (bf t w d) t.si<0:=h
 rw[hπ _ om,hπ _ (by rw[Fd.z];exact hfar),Fd.z];omega
theorem Good.last{t w d}(O:Ok t)(S:Sg w)(G:Good t w d)(h:0<=costL t w d):Best t w d:=by
 have hfar:0<far:=by decide
 have Fd:=G.find O S
 obtain⟨π,C,hπ,h0⟩:=G.pots O S
 have hun:¬ costL t w d<far:=fun hf=>by
  obtain⟨P,_,nd,tg⟩:=Fd.way hf
  rw[List.nodup_cons]at nd
  have hc:=yqx P
  have hsi:t.si≠t.sp:=by simp only[Tn.si,Tn.sp];omega
  have bS:=bal P t.si
  have bs:=bal P t.sp
  have i1:is (t.si=t.si)=1:=if_pos rfl
  have i2:is (t.si=t.sp)=0:=if_neg hsi
  have i3:is (t.sp=t.sp)=1:=if_pos rfl
  have i4:is (t.sp=t.si)=0:=if_neg hsi.symm
  have n1:0<=frN t.si (pathL t w d):=xjj fun a _=>xkj _
  have t0:=(xrn (x:=t.sp) nd.2).2 nd.1
  have hle:sp_ Arc.cost (pathL t w d)<=sp_ (fun a=>-5999*is (a.to=t.si)+is (a.fr=t.sp)) (pathL t w d)+100000000000*frN t.si (pathL t w d):=by
   have:sp_ Arc.cost (pathL t w d)<=sp_ (fun a=>(-5999*is (a.to=t.si)+is (a.fr=t.sp))+100000000000*is (a.fr=t.si)) (pathL t w d):=xg7 fun a ha=>by
    have hto:a.to≠t.sp:=fun z=>nd.1 (List.mem_map.2 ⟨a,ha,z⟩)
    have es:t.sp=t.nW+t.nH:=rfl
    have ei:t.si=t.nW+t.nH+1:=rfl
    have cc:=(xfl O S G.div a (tg a ha).1).2
    have eC:cC<100000000000-5999:=by decide
    unfold is
    rcases(xoj.1 (tg a ha).1).eqs with⟨x',e1,e2,e3,e4,e5,e6,e7⟩|⟨x',e1,e2,e3,e4,e5⟩|⟨h',e1,e2,e3,e4,e5,e6,e7⟩|⟨h',e1,e2,e3,e4,e5⟩|⟨i,e1,e2,e3,e4,e5,e6,e7⟩|⟨i,e1,e0,e2,e3,e4,e5,e6,e7⟩
    ·have:=S.bw x';(repeat' split)<;>omega
    ·omega
    ·obtain⟨n,hn⟩:∃n:Nat,(lack t d h').toNat=n+1:=⟨(lack t d h').toNat-1,om⟩
     have:=S.bh h'
     have:=xvz n
     rw[hn,Nat.add_sub_cancel,xov]at e5
     (repeat' split)<;>omega
    ·(repeat' split)<;>omega
    ·have:=O.y i e1;(repeat' split)<;>omega
    ·have:=O.y i e1;(repeat' split)<;>omega
   rw[xkt,xt1]at this
   exact this
  rw[xkt,xt1]at hle
  have u1:toN t.si (pathL t w d)=sp_ (fun a=>is (a.to=t.si)) (pathL t w d):=rfl
  have u2:frN t.sp (pathL t w d)=sp_ (fun a=>is (a.fr=t.sp)) (pathL t w d):=rfl
  have t1:=(xrn (x:=t.si) nd.2).1
  have f0:frN t.si (pathL t w d)=0:=om
  omega
 refine⟨G,⟨π,C,?_⟩,fun v=>decide (L (bf t w d) v<far),by simp only[Fd.z];decide,decide_eq_false hun,fun a ha hf=>?_⟩
 ·rw[hπ _ (by rw[Fd.z];exact hfar),Fd.z];exact h0 hun
 ·exact decide_eq_true (Fd.closed a ha (of_decide_eq_true hf)).1
theorem Good.start{t w}(O:Ok t)(S:Sg w):Good t w (List.replicate t.m 0):=by
 have dv0:∀i,dv (List.replicate t.m 0) i=0:=fun i=>by
  unfold dv;rw[List.getD_eq_getElem?_getD,List.getElem?_replicate];split<;>rfl
 have dr:∀h,draw t (List.replicate t.m 0) h=0:=fun h=>by
  unfold draw;exact(xnj (g:=fun _=>0) fun i _=>by rw[dv0];split<;>rfl).trans (xrw _)
 have gv:∀h,give t (List.replicate t.m 0) h=0:=fun h=>by
  unfold give;exact(xnj (g:=fun _=>0) fun i _=>by rw[dv0];split<;>rfl).trans (xrw _)
 have es:t.sp=t.nW+t.nH:=rfl
 have ei:t.si=t.nW+t.nH+1:=rfl
 have d9:dear 9<999999999990:=by decide
 refine⟨⟨by simp,fun i _=>by rw[dv0];exact Int.le_refl _,fun h hh=>by rw[dr];exact(O.h h hh).1,fun x hx=>by rw[gv];exact(O.w x hx).1⟩,
  fun v=>if v=t.sp then 0 else if v=t.si then -999999999999 else -1,⟨fun x hx c=>?_,fun x hx c=>?_,fun h hh c=>?_,fun h hh c=>?_,fun i hi=>?_,fun i hi c=>?_⟩,?_⟩
 ·have:=S.bw x
  simp only[if_neg (show ¬ x=t.sp by omega),if_neg (show ¬ x=t.si by omega),if_true];omega
 ·unfold has at c;rw[gv]at c;omega
 ·have:=S.bh h
  have l9:(lack t (List.replicate t.m 0) h).toNat<=9:=by have:=O.h h hh;unfold lack;rw[dr];omega
  have:=xmw l9
  have:=xvz ((lack t (List.replicate t.m 0) h).toNat-1)
  simp only[if_neg (show ¬ t.si=t.sp by omega),if_neg (show ¬ t.nW+h=t.sp by omega),if_neg (show ¬ t.nW+h=t.si by omega),if_true];omega
 ·unfold lack at c;rw[dr]at c;omega
 ·have:=O.y i hi
  simp only[if_neg (show ¬ t.nW+t.wh i=t.sp by omega),if_neg (show ¬ t.nW+t.wh i=t.si by omega),if_neg (show ¬ t.ww i=t.sp by omega),if_neg (show ¬ t.ww i=t.si by omega)]
  exact Int.le_refl _
 ·rw[dv0]at c;omega
 ·simp only[if_neg (show ¬ t.si=t.sp by omega),if_true];decide
theorem yxd{t d}(O:Ok t)(D:Div t d):tot t d<=sm t.nH t.hv:=by
 rw[<- xbr fun i hi=>(O.y i hi).1];exact yug D.hs
theorem xo0{t w}(O:Ok t)(S:Sg w):∀{n:Nat}{d},Good t w d->sm t.nH t.hv-tot t d<n->Best t w (fairF t w n d)
 |0,d,G,h=>by have:=yxd O G.div;omega
 |n+1,d,G,h=>by
   rw[fairF]
   by_cases c:0<=costL t w d
   ·rw[if_pos c];exact G.last O S c
   ·rw[if_neg c]
    obtain⟨G',h'⟩:=G.next O S om
    exact xo0 O S G' om
theorem xkw{t w}(O:Ok t)(S:Sg w):Best t w (fairP t w):=by
 refine xo0 O S (Good.start O S) ?_
 have:0<=tot t (List.replicate t.m 0):=xpb (Good.start O S).div.pos
 omega
def ob(b:Bool):Int:=if b then 0 else 1
def put:List Int->Int->List Int
 |[],n=>[n]
 |a::l,n=>if n<=a then a::put l n else n::a::l
def srt(l:List Int):List Int:=l.foldl put []
def Desc(l:List Int):Prop:=l.Pairwise (fun a b=>b<=a)
theorem xsr(n:Int):∀l,(put l n).Perm (n::l)
 |[]=>.refl _
 |a::l=>by
   rw[put];split
   ·exact((xsr n l).cons a).trans (.swap ..)
   ·exact .refl _
theorem xq4{n:Int}:∀{l},Desc l->Desc (put l n)
 |[],_=>by simp[put,Desc]
 |a::l,h=>by
   have h:=List.pairwise_cons.1 h
   rw[put];split
   ·next c=>
    refine List.pairwise_cons.2 ⟨fun z hz=>?_,xq4 h.2⟩
    rcases List.mem_cons.1 ((xsr n l).mem_iff.1 hz)with rfl|hz
    ·exact c
    ·exact h.1 z hz
   ·next c=>
    refine List.pairwise_cons.2 ⟨fun z hz=>?_,List.pairwise_cons.2 h⟩
    rcases List.mem_cons.1 hz with rfl|hz
    ·omega
    ·have:=h.1 z hz;omega
theorem xks:∀{l o:List Int},Desc o->Desc (l.foldl put o)/\(l.foldl put o).Perm (l++o)
 |[],o,h=>⟨h,.refl _⟩
 |a::l,o,h=>by
   have:=xks (l:=l) (xq4 (n:=a) h)
   exact⟨this.1,this.2.trans (((xsr a o).append_left l).trans (List.perm_middle))⟩
theorem yzv(l):Desc (srt l):=(xks (l:=l) (o:=[]) .nil).1
theorem xer(l):(srt l).Perm l:=by have:=(xks (l:=l) (o:=[]) .nil).2;rwa[List.append_nil]at this
theorem xxm:∀{a b:List Int},Desc a->Desc b->a.Perm b->a=b
 |[],b,_,_,p=>(List.Perm.nil_eq p)
 |x::a,[],_,_,p=>absurd (p.symm.nil_eq) (by simp)
 |x::a,y::b,ha,hb,p=>by
   have h1:=List.pairwise_cons.1 ha
   have h2:=List.pairwise_cons.1 hb
   have e:x=y:=by
    have m1:x∈y::b:=p.mem_iff.1 (List.mem_cons_self ..)
    have m2:y∈x::a:=p.mem_iff.2 (List.mem_cons_self ..)
    rcases List.mem_cons.1 m1 with e|m1
    ·exact e
    ·rcases List.mem_cons.1 m2 with e|m2
     ·exact e.symm
     ·have:=h1.1 y m2;have:=h2.1 x m1;omega
   subst e
   rw[xxm h1.2 h2.2 ((List.perm_cons x).1 p)]
theorem yon{l r:List Int}(h:Desc r)(p:r.Perm l):srt l=r:=xxm (yzv l) h ((xer l).trans p.symm)
def val:List Int->Int
 |[]=>0
 |a::l=>dear a.toNat+val l
def lackL(t:Tn)(d:List Int):List Int:=(List.range t.nH).map (lack t d)
def lacks(t:Tn)(d:List Int):List Int:=srt (lackL t d)
theorem ypz(t d):(lacks t d).length=t.nH:=by rw[lacks,(xer _).length_eq,lackL];simp
theorem yoz{t d z}:z∈lacks t d<-> ∃h,h<t.nH/\lack t d h=z:=by
 rw[lacks,(xer _).mem_iff,lackL];simp
theorem xvb:Sg none0:=⟨by decide,by decide⟩
def LK(t:Tn):List Int:=lacks t (fairP t none0)
end Go.X.Flow
