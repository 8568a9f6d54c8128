/-
  Part of proofs about a town's master: a calculus for Bj beside goroutines that are only leaving, and the Bj. No condition.
-/
import Derived.Test.YtadndcpcjmmngaaGreatDoorYO
namespace Go.X.Bf
variable{N:Nat}
structure Arc where
 fr:Nat
 to:Nat
 cost:Int
 way:Int
 more:Int
deriving Inhabited,DecidableEq
variable{E:List Arc}
def a0:Arc:=⟨0,0,0,0,0⟩
def far:Int:=2^60
structure Lab where
 c:List Int
 b:List Arc
variable{s:Lab}
def L(s:Lab)(v:Nat):Int:=s.c.getD v far
def B(s:Lab)(v:Nat):Arc:=s.b.getD v a0
def rel(s:Lab)(a:Arc):Lab:=if L s a.fr<far/\L s a.fr+a.cost<L s a.to then⟨s.c.set a.to (L s a.fr+a.cost),s.b.set a.to a⟩else s
def Pi(E:List Arc)(s:Lab):Lab:=E.foldl rel s
def Bo(E:List Arc):Nat->Lab->Lab
 |0,s=>s
 |n+1,s=>Pi E (Bo E n s)
def E8(N sp:Nat):Lab:=⟨(List.replicate N far).set sp 0,List.replicate N a0⟩
inductive Path (E:List Arc) (sp:Nat):Nat->Int->List Arc->Prop
 |nil:Path E sp sp 0 []
 |cons {a:Arc} {x:Int} {l:List Arc}:a∈E->Path E sp a.fr x l->Path E sp a.to (x+a.cost) (a::l)
def Mk(E:List Arc)(π:Nat->Int):Prop:=∀a∈E,π a.to<=π a.fr+a.cost
theorem xtr{E sp π v x l}(F:Mk E π)(P:Path E sp v x l):π v-π sp<=x:=by
 induction P with
 |nil=>omega
 |cons ha _ ih=>have:=F _ ha;omega
theorem xqp{E sp π}(F:Mk E π):∀{l1 l2 v x},Path E sp v x (l1++l2)-> ∃y u,Path E sp u y l2/\π v-π u<=x-y/\(∀b r,l2=b::r->u=b.to)
 |[],l2,v,x,P=>⟨x,v,P,om,fun b r e=>by simp only[List.nil_append,e]at P;cases P;rfl⟩
 |a::l1,l2,_,_,.cons ha P=>by
   have⟨y,u,Q,h,e⟩:=xqp F P;have:=F _ ha;exact⟨y,u,Q,om,e⟩
theorem xvd:∀{N:Nat}{l:List Nat},l.Nodup->(∀x∈l,x<N)->l.length<=N
 |0,[],_,_=>Nat.le_refl _
 |0,x::l,_,h=>absurd (h x (List.mem_cons_self ..)) om
 |N+1,l,d,h=>by
   by_cases m:N∈l
   ·have H:=xvd (N:=N) (d.erase N) fun x z=>by
     have⟨ne,z'⟩:=d.mem_erase_iff.1 z;have:=h x z';omega
    rw[List.length_erase_of_mem m]at H;omega
   ·have:=xvd (N:=N) d fun x z=>by
     have:=h x z;by_cases e:x=N
     ·exact absurd (e ▸ z) m
     ·omega
    omega
theorem xq2{E sp π}(F:Mk E π){v x l}(P:Path E sp v x l):∃H l',Path E sp v H l'/\H<=x/\(sp::l'.map Arc.to).Nodup:=by
 induction P with
 |nil=>exact⟨0,[],.nil,Int.le_refl _,s_⟩
 |@cons a x l ha P ih=>
   obtain⟨H,l',Q,hx,hn⟩:=ih;have V:=F _ ha;have hq:=xtr F Q;by_cases e:a.to=sp
   ·exact⟨0,[],e ▸ .nil,by rw[e]at V;omega,s_⟩
   ·by_cases m:a.to∈l'.map Arc.to
    ·obtain⟨b,hb,O⟩:=List.mem_map.1 m;obtain⟨l1,M,rfl⟩:=List.append_of_mem hb;obtain⟨y,u,R,hy,hu⟩:=xqp F Q;obtain rfl:=hu b M rfl;refine⟨y,b::M,O ▸ R,by rw[O]at hy;omega,?_⟩;rw[List.nodup_cons]at hn⊢;refine⟨fun z=>hn.1 ?_,?_⟩
     ·rw[List.map_append];exact List.mem_append.2 (.inr z)
     ·have:=hn.2;rw[List.map_append,List.nodup_append]at this;exact this.2.1
    ·refine⟨H+a.cost,a::l',.cons ha Q,om,?_⟩;rw[List.nodup_cons]at hn⊢;rw[List.map_cons,List.nodup_cons,List.mem_cons];exact⟨fun z=>z.elim (fun z=>e z.symm) hn.1,m,hn.2⟩
theorem xg8{E sp π N}(F:Mk E π)(O:sp<N)(hE:∀a∈E,a.fr<N/\a.to<N){v x l}(P:Path E sp v x l):∃H l',Path E sp v H l'/\H<=x/\l'.length<N:=by
 obtain⟨H,l',Q,hx,hn⟩:=xq2 F P;refine⟨H,l',Q,hx,?_⟩;have V:∀{v x l},Path E sp v x l-> ∀a∈l,a∈E:=fun P=>by
  induction P with
  |nil=>exact fun a h=>absurd h s_
  |cons ha _ ih=>exact fun a h=>(List.mem_cons.1 h).elim (fun e=>e ▸ ha) (ih a)
 have:=xvd (N:=N) hn fun z M=>by
  rcases List.mem_cons.1 M with rfl|M
  ·exact O
  ·obtain⟨b,hb,rfl⟩:=List.mem_map.1 M;exact(hE b (V Q b hb)).2
 simp only[List.length_cons,List.length_map]at this;omega
theorem xg5{E sp C}(H:∀a∈E,a.cost<=C){v x l}(P:Path E sp v x l):x<=C*l.length:=by
 induction P with
 |nil=>simp
 |cons ha _ ih=>have:=H _ ha;rw[List.length_cons,Int.natCast_add,Int.mul_add];omega
theorem yof{a:Arc}(h:a.to<s.c.length)(v:Nat):L (rel s a) v=if L s a.fr<far/\L s a.fr+a.cost<L s a.to/\a.to=v then L s a.fr+a.cost else L s v:=by
 unfold rel;by_cases e:L s a.fr<far/\L s a.fr+a.cost<L s a.to
 ·rw[if_pos e];by_cases d:a.to=v
  ·subst d;rw[if_pos ⟨e.1,e.2,rfl⟩];simp only[L,List.getD_eq_getElem?_getD,List.getElem?_set,if_true,if_pos h];rfl
  ·rw[if_neg fun z=>d z.2.2];simp only[L,List.getD_eq_getElem?_getD,List.getElem?_set,if_neg d]
 ·rw[if_neg e,if_neg fun z=>e ⟨z.1,z.2.1⟩]
theorem yo8{a:Arc}(h:a.to<s.b.length)(v:Nat):B (rel s a) v=if L s a.fr<far/\L s a.fr+a.cost<L s a.to/\a.to=v then a else B s v:=by
 unfold rel;by_cases e:L s a.fr<far/\L s a.fr+a.cost<L s a.to
 ·rw[if_pos e];by_cases d:a.to=v
  ·subst d;rw[if_pos ⟨e.1,e.2,rfl⟩];simp only[B,List.getD_eq_getElem?_getD,List.getElem?_set,if_true,if_pos h];rfl
  ·rw[if_neg fun z=>d z.2.2];simp only[B,List.getD_eq_getElem?_getD,List.getElem?_set,if_neg d]
 ·rw[if_neg e,if_neg fun z=>e ⟨z.1,z.2.1⟩]
theorem xyl{a:Arc}:(rel s a).c.length=s.c.length/\(rel s a).b.length=s.b.length:=by
 unfold rel;split<;>simp
theorem xef:∀{s:Lab},(E.foldl rel s).c.length=s.c.length/\(E.foldl rel s).b.length=s.b.length:=by
 induction E with
 |nil=>exact⟨rfl,rfl⟩
 |cons a E ih=>intro s;rw[List.foldl_cons];have h:=ih (s:=rel s a);have g:=xyl (s:=s) (a:=a);exact⟨h.1.trans g.1,h.2.trans g.2⟩
theorem ywr{a:Arc}(h:a.to<s.c.length)(v:Nat):L (rel s a) v<=L s v:=by
 rw[yof h];split
 ·next e=>rw[<- e.2.2];omega
 ·exact Int.le_refl _
theorem xy2:∀{s:Lab},s.c.length=N->(∀a∈E,a.to<N)-> ∀v,L (E.foldl rel s) v<=L s v:=by
 induction E with
 |nil=>exact fun _ _ v=>Int.le_refl _
 |cons a E ih=>
   intro s hs H v;rw[List.foldl_cons];exact Int.le_trans (ih (xyl.1.trans hs) (fun b M=>H b (List.mem_cons_of_mem _ M)) v) (ywr (by rw[hs];exact H a (List.mem_cons_self ..)) v)
theorem ymc(hs:s.c.length=N)(hE:∀a∈E,a.to<N){a:Arc}(ha:a∈E)(hf:L s a.fr<far):L (E.foldl rel s) a.to<=L s a.fr+a.cost:=by
 obtain⟨H,E2,rfl⟩:=List.append_of_mem ha;rw[List.foldl_append,List.foldl_cons];have h1:=xy2 (N:=N) (E:=H) hs (fun b O=>hE b (List.mem_append.2 (.inl O))) a.fr;have l1:(H.foldl rel s).c.length=N:=xef.1.trans hs;have V:a.to<(H.foldl rel s).c.length:=by rw[l1];exact hE a ha
 have M:=xy2 (N:=N) (E:=E2) (s:=rel (H.foldl rel s) a) (xyl.1.trans l1) (fun b O=>hE b (List.mem_append.2 (.inr (List.mem_cons_of_mem _ O)))) a.to;rw[yof V]at M;by_cases e:L (H.foldl rel s) a.fr+a.cost<L (H.foldl rel s) a.to
 ·rw[if_pos ⟨om,e,rfl⟩]at M;omega
 ·rw[if_neg fun z=>e z.2.1]at M;omega
theorem xwj{E:List Arc}{s:Lab}:∀n,(Bo E n s).c.length=s.c.length/\(Bo E n s).b.length=s.b.length
 |0=>⟨rfl,rfl⟩
 |n+1=>⟨xef.1.trans (xwj n).1,xef.2.trans (xwj n).2⟩
theorem xz1{E sp N C}(O:∀a∈E,a.to<N)(hC:∀a∈E,a.cost<=C)(h0:0<=C){s:Lab}(hs:s.c.length=N)(M:L s sp<=0)(hb:C*N<far):
 ∀{v x l},Path E sp v x l->l.length<=N-> ∀r,l.length<=r->L (Bo E r s) v<=x:=by
 have hm:∀r v,L (Bo E (r+1) s) v<=L (Bo E r s) v:=fun r v=>xy2 (N:=N) ((xwj r).1.trans hs) O v;have H:∀r,L (Bo E r s) sp<=0:=fun r=>by
  induction r with
  |zero=>exact M
  |succ r ih=>exact Int.le_trans (hm r sp) ih
 intro v x l P
 induction P with
 |nil=>exact fun _ r _=>H r
 |@cons a x l ha P ih=>
   intro hN r V;rw[List.length_cons]at hN V;cases r with
   |zero=>omega
   |succ r=>
     have h1:=ih om r om;have h2:=xg5 hC P;have h3:C*(l.length:Int)<=C*N:=Int.mul_le_mul_of_nonneg_left om h0;have h4:=ymc (N:=N) ((xwj r).1.trans hs) O ha (s:=Bo E r s) om;exact Int.le_trans h4 om
structure Inv(E:List Arc)(sp N:Nat)(s:Lab)(τ:Nat->Nat)(T:Nat):Prop where
 lc:s.c.length=N
 lb:s.b.length=N
 z:L s sp=0
 walk:∀v,v<N->L s v<far-> ∃l,Path E sp v (L s v) l
 top:∀v,L s v<=far
 by_:∀v,v<N->v≠sp->L s v<far->B s v∈E/\(B s v).to=v/\L s (B s v).fr<far/\L s (B s v).fr+(B s v).cost<=L s v/\(L s (B s v).fr+(B s v).cost=L s v->τ (B s v).fr<τ v)
 clock:∀v,τ v<T
theorem Inv.start{E sp N}(M:sp<N):Inv E sp N (E8 N sp) (fun _=>0) 1:=by
 have H:∀v,L (E8 N sp) v=if v=sp then 0 else far:=fun v=>by
  unfold L E8;rw[List.getD_eq_getElem?_getD,List.getElem?_set];by_cases e:v=sp
  ·subst e;simp[M]
  ·rw[if_neg (Ne.symm e),if_neg e,List.getElem?_replicate];split<;>rfl
 refine⟨by simp[E8],by simp[E8],by rw[H,if_pos rfl],fun v hv hf=>?_,fun v=>?_,fun v hv O hf=>?_,fun v=>by simp⟩
 ·by_cases e:v=sp
  ·subst e;exact⟨[],by rw[H,if_pos rfl];exact .nil⟩
  ·rw[H,if_neg e]at hf;omega
 ·rw[H];split<;>decide
 ·rw[H,if_neg O]at hf;omega
theorem Inv.step{E sp N π s τ T}(F:Mk E π)(hE:∀a∈E,a.fr<N/\a.to<N)(I:Inv E sp N s τ T){a:Arc}(V:a∈E):∃τ' T',Inv E sp N (rel s a) τ' T':=by
 by_cases e:L s a.fr<far/\L s a.fr+a.cost<L s a.to
 ·have⟨hfr,hto⟩:=hE a V;have M:=fun v=>yof (s:=s) (a:=a) (by rw[I.lc];exact hto) v;have a2:=fun v=>yo8 (s:=s) (a:=a) (by rw[I.lb];exact hto) v;obtain⟨l,P⟩:=I.walk _ hfr e.1;have a3:a.to≠sp:=fun z=>by
   have h:=xtr F (Path.cons V P);rw[z]at h e;rw[I.z]at e;omega
  have O:a.fr≠a.to:=fun z=>by
   have h:=F _ V;rw[z]at h e;omega
  have hv:L (rel s a) a.to=L s a.fr+a.cost:=by rw[M,if_pos ⟨e.1,e.2,rfl⟩]
  have H:∀w,w≠a.to->L (rel s a) w=L s w:=fun w hw=>by rw[M,if_neg fun z=>hw z.2.2.symm]
  have bv:B (rel s a) a.to=a:=by rw[a2,if_pos ⟨e.1,e.2,rfl⟩]
  have bo:∀w,w≠a.to->B (rel s a) w=B s w:=fun w hw=>by rw[a2,if_neg fun z=>hw z.2.2.symm]
  refine⟨fun w=>if w=a.to then T else τ w,T+1,xyl.1.trans I.lc,xyl.2.trans I.lb,by rw[H _ a3.symm];exact I.z,fun w hw hf=>?_,fun w=>?_,fun w hw hn hf=>?_,fun w=>?_⟩
  ·by_cases d:w=a.to
   ·subst d;rw[hv];exact⟨_,.cons V P⟩
   ·rw[H w d]at hf⊢;exact I.walk w hw hf
  ·by_cases d:w=a.to
   ·subst d;rw[hv];have:=I.top a.to;omega
   ·rw[H w d];exact I.top w
  ·by_cases d:w=a.to
   ·subst d;rw[bv,hv,H _ O];refine⟨V,rfl,e.1,Int.le_refl _,fun _=>?_⟩;rw[if_pos rfl,if_neg O];exact I.clock _
   ·rw[bo w d,H w d];rw[H w d]at hf;obtain⟨h1,h2,h3,h4,h5⟩:=I.by_ w hw hn hf;by_cases c:(B s w).fr=a.to
    ·rw[c]at h3 h4;rw[c,hv];exact⟨h1,h2,om,om,fun z=>om⟩
    ·rw[H _ c];refine⟨h1,h2,h3,h4,fun z=>?_⟩;rw[if_neg d,if_neg c];exact h5 z
  ·have:=I.clock w;split<;>omega
 ·refine⟨τ,T,?_⟩;rw[show rel s a=s from if_neg e];exact I
theorem Inv.fold{E sp N π}(F:Mk E π)(M:∀a∈E,a.fr<N/\a.to<N):∀{H:List Arc}{s:Lab}{τ:Nat->Nat}{T:Nat},(∀a∈H,a∈E)->Inv E sp N s τ T-> ∃τ' T',Inv E sp N (H.foldl rel s) τ' T'
 |[],s,τ,T,_,I=>⟨τ,T,I⟩
 |a::H,s,τ,T,h,I=>by
   obtain⟨τ',T',V⟩:=I.step F M (h a (List.mem_cons_self ..));rw[List.foldl_cons];exact Inv.fold F M (fun b O=>h b (List.mem_cons_of_mem _ O)) V
theorem Inv.Bo{E sp N π}(F:Mk E π)(H:∀a∈E,a.fr<N/\a.to<N){s τ T}(I:Inv E sp N s τ T):∀n,∃τ' T',Inv E sp N (Bo E n s) τ' T'
 |0=>⟨τ,T,I⟩
 |n+1=>by obtain⟨_,_,J⟩:=Inv.Bo F H I n;exact Inv.fold F H (fun _ h=>h) J
inductive En (s:Lab) (sp:Nat):Nat->List Arc->Prop
 |nil:En s sp sp []
 |cons {v p}:v≠sp->En s sp (B s v).fr p->En s sp v (B s v::p)
theorem yag{E sp N C π}(F:Mk E π)(a2:sp<N)(hE:∀a∈E,a.fr<N/\a.to<N)(hC:∀a∈E,a.cost<=C)(h0:0<=C)(hb:C*N<far)(hs:s=Bo E N (E8 N sp)):
 L s sp=0/\(∀v,L s v<=far)/\(∀a∈E,L s a.fr<far->L s a.to<far/\L s a.to<=L s a.fr+a.cost)/\
 (∀v,v<N->L s v<far-> ∃p,En s sp v p/\Path E sp v (L s v) p/\(sp::p.map Arc.to).Nodup/\ ∀a∈p,a∈E/\L s a.fr+a.cost=L s a.to/\L s a.fr<far):=by
 obtain⟨τ,T,I⟩:=(Inv.start (E:=E) a2).Bo F hE N;rw[<- hs]at I;have I0:=Inv.start (E:=E) (N:=N) a2;have hP:=@xz1 E sp N C (fun a h=>(hE a h).2) hC h0 (E8 N sp) I0.lc (by rw[I0.z];exact Int.le_refl _) hb;have a4:∀{v x l},Path E sp v x l->L s v<=x/\L s v<far:=fun P=>by
  obtain⟨x',l',Q,hx,hl⟩:=xg8 F a2 hE P;have h:=hP Q om N om;rw[<- hs]at h;have M:=xg5 hC Q;have O:C*(l'.length:Int)<=C*N:=Int.mul_le_mul_of_nonneg_left om h0;exact⟨om,om⟩
 have H:∀a∈E,L s a.fr<far->L s a.to<far/\L s a.to<=L s a.fr+a.cost:=fun a ha hf=>by
  obtain⟨l,P⟩:=I.walk _ (hE a ha).1 hf;have:=a4 (.cons ha P);exact⟨this.2,this.1⟩
 refine⟨I.z,I.top,H,?_⟩;have a5:∀v,v<N->L s v<far->0<=L s v-π v+π sp:=fun v hv hf=>by
  obtain⟨l,P⟩:=I.walk _ hv hf;have:=xtr F P;omega
 have key:∀n v,v<N->L s v<far->(L s v-π v+π sp).toNat*T+τ v=n-> ∃p,En s sp v p/\Path E sp v (L s v) p/\(sp::p.map Arc.to).Nodup/\(∀a∈p,a∈E/\L s a.fr+a.cost=L s a.to/\L s a.fr<far)/\
  ∀u∈p.map Arc.to,(L s u-π u+π sp).toNat*T+τ u<=n:=by
  intro n
  induction n using Nat.strongRecOn with
  |_ n ih=>
    intro v hv hf hn;by_cases e:v=sp
    ·subst e;exact⟨[],.nil,by rw[I.z];exact .nil,s_,s_,s_⟩
    ·obtain⟨V,M,O,h4,h5⟩:=I.by_ v hv e hf;have hc:=H _ V O;rw[M]at hc;have hF:=F _ V;rw[M]at hF;have hu:=(hE _ V).1;have a7:=a5 _ hu O;have a6:(L s (B s v).fr-π (B s v).fr+π sp).toNat*T+τ (B s v).fr<n:=by
      have t1:=I.clock (B s v).fr;have t2:=I.clock v;have t3:=h5 om;have le:(L s (B s v).fr-π (B s v).fr+π sp).toNat<=(L s v-π v+π sp).toNat:=om;have:=Nat.mul_le_mul_right T le;omega
     obtain⟨p,hp,hq,hd,ht,hr⟩:=ih _ a6 _ hu O rfl;have a3:=Path.cons V hq;rw[M,show L s (B s v).fr+(B s v).cost=L s v by omega]at a3;refine⟨B s v::p,.cons e hp,a3,?_,fun a ha=>?_,fun u hm=>?_⟩
     ·rw[List.nodup_cons]at hd⊢;rw[List.map_cons,List.nodup_cons,List.mem_cons,M];refine⟨fun z=>z.elim (fun z=>e z.symm) hd.1,fun z=>?_,hd.2⟩;have:=hr v z;omega
     ·rcases List.mem_cons.1 ha with rfl|ha
      ·exact⟨V,by rw[M];omega,O⟩
      ·exact ht a ha
     ·rw[List.map_cons,List.mem_cons,M]at hm;rcases hm with rfl|hm
      ·omega
      ·have:=hr u hm;omega
 intro v hv hf;obtain⟨p,V,M,O,h4,_⟩:=key _ v hv hf rfl;exact⟨p,V,M,O,h4⟩
theorem yvx{a:Arc}{K C:Int}(h:a.to<s.c.length)(hc: -C<=a.cost/\a.cost<=C)(H:∀v,L s v<far-> -K<=L s v/\L s v<=K):∀v,L (rel s a) v<far-> -(K+C)<=L (rel s a) v/\L (rel s a) v<=K+C:=by
 intro v hf;rw[yof h]at hf⊢;by_cases d:L s a.fr<far/\L s a.fr+a.cost<L s a.to/\a.to=v
 ·rw[if_pos d];have:=H _ d.1;omega
 ·rw[if_neg d]at hf⊢;have:=H _ hf;omega
end Go.X.Bf
namespace Go.X.Flow
open Go.X.Bf
variable{d:List Int}{j:Nat}{f:Nat->Int}{P:Prop}
structure Tn where
 hs:List Int
 ws:List Int
 wy:List (Int×Int)
variable{t:Tn}
structure Wi where
 Er:Int
 Kf:Int
 sign:Int
def Dm:Wi:=⟨-1,-1,0⟩
def sm:Nat->(Nat->Int)->Int
 |0,_=>0
 |k+1,f=>sm k f+f k
theorem xkx{f g:Nat->Int}:∀{k},(∀i,i<k->f i=g i)->sm k f=sm k g
 |0,_=>rfl
 |k+1,h=>by rw[sm,sm,xkx fun i hi=>h i om,h k om]
theorem xag{f g:Nat->Int}:∀{k},(∀i,i<k->f i<=g i)->sm k f<=sm k g
 |0,_=>Int.le_refl _
 |k+1,h=>by have:=xag (k:=k) fun i hi=>h i om;have:=h k om;simp only[sm];omega
theorem xlc(f g:Nat->Int):∀k,sm k (fun i=>f i+g i)=sm k f+sm k g
 |0=>rfl
 |k+1=>by simp only[sm];rw[xlc f g k];omega
theorem xiw(f g:Nat->Int):∀k,sm k (fun i=>f i-g i)=sm k f-sm k g
 |0=>rfl
 |k+1=>by simp only[sm];rw[xiw f g k];omega
theorem yuq(f:Nat->Int)(c:Int):∀k,sm k (fun i=>f i*c)=sm k f*c
 |0=>by simp[sm]
 |k+1=>by simp only[sm];rw[yuq f c k,Int.add_mul]
theorem xzk:∀k,sm k (fun _=>0)=0
 |0=>rfl
 |k+1=>by rw[sm,xzk k];rfl
theorem xjw{k}(h:∀i,i<k->0<=f i):0<=sm k f:=by rw[<- xzk k];exact xag h
theorem ytq{k:Nat}(c:Nat->Int)(h:j<k):sm k (fun i=>if j=i then c i else 0)=c j:=by
 induction k with
 |zero=>omega
 |succ k ih=>
   rw[sm];by_cases e:j=k
   ·subst e;rw[if_pos rfl,xkx (g:=fun _=>0) (fun i hi=>if_neg om),xzk];omega
   ·rw[if_neg e,ih om];omega
theorem yvq{k:Nat}(H:∀i,i<k->0<=f i)(h:j<k):f j<=sm k f:=by
 induction k with
 |zero=>omega
 |succ k ih=>
   rw[sm];have:=xjw (k:=k) fun i hi=>H i om;by_cases e:j=k
   ·subst e;omega
   ·have:=ih (fun i hi=>H i om) om;have:=H k om;omega
namespace Tn
variable(t:Tn)
def nH:=t.hs.length
def nW:=t.ws.length
def m:=t.wy.length
def hv(h:Nat):Int:=t.hs.getD h 0
def wv(w:Nat):Int:=t.ws.getD w 0
def wh(i:Nat):Nat:=(t.wy.getD i (0,0)).1.toNat
def ww(i:Nat):Nat:=(t.wy.getD i (0,0)).2.toNat
def sp:=t.nW+t.nH
def si:=t.nW+t.nH+1
end Tn
def dv(d:List Int)(i:Nat):Int:=d.getD i 0
def draw(t:Tn)(d:List Int)(h:Nat):Int:=sm t.m fun i=>if t.wh i=h then dv d i else 0
def give(t:Tn)(d:List Int)(w:Nat):Int:=sm t.m fun i=>if t.ww i=w then dv d i else 0
def Al(t:Tn)(d:List Int)(h:Nat):Int:=t.hv h-draw t d h
def has(t:Tn)(d:List Int)(w:Nat):Int:=t.wv w-give t d w
def tot(t:Tn)(d:List Int):Int:=sm t.m (dv d)
structure Ok(t:Tn):Prop where
 nh:t.nH<=6
 nw:t.nW<=5
 nm:t.m<=13
 h:∀h,h<t.nH->0<=t.hv h/\t.hv h<=9
 w:∀w,w<t.nW->0<=t.wv w/\t.wv w<=21
 y:∀i,i<t.m->t.wh i<t.nH/\t.ww i<t.nW
structure Div(t:Tn)(d:List Int):Prop where
 len:d.length=t.m
 pos:∀i,i<t.m->0<=dv d i
 hs:∀h,h<t.nH->draw t d h<=t.hv h
 ws:∀w,w<t.nW->give t d w<=t.wv w
theorem xrk{t d}(D:Div t d)(h:Nat):0<=draw t d h:=xjw fun i hi=>by split;exact D.pos i hi;exact Int.le_refl _
theorem xxw{t d}(D:Div t d)(w:Nat):0<=give t d w:=xjw fun i hi=>by split;exact D.pos i hi;exact Int.le_refl _
theorem xhr(f:Nat->Int)(g:Nat->Nat)(v:Nat->Int){n:Nat}:∀{k},(∀i,i<k->g i<n)->sm n (fun h=>sm k (fun i=>if g i=h then v i else 0)*f h)=sm k (fun i=>v i*f (g i))
 |0,_=>by simp only[sm,Int.zero_mul];exact xzk n
 |k+1,hg=>by
   simp only[sm];rw[xkx (g:=fun h=>sm k (fun i=>if g i=h then v i else 0)*f h+(if g k=h then v k*f h else 0)) (fun h _=>by rw[Int.add_mul];split<;>simp),xlc,xhr f g v fun i hi=>hg i om];rw[ytq (fun h=>v k*f h) (hg k om)]
theorem xid{t d}(H:∀i,i<t.m->t.wh i<t.nH)(f:Nat->Int):sm t.nH (fun h=>draw t d h*f h)=sm t.m (fun i=>dv d i*f (t.wh i)):=xhr f t.wh (dv d) H
theorem xsh{t d}(H:∀i,i<t.m->t.ww i<t.nW)(f:Nat->Int):sm t.nW (fun w=>give t d w*f w)=sm t.m (fun i=>dv d i*f (t.ww i)):=xhr f t.ww (dv d) H
theorem xhd{t d}(H:∀i,i<t.m->t.wh i<t.nH):sm t.nH (draw t d)=tot t d:=by
 have:=xid (d:=d) H (fun _=>1);simp only[Int.mul_one]at this;exact this
def A0(n:Nat):Int:=1000*7^n
theorem xuz(n:Nat):A0 (n+1)=7*A0 n:=by simp only[A0,Int.pow_succ];omega
theorem xcz(n:Nat):1000<=A0 n:=by
 induction n with
 |zero=>decide
 |succ n ih=>rw[xuz];omega
theorem xpj{a b:Nat}(h:a<=b):A0 a<=A0 b:=by
 induction h with
 |refl=>exact Int.le_refl _
 |@step b _ ih=>rw[xuz];have:=xcz b;omega
def gap(z:Int):Int:=if 2<=z\/z<= -2 then 36000 else 0
theorem yyk(n:Nat):∀k:Nat,(k:Int)*(A0 (n+1)-A0 n)+gap k<=A0 (n+k)-A0 n
 |0=>by simp[gap]
 |1=>by simp[gap]
 |k+2=>by
   have H:gap (k+2:Nat)=36000:=by unfold gap;rw[if_pos om]
   have M:=yyk n (k+1);have O:n+(k+2)=(n+(k+1))+1:=om;rw[H,O,xuz (n+(k+1))];have V:=xpj (show n+1<=n+(k+1) by omega);have h3:=xcz n;rw[xuz]at V M⊢;have e:((k+2:Nat):Int)*(7*A0 n-A0 n)=((k+1:Nat):Int)*(7*A0 n-A0 n)+(7*A0 n-A0 n):=by
    rw[show((k+2:Nat):Int)=((k+1:Nat):Int)+1 by omega,Int.add_mul,Int.one_mul]
   rw[e];have:0<=gap ((k+1:Nat):Int):=by unfold gap;split<;>omega
   omega
theorem xg1(n:Nat):∀k:Nat,A0 (n+k)-A0 n+gap k<=(k:Int)*(A0 (n+k)-A0 (n+k-1))
 |0=>by simp[gap]
 |1=>by simp[gap]
 |k+2=>by
   have M:gap (k+2:Nat)=36000:=by unfold gap;rw[if_pos om]
   have H:=xg1 n (k+1);have O:n+(k+2)-1=n+(k+1):=om;have V:n+(k+1)-1=n+k:=om;have e3:n+(k+2)=(n+k)+1+1:=om;rw[V]at H;rw[M,O,e3,xuz,show n+(k+1)=(n+k)+1 from rfl,xuz];rw[show n+(k+1)=(n+k)+1 from rfl,xuz]at H;have h1:=xcz (n+k);have:0<=gap ((k+1:Nat):Int):=by unfold gap;split<;>omega
   have e:((k+2:Nat):Int)*(7*(7*A0 (n+k))-7*A0 (n+k))=7*(((k+1:Nat):Int)*(7*A0 (n+k)-A0 (n+k)))+42*A0 (n+k):=by
    rw[show((k+2:Nat):Int)=((k+1:Nat):Int)+1 by omega,Int.add_mul,Int.one_mul,show 7*(7*A0 (n+k))-7*A0 (n+k)=7*(7*A0 (n+k)-A0 (n+k)) by omega,Int.mul_left_comm];omega
   rw[e];have h2:((k+1:Nat):Int)*(7*A0 (n+k)-A0 (n+k))≥7*A0 (n+k)-A0 n:=om;have h3:=xpj (show n<=n+k by omega);omega
def bh(w:Wi)(h:Nat):Int:=if(h:Int)=w.Er then w.sign else 0
def bw(w:Wi)(x:Nat):Int:=if(x:Int)=w.Kf then w.sign else 0
def F(t:Tn)(w:Wi)(d:List Int):Int:=sm t.nH (fun h=>A0 (Al t d h).toNat-draw t d h*bh w h)-sm t.nW (fun x=>give t d x*bw w x)
structure Cert(t:Tn)(w:Wi)(d:List Int)(π:Nat->Int):Prop where
 f1:∀x,x<t.nW->0<has t d x->π x<=π t.sp-bw w x
 f2:∀x,x<t.nW->has t d x<t.wv x->π t.sp<=π x+bw w x
 f3:∀h,h<t.nH->0<Al t d h->π t.si<=π (t.nW+h)+(A0 ((Al t d h).toNat-1)-A0 (Al t d h).toNat-bh w h)
 f4:∀h,h<t.nH->Al t d h<t.hv h->π (t.nW+h)<=π t.si+(A0 ((Al t d h).toNat+1)-A0 (Al t d h).toNat+bh w h)
 f5:∀i,i<t.m->π (t.nW+t.wh i)<=π (t.ww i)
 f6:∀i,i<t.m->0<dv d i->π (t.ww i)<=π (t.nW+t.wh i)
theorem Cert.le{t w d π d'}(hy:∀i,i<t.m->t.wh i<t.nH/\t.ww i<t.nW)(D:Div t d)(O:Div t d')(C:Cert t w d π):
 (tot t d'-tot t d)*(π t.si-π t.sp)+sm t.nH (fun h=>gap (Al t d' h-Al t d h))<=F t w d'-F t w d:=by
 have hH:∀h,h<t.nH->(draw t d' h-draw t d h)*(π t.si-π (t.nW+h))+gap (Al t d' h-Al t d h)<=(A0 (Al t d' h).toNat-draw t d' h*bh w h)-(A0 (Al t d h).toNat-draw t d h*bh w h):=fun h hh=>by
  have p1:=D.hs h hh;have p2:=O.hs h hh;have q1:=xrk D h;have q2:=xrk O h
  have el:Al t d h=t.hv h-draw t d h:=rfl;have a4:Al t d' h=t.hv h-draw t d' h:=rfl;have eb:draw t d' h*bh w h-draw t d h*bh w h=(draw t d' h-draw t d h)*bh w h:=by rw[Int.sub_mul]
  by_cases c:draw t d h<draw t d' h
  ·have f:=C.f3 h hh om;obtain⟨k,hk⟩:∃k:Nat,draw t d' h-draw t d h=k:=⟨(draw t d' h-draw t d h).toNat,om⟩
   obtain⟨n,hn⟩:∃n:Nat,Al t d' h=n:=⟨(Al t d' h).toNat,om⟩
   have H:(Al t d h).toNat=n+k:=om;have hm:=xg1 n k;have ek:Al t d' h-Al t d h= -(k:Int):=om;have eg:gap (-(k:Int))=gap k:=by unfold gap;by_cases z:2<=(k:Int);rw[if_pos om,if_pos om];rw[if_neg om,if_neg om]
   rw[H]at f⊢;rw[ek,eg,show(Al t d' h).toNat=n by omega,hk];rw[hk]at eb;have hf:=Int.mul_le_mul_of_nonneg_left (a:=π t.si-π (t.nW+h)) (b:=A0 (n+k-1)-A0 (n+k)-bh w h) (c:=(k:Int)) om om;have e1:(k:Int)*(A0 (n+k-1)-A0 (n+k)-bh w h)= -((k:Int)*(A0 (n+k)-A0 (n+k-1)))-(k:Int)*bh w h:=by rw[Int.mul_sub,Int.mul_sub,Int.mul_sub];omega
   omega
  ·by_cases c2:draw t d' h<draw t d h
   ·have f:=C.f4 h hh om;obtain⟨k,hk⟩:∃k:Nat,draw t d h-draw t d' h=k:=⟨(draw t d h-draw t d' h).toNat,om⟩
    obtain⟨n,hn⟩:∃n:Nat,Al t d h=n:=⟨(Al t d h).toNat,om⟩
    have H:(Al t d' h).toNat=n+k:=om;have hm:=yyk n k;have ek:Al t d' h-Al t d h=(k:Int):=om;rw[show(Al t d h).toNat=n by omega]at f⊢;have M:draw t d' h-draw t d h= -(k:Int):=om;rw[ek,H,M,Int.neg_mul];rw[M,Int.neg_mul]at eb;have hf:=Int.mul_le_mul_of_nonneg_left (a:=π (t.nW+h)-π t.si) (b:=A0 (n+1)-A0 n+bh w h) (c:=(k:Int)) om om;have e1:(k:Int)*(A0 (n+1)-A0 n+bh w h)=(k:Int)*(A0 (n+1)-A0 n)+(k:Int)*bh w h:=by rw[Int.mul_add]
    have e2:(k:Int)*(π (t.nW+h)-π t.si)= -((k:Int)*(π t.si-π (t.nW+h))):=by rw[<- Int.mul_neg];congr 1;omega
    omega
   ·have e:draw t d' h=draw t d h:=om;have e':Al t d' h=Al t d h:=om;rw[e,e',Int.sub_self,Int.sub_self,Int.zero_mul];simp[gap]
 have hW:∀x,x<t.nW->(give t d' x-give t d x)*(π x-π t.sp)<= -(give t d' x*bw w x-give t d x*bw w x):=fun x V=>by
  have p1:=D.ws x V;have p2:=O.ws x V;have q1:=xxw D x;have q2:=xxw O x
  have el:has t d x=t.wv x-give t d x:=rfl;have eb: -(give t d' x*bw w x-give t d x*bw w x)=(give t d' x-give t d x)*(-bw w x):=by rw[Int.mul_neg,Int.sub_mul]
  rw[eb];by_cases c:give t d x<give t d' x
  ·have f:=C.f1 x V om;exact Int.mul_le_mul_of_nonneg_left om om
  ·by_cases c2:give t d' x<give t d x
   ·have f:=C.f2 x V om;have:=Int.mul_le_mul_of_nonneg_left (a:=π t.sp-π x) (b:=bw w x) (c:=give t d x-give t d' x) om om;have e1:(give t d' x-give t d x)*(π x-π t.sp)=(give t d x-give t d' x)*(π t.sp-π x):=by
     rw[show give t d' x-give t d x= -(give t d x-give t d' x) by omega,show π x-π t.sp= -(π t.sp-π x) by omega,Int.neg_mul_neg]
    have e2:(give t d' x-give t d x)* -bw w x=(give t d x-give t d' x)*bw w x:=by
     rw[show give t d' x-give t d x= -(give t d x-give t d' x) by omega,Int.neg_mul_neg]
    rw[e1,e2];exact this
   ·have e:give t d' x=give t d x:=om;rw[e,Int.sub_self,Int.zero_mul,Int.zero_mul];exact Int.le_refl _
 have hM:∀i,i<t.m->(dv d' i-dv d i)*(π (t.nW+t.wh i)-π (t.ww i))<=0:=fun i hi=>by
  have q1:=D.pos i hi;have q2:=O.pos i hi
  have f5:=C.f5 i hi;by_cases c:dv d i<=dv d' i
  ·have:=Int.mul_le_mul_of_nonneg_left (a:=π (t.nW+t.wh i)-π (t.ww i)) (b:=0) (c:=dv d' i-dv d i) om om;rw[Int.mul_zero]at this;exact this
  ·have f6:=C.f6 i hi om;have:π (t.nW+t.wh i)-π (t.ww i)=0:=om;rw[this,Int.mul_zero];exact Int.le_refl _
 have sH:=xag hH;have sW:=xag hW;have sM:=xag hM;rw[xzk]at sM;rw[xlc,xiw (fun h=>A0 (Al t d' h).toNat-draw t d' h*bh w h)]at sH;have eW:sm t.nW (fun x=>-(give t d' x*bw w x-give t d x*bw w x))= -(sm t.nW (fun x=>give t d' x*bw w x)-sm t.nW (fun x=>give t d x*bw w x)):=by
  rw[<- xiw];have:=yuq (fun x=>give t d' x*bw w x-give t d x*bw w x) (-1) t.nW;rw[Int.mul_neg_one]at this;rw[<- this];exact xkx fun i _=>by rw[Int.mul_neg_one]
 rw[eW]at sW;have a1:sm t.nH (fun h=>(draw t d' h-draw t d h)*(π t.si-π (t.nW+h)))=sm t.m (fun i=>(dv d' i-dv d i)*(π t.si-π (t.nW+t.wh i))):=by
  rw[xkx (g:=fun h=>draw t d' h*(π t.si-π (t.nW+h))-draw t d h*(π t.si-π (t.nW+h))) (fun i _=>Int.sub_mul ..),xiw,xid (fun i hi=>(hy i hi).1) (fun h=>π t.si-π (t.nW+h)),xid (fun i hi=>(hy i hi).1) (fun h=>π t.si-π (t.nW+h)),<- xiw];exact xkx fun i _=>(Int.sub_mul ..).symm
 have a2:sm t.nW (fun x=>(give t d' x-give t d x)*(π x-π t.sp))=sm t.m (fun i=>(dv d' i-dv d i)*(π (t.ww i)-π t.sp)):=by
  rw[xkx (g:=fun x=>give t d' x*(π x-π t.sp)-give t d x*(π x-π t.sp)) (fun i _=>Int.sub_mul ..),xiw,xsh (fun i hi=>(hy i hi).2) (fun x=>π x-π t.sp),xsh (fun i hi=>(hy i hi).2) (fun x=>π x-π t.sp),<- xiw];exact xkx fun i _=>(Int.sub_mul ..).symm
 have a3:(tot t d'-tot t d)*(π t.si-π t.sp)=sm t.m (fun i=>(dv d' i-dv d i)*(π t.si-π (t.nW+t.wh i)))+sm t.m (fun i=>(dv d' i-dv d i)*(π (t.nW+t.wh i)-π (t.ww i)))+sm t.m (fun i=>(dv d' i-dv d i)*(π (t.ww i)-π t.sp)):=by
  rw[<- xlc,<- xlc,tot,tot,<- xiw,<- yuq];exact xkx fun i _=>by rw[<- Int.mul_add,<- Int.mul_add];congr 1;omega
 unfold F;omega
def E5(t:Tn)(w:Wi)(d:List Int)(x:Nat):List Arc:=
 (if 0<has t d x then [⟨t.sp,x,-bw w x,-1,0⟩]else [])++(if has t d x<t.wv x then [⟨x,t.sp,bw w x,-1,0⟩]else [])
def Eu(t:Tn)(w:Wi)(d:List Int)(h:Nat):List Arc:=
 (if 0<Al t d h then [⟨t.nW+h,t.si,A0 ((Al t d h).toNat-1)-A0 (Al t d h).toNat-bh w h,-1,0⟩]else [])++
 (if Al t d h<t.hv h then [⟨t.si,t.nW+h,A0 ((Al t d h).toNat+1)-A0 (Al t d h).toNat+bh w h,-1,0⟩]else [])
def Fa(t:Tn)(d:List Int)(i:Nat):List Arc:=
 ⟨t.ww i,t.nW+t.wh i,0,i,1⟩::(if 0<dv d i then [⟨t.nW+t.wh i,t.ww i,0,i,-1⟩]else [])
def Az(t:Tn)(w:Wi)(d:List Int):List Arc:=(List.range t.nW).flatMap (E5 t w d)++((List.range t.nH).flatMap (Eu t w d)++(List.range t.m).flatMap (Fa t d))
inductive Kind (t:Tn) (w:Wi) (d:List Int):Arc->Prop
 |k1 {x}:x<t.nW->0<has t d x->Kind t w d ⟨t.sp,x,-bw w x,-1,0⟩
 |k2 {x}:x<t.nW->has t d x<t.wv x->Kind t w d ⟨x,t.sp,bw w x,-1,0⟩
 |k3 {h}:h<t.nH->0<Al t d h->Kind t w d ⟨t.nW+h,t.si,A0 ((Al t d h).toNat-1)-A0 (Al t d h).toNat-bh w h,-1,0⟩
 |k4 {h}:h<t.nH->Al t d h<t.hv h->Kind t w d ⟨t.si,t.nW+h,A0 ((Al t d h).toNat+1)-A0 (Al t d h).toNat+bh w h,-1,0⟩
 |k5 {i}:i<t.m->Kind t w d ⟨t.ww i,t.nW+t.wh i,0,i,1⟩
 |k6 {i}:i<t.m->0<dv d i->Kind t w d ⟨t.nW+t.wh i,t.ww i,0,i,-1⟩
theorem xrz{t w d a}:a∈Az t w d<->Kind t w d a:=by
 constructor
 ·intro h;simp only[Az,List.mem_append,List.mem_flatMap,List.mem_range]at h;rcases h with⟨x,H,h⟩|⟨x,H,h⟩|⟨i,hi,h⟩
  ·simp only[E5,List.mem_append]at h;rcases h with h|h
   ·by_cases c:0<has t d x
    ·rw[if_pos c,List.mem_singleton]at h;subst h;exact .k1 H c
    ·rw[if_neg c]at h;cases h
   ·by_cases c:has t d x<t.wv x
    ·rw[if_pos c,List.mem_singleton]at h;subst h;exact .k2 H c
    ·rw[if_neg c]at h;cases h
  ·simp only[Eu,List.mem_append]at h;rcases h with h|h
   ·by_cases c:0<Al t d x
    ·rw[if_pos c,List.mem_singleton]at h;subst h;exact .k3 H c
    ·rw[if_neg c]at h;cases h
   ·by_cases c:Al t d x<t.hv x
    ·rw[if_pos c,List.mem_singleton]at h;subst h;exact .k4 H c
    ·rw[if_neg c]at h;cases h
  ·simp only[Fa,List.mem_cons]at h;rcases h with rfl|h
   ·exact .k5 hi
   ·by_cases c:0<dv d i
    ·rw[if_pos c,List.mem_singleton]at h;subst h;exact .k6 hi c
    ·rw[if_neg c]at h;cases h
 ·intro h;simp only[Az,List.mem_append,List.mem_flatMap,List.mem_range];cases h with
  |@k1 x H c=>exact .inl ⟨x,H,by simp[E5,c]⟩
  |@k2 x H c=>exact .inl ⟨x,H,by simp[E5,c]⟩
  |@k3 x H c=>exact .inr (.inl ⟨x,H,by simp[Eu,c]⟩)
  |@k4 x H c=>exact .inr (.inl ⟨x,H,by simp[Eu,c]⟩)
  |@k5 i hi=>exact .inr (.inr ⟨i,hi,by simp[Fa]⟩)
  |@k6 i hi c=>exact .inr (.inr ⟨i,hi,by simp[Fa,c]⟩)
theorem yuj{t w d π}(f:Mk (Az t w d) π):Cert t w d π where
 f1 x hx c:=by have:=f _ (xrz.2 (.k1 hx c));simp only at this;omega
 f2 x hx c:=f _ (xrz.2 (.k2 hx c))
 f3 x hx c:=f _ (xrz.2 (.k3 hx c))
 f4 x hx c:=f _ (xrz.2 (.k4 hx c))
 f5 i hi:=by have:=f _ (xrz.2 (.k5 (w:=w) (d:=d) hi));simp only at this;omega
 f6 i hi c:=by have:=f _ (xrz.2 (.k6 (w:=w) hi c));simp only at this;omega
theorem xi1{t w d π}(C:Cert t w d π):Mk (Az t w d) π:=fun a H=>by
 cases xrz.1 H with
 |k1 hx c=>have:=C.f1 _ hx c;simp only;omega
 |k2 hx c=>exact C.f2 _ hx c
 |k3 hx c=>exact C.f3 _ hx c
 |k4 hx c=>exact C.f4 _ hx c
 |k5 hi=>have:=C.f5 _ hi;simp only;omega
 |k6 hi c=>have:=C.f6 _ hi c;simp only;omega
def nN(t:Tn):=t.nW+t.nH+2
theorem xhc{w d}(H:∀i,i<t.m->t.wh i<t.nH/\t.ww i<t.nW):∀a∈Az t w d,a.fr<nN t/\a.to<nN t:=fun a M=>by
 simp only[nN];cases xrz.1 M with
 |k1 hx c=>exact⟨by simp only[Tn.sp];omega,by simp only;omega⟩
 |k2 hx c=>exact⟨by simp only;omega,by simp only[Tn.sp];omega⟩
 |k3 hx c=>exact⟨by simp only;omega,by simp only[Tn.si];omega⟩
 |k4 hx c=>exact⟨by simp only[Tn.si];omega,by simp only;omega⟩
 |@k5 i hi=>have:=H i hi;exact⟨by simp only;omega,by simp only;omega⟩
 |@k6 i hi c=>have:=H i hi;exact⟨by simp only;omega,by simp only;omega⟩
structure Sg(w:Wi):Prop where
 lo: -1<=w.sign
 hi:w.sign<=1
theorem Sg.bh{w}(S:Sg w)(h): -1<=bh w h/\bh w h<=1:=by have:=S.lo;have:=S.hi;unfold Flow.bh;split<;>omega
theorem Sg.bw{w}(S:Sg w)(h): -1<=bw w h/\bw w h<=1:=by have:=S.lo;have:=S.hi;unfold Flow.bw;split<;>omega
def cC:Int:=1000*7^9+1
theorem xfl{w d}(O:Ok t)(S:Sg w)(D:Div t d):∀a∈Az t w d,-cC<=a.cost/\a.cost<=cC:=fun a ha=>by
 have e9:A0 9+1=cC:=rfl;have h0:=xcz 0;cases xrz.1 ha with
 |@k1 x hx c=>have:=xcz 9;have:=S.bw x;simp only;omega
 |@k2 x hx c=>have:=xcz 9;have:=S.bw x;simp only;omega
 |@k3 h hx c=>
   have H:=O.h h hx;have dn:=xrk D h;have el:Al t d h=t.hv h-draw t d h:=rfl
   have V:=xpj (show(Al t d h).toNat<=9 by omega);have m2:=xpj (show(Al t d h).toNat-1<=9 by omega);have M:=xcz (Al t d h).toNat;have p2:=xcz ((Al t d h).toNat-1);have:=S.bh h;simp only;omega
 |@k4 h hx c=>
   have H:=O.h h hx;have dn:=xrk D h;have el:Al t d h=t.hv h-draw t d h:=rfl
   have V:=xpj (show(Al t d h).toNat<=9 by omega);have m2:=xpj (show(Al t d h).toNat+1<=9 by omega);have M:=xcz (Al t d h).toNat;have p2:=xcz ((Al t d h).toNat+1);have:=S.bh h;simp only;omega
 |k5 hi=>have:=xcz 9;simp only;omega
 |k6 hi c=>have:=xcz 9;simp only;omega
def sp_(f:Arc->Int):List Arc->Int
 |[]=>0
 |a::p=>f a+sp_ f p
def is(P:Prop)[Decidable P]:Int:=if P then 1 else 0
theorem xoj[Decidable P]:0<=is P:=by unfold is;split<;>decide
theorem xvh{f g:Arc->Int}:∀{p},(∀a∈p,f a=g a)->sp_ f p=sp_ g p
 |[],_=>rfl
 |a::p,h=>by rw[sp_,sp_,h a (List.mem_cons_self ..),xvh fun b H=>h b (List.mem_cons_of_mem _ H)]
theorem xv7{f g:Arc->Int}:∀{p},(∀a∈p,f a<=g a)->sp_ f p<=sp_ g p
 |[],_=>Int.le_refl _
 |a::p,h=>by have:=h a (List.mem_cons_self ..);have:=xv7 fun b H=>h b (List.mem_cons_of_mem _ H);simp only[sp_];omega
theorem xnt(f g:Arc->Int):∀p,sp_ (fun a=>f a+g a) p=sp_ f p+sp_ g p
 |[]=>rfl
 |a::p=>by simp only[sp_];rw[xnt f g p];omega
theorem xi4(f g:Arc->Int):∀p,sp_ (fun a=>f a-g a) p=sp_ f p-sp_ g p
 |[]=>rfl
 |a::p=>by simp only[sp_];rw[xi4 f g p];omega
theorem xa2(f:Arc->Int)(c:Int):∀p,sp_ (fun a=>c*f a) p=c*sp_ f p
 |[]=>by simp[sp_]
 |a::p=>by simp only[sp_];rw[xa2 f c p,Int.mul_add]
theorem xnj{f:Arc->Int}{p}(h:∀a∈p,0<=f a):0<=sp_ f p:=by
 have:=xv7 (f:=fun _=>0) h;have z:∀p,sp_ (fun _=>0) p=0:=fun p=>by induction p with|nil=>rfl|cons a p ih=>rw[sp_,ih];rfl
 rw[z]at this;exact this
theorem xw7{f:Arc->Int}:∀{p},0<sp_ f p-> ∃a∈p,0<f a
 |[],h=>absurd h (by simp[sp_])
 |a::p,h=>by
   by_cases c:0<f a
   ·exact⟨a,List.mem_cons_self ..,c⟩
   ·obtain⟨b,H,hc⟩:=xw7 (f:=f) (p:=p) (by simp only[sp_]at h;omega);exact⟨b,List.mem_cons_of_mem _ H,hc⟩
theorem xv0[Decidable P](h:0<is P):P:=by unfold is at h;split at h;assumption;omega
def toN(x:Nat)(p:List Arc):Int:=sp_ (fun a=>is (a.to=x)) p
def frN(x:Nat)(p:List Arc):Int:=sp_ (fun a=>is (a.fr=x)) p
theorem bal{E sp v c p}(P:Path E sp v c p)(x:Nat):toN x p+is (x=sp)=frN x p+is (x=v):=by
 induction P with
 |nil=>rfl
 |@cons a c l _ _ ih=>
   have H:toN x (a::l)=is (a.to=x)+toN x l:=rfl;have M:frN x (a::l)=is (a.fr=x)+frN x l:=rfl;have V:is (x=a.fr)=is (a.fr=x):=by unfold is;by_cases z:x=a.fr;rw[if_pos z,if_pos z.symm];rw[if_neg z,if_neg (Ne.symm z)]
   have O:is (x=a.to)=is (a.to=x):=by unfold is;by_cases z:x=a.to;rw[if_pos z,if_pos z.symm];rw[if_neg z,if_neg (Ne.symm z)]
   omega
theorem xfp{x:Nat}:∀{p:List Arc},(p.map Arc.to).Nodup->toN x p<=1/\(x∉p.map Arc.to->toN x p=0)
 |[],_=>⟨by simp[toN,sp_],fun _=>rfl⟩
 |a::p,h=>by
   rw[List.map_cons,List.nodup_cons]at h;have H:=xfp (x:=x) h.2;have M:toN x (a::p)=is (a.to=x)+toN x p:=rfl;by_cases c:a.to=x
   ·have:=H.2 (c ▸ h.1);have:is (a.to=x)=1:=if_pos c;exact⟨om,fun z=>absurd (List.mem_cons.2 (.inl c.symm)) (by rw[List.map_cons]at z;exact z)⟩
   ·have:is (a.to=x)=0:=if_neg c;exact⟨om,fun z=>by have:=H.2 (fun y=>z (by rw[List.map_cons];exact List.mem_cons_of_mem _ y));omega⟩
theorem yiz{E sp v c p}(P:Path E sp v c p):c=sp_ Arc.cost p:=by
 induction P with
 |nil=>rfl
 |cons _ _ ih=>rw[sp_];omega
theorem xh5{E sp v c p}(P:Path E sp v c p):∀a∈p,a∈E:=by
 induction P with
 |nil=>exact fun a h=>absurd h s_
 |cons ha _ ih=>exact fun a h=>(List.mem_cons.1 h).elim (fun e=>e ▸ ha) (ih a)
def aug(d:List Int)(p:List Arc):List Int:=p.foldl (fun d a=>if 0<=a.way then d.set a.way.toNat (dv d a.way.toNat+a.more)else d) d
def dl(i:Nat)(p:List Arc):Int:=sp_ (fun a=>if a.way=(i:Int)then a.more else 0) p
theorem G4:∀{p:List Arc}{d:List Int},(aug d p).length=d.length
 |[],_=>rfl
 |a::p,d=>by
   have:=G4 (p:=p) (d:=if 0<=a.way then d.set a.way.toNat (dv d a.way.toNat+a.more)else d);rw[show aug d (a::p)=aug (if 0<=a.way then d.set a.way.toNat (dv d a.way.toNat+a.more)else d) p from rfl,this];split<;>simp
theorem xw6{x:Int}(h:j<d.length)(i:Nat):dv (d.set j x) i=if j=i then x else dv d i:=by
 unfold dv;rw[List.getD_eq_getElem?_getD,List.getElem?_set,List.getD_eq_getElem?_getD];by_cases e:j=i
 ·rw[if_pos e,if_pos e,if_pos h];rfl
 ·rw[if_neg e,if_neg e]
theorem ysk{i:Nat}:∀{p:List Arc}{d:List Int},(∀a∈p,a.way<(d.length:Int))->dv (aug d p) i=dv d i+dl i p
 |[],d,_=>by simp[aug,dl,sp_]
 |a::p,d,h=>by
   have e:aug d (a::p)=aug (if 0<=a.way then d.set a.way.toNat (dv d a.way.toNat+a.more)else d) p:=rfl;have M:dl i (a::p)=(if a.way=(i:Int)then a.more else 0)+dl i p:=rfl;have O:=h a (List.mem_cons_self ..);rw[e,M];by_cases c:0<=a.way
   ·rw[if_pos c,ysk (fun b H=>by rw[List.length_set];exact h b (List.mem_cons_of_mem _ H)),xw6 om];by_cases z:a.way=(i:Int)
    ·rw[if_pos (show a.way.toNat=i by omega),if_pos z,show a.way.toNat=i by omega];omega
    ·rw[if_neg (show ¬ a.way.toNat=i by omega),if_neg z];omega
   ·rw[if_neg c,ysk (fun b H=>h b (List.mem_cons_of_mem _ H)),if_neg (show ¬ a.way=(i:Int) by omega)];omega
theorem xnl(g:Nat->Nat)(x m:Nat):∀{p:List Arc},(∀a∈p,a.way<(m:Int))->sm m (fun i=>if g i=x then dl i p else 0)=sp_ (fun a=>if 0<=a.way/\g a.way.toNat=x then a.more else 0) p
 |[],_=>by
   rw[xkx (g:=fun _=>0) (fun i _=>by split<;>rfl),xzk];rfl
 |a::p,h=>by
   have e:∀i,(if g i=x then dl i (a::p)else 0)=(if a.way.toNat=i then(if 0<=a.way/\g a.way.toNat=x then a.more else 0)else 0)+(if g i=x then dl i p else 0):=fun i=>by
    have O:dl i (a::p)=(if a.way=(i:Int)then a.more else 0)+dl i p:=rfl;rw[O];by_cases c:g i=x
    ·rw[if_pos c,if_pos c];by_cases z:a.way=(i:Int)
     ·have:a.way.toNat=i:=om;rw[if_pos z,if_pos this,if_pos ⟨om,by rw[this];exact c⟩]
     ·rw[if_neg z];by_cases H:a.way.toNat=i
      ·rw[if_pos H,if_neg om]
      ·rw[if_neg H]
    ·rw[if_neg c,if_neg c];by_cases H:a.way.toNat=i
     ·rw[if_pos H,if_neg (fun y=>c (by rw[<- H];exact y.2))];omega
     ·rw[if_neg H];omega
   have V:=h a (List.mem_cons_self ..);rw[xkx (fun i _=>e i),xlc,xnl g x m fun b M=>h b (List.mem_cons_of_mem _ M)];simp only[sp_];congr 1;by_cases c:0<=a.way
   ·rw[ytq (fun _=>if 0<=a.way/\g a.way.toNat=x then a.more else 0) om]
   ·rw[xkx (g:=fun _=>0) (fun i _=>by rw[if_neg (show ¬ (0<=a.way/\g a.way.toNat=x) from fun z=>c z.1)];split<;>rfl),xzk,if_neg (fun z=>c z.1)]
theorem Kind.eqs{t w d a}(K:Kind t w d a):
 (∃x,x<t.nW/\0<has t d x/\a.fr=t.sp/\a.to=x/\a.cost= -bw w x/\a.way= -1/\a.more=0)\/
 (∃x,x<t.nW/\a.fr=x/\a.to=t.sp/\a.way= -1/\a.more=0)\/
 (∃h,h<t.nH/\0<Al t d h/\a.fr=t.nW+h/\a.to=t.si/\a.cost=A0 ((Al t d h).toNat-1)-A0 (Al t d h).toNat-bh w h/\a.way= -1/\a.more=0)\/
 (∃h,h<t.nH/\a.fr=t.si/\a.to=t.nW+h/\a.way= -1/\a.more=0)\/
 (∃i:Nat,i<t.m/\a.fr=t.ww i/\a.to=t.nW+t.wh i/\a.cost=0/\a.way=i/\a.way.toNat=i/\a.more=1)\/
 (∃i:Nat,i<t.m/\0<dv d i/\a.fr=t.nW+t.wh i/\a.to=t.ww i/\a.cost=0/\a.way=i/\a.way.toNat=i/\a.more= -1):=by
 cases K with
 |@k1 x hx c=>exact .inl ⟨x,hx,c,rfl,rfl,rfl,rfl,rfl⟩
 |@k2 x hx c=>exact .inr (.inl ⟨x,hx,rfl,rfl,rfl,rfl⟩)
 |@k3 h hx c=>exact .inr (.inr (.inl ⟨h,hx,c,rfl,rfl,rfl,rfl,rfl⟩))
 |@k4 h hx c=>exact .inr (.inr (.inr (.inl ⟨h,hx,rfl,rfl,rfl,rfl⟩)))
 |@k5 i hi=>exact .inr (.inr (.inr (.inr (.inl ⟨i,hi,rfl,rfl,rfl,rfl,Int.toNat_natCast i,rfl⟩))))
 |@k6 i hi c=>exact .inr (.inr (.inr (.inr (.inr ⟨i,hi,c,rfl,rfl,rfl,rfl,Int.toNat_natCast i,rfl⟩))))
theorem yjf{t w d π c p}(hy:∀i,i<t.m->t.wh i<t.nH/\t.ww i<t.nW)(D:Div t d)(C:Cert t w d π)(P:Path (Az t w d) t.sp t.si c p)
 (nd:(t.sp::p.map Arc.to).Nodup)(a3:∀a∈p,π a.fr+a.cost=π a.to):Div t (aug d p)/\Cert t w (aug d p) π/\tot t d<tot t (aug d p):=by
 have hk:∀a∈p,Kind t w d a:=fun a ha=>xrz.1 (xh5 P a ha);have hw:∀a∈p,a.way<(t.m:Int):=fun a ha=>by rcases(hk a ha).eqs with⟨x',H,M,O,V,e5,e6,e7⟩|⟨x',H,M,O,V,e5⟩|⟨h',H,M,O,V,e5,e6,e7⟩|⟨h',H,M,O,V,e5⟩|⟨i,H,M,O,V,e5,e6,e7⟩|⟨i,H,e0,M,O,V,e5,e6,e7⟩<;>omega
 rw[List.nodup_cons]at nd;have c3:t.si≠t.sp:=by simp only[Tn.si,Tn.sp];omega
 have bS:=bal P t.si;have b9:∀x,0<=frN x p:=fun x=>xnj fun a _=>xoj;have c7:is (t.si=t.si)=1:=if_pos rfl;have c5:is (t.si=t.sp)=0:=if_neg c3;have t1:=(xfp (x:=t.si) nd.2).1;have c8:frN t.si p=0:=by have:=b9 t.si;omega
 have c6:toN t.si p=1:=by have:=b9 t.si;omega
 have a4:∀a∈p,a.fr≠t.si:=fun a ha z=>by
  have:0<frN t.si p:=by
   obtain⟨l1,l2,rfl⟩:=List.append_of_mem ha;have b5:∀(f:Arc->Int)l1 l2,sp_ f (l1++l2)=sp_ f l1+sp_ f l2:=fun f l1 l2=>by
    induction l1 with
    |nil=>simp[sp_]
    |cons b l ih=>rw[List.cons_append,sp_,sp_,ih];omega
   unfold frN;rw[b5,sp_];have h1:0<=sp_ (fun a=>is (a.fr=t.si)) l1:=xnj fun a _=>xoj;have h2:0<=sp_ (fun a=>is (a.fr=t.si)) l2:=xnj fun a _=>xoj;have:is (a.fr=t.si)=1:=if_pos z;omega
  omega
 have b7:∀a∈p,a.to≠t.sp:=fun a ha z=>nd.1 (List.mem_map.2 ⟨a,ha,z⟩);have a7:∀i,i<t.m->dv (aug d p) i=dv d i+dl i p:=fun i _=>ysk fun a ha=>by rw[D.len];exact hw a ha
 have hH:∀h,h<t.nH->draw t (aug d p) h=draw t d h+sp_ (fun a=>is (a.fr=t.nW+h/\a.to=t.si)) p:=fun h hh=>by
  have H:draw t (aug d p) h=draw t d h+sm t.m (fun i=>if t.wh i=h then dl i p else 0):=by
   unfold draw;rw[<- xlc];exact xkx fun i hi=>by rw[a7 i hi];split<;>omega
  rw[H,xnl t.wh h t.m hw];have M:sp_ (fun a=>if 0<=a.way/\t.wh a.way.toNat=h then a.more else 0) p=sp_ (fun a=>(is (a.to=t.nW+h)-is (a.fr=t.nW+h))+is (a.fr=t.nW+h/\a.to=t.si)) p:=xvh fun a ha=>by
   have f1:=a4 a ha;have f2:=b7 a ha
   have es:t.sp=t.nW+t.nH:=rfl;have ei:t.si=t.nW+t.nH+1:=rfl;unfold is;rcases(hk a ha).eqs with⟨x',H,M,O,V,e5,e6,e7⟩|⟨x',H,M,O,V,e5⟩|⟨h',H,M,O,V,e5,e6,e7⟩|⟨h',H,M,O,V,e5⟩|⟨i,H,M,O,V,e5,e6,e7⟩|⟨i,H,e0,M,O,V,e5,e6,e7⟩
   ·(repeat' split)<;>omega
   ·(repeat' split)<;>omega
   ·(repeat' split)<;>omega
   ·(repeat' split)<;>omega
   ·have:=hy i H;rw[e6];(repeat' split)<;>omega
   ·have:=hy i H;rw[e6];(repeat' split)<;>omega
  rw[M,xnt,xi4];have b:=bal P (t.nW+h);have i1:is (t.nW+h=t.sp)=0:=if_neg (by simp only[Tn.sp];omega);have i2:is (t.nW+h=t.si)=0:=if_neg (by simp only[Tn.si];omega);have u1:toN (t.nW+h) p=sp_ (fun a=>is (a.to=t.nW+h)) p:=rfl;have u2:frN (t.nW+h) p=sp_ (fun a=>is (a.fr=t.nW+h)) p:=rfl;omega
 have a6:∀h,h<t.nH->sp_ (fun a=>is (a.fr=t.nW+h/\a.to=t.si)) p<=1:=fun h _=>by
  have:sp_ (fun a=>is (a.fr=t.nW+h/\a.to=t.si)) p<=toN t.si p:=xv7 fun a _=>by
   unfold is;by_cases z:a.to=t.si
   ·rw[if_pos z];split<;>omega
   ·rw[if_neg z,if_neg fun y=>z y.2];omega
  omega
 have a8:∀h,0<=sp_ (fun a=>is (a.fr=t.nW+h/\a.to=t.si)) p:=fun h=>xnj fun a _=>xoj;have c2:∀h,h<t.nH->0<sp_ (fun a=>is (a.fr=t.nW+h/\a.to=t.si)) p->0<Al t d h/\π (t.nW+h)+(A0 ((Al t d h).toNat-1)-A0 (Al t d h).toNat-bh w h)=π t.si:=fun h hh z=>by
  obtain⟨a,ha,hp⟩:=xw7 z;obtain⟨z1,z2⟩:=xv0 hp;have tg:=a3 a ha;have f1:=a4 a ha;have es:t.sp=t.nW+t.nH:=rfl;have ei:t.si=t.nW+t.nH+1:=rfl;rcases(hk a ha).eqs with⟨x',H,M,O,V,e5,e6,e7⟩|⟨x',H,M,O,V,e5⟩|⟨h',H,M,O,V,e5,e6,e7⟩|⟨h',H,M,O,V,e5⟩|⟨i,H,M,O,V,e5,e6,e7⟩|⟨i,H,e0,M,O,V,e5,e6,e7⟩
  ·omega
  ·omega
  ·obtain rfl:h'=h:=om;exact⟨M,by rw[O,V,e5]at tg;exact tg⟩
  ·omega
  ·have:=hy i H;omega
  ·have:=hy i H;omega
 have hW:∀x,x<t.nW->give t (aug d p) x=give t d x+sp_ (fun a=>is (a.fr=t.sp/\a.to=x)) p:=fun x hx=>by
  have H:give t (aug d p) x=give t d x+sm t.m (fun i=>if t.ww i=x then dl i p else 0):=by
   unfold give;rw[<- xlc];exact xkx fun i hi=>by rw[a7 i hi];split<;>omega
  rw[H,xnl t.ww x t.m hw];have M:sp_ (fun a=>if 0<=a.way/\t.ww a.way.toNat=x then a.more else 0) p=sp_ (fun a=>(is (a.fr=x)-is (a.to=x))+is (a.fr=t.sp/\a.to=x)) p:=xvh fun a ha=>by
   have f1:=a4 a ha;have f2:=b7 a ha
   have es:t.sp=t.nW+t.nH:=rfl;have ei:t.si=t.nW+t.nH+1:=rfl;unfold is;rcases(hk a ha).eqs with⟨x',H,M,O,V,e5,e6,e7⟩|⟨x',H,M,O,V,e5⟩|⟨h',H,M,O,V,e5,e6,e7⟩|⟨h',H,M,O,V,e5⟩|⟨i,H,M,O,V,e5,e6,e7⟩|⟨i,H,e0,M,O,V,e5,e6,e7⟩
   ·(repeat' split)<;>omega
   ·(repeat' split)<;>omega
   ·(repeat' split)<;>omega
   ·(repeat' split)<;>omega
   ·have:=hy i H;rw[e6];(repeat' split)<;>omega
   ·have:=hy i H;rw[e6];(repeat' split)<;>omega
  rw[M,xnt,xi4];have b:=bal P x;have i1:is (x=t.sp)=0:=if_neg (by simp only[Tn.sp];omega);have i2:is (x=t.si)=0:=if_neg (by simp only[Tn.si];omega);have u1:toN x p=sp_ (fun a=>is (a.to=x)) p:=rfl;have u2:frN x p=sp_ (fun a=>is (a.fr=x)) p:=rfl;omega
 have c1:∀x,sp_ (fun a=>is (a.fr=t.sp/\a.to=x)) p<=1:=fun x=>by
  have:sp_ (fun a=>is (a.fr=t.sp/\a.to=x)) p<=toN x p:=xv7 fun a _=>by
   unfold is;by_cases z:a.to=x
   ·rw[if_pos z];split<;>omega
   ·rw[if_neg z,if_neg fun y=>z y.2];omega
  have:=(xfp (x:=x) nd.2).1;omega
 have b4:∀x,0<=sp_ (fun a=>is (a.fr=t.sp/\a.to=x)) p:=fun x=>xnj fun a _=>xoj;have b8:∀x,x<t.nW->0<sp_ (fun a=>is (a.fr=t.sp/\a.to=x)) p->0<has t d x/\π t.sp+ -bw w x=π x:=fun x hx z=>by
  obtain⟨a,ha,hp⟩:=xw7 z;obtain⟨z1,z2⟩:=xv0 hp;have tg:=a3 a ha;have f1:=a4 a ha;have es:t.sp=t.nW+t.nH:=rfl;have ei:t.si=t.nW+t.nH+1:=rfl;rcases(hk a ha).eqs with⟨x',H,M,O,V,e5,e6,e7⟩|⟨x',H,M,O,V,e5⟩|⟨h',H,M,O,V,e5,e6,e7⟩|⟨h',H,M,O,V,e5⟩|⟨i,H,M,O,V,e5,e6,e7⟩|⟨i,H,e0,M,O,V,e5,e6,e7⟩
  ·obtain rfl:x'=x:=om;exact⟨M,by rw[O,V,e5]at tg;exact tg⟩
  ·omega
  ·omega
  ·omega
  ·have:=hy i H;omega
  ·have:=hy i H;omega
 have hY:∀i,i<t.m->dl i p=sp_ (fun a=>is (a.way=i/\a.more=1)) p-sp_ (fun a=>is (a.way=i/\a.more= -1)) p:=fun i _=>by
  unfold dl;rw[<- xi4];exact xvh fun a ha=>by
   unfold is;rcases(hk a ha).eqs with⟨x',H,M,O,V,e5,e6,e7⟩|⟨x',H,M,O,V,e5⟩|⟨h',H,M,O,V,e5,e6,e7⟩|⟨h',H,M,O,V,e5⟩|⟨i,H,M,O,V,e5,e6,e7⟩|⟨i,H,e0,M,O,V,e5,e6,e7⟩<;>(repeat' split)<;>omega
 have c4:∀i,sp_ (fun a=>is (a.way=(i:Nat)/\a.more= -1)) p<=1:=fun i=>by
  have:sp_ (fun a=>is (a.way=(i:Nat)/\a.more= -1)) p<=toN (t.ww i) p:=xv7 fun a ha=>by
   unfold is;rcases(hk a ha).eqs with⟨x',H,M,O,V,e5,e6,e7⟩|⟨x',H,M,O,V,e5⟩|⟨h',H,M,O,V,e5,e6,e7⟩|⟨h',H,M,O,V,e5⟩|⟨j,H,M,O,V,e5,e6,e7⟩|⟨j,H,e0,M,O,V,e5,e6,e7⟩
   ·(repeat' split)<;>omega
   ·(repeat' split)<;>omega
   ·(repeat' split)<;>omega
   ·(repeat' split)<;>omega
   ·(repeat' split)<;>omega
   ·by_cases z:j=i
    ·subst z;(repeat' split)<;>omega
    ·(repeat' split)<;>omega
  have:=(xfp (x:=t.ww i) nd.2).1;omega
 have b6:∀i,0<sp_ (fun a=>is (a.way=(i:Nat)/\a.more= -1)) p->0<dv d i:=fun i z=>by
  obtain⟨a,ha,hp⟩:=xw7 z;obtain⟨z1,z2⟩:=xv0 hp;rcases(hk a ha).eqs with⟨x',H,M,O,V,e5,e6,e7⟩|⟨x',H,M,O,V,e5⟩|⟨h',H,M,O,V,e5,e6,e7⟩|⟨h',H,M,O,V,e5⟩|⟨j,H,M,O,V,e5,e6,e7⟩|⟨j,H,e0,M,O,V,e5,e6,e7⟩
  ·omega
  ·omega
  ·omega
  ·omega
  ·omega
  ·obtain rfl:j=i:=om;exact e0
 have b0:∀i,0<=sp_ (fun a=>is (a.way=(i:Nat)/\a.more=1)) p:=fun i=>xnj fun a _=>xoj;have a9:∀i,0<=sp_ (fun a=>is (a.way=(i:Nat)/\a.more= -1)) p:=fun i=>xnj fun a _=>xoj;have b3:∀i,0<sp_ (fun a=>is (a.way=(i:Nat)/\a.more=1)) p->π (t.ww i)=π (t.nW+t.wh i):=fun i z=>by
  obtain⟨a,ha,hp⟩:=xw7 z;obtain⟨z1,z2⟩:=xv0 hp;have tg:=a3 a ha;rcases(hk a ha).eqs with⟨x',H,M,O,V,e5,e6,e7⟩|⟨x',H,M,O,V,e5⟩|⟨h',H,M,O,V,e5,e6,e7⟩|⟨h',H,M,O,V,e5⟩|⟨j,H,M,O,V,e5,e6,e7⟩|⟨j,H,e0,M,O,V,e5,e6,e7⟩
  ·omega
  ·omega
  ·omega
  ·omega
  ·obtain rfl:j=i:=om;rw[M,O,V]at tg;omega
  ·omega
 have a2:∀h d,Al t d h=t.hv h-draw t d h:=fun _ _=>rfl;have a5:∀x d,has t d x=t.wv x-give t d x:=fun _ _=>rfl;refine⟨⟨G4.trans D.len,fun i hi=>?_,fun h hh=>?_,fun x hx=>?_⟩,⟨fun x hx c=>?_,fun x hx c=>?_,fun h hh c=>?_,fun h hh c=>?_,fun i hi=>C.f5 i hi,fun i hi c=>?_⟩,?_⟩
 ·rw[a7 i hi,hY i hi];have:=D.pos i hi;have:=b0 i;have:=c4 i;have:=b6 i;have:=a9 i
  omega
 ·rw[hH h hh];have:=a6 h hh;have:=a8 h;have:=c2 h hh;have:=D.hs h hh;have:=a2 h d
  omega
 ·rw[hW x hx];have:=c1 x;have:=b4 x;have:=b8 x hx;have:=D.ws x hx;have:=a5 x d
  omega
 ·refine C.f1 x hx ?_;rw[a5,hW x hx]at c;have:=b4 x;have:=a5 x d;omega
 ·rw[a5,hW x hx]at c;by_cases z:0<sp_ (fun a=>is (a.fr=t.sp/\a.to=x)) p
  ·have:=(b8 x hx z).2;omega
  ·exact C.f2 x hx (by have:=b4 x;have:=a5 x d;omega)
 ·rw[a2,hH h hh]at c⊢;have i0:=a8 h;have i1:=a6 h hh;have el:=a2 h d;have f:=C.f3 h hh om
  by_cases z:0<sp_ (fun a=>is (a.fr=t.nW+h/\a.to=t.si)) p
  ·have e:sp_ (fun a=>is (a.fr=t.nW+h/\a.to=t.si)) p=1:=om;rw[e]at c⊢;obtain⟨n,hn⟩:∃n:Nat,(Al t d h).toNat=n+2:=⟨(Al t d h).toNat-2,om⟩
   rw[hn]at f;rw[show(t.hv h-(draw t d h+1)).toNat=n+1 by omega];simp only[Nat.add_sub_cancel,show n+2-1=n+1 from rfl]at f⊢;rw[xuz (n+1),xuz n]at f;rw[xuz n];have:=xcz n;omega
  ·have e:sp_ (fun a=>is (a.fr=t.nW+h/\a.to=t.si)) p=0:=om;rw[e,Int.add_zero,<- a2];exact f
 ·rw[a2,hH h hh]at c⊢;have i0:=a8 h;have i1:=a6 h hh;have el:=a2 h d
  by_cases z:0<sp_ (fun a=>is (a.fr=t.nW+h/\a.to=t.si)) p
  ·have e:sp_ (fun a=>is (a.fr=t.nW+h/\a.to=t.si)) p=1:=om;have⟨g1,g2⟩:=c2 h hh z;rw[e]at c⊢;obtain⟨n,hn⟩:∃n:Nat,(Al t d h).toNat=n+1:=⟨(Al t d h).toNat-1,om⟩
   rw[hn]at g2;rw[show(t.hv h-(draw t d h+1)).toNat=n by omega];simp only[Nat.add_sub_cancel]at g2;omega
  ·have e:sp_ (fun a=>is (a.fr=t.nW+h/\a.to=t.si)) p=0:=om;rw[e,Int.add_zero,<- a2];rw[e,Int.add_zero,<- a2]at c;exact C.f4 h hh c
 ·by_cases z:0<dv d i
  ·exact C.f6 i hi z
  ·rw[a7 i hi,hY i hi]at c;have:=b3 i;have:=a9 i;have:=b0 i
   have:=D.pos i hi;have e:=b3 i om;omega
 ·rw[<- xhd fun i hi=>(hy i hi).1,<- xhd fun i hi=>(hy i hi).1,xkx hH,xlc];have:0<sm t.nH (fun h=>sp_ (fun a=>is (a.fr=t.nW+h/\a.to=t.si)) p):=by
   obtain⟨a,ha,hp⟩:=xw7 (show 0<sp_ (fun a=>is (a.to=t.si)) p by have:toN t.si p=sp_ (fun a=>is (a.to=t.si)) p:=rfl;omega);have z:=xv0 hp;have f1:=a4 a ha;obtain⟨h,hh,ef⟩:∃h,h<t.nH/\a.fr=t.nW+h:=by
    have es:t.sp=t.nW+t.nH:=rfl;have ei:t.si=t.nW+t.nH+1:=rfl;rcases(hk a ha).eqs with⟨x',H,M,O,V,e5,e6,e7⟩|⟨x',H,M,O,V,e5⟩|⟨h',H,M,O,V,e5,e6,e7⟩|⟨h',H,M,O,V,e5⟩|⟨i,H,M,O,V,e5,e6,e7⟩|⟨i,H,e0,M,O,V,e5,e6,e7⟩
    ·omega
    ·omega
    ·exact⟨h',H,O⟩
    ·omega
    ·have:=hy i H;omega
    ·have:=hy i H;omega
   have m1:=yvq (f:=fun h=>sp_ (fun a=>is (a.fr=t.nW+h/\a.to=t.si)) p) (fun i _=>a8 i) hh;have m2:0<sp_ (fun a=>is (a.fr=t.nW+h/\a.to=t.si)) p:=by
    obtain⟨l1,l2,rfl⟩:=List.append_of_mem ha;have b5:∀(f:Arc->Int)l1 l2,sp_ f (l1++l2)=sp_ f l1+sp_ f l2:=fun f l1 l2=>by
     induction l1 with
     |nil=>simp[sp_]
     |cons b l ih=>rw[List.cons_append,sp_,sp_,ih];omega
    rw[b5,sp_];have h1:0<=sp_ (fun a=>is (a.fr=t.nW+h/\a.to=t.si)) l1:=xnj fun a _=>xoj;have h2:0<=sp_ (fun a=>is (a.fr=t.nW+h/\a.to=t.si)) l2:=xnj fun a _=>xoj;have:is (a.fr=t.nW+h/\a.to=t.si)=1:=if_pos ⟨ef,z⟩;omega
   omega
  omega
def bf(t:Tn)(w:Wi)(d:List Int):Lab:=Bo (Az t w d) (nN t) (E8 (nN t) t.sp)
def Lw(s:Lab)(sp:Nat):Nat->Nat->List Arc
 |0,_=>[]
 |f+1,v=>if v=sp then []else B s v::Lw s sp f (B s v).fr
def Du(t:Tn)(w:Wi)(d:List Int):Int:=L (bf t w d) t.si
def Bh(t:Tn)(w:Wi)(d:List Int):List Arc:=if Du t w d<far then Lw (bf t w d) t.sp (nN t) t.si else []
def Fi(t:Tn)(w:Wi):Nat->List Int->List Int
 |0,d=>d
 |n+1,d=>if 0<=Du t w d then d else Fi t w n (aug d (Bh t w d))
def Bz(t:Tn)(w:Wi):List Int:=Fi t w ((sm t.nH t.hv).toNat+1) (List.replicate t.m 0)
theorem xp9{s sp v p}(C:En s sp v p):∀{f},p.length<f->Lw s sp f v=p:=by
 induction C with
 |nil=>intro f h;cases f with|zero=>omega|succ f=>rw[Lw,if_pos rfl]
 |@cons v p ne _ ih=>
   intro f h;cases f with
   |zero=>omega
   |succ f=>rw[Lw,if_neg ne,ih (by rw[List.length_cons]at h;omega)]
structure Good(t:Tn)(w:Wi)(d:List Int):Prop where
 div:Div t d
 low:∃π,Cert t w d π/\π t.si<=π t.sp
structure Km(t:Tn)(w:Wi)(d:List Int):Prop extends Good t w d where
 high:∃π,Cert t w d π/\π t.sp<=π t.si
 cut:∃R:Nat->Bool,R t.sp=true/\R t.si=false/\ ∀a∈Az t w d,R a.fr=true->R a.to=true
theorem yig(f:Nat->Int):∀n,∃M,∀v,v<n->f v<=M
 |0=>⟨0,fun v h=>absurd h om⟩
 |n+1=>by
   obtain⟨M,h⟩:=yig f n;refine⟨max M (f n),fun v hv=>?_⟩;by_cases e:v=n
   ·subst e;omega
   ·have:=h v om;omega
structure Find(t:Tn)(w:Wi)(d:List Int):Prop where
 z:L (bf t w d) t.sp=0
 top:∀v,L (bf t w d) v<=far
 closed:∀a∈Az t w d,L (bf t w d) a.fr<far->L (bf t w d) a.to<far/\L (bf t w d) a.to<=L (bf t w d) a.fr+a.cost
 way:Du t w d<far->Path (Az t w d) t.sp t.si (Du t w d) (Bh t w d)/\En (bf t w d) t.sp t.si (Bh t w d)/\(t.sp::(Bh t w d).map Arc.to).Nodup/\
  ∀a∈Bh t w d,a∈Az t w d/\L (bf t w d) a.fr+a.cost=L (bf t w d) a.to/\L (bf t w d) a.fr<far
theorem Good.find{t w d}(O:Ok t)(S:Sg w)(G:Good t w d):Find t w d:=by
 obtain⟨π,C,_⟩:=G.low;have e9:cC*nN t<far:=by
  have:=O.nh;have:=O.nw
  have M:(nN t:Int)<=13:=by simp only[nN];omega
  have:=Int.mul_le_mul_of_nonneg_left M (show(0:Int)<=cC by decide);have:cC*13<far:=by decide
  omega
 have hs:t.sp<nN t:=by simp only[Tn.sp,nN];omega
 have hi:t.si<nN t:=by simp only[Tn.si,nN];omega
 obtain⟨M,h2,h3,h4⟩:=yag (xi1 C) hs (xhc O.y) (fun a h=>(xfl O S G.div a h).2) d_ e9 (s:=bf t w d) rfl;refine⟨M,h2,h3,fun hf=>?_⟩;obtain⟨p,c,P,V,tg⟩:=h4 t.si hi hf;have hl:p.length<nN t:=by
  have:=xvd (N:=nN t) V fun z H=>by
   rcases List.mem_cons.1 H with rfl|H
   ·exact hs
   ·obtain⟨b,hb,rfl⟩:=List.mem_map.1 H;exact(xhc O.y b (xh5 P b hb)).2
  simp only[List.length_cons,List.length_map]at this;omega
 have e:Bh t w d=p:=by rw[Bh,if_pos hf,xp9 c hl]
 rw[e];exact⟨P,c,V,tg⟩
theorem Good.Pq{t w d}(O:Ok t)(S:Sg w)(G:Good t w d):∃π,Cert t w d π/\(∀v,L (bf t w d) v<far->π v=L (bf t w d) v)/\(¬ Du t w d<far->0<=π t.si):=by
 have Fd:=G.find O S;obtain⟨π,C,_⟩:=G.low;obtain⟨M,V⟩:=yig (fun v=>far+cC-π v) (nN t);have hi:t.si<nN t:=by simp only[Tn.si,nN];omega
 have a2:0<=far:=by decide
 have a3:0<=cC:=by decide
 refine⟨fun v=>if L (bf t w d) v<far then L (bf t w d) v else M+π v,yuj fun a H=>?_,fun v h=>if_pos h,fun h=>?_⟩
 ·have⟨e1,e2⟩:=xhc O.y a H;have cc:=xfl O S G.div a H;have F1:=xi1 C a H;have m1:=V _ e1;by_cases f:L (bf t w d) a.fr<far
  ·have:=Fd.closed a H f;simp only[if_pos f,if_pos this.1];omega
  ·by_cases g:L (bf t w d) a.to<far
   ·simp only[if_neg f,if_pos g];omega
   ·simp only[if_neg f,if_neg g];omega
 ·have m1:=V _ hi;have e:¬ L (bf t w d) t.si<far:=h;simp only[if_neg e];omega
theorem Good.next{t w d}(O:Ok t)(S:Sg w)(G:Good t w d)(h:Du t w d<0):Good t w (aug d (Bh t w d))/\tot t d<tot t (aug d (Bh t w d)):=by
 have M:0<far:=by decide
 have V:=G.find O S;obtain⟨π,C,H,_⟩:=G.Pq O S;obtain⟨P,_,nd,tg⟩:=V.way om;have A:=yjf O.y G.div C P nd fun a ha=>by
  obtain⟨h1,h2,h3⟩:=tg a ha;rw[H _ h3,H _ (V.closed a h1 h3).1];exact h2
 refine⟨⟨A.1,π,A.2.1,?_⟩,A.2.2⟩;have h':L (bf t w d) t.si<0:=h;rw[H _ om,H _ (by rw[V.z];exact M),V.z];omega
theorem Good.last{t w d}(O:Ok t)(S:Sg w)(G:Good t w d)(h:0<=Du t w d):Km t w d:=by
 have a3:0<far:=by decide
 have Fd:=G.find O S;obtain⟨π,C,a6,h0⟩:=G.Pq O S;have a4:¬ Du t w d<far:=fun hf=>by
  obtain⟨P,_,nd,tg⟩:=Fd.way hf;rw[List.nodup_cons]at nd;have hc:=yiz P;have a2:t.si≠t.sp:=by simp only[Tn.si,Tn.sp];omega
  have bS:=bal P t.si;have bs:=bal P t.sp;have i1:is (t.si=t.si)=1:=if_pos rfl;have i2:is (t.si=t.sp)=0:=if_neg a2;have i3:is (t.sp=t.sp)=1:=if_pos rfl;have i4:is (t.sp=t.si)=0:=if_neg a2.symm;have n1:0<=frN t.si (Bh t w d):=xnj fun a _=>xoj;have t0:=(xfp (x:=t.sp) nd.2).2 nd.1;have a5:sp_ Arc.cost (Bh t w d)<=sp_ (fun a=>-5999*is (a.to=t.si)+is (a.fr=t.sp)) (Bh t w d)+100000000000*frN t.si (Bh t w d):=by
   have:sp_ Arc.cost (Bh t w d)<=sp_ (fun a=>(-5999*is (a.to=t.si)+is (a.fr=t.sp))+100000000000*is (a.fr=t.si)) (Bh t w d):=xv7 fun a ha=>by
    have a7:a.to≠t.sp:=fun z=>nd.1 (List.mem_map.2 ⟨a,ha,z⟩);have es:t.sp=t.nW+t.nH:=rfl;have ei:t.si=t.nW+t.nH+1:=rfl;have cc:=(xfl O S G.div a (tg a ha).1).2;have eC:cC<100000000000-5999:=by decide
    unfold is;rcases(xrz.1 (tg a ha).1).eqs with⟨x',H,e2,V,e4,M,e6,e7⟩|⟨x',H,e2,V,e4,M⟩|⟨h',H,e2,V,e4,M,e6,e7⟩|⟨h',H,e2,V,e4,M⟩|⟨i,H,e2,V,e4,M,e6,e7⟩|⟨i,H,e0,e2,V,e4,M,e6,e7⟩
    ·have:=S.bw x';(repeat' split)<;>omega
    ·omega
    ·obtain⟨n,hn⟩:∃n:Nat,(Al t d h').toNat=n+1:=⟨(Al t d h').toNat-1,om⟩
     have:=S.bh h';have:=xcz n;rw[hn,Nat.add_sub_cancel,xuz]at M
     (repeat' split)<;>omega
    ·(repeat' split)<;>omega
    ·have:=O.y i H;(repeat' split)<;>omega
    ·have:=O.y i H;(repeat' split)<;>omega
   rw[xnt,xa2]at this;exact this
  rw[xnt,xa2]at a5;have u1:toN t.si (Bh t w d)=sp_ (fun a=>is (a.to=t.si)) (Bh t w d):=rfl;have u2:frN t.sp (Bh t w d)=sp_ (fun a=>is (a.fr=t.sp)) (Bh t w d):=rfl;have t1:=(xfp (x:=t.si) nd.2).1;have f0:frN t.si (Bh t w d)=0:=om;omega
 refine⟨G,⟨π,C,?_⟩,fun v=>decide (L (bf t w d) v<far),by simp only[Fd.z];decide,decide_eq_false a4,fun a ha hf=>?_⟩
 ·rw[a6 _ (by rw[Fd.z];exact a3),Fd.z];exact h0 a4
 ·exact decide_eq_true (Fd.closed a ha (of_decide_eq_true hf)).1
theorem Good.start{t w}(O:Ok t)(S:Sg w):Good t w (List.replicate t.m 0):=by
 have H:∀i,dv (List.replicate t.m 0) i=0:=fun i=>by
  unfold dv;rw[List.getD_eq_getElem?_getD,List.getElem?_replicate];split<;>rfl
 have V:∀h,draw t (List.replicate t.m 0) h=0:=fun h=>by
  unfold draw;exact(xkx (g:=fun _=>0) fun i _=>by rw[H];split<;>rfl).trans (xzk _)
 have gv:∀h,give t (List.replicate t.m 0) h=0:=fun h=>by
  unfold give;exact(xkx (g:=fun _=>0) fun i _=>by rw[H];split<;>rfl).trans (xzk _)
 have es:t.sp=t.nW+t.nH:=rfl;have ei:t.si=t.nW+t.nH+1:=rfl;have d9:A0 9<999999999990:=by decide
 refine⟨⟨s_,fun i _=>by rw[H];exact Int.le_refl _,fun h M=>by rw[V];exact(O.h h M).1,fun x hx=>by rw[gv];exact(O.w x hx).1⟩,
  fun v=>if v=t.sp then 0 else if v=t.si then -999999999999 else -1,⟨fun x hx c=>?_,fun x hx c=>?_,fun h M c=>?_,fun h M c=>?_,fun i hi=>?_,fun i hi c=>?_⟩,?_⟩
 ·have:=S.bw x;simp only[if_neg (show ¬ x=t.sp by omega),if_neg (show ¬ x=t.si by omega),if_true];omega
 ·unfold has at c;rw[gv]at c;omega
 ·have:=S.bh h;have l9:(Al t (List.replicate t.m 0) h).toNat<=9:=by have:=O.h h M;unfold Al;rw[V];omega
  have:=xpj l9;have:=xcz ((Al t (List.replicate t.m 0) h).toNat-1);simp only[if_neg (show ¬ t.si=t.sp by omega),if_neg (show ¬ t.nW+h=t.sp by omega),if_neg (show ¬ t.nW+h=t.si by omega),if_true];omega
 ·unfold Al at c;rw[V]at c;omega
 ·have:=O.y i hi;simp only[if_neg (show ¬ t.nW+t.wh i=t.sp by omega),if_neg (show ¬ t.nW+t.wh i=t.si by omega),if_neg (show ¬ t.ww i=t.sp by omega),if_neg (show ¬ t.ww i=t.si by omega)];exact Int.le_refl _
 ·rw[H]at c;omega
 ·simp only[if_neg (show ¬ t.si=t.sp by omega),if_true];decide
theorem ywf{t d}(O:Ok t)(D:Div t d):tot t d<=sm t.nH t.hv:=by
 rw[<- xhd fun i hi=>(O.y i hi).1];exact xag D.hs
theorem xx0{t w}(O:Ok t)(S:Sg w):∀{n:Nat}{d},Good t w d->sm t.nH t.hv-tot t d<n->Km t w (Fi t w n d)
 |0,d,G,h=>by have:=ywf O G.div;omega
 |n+1,d,G,h=>by
   rw[Fi];by_cases c:0<=Du t w d
   ·rw[if_pos c];exact G.last O S c
   ·rw[if_neg c];obtain⟨H,M⟩:=G.next O S om;exact xx0 O S H om
theorem xyz{t w}(O:Ok t)(S:Sg w):Km t w (Bz t w):=by
 refine xx0 O S (Good.start O S) ?_;have:0<=tot t (List.replicate t.m 0):=xjw (Good.start O S).div.pos;omega
theorem Km.min{t w d d'}(O:Ok t)(H:Km t w d)(M:Div t d'):F t w d+sm t.nH (fun h=>gap (Al t d' h-Al t d h))<=F t w d':=by
 by_cases c:tot t d<=tot t d'
 ·obtain⟨π,C,V⟩:=H.high;have:=C.le O.y H.div M;have:=Int.mul_nonneg (show 0<=tot t d'-tot t d by omega) (show 0<=π t.si-π t.sp by omega);omega
 ·obtain⟨π,C,V⟩:=H.low;have:=C.le O.y H.div M;have:=Int.mul_nonneg (show 0<=tot t d-tot t d' by omega) (show 0<=π t.sp-π t.si by omega);have e:(tot t d'-tot t d)*(π t.si-π t.sp)=(tot t d-tot t d')*(π t.sp-π t.si):=by
   rw[show tot t d'-tot t d= -(tot t d-tot t d') by omega,show π t.si-π t.sp= -(π t.sp-π t.si) by omega,Int.neg_mul_neg]
  omega
structure Cut(t:Tn)(d:List Int)(R:Nat->Bool):Prop where
 c1:∀x,x<t.nW->R x=false->give t d x=t.wv x
 c3:∀h,h<t.nH->R (t.nW+h)=true->Al t d h=0
 c5:∀i,i<t.m->R (t.nW+t.wh i)=false->R (t.ww i)=false
 c6:∀i,i<t.m->R (t.nW+t.wh i)=true->R (t.ww i)=false->dv d i=0
theorem Km.cutOff{t w d}(H:Km t w d):∃R,Cut t d R:=by
 obtain⟨R,hs,hi,O⟩:=H.cut;refine⟨R,fun x hx h=>?_,fun h V z=>?_,fun i M h=>?_,fun i M h h'=>?_⟩
 ·have:¬ 0<has t d x:=fun c=>by
   have:=O _ (xrz.2 (.k1 hx c)) hs;simp only[h]at this;cases this
  have:=H.div.ws x hx;have e:has t d x=t.wv x-give t d x:=rfl;omega
 ·have:¬ 0<Al t d h:=fun c=>by
   have:=O _ (xrz.2 (.k3 V c)) z;simp only[hi]at this;cases this
  have:=H.div.hs h V;have e:Al t d h=t.hv h-draw t d h:=rfl;omega
 ·cases e:R (t.ww i)with
  |false=>rfl
  |true=>
    have:=O _ (xrz.2 (.k5 (w:=w) (d:=d) M)) e;simp only[h]at this;cases this
 ·have:=H.div.pos i M;by_cases c:0<dv d i
  ·have:=O _ (xrz.2 (.k6 (w:=w) M c)) h;simp only[h']at this;cases this
  ·omega
def ob(b:Bool):Int:=if b then 0 else 1
theorem Cut.sum{t d R}(O:Ok t)(C:Cut t d R):sm t.nH (fun h=>t.hv h*ob (R (t.nW+h)))=sm t.nW (fun x=>t.wv x*ob (R x))+sm t.nH (Al t d):=by
 have a1:sm t.nH (fun h=>draw t d h*ob (R (t.nW+h)))=sm t.m (fun i=>dv d i*ob (R (t.nW+t.wh i))):=xid (fun i hi=>(O.y i hi).1) (fun h=>ob (R (t.nW+h)));have a2:sm t.nW (fun x=>give t d x*ob (R x))=sm t.m (fun i=>dv d i*ob (R (t.ww i))):=xsh (fun i hi=>(O.y i hi).2) (fun x=>ob (R x));have a3:sm t.m (fun i=>dv d i*ob (R (t.nW+t.wh i)))=sm t.m (fun i=>dv d i*ob (R (t.ww i))):=xkx fun i hi=>by
  cases e:R (t.nW+t.wh i)with
  |false=>rw[C.c5 i hi e]
  |true=>cases M:R (t.ww i)with
    |true=>rfl
    |false=>rw[C.c6 i hi e M,Int.zero_mul,Int.zero_mul]
 have a4:sm t.nW (fun x=>give t d x*ob (R x))=sm t.nW (fun x=>t.wv x*ob (R x)):=xkx fun x hx=>by
  cases e:R x with
  |false=>rw[C.c1 x hx e]
  |true=>simp[ob]
 have H:sm t.nH (Al t d)=sm t.nH (fun h=>Al t d h*ob (R (t.nW+h))):=xkx fun h V=>by
  cases e:R (t.nW+h)with
  |false=>simp[ob]
  |true=>rw[C.c3 h V e];simp
 rw[H,<- a4,a2,<- a3,<- a1,<- xlc];exact xkx fun h _=>by rw[<- Int.add_mul];congr 1;unfold Al;omega
theorem Km.Ea{t w d d'}(O:Ok t)(H:Km t w d)(M:Div t d'):tot t d'<=tot t d:=by
 obtain⟨R,C⟩:=H.cutOff;have hs:=C.sum O;have e1:sm t.nH (Al t d)=sm t.nH t.hv-tot t d:=by rw[<- xhd fun i hi=>(O.y i hi).1,<- xiw];rfl
 have e2:sm t.nH (Al t d')=sm t.nH t.hv-tot t d':=by rw[<- xhd fun i hi=>(O.y i hi).1,<- xiw];rfl
 have b1:sm t.nH (fun h=>draw t d' h*ob (R (t.nW+h)))=sm t.m (fun i=>dv d' i*ob (R (t.nW+t.wh i))):=xid (fun i hi=>(O.y i hi).1) (fun h=>ob (R (t.nW+h)));have b2:sm t.nW (fun x=>give t d' x*ob (R x))=sm t.m (fun i=>dv d' i*ob (R (t.ww i))):=xsh (fun i hi=>(O.y i hi).2) (fun x=>ob (R x));have b3:sm t.m (fun i=>dv d' i*ob (R (t.nW+t.wh i)))<=sm t.m (fun i=>dv d' i*ob (R (t.ww i))):=xag fun i hi=>by
  have:=M.pos i hi;cases e:R (t.nW+t.wh i)with
  |false=>rw[C.c5 i hi e];exact Int.le_refl _
  |true=>rw[show ob true=0 from rfl,Int.mul_zero];exact Int.mul_nonneg this (by unfold ob;split<;>omega)
 have b4:sm t.nW (fun x=>give t d' x*ob (R x))<=sm t.nW (fun x=>t.wv x*ob (R x)):=xag fun x V=>Int.mul_le_mul_of_nonneg_right (M.ws x V) (by unfold ob;split<;>omega);have b5:sm t.nH (fun h=>t.hv h*ob (R (t.nW+h)))-sm t.nH (fun h=>draw t d' h*ob (R (t.nW+h)))<=sm t.nH (Al t d'):=by
  rw[<- xiw];exact xag fun h hh=>by
   have:=M.hs h hh;rw[<- Int.sub_mul];cases e:R (t.nW+h)with
   |false=>simp[ob,Al]
   |true=>simp only[ob,if_true,Int.mul_zero,Al];omega
 omega
def put:List Int->Int->List Int
 |[],n=>[n]
 |a::l,n=>if n<=a then a::put l n else n::a::l
def srt(l:List Int):List Int:=l.foldl put []
def earlier:List Int->List Int->Bool
 |a::l,b::r=>if a=b then earlier l r else decide (a<b)
 |_,_=>false
def Mh(l:List Int):Prop:=l.Pairwise (fun a b=>b<=a)
theorem xsd(n:Int):∀l,(put l n).Perm (n::l)
 |[]=>.refl _
 |a::l=>by
   rw[put];split
   ·exact((xsd n l).cons a).trans (.swap ..)
   ·exact .refl _
theorem xd5{n:Int}:∀{l},Mh l->Mh (put l n)
 |[],_=>by simp[put,Mh]
 |a::l,h=>by
   have h:=List.pairwise_cons.1 h;rw[put];split
   ·next c=>
    refine List.pairwise_cons.2 ⟨fun z H=>?_,xd5 h.2⟩;rcases List.mem_cons.1 ((xsd n l).mem_iff.1 H)with rfl|H
    ·exact c
    ·exact h.1 z H
   ·next c=>
    refine List.pairwise_cons.2 ⟨fun z H=>?_,List.pairwise_cons.2 h⟩;rcases List.mem_cons.1 H with rfl|H
    ·omega
    ·have:=h.1 z H;omega
theorem xjs:∀{l o:List Int},Mh o->Mh (l.foldl put o)/\(l.foldl put o).Perm (l++o)
 |[],o,h=>⟨h,.refl _⟩
 |a::l,o,h=>by
   have:=xjs (l:=l) (xd5 (n:=a) h);exact⟨this.1,this.2.trans (((xsd a o).append_left l).trans (List.perm_middle))⟩
theorem xg4(l):Mh (srt l):=(xjs (l:=l) (o:=[]) .nil).1
theorem xth(l):(srt l).Perm l:=by have:=(xjs (l:=l) (o:=[]) .nil).2;rwa[List.append_nil]at this
theorem xen:∀{a b:List Int},Mh a->Mh b->a.Perm b->a=b
 |[],b,_,_,p=>(List.Perm.nil_eq p)
 |x::a,[],_,_,p=>absurd (p.symm.nil_eq) s_
 |x::a,y::b,ha,hb,p=>by
   have O:=List.pairwise_cons.1 ha;have V:=List.pairwise_cons.1 hb;have e:x=y:=by
    have M:x∈y::b:=p.mem_iff.1 (List.mem_cons_self ..);have H:y∈x::a:=p.mem_iff.2 (List.mem_cons_self ..);rcases List.mem_cons.1 M with e|M
    ·exact e
    ·rcases List.mem_cons.1 H with e|H
     ·exact e.symm
     ·have:=O.1 y H;have:=V.1 x M;omega
   subst e;rw[xen O.2 V.2 ((List.perm_cons x).1 p)]
theorem yvp{l r:List Int}(h:Mh r)(p:r.Perm l):srt l=r:=xen (xg4 l) h ((xth l).trans p.symm)
def val:List Int->Int
 |[]=>0
 |a::l=>A0 a.toNat+val l
theorem yyv{a b:List Int}(p:a.Perm b):val a=val b:=by
 induction p with
 |nil=>rfl
 |cons x _ ih=>rw[val,val,ih]
 |swap x y l=>simp only[val];omega
 |trans _ _ h1 h2=>exact h1.trans h2
theorem yeq:∀l,0<=val l
 |[]=>Int.le_refl _
 |a::l=>by have:=yeq l;have:=xcz a.toNat;simp only[val];omega
theorem yuf{x:Int}:∀{l:List Int},(∀z∈l,z<=x)->val l<=l.length*A0 x.toNat
 |[],_=>by simp[val]
 |a::l,h=>by
   have M:=xpj (show a.toNat<=x.toNat by have:=h a (List.mem_cons_self ..);omega);have O:=yuf fun z H=>h z (List.mem_cons_of_mem _ H);rw[val,List.length_cons,Int.natCast_add,Int.add_mul];omega
theorem xan:∀{a b:List Int},Mh a->(∀z∈a,0<=z)->a.length=b.length->a.length<=6->earlier a b=true->val a+1000<=val b
 |[],_,_,_,_,_,h=>by cases h
 |x::a,[],_,_,e,_,_=>by simp at e
 |x::a,y::b,d,p,e,n,h=>by
   have d:=List.pairwise_cons.1 d;rw[earlier]at h;simp only[List.length_cons]at e n;by_cases c:x=y
   ·rw[if_pos c]at h;have:=xan d.2 (fun z M=>p z (List.mem_cons_of_mem _ M)) om om h;simp only[val,c];omega
   ·rw[if_neg c]at h;have lt:=of_decide_eq_true h;have O:=p x (List.mem_cons_self ..);have h1:=yuf d.1;have V:(a.length:Int)*A0 x.toNat<=5*A0 x.toNat:=Int.mul_le_mul_of_nonneg_right om (by have:=xcz x.toNat;omega);have H:=xpj (show x.toNat+1<=y.toNat by omega);rw[xuz]at H;have:=xcz x.toNat;have:=yeq b;simp only[val];omega
def Gd(t:Tn)(d:List Int):List Int:=(List.range t.nH).map (Al t d)
def Ca(t:Tn)(d:List Int):List Int:=srt (Gd t d)
theorem xaf(t d):(Ca t d).length=t.nH:=by rw[Ca,(xth _).length_eq,Gd];simp
theorem xt0{t d z}:z∈Ca t d<-> ∃h,h<t.nH/\Al t d h=z:=by
 rw[Ca,(xth _).mem_iff,Gd];simp
theorem ygj{t d}(D:Div t d):∀z∈Ca t d,0<=z:=fun z H=>by
 obtain⟨h,M,rfl⟩:=xt0.1 H;have:=D.hs h M;unfold Al;omega
theorem yfq:∀a b,val (a++b)=val a+val b
 |[],b=>by simp[val]
 |x::a,b=>by rw[List.cons_append,val,val,yfq a b];omega
theorem xft(f:Nat->Int):∀n,val ((List.range n).map f)=sm n (fun h=>A0 (f h).toNat)
 |0=>rfl
 |n+1=>by rw[List.range_succ,List.map_append,yfq,xft f n];simp[val,sm]
def bon(t:Tn)(w:Wi)(d:List Int):Int:=sm t.nH (fun h=>draw t d h*bh w h)+sm t.nW (fun x=>give t d x*bw w x)
theorem F_eq(t w d):F t w d=val (Ca t d)-bon t w d:=by
 rw[F,bon,Ca,yyv (xth _),Gd,xft,xiw];omega
theorem yyg{t w d}(O:Ok t)(S:Sg w)(D:Div t d): -200<=bon t w d/\bon t w d<=200:=by
 have M:∀(c:Int)n,sm n (fun _=>c)=n*c:=fun c n=>by
  induction n with
  |zero=>simp[sm]
  |succ n ih=>rw[sm,ih,Int.natCast_add,Int.add_mul];omega
 have m:∀(x b k:Int),0<=x->x<=k-> -1<=b->b<=1-> -k<=x*b/\x*b<=k:=fun x b k h1 h2 h3 h4=>by
  obtain rfl|rfl|rfl:b= -1\/b=0\/b=1:=om
  ·rw[Int.mul_neg_one];omega
  ·rw[Int.mul_zero];omega
  ·rw[Int.mul_one];omega
 have hH:∀h,h<t.nH-> -9<=draw t d h*bh w h/\draw t d h*bh w h<=9:=fun h H=>m _ _ 9 (xrk D h) (by have:=D.hs h H;have:=O.h h H;omega) (S.bh h).1 (S.bh h).2;have V:∀x,x<t.nW-> -21<=give t d x*bw w x/\give t d x*bw w x<=21:=fun x hx=>m _ _ 21 (xxw D x) (by have:=D.ws x hx;have:=O.w x hx;omega) (S.bw x).1 (S.bw x).2;have a1:=xag fun h H=>(hH h H).1;have a2:=xag fun h H=>(hH h H).2;have a3:=xag fun h H=>(V h H).1;have a4:=xag fun h H=>(V h H).2;rw[M]at a1 a2 a3 a4;have:=O.nh;have:=O.nw
 unfold bon;omega
theorem Km.fair{t w d d'}(O:Ok t)(S:Sg w)(H:Km t w d)(M:Div t d'):earlier (Ca t d') (Ca t d)=false/\(Ca t d'=Ca t d->bon t w d'<=bon t w d):=by
 have h:=H.min O M;have g:0<=sm t.nH (fun h=>gap (Al t d' h-Al t d h)):=xjw fun i _=>by unfold gap;split<;>omega
 rw[F_eq,F_eq]at h;have b1:=yyg O S H.div;have b2:=yyg O S M;refine⟨?_,fun e=>by rw[e]at h;omega⟩;cases e:earlier (Ca t d') (Ca t d)with
 |false=>rfl
 |true=>
   have:=xan (a:=Ca t d') (b:=Ca t d) (xg4 _) (ygj M) (by rw[xaf,xaf]) (by rw[xaf];exact O.nh) e;omega
structure Fairest(t:Tn)(d:List Int):Prop where
 div:Div t d
 least:∀d',Div t d'->earlier (Ca t d') (Ca t d)=false
theorem Km.fairest{t w d}(O:Ok t)(S:Sg w)(H:Km t w d):Fairest t d:=⟨H.div,fun _ M=>(H.fair O S M).1⟩
theorem xhk:Sg Dm:=⟨d_,d_⟩
def LK(t:Tn):List Int:=Ca t (Bz t Dm)
theorem xfh{t}(O:Ok t){w}(S:Sg w):Fairest t (Bz t w):=(xyz O S).fairest O S
end Go.X.Flow
