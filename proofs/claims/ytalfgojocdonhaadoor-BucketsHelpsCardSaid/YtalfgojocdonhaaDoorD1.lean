/-
  Part of proofs about buckets brought from wells to houses: a lone run, and what it computes. No condition.
-/
import Derived.Conc.Beside
import Derived.IntWalk
import Derived.Orders
namespace Go.X.Bf

structure Arc where
  fr:Nat
  to:Nat
  cost:Int
  way:Int
  more:Int
deriving Inhabited,DecidableEq
def a0:Arc:=⟨0,0,0,0,0⟩
def far:Int:=2 ^ 60
structure Lab where
  c:List Int
  b:List Arc
def L (s:Lab) (v:Nat):Int:=s.c.getD v far
def B (s:Lab) (v:Nat):Arc:=s.b.getD v a0
def rel (s:Lab) (a:Arc):Lab:=if L s a.fr<far∧L s a.fr+a.cost<L s a.to then ⟨s.c.set a.to (L s a.fr+a.cost),s.b.set a.to a⟩ else s
def sweep (E:List Arc) (s:Lab):Lab:=E.foldl rel s
def sweeps (E:List Arc):Nat→Lab→Lab
  | 0,s=>s
  | n+1,s=>sweep E (sweeps E n s)
def lab0 (N sp:Nat):Lab:=⟨(List.replicate N far).set sp 0,List.replicate N a0⟩

inductive Path (E:List Arc) (sp:Nat):Nat→Int→List Arc→Prop
  | nil:Path E sp sp 0 []
  | cons {a:Arc} {x:Int} {l:List Arc}:a∈E→Path E sp a.fr x l→Path E sp a.to (x+a.cost) (a::l)

def Feas (E:List Arc) (π:Nat→Int):Prop:=∀ a∈E,π a.to≤π a.fr+a.cost

theorem yyx {E sp π v x l} (F:Feas E π) (P:Path E sp v x l):π v-π sp≤x:=by
  induction P with
  | nil=>omega
  | cons ha _ ih=>have:=F _ ha;omega

theorem yuq {E sp π} (F:Feas E π): ∀ {l1 l2 v x},Path E sp v x (l1++l2)→ ∃ y u,Path E sp u y l2∧π v-π u≤x-y∧(∀ b r,l2=b::r→u=b.to)
  | [],l2,v,x,P=>⟨x,v,P,by omega,fun b r e=>by simp only [List.nil_append,e] at P;cases P;rfl⟩
  | a::l1,l2,_,_,.cons ha P=>by
    have ⟨y,u,Q,h,e⟩:=yuq F P
    have:=F _ ha
    exact ⟨y,u,Q,by omega,e⟩

theorem ygq: ∀ {N:Nat} {l:List Nat},l.Nodup→(∀ x∈l,x<N)→l.length≤N
  | 0,[],_,_=>Nat.le_refl _
  | 0,x::l,_,h=>absurd (h x (List.mem_cons_self ..)) (by omega)
  | N+1,l,d,h=>by
    by_cases m:N∈l
    · have hl:=ygq (N:=N) (d.erase N) fun x z=>by
        have ⟨ne,z'⟩:=d.mem_erase_iff.1 z
        have:=h x z';omega
      rw [List.length_erase_of_mem m] at hl
      omega
    · have:=ygq (N:=N) d fun x z=>by
        have:=h x z
        by_cases e:x=N
        · exact absurd (e ▸ z) m
        · omega
      omega

theorem zkz {E sp π} (F:Feas E π) {v x l} (P:Path E sp v x l): ∃ x' l',Path E sp v x' l'∧x'≤x∧(sp::l'.map Arc.to).Nodup:=by
  induction P with
  | nil=>exact ⟨0,[],.nil,Int.le_refl _,by simp⟩
  | @cons a x l ha P ih=>
    obtain ⟨x',l',Q,hx,hn⟩:=ih
    have hF:=F _ ha
    have hq:=yyx F Q
    by_cases e:a.to=sp
    · exact ⟨0,[],e ▸ .nil,by rw [e] at hF;omega,by simp⟩
    · by_cases m:a.to∈l'.map Arc.to
      · obtain ⟨b,hb,eb⟩:=List.mem_map.1 m
        obtain ⟨l1,l2,rfl⟩:=List.append_of_mem hb
        obtain ⟨y,u,R,hy,hu⟩:=yuq F Q
        obtain rfl:=hu b l2 rfl
        refine ⟨y,b::l2,eb ▸ R,by rw [eb] at hy;omega,?_⟩
        rw [List.nodup_cons] at hn ⊢
        refine ⟨fun z=>hn.1 ?_,?_⟩
        · rw [List.map_append];exact List.mem_append.2 (.inr z)
        · have:=hn.2;rw [List.map_append,List.nodup_append] at this;exact this.2.1
      · refine ⟨x'+a.cost,a::l',.cons ha Q,by omega,?_⟩
        rw [List.nodup_cons] at hn ⊢
        rw [List.map_cons,List.nodup_cons,List.mem_cons]
        exact ⟨fun z=>z.elim (fun z=>e z.symm) hn.1,m,hn.2⟩

theorem zxk {E sp π N} (F:Feas E π) (hsp:sp<N) (hE: ∀ a∈E,a.fr<N∧a.to<N) {v x l} (P:Path E sp v x l): ∃ x' l',Path E sp v x' l'∧x'≤x∧l'.length<N:=by
  obtain ⟨x',l',Q,hx,hn⟩:=zkz F P
  refine ⟨x',l',Q,hx,?_⟩
  have hm: ∀ {v x l},Path E sp v x l→ ∀ a∈l,a∈E:=fun P=>by
    induction P with
    | nil=>exact fun a h=>absurd h (by simp)
    | cons ha _ ih=>exact fun a h=>(List.mem_cons.1 h).elim (fun e=>e ▸ ha) (ih a)
  have:=ygq (N:=N) hn fun z hz=>by
    rcases List.mem_cons.1 hz with rfl | hz
    · exact hsp
    · obtain ⟨b,hb,rfl⟩:=List.mem_map.1 hz
      exact (hE b (hm Q b hb)).2
  simp only [List.length_cons,List.length_map] at this
  omega

theorem zqv {E sp C} (hC: ∀ a∈E,a.cost≤C) {v x l} (P:Path E sp v x l):x≤C*l.length:=by
  induction P with
  | nil=>simp
  | cons ha _ ih=>have:=hC _ ha;rw [List.length_cons,Int.natCast_add,Int.mul_add];omega

theorem wuk {s:Lab} {a:Arc} (h:a.to<s.c.length) (v:Nat):L (rel s a) v=if L s a.fr<far∧L s a.fr+a.cost<L s a.to∧a.to=v then L s a.fr+a.cost else L s v:=by
  unfold rel
  by_cases e:L s a.fr<far∧L s a.fr+a.cost<L s a.to
  · rw [if_pos e]
    by_cases d:a.to=v
    · subst d
      rw [if_pos ⟨e.1,e.2,rfl⟩]
      simp only [L,List.getD_eq_getElem?_getD,List.getElem?_set,if_true,if_pos h];rfl
    · rw [if_neg fun z=>d z.2.2]
      simp only [L,List.getD_eq_getElem?_getD,List.getElem?_set,if_neg d]
  · rw [if_neg e,if_neg fun z=>e ⟨z.1,z.2.1⟩]
theorem B_rel {s:Lab} {a:Arc} (h:a.to<s.b.length) (v:Nat):B (rel s a) v=if L s a.fr<far∧L s a.fr+a.cost<L s a.to∧a.to=v then a else B s v:=by
  unfold rel
  by_cases e:L s a.fr<far∧L s a.fr+a.cost<L s a.to
  · rw [if_pos e]
    by_cases d:a.to=v
    · subst d
      rw [if_pos ⟨e.1,e.2,rfl⟩]
      simp only [B,List.getD_eq_getElem?_getD,List.getElem?_set,if_true,if_pos h];rfl
    · rw [if_neg fun z=>d z.2.2]
      simp only [B,List.getD_eq_getElem?_getD,List.getElem?_set,if_neg d]
  · rw [if_neg e,if_neg fun z=>e ⟨z.1,z.2.1⟩]
theorem ypv {s:Lab} {a:Arc}:(rel s a).c.length=s.c.length∧(rel s a).b.length=s.b.length:=by
  unfold rel;split <;> simp
theorem ygj {E:List Arc}: ∀ {s:Lab},(E.foldl rel s).c.length=s.c.length∧(E.foldl rel s).b.length=s.b.length:=by
  induction E with
  | nil=>exact ⟨rfl,rfl⟩
  | cons a E ih=>intro s;rw [List.foldl_cons];have h:=ih (s:=rel s a);have g:=ypv (s:=s) (a:=a);exact ⟨h.1.trans g.1,h.2.trans g.2⟩
theorem vfj {s:Lab} {a:Arc} (h:a.to<s.c.length) (v:Nat):L (rel s a) v≤L s v:=by
  rw [wuk h];split
  · next e=>rw [← e.2.2];omega
  · exact Int.le_refl _
theorem zlj {N:Nat} {E:List Arc}: ∀ {s:Lab},s.c.length=N→(∀ a∈E,a.to<N)→ ∀ v,L (E.foldl rel s) v≤L s v:=by
  induction E with
  | nil=>exact fun _ _ v=>Int.le_refl _
  | cons a E ih=>
    intro s hs hE v
    rw [List.foldl_cons]
    exact Int.le_trans (ih (ypv.1.trans hs) (fun b hb=>hE b (List.mem_cons_of_mem _ hb)) v) (vfj (by rw [hs];exact hE a (List.mem_cons_self ..)) v)
theorem wqw {N:Nat} {E:List Arc} {s:Lab} (hs:s.c.length=N) (hE: ∀ a∈E,a.to<N) {a:Arc} (ha:a∈E) (hf:L s a.fr<far):L (E.foldl rel s) a.to≤L s a.fr+a.cost:=by
  obtain ⟨E1,E2,rfl⟩:=List.append_of_mem ha
  rw [List.foldl_append,List.foldl_cons]
  have h1:=zlj (N:=N) (E:=E1) hs (fun b hb=>hE b (List.mem_append.2 (.inl hb))) a.fr
  have l1:(E1.foldl rel s).c.length=N:=ygj.1.trans hs
  have hat:a.to<(E1.foldl rel s).c.length:=by rw [l1];exact hE a ha
  have h2:=zlj (N:=N) (E:=E2) (s:=rel (E1.foldl rel s) a) (ypv.1.trans l1) (fun b hb=>hE b (List.mem_append.2 (.inr (List.mem_cons_of_mem _ hb)))) a.to
  rw [wuk hat] at h2
  by_cases e:L (E1.foldl rel s) a.fr+a.cost<L (E1.foldl rel s) a.to
  · rw [if_pos ⟨by omega,e,rfl⟩] at h2;omega
  · rw [if_neg fun z=>e z.2.1] at h2;omega
theorem xsq {E:List Arc} {s:Lab}: ∀ n,(sweeps E n s).c.length=s.c.length∧(sweeps E n s).b.length=s.b.length
  | 0=>⟨rfl,rfl⟩
  | n+1=>⟨ygj.1.trans (xsq n).1,ygj.2.trans (xsq n).2⟩

theorem zjx {E sp N C} (hE: ∀ a∈E,a.to<N) (hC: ∀ a∈E,a.cost≤C) (h0:0≤C) {s:Lab} (hs:s.c.length=N) (hsp:L s sp≤0) (hb:C*N<far):
    ∀ {v x l},Path E sp v x l→l.length≤N→ ∀ r,l.length≤r→L (sweeps E r s) v≤x:=by
  have hm: ∀ r v,L (sweeps E (r+1) s) v≤L (sweeps E r s) v:=fun r v=>zlj (N:=N) ((xsq r).1.trans hs) hE v
  have hsp': ∀ r,L (sweeps E r s) sp≤0:=fun r=>by
    induction r with
    | zero=>exact hsp
    | succ r ih=>exact Int.le_trans (hm r sp) ih
  intro v x l P
  induction P with
  | nil=>exact fun _ r _=>hsp' r
  | @cons a x l ha P ih=>
    intro hN r hr
    rw [List.length_cons] at hN hr
    cases r with
    | zero=>omega
    | succ r=>
      have h1:=ih (by omega) r (by omega)
      have h2:=zqv hC P
      have h3:C*(l.length:Int)≤C*N:=Int.mul_le_mul_of_nonneg_left (by omega) h0
      have h4:=wqw (N:=N) ((xsq r).1.trans hs) hE ha (s:=sweeps E r s) (by omega)
      exact Int.le_trans h4 (by omega)

structure Inv (E:List Arc) (sp N:Nat) (s:Lab) (τ:Nat→Nat) (T:Nat):Prop where
  lc:s.c.length=N
  lb:s.b.length=N
  z:L s sp=0
  walk: ∀ v,v<N→L s v<far→ ∃ l,Path E sp v (L s v) l
  top: ∀ v,L s v≤far
  by_: ∀ v,v<N→v≠sp→L s v<far→B s v∈E∧(B s v).to=v∧L s (B s v).fr<far∧L s (B s v).fr+(B s v).cost≤L s v∧(L s (B s v).fr+(B s v).cost=L s v→τ (B s v).fr<τ v)
  clock: ∀ v,τ v<T

theorem Inv.start {E sp N} (hsp:sp<N):Inv E sp N (lab0 N sp) (fun _=>0) 1:=by
  have hL: ∀ v,L (lab0 N sp) v=if v=sp then 0 else far:=fun v=>by
    unfold L lab0
    rw [List.getD_eq_getElem?_getD,List.getElem?_set]
    by_cases e:v=sp
    · subst e;simp [hsp]
    · rw [if_neg (Ne.symm e),if_neg e,List.getElem?_replicate];split <;> rfl
  refine ⟨by simp [lab0],by simp [lab0],by rw [hL,if_pos rfl],fun v hv hf=>?_,fun v=>?_,fun v hv ne hf=>?_,fun v=>by simp⟩
  · by_cases e:v=sp
    · subst e;exact ⟨[],by rw [hL,if_pos rfl];exact .nil⟩
    · rw [hL,if_neg e] at hf;omega
  · rw [hL];split <;> decide
  · rw [hL,if_neg ne] at hf;omega

theorem Inv.step {E sp N π s τ T} (F:Feas E π) (hE: ∀ a∈E,a.fr<N∧a.to<N) (I:Inv E sp N s τ T) {a:Arc} (ha:a∈E): ∃ τ' T',Inv E sp N (rel s a) τ' T':=by
  by_cases e:L s a.fr<far∧L s a.fr+a.cost<L s a.to
  · have ⟨hfr,hto⟩:=hE a ha
    have hLr:=fun v=>wuk (s:=s) (a:=a) (by rw [I.lc];exact hto) v
    have hBr:=fun v=>B_rel (s:=s) (a:=a) (by rw [I.lb];exact hto) v
    obtain ⟨l,P⟩:=I.walk _ hfr e.1
    have hne:a.to≠sp:=fun z=>by
      have h:=yyx F (Path.cons ha P)
      rw [z] at h e
      rw [I.z] at e
      omega
    have hnf:a.fr≠a.to:=fun z=>by
      have h:=F _ ha
      rw [z] at h e
      omega
    have hv:L (rel s a) a.to=L s a.fr+a.cost:=by rw [hLr,if_pos ⟨e.1,e.2,rfl⟩]
    have ho: ∀ w,w≠a.to→L (rel s a) w=L s w:=fun w hw=>by rw [hLr,if_neg fun z=>hw z.2.2.symm]
    have bv:B (rel s a) a.to=a:=by rw [hBr,if_pos ⟨e.1,e.2,rfl⟩]
    have bo: ∀ w,w≠a.to→B (rel s a) w=B s w:=fun w hw=>by rw [hBr,if_neg fun z=>hw z.2.2.symm]
    refine ⟨fun w=>if w=a.to then T else τ w,T+1,ypv.1.trans I.lc,ypv.2.trans I.lb,by rw [ho _ hne.symm];exact I.z,fun w hw hf=>?_,fun w=>?_,fun w hw hn hf=>?_,fun w=>?_⟩
    · by_cases d:w=a.to
      · subst d;rw [hv];exact ⟨_,.cons ha P⟩
      · rw [ho w d] at hf ⊢;exact I.walk w hw hf
    · by_cases d:w=a.to
      · subst d;rw [hv];have:=I.top a.to;omega
      · rw [ho w d];exact I.top w
    · by_cases d:w=a.to
      · subst d
        rw [bv,hv,ho _ hnf]
        refine ⟨ha,rfl,e.1,Int.le_refl _,fun _=>?_⟩
        rw [if_pos rfl,if_neg hnf];exact I.clock _
      · rw [bo w d,ho w d];rw [ho w d] at hf
        obtain ⟨h1,h2,h3,h4,h5⟩:=I.by_ w hw hn hf
        by_cases c:(B s w).fr=a.to
        · rw [c] at h3 h4;rw [c,hv]
          exact ⟨h1,h2,by omega,by omega,fun z=>by omega⟩
        · rw [ho _ c]
          refine ⟨h1,h2,h3,h4,fun z=>?_⟩
          rw [if_neg d,if_neg c];exact h5 z
    · have:=I.clock w;split <;> omega
  · refine ⟨τ,T,?_⟩
    rw [show rel s a=s from if_neg e];exact I

theorem Inv.fold {E sp N π} (F:Feas E π) (hE: ∀ a∈E,a.fr<N∧a.to<N): ∀ {E':List Arc} {s:Lab} {τ:Nat→Nat} {T:Nat},(∀ a∈E',a∈E)→Inv E sp N s τ T→ ∃ τ' T',Inv E sp N (E'.foldl rel s) τ' T'
  | [],s,τ,T,_,I=>⟨τ,T,I⟩
  | a::E',s,τ,T,h,I=>by
    obtain ⟨τ',T',I'⟩:=I.step F hE (h a (List.mem_cons_self ..))
    rw [List.foldl_cons]
    exact Inv.fold F hE (fun b hb=>h b (List.mem_cons_of_mem _ hb)) I'
theorem Inv.sweeps {E sp N π} (F:Feas E π) (hE: ∀ a∈E,a.fr<N∧a.to<N) {s τ T} (I:Inv E sp N s τ T): ∀ n,∃ τ' T',Inv E sp N (sweeps E n s) τ' T'
  | 0=>⟨τ,T,I⟩
  | n+1=>by obtain ⟨_,_,J⟩:=Inv.sweeps F hE I n;exact Inv.fold F hE (fun _ h=>h) J

inductive Chain (s:Lab) (sp:Nat):Nat→List Arc→Prop
  | nil:Chain s sp sp []
  | cons {v p}:v≠sp→Chain s sp (B s v).fr p→Chain s sp v (B s v::p)

theorem vfz {E sp N C π} (F:Feas E π) (hsp:sp<N) (hE: ∀ a∈E,a.fr<N∧a.to<N) (hC: ∀ a∈E,a.cost≤C) (h0:0≤C) (hb:C*N<far) {s:Lab} (hs:s=sweeps E N (lab0 N sp)):
    L s sp=0∧(∀ v,L s v≤far)∧(∀ a∈E,L s a.fr<far→L s a.to<far∧L s a.to≤L s a.fr+a.cost)∧
    (∀ v,v<N→L s v<far→ ∃ p,Chain s sp v p∧Path E sp v (L s v) p∧(sp::p.map Arc.to).Nodup∧ ∀ a∈p,a∈E∧L s a.fr+a.cost=L s a.to∧L s a.fr<far):=by
  obtain ⟨τ,T,I⟩:=(Inv.start (E:=E) hsp).sweeps F hE N
  rw [← hs] at I
  have I0:=Inv.start (E:=E) (N:=N) hsp
  have hP:=@zjx E sp N C (fun a h=>(hE a h).2) hC h0 (lab0 N sp) I0.lc (by rw [I0.z];exact Int.le_refl _) hb
  have hmin: ∀ {v x l},Path E sp v x l→L s v≤x∧L s v<far:=fun P=>by
    obtain ⟨x',l',Q,hx,hl⟩:=zxk F hsp hE P
    have h:=hP Q (by omega) N (by omega)
    rw [← hs] at h
    have h2:=zqv hC Q
    have h3:C*(l'.length:Int)≤C*N:=Int.mul_le_mul_of_nonneg_left (by omega) h0
    exact ⟨by omega,by omega⟩
  have hclosed: ∀ a∈E,L s a.fr<far→L s a.to<far∧L s a.to≤L s a.fr+a.cost:=fun a ha hf=>by
    obtain ⟨l,P⟩:=I.walk _ (hE a ha).1 hf
    have:=hmin (.cons ha P)
    exact ⟨this.2,this.1⟩
  refine ⟨I.z,I.top,hclosed,?_⟩
  have hlow: ∀ v,v<N→L s v<far→0≤L s v-π v+π sp:=fun v hv hf=>by
    obtain ⟨l,P⟩:=I.walk _ hv hf
    have:=yyx F P;omega
  have key: ∀ n v,v<N→L s v<far→(L s v-π v+π sp).toNat*T+τ v=n→ ∃ p,Chain s sp v p∧Path E sp v (L s v) p∧(sp::p.map Arc.to).Nodup∧(∀ a∈p,a∈E∧L s a.fr+a.cost=L s a.to∧L s a.fr<far)∧
      ∀ u∈p.map Arc.to,(L s u-π u+π sp).toNat*T+τ u≤n:=by
    intro n
    induction n using Nat.strongRecOn with
    | _ n ih=>
      intro v hv hf hn
      by_cases e:v=sp
      · subst e;exact ⟨[],.nil,by rw [I.z];exact .nil,by simp,by simp,by simp⟩
      · obtain ⟨h1,h2,h3,h4,h5⟩:=I.by_ v hv e hf
        have hc:=hclosed _ h1 h3
        rw [h2] at hc
        have hF:=F _ h1
        rw [h2] at hF
        have hu:=(hE _ h1).1
        have hlo:=hlow _ hu h3
        have hlt:(L s (B s v).fr-π (B s v).fr+π sp).toNat*T+τ (B s v).fr<n:=by
          have t1:=I.clock (B s v).fr
          have t2:=I.clock v
          have t3:=h5 (by omega)
          have le:(L s (B s v).fr-π (B s v).fr+π sp).toNat≤(L s v-π v+π sp).toNat:=by omega
          have:=Nat.mul_le_mul_right T le
          omega
        obtain ⟨p,hp,hq,hd,ht,hr⟩:=ih _ hlt _ hu h3 rfl
        have hq':=Path.cons h1 hq
        rw [h2,show L s (B s v).fr+(B s v).cost=L s v by omega] at hq'
        refine ⟨B s v::p,.cons e hp,hq',?_,fun a ha=>?_,fun u hm=>?_⟩
        · rw [List.nodup_cons] at hd ⊢
          rw [List.map_cons,List.nodup_cons,List.mem_cons,h2]
          refine ⟨fun z=>z.elim (fun z=>e z.symm) hd.1,fun z=>?_,hd.2⟩
          have:=hr v z
          omega
        · rcases List.mem_cons.1 ha with rfl | ha
          · exact ⟨h1,by rw [h2];omega,h3⟩
          · exact ht a ha
        · rw [List.map_cons,List.mem_cons,h2] at hm
          rcases hm with rfl | hm
          · omega
          · have:=hr u hm;omega
  intro v hv hf
  obtain ⟨p,h1,h2,h3,h4,_⟩:=key _ v hv hf rfl
  exact ⟨p,h1,h2,h3,h4⟩

theorem wdx {s:Lab} {a:Arc} {K C:Int} (h:a.to<s.c.length) (hc: -C≤a.cost∧a.cost≤C) (hK: ∀ v,L s v<far→ -K≤L s v∧L s v≤K): ∀ v,L (rel s a) v<far→ -(K+C)≤L (rel s a) v∧L (rel s a) v≤K+C:=by
  intro v hf
  rw [wuk h] at hf ⊢
  by_cases d:L s a.fr<far∧L s a.fr+a.cost<L s a.to∧a.to=v
  · rw [if_pos d];have:=hK _ d.1;omega
  · rw [if_neg d] at hf ⊢;have:=hK _ hf;omega

end Go.X.Bf
namespace Go.X.Flow
open Go.X.Bf

structure Tn where
  hs:List Int
  ws:List Int
  wy:List (Int × Int)
structure Wi where
  house:Int
  well:Int
  sign:Int
def none0:Wi:=⟨-1,-1,0⟩

def sm:Nat→(Nat→Int)→Int
  | 0,_=>0
  | k+1,f=>sm k f+f k
theorem xhw {f g:Nat→Int}: ∀ {k},(∀ i,i<k→f i=g i)→sm k f=sm k g
  | 0,_=>rfl
  | k+1,h=>by rw [sm,sm,xhw fun i hi=>h i (by omega),h k (by omega)]
theorem yij {f g:Nat→Int}: ∀ {k},(∀ i,i<k→f i≤g i)→sm k f≤sm k g
  | 0,_=>Int.le_refl _
  | k+1,h=>by have:=yij (k:=k) fun i hi=>h i (by omega);have:=h k (by omega);simp only [sm];omega
theorem xyj (f g:Nat→Int): ∀ k,sm k (fun i=>f i+g i)=sm k f+sm k g
  | 0=>rfl
  | k+1=>by simp only [sm];rw [xyj f g k];omega
theorem yak (f g:Nat→Int): ∀ k,sm k (fun i=>f i-g i)=sm k f-sm k g
  | 0=>rfl
  | k+1=>by simp only [sm];rw [yak f g k];omega
theorem wbj (f:Nat→Int) (c:Int): ∀ k,sm k (fun i=>f i*c)=sm k f*c
  | 0=>by simp [sm]
  | k+1=>by simp only [sm];rw [wbj f c k,Int.add_mul]
theorem xtk: ∀ k,sm k (fun _=>0)=0
  | 0=>rfl
  | k+1=>by rw [sm,xtk k];rfl
theorem xsk {f:Nat→Int} {k} (h: ∀ i,i<k→0≤f i):0≤sm k f:=by rw [← xtk k];exact yij h
theorem zdx {k j:Nat} (c:Nat→Int) (h:j<k):sm k (fun i=>if j=i then c i else 0)=c j:=by
  induction k with
  | zero=>omega
  | succ k ih=>
    rw [sm]
    by_cases e:j=k
    · subst e
      rw [if_pos rfl,xhw (g:=fun _=>0) (fun i hi=>if_neg (by omega)),xtk];omega
    · rw [if_neg e,ih (by omega)];omega
theorem zpj {f:Nat→Int} {k j:Nat} (h0: ∀ i,i<k→0≤f i) (h:j<k):f j≤sm k f:=by
  induction k with
  | zero=>omega
  | succ k ih=>
    rw [sm]
    have:=xsk (k:=k) fun i hi=>h0 i (by omega)
    by_cases e:j=k
    · subst e;omega
    · have:=ih (fun i hi=>h0 i (by omega)) (by omega);have:=h0 k (by omega);omega

namespace Tn
variable (t:Tn)
def nH:=t.hs.length
def nW:=t.ws.length
def m:=t.wy.length
def hv (h:Nat):Int:=t.hs.getD h 0
def wv (w:Nat):Int:=t.ws.getD w 0
def wh (i:Nat):Nat:=(t.wy.getD i (0,0)).1.toNat
def ww (i:Nat):Nat:=(t.wy.getD i (0,0)).2.toNat
def sp:=t.nW+t.nH
def si:=t.nW+t.nH+1
end Tn
def dv (d:List Int) (i:Nat):Int:=d.getD i 0
def draw (t:Tn) (d:List Int) (h:Nat):Int:=sm t.m fun i=>if t.wh i=h then dv d i else 0
def give (t:Tn) (d:List Int) (w:Nat):Int:=sm t.m fun i=>if t.ww i=w then dv d i else 0
def lack (t:Tn) (d:List Int) (h:Nat):Int:=t.hv h-draw t d h
def has (t:Tn) (d:List Int) (w:Nat):Int:=t.wv w-give t d w
def tot (t:Tn) (d:List Int):Int:=sm t.m (dv d)

structure Ok (t:Tn):Prop where
  nh:t.nH≤6
  nw:t.nW≤5
  nm:t.m≤13
  h: ∀ h,h<t.nH→0≤t.hv h∧t.hv h≤9
  w: ∀ w,w<t.nW→0≤t.wv w∧t.wv w≤21
  y: ∀ i,i<t.m→t.wh i<t.nH∧t.ww i<t.nW
structure Div (t:Tn) (d:List Int):Prop where
  len:d.length=t.m
  pos: ∀ i,i<t.m→0≤dv d i
  hs: ∀ h,h<t.nH→draw t d h≤t.hv h
  ws: ∀ w,w<t.nW→give t d w≤t.wv w

theorem xtw {t d} (D:Div t d) (h:Nat):0≤draw t d h:=xsk fun i hi=>by split;exact D.pos i hi;exact Int.le_refl _
theorem yeq {t d} (D:Div t d) (w:Nat):0≤give t d w:=xsk fun i hi=>by split;exact D.pos i hi;exact Int.le_refl _

theorem ywz (f:Nat→Int) (g:Nat→Nat) (v:Nat→Int) {n:Nat}: ∀ {k},(∀ i,i<k→g i<n)→sm n (fun h=>sm k (fun i=>if g i=h then v i else 0)*f h)=sm k (fun i=>v i*f (g i))
  | 0,_=>by simp only [sm,Int.zero_mul];exact xtk n
  | k+1,hg=>by
    simp only [sm]
    rw [xhw (g:=fun h=>sm k (fun i=>if g i=h then v i else 0)*f h+(if g k=h then v k*f h else 0)) (fun h _=>by rw [Int.add_mul];split <;> simp),xyj,ywz f g v fun i hi=>hg i (by omega)]
    rw [zdx (fun h=>v k*f h) (hg k (by omega))]
theorem yfz {t d} (hy: ∀ i,i<t.m→t.wh i<t.nH) (f:Nat→Int):sm t.nH (fun h=>draw t d h*f h)=sm t.m (fun i=>dv d i*f (t.wh i)):=ywz f t.wh (dv d) hy
theorem ymx {t d} (hy: ∀ i,i<t.m→t.ww i<t.nW) (f:Nat→Int):sm t.nW (fun w=>give t d w*f w)=sm t.m (fun i=>dv d i*f (t.ww i)):=ywz f t.ww (dv d) hy
theorem yfx {t d} (hy: ∀ i,i<t.m→t.wh i<t.nH):sm t.nH (draw t d)=tot t d:=by
  have:=yfz (d:=d) hy (fun _=>1)
  simp only [Int.mul_one] at this;exact this
def dear (n:Nat):Int:=1000*7 ^ n
theorem xpx (n:Nat):dear (n+1)=7*dear n:=by simp only [dear,Int.pow_succ];omega
theorem xnq (n:Nat):1000≤dear n:=by
  induction n with
  | zero=>decide
  | succ n ih=>rw [xpx];omega
theorem xqj {a b:Nat} (h:a≤b):dear a≤dear b:=by
  induction h with
  | refl=>exact Int.le_refl _
  | @step b _ ih=>rw [xpx];have:=xnq b;omega
def gap (z:Int):Int:=if 2≤z∨z≤ -2 then 36000 else 0
theorem wkq (n:Nat): ∀ k:Nat,(k:Int)*(dear (n+1)-dear n)+gap k≤dear (n+k)-dear n
  | 0=>by simp [gap]
  | 1=>by simp [gap]
  | k+2=>by
    have hg:gap (k+2:Nat)=36000:=by unfold gap;rw [if_pos (by omega)]
    have ih:=wkq n (k+1)
    have h1:n+(k+2)=(n+(k+1))+1:=by omega
    rw [hg,h1,xpx (n+(k+1))]
    have h2:=xqj (show n+1≤n+(k+1) by omega)
    have h3:=xnq n
    rw [xpx] at h2 ih ⊢
    have e:((k+2:Nat):Int)*(7*dear n-dear n)=((k+1:Nat):Int)*(7*dear n-dear n)+(7*dear n-dear n):=by
      rw [show ((k+2:Nat):Int)=((k+1:Nat):Int)+1 by omega,Int.add_mul,Int.one_mul]
    rw [e]
    have:0≤gap ((k+1:Nat):Int):=by unfold gap;split <;> omega
    omega
theorem zhv (n:Nat): ∀ k:Nat,dear (n+k)-dear n+gap k≤(k:Int)*(dear (n+k)-dear (n+k-1))
  | 0=>by simp [gap]
  | 1=>by simp [gap]
  | k+2=>by
    have hg:gap (k+2:Nat)=36000:=by unfold gap;rw [if_pos (by omega)]
    have ih:=zhv n (k+1)
    have e1:n+(k+2)-1=n+(k+1):=by omega
    have e2:n+(k+1)-1=n+k:=by omega
    have e3:n+(k+2)=(n+k)+1+1:=by omega
    rw [e2] at ih
    rw [hg,e1,e3,xpx,show n+(k+1)=(n+k)+1 from rfl,xpx]
    rw [show n+(k+1)=(n+k)+1 from rfl,xpx] at ih
    have h1:=xnq (n+k)
    have:0≤gap ((k+1:Nat):Int):=by unfold gap;split <;> omega
    have e:((k+2:Nat):Int)*(7*(7*dear (n+k))-7*dear (n+k))=7*(((k+1:Nat):Int)*(7*dear (n+k)-dear (n+k)))+42*dear (n+k):=by
      rw [show ((k+2:Nat):Int)=((k+1:Nat):Int)+1 by omega,Int.add_mul,Int.one_mul,show 7*(7*dear (n+k))-7*dear (n+k)=7*(7*dear (n+k)-dear (n+k)) by omega,Int.mul_left_comm]
      omega
    rw [e]
    have h2:((k+1:Nat):Int)*(7*dear (n+k)-dear (n+k))≥7*dear (n+k)-dear n:=by omega
    have h3:=xqj (show n≤n+k by omega)
    omega

def bh (w:Wi) (h:Nat):Int:=if (h:Int)=w.house then w.sign else 0
def bw (w:Wi) (x:Nat):Int:=if (x:Int)=w.well then w.sign else 0
def F (t:Tn) (w:Wi) (d:List Int):Int:=sm t.nH (fun h=>dear (lack t d h).toNat-draw t d h*bh w h)-sm t.nW (fun x=>give t d x*bw w x)

structure Cert (t:Tn) (w:Wi) (d:List Int) (π:Nat→Int):Prop where
  f1: ∀ x,x<t.nW→0<has t d x→π x≤π t.sp-bw w x
  f2: ∀ x,x<t.nW→has t d x<t.wv x→π t.sp≤π x+bw w x
  f3: ∀ h,h<t.nH→0<lack t d h→π t.si≤π (t.nW+h)+(dear ((lack t d h).toNat-1)-dear (lack t d h).toNat-bh w h)
  f4: ∀ h,h<t.nH→lack t d h<t.hv h→π (t.nW+h)≤π t.si+(dear ((lack t d h).toNat+1)-dear (lack t d h).toNat+bh w h)
  f5: ∀ i,i<t.m→π (t.nW+t.wh i)≤π (t.ww i)
  f6: ∀ i,i<t.m→0<dv d i→π (t.ww i)≤π (t.nW+t.wh i)

theorem Cert.le {t w d π d'} (hy: ∀ i,i<t.m→t.wh i<t.nH∧t.ww i<t.nW) (D:Div t d) (D':Div t d') (C:Cert t w d π):
    (tot t d'-tot t d)*(π t.si-π t.sp)+sm t.nH (fun h=>gap (lack t d' h-lack t d h))≤F t w d'-F t w d:=by
  have hH: ∀ h,h<t.nH→(draw t d' h-draw t d h)*(π t.si-π (t.nW+h))+gap (lack t d' h-lack t d h)≤(dear (lack t d' h).toNat-draw t d' h*bh w h)-(dear (lack t d h).toNat-draw t d h*bh w h):=fun h hh=>by
    have p1:=D.hs h hh;have p2:=D'.hs h hh;have q1:=xtw D h;have q2:=xtw D' h
    have el:lack t d h=t.hv h-draw t d h:=rfl
    have el':lack t d' h=t.hv h-draw t d' h:=rfl
    have eb:draw t d' h*bh w h-draw t d h*bh w h=(draw t d' h-draw t d h)*bh w h:=by rw [Int.sub_mul]
    by_cases c:draw t d h<draw t d' h
    · have f:=C.f3 h hh (by omega)
      obtain ⟨k,hk⟩: ∃ k:Nat,draw t d' h-draw t d h=k:=⟨(draw t d' h-draw t d h).toNat,by omega⟩
      obtain ⟨n,hn⟩: ∃ n:Nat,lack t d' h=n:=⟨(lack t d' h).toNat,by omega⟩
      have hn':(lack t d h).toNat=n+k:=by omega
      have hm:=zhv n k
      have ek:lack t d' h-lack t d h= -(k:Int):=by omega
      have eg:gap (-(k:Int))=gap k:=by unfold gap;by_cases z:2≤(k:Int);rw [if_pos (by omega),if_pos (by omega)];rw [if_neg (by omega),if_neg (by omega)]
      rw [hn'] at f ⊢
      rw [ek,eg,show (lack t d' h).toNat=n by omega,hk]
      rw [hk] at eb
      have hf:=Int.mul_le_mul_of_nonneg_left (a:=π t.si-π (t.nW+h)) (b:=dear (n+k-1)-dear (n+k)-bh w h) (c:=(k:Int)) (by omega) (by omega)
      have e1:(k:Int)*(dear (n+k-1)-dear (n+k)-bh w h)= -((k:Int)*(dear (n+k)-dear (n+k-1)))-(k:Int)*bh w h:=by rw [Int.mul_sub,Int.mul_sub,Int.mul_sub];omega
      omega
    · by_cases c2:draw t d' h<draw t d h
      · have f:=C.f4 h hh (by omega)
        obtain ⟨k,hk⟩: ∃ k:Nat,draw t d h-draw t d' h=k:=⟨(draw t d h-draw t d' h).toNat,by omega⟩
        obtain ⟨n,hn⟩: ∃ n:Nat,lack t d h=n:=⟨(lack t d h).toNat,by omega⟩
        have hn':(lack t d' h).toNat=n+k:=by omega
        have hm:=wkq n k
        have ek:lack t d' h-lack t d h=(k:Int):=by omega
        rw [show (lack t d h).toNat=n by omega] at f ⊢
        have ek2:draw t d' h-draw t d h= -(k:Int):=by omega
        rw [ek,hn',ek2,Int.neg_mul]
        rw [ek2,Int.neg_mul] at eb
        have hf:=Int.mul_le_mul_of_nonneg_left (a:=π (t.nW+h)-π t.si) (b:=dear (n+1)-dear n+bh w h) (c:=(k:Int)) (by omega) (by omega)
        have e1:(k:Int)*(dear (n+1)-dear n+bh w h)=(k:Int)*(dear (n+1)-dear n)+(k:Int)*bh w h:=by rw [Int.mul_add]
        have e2:(k:Int)*(π (t.nW+h)-π t.si)= -((k:Int)*(π t.si-π (t.nW+h))):=by rw [← Int.mul_neg];congr 1;omega
        omega
      · have e:draw t d' h=draw t d h:=by omega
        have e':lack t d' h=lack t d h:=by omega
        rw [e,e',Int.sub_self,Int.sub_self,Int.zero_mul];simp [gap]
  have hW: ∀ x,x<t.nW→(give t d' x-give t d x)*(π x-π t.sp)≤ -(give t d' x*bw w x-give t d x*bw w x):=fun x hx=>by
    have p1:=D.ws x hx;have p2:=D'.ws x hx;have q1:=yeq D x;have q2:=yeq D' x
    have el:has t d x=t.wv x-give t d x:=rfl
    have eb: -(give t d' x*bw w x-give t d x*bw w x)=(give t d' x-give t d x)*(-bw w x):=by rw [Int.mul_neg,Int.sub_mul]
    rw [eb]
    by_cases c:give t d x<give t d' x
    · have f:=C.f1 x hx (by omega)
      exact Int.mul_le_mul_of_nonneg_left (by omega) (by omega)
    · by_cases c2:give t d' x<give t d x
      · have f:=C.f2 x hx (by omega)
        have:=Int.mul_le_mul_of_nonneg_left (a:=π t.sp-π x) (b:=bw w x) (c:=give t d x-give t d' x) (by omega) (by omega)
        have e1:(give t d' x-give t d x)*(π x-π t.sp)=(give t d x-give t d' x)*(π t.sp-π x):=by
          rw [show give t d' x-give t d x= -(give t d x-give t d' x) by omega,show π x-π t.sp= -(π t.sp-π x) by omega,Int.neg_mul_neg]
        have e2:(give t d' x-give t d x)* -bw w x=(give t d x-give t d' x)*bw w x:=by
          rw [show give t d' x-give t d x= -(give t d x-give t d' x) by omega,Int.neg_mul_neg]
        rw [e1,e2];exact this
      · have e:give t d' x=give t d x:=by omega
        rw [e,Int.sub_self,Int.zero_mul,Int.zero_mul];exact Int.le_refl _
  have hM: ∀ i,i<t.m→(dv d' i-dv d i)*(π (t.nW+t.wh i)-π (t.ww i))≤0:=fun i hi=>by
    have q1:=D.pos i hi;have q2:=D'.pos i hi
    have f5:=C.f5 i hi
    by_cases c:dv d i≤dv d' i
    · have:=Int.mul_le_mul_of_nonneg_left (a:=π (t.nW+t.wh i)-π (t.ww i)) (b:=0) (c:=dv d' i-dv d i) (by omega) (by omega)
      rw [Int.mul_zero] at this;exact this
    · have f6:=C.f6 i hi (by omega)
      have:π (t.nW+t.wh i)-π (t.ww i)=0:=by omega
      rw [this,Int.mul_zero];exact Int.le_refl _
  have sH:=yij hH
  have sW:=yij hW
  have sM:=yij hM
  rw [xtk] at sM
  rw [xyj,yak (fun h=>dear (lack t d' h).toNat-draw t d' h*bh w h)] at sH
  have eW:sm t.nW (fun x=>-(give t d' x*bw w x-give t d x*bw w x))= -(sm t.nW (fun x=>give t d' x*bw w x)-sm t.nW (fun x=>give t d x*bw w x)):=by
    rw [← yak]
    have:=wbj (fun x=>give t d' x*bw w x-give t d x*bw w x) (-1) t.nW
    rw [Int.mul_neg_one] at this
    rw [← this];exact xhw fun i _=>by rw [Int.mul_neg_one]
  rw [eW] at sW
  have a1:sm t.nH (fun h=>(draw t d' h-draw t d h)*(π t.si-π (t.nW+h)))=sm t.m (fun i=>(dv d' i-dv d i)*(π t.si-π (t.nW+t.wh i))):=by
    rw [xhw (g:=fun h=>draw t d' h*(π t.si-π (t.nW+h))-draw t d h*(π t.si-π (t.nW+h))) (fun i _=>Int.sub_mul ..),yak,yfz (fun i hi=>(hy i hi).1) (fun h=>π t.si-π (t.nW+h)),yfz (fun i hi=>(hy i hi).1) (fun h=>π t.si-π (t.nW+h)),← yak]
    exact xhw fun i _=>(Int.sub_mul ..).symm
  have a2:sm t.nW (fun x=>(give t d' x-give t d x)*(π x-π t.sp))=sm t.m (fun i=>(dv d' i-dv d i)*(π (t.ww i)-π t.sp)):=by
    rw [xhw (g:=fun x=>give t d' x*(π x-π t.sp)-give t d x*(π x-π t.sp)) (fun i _=>Int.sub_mul ..),yak,ymx (fun i hi=>(hy i hi).2) (fun x=>π x-π t.sp),ymx (fun i hi=>(hy i hi).2) (fun x=>π x-π t.sp),← yak]
    exact xhw fun i _=>(Int.sub_mul ..).symm
  have a3:(tot t d'-tot t d)*(π t.si-π t.sp)=sm t.m (fun i=>(dv d' i-dv d i)*(π t.si-π (t.nW+t.wh i)))+sm t.m (fun i=>(dv d' i-dv d i)*(π (t.nW+t.wh i)-π (t.ww i)))+sm t.m (fun i=>(dv d' i-dv d i)*(π (t.ww i)-π t.sp)):=by
    rw [← xyj,← xyj,tot,tot,← yak,← wbj]
    exact xhw fun i _=>by rw [← Int.mul_add,← Int.mul_add];congr 1;omega
  unfold F
  omega

end Go.X.Flow
namespace Go.X.Flow
open Go.X.Bf

def arcsW (t:Tn) (w:Wi) (d:List Int) (x:Nat):List Arc:=
  (if 0<has t d x then [⟨t.sp,x,-bw w x,-1,0⟩] else [])++(if has t d x<t.wv x then [⟨x,t.sp,bw w x,-1,0⟩] else [])
def arcsH (t:Tn) (w:Wi) (d:List Int) (h:Nat):List Arc:=
  (if 0<lack t d h then [⟨t.nW+h,t.si,dear ((lack t d h).toNat-1)-dear (lack t d h).toNat-bh w h,-1,0⟩] else [])++
  (if lack t d h<t.hv h then [⟨t.si,t.nW+h,dear ((lack t d h).toNat+1)-dear (lack t d h).toNat+bh w h,-1,0⟩] else [])
def arcsY (t:Tn) (d:List Int) (i:Nat):List Arc:=
  ⟨t.ww i,t.nW+t.wh i,0,i,1⟩::(if 0<dv d i then [⟨t.nW+t.wh i,t.ww i,0,i,-1⟩] else [])
def arcsL (t:Tn) (w:Wi) (d:List Int):List Arc:=(List.range t.nW).flatMap (arcsW t w d)++((List.range t.nH).flatMap (arcsH t w d)++(List.range t.m).flatMap (arcsY t d))

inductive Kind (t:Tn) (w:Wi) (d:List Int):Arc→Prop
  | k1 {x}:x<t.nW→0<has t d x→Kind t w d ⟨t.sp,x,-bw w x,-1,0⟩
  | k2 {x}:x<t.nW→has t d x<t.wv x→Kind t w d ⟨x,t.sp,bw w x,-1,0⟩
  | k3 {h}:h<t.nH→0<lack t d h→Kind t w d ⟨t.nW+h,t.si,dear ((lack t d h).toNat-1)-dear (lack t d h).toNat-bh w h,-1,0⟩
  | k4 {h}:h<t.nH→lack t d h<t.hv h→Kind t w d ⟨t.si,t.nW+h,dear ((lack t d h).toNat+1)-dear (lack t d h).toNat+bh w h,-1,0⟩
  | k5 {i}:i<t.m→Kind t w d ⟨t.ww i,t.nW+t.wh i,0,i,1⟩
  | k6 {i}:i<t.m→0<dv d i→Kind t w d ⟨t.nW+t.wh i,t.ww i,0,i,-1⟩
theorem xov {t w d a}:a∈arcsL t w d↔Kind t w d a:=by
  constructor
  · intro h
    simp only [arcsL,List.mem_append,List.mem_flatMap,List.mem_range] at h
    rcases h with ⟨x,hx,h⟩ | ⟨x,hx,h⟩ | ⟨i,hi,h⟩
    · simp only [arcsW,List.mem_append] at h
      rcases h with h | h
      · by_cases c:0<has t d x
        · rw [if_pos c,List.mem_singleton] at h;subst h;exact .k1 hx c
        · rw [if_neg c] at h;cases h
      · by_cases c:has t d x<t.wv x
        · rw [if_pos c,List.mem_singleton] at h;subst h;exact .k2 hx c
        · rw [if_neg c] at h;cases h
    · simp only [arcsH,List.mem_append] at h
      rcases h with h | h
      · by_cases c:0<lack t d x
        · rw [if_pos c,List.mem_singleton] at h;subst h;exact .k3 hx c
        · rw [if_neg c] at h;cases h
      · by_cases c:lack t d x<t.hv x
        · rw [if_pos c,List.mem_singleton] at h;subst h;exact .k4 hx c
        · rw [if_neg c] at h;cases h
    · simp only [arcsY,List.mem_cons] at h
      rcases h with rfl | h
      · exact .k5 hi
      · by_cases c:0<dv d i
        · rw [if_pos c,List.mem_singleton] at h;subst h;exact .k6 hi c
        · rw [if_neg c] at h;cases h
  · intro h
    simp only [arcsL,List.mem_append,List.mem_flatMap,List.mem_range]
    cases h with
    | @k1 x hx c=>exact .inl ⟨x,hx,by simp [arcsW,c]⟩
    | @k2 x hx c=>exact .inl ⟨x,hx,by simp [arcsW,c]⟩
    | @k3 x hx c=>exact .inr (.inl ⟨x,hx,by simp [arcsH,c]⟩)
    | @k4 x hx c=>exact .inr (.inl ⟨x,hx,by simp [arcsH,c]⟩)
    | @k5 i hi=>exact .inr (.inr ⟨i,hi,by simp [arcsY]⟩)
    | @k6 i hi c=>exact .inr (.inr ⟨i,hi,by simp [arcsY,c]⟩)
theorem wij {t w d π} (f:Feas (arcsL t w d) π):Cert t w d π where
  f1 x hx c:=by have:=f _ (xov.2 (.k1 hx c));simp only at this;omega
  f2 x hx c:=f _ (xov.2 (.k2 hx c))
  f3 x hx c:=f _ (xov.2 (.k3 hx c))
  f4 x hx c:=f _ (xov.2 (.k4 hx c))
  f5 i hi:=by have:=f _ (xov.2 (.k5 (w:=w) (d:=d) hi));simp only at this;omega
  f6 i hi c:=by have:=f _ (xov.2 (.k6 (w:=w) hi c));simp only at this;omega
theorem ziq {t w d π} (C:Cert t w d π):Feas (arcsL t w d) π:=fun a ha=>by
  cases xov.1 ha with
  | k1 hx c=>have:=C.f1 _ hx c;simp only;omega
  | k2 hx c=>exact C.f2 _ hx c
  | k3 hx c=>exact C.f3 _ hx c
  | k4 hx c=>exact C.f4 _ hx c
  | k5 hi=>have:=C.f5 _ hi;simp only;omega
  | k6 hi c=>have:=C.f6 _ hi c;simp only;omega

def nN (t:Tn):=t.nW+t.nH+2
theorem ycj {t:Tn} {w d} (hy: ∀ i,i<t.m→t.wh i<t.nH∧t.ww i<t.nW): ∀ a∈arcsL t w d,a.fr<nN t∧a.to<nN t:=fun a ha=>by
  simp only [nN]
  cases xov.1 ha with
  | k1 hx c=>exact ⟨by simp only [Tn.sp];omega,by simp only;omega⟩
  | k2 hx c=>exact ⟨by simp only;omega,by simp only [Tn.sp];omega⟩
  | k3 hx c=>exact ⟨by simp only;omega,by simp only [Tn.si];omega⟩
  | k4 hx c=>exact ⟨by simp only [Tn.si];omega,by simp only;omega⟩
  | @k5 i hi=>have:=hy i hi;exact ⟨by simp only;omega,by simp only;omega⟩
  | @k6 i hi c=>have:=hy i hi;exact ⟨by simp only;omega,by simp only;omega⟩
structure Sg (w:Wi):Prop where
  lo: -1≤w.sign
  hi:w.sign≤1
theorem Sg.bh {w} (S:Sg w) (h): -1≤bh w h∧bh w h≤1:=by have:=S.lo;have:=S.hi;unfold Flow.bh;split <;> omega
theorem Sg.bw {w} (S:Sg w) (h): -1≤bw w h∧bw w h≤1:=by have:=S.lo;have:=S.hi;unfold Flow.bw;split <;> omega
def cC:Int:=1000*7 ^ 9+1
theorem yoq {t:Tn} {w d} (O:Ok t) (S:Sg w) (D:Div t d): ∀ a∈arcsL t w d,-cC≤a.cost∧a.cost≤cC:=fun a ha=>by
  have e9:dear 9+1=cC:=rfl
  have h0:=xnq 0
  cases xov.1 ha with
  | @k1 x hx c=>have:=xnq 9;have:=S.bw x;simp only;omega
  | @k2 x hx c=>have:=xnq 9;have:=S.bw x;simp only;omega
  | @k3 h hx c=>
    have hh:=O.h h hx;have dn:=xtw D h;have el:lack t d h=t.hv h-draw t d h:=rfl
    have m1:=xqj (show (lack t d h).toNat≤9 by omega)
    have m2:=xqj (show (lack t d h).toNat-1≤9 by omega)
    have p1:=xnq (lack t d h).toNat;have p2:=xnq ((lack t d h).toNat-1);have:=S.bh h;simp only;omega
  | @k4 h hx c=>
    have hh:=O.h h hx;have dn:=xtw D h;have el:lack t d h=t.hv h-draw t d h:=rfl
    have m1:=xqj (show (lack t d h).toNat≤9 by omega)
    have m2:=xqj (show (lack t d h).toNat+1≤9 by omega)
    have p1:=xnq (lack t d h).toNat;have p2:=xnq ((lack t d h).toNat+1);have:=S.bh h;simp only;omega
  | k5 hi=>have:=xnq 9;simp only;omega
  | k6 hi c=>have:=xnq 9;simp only;omega

def sp_ (f:Arc→Int):List Arc→Int
  | []=>0
  | a::p=>f a+sp_ f p
def is (P:Prop) [Decidable P]:Int:=if P then 1 else 0
theorem xrk (P:Prop) [Decidable P]:0≤is P:=by unfold is;split <;> decide
theorem ymj {f g:Arc→Int}: ∀ {p},(∀ a∈p,f a=g a)→sp_ f p=sp_ g p
  | [],_=>rfl
  | a::p,h=>by rw [sp_,sp_,h a (List.mem_cons_self ..),ymj fun b hb=>h b (List.mem_cons_of_mem _ hb)]
theorem zvk {f g:Arc→Int}: ∀ {p},(∀ a∈p,f a≤g a)→sp_ f p≤sp_ g p
  | [],_=>Int.le_refl _
  | a::p,h=>by have:=h a (List.mem_cons_self ..);have:=zvk fun b hb=>h b (List.mem_cons_of_mem _ hb);simp only [sp_];omega
theorem zdq (f g:Arc→Int): ∀ p,sp_ (fun a=>f a+g a) p=sp_ f p+sp_ g p
  | []=>rfl
  | a::p=>by simp only [sp_];rw [zdq f g p];omega
theorem zpz (f g:Arc→Int): ∀ p,sp_ (fun a=>f a-g a) p=sp_ f p-sp_ g p
  | []=>rfl
  | a::p=>by simp only [sp_];rw [zpz f g p];omega
theorem zjj (f:Arc→Int) (c:Int): ∀ p,sp_ (fun a=>c*f a) p=c*sp_ f p
  | []=>by simp [sp_]
  | a::p=>by simp only [sp_];rw [zjj f c p,Int.mul_add]
theorem xrz {f:Arc→Int} {p} (h: ∀ a∈p,0≤f a):0≤sp_ f p:=by
  have:=zvk (f:=fun _=>0) h
  have z: ∀ p,sp_ (fun _=>0) p=0:=fun p=>by induction p with | nil=>rfl | cons a p ih=>rw [sp_,ih];rfl
  rw [z] at this;exact this
theorem zvv {f:Arc→Int}: ∀ {p},0<sp_ f p→ ∃ a∈p,0<f a
  | [],h=>absurd h (by simp [sp_])
  | a::p,h=>by
    by_cases c:0<f a
    · exact ⟨a,List.mem_cons_self ..,c⟩
    · obtain ⟨b,hb,hc⟩:=zvv (f:=f) (p:=p) (by simp only [sp_] at h;omega);exact ⟨b,List.mem_cons_of_mem _ hb,hc⟩
theorem zgx {P:Prop} [Decidable P] (h:0<is P):P:=by unfold is at h;split at h;assumption;omega
def toN (x:Nat) (p:List Arc):Int:=sp_ (fun a=>is (a.to=x)) p
def frN (x:Nat) (p:List Arc):Int:=sp_ (fun a=>is (a.fr=x)) p
theorem bal {E sp v c p} (P:Path E sp v c p) (x:Nat):toN x p+is (x=sp)=frN x p+is (x=v):=by
  induction P with
  | nil=>rfl
  | @cons a c l _ _ ih=>
    have e1:toN x (a::l)=is (a.to=x)+toN x l:=rfl
    have e2:frN x (a::l)=is (a.fr=x)+frN x l:=rfl
    have e3:is (x=a.fr)=is (a.fr=x):=by unfold is;by_cases z:x=a.fr;rw [if_pos z,if_pos z.symm];rw [if_neg z,if_neg (Ne.symm z)]
    have e4:is (x=a.to)=is (a.to=x):=by unfold is;by_cases z:x=a.to;rw [if_pos z,if_pos z.symm];rw [if_neg z,if_neg (Ne.symm z)]
    omega
theorem ytz {x:Nat}: ∀ {p:List Arc},(p.map Arc.to).Nodup→toN x p≤1∧(x ∉ p.map Arc.to→toN x p=0)
  | [],_=>⟨by simp [toN,sp_],fun _=>rfl⟩
  | a::p,h=>by
    rw [List.map_cons,List.nodup_cons] at h
    have ih:=ytz (x:=x) h.2
    have e1:toN x (a::p)=is (a.to=x)+toN x p:=rfl
    by_cases c:a.to=x
    · have:=ih.2 (c ▸ h.1)
      have:is (a.to=x)=1:=if_pos c
      exact ⟨by omega,fun z=>absurd (List.mem_cons.2 (.inl c.symm)) (by rw [List.map_cons] at z;exact z)⟩
    · have:is (a.to=x)=0:=if_neg c
      exact ⟨by omega,fun z=>by have:=ih.2 (fun y=>z (by rw [List.map_cons];exact List.mem_cons_of_mem _ y));omega⟩
theorem wek {E sp v c p} (P:Path E sp v c p):c=sp_ Arc.cost p:=by
  induction P with
  | nil=>rfl
  | cons _ _ ih=>rw [sp_];omega
theorem zqw {E sp v c p} (P:Path E sp v c p): ∀ a∈p,a∈E:=by
  induction P with
  | nil=>exact fun a h=>absurd h (by simp)
  | cons ha _ ih=>exact fun a h=>(List.mem_cons.1 h).elim (fun e=>e ▸ ha) (ih a)

def aug (d:List Int) (p:List Arc):List Int:=p.foldl (fun d a=>if 0≤a.way then d.set a.way.toNat (dv d a.way.toNat+a.more) else d) d
def dl (i:Nat) (p:List Arc):Int:=sp_ (fun a=>if a.way=(i:Int) then a.more else 0) p
theorem aug_len: ∀ {p:List Arc} {d:List Int},(aug d p).length=d.length
  | [],_=>rfl
  | a::p,d=>by
    have:=aug_len (p:=p) (d:=if 0≤a.way then d.set a.way.toNat (dv d a.way.toNat+a.more) else d)
    rw [show aug d (a::p)=aug (if 0≤a.way then d.set a.way.toNat (dv d a.way.toNat+a.more) else d) p from rfl,this]
    split <;> simp
theorem wwk {d:List Int} {j:Nat} {x:Int} (h:j<d.length) (i:Nat):dv (d.set j x) i=if j=i then x else dv d i:=by
  unfold dv
  rw [List.getD_eq_getElem?_getD,List.getElem?_set,List.getD_eq_getElem?_getD]
  by_cases e:j=i
  · rw [if_pos e,if_pos e,if_pos h];rfl
  · rw [if_neg e,if_neg e]
theorem wjj {i:Nat}: ∀ {p:List Arc} {d:List Int},(∀ a∈p,a.way<(d.length:Int))→dv (aug d p) i=dv d i+dl i p
  | [],d,_=>by simp [aug,dl,sp_]
  | a::p,d,h=>by
    have e:aug d (a::p)=aug (if 0≤a.way then d.set a.way.toNat (dv d a.way.toNat+a.more) else d) p:=rfl
    have e2:dl i (a::p)=(if a.way=(i:Int) then a.more else 0)+dl i p:=rfl
    have ha:=h a (List.mem_cons_self ..)
    rw [e,e2]
    by_cases c:0≤a.way
    · rw [if_pos c,wjj (fun b hb=>by rw [List.length_set];exact h b (List.mem_cons_of_mem _ hb)),wwk (by omega)]
      by_cases z:a.way=(i:Int)
      · rw [if_pos (show a.way.toNat=i by omega),if_pos z,show a.way.toNat=i by omega];omega
      · rw [if_neg (show ¬ a.way.toNat=i by omega),if_neg z];omega
    · rw [if_neg c,wjj (fun b hb=>h b (List.mem_cons_of_mem _ hb)),if_neg (show ¬ a.way=(i:Int) by omega)];omega

theorem ypx (g:Nat→Nat) (x m:Nat): ∀ {p:List Arc},(∀ a∈p,a.way<(m:Int))→sm m (fun i=>if g i=x then dl i p else 0)=sp_ (fun a=>if 0≤a.way∧g a.way.toNat=x then a.more else 0) p
  | [],_=>by
    rw [xhw (g:=fun _=>0) (fun i _=>by split <;> rfl),xtk];rfl
  | a::p,h=>by
    have e: ∀ i,(if g i=x then dl i (a::p) else 0)=(if a.way.toNat=i then (if 0≤a.way∧g a.way.toNat=x then a.more else 0) else 0)+(if g i=x then dl i p else 0):=fun i=>by
      have e2:dl i (a::p)=(if a.way=(i:Int) then a.more else 0)+dl i p:=rfl
      rw [e2]
      by_cases c:g i=x
      · rw [if_pos c,if_pos c]
        by_cases z:a.way=(i:Int)
        · have:a.way.toNat=i:=by omega
          rw [if_pos z,if_pos this,if_pos ⟨by omega,by rw [this];exact c⟩]
        · rw [if_neg z]
          by_cases z2:a.way.toNat=i
          · rw [if_pos z2,if_neg (by omega)]
          · rw [if_neg z2]
      · rw [if_neg c,if_neg c]
        by_cases z2:a.way.toNat=i
        · rw [if_pos z2,if_neg (fun y=>c (by rw [← z2];exact y.2))];omega
        · rw [if_neg z2];omega
    have ha:=h a (List.mem_cons_self ..)
    rw [xhw (fun i _=>e i),xyj,ypx g x m fun b hb=>h b (List.mem_cons_of_mem _ hb)]
    simp only [sp_]
    congr 1
    by_cases c:0≤a.way
    · rw [zdx (fun _=>if 0≤a.way∧g a.way.toNat=x then a.more else 0) (by omega)]
    · rw [xhw (g:=fun _=>0) (fun i _=>by rw [if_neg (show ¬ (0≤a.way∧g a.way.toNat=x) from fun z=>c z.1)];split <;> rfl),xtk,if_neg (fun z=>c z.1)]

theorem Kind.eqs {t w d a} (K:Kind t w d a):
    (∃ x,x<t.nW∧0<has t d x∧a.fr=t.sp∧a.to=x∧a.cost= -bw w x∧a.way= -1∧a.more=0)∨
    (∃ x,x<t.nW∧a.fr=x∧a.to=t.sp∧a.way= -1∧a.more=0)∨
    (∃ h,h<t.nH∧0<lack t d h∧a.fr=t.nW+h∧a.to=t.si∧a.cost=dear ((lack t d h).toNat-1)-dear (lack t d h).toNat-bh w h∧a.way= -1∧a.more=0)∨
    (∃ h,h<t.nH∧a.fr=t.si∧a.to=t.nW+h∧a.way= -1∧a.more=0)∨
    (∃ i:Nat,i<t.m∧a.fr=t.ww i∧a.to=t.nW+t.wh i∧a.cost=0∧a.way=i∧a.way.toNat=i∧a.more=1)∨
    (∃ i:Nat,i<t.m∧0<dv d i∧a.fr=t.nW+t.wh i∧a.to=t.ww i∧a.cost=0∧a.way=i∧a.way.toNat=i∧a.more= -1):=by
  cases K with
  | @k1 x hx c=>exact .inl ⟨x,hx,c,rfl,rfl,rfl,rfl,rfl⟩
  | @k2 x hx c=>exact .inr (.inl ⟨x,hx,rfl,rfl,rfl,rfl⟩)
  | @k3 h hx c=>exact .inr (.inr (.inl ⟨h,hx,c,rfl,rfl,rfl,rfl,rfl⟩))
  | @k4 h hx c=>exact .inr (.inr (.inr (.inl ⟨h,hx,rfl,rfl,rfl,rfl⟩)))
  | @k5 i hi=>exact .inr (.inr (.inr (.inr (.inl ⟨i,hi,rfl,rfl,rfl,rfl,Int.toNat_natCast i,rfl⟩))))
  | @k6 i hi c=>exact .inr (.inr (.inr (.inr (.inr ⟨i,hi,c,rfl,rfl,rfl,rfl,Int.toNat_natCast i,rfl⟩))))

theorem wtw {t w d π c p} (hy: ∀ i,i<t.m→t.wh i<t.nH∧t.ww i<t.nW) (D:Div t d) (C:Cert t w d π) (P:Path (arcsL t w d) t.sp t.si c p)
    (nd:(t.sp::p.map Arc.to).Nodup) (tight: ∀ a∈p,π a.fr+a.cost=π a.to):Div t (aug d p)∧Cert t w (aug d p) π∧tot t d<tot t (aug d p):=by
  have hk: ∀ a∈p,Kind t w d a:=fun a ha=>xov.1 (zqw P a ha)
  have hw: ∀ a∈p,a.way<(t.m:Int):=fun a ha=>by rcases (hk a ha).eqs with ⟨x',e1,e2,e3,e4,e5,e6,e7⟩ | ⟨x',e1,e2,e3,e4,e5⟩ | ⟨h',e1,e2,e3,e4,e5,e6,e7⟩ | ⟨h',e1,e2,e3,e4,e5⟩ | ⟨i,e1,e2,e3,e4,e5,e6,e7⟩ | ⟨i,e1,e0,e2,e3,e4,e5,e6,e7⟩ <;> omega
  rw [List.nodup_cons] at nd
  have hsi:t.si≠t.sp:=by simp only [Tn.si,Tn.sp];omega
  have bS:=bal P t.si
  have nfr: ∀ x,0≤frN x p:=fun x=>xrz fun a _=>xrk _
  have hi1:is (t.si=t.si)=1:=if_pos rfl
  have hi0:is (t.si=t.sp)=0:=if_neg hsi
  have t1:=(ytz (x:=t.si) nd.2).1
  have fr0:frN t.si p=0:=by have:=nfr t.si;omega
  have to1:toN t.si p=1:=by have:=nfr t.si;omega
  have frs: ∀ a∈p,a.fr≠t.si:=fun a ha z=>by
    have:0<frN t.si p:=by
      obtain ⟨l1,l2,rfl⟩:=List.append_of_mem ha
      have app: ∀ (f:Arc→Int) l1 l2,sp_ f (l1++l2)=sp_ f l1+sp_ f l2:=fun f l1 l2=>by
        induction l1 with
        | nil=>simp [sp_]
        | cons b l ih=>rw [List.cons_append,sp_,sp_,ih];omega
      unfold frN;rw [app,sp_]
      have h1:0≤sp_ (fun a=>is (a.fr=t.si)) l1:=xrz fun a _=>xrk _
      have h2:0≤sp_ (fun a=>is (a.fr=t.si)) l2:=xrz fun a _=>xrk _
      have:is (a.fr=t.si)=1:=if_pos z
      omega
    omega
  have tos: ∀ a∈p,a.to≠t.sp:=fun a ha z=>nd.1 (List.mem_map.2 ⟨a,ha,z⟩)
  have dvA: ∀ i,i<t.m→dv (aug d p) i=dv d i+dl i p:=fun i _=>wjj fun a ha=>by rw [D.len];exact hw a ha
  have hH: ∀ h,h<t.nH→draw t (aug d p) h=draw t d h+sp_ (fun a=>is (a.fr=t.nW+h∧a.to=t.si)) p:=fun h hh=>by
    have e1:draw t (aug d p) h=draw t d h+sm t.m (fun i=>if t.wh i=h then dl i p else 0):=by
      unfold draw;rw [← xyj];exact xhw fun i hi=>by rw [dvA i hi];split <;> omega
    rw [e1,ypx t.wh h t.m hw]
    have e2:sp_ (fun a=>if 0≤a.way∧t.wh a.way.toNat=h then a.more else 0) p=sp_ (fun a=>(is (a.to=t.nW+h)-is (a.fr=t.nW+h))+is (a.fr=t.nW+h∧a.to=t.si)) p:=ymj fun a ha=>by
      have f1:=frs a ha;have f2:=tos a ha
      have es:t.sp=t.nW+t.nH:=rfl
      have ei:t.si=t.nW+t.nH+1:=rfl
      unfold is
      rcases (hk a ha).eqs with ⟨x',e1,e2,e3,e4,e5,e6,e7⟩ | ⟨x',e1,e2,e3,e4,e5⟩ | ⟨h',e1,e2,e3,e4,e5,e6,e7⟩ | ⟨h',e1,e2,e3,e4,e5⟩ | ⟨i,e1,e2,e3,e4,e5,e6,e7⟩ | ⟨i,e1,e0,e2,e3,e4,e5,e6,e7⟩
      · (repeat' split) <;> omega
      · (repeat' split) <;> omega
      · (repeat' split) <;> omega
      · (repeat' split) <;> omega
      · have:=hy i e1;rw [e6];(repeat' split) <;> omega
      · have:=hy i e1;rw [e6];(repeat' split) <;> omega
    rw [e2,zdq,zpz]
    have b:=bal P (t.nW+h)
    have i1:is (t.nW+h=t.sp)=0:=if_neg (by simp only [Tn.sp];omega)
    have i2:is (t.nW+h=t.si)=0:=if_neg (by simp only [Tn.si];omega)
    have u1:toN (t.nW+h) p=sp_ (fun a=>is (a.to=t.nW+h)) p:=rfl
    have u2:frN (t.nW+h) p=sp_ (fun a=>is (a.fr=t.nW+h)) p:=rfl
    omega
  have hHle: ∀ h,h<t.nH→sp_ (fun a=>is (a.fr=t.nW+h∧a.to=t.si)) p≤1:=fun h _=>by
    have:sp_ (fun a=>is (a.fr=t.nW+h∧a.to=t.si)) p≤toN t.si p:=zvk fun a _=>by
      unfold is;by_cases z:a.to=t.si
      · rw [if_pos z];split <;> omega
      · rw [if_neg z,if_neg fun y=>z y.2];omega
    omega
  have hH0: ∀ h,0≤sp_ (fun a=>is (a.fr=t.nW+h∧a.to=t.si)) p:=fun h=>xrz fun a _=>xrk _
  have hH1: ∀ h,h<t.nH→0<sp_ (fun a=>is (a.fr=t.nW+h∧a.to=t.si)) p→0<lack t d h∧π (t.nW+h)+(dear ((lack t d h).toNat-1)-dear (lack t d h).toNat-bh w h)=π t.si:=fun h hh z=>by
    obtain ⟨a,ha,hp⟩:=zvv z
    obtain ⟨z1,z2⟩:=zgx hp
    have tg:=tight a ha
    have f1:=frs a ha
    have es:t.sp=t.nW+t.nH:=rfl
    have ei:t.si=t.nW+t.nH+1:=rfl
    rcases (hk a ha).eqs with ⟨x',e1,e2,e3,e4,e5,e6,e7⟩ | ⟨x',e1,e2,e3,e4,e5⟩ | ⟨h',e1,e2,e3,e4,e5,e6,e7⟩ | ⟨h',e1,e2,e3,e4,e5⟩ | ⟨i,e1,e2,e3,e4,e5,e6,e7⟩ | ⟨i,e1,e0,e2,e3,e4,e5,e6,e7⟩
    · omega
    · omega
    · obtain rfl:h'=h:=by omega
      exact ⟨e2,by rw [e3,e4,e5] at tg;exact tg⟩
    · omega
    · have:=hy i e1;omega
    · have:=hy i e1;omega
  have hW: ∀ x,x<t.nW→give t (aug d p) x=give t d x+sp_ (fun a=>is (a.fr=t.sp∧a.to=x)) p:=fun x hx=>by
    have e1:give t (aug d p) x=give t d x+sm t.m (fun i=>if t.ww i=x then dl i p else 0):=by
      unfold give;rw [← xyj];exact xhw fun i hi=>by rw [dvA i hi];split <;> omega
    rw [e1,ypx t.ww x t.m hw]
    have e2:sp_ (fun a=>if 0≤a.way∧t.ww a.way.toNat=x then a.more else 0) p=sp_ (fun a=>(is (a.fr=x)-is (a.to=x))+is (a.fr=t.sp∧a.to=x)) p:=ymj fun a ha=>by
      have f1:=frs a ha;have f2:=tos a ha
      have es:t.sp=t.nW+t.nH:=rfl
      have ei:t.si=t.nW+t.nH+1:=rfl
      unfold is
      rcases (hk a ha).eqs with ⟨x',e1,e2,e3,e4,e5,e6,e7⟩ | ⟨x',e1,e2,e3,e4,e5⟩ | ⟨h',e1,e2,e3,e4,e5,e6,e7⟩ | ⟨h',e1,e2,e3,e4,e5⟩ | ⟨i,e1,e2,e3,e4,e5,e6,e7⟩ | ⟨i,e1,e0,e2,e3,e4,e5,e6,e7⟩
      · (repeat' split) <;> omega
      · (repeat' split) <;> omega
      · (repeat' split) <;> omega
      · (repeat' split) <;> omega
      · have:=hy i e1;rw [e6];(repeat' split) <;> omega
      · have:=hy i e1;rw [e6];(repeat' split) <;> omega
    rw [e2,zdq,zpz]
    have b:=bal P x
    have i1:is (x=t.sp)=0:=if_neg (by simp only [Tn.sp];omega)
    have i2:is (x=t.si)=0:=if_neg (by simp only [Tn.si];omega)
    have u1:toN x p=sp_ (fun a=>is (a.to=x)) p:=rfl
    have u2:frN x p=sp_ (fun a=>is (a.fr=x)) p:=rfl
    omega
  have hWle: ∀ x,sp_ (fun a=>is (a.fr=t.sp∧a.to=x)) p≤1:=fun x=>by
    have:sp_ (fun a=>is (a.fr=t.sp∧a.to=x)) p≤toN x p:=zvk fun a _=>by
      unfold is;by_cases z:a.to=x
      · rw [if_pos z];split <;> omega
      · rw [if_neg z,if_neg fun y=>z y.2];omega
    have:=(ytz (x:=x) nd.2).1
    omega
  have hW0: ∀ x,0≤sp_ (fun a=>is (a.fr=t.sp∧a.to=x)) p:=fun x=>xrz fun a _=>xrk _
  have hW1: ∀ x,x<t.nW→0<sp_ (fun a=>is (a.fr=t.sp∧a.to=x)) p→0<has t d x∧π t.sp+ -bw w x=π x:=fun x hx z=>by
    obtain ⟨a,ha,hp⟩:=zvv z
    obtain ⟨z1,z2⟩:=zgx hp
    have tg:=tight a ha
    have f1:=frs a ha
    have es:t.sp=t.nW+t.nH:=rfl
    have ei:t.si=t.nW+t.nH+1:=rfl
    rcases (hk a ha).eqs with ⟨x',e1,e2,e3,e4,e5,e6,e7⟩ | ⟨x',e1,e2,e3,e4,e5⟩ | ⟨h',e1,e2,e3,e4,e5,e6,e7⟩ | ⟨h',e1,e2,e3,e4,e5⟩ | ⟨i,e1,e2,e3,e4,e5,e6,e7⟩ | ⟨i,e1,e0,e2,e3,e4,e5,e6,e7⟩
    · obtain rfl:x'=x:=by omega
      exact ⟨e2,by rw [e3,e4,e5] at tg;exact tg⟩
    · omega
    · omega
    · omega
    · have:=hy i e1;omega
    · have:=hy i e1;omega
  have hY: ∀ i,i<t.m→dl i p=sp_ (fun a=>is (a.way=i∧a.more=1)) p-sp_ (fun a=>is (a.way=i∧a.more= -1)) p:=fun i _=>by
    unfold dl;rw [← zpz]
    exact ymj fun a ha=>by
      unfold is
      rcases (hk a ha).eqs with ⟨x',e1,e2,e3,e4,e5,e6,e7⟩ | ⟨x',e1,e2,e3,e4,e5⟩ | ⟨h',e1,e2,e3,e4,e5,e6,e7⟩ | ⟨h',e1,e2,e3,e4,e5⟩ | ⟨i,e1,e2,e3,e4,e5,e6,e7⟩ | ⟨i,e1,e0,e2,e3,e4,e5,e6,e7⟩ <;> (repeat' split) <;> omega
  have hYb: ∀ i,sp_ (fun a=>is (a.way=(i:Nat)∧a.more= -1)) p≤1:=fun i=>by
    have:sp_ (fun a=>is (a.way=(i:Nat)∧a.more= -1)) p≤toN (t.ww i) p:=zvk fun a ha=>by
      unfold is
      rcases (hk a ha).eqs with ⟨x',e1,e2,e3,e4,e5,e6,e7⟩ | ⟨x',e1,e2,e3,e4,e5⟩ | ⟨h',e1,e2,e3,e4,e5,e6,e7⟩ | ⟨h',e1,e2,e3,e4,e5⟩ | ⟨j,e1,e2,e3,e4,e5,e6,e7⟩ | ⟨j,e1,e0,e2,e3,e4,e5,e6,e7⟩
      · (repeat' split) <;> omega
      · (repeat' split) <;> omega
      · (repeat' split) <;> omega
      · (repeat' split) <;> omega
      · (repeat' split) <;> omega
      · by_cases z:j=i
        · subst z;(repeat' split) <;> omega
        · (repeat' split) <;> omega
    have:=(ytz (x:=t.ww i) nd.2).1
    omega
  have hYb1: ∀ i,0<sp_ (fun a=>is (a.way=(i:Nat)∧a.more= -1)) p→0<dv d i:=fun i z=>by
    obtain ⟨a,ha,hp⟩:=zvv z
    obtain ⟨z1,z2⟩:=zgx hp
    rcases (hk a ha).eqs with ⟨x',e1,e2,e3,e4,e5,e6,e7⟩ | ⟨x',e1,e2,e3,e4,e5⟩ | ⟨h',e1,e2,e3,e4,e5,e6,e7⟩ | ⟨h',e1,e2,e3,e4,e5⟩ | ⟨j,e1,e2,e3,e4,e5,e6,e7⟩ | ⟨j,e1,e0,e2,e3,e4,e5,e6,e7⟩
    · omega
    · omega
    · omega
    · omega
    · omega
    · obtain rfl:j=i:=by omega
      exact e0
  have hYf0: ∀ i,0≤sp_ (fun a=>is (a.way=(i:Nat)∧a.more=1)) p:=fun i=>xrz fun a _=>xrk _
  have hYb0: ∀ i,0≤sp_ (fun a=>is (a.way=(i:Nat)∧a.more= -1)) p:=fun i=>xrz fun a _=>xrk _
  have hYf1: ∀ i,0<sp_ (fun a=>is (a.way=(i:Nat)∧a.more=1)) p→π (t.ww i)=π (t.nW+t.wh i):=fun i z=>by
    obtain ⟨a,ha,hp⟩:=zvv z
    obtain ⟨z1,z2⟩:=zgx hp
    have tg:=tight a ha
    rcases (hk a ha).eqs with ⟨x',e1,e2,e3,e4,e5,e6,e7⟩ | ⟨x',e1,e2,e3,e4,e5⟩ | ⟨h',e1,e2,e3,e4,e5,e6,e7⟩ | ⟨h',e1,e2,e3,e4,e5⟩ | ⟨j,e1,e2,e3,e4,e5,e6,e7⟩ | ⟨j,e1,e0,e2,e3,e4,e5,e6,e7⟩
    · omega
    · omega
    · omega
    · omega
    · obtain rfl:j=i:=by omega
      rw [e2,e3,e4] at tg;omega
    · omega
  have elk: ∀ h d,lack t d h=t.hv h-draw t d h:=fun _ _=>rfl
  have ehs: ∀ x d,has t d x=t.wv x-give t d x:=fun _ _=>rfl
  refine ⟨⟨aug_len.trans D.len,fun i hi=>?_,fun h hh=>?_,fun x hx=>?_⟩,⟨fun x hx c=>?_,fun x hx c=>?_,fun h hh c=>?_,fun h hh c=>?_,fun i hi=>C.f5 i hi,fun i hi c=>?_⟩,?_⟩
  · rw [dvA i hi,hY i hi]
    have:=D.pos i hi;have:=hYf0 i;have:=hYb i;have:=hYb1 i;have:=hYb0 i
    omega
  · rw [hH h hh]
    have:=hHle h hh;have:=hH0 h;have:=hH1 h hh;have:=D.hs h hh;have:=elk h d
    omega
  · rw [hW x hx]
    have:=hWle x;have:=hW0 x;have:=hW1 x hx;have:=D.ws x hx;have:=ehs x d
    omega
  · refine C.f1 x hx ?_
    rw [ehs,hW x hx] at c
    have:=hW0 x;have:=ehs x d;omega
  · rw [ehs,hW x hx] at c
    by_cases z:0<sp_ (fun a=>is (a.fr=t.sp∧a.to=x)) p
    · have:=(hW1 x hx z).2;omega
    · exact C.f2 x hx (by have:=hW0 x;have:=ehs x d;omega)
  · rw [elk,hH h hh] at c ⊢
    have i0:=hH0 h;have i1:=hHle h hh;have el:=elk h d;have f:=C.f3 h hh (by omega)
    by_cases z:0<sp_ (fun a=>is (a.fr=t.nW+h∧a.to=t.si)) p
    · have e:sp_ (fun a=>is (a.fr=t.nW+h∧a.to=t.si)) p=1:=by omega
      rw [e] at c ⊢
      obtain ⟨n,hn⟩: ∃ n:Nat,(lack t d h).toNat=n+2:=⟨(lack t d h).toNat-2,by omega⟩
      rw [hn] at f
      rw [show (t.hv h-(draw t d h+1)).toNat=n+1 by omega]
      simp only [Nat.add_sub_cancel,show n+2-1=n+1 from rfl] at f ⊢
      rw [xpx (n+1),xpx n] at f
      rw [xpx n]
      have:=xnq n;omega
    · have e:sp_ (fun a=>is (a.fr=t.nW+h∧a.to=t.si)) p=0:=by omega
      rw [e,Int.add_zero,← elk];exact f
  · rw [elk,hH h hh] at c ⊢
    have i0:=hH0 h;have i1:=hHle h hh;have el:=elk h d
    by_cases z:0<sp_ (fun a=>is (a.fr=t.nW+h∧a.to=t.si)) p
    · have e:sp_ (fun a=>is (a.fr=t.nW+h∧a.to=t.si)) p=1:=by omega
      have ⟨g1,g2⟩:=hH1 h hh z
      rw [e] at c ⊢
      obtain ⟨n,hn⟩: ∃ n:Nat,(lack t d h).toNat=n+1:=⟨(lack t d h).toNat-1,by omega⟩
      rw [hn] at g2
      rw [show (t.hv h-(draw t d h+1)).toNat=n by omega]
      simp only [Nat.add_sub_cancel] at g2
      omega
    · have e:sp_ (fun a=>is (a.fr=t.nW+h∧a.to=t.si)) p=0:=by omega
      rw [e,Int.add_zero,← elk]
      rw [e,Int.add_zero,← elk] at c
      exact C.f4 h hh c
  · by_cases z:0<dv d i
    · exact C.f6 i hi z
    · rw [dvA i hi,hY i hi] at c
      have:=hYf1 i;have:=hYb0 i;have:=hYf0 i
      have:=D.pos i hi
      have e:=hYf1 i (by omega)
      omega
  · rw [← yfx fun i hi=>(hy i hi).1,← yfx fun i hi=>(hy i hi).1,xhw hH,xyj]
    have:0<sm t.nH (fun h=>sp_ (fun a=>is (a.fr=t.nW+h∧a.to=t.si)) p):=by
      obtain ⟨a,ha,hp⟩:=zvv (show 0<sp_ (fun a=>is (a.to=t.si)) p by have:toN t.si p=sp_ (fun a=>is (a.to=t.si)) p:=rfl;omega)
      have z:=zgx hp
      have f1:=frs a ha
      obtain ⟨h,hh,ef⟩: ∃ h,h<t.nH∧a.fr=t.nW+h:=by
        have es:t.sp=t.nW+t.nH:=rfl
        have ei:t.si=t.nW+t.nH+1:=rfl
        rcases (hk a ha).eqs with ⟨x',e1,e2,e3,e4,e5,e6,e7⟩ | ⟨x',e1,e2,e3,e4,e5⟩ | ⟨h',e1,e2,e3,e4,e5,e6,e7⟩ | ⟨h',e1,e2,e3,e4,e5⟩ | ⟨i,e1,e2,e3,e4,e5,e6,e7⟩ | ⟨i,e1,e0,e2,e3,e4,e5,e6,e7⟩
        · omega
        · omega
        · exact ⟨h',e1,e3⟩
        · omega
        · have:=hy i e1;omega
        · have:=hy i e1;omega
      have m1:=zpj (f:=fun h=>sp_ (fun a=>is (a.fr=t.nW+h∧a.to=t.si)) p) (fun i _=>hH0 i) hh
      have m2:0<sp_ (fun a=>is (a.fr=t.nW+h∧a.to=t.si)) p:=by
        obtain ⟨l1,l2,rfl⟩:=List.append_of_mem ha
        have app: ∀ (f:Arc→Int) l1 l2,sp_ f (l1++l2)=sp_ f l1+sp_ f l2:=fun f l1 l2=>by
          induction l1 with
          | nil=>simp [sp_]
          | cons b l ih=>rw [List.cons_append,sp_,sp_,ih];omega
        rw [app,sp_]
        have h1:0≤sp_ (fun a=>is (a.fr=t.nW+h∧a.to=t.si)) l1:=xrz fun a _=>xrk _
        have h2:0≤sp_ (fun a=>is (a.fr=t.nW+h∧a.to=t.si)) l2:=xrz fun a _=>xrk _
        have:is (a.fr=t.nW+h∧a.to=t.si)=1:=if_pos ⟨ef,z⟩
        omega
      omega
    omega

end Go.X.Flow
namespace Go.X.Flow
open Go.X.Bf

def bf (t:Tn) (w:Wi) (d:List Int):Lab:=sweeps (arcsL t w d) (nN t) (lab0 (nN t) t.sp)
def backL (s:Lab) (sp:Nat):Nat→Nat→List Arc
  | 0,_=>[]
  | f+1,v=>if v=sp then [] else B s v::backL s sp f (B s v).fr
def costL (t:Tn) (w:Wi) (d:List Int):Int:=L (bf t w d) t.si
def pathL (t:Tn) (w:Wi) (d:List Int):List Arc:=if costL t w d<far then backL (bf t w d) t.sp (nN t) t.si else []
def fairF (t:Tn) (w:Wi):Nat→List Int→List Int
  | 0,d=>d
  | n+1,d=>if 0≤costL t w d then d else fairF t w n (aug d (pathL t w d))
def fairP (t:Tn) (w:Wi):List Int:=fairF t w ((sm t.nH t.hv).toNat+1) (List.replicate t.m 0)

theorem zzk {s sp v p} (C:Chain s sp v p): ∀ {f},p.length<f→backL s sp f v=p:=by
  induction C with
  | nil=>intro f h;cases f with | zero=>omega | succ f=>rw [backL,if_pos rfl]
  | @cons v p ne _ ih=>
    intro f h
    cases f with
    | zero=>omega
    | succ f=>rw [backL,if_neg ne,ih (by rw [List.length_cons] at h;omega)]

structure Good (t:Tn) (w:Wi) (d:List Int):Prop where
  div:Div t d
  low: ∃ π,Cert t w d π∧π t.si≤π t.sp
structure Best (t:Tn) (w:Wi) (d:List Int):Prop extends Good t w d where
  high: ∃ π,Cert t w d π∧π t.sp≤π t.si
  cut: ∃ R:Nat→Bool,R t.sp=true∧R t.si=false∧ ∀ a∈arcsL t w d,R a.fr=true→R a.to=true

theorem wwz (f:Nat→Int): ∀ n,∃ M,∀ v,v<n→f v≤M
  | 0=>⟨0,fun v h=>absurd h (by omega)⟩
  | n+1=>by
    obtain ⟨M,h⟩:=wwz f n
    refine ⟨max M (f n),fun v hv=>?_⟩
    by_cases e:v=n
    · subst e;omega
    · have:=h v (by omega);omega

structure Find (t:Tn) (w:Wi) (d:List Int):Prop where
  z:L (bf t w d) t.sp=0
  top: ∀ v,L (bf t w d) v≤far
  closed: ∀ a∈arcsL t w d,L (bf t w d) a.fr<far→L (bf t w d) a.to<far∧L (bf t w d) a.to≤L (bf t w d) a.fr+a.cost
  way:costL t w d<far→Path (arcsL t w d) t.sp t.si (costL t w d) (pathL t w d)∧Chain (bf t w d) t.sp t.si (pathL t w d)∧(t.sp::(pathL t w d).map Arc.to).Nodup∧
    ∀ a∈pathL t w d,a∈arcsL t w d∧L (bf t w d) a.fr+a.cost=L (bf t w d) a.to∧L (bf t w d) a.fr<far
theorem Good.find {t w d} (O:Ok t) (S:Sg w) (G:Good t w d):Find t w d:=by
  obtain ⟨π,C,_⟩:=G.low
  have e9:cC*nN t<far:=by
    have:=O.nh;have:=O.nw
    have h1:(nN t:Int)≤13:=by simp only [nN];omega
    have:=Int.mul_le_mul_of_nonneg_left h1 (show (0:Int)≤cC by decide)
    have:cC*13<far:=by decide
    omega
  have hs:t.sp<nN t:=by simp only [Tn.sp,nN];omega
  have hi:t.si<nN t:=by simp only [Tn.si,nN];omega
  obtain ⟨h1,h2,h3,h4⟩:=vfz (ziq C) hs (ycj O.y) (fun a h=>(yoq O S G.div a h).2) (by decide) e9 (s:=bf t w d) rfl
  refine ⟨h1,h2,h3,fun hf=>?_⟩
  obtain ⟨p,c,P,nd,tg⟩:=h4 t.si hi hf
  have hl:p.length<nN t:=by
    have:=ygq (N:=nN t) nd fun z hz=>by
      rcases List.mem_cons.1 hz with rfl | hz
      · exact hs
      · obtain ⟨b,hb,rfl⟩:=List.mem_map.1 hz
        exact (ycj O.y b (zqw P b hb)).2
    simp only [List.length_cons,List.length_map] at this
    omega
  have e:pathL t w d=p:=by rw [pathL,if_pos hf,zzk c hl]
  rw [e]
  exact ⟨P,c,nd,tg⟩

theorem Good.pots {t w d} (O:Ok t) (S:Sg w) (G:Good t w d): ∃ π,Cert t w d π∧(∀ v,L (bf t w d) v<far→π v=L (bf t w d) v)∧(¬ costL t w d<far→0≤π t.si):=by
  have Fd:=G.find O S
  obtain ⟨π,C,_⟩:=G.low
  obtain ⟨M,hM⟩:=wwz (fun v=>far+cC-π v) (nN t)
  have hi:t.si<nN t:=by simp only [Tn.si,nN];omega
  have hfar:0≤far:=by decide
  have hcC:0≤cC:=by decide
  refine ⟨fun v=>if L (bf t w d) v<far then L (bf t w d) v else M+π v,wij fun a ha=>?_,fun v h=>if_pos h,fun h=>?_⟩
  · have ⟨e1,e2⟩:=ycj O.y a ha
    have cc:=yoq O S G.div a ha
    have F1:=ziq C a ha
    have m1:=hM _ e1
    by_cases f:L (bf t w d) a.fr<far
    · have:=Fd.closed a ha f
      simp only [if_pos f,if_pos this.1];omega
    · by_cases g:L (bf t w d) a.to<far
      · simp only [if_neg f,if_pos g];omega
      · simp only [if_neg f,if_neg g];omega
  · have m1:=hM _ hi
    have e: ¬ L (bf t w d) t.si<far:=h
    simp only [if_neg e];omega

theorem Good.next {t w d} (O:Ok t) (S:Sg w) (G:Good t w d) (h:costL t w d<0):Good t w (aug d (pathL t w d))∧tot t d<tot t (aug d (pathL t w d)):=by
  have hfar:0<far:=by decide
  have Fd:=G.find O S
  obtain ⟨π,C,hπ,_⟩:=G.pots O S
  obtain ⟨P,_,nd,tg⟩:=Fd.way (by omega)
  have A:=wtw O.y G.div C P nd fun a ha=>by
    obtain ⟨h1,h2,h3⟩:=tg a ha
    rw [hπ _ h3,hπ _ (Fd.closed a h1 h3).1];exact h2
  refine ⟨⟨A.1,π,A.2.1,?_⟩,A.2.2⟩
  have h':L (bf t w d) t.si<0:=h
  rw [hπ _ (by omega),hπ _ (by rw [Fd.z];exact hfar),Fd.z];omega

theorem Good.last {t w d} (O:Ok t) (S:Sg w) (G:Good t w d) (h:0≤costL t w d):Best t w d:=by
  have hfar:0<far:=by decide
  have Fd:=G.find O S
  obtain ⟨π,C,hπ,h0⟩:=G.pots O S
  have hun: ¬ costL t w d<far:=fun hf=>by
    obtain ⟨P,_,nd,tg⟩:=Fd.way hf
    rw [List.nodup_cons] at nd
    have hc:=wek P
    have hsi:t.si≠t.sp:=by simp only [Tn.si,Tn.sp];omega
    have bS:=bal P t.si
    have bs:=bal P t.sp
    have i1:is (t.si=t.si)=1:=if_pos rfl
    have i2:is (t.si=t.sp)=0:=if_neg hsi
    have i3:is (t.sp=t.sp)=1:=if_pos rfl
    have i4:is (t.sp=t.si)=0:=if_neg hsi.symm
    have n1:0≤frN t.si (pathL t w d):=xrz fun a _=>xrk _
    have t0:=(ytz (x:=t.sp) nd.2).2 nd.1
    have hle:sp_ Arc.cost (pathL t w d)≤sp_ (fun a=>-5999*is (a.to=t.si)+is (a.fr=t.sp)) (pathL t w d)+100000000000*frN t.si (pathL t w d):=by
      have:sp_ Arc.cost (pathL t w d)≤sp_ (fun a=>(-5999*is (a.to=t.si)+is (a.fr=t.sp))+100000000000*is (a.fr=t.si)) (pathL t w d):=zvk fun a ha=>by
        have hto:a.to≠t.sp:=fun z=>nd.1 (List.mem_map.2 ⟨a,ha,z⟩)
        have es:t.sp=t.nW+t.nH:=rfl
        have ei:t.si=t.nW+t.nH+1:=rfl
        have cc:=(yoq O S G.div a (tg a ha).1).2
        have eC:cC<100000000000-5999:=by decide
        unfold is
        rcases (xov.1 (tg a ha).1).eqs with ⟨x',e1,e2,e3,e4,e5,e6,e7⟩ | ⟨x',e1,e2,e3,e4,e5⟩ | ⟨h',e1,e2,e3,e4,e5,e6,e7⟩ | ⟨h',e1,e2,e3,e4,e5⟩ | ⟨i,e1,e2,e3,e4,e5,e6,e7⟩ | ⟨i,e1,e0,e2,e3,e4,e5,e6,e7⟩
        · have:=S.bw x';(repeat' split) <;> omega
        · omega
        · obtain ⟨n,hn⟩: ∃ n:Nat,(lack t d h').toNat=n+1:=⟨(lack t d h').toNat-1,by omega⟩
          have:=S.bh h'
          have:=xnq n
          rw [hn,Nat.add_sub_cancel,xpx] at e5
          (repeat' split) <;> omega
        · (repeat' split) <;> omega
        · have:=O.y i e1;(repeat' split) <;> omega
        · have:=O.y i e1;(repeat' split) <;> omega
      rw [zdq,zjj] at this
      exact this
    rw [zdq,zjj] at hle
    have u1:toN t.si (pathL t w d)=sp_ (fun a=>is (a.to=t.si)) (pathL t w d):=rfl
    have u2:frN t.sp (pathL t w d)=sp_ (fun a=>is (a.fr=t.sp)) (pathL t w d):=rfl
    have t1:=(ytz (x:=t.si) nd.2).1
    have f0:frN t.si (pathL t w d)=0:=by omega
    omega
  refine ⟨G,⟨π,C,?_⟩,fun v=>decide (L (bf t w d) v<far),by simp only [Fd.z];decide,decide_eq_false hun,fun a ha hf=>?_⟩
  · rw [hπ _ (by rw [Fd.z];exact hfar),Fd.z];exact h0 hun
  · exact decide_eq_true (Fd.closed a ha (of_decide_eq_true hf)).1

theorem Good.start {t w} (O:Ok t) (S:Sg w):Good t w (List.replicate t.m 0):=by
  have dv0: ∀ i,dv (List.replicate t.m 0) i=0:=fun i=>by
    unfold dv;rw [List.getD_eq_getElem?_getD,List.getElem?_replicate];split <;> rfl
  have dr: ∀ h,draw t (List.replicate t.m 0) h=0:=fun h=>by
    unfold draw;exact (xhw (g:=fun _=>0) fun i _=>by rw [dv0];split <;> rfl).trans (xtk _)
  have gv: ∀ h,give t (List.replicate t.m 0) h=0:=fun h=>by
    unfold give;exact (xhw (g:=fun _=>0) fun i _=>by rw [dv0];split <;> rfl).trans (xtk _)
  have es:t.sp=t.nW+t.nH:=rfl
  have ei:t.si=t.nW+t.nH+1:=rfl
  have d9:dear 9<999999999990:=by decide
  refine ⟨⟨by simp,fun i _=>by rw [dv0];exact Int.le_refl _,fun h hh=>by rw [dr];exact (O.h h hh).1,fun x hx=>by rw [gv];exact (O.w x hx).1⟩,
    fun v=>if v=t.sp then 0 else if v=t.si then -999999999999 else -1,⟨fun x hx c=>?_,fun x hx c=>?_,fun h hh c=>?_,fun h hh c=>?_,fun i hi=>?_,fun i hi c=>?_⟩,?_⟩
  · have:=S.bw x
    simp only [if_neg (show ¬ x=t.sp by omega),if_neg (show ¬ x=t.si by omega),if_true];omega
  · unfold has at c;rw [gv] at c;omega
  · have:=S.bh h
    have l9:(lack t (List.replicate t.m 0) h).toNat≤9:=by have:=O.h h hh;unfold lack;rw [dr];omega
    have:=xqj l9
    have:=xnq ((lack t (List.replicate t.m 0) h).toNat-1)
    simp only [if_neg (show ¬ t.si=t.sp by omega),if_neg (show ¬ t.nW+h=t.sp by omega),if_neg (show ¬ t.nW+h=t.si by omega),if_true];omega
  · unfold lack at c;rw [dr] at c;omega
  · have:=O.y i hi
    simp only [if_neg (show ¬ t.nW+t.wh i=t.sp by omega),if_neg (show ¬ t.nW+t.wh i=t.si by omega),if_neg (show ¬ t.ww i=t.sp by omega),if_neg (show ¬ t.ww i=t.si by omega)]
    exact Int.le_refl _
  · rw [dv0] at c;omega
  · simp only [if_neg (show ¬ t.si=t.sp by omega),if_true];decide

theorem wvx {t d} (O:Ok t) (D:Div t d):tot t d≤sm t.nH t.hv:=by
  rw [← yfx fun i hi=>(O.y i hi).1];exact yij D.hs
theorem zgw {t w} (O:Ok t) (S:Sg w): ∀ {n:Nat} {d},Good t w d→sm t.nH t.hv-tot t d<n→Best t w (fairF t w n d)
  | 0,d,G,h=>by have:=wvx O G.div;omega
  | n+1,d,G,h=>by
    rw [fairF]
    by_cases c:0≤costL t w d
    · rw [if_pos c];exact G.last O S c
    · rw [if_neg c]
      obtain ⟨G',h'⟩:=G.next O S (by omega)
      exact zgw O S G' (by omega)
theorem xtv {t w} (O:Ok t) (S:Sg w):Best t w (fairP t w):=by
  refine zgw O S (Good.start O S) ?_
  have:0≤tot t (List.replicate t.m 0):=xsk (Good.start O S).div.pos
  omega

theorem Best.min {t w d d'} (O:Ok t) (H:Best t w d) (D':Div t d'):F t w d+sm t.nH (fun h=>gap (lack t d' h-lack t d h))≤F t w d':=by
  by_cases c:tot t d≤tot t d'
  · obtain ⟨π,C,hp⟩:=H.high
    have:=C.le O.y H.div D'
    have:=Int.mul_nonneg (show 0≤tot t d'-tot t d by omega) (show 0≤π t.si-π t.sp by omega)
    omega
  · obtain ⟨π,C,hp⟩:=H.low
    have:=C.le O.y H.div D'
    have:=Int.mul_nonneg (show 0≤tot t d-tot t d' by omega) (show 0≤π t.sp-π t.si by omega)
    have e:(tot t d'-tot t d)*(π t.si-π t.sp)=(tot t d-tot t d')*(π t.sp-π t.si):=by
      rw [show tot t d'-tot t d= -(tot t d-tot t d') by omega,show π t.si-π t.sp= -(π t.sp-π t.si) by omega,Int.neg_mul_neg]
    omega

structure Cut (t:Tn) (d:List Int) (R:Nat→Bool):Prop where
  c1: ∀ x,x<t.nW→R x=false→give t d x=t.wv x
  c3: ∀ h,h<t.nH→R (t.nW+h)=true→lack t d h=0
  c5: ∀ i,i<t.m→R (t.nW+t.wh i)=false→R (t.ww i)=false
  c6: ∀ i,i<t.m→R (t.nW+t.wh i)=true→R (t.ww i)=false→dv d i=0
theorem Best.cutOff {t w d} (H:Best t w d): ∃ R,Cut t d R:=by
  obtain ⟨R,hs,hi,hR⟩:=H.cut
  refine ⟨R,fun x hx h=>?_,fun h hh z=>?_,fun i hm h=>?_,fun i hm h h'=>?_⟩
  · have: ¬ 0<has t d x:=fun c=>by
      have:=hR _ (xov.2 (.k1 hx c)) hs
      simp only [h] at this;cases this
    have:=H.div.ws x hx
    have e:has t d x=t.wv x-give t d x:=rfl
    omega
  · have: ¬ 0<lack t d h:=fun c=>by
      have:=hR _ (xov.2 (.k3 hh c)) z
      simp only [hi] at this;cases this
    have:=H.div.hs h hh
    have e:lack t d h=t.hv h-draw t d h:=rfl
    omega
  · cases e:R (t.ww i) with
    | false=>rfl
    | true=>
      have:=hR _ (xov.2 (.k5 (w:=w) (d:=d) hm)) e
      simp only [h] at this;cases this
  · have:=H.div.pos i hm
    by_cases c:0<dv d i
    · have:=hR _ (xov.2 (.k6 (w:=w) hm c)) h
      simp only [h'] at this;cases this
    · omega
def ob (b:Bool):Int:=if b then 0 else 1
theorem Cut.sum {t d R} (O:Ok t) (C:Cut t d R):sm t.nH (fun h=>t.hv h*ob (R (t.nW+h)))=sm t.nW (fun x=>t.wv x*ob (R x))+sm t.nH (lack t d):=by
  have a1:sm t.nH (fun h=>draw t d h*ob (R (t.nW+h)))=sm t.m (fun i=>dv d i*ob (R (t.nW+t.wh i))):=yfz (fun i hi=>(O.y i hi).1) (fun h=>ob (R (t.nW+h)))
  have a2:sm t.nW (fun x=>give t d x*ob (R x))=sm t.m (fun i=>dv d i*ob (R (t.ww i))):=ymx (fun i hi=>(O.y i hi).2) (fun x=>ob (R x))
  have a3:sm t.m (fun i=>dv d i*ob (R (t.nW+t.wh i)))=sm t.m (fun i=>dv d i*ob (R (t.ww i))):=xhw fun i hi=>by
    cases e:R (t.nW+t.wh i) with
    | false=>rw [C.c5 i hi e]
    | true=>cases e':R (t.ww i) with
      | true=>rfl
      | false=>rw [C.c6 i hi e e',Int.zero_mul,Int.zero_mul]
  have a4:sm t.nW (fun x=>give t d x*ob (R x))=sm t.nW (fun x=>t.wv x*ob (R x)):=xhw fun x hx=>by
    cases e:R x with
    | false=>rw [C.c1 x hx e]
    | true=>simp [ob]
  have a5:sm t.nH (lack t d)=sm t.nH (fun h=>lack t d h*ob (R (t.nW+h))):=xhw fun h hh=>by
    cases e:R (t.nW+h) with
    | false=>simp [ob]
    | true=>rw [C.c3 h hh e];simp
  rw [a5,← a4,a2,← a3,← a1,← xyj]
  exact xhw fun h _=>by rw [← Int.add_mul];congr 1;unfold lack;omega
theorem Best.most {t w d d'} (O:Ok t) (H:Best t w d) (D':Div t d'):tot t d'≤tot t d:=by
  obtain ⟨R,C⟩:=H.cutOff
  have hs:=C.sum O
  have e1:sm t.nH (lack t d)=sm t.nH t.hv-tot t d:=by rw [← yfx fun i hi=>(O.y i hi).1,← yak];rfl
  have e2:sm t.nH (lack t d')=sm t.nH t.hv-tot t d':=by rw [← yfx fun i hi=>(O.y i hi).1,← yak];rfl
  have b1:sm t.nH (fun h=>draw t d' h*ob (R (t.nW+h)))=sm t.m (fun i=>dv d' i*ob (R (t.nW+t.wh i))):=yfz (fun i hi=>(O.y i hi).1) (fun h=>ob (R (t.nW+h)))
  have b2:sm t.nW (fun x=>give t d' x*ob (R x))=sm t.m (fun i=>dv d' i*ob (R (t.ww i))):=ymx (fun i hi=>(O.y i hi).2) (fun x=>ob (R x))
  have b3:sm t.m (fun i=>dv d' i*ob (R (t.nW+t.wh i)))≤sm t.m (fun i=>dv d' i*ob (R (t.ww i))):=yij fun i hi=>by
    have:=D'.pos i hi
    cases e:R (t.nW+t.wh i) with
    | false=>rw [C.c5 i hi e];exact Int.le_refl _
    | true=>rw [show ob true=0 from rfl,Int.mul_zero];exact Int.mul_nonneg this (by unfold ob;split <;> omega)
  have b4:sm t.nW (fun x=>give t d' x*ob (R x))≤sm t.nW (fun x=>t.wv x*ob (R x)):=yij fun x hx=>Int.mul_le_mul_of_nonneg_right (D'.ws x hx) (by unfold ob;split <;> omega)
  have b5:sm t.nH (fun h=>t.hv h*ob (R (t.nW+h)))-sm t.nH (fun h=>draw t d' h*ob (R (t.nW+h)))≤sm t.nH (lack t d'):=by
    rw [← yak]
    exact yij fun h hh=>by
      have:=D'.hs h hh
      rw [← Int.sub_mul]
      cases e:R (t.nW+h) with
      | false=>simp [ob,lack]
      | true=>simp only [ob,if_true,Int.mul_zero,lack];omega
  omega

end Go.X.Flow
namespace Go.X.Flow
open Go.X.Bf

def put:List Int→Int→List Int
  | [],n=>[n]
  | a::l,n=>if n≤a then a::put l n else n::a::l
def srt (l:List Int):List Int:=l.foldl put []
def earlier:List Int→List Int→Bool
  | a::l,b::r=>if a=b then earlier l r else decide (a<b)
  | _,_=>false
def Desc (l:List Int):Prop:=l.Pairwise (fun a b=>b≤a)
theorem ymk (n:Int): ∀ l,(put l n).Perm (n::l)
  | []=>.refl _
  | a::l=>by
    rw [put];split
    · exact ((ymk n l).cons a).trans (.swap ..)
    · exact .refl _
theorem zqx {n:Int}: ∀ {l},Desc l→Desc (put l n)
  | [],_=>by simp [put,Desc]
  | a::l,h=>by
    have h:=List.pairwise_cons.1 h
    rw [put];split
    · next c=>
      refine List.pairwise_cons.2 ⟨fun z hz=>?_,zqx h.2⟩
      rcases List.mem_cons.1 ((ymk n l).mem_iff.1 hz) with rfl | hz
      · exact c
      · exact h.1 z hz
    · next c=>
      refine List.pairwise_cons.2 ⟨fun z hz=>?_,List.pairwise_cons.2 h⟩
      rcases List.mem_cons.1 hz with rfl | hz
      · omega
      · have:=h.1 z hz;omega
theorem yzk: ∀ {l o:List Int},Desc o→Desc (l.foldl put o)∧(l.foldl put o).Perm (l++o)
  | [],o,h=>⟨h,.refl _⟩
  | a::l,o,h=>by
    have:=yzk (l:=l) (zqx (n:=a) h)
    exact ⟨this.1,this.2.trans (((ymk a o).append_left l).trans (List.perm_middle))⟩
theorem ywk (l):Desc (srt l):=(yzk (l:=l) (o:=[]) .nil).1
theorem ymz (l):(srt l).Perm l:=by have:=(yzk (l:=l) (o:=[]) .nil).2;rwa [List.append_nil] at this
theorem ysk: ∀ {a b:List Int},Desc a→Desc b→a.Perm b→a=b
  | [],b,_,_,p=>(List.Perm.nil_eq p)
  | x::a,[],_,_,p=>absurd (p.symm.nil_eq) (by simp)
  | x::a,y::b,ha,hb,p=>by
    have h1:=List.pairwise_cons.1 ha
    have h2:=List.pairwise_cons.1 hb
    have e:x=y:=by
      have m1:x∈y::b:=p.mem_iff.1 (List.mem_cons_self ..)
      have m2:y∈x::a:=p.mem_iff.2 (List.mem_cons_self ..)
      rcases List.mem_cons.1 m1 with e | m1
      · exact e
      · rcases List.mem_cons.1 m2 with e | m2
        · exact e.symm
        · have:=h1.1 y m2;have:=h2.1 x m1;omega
    subst e
    rw [ysk h1.2 h2.2 ((List.perm_cons x).1 p)]
theorem vez {l r:List Int} (h:Desc r) (p:r.Perm l):srt l=r:=ysk (ywk l) h ((ymz l).trans p.symm)

def val:List Int→Int
  | []=>0
  | a::l=>dear a.toNat+val l
theorem wnq {a b:List Int} (p:a.Perm b):val a=val b:=by
  induction p with
  | nil=>rfl
  | cons x _ ih=>rw [val,val,ih]
  | swap x y l=>simp only [val];omega
  | trans _ _ h1 h2=>exact h1.trans h2
theorem wav: ∀ l,0≤val l
  | []=>Int.le_refl _
  | a::l=>by have:=wav l;have:=xnq a.toNat;simp only [val];omega
theorem wuw {x:Int}: ∀ {l:List Int},(∀ z∈l,z≤x)→val l≤l.length*dear x.toNat
  | [],_=>by simp [val]
  | a::l,h=>by
    have h1:=xqj (show a.toNat≤x.toNat by have:=h a (List.mem_cons_self ..);omega)
    have h2:=wuw fun z hz=>h z (List.mem_cons_of_mem _ hz)
    rw [val,List.length_cons,Int.natCast_add,Int.add_mul];omega
theorem yej: ∀ {a b:List Int},Desc a→(∀ z∈a,0≤z)→a.length=b.length→a.length≤6→earlier a b=true→val a+1000≤val b
  | [],_,_,_,_,_,h=>by cases h
  | x::a,[],_,_,e,_,_=>by simp at e
  | x::a,y::b,d,p,e,n,h=>by
    have d:=List.pairwise_cons.1 d
    rw [earlier] at h
    simp only [List.length_cons] at e n
    by_cases c:x=y
    · rw [if_pos c] at h
      have:=yej d.2 (fun z hz=>p z (List.mem_cons_of_mem _ hz)) (by omega) (by omega) h
      simp only [val,c];omega
    · rw [if_neg c] at h
      have lt:=of_decide_eq_true h
      have p0:=p x (List.mem_cons_self ..)
      have h1:=wuw d.1
      have h2:(a.length:Int)*dear x.toNat≤5*dear x.toNat:=Int.mul_le_mul_of_nonneg_right (by omega) (by have:=xnq x.toNat;omega)
      have h3:=xqj (show x.toNat+1≤y.toNat by omega)
      rw [xpx] at h3
      have:=xnq x.toNat
      have:=wav b
      simp only [val];omega
theorem xwv: ∀ {a b:List Int},a.length=b.length→a=b∨earlier a b=true∨earlier b a=true
  | [],[],_=>.inl rfl
  | [],_::_,e=>by simp at e
  | _::_,[],e=>by simp at e
  | x::a,y::b,e=>by
    simp only [List.length_cons] at e
    rw [earlier,earlier]
    by_cases c:x=y
    · subst c
      rw [if_pos rfl,if_pos rfl]
      rcases xwv (a:=a) (b:=b) (by omega) with rfl | h | h
      · exact .inl rfl
      · exact .inr (.inl h)
      · exact .inr (.inr h)
    · rw [if_neg c,if_neg (Ne.symm c)]
      by_cases l:x<y
      · exact .inr (.inl (decide_eq_true l))
      · exact .inr (.inr (decide_eq_true (by omega)))
def lackL (t:Tn) (d:List Int):List Int:=(List.range t.nH).map (lack t d)
def lacks (t:Tn) (d:List Int):List Int:=srt (lackL t d)
theorem xmj (t d):(lacks t d).length=t.nH:=by rw [lacks,(ymz _).length_eq,lackL];simp
theorem wgk {t d z}:z∈lacks t d↔ ∃ h,h<t.nH∧lack t d h=z:=by
  rw [lacks,(ymz _).mem_iff,lackL];simp
theorem zgq {t d} (D:Div t d): ∀ z∈lacks t d,0≤z:=fun z hz=>by
  obtain ⟨h,hh,rfl⟩:=wgk.1 hz
  have:=D.hs h hh;unfold lack;omega
theorem waw: ∀ a b,val (a++b)=val a+val b
  | [],b=>by simp [val]
  | x::a,b=>by rw [List.cons_append,val,val,waw a b];omega
theorem zbw (f:Nat→Int): ∀ n,val ((List.range n).map f)=sm n (fun h=>dear (f h).toNat)
  | 0=>rfl
  | n+1=>by rw [List.range_succ,List.map_append,waw,zbw f n];simp [val,sm]
def bon (t:Tn) (w:Wi) (d:List Int):Int:=sm t.nH (fun h=>draw t d h*bh w h)+sm t.nW (fun x=>give t d x*bw w x)
theorem F_eq (t w d):F t w d=val (lacks t d)-bon t w d:=by
  rw [F,bon,lacks,wnq (ymz _),lackL,zbw,yak];omega
theorem wwv {t w d} (O:Ok t) (S:Sg w) (D:Div t d): -200≤bon t w d∧bon t w d≤200:=by
  have cst: ∀ (c:Int) n,sm n (fun _=>c)=n*c:=fun c n=>by
    induction n with
    | zero=>simp [sm]
    | succ n ih=>rw [sm,ih,Int.natCast_add,Int.add_mul];omega
  have m: ∀ (x b k:Int),0≤x→x≤k→ -1≤b→b≤1→ -k≤x*b∧x*b≤k:=fun x b k h1 h2 h3 h4=>by
    obtain rfl | rfl | rfl:b= -1∨b=0∨b=1:=by omega
    · rw [Int.mul_neg_one];omega
    · rw [Int.mul_zero];omega
    · rw [Int.mul_one];omega
  have hH: ∀ h,h<t.nH→ -9≤draw t d h*bh w h∧draw t d h*bh w h≤9:=fun h hh=>m _ _ 9 (xtw D h) (by have:=D.hs h hh;have:=O.h h hh;omega) (S.bh h).1 (S.bh h).2
  have hW: ∀ x,x<t.nW→ -21≤give t d x*bw w x∧give t d x*bw w x≤21:=fun x hx=>m _ _ 21 (yeq D x) (by have:=D.ws x hx;have:=O.w x hx;omega) (S.bw x).1 (S.bw x).2
  have a1:=yij fun h hh=>(hH h hh).1
  have a2:=yij fun h hh=>(hH h hh).2
  have a3:=yij fun h hh=>(hW h hh).1
  have a4:=yij fun h hh=>(hW h hh).2
  rw [cst] at a1 a2 a3 a4
  have:=O.nh;have:=O.nw
  unfold bon;omega

theorem Best.fair {t w d d'} (O:Ok t) (S:Sg w) (H:Best t w d) (D':Div t d'):earlier (lacks t d') (lacks t d)=false∧(lacks t d'=lacks t d→bon t w d'≤bon t w d):=by
  have h:=H.min O D'
  have g:0≤sm t.nH (fun h=>gap (lack t d' h-lack t d h)):=xsk fun i _=>by unfold gap;split <;> omega
  rw [F_eq,F_eq] at h
  have b1:=wwv O S H.div
  have b2:=wwv O S D'
  refine ⟨?_,fun e=>by rw [e] at h;omega⟩
  cases e:earlier (lacks t d') (lacks t d) with
  | false=>rfl
  | true=>
    have:=yej (a:=lacks t d') (b:=lacks t d) (ywk _) (zgq D') (by rw [xmj,xmj]) (by rw [xmj];exact O.nh) e
    omega
structure Fairest (t:Tn) (d:List Int):Prop where
  div:Div t d
  least: ∀ d',Div t d'→earlier (lacks t d') (lacks t d)=false
theorem Best.fairest {t w d} (O:Ok t) (S:Sg w) (H:Best t w d):Fairest t d:=⟨H.div,fun _ D'=>(H.fair O S D').1⟩
theorem Fairest.same {t d d'} (H:Fairest t d) (H':Fairest t d'):lacks t d=lacks t d':=by
  rcases xwv (a:=lacks t d) (b:=lacks t d') (by rw [xmj,xmj]) with h | h | h
  · exact h
  · rw [H'.least _ H.div] at h;cases h
  · rw [H.least _ H'.div] at h;cases h
theorem xvv:Sg none0:=⟨by decide,by decide⟩
def LK (t:Tn):List Int:=lacks t (fairP t none0)
theorem xsz {t} (O:Ok t) {w} (S:Sg w):Fairest t (fairP t w):=(xtv O S).fairest O S
theorem Fairest.lk {t d} (O:Ok t) (H:Fairest t d):lacks t d=LK t:=H.same (xsz O xvv)
theorem zuj {t d} (O:Ok t) (D:Div t d):earlier (lacks t d) (LK t)=false:=(xsz O xvv).least d D
theorem wnw {h x s:Int} (a: -1≤s) (b:s≤1):Sg ⟨h,x,s⟩:=⟨a,b⟩
end Go.X.Flow
namespace Go.X
open Go.Conc

abbrev Heap:=Array Obj

def cell? (h:Heap) (a:Addr):Option Value:=
  match h[a.block]? with
  | some (.cells c _ _)=>if a.spot.isSome then none else c[a.off]?
  | _=>none

def frozenAt (h:Heap) (a:Addr):Bool:=
  match h[a.block]? with
  | some (.cells _ _ (lo,hi))=>lo≤a.off && a.off<hi
  | _=>false

def setCell (h:Heap) (a:Addr) (v:Value):Heap:=
  h.modify a.block fun
    | .cells c elem frozen=>.cells (if a.spot.isSome then c else c.setIfInBounds a.off v) elem frozen
    | o=>o

def freezeH (h:Heap) (a:Addr) (n:Nat):Heap:=
  if n=0 then h else
  h.modify a.block fun
    | .cells c elem (lo,hi)=>.cells c elem (if lo == hi then (a.off,a.off+n) else (min lo a.off,max hi (a.off+n)))
    | o=>o

def isOne:Value→Bool
  | .agg _=>false
  | .tuple _=>false
  | _=>true

def seenAt (h:Heap) (a:Addr):Prop:=∃ c e f,h[a.block]?=some (.cells c e f)∧0<c.size

def okMark:Mark→Bool
  | .extern _=>true
  | .noRoom=>true
  | _=>false

def wpS {α:Type} (P:Program):Sem α→Heap→(α→Heap→Prop)→Prop
  | .pure a,h,K=>K a h
  | .load m a k,h,K=>m= .plain∧ ∃ v,cell? h a=some v∧wpS P (k v) h K
  | .store m a v k,h,K=>m= .plain∧isOne v=true∧(∃ u,cell? h a=some u)∧frozenAt h a=false∧wpS P k (setCell h a v) K
  | .new o k,h,K=>wpS P (k h.size) (h.push o) K
  | .shape r k,h,K=>match h[r]? with
    | some (.cells c e _)=>0<c.size∧wpS P (k (some (e,c.size))) h K
    | _=>wpS P (k none) h K
  | .freeze a n k,h,K=>(∃ c e f,h[a.block]?=some (.cells c e f)∧0<c.size∧f≠(0,c.size))∧wpS P k (freezeH h a n) K
  | .frozen a k,h,K=>seenAt h a∧((cell? h a).isSome=true∧frozenAt h a=false→wpS P (k false) h K)∧(¬ ((cell? h a).isSome=true∧frozenAt h a=false)→ ∀ b,wpS P (k b) h K)
  | .getObj r k,h,K=>match h[r]? with
    | some (.cells ..)=>False
    | some o=>o.isChan=false∧wpS P (k o) h K
    | none=>False
  | .setObj r o k,h,K=>match h[r]? with
    | some (.cells ..)=>False
    | some o'=>o'.isChan=false∧o.isChan=false∧wpS P k (h.setIfInBounds r o) K
    | none=>False
  | .choose q k,h,K=>if q.forced then wpS P (k 0) h K else ∀ t,wpS P (k (q.cut t)) h K
  | .sys _ _,_,_=>False
  | .program k,h,K=>wpS P (k P) h K
  | .mark m k,h,K=>okMark m=true∧wpS P k h K
  | .halt _,_,_=>False

section
variable {α β:Type} {P:Program}

theorem xlz {s:Sem α}: ∀ {h:Heap} {K K':α→Heap→Prop},wpS P s h K→(∀ a h,K a h→K' a h)→wpS P s h K':=by
  induction s with
  | pure a=>exact fun x y=>y _ _ x
  | load m a k ih=>exact fun ⟨x,v,y,z⟩ q=>⟨x,v,y,ih v z q⟩
  | store m a v k ih=>exact fun ⟨x,o,y,z,t⟩ q=>⟨x,o,y,z,ih t q⟩
  | new o k ih=>exact fun x q=>ih _ x q
  | shape r k ih=>
    intro h K K' x q
    unfold wpS at x ⊢
    split at x
    · exact ⟨x.1,ih _ x.2 q⟩
    · exact ih _ x q
  | freeze a n k ih=>exact fun x q=>⟨x.1,ih x.2 q⟩
  | frozen a k ih=>exact fun x q=>⟨x.1,fun e=>ih _ (x.2.1 e) q,fun e b=>ih _ (x.2.2 e b) q⟩
  | getObj r k ih=>
    intro h K K' x q
    unfold wpS at x ⊢
    split at x
    · exact x
    · exact ⟨x.1,ih _ x.2 q⟩
    · exact x
  | setObj r o k ih=>
    intro h K K' x q
    unfold wpS at x ⊢
    split at x
    · exact x
    · exact ⟨x.1,x.2.1,ih x.2.2 q⟩
    · exact x
  | choose qn k ih=>
    intro h K K' x q
    unfold wpS at x ⊢
    split at x
    · rename_i hf;rw [if_pos hf];exact ih _ x q
    · rename_i hf;rw [if_neg hf];exact fun t=>ih _ (x t) q
  | sys c k ih=>exact fun x _=>x.elim
  | program k ih=>exact fun x q=>ih _ x q
  | mark m k ih=>exact fun ⟨x,y⟩ q=>⟨x,ih y q⟩
  | halt h=>exact fun x _=>x.elim

theorem yev {s:Sem α} {f:α→Sem β}: ∀ {h:Heap} {K:β→Heap→Prop},wpS P s h (fun a h'=>wpS P (f a) h' K)→wpS P (s.bind f) h K:=by
  induction s with
  | pure a=>exact id
  | load m a k ih=>exact fun ⟨x,v,y,z⟩=>⟨x,v,y,ih v z⟩
  | store m a v k ih=>exact fun ⟨x,o,y,z,t⟩=>⟨x,o,y,z,ih t⟩
  | new o k ih=>exact fun x=>ih _ x
  | shape r k ih=>
    intro h K x
    unfold Sem.bind
    unfold wpS at x ⊢
    split at x
    · exact ⟨x.1,ih _ x.2⟩
    · exact ih _ x
  | freeze a n k ih=>exact fun x=>⟨x.1,ih x.2⟩
  | frozen a k ih=>exact fun x=>⟨x.1,fun e=>ih _ (x.2.1 e),fun e b=>ih _ (x.2.2 e b)⟩
  | getObj r k ih=>
    intro h K x
    unfold Sem.bind
    unfold wpS at x ⊢
    split at x
    · exact x
    · exact ⟨x.1,ih _ x.2⟩
    · exact x
  | setObj r o k ih=>
    intro h K x
    unfold Sem.bind
    unfold wpS at x ⊢
    split at x
    · exact x
    · exact ⟨x.1,x.2.1,ih x.2.2⟩
    · exact x
  | choose qn k ih=>
    intro h K x
    unfold Sem.bind
    unfold wpS at x ⊢
    split at x
    · rename_i hf;rw [if_pos hf];exact ih _ x
    · rename_i hf;rw [if_neg hf];exact fun t=>ih _ (x t)
  | sys c k ih=>exact fun x=>x.elim
  | program k ih=>exact fun x=>ih _ x
  | mark m k ih=>exact fun ⟨x,y⟩=>⟨x,ih y⟩
  | halt h=>exact fun x=>x.elim

theorem xbz {s:Sem α} {f:α→Sem β} {h:Heap} {K:β→Heap→Prop} (x:wpS P s h (fun a h'=>wpS P (f a) h' K)):wpS P (s >>= f) h K:=yev x

theorem xbv {a:α} {h:Heap} {K:α→Heap→Prop} (x:K a h):wpS P (pure a) h K:=x

structure Vw where
  dead:Nat→Prop
  still:Nat→Prop

def Vw.of (S:Nat→Prop):Vw:=⟨S,fun _=>False⟩

structure Veil (S:Vw) (h r:Heap):Prop where
  size:h.size=r.size
  same: ∀ b,¬ S.dead b→ ¬ S.still b→h[b]?=r[b]?
  shun: ∀ b,S.dead b→h[b]?=some (.cells #[] 0 (0,0))
  frz: ∀ b,S.still b→ ∃ c e f,r[b]?=some (.cells c e f)∧h[b]?=some (.cells c e (0,c.size))

theorem Veil.refl (h:Heap):Veil (.of fun _=>False) h h:=⟨rfl,fun _ _ _=>rfl,fun _ x=>x.elim,fun _ x=>x.elim⟩

variable {S:Vw} {h r:Heap}

theorem Veil.cell (V:Veil S h r) {a:Addr} {v:Value} (x:cell? h a=some v):cell? r a=some v∧ ¬ S.dead a.block:=by
  by_cases hs:S.dead a.block
  · have hb:=V.shun _ hs
    unfold cell? at x
    rw [hb] at x
    simp at x
  · refine ⟨?_,hs⟩
    by_cases ht:S.still a.block
    · obtain ⟨c,e,f,hr,hh⟩:=V.frz _ ht
      unfold cell? at x ⊢
      rw [hh] at x;rw [hr]
      exact x
    · unfold cell? at x ⊢
      rw [← V.same _ hs ht]
      exact x

theorem wkj {a:Addr} {v:Value} (x:cell? h a=some v):a.block<h.size:=by
  unfold cell? at x
  split at x
  · rename_i c e f hb;exact (Array.getElem?_eq_some_iff.1 hb).1
  · cases x

theorem Veil.seen (V:Veil S h r) {a:Addr} (x:seenAt h a): ¬ S.dead a.block:=by
  intro hs
  obtain ⟨c,e,f,hb,hc⟩:=x
  rw [V.shun _ hs] at hb
  cases hb
  simp at hc

theorem Veil.frozen (V:Veil S h r) {a:Addr} (hs: ¬ S.dead a.block) (ht: ¬ S.still a.block):frozenAt h a=frozenAt r a:=by
  unfold frozenAt;rw [V.same _ hs ht]

theorem Veil.thaw (V:Veil S h r) {a:Addr} {v:Value} (x:cell? h a=some v) (hf:frozenAt h a=false): ¬ S.still a.block:=by
  intro ht
  obtain ⟨c,e,f,hr,hh⟩:=V.frz _ ht
  unfold cell? at x
  unfold frozenAt at hf
  rw [hh] at x hf
  simp only at x hf
  split at x
  · cases x
  · have:=(Array.getElem?_eq_some_iff.1 x).1
    simp at hf
    omega

theorem getElem?_modify' (h:Heap) (i j:Nat) (f:Obj→Obj):(h.modify i f)[j]?=if i=j then h[j]?.map f else h[j]?:=by
  rw [Array.getElem?_modify]

theorem Veil.modify (V:Veil S h r) {i:Nat} (f:Obj→Obj) (hs: ¬ S.dead i) (ht: ¬ S.still i):Veil S (h.modify i f) (r.modify i f):=by
  refine ⟨by simp [V.size],fun b hb hb'=>?_,fun b hb=>?_,fun b hb=>?_⟩
  · rw [getElem?_modify',getElem?_modify',V.same _ hb hb']
  · have hne:i≠b:=fun e=>hs (e ▸ hb)
    rw [getElem?_modify',if_neg hne]
    exact V.shun _ hb
  · have hne:i≠b:=fun e=>ht (e ▸ hb)
    rw [getElem?_modify',if_neg hne,getElem?_modify',if_neg hne]
    exact V.frz _ hb

theorem Veil.setCell (V:Veil S h r) {a:Addr} (v:Value) (hs: ¬ S.dead a.block) (ht: ¬ S.still a.block):Veil S (X.setCell h a v) (X.setCell r a v):=V.modify _ hs ht

theorem Veil.freeze (V:Veil S h r) {a:Addr} (n:Nat) (hs: ¬ S.dead a.block) (ht: ¬ S.still a.block):Veil S (freezeH h a n) (freezeH r a n):=by
  unfold freezeH
  split
  · exact V
  · exact V.modify _ hs ht

theorem Veil.lt (V:Veil S h r) {b:Nat} (hb:S.dead b):b<r.size:=by
  rw [← V.size];exact (Array.getElem?_eq_some_iff.1 (V.shun _ hb)).1
theorem Veil.lts (V:Veil S h r) {b:Nat} (hb:S.still b):b<r.size:=by
  obtain ⟨c,e,f,hr,_⟩:=V.frz _ hb
  exact (Array.getElem?_eq_some_iff.1 hr).1

theorem Veil.push (V:Veil S h r) (o:Obj):Veil S (h.push o) (r.push o):=by
  refine ⟨by simp [V.size],fun b hb hb'=>?_,fun b hb=>?_,fun b hb=>?_⟩
  · rw [Array.getElem?_push,Array.getElem?_push,V.size,V.same _ hb hb']
  · have:=V.lt hb
    rw [Array.getElem?_push,V.size,if_neg (by omega)]
    exact V.shun _ hb
  · have:=V.lts hb
    rw [Array.getElem?_push,Array.getElem?_push,V.size,if_neg (by omega),if_neg (by omega)]
    exact V.frz _ hb

theorem Veil.setObj (V:Veil S h r) {b:Nat} (o:Obj) (hs: ¬ S.dead b) (ht: ¬ S.still b):Veil S (h.setIfInBounds b o) (r.setIfInBounds b o):=by
  refine ⟨by simp [V.size],fun c hc hc'=>?_,fun c hc=>?_,fun c hc=>?_⟩
  · rw [Array.getElem?_setIfInBounds,Array.getElem?_setIfInBounds,V.size,V.same _ hc hc']
  · have hne:b≠c:=fun e=>hs (e ▸ hc)
    rw [Array.getElem?_setIfInBounds_ne hne]
    exact V.shun _ hc
  · have hne:b≠c:=fun e=>ht (e ▸ hc)
    rw [Array.getElem?_setIfInBounds_ne hne,Array.getElem?_setIfInBounds_ne hne]
    exact V.frz _ hc

theorem Veil.obj (V:Veil S h r) {b:Nat} {o:Obj} (hn: ∀ c e f,o= .cells c e f→False) (ho:h[b]?=some o): ¬ S.dead b∧ ¬ S.still b:=by
  refine ⟨fun hs=>?_,fun ht=>?_⟩
  · rw [V.shun _ hs] at ho
    exact hn _ _ _ (Option.some.inj ho).symm
  · obtain ⟨c,e,f,_,hh⟩:=V.frz _ ht
    rw [hh] at ho
    exact hn _ _ _ (Option.some.inj ho).symm

structure Keep (h h':Heap):Prop where
  size:h.size≤h'.size
  keep: ∀ b,b<h.size→h'[b]?=h[b]?

theorem Keep.refl (h:Heap):Keep h h:=⟨Nat.le_refl _,fun _ _=>rfl⟩
theorem Keep.trans {a b c:Heap} (x:Keep a b) (y:Keep b c):Keep a c:=⟨Nat.le_trans x.size y.size,fun i hi=>(y.keep i (Nat.lt_of_lt_of_le hi x.size)).trans (x.keep i hi)⟩

def ShunOf (S:Nat→Prop):Loc→Prop:=fun l=>∃ a:Addr,l= .cell a∧S a.block

structure Calm (w w':World):Prop where
  os:w'.os=w.os
  tape:w'.tape=w.tape
  output:w'.output=w.output
  size:w.heap.size≤w'.heap.size

theorem Calm.refl (w:World):Calm w w:=⟨rfl,rfl,rfl,Nat.le_refl _⟩
theorem Calm.trans {a b c:World} (x:Calm a b) (y:Calm b c):Calm a c:=
  ⟨y.os.trans x.os,y.tape.trans x.tape,y.output.trans x.output,Nat.le_trans x.size y.size⟩

structure Quiet (S:Vw) (w w':World):Prop where
  calm:Calm w w'
  stand: ∀ b,b<w.heap.size→S.dead b∨S.still b→w'.heap[b]?=w.heap[b]?

theorem Quiet.size {S:Vw} {w w':World} (x:Quiet S w w'):w.heap.size≤w'.heap.size:=x.calm.size
theorem Quiet.refl {S:Vw} (w:World):Quiet S w w:=⟨.refl w,fun _ _ _=>rfl⟩
theorem Quiet.trans {S:Vw} {a b c:World} (x:Quiet S a b) (y:Quiet S b c):Quiet S a c:=
  ⟨x.calm.trans y.calm,fun i hi z=>(y.stand i (Nat.lt_of_lt_of_le hi x.size) z).trans (x.stand i hi z)⟩

def EvX (S:Vw) (B:Nat) (e:Event):Prop:=
  match e.loc with
  | .cell a=>e.sync=false∧ ¬ S.dead a.block∧a.block<B∧(e.write=true→ ¬ S.still a.block)
  | .obj b=>e.sync=false∧ ¬ S.dead b∧b<B∧ ¬ S.still b
  | .mark m=>okMark m=true
  | _=>False

theorem wtx {S:Vw} {B B':Nat} (hB:B≤B') {e:Event} (x:EvX S B e):EvX S B' e:=by
  unfold EvX at x ⊢
  split at x
  · exact ⟨x.1,x.2.1,Nat.lt_of_lt_of_le x.2.2.1 hB,x.2.2.2⟩
  · exact ⟨x.1,x.2.1,Nat.lt_of_lt_of_le x.2.2.1 hB,x.2.2.2⟩
  · exact x
  · exact x.elim

theorem vbw {S:Vw} {B:Nat} {e:Event} (x:EvX S B e):EvL (ShunOf S.dead) B e:=by
  obtain ⟨loc,wr,sy⟩:=e
  unfold EvX at x
  split at x
  · rename_i a ha
    simp only at ha x;subst ha
    obtain ⟨rfl,hs,hb,_⟩:=x
    refine ⟨?_,by simp,by simp,hb⟩
    intro y hy hsh
    simp [MemAct.ofEvent,MemAct.touch?] at hy
    subst hy
    obtain ⟨b,hb',hsb⟩:=hsh
    cases hb'
    exact absurd hsb hs
  · rename_i b hb'
    simp only at hb' x;subst hb'
    obtain ⟨rfl,hs,hb,_⟩:=x
    refine ⟨?_,by simp,by simp,by simpa [MemAct.ofEvent,MemAct.low,Loc.low] using hb⟩
    intro y hy hsh
    simp [MemAct.ofEvent,MemAct.touch?] at hy
    subst hy
    obtain ⟨_,hb',_⟩:=hsh
    cases hb'
  · rename_i m hm
    simp only at hm;subst hm
    cases m <;> simp_all [okMark]
    all_goals
      refine ⟨?_,by simp,by simp,trivial⟩
      intro x hx
      simp [MemAct.ofEvent,MemAct.touch?] at hx
  · exact x.elim

theorem zjw {h:Heap} {a:Addr} {v:Value} {b:Nat} (hne:b≠a.block):(setCell h a v)[b]?=h[b]?:=by
  unfold setCell;rw [getElem?_modify',if_neg (Ne.symm hne)]
theorem zyz {h:Heap} {a:Addr} {n b:Nat} (hne:b≠a.block):(freezeH h a n)[b]?=h[b]?:=by
  unfold freezeH;split
  · rfl
  · rw [getElem?_modify',if_neg (Ne.symm hne)]

theorem ycw (s:Sem α): ∀ {h:Heap} {K:α→Heap→Prop} {w:World} (es₀:Array Event),wpS P s h K→Veil S h w.heap→
    ∃ a h' w' es,s.runT P w es₀=(.ok a w',es₀++es)∧s.run P w= .ok a w'∧K a h'∧Veil S h' w'.heap∧Quiet S w w'∧ ∀ e∈es,EvX S w'.heap.size e:=by
  induction s with
  | pure a=>exact fun {h K w} es₀ x V=>⟨a,h,w,#[],by simp [Sem.runT],rfl,x,V,.refl _,by simp⟩
  | load m a k ih=>
    intro h K w es₀ ⟨hm,v,hc,x⟩ V
    obtain ⟨hcr,hs⟩:=V.cell hc
    have hcw:w.cell? a=some v:=hcr
    obtain ⟨y,h',w',es,e1,e2,e3,e4,e5,e6⟩:=ih v (es₀.push ⟨.cell a,false,m == .atomic⟩) x V
    subst hm
    refine ⟨y,h',w',#[⟨.cell a,false,false⟩]++es,?_,?_,e3,e4,e5,?_⟩
    · simp only [Sem.runT,hcw,e1,Prod.mk.injEq,true_and]
      rw [← Array.append_assoc];congr 1
    · simp only [Sem.run,hcw,e2]
    · intro e he
      rcases Array.mem_append.1 he with he | he
      · simp at he;subst he
        exact ⟨rfl,hs,Nat.lt_of_lt_of_le (wkj hcr) e5.size,fun x=>by cases x⟩
      · exact e6 e he
  | store m a v k ih=>
    intro h K w es₀ ⟨hm,hv,⟨u,hu⟩,hf,x⟩ V
    obtain ⟨hur,hs⟩:=V.cell hu
    have huw:w.cell? a=some u:=hur
    have ht:=V.thaw hu hf
    have hfw:w.frozen? a=false:=(V.frozen hs ht).symm.trans hf
    have V':Veil S (X.setCell h a v) (w.setCell a v).heap:=V.setCell v hs ht
    obtain ⟨y,h',w',es,e1,e2,e3,e4,e5,e6⟩:=ih (es₀.push ⟨.cell a,true,m == .atomic⟩) x V'
    subst hm
    have hsz:(w.setCell a v).heap.size=w.heap.size:=by simp [World.setCell]
    refine ⟨y,h',w',#[⟨.cell a,true,false⟩]++es,?_,?_,e3,e4,⟨⟨e5.calm.os,e5.calm.tape,e5.calm.output,by rw [← hsz];exact e5.size⟩,fun b hb z=>(e5.stand b (by rw [hsz];exact hb) z).trans (zjw (h:=w.heap) fun e=>by subst e;exact z.elim hs ht)⟩,?_⟩
    · cases v <;> simp [isOne] at hv
      all_goals
        simp only [Sem.runT,huw,hfw,Bool.false_eq_true,if_false,e1,Prod.mk.injEq,true_and]
        rw [← Array.append_assoc];congr 1
    · cases v <;> simp [isOne] at hv
      all_goals simp only [Sem.run,huw,hfw,Bool.false_eq_true,if_false,e2]
    · intro e he
      rcases Array.mem_append.1 he with he | he
      · simp at he;subst he
        exact ⟨rfl,hs,Nat.lt_of_lt_of_le (wkj hur) (by rw [← hsz];exact e5.size),fun _=>ht⟩
      · exact e6 e he
  | new o k ih=>
    intro h K w es₀ x V
    have V':Veil S (h.push o) ({ w with heap:=w.heap.push o }:World).heap:=V.push o
    have x':wpS P (k w.heap.size) (h.push o) K:=by rw [← V.size];exact x
    obtain ⟨y,h',w',es,e1,e2,e3,e4,e5,e6⟩:=ih w.heap.size es₀ x' V'
    exact ⟨y,h',w',es,by simp only [Sem.runT,e1],by simp only [Sem.run,e2],e3,e4,⟨⟨e5.calm.os,e5.calm.tape,e5.calm.output,by have:=e5.size;simp at this;omega⟩,fun b hb z=>(e5.stand b (by simp;omega) z).trans (by simp only [Array.getElem?_push];rw [if_neg (by omega)])⟩,e6⟩
  | shape r k ih=>
    intro h K w es₀ x V
    unfold wpS at x
    have key: ∃ z,w.shape? r=z∧wpS P (k z) h K:=by
      split at x
      · rename_i c e f hr
        have hs: ¬ S.dead r:=by
          intro hs
          have hb:=V.shun _ hs
          rw [hr] at hb
          simp at hb
          have:=x.1
          rw [hb.1] at this
          simp at this
        refine ⟨_,?_,x.2⟩
        unfold World.shape?
        by_cases ht:S.still r
        · obtain ⟨c',e',f',hr',hh⟩:=V.frz _ ht
          rw [hh] at hr
          cases hr
          rw [hr']
        · rw [← V.same _ hs ht,hr]
      · rename_i hn
        refine ⟨_,?_,x⟩
        have hs: ¬ S.dead r:=by
          intro hs
          exact hn _ _ _ (V.shun _ hs)
        have ht: ¬ S.still r:=by
          intro ht
          obtain ⟨c',e',f',hr',hh⟩:=V.frz _ ht
          exact hn _ _ _ hh
        unfold World.shape?
        rw [← V.same _ hs ht]
        split
        · rename_i c e f hr
          exact absurd hr (hn _ _ _)
        · rfl
    obtain ⟨z,hz,x'⟩:=key
    obtain ⟨y,h',w',es,e1,e2,e3,e4,e5,e6⟩:=ih z es₀ x' V
    exact ⟨y,h',w',es,by simp only [Sem.runT,hz,e1],by simp only [Sem.run,hz,e2],e3,e4,e5,e6⟩
  | freeze a n k ih=>
    intro h K w es₀ ⟨⟨c,e,f,hc,hc0,hcf⟩,x⟩ V
    have hs:=V.seen ⟨c,e,f,hc,hc0⟩
    have ht: ¬ S.still a.block:=by
      intro ht
      obtain ⟨c',e',f',_,hh⟩:=V.frz _ ht
      rw [hh] at hc
      cases hc
      exact hcf rfl
    have hfz:(w.freeze a n).heap=freezeH w.heap a n:=by unfold World.freeze freezeH;split <;> rfl
    have V':Veil S (freezeH h a n) (w.freeze a n).heap:=by rw [hfz];exact V.freeze n hs ht
    obtain ⟨y,h',w',es,e1,e2,e3,e4,e5,e6⟩:=ih es₀ x V'
    have h1:(w.freeze a n).os=w.os:=by unfold World.freeze;split <;> rfl
    have h2:(w.freeze a n).tape=w.tape:=by unfold World.freeze;split <;> rfl
    have h3:(w.freeze a n).output=w.output:=by unfold World.freeze;split <;> rfl
    have h4:(w.freeze a n).heap.size=w.heap.size:=by unfold World.freeze;split <;> simp
    exact ⟨y,h',w',es,by simp only [Sem.runT,e1],by simp only [Sem.run,e2],e3,e4,⟨⟨e5.calm.os.trans h1,e5.calm.tape.trans h2,e5.calm.output.trans h3,by rw [← h4];exact e5.size⟩,fun b hb z=>(e5.stand b (by rw [h4];exact hb) z).trans (by rw [hfz];exact zyz fun e=>by subst e;exact z.elim hs ht)⟩,e6⟩
  | frozen a k ih=>
    intro h K w es₀ ⟨hsee,xt,xf⟩ V
    have x:wpS P (k (w.frozen? a)) h K:=by
      by_cases hc:(cell? h a).isSome=true∧frozenAt h a=false
      · obtain ⟨v,hv⟩:=Option.isSome_iff_exists.1 hc.1
        have hfw:w.frozen? a=false:=(V.frozen (V.seen hsee) (V.thaw hv hc.2)).symm.trans hc.2
        rw [hfw]
        exact xt hc
      · exact xf hc _
    obtain ⟨y,h',w',es,e1,e2,e3,e4,e5,e6⟩:=ih (w.frozen? a) es₀ x V
    exact ⟨y,h',w',es,by simp only [Sem.runT,e1],by simp only [Sem.run,e2],e3,e4,e5,e6⟩
  | getObj r k ih=>
    intro h K w es₀ x V
    unfold wpS at x
    split at x
    · exact x.elim
    · rename_i o hn ho
      obtain ⟨hs,ht⟩:=V.obj hn ho
      have how:w.heap[r]?=some o:=(V.same _ hs ht).symm.trans ho
      obtain ⟨y,h',w',es,e1,e2,e3,e4,e5,e6⟩:=ih o (es₀.push ⟨.obj r,false,o.isChan⟩) x.2 V
      refine ⟨y,h',w',#[⟨.obj r,false,false⟩]++es,?_,?_,e3,e4,e5,?_⟩
      · rw [x.1] at e1
        simp only [Sem.runT,how,x.1]
        cases o <;> first | exact absurd rfl (hn _ _ _) | (simp only [e1,Prod.mk.injEq,true_and];rw [← Array.append_assoc];congr 1)
      · simp only [Sem.run,how]
        cases o <;> first | exact absurd rfl (hn _ _ _) | exact e2
      · intro e he
        rcases Array.mem_append.1 he with he | he
        · simp at he;subst he
          exact ⟨rfl,hs,Nat.lt_of_lt_of_le (Array.getElem?_eq_some_iff.1 how).1 e5.size,ht⟩
        · exact e6 e he
    · exact x.elim
  | setObj r o k ih=>
    intro h K w es₀ x V
    unfold wpS at x
    split at x
    · exact x.elim
    · rename_i o' hn ho
      obtain ⟨hs,ht⟩:=V.obj hn ho
      have how:w.heap[r]?=some o':=(V.same _ hs ht).symm.trans ho
      have V':Veil S (h.setIfInBounds r o) ({ w with heap:=w.heap.setIfInBounds r o }:World).heap:=V.setObj o hs ht
      obtain ⟨y,h',w',es,e1,e2,e3,e4,e5,e6⟩:=ih (es₀.push ⟨.obj r,true,o.isChan⟩) x.2.2 V'
      have hsz:w.heap.size≤w'.heap.size:=by have:=e5.size;simp at this;exact this
      refine ⟨y,h',w',#[⟨.obj r,true,false⟩]++es,?_,?_,e3,e4,⟨⟨e5.calm.os,e5.calm.tape,e5.calm.output,hsz⟩,fun b hb z=>(e5.stand b (by simp;exact hb) z).trans (by simp only;rw [Array.getElem?_setIfInBounds_ne fun e=>by subst e;exact z.elim hs ht])⟩,?_⟩
      · rw [x.2.1] at e1
        simp only [Sem.runT,how,x.2.1]
        cases o' <;> first | exact absurd rfl (hn _ _ _) | (simp only [e1,Prod.mk.injEq,true_and];rw [← Array.append_assoc];congr 1)
      · simp only [Sem.run,how]
        cases o' <;> first | exact absurd rfl (hn _ _ _) | exact e2
      · intro e he
        rcases Array.mem_append.1 he with he | he
        · simp at he;subst he
          exact ⟨rfl,hs,Nat.lt_of_lt_of_le (Array.getElem?_eq_some_iff.1 how).1 hsz,ht⟩
        · exact e6 e he
    · exact x.elim
  | choose q k ih=>
    intro h K w es₀ x V
    unfold wpS at x
    by_cases hf:q.forced=true
    · rw [if_pos hf] at x
      obtain ⟨y,h',w',es,e1,e2,e3,e4,e5,e6⟩:=ih 0 es₀ x V
      exact ⟨y,h',w',es,by simp only [Sem.runT,hf,if_true,e1],by simp only [Sem.run,hf,if_true,e2],e3,e4,e5,e6⟩
    · rw [if_neg hf] at x
      have V':Veil S h ({ w with drawn:=w.drawn+1 }:World).heap:=V
      obtain ⟨y,h',w',es,e1,e2,e3,e4,e5,e6⟩:=ih _ es₀ (x (w.tape w.drawn q)) V'
      exact ⟨y,h',w',es,by simp only [Sem.runT,if_neg hf,e1],by simp only [Sem.run,if_neg hf,e2],e3,e4,⟨⟨e5.calm.os,e5.calm.tape,e5.calm.output,e5.size⟩,e5.stand⟩,e6⟩
  | sys c k ih=>exact fun es₀ x=>x.elim
  | program k ih=>
    intro h K w es₀ x V
    obtain ⟨y,h',w',es,e1,e2,e3,e4,e5,e6⟩:=ih P es₀ x V
    exact ⟨y,h',w',es,by simp only [Sem.runT,e1],by simp only [Sem.run,e2],e3,e4,e5,e6⟩
  | mark m k ih=>
    intro h K w es₀ ⟨hm,x⟩ V
    obtain ⟨y,h',w',es,e1,e2,e3,e4,e5,e6⟩:=ih (es₀.push ⟨.mark m,false,true⟩) x V
    refine ⟨y,h',w',#[⟨.mark m,false,true⟩]++es,?_,by simp only [Sem.run,e2],e3,e4,e5,?_⟩
    · simp only [Sem.runT,e1,Prod.mk.injEq,true_and]
      rw [← Array.append_assoc];congr 1
    · intro e he
      rcases Array.mem_append.1 he with he | he
      · simp at he;subst he;exact hm
      · exact e6 e he
  | halt h=>exact fun es₀ x=>x.elim
end
end Go.X
namespace Go.X
open Go.Conc
open Go.ConcN (sumTo upd sumTo_upd upd_ne upd_same)

structure Scene (P:Program) (S:Nat→Prop) (gs:Array Goroutine) (w:World) (t:Trace) (q:Nat→Nat) (g:Goroutine) (h:Heap):Prop where
  main:gs[0]?=some g
  leav:Leavers P t gs q
  past:Past (ShunOf S) w.heap.size t
  veil:Veil (.of S) h w.heap

inductive Md where
  | main (sp:Bool)
  | own (m:Bool)
  | lone

def Md.isMain:Md→Bool
  | .main _=>true
  | .own m=>m
  | .lone=>true

def Own (P:Program) (main:Bool) (g:Goroutine) (h:Heap) (K:Goroutine→Heap→Prop):Prop:=
  g.status= .running∧ ∀ h₁,Keep h h₁→ ∀ (S:Vw) (w:World),Veil S h₁ w.heap→
    ∃ g' h' w' es,stepG P main g w= .go g' w' es∧K g' h'∧Veil S h' w'.heap∧Quiet S w w'∧ ∀ e∈es,EvX S w'.heap.size e

theorem Own.mono {P:Program} {main:Bool} {g:Goroutine} {h:Heap} {K K':Goroutine→Heap→Prop} (x:Own P main g h K) (y: ∀ g h,K g h→K' g h):Own P main g h K':=
  ⟨x.1,fun h₁ k S w V=>by obtain ⟨g',h',w',es,a,b,c⟩:=x.2 h₁ k S w V;exact ⟨g',h',w',es,a,y _ _ b,c⟩⟩

def Reach (P:Program):Md→(g:Goroutine)→(h:Heap)→(Stop:Goroutine→Heap→Prop)→Prop
  | .main sp,g,h,Stop=>
    ∀ (S:Nat→Prop) (gs:Array Goroutine) (w:World) (sl:Option (Nat × Nat)) (t:Trace) (q:Nat→Nat),Scene P S gs w t q g h→
      ∃ (N:Nat) (S':Nat→Prop) (gs':Array Goroutine) (w':World) (sl':Option (Nat × Nat)) (t':Trace) (q':Nat→Nat) (g':Goroutine) (h':Heap),
        runNT P N (crowd gs w sl) t=(.next (crowd gs' w' sl'),t')∧Scene P S' gs' w' t' q' g' h'∧Stop g' h'∧Quiet (.of S) w w'∧
        (sp=false→gs'.size=gs.size)∧ ∀ b,S b→S' b
  | .own m,g,h,Stop=>∀ Z:Goroutine→Heap→Prop,(∀ g h,Stop g h→Z g h)→(∀ g h,Own P m g h Z→Z g h)→Z g h
  | .lone,g,h,Stop=>∀ w:World,w.heap=h→ ∃ g' w',Steps P (solo g w) (solo g' w')∧Stop g' w'.heap∧Calm w w'

theorem zqq {S:Vw} (w:World) (d:Nat):Quiet S w (w.at d):=⟨⟨rfl,rfl,rfl,Nat.le_refl _⟩,fun _ _ _=>rfl⟩
theorem Quiet.mono {S S':Vw} {w w':World} (x:Quiet S w w') (h: ∀ b,S'.dead b∨S'.still b→S.dead b∨S.still b):Quiet S' w w':=⟨x.calm,fun b hb y=>x.stand b hb (h b y)⟩
theorem Quiet.of {S S':Nat→Prop} {w w':World} (x:Quiet (.of S) w w') (h: ∀ b,S' b→S b):Quiet (.of S') w w':=x.mono fun b y=>y.imp (h b) id

section
variable {P:Program} {md:Md} {sp:Bool} {g:Goroutine} {h:Heap} {Stop Stop':Goroutine→Heap→Prop}

theorem zww (x:Stop g h):Reach P md g h Stop:=by
  cases md with
  | main sp=>exact fun S gs w sl t q sc=>⟨0,S,gs,w,sl,t,q,g,h,rfl,sc,x,.refl _,fun _=>rfl,fun _ y=>y⟩
  | own m=>exact fun Z z1 _=>z1 _ _ x
  | lone=>exact fun w hw=>⟨g,w,.refl _ _,hw ▸ x,.refl _⟩

theorem ypw (x:Own P true g h fun g' h'=>Reach P (.main sp) g' h' Stop):Reach P (.main sp) g h Stop:=by
  obtain ⟨hrun,hown⟩:=x
  intro S gs w sl t q sc
  suffices H: ∀ (M:Nat) (gs:Array Goroutine) (w:World) (sl:Option (Nat × Nat)) (t:Trace) (q:Nat→Nat),sumTo gs.size q≤M→Scene P S gs w t q g h→
      ∃ (N:Nat) (S':Nat→Prop) (gs':Array Goroutine) (w':World) (sl':Option (Nat × Nat)) (t':Trace) (q':Nat→Nat) (g':Goroutine) (h':Heap),
        runNT P N (crowd gs w sl) t=(.next (crowd gs' w' sl'),t')∧Scene P S' gs' w' t' q' g' h'∧Stop g' h'∧Quiet (.of S) w w'∧
        (sp=false→gs'.size=gs.size)∧ ∀ b,S b→S' b from H _ gs w sl t q (Nat.le_refl _) sc
  intro M
  induction M using Nat.strongRecOn with
  | _ M ih=>
    intro gs w sl t q hM sc
    obtain ⟨h0,hL,hP,hV⟩:=sc
    have haw: ∀ g∈gs,awake g:=by
      intro y hy
      obtain ⟨i,hi,rfl⟩:=Array.mem_iff_getElem.1 hy
      rcases Nat.eq_zero_or_pos i with rfl | hpos
      · have:gs[0]=g:=by simpa [Array.getElem?_eq_getElem hi] using h0
        rw [this];exact awake_of (.inl hrun)
      · exact awake_of ((hL.old i _ hpos (Array.getElem?_eq_getElem hi)).status.elim .inl fun x=>.inr (.inr x))
    obtain ⟨i,a,d,sl',hi,ha,hst⟩:=crowd_pick (P:=P) (w:=w) (sl:=sl) haw ⟨0,g,h0,hrun⟩
    rcases Nat.eq_zero_or_pos i with rfl | hpos
    · obtain rfl:a=g:=by rw [h0] at hi;exact (Option.some.inj hi).symm
      obtain ⟨g',h',w',es,hgo,hK,hV',hc,hes⟩:=hown h (.refl _) (.of S) (w.at d) hV
      have hrunT:=runT_crowd_go (P:=P) (sl:=sl') (i:=0) hi (show stepG P (0 == 0) a (w.at d)=_ from hgo)
      have hsz:((gs.map (woken P a g' w')).setIfInBounds 0 g').size=gs.size:=by simp
      have hlt:0<gs.size:=(Array.getElem?_eq_some_iff.1 h0).1
      have sc':Scene P S ((gs.map (woken P a g' w')).setIfInBounds 0 g') w' (t++MemOp.ofEvents 0 a.frame.fn a.frame.place es) q g' h':=by
        refine ⟨by simp [hlt],⟨fun j x hj hx=>?_,fun j hj=>?_⟩,(hP.mono hc.size).own fun e he=>vbw (hes e he),hV'⟩
        · have hne:0≠j:=by omega
          rw [Array.getElem?_setIfInBounds_ne hne,Array.getElem?_map] at hx
          obtain ⟨y,hy,rfl⟩:=Option.map_eq_some_iff.1 hx
          have hq:=hL.old j y hj hy
          rw [woken_quitsD hq,Deaf_other t (by omega) _ (fun op hop=>by obtain ⟨e,_,rfl⟩:=Go.Conc.mem_ofEvents hop;rfl)]
          exact hq
        · rw [Deaf_other t (g':=0) (by simp at hj;omega) _ (fun op hop=>by obtain ⟨e,_,rfl⟩:=Go.Conc.mem_ofEvents hop;rfl)]
          exact hL.above j (by simpa using hj)
      obtain ⟨N,S2,gs2,w2,sl2,t2,q2,g2,h2,a2,b2,c2,d2,e2,f2⟩:=hK S _ w' sl' _ q sc'
      refine ⟨N+1,S2,gs2,w2,sl2,t2,q2,g2,h2,by simp only [runNT,hst,hrunT];exact a2,b2,c2,((zqq w d).trans hc).trans d2,fun z=>(e2 z).trans hsz,f2⟩
    · have hq:=hL.old i a hpos hi
      have hi0:(i == 0)=false:=by simp;omega
      have hlt:i<gs.size:=(Array.getElem?_eq_some_iff.1 hi).1
      cases hqi:q i with
      | zero=>rw [hqi] at hq;rw [hq.1] at ha;cases ha
      | succ k=>
        rw [hqi] at hq
        rcases hq with ⟨hf,_⟩ | ⟨_,g',es,hm,hstp,hq'⟩
        · rw [hf] at ha;cases ha
        have hrunT:=runT_crowd_go (P:=P) (sl:=sl') (i:=i) hi (by rw [hi0];exact hstp (w.at d))
        have hsz:((gs.map (woken P a g' (w.at d))).setIfInBounds i g').size=gs.size:=by simp
        have hsum:sumTo gs.size (upd q i k)+(k+1)=sumTo gs.size q+k:=by
          have:=sumTo_upd q k id hlt
          simpa [hqi] using this
        have sc':Scene P S ((gs.map (woken P a g' (w.at d))).setIfInBounds i g') (w.at d) (t++MemOp.ofEvents i a.frame.fn a.frame.place es) (upd q i k) g h:=by
          refine ⟨?_,⟨fun j x hj hx=>?_,fun j hj=>?_⟩,hP.mute (by omega) hm,hV⟩
          · have hne:i≠0:=by omega
            rw [Array.getElem?_setIfInBounds_ne hne,Array.getElem?_map,h0]
            simp [woken_run hrun]
          · by_cases hji:i=j
            · subst hji
              rw [Array.getElem?_setIfInBounds_self_of_lt (by simpa using hlt)] at hx
              obtain rfl:=Option.some.inj hx
              rw [upd_same,Deaf_own]
              exact hq'
            · rw [Array.getElem?_setIfInBounds_ne hji,Array.getElem?_map] at hx
              obtain ⟨y,hy,rfl⟩:=Option.map_eq_some_iff.1 hx
              have hqj:=hL.old j y hj hy
              rw [woken_quitsD hqj,upd_ne q k (Ne.symm hji),Deaf_other t hji _ (fun op hop=>by obtain ⟨e,_,rfl⟩:=Go.Conc.mem_ofEvents hop;rfl)]
              exact hqj
          · rw [Deaf_other t (g':=i) (by simp at hj;omega) _ (fun op hop=>by obtain ⟨e,_,rfl⟩:=Go.Conc.mem_ofEvents hop;rfl)]
            exact hL.above j (by simpa using hj)
        obtain ⟨N,S2,gs2,w2,sl2,t2,q2,g2,h2,a2,b2,c2,d2,e2,f2⟩:=ih (sumTo gs.size (upd q i k)) (by omega) _ (w.at d) sl' _ (upd q i k) (by rw [hsz];exact Nat.le_refl _) sc'
        exact ⟨N+1,S2,gs2,w2,sl2,t2,q2,g2,h2,by simp only [runNT,hst,hrunT];exact a2,b2,c2,(zqq w d).trans d2,fun z=>(e2 z).trans hsz,f2⟩

theorem wbz {g g':Goroutine} {w w':World} {es:Array Event} (hr:g.status= .running) (x:stepG P true g w= .go g' w' es):step P (solo g w)= .next (solo g' w'):=by
  rw [step,stepT_solo hr,runT_solo_go x]

theorem yqq (x:Own P true g h fun g' h'=>Reach P .lone g' h' Stop):Reach P .lone g h Stop:=by
  obtain ⟨hr,ho⟩:=x
  rintro w rfl
  obtain ⟨g',h',w',es,e,k,V,q,_⟩:=ho w.heap (.refl _) (.of fun _=>False) w (.refl _)
  obtain rfl:h'=w'.heap:=by
    apply Array.ext_getElem?
    exact fun i=>V.same i (fun z=>z) (fun z=>z)
  obtain ⟨g2,w2,a2,b2,c2⟩:=k w' rfl
  exact ⟨g2,w2,.head (wbz hr e) a2,b2,q.calm.trans c2⟩

theorem xsx (x:Own P md.isMain g h fun g' h'=>Reach P md g' h' Stop):Reach P md g h Stop:=by
  cases md with
  | main sp=>exact ypw x
  | own m=>exact fun Z z1 z2=>z2 _ _ (x.mono fun g' h' r=>r Z z1 z2)
  | lone=>exact yqq x
end
end Go.X
namespace Go.X
open Go.Conc

def F (b:Frame) (tm:Array Value) (df:List Deferred) (k:List Item):Frame:={ b with tmps:=tm,defers:=df,todo:=k,mode:=.run }
def FR (b:Frame) (tm:Array Value) (df:List Deferred) (k:List Item):Frame:={ b with tmps:=tm,defers:=df,todo:=k,mode:=.returning }

def ev (tm:Array Value):Operand→Value
  | .tmp t=>tm.getD t undef
  | .const v=>v
  | .global g=>.pointer (some ⟨g,0,none⟩)
  | .func f=>.func (.func f) #[] #[]

def put (tm:Array Value) (dst:Option Tmp) (v:Value):Array Value:=
  match dst with
  | some d=>tm.setIfInBounds d v
  | none=>tm

class Stb (Φ:Heap→Prop):Prop where
  stb: ∀ h h',Φ h→Keep h h'→Φ h'

def RS (P:Program) (md:Md) (g:Goroutine) (Φ:Heap→Prop) (Stop:Goroutine→Heap→Prop):Prop:=∀ h,Φ h→Reach P md g h Stop

instance {α:Type} {Φ:α→Heap→Prop} [s: ∀ x,Stb (Φ x)]:Stb (fun h=>∃ x,Φ x h):=⟨fun h h' ⟨x,y⟩ k=>⟨x,(s x).stb h h' y k⟩⟩
instance {c:Prop} {Φ:Heap→Prop} [s:Stb Φ]:Stb (fun h=>c∧Φ h):=⟨fun h h' ⟨x,y⟩ k=>⟨x,s.stb h h' y k⟩⟩
theorem xhq {α:Type} {P:Program} {md:Md} {g:Goroutine} {Ψ:α→Heap→Prop} {Stop:Goroutine→Heap→Prop} (n: ∀ x,RS P md g (Ψ x) Stop):RS P md g (fun h=>∃ x,Ψ x h) Stop:=fun h ⟨x,y⟩=>n x h y
theorem xcz {c:Prop} {P:Program} {md:Md} {g:Goroutine} {Φ:Heap→Prop} {Stop:Goroutine→Heap→Prop} (n:c→RS P md g Φ Stop):RS P md g (fun h=>c∧Φ h) Stop:=fun h ⟨x,y⟩=>n x h y

section
variable {P:Program} {md:Md} {b:Frame} {tm:Array Value} {df:List Deferred} {k:List Item} {cs:List Frame} {h:Heap} {Φ:Heap→Prop} {Stop:Goroutine→Heap→Prop}

theorem wjz:(F b tm df k).eval=ev tm:=by funext x;cases x <;> rfl

theorem xzw {S:Vw} {fn:FuncId} {B:Nat} {es:Array Event} (x: ∀ e∈es,EvX S B e): ∀ e∈seen P fn es,EvX S B e:=by
  unfold seen
  refine Array.foldl_induction (motive:=fun _ (s:Bool × Array Event)=>∀ e∈s.2,EvX S B e) (by simp) ?_
  rintro i ⟨q,kept⟩ hs
  simp only at hs ⊢
  split
  · exact hs
  · simp only
    split
    · exact hs
    · intro e he
      rcases Array.mem_push.1 he with he | rfl
      · exact hs e he
      · exact x _ (Array.getElem_mem _)

theorem yjq [hs:Stb Φ] {g g':Goroutine} (hr:g.status= .running) (he: ∀ w,stepG P md.isMain g w= .go g' w #[]) (x:RS P md g' Φ Stop):RS P md g Φ Stop:=
  fun h y=>xsx ⟨hr,fun h₁ k₁ S w V=>⟨g',h₁,w,#[],he w,x h₁ (hs.stb _ _ y k₁),V,.refl _,by simp⟩⟩

section
variable [Stb Φ]
theorem vfq {x y:Code} (r:RS P md (G (F b tm df (.code x:: .code y::k)) cs) Φ Stop):RS P md (G (F b tm df (.code (.seq x y)::k)) cs) Φ Stop:=
  yjq rfl (fun w=>by simp [G,stepG,stepG.exec,F]) r
theorem wyw (r:RS P md (G (F b tm df k) cs) Φ Stop):RS P md (G (F b tm df (.code .skip::k)) cs) Φ Stop:=
  yjq rfl (fun w=>by simp [G,stepG,stepG.exec,F]) r
theorem zwj {id:Nat} (r:RS P md (G (F b tm df k) cs) Φ Stop):RS P md (G (F b tm df (.inBlock id::k)) cs) Φ Stop:=
  yjq rfl (fun w=>by simp [G,stepG,stepG.exec,F]) r
theorem woj {id:Nat} {c:Code} (r:RS P md (G (F b tm df (.code c:: .inBlock id::k)) cs) Φ Stop):RS P md (G (F b tm df (.code (.block id c)::k)) cs) Φ Stop:=
  yjq rfl (fun w=>by simp [G,stepG,stepG.exec,F]) r
theorem zkx {c:Code} (r:RS P md (G (F b tm df (.code c:: .inLoop c::k)) cs) Φ Stop):RS P md (G (F b tm df (.code (.loop c)::k)) cs) Φ Stop:=
  yjq rfl (fun w=>by simp [G,stepG,stepG.exec,F]) r
theorem zeq {c:Code} (r:RS P md (G (F b tm df (.code c:: .inLoop c::k)) cs) Φ Stop):RS P md (G (F b tm df (.inLoop c::k)) cs) Φ Stop:=
  yjq rfl (fun w=>by simp [G,stepG,stepG.exec,F]) r
theorem wzq {id:Nat} {k':List Item} (hk:exitTo id k=some k') (r:RS P md (G (F b tm df k') cs) Φ Stop):RS P md (G (F b tm df (.code (.exit id)::k)) cs) Φ Stop:=
  yjq rfl (fun w=>by simp [G,stepG,stepG.exec,F,hk]) r
theorem wzx {c:Operand} {x y:Code} {t:Bool} (hc:ev tm c= .bool t) (r:RS P md (G (F b tm df (.code (if t then x else y)::k)) cs) Φ Stop):
    RS P md (G (F b tm df (.code (.cond c x y)::k)) cs) Φ Stop:=
  yjq rfl (fun w=>by
    have h':(F b tm df (.code (.cond c x y)::k)).eval c= .bool t:=by rw [wjz];exact hc
    simp only [F] at h'
    simp [G,stepG,stepG.exec,F,h']) r
theorem wcz {id:Nat} {ops:Array Oper} (r:RS P md (G (F b tm df (.inRegion ops (List.range ops.size)::k)) cs) Φ Stop):
    RS P md (G (F b tm df (.code (.region id ops false)::k)) cs) Φ Stop:=
  yjq rfl (fun w=>by simp [G,stepG,stepG.exec,F]) r
theorem yxj {ops:Array Oper} (r:RS P md (G (F b tm df k) cs) Φ Stop):RS P md (G (F b tm df (.inRegion ops []::k)) cs) Φ Stop:=
  yjq rfl (fun w=>by simp [G,stepG,stepG.exec,F]) r
theorem yxv {id:Nat} {ops:Array Oper} (r: ∀ t,RS P md (G (F b tm df (.inRegion ops (Region.schedule (P.follows .mixedOrders) ops t)::k)) cs) Φ Stop):
    RS P md (G (F b tm df (.code (.region id ops true)::k)) cs) Φ Stop:=
  fun h y=>xsx ⟨rfl,fun h₁ k₁ S w V=>⟨_,h₁,{ w with drawn:=w.drawn+1 },#[],by
    simp [G,stepG,stepG.exec,F,choose,Sem.run,Question.forced,Question.cut],r (w.tape w.drawn (.order b.fn id)) h₁ (Stb.stb _ _ y k₁),V,⟨⟨rfl,rfl,rfl,Nat.le_refl _⟩,fun _ _ _=>rfl⟩,by simp⟩⟩
theorem yxk {ops:Array Oper} {i:Nat} {rest:List Nat} {o:Oper} (ho:ops[i]?=some o) (hw:Region.wanted o (yielded ops tm)=false)
    (r:RS P md (G (F b (put tm o.dst undef) df (.inRegion ops rest::k)) cs) Φ Stop):RS P md (G (F b tm df (.inRegion ops (i::rest)::k)) cs) Φ Stop:=
  yjq rfl (fun w=>by
    simp only [G,stepG,stepG.exec,F,ho,Option.map_some,hw,Option.getD_some,Frame.finish,Option.bind_some,put]
    rfl) r

theorem xjv {ops:Array Oper} {i:Nat} {rest:List Nat} {o:Oper} (ho:ops[i]?=some o) (v:Value):
    (F b tm df (.inRegion ops (i::rest)::k)).finish v=F b (put tm o.dst v) df (.inRegion ops rest::k):=by
  simp only [Frame.finish,F,ho,Option.bind_some,put]
  cases o.dst <;> rfl

def Upon (P:Program) (md:Md) (fr:Frame) (cs:List Frame) (Stop:Goroutine→Heap→Prop):Next→Heap→Prop
  | .value v,h=>Reach P md (G (fr.finish v) cs) h Stop
  | .skip,h=>Reach P md (G (fr.finish undef) cs) h Stop
  | .enter f args,h=>Reach P md (G (Frame.enter P f args .normal) (fr::cs)) h Stop
  | .round l f tmps assign body,h=>Reach P md (G (Frame.round l f tmps assign body .normal) (fr::cs)) h Stop
  | _,_=>False

theorem zpw {fr:Frame} {s:Sem Next} (hk:fr.kind≠ .early) (hnc:(match fr.todo with | .call _ true _ _::_=>false | _=>true)=true)
    (hs: ∀ w,stepG P md.isMain (G fr cs) w=stepG.apply P true fr cs none s w) (x: ∀ h,Φ h→wpS P s h (Upon P md fr cs Stop)):RS P md (G fr cs) Φ Stop:=by
  intro h y
  refine xsx ⟨rfl,fun h₁ k₁ S w V=>?_⟩
  obtain ⟨n,h',w',es,e1,e2,e3,e4,e5,e6⟩:=ycw s #[] (x h₁ (Stb.stb _ _ y k₁)) V
  have hk':(fr.kind == CallKind.early)=false:=by simpa using hk
  rw [hs w]
  simp only [Array.empty_append] at e1
  cases n <;> first | exact e3.elim | skip
  all_goals
    refine ⟨_,h',w',seen P fr.fn es,?_,e3,e4,e5,xzw e6⟩
    simp only [stepG.apply,if_true,e1,hk',Bool.false_eq_true,if_false,GStep.after,G,Array.append_empty]
    try
      split
      · rename_i he;rw [he] at hnc;simp at hnc
      · rfl

theorem zdw {ops:Array Oper} {i:Nat} {rest:List Nat} {o:Oper} (ho:ops[i]?=some o) (hw:Region.wanted o (yielded ops tm)=true) (hk:b.kind≠ .early)
    (hnd:b.roundOf=none∨(match o.op with | .defer _=>false | _=>true)=true)
    (x: ∀ h,Φ h→wpS P (execOp (ev tm) o) h (Upon P md (F b tm df (.inRegion ops (i::rest)::k)) cs Stop)):
    RS P md (G (F b tm df (.inRegion ops (i::rest)::k)) cs) Φ Stop:=by
  refine zpw hk rfl (fun w=>?_) x
  have he:Frame.eval (F b tm df (.inRegion ops (i::rest)::k))=ev tm:=wjz
  simp only [F] at he
  simp only [G,stepG,stepG.exec,F,ho,Option.map_some,hw,Option.getD_some,if_true,stepG.oper,Frame.oper?,he]
  rcases hnd with hn | hn
  · rw [hn]
  · cases hrn:b.roundOf with
    | none=>rfl
    | some l=>
      revert hn
      cases o.op <;> simp

theorem vew {ops:Array Oper} {i:Nat} {rest:List Nat} {o:Oper} (ho:ops[i]?=some o) (hw:Region.wanted o (yielded ops tm)=true) (hk:b.kind≠ .early)
    (hnd:(match o.op with | .defer _=>false | _=>true)=true)
    (x: ∀ h,Φ h→wpS P (execOp (ev tm) o) h fun n h'=>∃ v,n= .value v∧Reach P md (G (F b (put tm o.dst v) df (.inRegion ops rest::k)) cs) h' Stop):
    RS P md (G (F b tm df (.inRegion ops (i::rest)::k)) cs) Φ Stop:=
  zdw ho hw hk (.inr hnd) fun h y=>xlz (x h y) fun n h' ⟨v,e,r⟩=>by subst e;show Reach P md (G ((F b tm df _).finish v) cs) h' Stop;rw [xjv ho];exact r
theorem wyv {ops:Array Oper} {i:Nat} {rest:List Nat} {o:Oper} (ho:ops[i]?=some o) (hw:Region.wanted o (yielded ops tm)=true) (hk:b.kind≠ .early)
    (hnd:(match o.op with | .defer _=>false | _=>true)=true)
    (x: ∀ h,Φ h→wpS P (execOp (ev tm) o) h fun n h'=>n= .skip∧Reach P md (G (F b (put tm o.dst undef) df (.inRegion ops rest::k)) cs) h' Stop):
    RS P md (G (F b tm df (.inRegion ops (i::rest)::k)) cs) Φ Stop:=
  zdw ho hw hk (.inr hnd) fun h y=>xlz (x h y) fun n h' ⟨e,r⟩=>by subst e;show Reach P md (G ((F b tm df _).finish undef) cs) h' Stop;rw [xjv ho];exact r

def CallsX (P:Program) (md:Md) (f:FuncId) (args:Array Value) (h:Heap) (R:Value→Heap→Prop):Prop:=
  ∀ (c:Frame) (cs:List Frame) (Stop:Goroutine→Heap→Prop),(∀ v h',R v h'→Reach P md (G (c.finish v) cs) h' Stop)→
    Reach P md (G (Frame.enter P f args .normal) (c::cs)) h Stop

theorem CallsX.mono {f:FuncId} {args:Array Value} {R R':Value→Heap→Prop} (x:CallsX P md f args h R) (y: ∀ v h',R v h'→R' v h'):CallsX P md f args h R':=
  fun c cs Stop z=>x c cs Stop fun v h' r=>z v h' (y v h' r)

theorem wzz {ops:Array Oper} {i:Nat} {rest:List Nat} {o:Oper} {f:FuncId} {args:Array Value} {R:Value→Heap→Prop}
    (ho:ops[i]?=some o) (hw:Region.wanted o (yielded ops tm)=true) (hk:b.kind≠ .early)
    (hnd:(match o.op with | .defer _=>false | _=>true)=true)
    (x: ∀ h,Φ h→wpS P (execOp (ev tm) o) h fun n h'=>n= .enter f args∧h'=h) (c: ∀ h,Φ h→CallsX P md f args h R)
    (r: ∀ v h',R v h'→Reach P md (G (F b (put tm o.dst v) df (.inRegion ops rest::k)) cs) h' Stop):
    RS P md (G (F b tm df (.inRegion ops (i::rest)::k)) cs) Φ Stop:=
  zdw ho hw hk (.inr hnd) fun h y=>xlz (x h y) fun n h' ⟨e,eh⟩=>by
    subst e;subst eh
    exact c _ y _ _ _ fun v h' q=>by rw [xjv ho];exact r v h' q

theorem ypz {c:Frame} {fn:Func} {td:List Item} (hf:P.funcs[b.fn]?=some fn) (hk:b.kind= .normal)
    (x: ∀ h,Φ h→wpS P (results fn tm) h fun v h'=>Reach P md (G (c.finish v) cs) h' Stop):RS P md (G (FR b tm [] td) (c::cs)) Φ Stop:=by
  intro h y
  refine xsx ⟨rfl,fun h₁ k₁ S w V=>?_⟩
  obtain ⟨v,h',w',es,e1,e2,e3,e4,e5,e6⟩:=ycw (results fn tm) #[] (x h₁ (Stb.stb _ _ y k₁)) V
  refine ⟨_,h',w',seen P b.fn es,?_,e3,e4,e5,xzw e6⟩
  simp only [Array.empty_append] at e1
  simp only [G,stepG,unwind,FR,hf,e1,doReturn,hk,GStep.after,Array.append_empty]

theorem zex {c:Frame} {td:List Item} {r:Nat} {ds:List Deferred} (hr: ∀ h,Φ h→h[r]?=some (.deferred (some [])))
    (x: ∀ h,Φ h→Reach P md (G (FR b tm ds td) (c::cs)) (h.setIfInBounds r (.deferred none)) Stop):RS P md (G (FR b tm ({ target:=.collected r,args:=#[] }::ds) td) (c::cs)) Φ Stop:=by
  intro h y
  refine xsx ⟨rfl,fun h₁ k₁ S w V=>?_⟩
  have y₁:=Stb.stb _ _ y k₁
  have hr₁:=hr h₁ y₁
  have hx:wpS P (Instr.takeDeferred r) h₁ fun l h'=>l=[]∧h'=h₁.setIfInBounds r (.deferred none):=by
    unfold Instr.takeDeferred
    refine xbz ?_
    simp only [getObj,wpS,hr₁]
    refine ⟨rfl,?_⟩
    refine xbz ?_
    simp only [setObj,wpS,hr₁]
    refine ⟨rfl,rfl,?_⟩
    exact xbv ⟨rfl,rfl⟩
  obtain ⟨v,h',w',es,e1,e2,⟨rfl,rfl⟩,e4,e5,e6⟩:=ycw _ #[] hx V
  refine ⟨_,_,w',seen P b.fn es,?_,x h₁ y₁,e4,e5,xzw e6⟩
  simp only [Array.empty_append] at e1
  simp only [G,stepG,unwind,FR,e1,GStep.after,Array.append_empty,List.nil_append]

theorem wcx {hro:b.roundOf=none} (x: ∀ td,RS P md (G (FR b tm df td) cs) Φ Stop):RS P md (G (F b tm df (.code .ret::k)) cs) Φ Stop:=
  yjq rfl (fun w=>by simp [G,stepG,stepG.exec,F,FR,hro]) (x (.code .ret::k))
theorem vfx {hro:b.roundOf=none} (x: ∀ td,RS P md (G (FR b tm df td) cs) Φ Stop):RS P md (G (F b tm df []) cs) Φ Stop:=
  yjq rfl (fun w=>by simp [G,stepG,stepG.exec,F,FR,hro]) (x [])
end
end
end Go.X
namespace Go.X
open Go.Conc

inductive Rd where
  | none
  | some (l:Nat)
  | dfd
def Rd.round:Rd→Option Nat
  | .some l=>Option.some l
  | _=>Option.none
def Rd.kind:Rd→CallKind
  | .dfd=>.deferred
  | _=>.normal
def B (f:FuncId) (r:Rd):Frame:={ fn:=f,tmps:=#[],todo:=[],defers:=[],mode:=.run,kind:=r.kind,roundOf:=r.round }
theorem yix {f:FuncId} {r:Rd}:(B f r).kind≠ .early:=by cases r <;> simp [B,Rd.kind]
def FL (f:FuncId) (r:Rd) (tm:List Value) (df:List Deferred) (k:List Item):Frame:=F (B f r) tm.toArray df k

def evl (tm:List Value):Operand→Value
  | .tmp t=>tm.getD t undef
  | .const v=>v
  | .global g=>.pointer (some ⟨g,0,none⟩)
  | .func f=>.func (.func f) #[] #[]

def putl (tm:List Value) (dst:Option Tmp) (v:Value):List Value:=
  match dst with
  | some d=>tm.set d v
  | none=>tm

theorem xpw (tm:List Value):ev tm.toArray=evl tm:=by
  funext x
  cases x <;> simp [ev,evl,Array.getD_eq_getD_getElem?,List.getD_eq_getElem?_getD]

theorem xjk (tm:List Value) (dst:Option Tmp) (v:Value):put tm.toArray dst v=(putl tm dst v).toArray:=by
  cases dst <;> simp [put,putl]

def yieldl (ops:List Oper) (tm:List Value) (j:Nat):Option Bool:=
  match ((ops[j]?).bind (·.dst)).bind (tm[·]?) with
  | some (.bool b)=>some b
  | _=>none

def Met (ops:List Oper) (tm:List Value) (o:Oper) (t:Bool):Prop:=
  match o.guard with
  | none=>t=true
  | some (j,want)=>(yieldl ops tm j == some want)=t

theorem yox (ops:List Oper) (tm:List Value):yielded ops.toArray tm.toArray=yieldl ops tm:=by
  funext j;simp [yielded,yieldl];rfl

theorem xlj {ops:List Oper} {tm:List Value} {o:Oper} {t:Bool} (m:Met ops tm o t):Region.wanted o (yielded ops.toArray tm.toArray)=t:=by
  rw [yox]
  unfold Met at m
  unfold Region.wanted
  split at m
  · rename_i e;rw [e];exact m.symm
  · rename_i e;rw [e];exact m

theorem xzj {ops:List Oper} {tm:List Value} {o:Oper} (h:o.guard=none):Met ops tm o true:=by unfold Met;rw [h]
theorem wqq {ops:List Oper} {tm:List Value} {o:Oper} {j:Nat} {want b:Bool} (h:o.guard=some (j,want)) (hy:yieldl ops tm j=some b) (hb:b=want):Met ops tm o true:=by
  unfold Met;rw [h];subst hb;simp only [hy,beq_self_eq_true]
theorem vav {ops:List Oper} {tm:List Value} {o:Oper} {j:Nat} {want b:Bool} (h:o.guard=some (j,want)) (hy:yieldl ops tm j=some b) (hb:b= !want):Met ops tm o false:=by
  unfold Met;rw [h];subst hb;simp only [hy];cases want <;> rfl
theorem xew {ops:List Oper} {tm:List Value} {o:Oper} {j:Nat} {want:Bool} (h:o.guard=some (j,want)) (hy:yieldl ops tm j=none):Met ops tm o false:=by
  unfold Met;rw [h];simp only [hy];rfl

def Ex (P:Program) (tm:List Value) (o:Oper) (h:Heap) (K:Value→Heap→Prop):Prop:=
  wpS P (execOp (evl tm) o) h fun n h'=>∃ v,n= .value v∧K v h'
def Exd (P:Program) (tm:List Value) (o:Oper) (h:Heap) (v:Value):Prop:=Ex P tm o h fun v' h'=>v'=v∧h'=h

def noDefer:Op→Bool
  | .defer _=>false
  | _=>true

section
variable (P:Program) (md:Md) (f:FuncId) (r:Rd) (df:List Deferred) (k:List Item) (cs:List Frame) (Stop:Goroutine→Heap→Prop)
def RL (ops rest:List Oper) (tm:List Value) (Φ:Heap→Prop):Prop:=
  ∀ pre,ops=pre++rest→RS P md (G (FL f r tm df (.inRegion ops.toArray (List.range' pre.length rest.length)::k)) cs) Φ Stop
end

section
variable {P:Program} {md:Md} {f:FuncId} {r:Rd} {df:List Deferred} {k:List Item} {cs:List Frame} {Stop:Goroutine→Heap→Prop}
  {ops rest:List Oper} {tm tm':List Value} {h:Heap} {Φ:Heap→Prop} {o:Oper}

theorem xbq [Stb Φ] {id:Nat} {l:List Oper} (x:RL P md f r df k cs Stop l l tm Φ):RS P md (G (FL f r tm df (.code (.region id l.toArray false)::k)) cs) Φ Stop:=by
  refine wcz ?_
  have:=x [] rfl
  simpa [FL,List.range_eq_range'] using this

theorem xak [Stb Φ] (x:RS P md (G (FL f r tm df k) cs) Φ Stop):RL P md f r df k cs Stop ops [] tm Φ:=
  fun _ _=>yxj x

theorem zwv {pre:List Oper} (e:ops=pre++o::rest):ops.toArray[pre.length]?=some o:=by subst e;simp

theorem ypj {pre:List Oper}:List.range' pre.length (o::rest).length=pre.length::List.range' (pre.length+1) rest.length:=by simp [List.range'_succ]

theorem ydw [Stb Φ] {K:Value→Heap→Prop} (hm:Met ops tm o true) (hd:noDefer o.op=true) (hx: ∀ h,Φ h→Ex P tm o h K)
    (n: ∀ v,RL P md f r df k cs Stop ops rest (putl tm o.dst v) (K v)):RL P md f r df k cs Stop ops (o::rest) tm Φ:=by
  intro pre e
  rw [ypj]
  refine vew (zwv e) (xlj hm) yix (by revert hd;cases o.op <;> simp [noDefer]) fun h y=>?_
  rw [xpw]
  refine xlz (hx h y) fun n' h' ⟨v,e',hK⟩=>⟨v,e',?_⟩
  have:=n v (pre++[o]) (by simp [e]) h' hK
  rw [xjk]
  simpa [FL] using this

theorem xbx [Stb Φ] {v:Value} (hm:Met ops tm o true) (hx: ∀ h,Φ h→Exd P tm o h v) (ht:putl tm o.dst v=tm') (n:RL P md f r df k cs Stop ops rest tm' Φ) (hd:noDefer o.op=true:=by rfl):
    RL P md f r df k cs Stop ops (o::rest) tm Φ:=
  ydw (K:=fun v' h'=>v'=v∧Φ h') hm hd (fun h y=>xlz (hx h y) fun _ _ ⟨v',e1,e2,e3⟩=>⟨v',e1,e2,by rw [e3];exact y⟩) fun v' pre e h ⟨e1,y⟩=>by subst e1;rw [ht];exact n pre e h y

theorem wzj [Stb Φ] {K:Heap→Prop} (hm:Met ops tm o true) (hd:noDefer o.op=true) (hx: ∀ h,Φ h→wpS P (execOp (evl tm) o) h fun n h'=>n= .skip∧K h')
    (ht:putl tm o.dst undef=tm') (n:RL P md f r df k cs Stop ops rest tm' K):RL P md f r df k cs Stop ops (o::rest) tm Φ:=by
  intro pre e
  rw [ypj]
  refine wyv (zwv e) (xlj hm) yix (by revert hd;cases o.op <;> simp [noDefer]) fun h y=>?_
  rw [xpw]
  refine xlz (hx h y) fun n' h' ⟨e',hK⟩=>⟨e',?_⟩
  have:=n (pre++[o]) (by simp [e]) h' hK
  rw [xjk,ht]
  simpa [FL] using this

theorem xfx [Stb Φ] (hm:Met ops tm o false) (ht:putl tm o.dst undef=tm') (n:RL P md f r df k cs Stop ops rest tm' Φ):RL P md f r df k cs Stop ops (o::rest) tm Φ:=by
  intro pre e
  rw [ypj]
  refine yxk (zwv e) (xlj hm) ?_
  have:=n (pre++[o]) (by simp [e])
  rw [xjk,ht]
  simpa [FL] using this

theorem xgz {α:Type} {Ψ:α→Heap→Prop} (n: ∀ x,RL P md f r df k cs Stop ops rest tm (Ψ x)):RL P md f r df k cs Stop ops rest tm (fun h=>∃ x,Ψ x h):=fun pre e h ⟨x,y⟩=>n x pre e h y
theorem xfq {c:Prop} (n:c→RL P md f r df k cs Stop ops rest tm Φ):RL P md f r df k cs Stop ops rest tm (fun h=>c∧Φ h):=fun pre e h ⟨x,y⟩=>n x pre e h y
theorem xww {Ψ:Heap→Prop} (n:RL P md f r df k cs Stop ops rest tm Φ) (hi: ∀ h,Ψ h→Φ h):RL P md f r df k cs Stop ops rest tm Ψ:=fun pre e h y=>n pre e h (hi h y)
theorem xxv {g:Goroutine} {Ψ:Heap→Prop} (n:RS P md g Φ Stop) (hi: ∀ h,Ψ h→Φ h):RS P md g Ψ Stop:=fun h y=>n h (hi h y)
theorem xfj (e:tm=tm') (x:RL P md f r df k cs Stop ops rest tm' Φ):RL P md f r df k cs Stop ops rest tm Φ:=by subst e;exact x

def callable (P:Program) (g:FuncId):Bool:=
  match P.funcs[g]? with
  | some fn => fn.name != "runtime.NumGoroutine" && fn.body.isSome
  | none=>false

theorem ykv {g:FuncId} {args:Array Value} {K:Next→Heap→Prop} (hc:callable P g=true) (x:K (.enter g args) h):wpS P (callFunc g args) h K:=by
  unfold callable at hc
  unfold callFunc
  refine xbz ?_
  show wpS P program h _
  simp only [program,wpS]
  split at hc
  · rename_i fn hfn
    simp only [Bool.and_eq_true,bne_iff_ne,ne_eq] at hc
    rw [hfn]
    simp only
    rw [if_neg (by simpa using hc.1),if_neg (by have:=hc.2;cases hb:fn.body <;> simp_all)]
    exact xbv x
  · cases hc

theorem ymq {args:List Operand} {ats:Array TypeId} {d:Option Tmp} {ty:TypeId} {pos:String} {aft:Array Edge} {gd:Option (Nat × Bool)} {x:Operand} {g:FuncId} {first cap vs:List Value}
    (hx:evl tm x= .func (.func g) first.toArray cap.toArray) (hvs:first++(args.map (evl tm)++cap)=vs) (hg:callable P g=true):
    wpS P (execOp (evl tm) ⟨d,.call ⟨.value x,args.toArray,ats⟩,ty,pos,aft,gd⟩) h fun n h'=>n= .enter g vs.toArray∧h'=h:=by
  simp only [execOp]
  refine xbz ?_
  unfold resolve
  simp only [hx,Deferred.ofValue]
  refine xbv ?_
  simp only [invoke]
  refine ykv hg ⟨?_,rfl⟩
  rw [← hvs];simp

theorem xiw [Stb Φ] {args:List Operand} {ats:Array TypeId} {d:Option Tmp} {ty:TypeId} {pos:String} {aft:Array Edge} {gd:Option (Nat × Bool)} {x:Operand} {g:FuncId} {first cap vs:List Value} {R:Value→Heap→Prop}
    (hm:Met ops tm ⟨d,.call ⟨.value x,args.toArray,ats⟩,ty,pos,aft,gd⟩ true) (hx:evl tm x= .func (.func g) first.toArray cap.toArray) (hvs:first++(args.map (evl tm)++cap)=vs) (hg:callable P g=true)
    (hc: ∀ h,Φ h→CallsX P md g vs.toArray h R) (n: ∀ v,RL P md f r df k cs Stop ops rest (putl tm d v) (R v)):
    RL P md f r df k cs Stop ops (⟨d,.call ⟨.value x,args.toArray,ats⟩,ty,pos,aft,gd⟩::rest) tm Φ:=by
  intro pre e
  rw [ypj]
  refine wzz (zwv e) (xlj hm) yix rfl (fun h y=>by rw [xpw];exact ymq hx hvs hg) hc fun v h' hR=>?_
  have:=n v (pre++[⟨d,.call ⟨.value x,args.toArray,ats⟩,ty,pos,aft,gd⟩]) (by simp [e]) h' hR
  rw [xjk]
  simpa [FL] using this

theorem xeq [sb:Stb Φ] {args:List Operand} {ats:Array TypeId} {d:Option Tmp} {ty:TypeId} {pos:String} {aft:Array Edge} {gd:Option (Nat × Bool)} {x:Operand} {g:FuncId} {first cap vs:List Value} {v:Value}
    (hm:Met ops tm ⟨d,.call ⟨.value x,args.toArray,ats⟩,ty,pos,aft,gd⟩ true) (hx:evl tm x= .func (.func g) first.toArray cap.toArray) (hvs:first++(args.map (evl tm)++cap)=vs) (hg:callable P g=true)
    (hc: ∀ h,Φ h→CallsX P md g vs.toArray h fun v' h'=>v'=v∧Keep h h') (ht:putl tm d v=tm') (n:RL P md f r df k cs Stop ops rest tm' Φ):
    RL P md f r df k cs Stop ops (⟨d,.call ⟨.value x,args.toArray,ats⟩,ty,pos,aft,gd⟩::rest) tm Φ:=
  xiw (R:=fun v' h'=>v'=v∧Φ h') hm hx hvs hg (fun h y=>(hc h y).mono fun _ h' ⟨e1,e2⟩=>⟨e1,sb.stb _ _ y e2⟩) fun v' pre e h ⟨e1,y⟩=>by subst e1;rw [ht];exact n pre e h y

section
variable [Stb Φ]
theorem xez {x y:Code} (z:RS P md (G (FL f r tm df (.code x:: .code y::k)) cs) Φ Stop):RS P md (G (FL f r tm df (.code (.seq x y)::k)) cs) Φ Stop:=vfq z
theorem xcv (z:RS P md (G (FL f r tm df k) cs) Φ Stop):RS P md (G (FL f r tm df (.code .skip::k)) cs) Φ Stop:=wyw z
theorem xdq {id:Nat} (z:RS P md (G (FL f r tm df k) cs) Φ Stop):RS P md (G (FL f r tm df (.inBlock id::k)) cs) Φ Stop:=zwj z
theorem xdj {id:Nat} {c:Code} (z:RS P md (G (FL f r tm df (.code c:: .inBlock id::k)) cs) Φ Stop):RS P md (G (FL f r tm df (.code (.block id c)::k)) cs) Φ Stop:=woj z
theorem xhz {id:Nat} {k':List Item} (hk:exitTo id k=some k') (z:RS P md (G (FL f r tm df k') cs) Φ Stop):RS P md (G (FL f r tm df (.code (.exit id)::k)) cs) Φ Stop:=wzq hk z
theorem vhx {c:Operand} {x y:Code} {t:Bool} (hc:evl tm c= .bool t) (h1:t=true→RS P md (G (FL f r tm df (.code x::k)) cs) Φ Stop) (h2:t=false→RS P md (G (FL f r tm df (.code y::k)) cs) Φ Stop):
    RS P md (G (FL f r tm df (.code (.cond c x y)::k)) cs) Φ Stop:=by
  refine wzx (t:=t) (by rw [xpw];exact hc) ?_
  cases t
  · exact h2 rfl
  · exact h1 rfl
theorem xdx {c:Operand} {x y:Code} {t:Bool} (hc:evl tm c= .bool t) (ht:t=true) (z:RS P md (G (FL f r tm df (.code x::k)) cs) Φ Stop):
    RS P md (G (FL f r tm df (.code (.cond c x y)::k)) cs) Φ Stop:=vhx hc (fun _=>z) (fun e=>by rw [ht] at e;cases e)
theorem xck {c:Operand} {x y:Code} {t:Bool} (hc:evl tm c= .bool t) (ht:t=false) (z:RS P md (G (FL f r tm df (.code y::k)) cs) Φ Stop):
    RS P md (G (FL f r tm df (.code (.cond c x y)::k)) cs) Φ Stop:=vhx hc (fun e=>by rw [ht] at e;cases e) (fun _=>z)

theorem xhk {c:Code} {m₀:Nat} (I:Nat→List Value→Heap→Prop) [sI: ∀ m tm,Stb (I m tm)] (start: ∀ h,Φ h→I m₀ tm h)
    (round: ∀ m tm,(∀ m' tm',m'<m→RS P md (G (FL f r tm' df (.inLoop c::k)) cs) (I m' tm') Stop)→RS P md (G (FL f r tm df (.code c:: .inLoop c::k)) cs) (I m tm) Stop):
    RS P md (G (FL f r tm df (.code (.loop c)::k)) cs) Φ Stop:=by
  refine zkx ?_
  suffices H: ∀ m tm,RS P md (G (FL f r tm df (.code c:: .inLoop c::k)) cs) (I m tm) Stop from fun h y=>H _ _ h (start h y)
  intro m
  induction m using Nat.strongRecOn with
  | _ m ih=>exact fun tm=>round m tm fun m' tm' hlt=>zeq (ih m' hlt tm')
end

theorem xcx {fn:Func} {c:Code} {args:Array Value} {tm:List Value} {R:Value→Heap→Prop} (hf:P.funcs[f]?=some fn) (hb:fn.body=some c)
    (ht:args.toList++List.replicate (fn.ntmps-args.size) undef=tm)
    (x: ∀ (c₀:Frame) (cs:List Frame) (Stop:Goroutine→Heap→Prop),(∀ v h',R v h'→Reach P md (G (c₀.finish v) cs) h' Stop)→
      RS P md (G (FL f .none tm [] [.code c]) (c₀::cs)) Φ Stop) (h0:Φ h):CallsX P md f args h R:=by
  intro c₀ cs Stop K
  have:=x c₀ cs Stop K h h0
  have e:Frame.enter P f args .normal=FL f .none tm [] [.code c]:=by
    unfold Frame.enter
    simp only [hf,hb,Option.map_some,Option.bind_some,Option.getD_some,FL,F,B,← ht]
    simp [Rd.kind,Rd.round]
  rw [e];exact this

def Res (P:Program) (h:Heap) (tm:List Value):List ResultVar→List Value→Prop
  | [],vs=>vs=[]
  | .tmp t::rs,vs=>∃ v vs',vs=v::vs'∧tm.getD t undef=v∧Res P h tm rs vs'
  | .cell a t::rs,vs=>∃ v vs',vs=v::vs'∧wpS P (do loadVar t (← asAddr (tm.getD a undef))) h (fun v' h'=>v'=v∧h'=h)∧Res P h tm rs vs'

theorem zbj {rs:List ResultVar}: ∀ {vs:List Value} {acc:Array Value} {K:Array Value→Heap→Prop},Res P h tm rs vs→K (acc++vs.toArray) h→
    wpS P (rs.foldlM (fun (bs:Array Value) a=>bs.push <$> (match a with
      | .tmp t=>pure (tm.toArray.getD t undef)
      | .cell a t=>do loadVar t (← asAddr (tm.toArray.getD a undef)):Sem Value)) acc) h K:=by
  induction rs with
  | nil=>intro vs acc K e x;simp only [Res] at e;subst e;exact xbv (by simpa using x)
  | cons a rs ih=>
    intro vs acc K e x
    rw [List.foldlM_cons]
    have hget: ∀ t,tm.toArray.getD t undef=tm.getD t undef:=fun t=>by simp [Array.getD_eq_getD_getElem?,List.getD_eq_getElem?_getD]
    cases a with
    | tmp t=>
      obtain ⟨v,vs',rfl,hv,hr⟩:=e
      refine xbz ?_
      show wpS P (Sem.bind _ _) h _
      refine yev ?_
      refine xbv ?_
      refine xbv ?_
      refine ih hr ?_
      rw [hget,hv]
      simpa using x
    | cell a t=>
      obtain ⟨v,vs',rfl,hv,hr⟩:=e
      refine xbz ?_
      show wpS P (Sem.bind _ _) h _
      refine yev ?_
      have hv':wpS P (do loadVar t (← asAddr (tm.toArray.getD a undef))) h (fun v' h'=>v'=v∧h'=h):=by rw [hget];exact hv
      refine xlz hv' fun v' h' ⟨e1,e2⟩=>?_
      subst e1;subst e2
      refine xbv ?_
      refine ih hr ?_
      simpa using x

def packs:List Value→Value
  | [v]=>v
  | vs=>.tuple vs.toArray

theorem ydq {fn:Func} {rs:List ResultVar} {vs:List Value} {v:Value} {K:Value→Heap→Prop} (hr:fn.results=rs.toArray) (e:Res P h tm rs vs) (hv:packs vs=v) (x:K v h):
    wpS P (results fn tm.toArray) h K:=by
  unfold results
  refine xbz ?_
  rw [hr,Array.mapM_eq_foldlM,List.foldlM_toArray]
  refine zbj e ?_
  refine xbv ?_
  subst hv
  simp only [Array.empty_append]
  match vs,x with
  | [],x=>exact x
  | [_],x=>exact x
  | _::_::_,x=>simpa [packs] using x

theorem xdv [Stb Φ] {c₀:Frame} {fn:Func} {rs:List ResultVar} {vs:List Value} {v:Value} (hf:P.funcs[f]?=some fn) (hr:fn.results=rs.toArray) (e: ∀ h,Φ h→Res P h tm rs vs) (hv:packs vs=v)
    (x:RS P md (G (c₀.finish v) cs) Φ Stop):RS P md (G (FL f .none tm [] (.code .ret::k)) (c₀::cs)) Φ Stop:=
  wcx (hro:=rfl) fun _=>ypz hf rfl fun h y=>ydq hr (e h y) hv (x h y)
theorem zlw [Stb Φ] {c₀:Frame} {fn:Func} {rs:List ResultVar} {vs:List Value} {v:Value} (hf:P.funcs[f]?=some fn) (hr:fn.results=rs.toArray) (e: ∀ h,Φ h→Res P h tm rs vs) (hv:packs vs=v)
    (x:RS P md (G (c₀.finish v) cs) Φ Stop):RS P md (G (FL f .none tm [] []) (c₀::cs)) Φ Stop:=
  vfx (hro:=rfl) fun _=>ypz hf rfl fun h y=>ydq hr (e h y) hv (x h y)
end
end Go.X
namespace Go.X
open Go.Conc

abbrev PHeap:=Nat→Option Obj

def pcell (p:PHeap) (a:Addr):Option Value:=
  match p a.block with
  | some (.cells c _ _)=>if a.spot.isSome then none else c[a.off]?
  | _=>none

def PLe (p p':PHeap):Prop:=∀ b o,p b=some o→p' b=some o
theorem PLe.refl (p:PHeap):PLe p p:=fun _ _ x=>x
theorem PLe.trans {p q r:PHeap} (x:PLe p q) (y:PLe q r):PLe p r:=fun b o z=>y b o (x b o z)
theorem PLe.cell {p p':PHeap} (x:PLe p p') {a:Addr} {v:Value} (y:pcell p a=some v):pcell p' a=some v:=by
  unfold pcell at y ⊢
  split at y
  · rename_i c t z hb;rw [x _ _ hb];exact y
  · cases y

structure St (h₀:Heap) (B₀:List Nat) (p:PHeap) (h:Heap) (L:List (Nat × Obj)):Prop where
  keep: ∀ b,b<h₀.size→b ∉ B₀→h[b]?=h₀[b]?
  size:h₀.size≤h.size
  per: ∀ b o,p b=some o→h[b]?=some o
  own: ∀ x∈L,h[x.1]?=some x.2∧p x.1=none∧(h₀.size≤x.1∨x.1∈B₀)
  nod:(L.map (·.1)).Nodup

section
variable {h₀ h h':Heap} {B₀:List Nat} {p p':PHeap} {L:List (Nat × Obj)}

theorem xwq {b:Nat} {o:Obj} (x:h[b]?=some o):b<h.size:=(Array.getElem?_eq_some_iff.1 x).1

theorem St.kept (s:St h₀ [] p h L):Keep h₀ h:=⟨s.size,fun b hb=>s.keep b hb (by simp)⟩

theorem St.start (h:Heap) (p:PHeap) (hp: ∀ b o,p b=some o→h[b]?=some o):St h [] p h []:=
  ⟨fun _ _ _=>rfl,Nat.le_refl _,hp,by simp,by simp⟩

theorem St.drop {x:Nat × Obj} (s:St h₀ B₀ p h (x::L)):St h₀ B₀ p h L:=
  ⟨s.keep,s.size,s.per,fun y hy=>s.own y (by simp [hy]),by have:=s.nod;simp at this;exact this.2⟩

theorem St.sub {L':List (Nat × Obj)} (s:St h₀ B₀ p h L) (hs:L'.Sublist L):St h₀ B₀ p h L':=
  ⟨s.keep,s.size,s.per,fun y hy=>s.own y (hs.subset hy),s.nod.sublist (hs.map _)⟩

theorem St.perm {L':List (Nat × Obj)} (s:St h₀ B₀ p h L) (hs:L.Perm L'):St h₀ B₀ p h L':=
  ⟨s.keep,s.size,s.per,fun y hy=>s.own y (hs.mem_iff.2 hy),(hs.map (·.1)).nodup_iff.1 s.nod⟩

theorem St.call (s:St h₀ B₀ p h L) (k:Keep h h'):St h₀ B₀ p h' L:=
  ⟨fun b hb hn=>(k.keep b (Nat.lt_of_lt_of_le hb s.size)).trans (s.keep b hb hn),Nat.le_trans s.size k.size,
    fun b o x=>(k.keep b (xwq (s.per b o x))).trans (s.per b o x),
    fun x hx=>⟨(k.keep _ (xwq (s.own x hx).1)).trans (s.own x hx).1,(s.own x hx).2⟩,s.nod⟩

instance:Stb (fun h=>St h₀ B₀ p h L):=⟨fun _ _ s k=>s.call k⟩

theorem St.push (s:St h₀ B₀ p h L) (o:Obj):St h₀ B₀ p (h.push o) ((h.size,o)::L):=by
  have k:Keep h (h.push o):=⟨by simp,fun b hb=>by rw [Array.getElem?_push,if_neg (by omega)]⟩
  have s':=s.call k
  refine ⟨s'.keep,s'.size,s'.per,?_,?_⟩
  · intro x hx
    rcases List.mem_cons.1 hx with rfl | hx
    · refine ⟨by simp,?_,.inl s.size⟩
      cases hp:p h.size with
      | none=>rfl
      | some y=>exact absurd (xwq (s.per _ _ hp)) (by simp)
    · exact s'.own x hx
  · simp only [List.map_cons,List.nodup_cons]
    refine ⟨?_,s.nod⟩
    intro hm
    obtain ⟨x,hx,e⟩:=List.mem_map.1 hm
    have:=xwq (s.own x hx).1
    omega

theorem mem_of_get? {α:Type} {l:List α} {i:Nat} {x:α} (h:l[i]?=some x):x∈l:=List.mem_of_getElem? h

theorem St.at (s:St h₀ B₀ p h L) {i b:Nat} {o:Obj} (hL:L[i]?=some (b,o)):h[b]?=some o:=(s.own _ (mem_of_get? hL)).1

theorem wfz {l:List Nat} (hn:l.Nodup) {i j x:Nat} (hi:l[i]?=some x) (hj:l[j]?=some x):i=j:=by
  obtain ⟨hi',ei⟩:=List.getElem?_eq_some_iff.1 hi
  obtain ⟨hj',ej⟩:=List.getElem?_eq_some_iff.1 hj
  have h:=List.pairwise_iff_getElem.1 hn
  rcases Nat.lt_trichotomy i j with hlt | rfl | hlt
  · exact absurd (ei.trans ej.symm) (h i j hi' hj' hlt)
  · rfl
  · exact absurd (ej.trans ei.symm) (h j i hj' hi' hlt)

theorem St.turn (s:St h₀ B₀ p h L) {i b:Nat} {o o':Obj} (hL:L[i]?=some (b,o)) (hb:h'[b]?=some o') (hs:h'.size=h.size)
    (hne: ∀ c,c≠b→h'[c]?=h[c]?):St h₀ B₀ p h' (L.set i (b,o')):=by
  have ho:=s.own _ (mem_of_get? hL)
  have hp: ∀ c o,p c=some o→c≠b:=fun c o hc e=>by subst e;rw [ho.2.1] at hc;cases hc
  refine ⟨fun c hc hn=>?_,by rw [hs];exact s.size,fun c o hc=>by rw [hne c (hp c o hc)];exact s.per c o hc,?_,?_⟩
  · by_cases e:c=b
    · subst e
      rcases ho.2.2 with x | x
      · omega
      · exact absurd x hn
    · rw [hne c e];exact s.keep c hc hn
  · intro x hx
    obtain ⟨j,hj⟩:=List.getElem?_of_mem hx
    rw [List.getElem?_set] at hj
    split at hj
    · split at hj
      · cases hj;exact ⟨hb,ho.2⟩
      · cases hj
    · rename_i hij
      have hx':=s.own x (mem_of_get? hj)
      have hxb:x.1≠b:=by
        intro e
        refine hij (wfz s.nod (i:=i) (j:=j) (x:=b) ?_ ?_)
        · rw [List.getElem?_map,hL];rfl
        · rw [List.getElem?_map,hj];simp [e]
      rw [hne _ hxb];exact hx'
  · have:(L.set i (b,o')).map (·.1)=L.map (·.1):=by
      rw [List.map_set]
      refine List.ext_getElem? fun j=>?_
      rw [List.getElem?_set]
      split
      · rename_i e;subst e
        simp only [List.length_map,List.getElem?_map,hL,Option.map_some]
        rw [if_pos (List.getElem?_eq_some_iff.1 hL).1]
      · rfl
    rw [this];exact s.nod

theorem zkq {b off:Nat} {cs:Array Value} {T:TypeId} {z:Nat × Nat} {v:Value} (hb:h[b]?=some (.cells cs T z)):
    (setCell h ⟨b,off,none⟩ v)[b]?=some (.cells (cs.setIfInBounds off v) T z):=by
  unfold setCell
  rw [getElem?_modify',if_pos rfl,hb];rfl
theorem zwz {b off c:Nat} {v:Value} (hc:c≠b):(setCell h ⟨b,off,none⟩ v)[c]?=h[c]?:=by
  unfold setCell
  rw [getElem?_modify',if_neg (fun e=>hc e.symm)]
theorem zdk {a:Addr} {v:Value}:(setCell h a v).size=h.size:=by simp [setCell]

theorem St.store (s:St h₀ B₀ p h L) {i b off:Nat} {cs:Array Value} {T:TypeId} {z:Nat × Nat} {v:Value} (hL:L[i]?=some (b,.cells cs T z)):
    St h₀ B₀ p (setCell h ⟨b,off,none⟩ v) (L.set i (b,.cells (cs.setIfInBounds off v) T z)):=
  s.turn hL (zkq (s.at hL)) zdk fun _=>zwz

theorem St.grow (s:St h₀ B₀ p h L) (_hle:PLe p p') (hp: ∀ b o,p' b=some o→h[b]?=some o) (hn: ∀ x∈L,p' x.1=none):St h₀ B₀ p' h L:=
  ⟨s.keep,s.size,hp,fun x hx=>⟨(s.own x hx).1,hn x hx,(s.own x hx).2.2⟩,s.nod⟩

def padd (p:PHeap) (b:Nat) (o:Obj):PHeap:=fun c=>if c=b then some o else p c
theorem zkj {b:Nat} {o:Obj} (hb:p b=none):PLe p (padd p b o):=fun c x hc=>by
  unfold padd;rw [if_neg];exact hc
  intro e;subst e;rw [hb] at hc;cases hc
theorem xpj {b:Nat} {o:Obj}:padd p b o b=some o:=if_pos rfl

theorem St.last {b:Nat} {o:Obj} (s:St h₀ B₀ p h ((b,o)::L)):PLe p (padd p b o)∧St h₀ B₀ (padd p b o) h L:=by
  have ho:=s.own (b,o) (by simp)
  refine ⟨zkj ho.2.1,s.drop.grow (zkj ho.2.1) ?_ ?_⟩
  · intro c x hc
    unfold padd at hc
    split at hc
    · rename_i e;subst e;cases hc;exact ho.1
    · exact s.per c x hc
  · intro x hx
    unfold padd
    have hn:=s.nod
    simp only [List.map_cons,List.nodup_cons] at hn
    rw [if_neg (fun e=>hn.1 (List.mem_map.2 ⟨x,hx,e⟩))]
    exact (s.own x (by simp [hx])).2.1

structure Grow (p:PHeap) (h:Heap) (p':PHeap) (h':Heap):Prop where
  keep:Keep h h'
  le:PLe p p'
  per: ∀ b o,p' b=some o→h'[b]?=some o
  new: ∀ b,p b=none→b<h.size→p' b=none

theorem St.Grow (s:St h₀ [] p' h L) {p₀:PHeap} (hp:PLe p₀ p') (hn: ∀ b,p₀ b=none→b<h₀.size→p' b=none):Grow p₀ h₀ p' h:=⟨s.kept,hp,s.per,hn⟩

theorem St.cell (s:St h₀ B₀ p h L) {a:Addr} {v:Value} (x:pcell p a=some v):cell? h a=some v:=by
  unfold pcell at x
  unfold cell?
  split at x
  · rename_i c t z hb;rw [s.per _ _ hb];exact x
  · cases x
theorem St.ocell (s:St h₀ B₀ p h L) {i b off:Nat} {cs:Array Value} {T:TypeId} {z:Nat × Nat} {v:Value} (hL:L[i]?=some (b,.cells cs T z)) (hv:cs[off]?=some v):
    cell? h ⟨b,off,none⟩=some v:=by
  unfold cell?;rw [s.at hL];exact hv
end

def aggT (P:Program) (t:TypeId):Option Bool:=(P.underlying t).map fun | .struct _=>true | .array _ _=>true | _=>false
def sizeT (P:Program) (t:TypeId):Option Nat:=(P.info? t).map (·.size)
def bytesT (P:Program) (t:TypeId):Option Nat:=(P.info? t).map (·.bytes)
def zeroT (P:Program) (t:TypeId):Option Value:=(P.info? t).bind (·.zero)
def placesT (P:Program) (t:TypeId):Option (List (Nat × Nat)):=
  match P.underlying t with
  | some (.struct fs)=>fs.toList.mapM fun f=>(sizeT P f.type).map fun n=>(f.offset,n)
  | _=>none

section
variable {P:Program} {h:Heap}

theorem xgq {t:TypeId} {d:TypeDesc} {K:TypeDesc→Heap→Prop} (ht:P.underlying t=some d) (x:K d h):wpS P (underlying t) h K:=by
  unfold underlying
  refine xbz ?_
  simp only [program,wpS,ht]
  exact xbv x
theorem xoq {t:TypeId} {i:TypeInfo} {K:TypeInfo→Heap→Prop} (ht:P.info? t=some i) (x:K i h):wpS P (typeInfo t) h K:=by
  unfold typeInfo
  refine xbz ?_
  simp only [program,wpS,ht]
  exact xbv x
theorem xmx {t:TypeId} {n:Nat} {K:Nat→Heap→Prop} (ht:sizeT P t=some n) (x:K n h):wpS P (sizeOf t) h K:=by
  unfold sizeT at ht
  cases hi:P.info? t with
  | none=>rw [hi] at ht;cases ht
  | some i=>
    rw [hi] at ht;cases ht
    unfold sizeOf
    refine xbz (xoq hi ?_)
    exact xbv x
theorem xpz {t:TypeId} {v:Value} {K:Value→Heap→Prop} (ht:zeroT P t=some v) (x:K v h):wpS P (zeroValue t) h K:=by
  unfold zeroT at ht
  cases hi:P.info? t with
  | none=>rw [hi] at ht;cases ht
  | some i=>
    rw [hi] at ht
    unfold zeroValue
    refine xbz (xoq hi ?_)
    simp only [Option.bind_some] at ht
    simp only [ht]
    exact xbv x
theorem yoj {t:TypeId} {b:Bool} {K:Bool→Heap→Prop} (ht:aggT P t=some b) (x:K b h):wpS P (isAgg t) h K:=by
  unfold aggT at ht
  cases hu:P.underlying t with
  | none=>rw [hu] at ht;cases ht
  | some d=>
    rw [hu] at ht
    unfold isAgg
    refine xbz (xgq hu ?_)
    cases d <;> simp at ht <;> subst ht <;> exact xbv x

theorem xyq {a:Addr}: ∀ {n i:Nat} {vs:List Value} {acc:Array Value} {K:Array Value→Heap→Prop},vs.length=n→
    (∀ j v,vs[j]?=some v→cell? h (a.add (i+j))=some v)→K (acc++vs.toArray) h→wpS P (loadCellsFrom a i n acc) h K
  | 0,i,vs,acc,K,hn,_,x=>by
    obtain rfl:=List.eq_nil_of_length_eq_zero hn
    exact xbv (by simpa using x)
  | n+1,i,vs,acc,K,hn,hc,x=>by
    match vs,hn with
    | v::vs,hn=>
      unfold loadCellsFrom
      refine xbz ?_
      refine ⟨rfl,v,by simpa using hc 0 v rfl,?_⟩
      refine xyq (vs:=vs) (by simpa using hn) (fun j u hj=>?_) (by simpa using x)
      have:=hc (j+1) u (by simpa using hj)
      rwa [show i+1+j=i+(j+1) from by omega]

theorem xsj {a:Addr} {n:Nat} {vs:List Value} {K:Array Value→Heap→Prop} (hn:vs.length=n) (hc: ∀ j v,vs[j]?=some v→cell? h (a.add j)=some v) (x:K vs.toArray h):
    wpS P (loadCells a n) h K:=xyq hn (by simpa using hc) (by simpa using x)

theorem zbk {t:TypeId} {a:Addr} {v:Value} {K:Value→Heap→Prop} (ht:aggT P t=some false) (hc:cell? h a=some v) (x:K v h):wpS P (loadVar t a) h K:=by
  unfold loadVar
  refine xbz (yoj ht ?_)
  exact ⟨rfl,v,hc,x⟩
theorem xnj {t:TypeId} {a:Addr} {n:Nat} {vs:List Value} {K:Value→Heap→Prop} (ht:aggT P t=some true) (hs:sizeT P t=some n) (hn:vs.length=n)
    (hc: ∀ j v,vs[j]?=some v→cell? h (a.add j)=some v) (x:K (.agg vs.toArray) h):wpS P (loadVar t a) h K:=by
  unfold loadVar
  refine xbz (yoj ht ?_)
  simp only [if_true]
  refine xbz (xmx hs ?_)
  refine xbz (xsj hn hc ?_)
  exact xbv x

theorem xnz (b off n:Nat):(⟨b,off,none⟩:Addr).add n=⟨b,off+n,none⟩:=by unfold Addr.add;split <;> simp_all
end
end Go.X
namespace Go.X
open Go.Conc
open Go.RowKit (wrap64)

section
variable {P:Program} {tm:List Value} {h:Heap} {d:Option Tmp} {ty:TypeId} {pos:String} {aft:Array Edge} {gd:Option (Nat × Bool)}

theorem y_of {tm:List Value} {F:(Nat→Value)→List Value} (h:tm=F (fun i=>tm.getD i undef)): ∃ y:Nat→Value,tm=F y:=⟨_,h⟩
theorem xmz {x:Bool} (h:x=false):(!x)=true:=by rw [h];rfl
theorem xfw {x:Bool} (h:x=true):(!x)=false:=by rw [h];rfl
theorem ybj (b:Bool):b=true∨b=false:=by cases b <;> simp
theorem wr {n:Int} (h: -9223372036854775808≤n∧n≤9223372036854775807):IntKind.i64.wrap n=n:=IntWalk.i64_in n h

theorem xwj {o:Oper} {v:Value} {s:Sem Value} (e:execOp (evl tm) o=(do pure (.value (← s)))) (x:wpS P s h fun v' h'=>v'=v∧h'=h):Exd P tm o h v:=by
  unfold Exd Ex
  rw [e]
  refine xbz (xlz x fun v' h' ⟨e1,e2⟩=>?_)
  exact xbv ⟨v',rfl,e1,e2⟩

theorem xaq {x:Operand} {v:Value} (hx:evl tm x=v):Exd P tm ⟨d,.move x,ty,pos,aft,gd⟩ h v:=by
  unfold Exd Ex;simp only [execOp];exact xbv ⟨_,rfl,hx,rfl⟩
theorem xax {x:Operand} {v:Value} (hx:evl tm x=v):Exd P tm ⟨d,.assign x,ty,pos,aft,gd⟩ h v:=by
  unfold Exd Ex;simp only [execOp];exact xbv ⟨_,rfl,hx,rfl⟩

theorem ztj {c a b:Operand} {t:Bool} {v:Value} (hc:evl tm c= .bool t) (hv:(if t then evl tm a else evl tm b)=v):Exd P tm ⟨d,.pick c a b,ty,pos,aft,gd⟩ h v:=by
  unfold Exd Ex
  simp only [execOp,hc]
  refine xbz ?_
  refine xbv ?_
  refine xbv ⟨_,rfl,?_,rfl⟩
  rw [← hv]
theorem xdz {c a b:Operand} {t:Bool} {v:Value} (hc:evl tm c= .bool t) (ht:t=true) (ha:evl tm a=v):Exd P tm ⟨d,.pick c a b,ty,pos,aft,gd⟩ h v:=ztj hc (by rw [ht];exact ha)
theorem xej {c a b:Operand} {t:Bool} {v:Value} (hc:evl tm c= .bool t) (ht:t=false) (hb:evl tm b=v):Exd P tm ⟨d,.pick c a b,ty,pos,aft,gd⟩ h v:=ztj hc (by rw [ht];exact hb)

theorem xrq {op:BinOp} {T T':TypeId} {x y:Operand} {v a b:Value} (hx:evl tm x=a) (hy:evl tm y=b) (hg: ∀ K:Unit→Heap→Prop,K () h→wpS P (eqGuard op T x y a b) h K)
    (hv:wpS P (binOp op T a b) h fun v' h'=>v'=v∧h'=h):Exd P tm ⟨d,.binOp op T x y T',ty,pos,aft,gd⟩ h v:=by
  refine xwj (s:=do eqGuard op T x y a b;binOp op T a b) (by simp only [execOp,hx,hy]) ?_
  refine xbz (hg _ ?_)
  exact hv

theorem xlv {op:BinOp} {T:TypeId} {x y:Operand} {a b:Value} (ho:(match op with | .eql=>false | .neq=>false | _=>true)=true) {K:Unit→Heap→Prop} (k:K () h):wpS P (eqGuard op T x y a b) h K:=by
  unfold eqGuard
  cases op <;> first | exact absurd ho (by decide) | (rw [if_pos (by rfl)];exact xbv k)
theorem yav {op:BinOp} {T:TypeId} {x y:Operand} {k k':IntKind} {a b:Int} {K:Unit→Heap→Prop} (z:K () h):wpS P (eqGuard op T x y (.int k a) (.int k' b)) h K:=by
  unfold eqGuard
  cases op <;> first | (rw [if_pos (by rfl)];exact xbv z) | (rw [if_neg (by decide)];exact xbv z)

theorem ibeq (a b:Int):(a == b)=decide (a=b):=by rw [Bool.eq_iff_iff];simp

theorem xek {k:IntKind} {T T':TypeId} {x y:Operand} {a b n:Int} (hx:evl tm x= .int k a) (hy:evl tm y= .int k b) (hn:k.wrap (a+b)=n):Exd P tm ⟨d,.binOp .add T x y T',ty,pos,aft,gd⟩ h (.int k n):=
  xrq hx hy (fun K z=>xlv rfl z) (by simp only [binOp,ne_eq,not_true_eq_false,if_false,Op.intArith,hn];exact xbv ⟨rfl,rfl⟩)
theorem xkj {k:IntKind} {T T':TypeId} {x y:Operand} {a b n:Int} (hx:evl tm x= .int k a) (hy:evl tm y= .int k b) (hn:k.wrap (a-b)=n):Exd P tm ⟨d,.binOp .sub T x y T',ty,pos,aft,gd⟩ h (.int k n):=
  xrq hx hy (fun K z=>xlv rfl z) (by simp only [binOp,ne_eq,not_true_eq_false,if_false,Op.intArith,hn];exact xbv ⟨rfl,rfl⟩)
theorem yrj {k:IntKind} {T T':TypeId} {x y:Operand} {a b n:Int} (hx:evl tm x= .int k a) (hy:evl tm y= .int k b) (hn:k.wrap (a*b)=n):Exd P tm ⟨d,.binOp .mul T x y T',ty,pos,aft,gd⟩ h (.int k n):=
  xrq hx hy (fun K z=>xlv rfl z) (by simp only [binOp,ne_eq,not_true_eq_false,if_false,Op.intArith,hn];exact xbv ⟨rfl,rfl⟩)
theorem xgj {k:IntKind} {T T':TypeId} {x y:Operand} {a b:Int} (hx:evl tm x= .int k a) (hy:evl tm y= .int k b):Exd P tm ⟨d,.binOp .lss T x y T',ty,pos,aft,gd⟩ h (.bool (decide (a<b))):=
  xrq hx hy (fun K z=>xlv rfl z) (by simp only [binOp,ne_eq,not_true_eq_false,if_false,Op.intCmp];exact xbv ⟨rfl,rfl⟩)
theorem yez {k:IntKind} {T T':TypeId} {x y:Operand} {a b:Int} (hx:evl tm x= .int k a) (hy:evl tm y= .int k b):Exd P tm ⟨d,.binOp .leq T x y T',ty,pos,aft,gd⟩ h (.bool (decide (a≤b))):=
  xrq hx hy (fun K z=>xlv rfl z) (by simp only [binOp,ne_eq,not_true_eq_false,if_false,Op.intCmp];exact xbv ⟨rfl,rfl⟩)
theorem xkq {k:IntKind} {T T':TypeId} {x y:Operand} {a b:Int} (hx:evl tm x= .int k a) (hy:evl tm y= .int k b):Exd P tm ⟨d,.binOp .gtr T x y T',ty,pos,aft,gd⟩ h (.bool (decide (b<a))):=
  xrq hx hy (fun K z=>xlv rfl z) (by simp only [binOp,ne_eq,not_true_eq_false,if_false,Op.intCmp];exact xbv ⟨rfl,rfl⟩)
theorem xwk {k:IntKind} {T T':TypeId} {x y:Operand} {a b:Int} (hx:evl tm x= .int k a) (hy:evl tm y= .int k b):Exd P tm ⟨d,.binOp .geq T x y T',ty,pos,aft,gd⟩ h (.bool (decide (b≤a))):=
  xrq hx hy (fun K z=>xlv rfl z) (by simp only [binOp,ne_eq,not_true_eq_false,if_false,Op.intCmp];exact xbv ⟨rfl,rfl⟩)
theorem xkw {k:IntKind} {T T':TypeId} {x y:Operand} {a b:Int} (hx:evl tm x= .int k a) (hy:evl tm y= .int k b):Exd P tm ⟨d,.binOp .eql T x y T',ty,pos,aft,gd⟩ h (.bool (decide (a=b))):=
  xrq hx hy (fun K z=>yav z) (by simp only [binOp,ne_eq,not_true_eq_false,if_false,Op.intCmp];exact xbv ⟨by rw [ibeq],rfl⟩)
theorem xmk {k:IntKind} {T T':TypeId} {x y:Operand} {a b:Int} (hx:evl tm x= .int k a) (hy:evl tm y= .int k b):Exd P tm ⟨d,.binOp .neq T x y T',ty,pos,aft,gd⟩ h (.bool (decide (a≠b))):=
  xrq hx hy (fun K z=>yav z) (by simp only [binOp,ne_eq,not_true_eq_false,if_false,Op.intCmp];exact xbv ⟨by simp [bne,ibeq],rfl⟩)

theorem xjw {T:TypeId} {x:Operand} {b:Bool} (hx:evl tm x= .bool b):Exd P tm ⟨d,.unOp .not T x,ty,pos,aft,gd⟩ h (.bool (!b)):=
  xwj (s:=pure (.bool (!b))) (by simp only [execOp,hx,Op.unary]) (xbv ⟨rfl,rfl⟩)
theorem wjx {k:IntKind} {T:TypeId} {x:Operand} {a n:Int} (hx:evl tm x= .int k a) (hn:k.wrap (0-a)=n):Exd P tm ⟨d,.unOp .neg T x,ty,pos,aft,gd⟩ h (.int k n):=
  xwj (s:=pure (.int k n)) (by simp only [execOp,hx,Op.unary,Op.intArith,hn]) (xbv ⟨rfl,rfl⟩)

theorem ysq {b:Builtin} {args:Array Operand} {ats:Array TypeId} {v:Value} {s:Sem Value}
    (e: ∀ cs,builtin b ats ty cs (args.map (evl tm))=(do pure (.value (← s)))) (x:wpS P s h fun v' h'=>v'=v∧h'=h):
    Exd P tm ⟨d,.call { callee:=.builtin b,args:=args,argTypes:=ats },ty,pos,aft,gd⟩ h v:=by
  unfold Exd Ex
  simp only [execOp,resolve]
  refine xbz (xbv ?_)
  simp only [invoke]
  rw [e]
  refine xbz (xlz x fun v' h' ⟨e1,e2⟩=>?_)
  exact xbv ⟨v',rfl,e1,e2⟩

theorem xfz {t e:TypeId} {x:Operand} {a:Option Addr} {n c:Nat} (ht:P.underlying t=some (.slice e)) (hx:evl tm x= .slice a n c):
    Exd P tm ⟨d,.call { callee:=.builtin .len,args:=#[x],argTypes:=#[t] },ty,pos,aft,gd⟩ h (.int .i64 n):=by
  refine ysq (s:=Builtin.len_ #[t] ty #[.slice a n c]) (fun cs=>by simp only [builtin,List.map_toArray,List.map_cons,List.map_nil,hx]) ?_
  simp only [Builtin.len_]
  refine xbz (xgq ht ?_)
  exact xbv ⟨rfl,rfl⟩
theorem zaj {ats:Array TypeId} {k k':IntKind} {x y:Operand} {a b:Int} (hx:evl tm x= .int k a) (hy:evl tm y= .int k' b):
    Exd P tm ⟨d,.call { callee:=.builtin .min,args:=#[x,y],argTypes:=ats },ty,pos,aft,gd⟩ h (.int k (min a b)):=by
  refine ysq (s:=pure (.int k (min a b))) (fun cs=>?_) (xbv ⟨rfl,rfl⟩)
  have e:(if b<a then b else a)=min a b:=by rw [Int.min_def];split <;> split <;> omega
  simp [builtin,hx,hy,Builtin.min_,Builtin.min2,e]
theorem xev {x:Operand} {i:Nat} {vs:Array Value} {v:Value} (hx:evl tm x= .tuple vs) (hv:vs[i]?=some v):Exd P tm ⟨d,.extract x i,ty,pos,aft,gd⟩ h v:=
  xwj (s:=pure v) (by simp only [execOp,hx,Instr.extract,hv]) (xbv ⟨rfl,rfl⟩)

theorem xuj {fn:Fn} {first cap:List Operand} {a b:List Value} (ha:first.map (evl tm)=a) (hb:cap.map (evl tm)=b):Exd P tm ⟨d,.makeFunc fn first.toArray cap.toArray,ty,pos,aft,gd⟩ h (.func fn a.toArray b.toArray):=
  xwj (s:=pure (.func fn a.toArray b.toArray)) (by simp only [execOp,Instr.makeFunc,← ha,← hb,List.map_toArray]) (xbv ⟨rfl,rfl⟩)

theorem ylv {fs:List Field}: ∀ {pl:List (Nat × Nat)} {acc:Array (Nat × Nat)} {K:Array (Nat × Nat)→Heap→Prop},
    (fs.mapM fun f=>(sizeT P f.type).map fun n=>(f.offset,n))=some pl→K (acc++pl.toArray) h→
    wpS P (fs.foldlM (fun (bs:Array (Nat × Nat)) f=>bs.push <$> (do pure (f.offset,← sizeOf f.type):Sem (Nat × Nat))) acc) h K:=by
  induction fs with
  | nil=>intro pl acc K e x;simp at e;subst e;exact xbv (by simpa using x)
  | cons f fs ih=>
    intro pl acc K e x
    simp only [List.mapM_cons,Option.bind_eq_bind] at e
    cases hs:sizeT P f.type with
    | none=>rw [hs] at e;cases e
    | some n=>
      rw [hs] at e
      simp only [Option.map_some,Option.bind_some] at e
      cases hr:(fs.mapM fun f=>(sizeT P f.type).map fun n=>(f.offset,n)) with
      | none=>rw [hr] at e;cases e
      | some pl'=>
        rw [hr] at e
        simp at e
        subst e
        rw [List.foldlM_cons]
        refine xbz ?_
        show wpS P (Sem.bind _ _) h _
        refine yev ?_
        refine xbz (xmx hs ?_)
        refine xbv ?_
        refine xbv ?_
        exact ih hr (by simpa using x)

theorem xiq {t:TypeId} {parts:List (Nat × Operand)} {z:Value} {pl:List (Nat × Nat)} {cells:Array Value} {vs:List (Nat × Value)} (hz:zeroT P t=some z) (hp:placesT P t=some pl)
    (hvs:(parts.map fun (i,x)=>(i,evl tm x))=vs) (hf:Instr.fill (fun i=>pl[i]?) z.cells vs=some cells):Exd P tm ⟨d,.build t parts.toArray,ty,pos,aft,gd⟩ h (.agg cells):=by
  unfold placesT at hp
  split at hp
  · rename_i fs hu
    refine xwj (s:=Instr.build t (parts.toArray.map fun (i,x)=>(i,evl tm x))) rfl ?_
    unfold Instr.build
    refine xbz (xpz hz ?_)
    refine xbz (xgq hu ?_)
    refine xbz ?_
    rw [Array.mapM_eq_foldlM,← Array.foldlM_toList]
    refine ylv hp ?_
    simp only [Array.empty_append,List.map_toArray,hvs,List.getElem?_toArray,hf]
    exact xbv ⟨rfl,rfl⟩
  · cases hp

def fieldT (P:Program) (s:TypeId) (i:Nat):Option (Nat × Nat):=
  match P.underlying s with
  | some (.struct fs)=>(fs[i]?).bind fun f=>(sizeT P f.type).map fun n=>(f.offset,n)
  | _=>none

theorem xaz {s:TypeId} {x:Operand} {i o n:Nat} {a a':Addr} (hf:fieldT P s i=some (o,n+1)) (hx:evl tm x= .pointer (some a)) (ha:a.add o=a'):
    Exd P tm ⟨d,.fieldAddr s x i,ty,pos,aft,gd⟩ h (.pointer (some a')):=by
  unfold fieldT at hf
  split at hf
  · rename_i fs hu
    cases hi:fs[i]? with
    | none=>rw [hi] at hf;cases hf
    | some fd=>
      rw [hi] at hf
      cases hs:sizeT P fd.type with
      | none=>simp [hs] at hf
      | some m=>
        simp [hs] at hf
        obtain ⟨h1,rfl⟩:=hf
        refine xwj (s:=Instr.fieldAt s (.pointer (some a)) i) (by simp only [execOp,hx]) ?_
        unfold Instr.fieldAt
        refine xbz (xgq hu ?_)
        simp only [hi,Instr.sureAddr]
        refine xbz (xbv ?_)
        refine xbz ?_
        unfold fieldPlace
        refine xbz (xmx hs ?_)
        rw [if_neg (by omega)]
        refine xbv ?_
        refine xbv ⟨?_,rfl⟩
        rw [h1,ha]
  · cases hf

theorem xkz {t e:TypeId} {x y:Operand} {w n c:Nat} {k:IntKind} {i:Int} {a a':Addr} (ht:P.underlying t=some (.slice e)) (hs:sizeT P e=some w) (hx:evl tm x= .slice (some a) n c) (hy:evl tm y= .int k i)
    (h0:0≤i) (h1:i<n) (ha:a.add (i.toNat*w)=a'):Exd P tm ⟨d,.indexAddr t x y,ty,pos,aft,gd⟩ h (.pointer (some a')):=by
  refine xwj (s:=Instr.indexAt t (.slice (some a) n c) (.int k i)) (by simp only [execOp,hx,hy]) ?_
  unfold Instr.indexAt
  refine xbz (xbv ?_)
  simp only
  refine xbz (xgq ht ?_)
  simp only
  refine xbz (xbv ?_)
  simp only
  refine xbz (xgq ht ?_)
  rw [if_pos ⟨h0,h1⟩]
  refine xbz (xmx hs ?_)
  exact xbv ⟨by rw [ha],rfl⟩

theorem xbw {t e:TypeId} {x y:Operand} {w n c i:Nat} {k:IntKind} {a:Addr} (ht:P.underlying t=some (.slice e)) (hs:sizeT P e=some w) (hx:evl tm x= .slice (some a) n c) (hy:evl tm y= .int k (i:Nat))
    (h1:i<n):Exd P tm ⟨d,.indexAddr t x y,ty,pos,aft,gd⟩ h (.pointer (some (a.add (i*w)))):=
  xkz ht hs hx hy (by omega) (by omega) (by rw [Int.toNat_natCast])

theorem ynz {t:TypeId} {x:Operand} {a:Addr} {v:Value} (ht:aggT P t=some false) (hx:evl tm x= .pointer (some a)) (hc:cell? h a=some v):Exd P tm ⟨d,.load t x,ty,pos,aft,gd⟩ h v:=by
  refine xwj (s:=Instr.loadAt t (.pointer (some a))) (by simp only [execOp,hx]) ?_
  unfold Instr.loadAt
  refine xbz (xbv ?_)
  exact zbk ht hc ⟨rfl,rfl⟩
theorem yrk {t:TypeId} {x:Operand} {a:Addr} {n:Nat} {vs:List Value} (ht:aggT P t=some true) (hs:sizeT P t=some n) (hn:vs.length=n) (hx:evl tm x= .pointer (some a))
    (hc: ∀ j v,vs[j]?=some v→cell? h (a.add j)=some v):Exd P tm ⟨d,.load t x,ty,pos,aft,gd⟩ h (.agg vs.toArray):=by
  refine xwj (s:=Instr.loadAt t (.pointer (some a))) (by simp only [execOp,hx]) ?_
  unfold Instr.loadAt
  refine xbz (xbv ?_)
  exact xnj ht hs hn hc ⟨rfl,rfl⟩

section
variable {h₀:Heap} {B₀:List Nat} {p:PHeap} {L:List (Nat × Obj)}

theorem xaj {t:TypeId} {x:Operand} {i b off:Nat} {cs:Array Value} {T:TypeId} {z:Nat × Nat} {v:Value} (s:St h₀ B₀ p h L) (ht:aggT P t=some false) (hx:evl tm x= .pointer (some ⟨b,off,none⟩))
    (hL:L[i]?=some (b,.cells cs T z)) (hv:cs[off]?=some v):Exd P tm ⟨d,.load t x,ty,pos,aft,gd⟩ h v:=
  ynz ht hx (s.ocell hL hv)
theorem xav {t:TypeId} {x:Operand} {i b off n:Nat} {cs:Array Value} {T:TypeId} {z:Nat × Nat} {vs:List Value} (s:St h₀ B₀ p h L) (ht:aggT P t=some true) (hs:sizeT P t=some n) (hx:evl tm x= .pointer (some ⟨b,off,none⟩))
    (hL:L[i]?=some (b,.cells cs T z)) (hv:(cs.toList.drop off).take n=vs) (hn:vs.length=n):Exd P tm ⟨d,.load t x,ty,pos,aft,gd⟩ h (.agg vs.toArray):=
  yrk ht hs hn hx fun j v hj=>by
    rw [xnz]
    refine s.ocell hL ?_
    subst hv
    rw [List.getElem?_take] at hj
    split at hj
    · rw [List.getElem?_drop] at hj;simpa using hj
    · cases hj
theorem xbj {t:TypeId} {x:Operand} {a:Addr} {v:Value} (s:St h₀ B₀ p h L) (ht:aggT P t=some false) (hx:evl tm x= .pointer (some a)) (hv:pcell p a=some v):Exd P tm ⟨d,.load t x,ty,pos,aft,gd⟩ h v:=
  ynz ht hx (s.cell hv)
theorem xgw {t:TypeId} {x:Operand} {a:Addr} {n:Nat} {vs:List Value} (s:St h₀ B₀ p h L) (ht:aggT P t=some true) (hs:sizeT P t=some n) (hx:evl tm x= .pointer (some a))
    (hn:vs.length=n) (hv: ∀ j v,vs[j]?=some v→pcell p (a.add j)=some v):Exd P tm ⟨d,.load t x,ty,pos,aft,gd⟩ h (.agg vs.toArray):=
  yrk ht hs hn hx fun j v hj=>s.cell (hv j v hj)

variable {md:Md} {f:FuncId} {r:Rd} {df:List Deferred} {k:List Item} {cs:List Frame} {Stop:Goroutine→Heap→Prop} {ops rest:List Oper} {tm':List Value}

theorem xqk {T:TypeId} {cells:Array Value} {K:Addr→Heap→Prop} (x:K ⟨h.size,0,none⟩ (h.push (.cells cells T))):wpS P (newRow T cells) h K:=by
  unfold newRow
  refine xbz ?_
  exact xbv (P:=P) x

theorem xij {dd:Nat} {T:TypeId} {x:Operand} {v:Value} (hm:Met ops tm ⟨some dd,.box T x,ty,pos,aft,gd⟩ true) (hx:evl tm x=v)
    (n: ∀ b,RL P md f r df k cs Stop ops rest (tm.set dd (.pointer (some ⟨b,0,none⟩))) (fun h=>St h₀ B₀ p h ((b,.cells v.cells T (0,0))::L))):
    RL P md f r df k cs Stop ops (⟨some dd,.box T x,ty,pos,aft,gd⟩::rest) tm (fun h=>St h₀ B₀ p h L):=by
  refine ydw (K:=fun v' h'=>∃ b,v'= .pointer (some ⟨b,0,none⟩)∧St h₀ B₀ p h' ((b,.cells v.cells T (0,0))::L)) hm rfl (fun h s=>?_) fun v'=>xgz fun b=>xfq fun e=>by subst e;exact n b
  unfold Ex
  simp only [execOp,hx]
  refine xbz ?_
  unfold Instr.box newVar
  refine xbz (xqk ?_)
  refine xbv ?_
  exact xbv ⟨_,rfl,_,rfl,s.push _⟩

theorem xkx {dd:Nat} {T:TypeId} {z:Value} {cells:Array Value} (hm:Met ops tm ⟨some dd,.alloc T,ty,pos,aft,gd⟩ true) (hz:zeroT P T=some z) (hc:z.cells=cells)
    (n: ∀ b,RL P md f r df k cs Stop ops rest (tm.set dd (.pointer (some ⟨b,0,none⟩))) (fun h=>St h₀ B₀ p h ((b,.cells cells T (0,0))::L))):
    RL P md f r df k cs Stop ops (⟨some dd,.alloc T,ty,pos,aft,gd⟩::rest) tm (fun h=>St h₀ B₀ p h L):=by
  refine ydw (K:=fun v' h'=>∃ b,v'= .pointer (some ⟨b,0,none⟩)∧St h₀ B₀ p h' ((b,.cells cells T (0,0))::L)) hm rfl (fun h s=>?_) fun v'=>xgz fun b=>xfq fun e=>by subst e;exact n b
  unfold Ex
  simp only [execOp]
  refine xbz ?_
  unfold Instr.alloc
  refine xbz (xpz hz ?_)
  simp only
  unfold newVar
  rw [hc]
  refine xbz (xqk ?_)
  refine xbv ?_
  exact xbv ⟨_,rfl,_,rfl,s.push _⟩

theorem ylw (cs:Array Value) (i:Nat) (v:Value):cs.setIfInBounds i v=(cs.toList.set i v).toArray:=by
  apply Array.ext';simp

def setl (cs:List Value) (off:Nat):List Value→List Value
  | []=>cs
  | v::vs=>setl (cs.set off v) (off+1) vs

theorem xpk {b:Nat} {T:TypeId} {i:Nat}: ∀ {vs:List Value} {off j:Nat} {h:Heap} {cs:List Value} {L:List (Nat × Obj)} {K:Unit→Heap→Prop},St h₀ B₀ p h L→L[i]?=some (b,.cells cs.toArray T (0,0))→
    off+j+vs.length≤cs.length→(∀ v∈vs,isOne v=true)→
    (∀ h',St h₀ B₀ p h' (L.set i (b,.cells (setl cs (off+j) vs).toArray T (0,0)))→K () h')→wpS P (storeCells ⟨b,off,none⟩ vs j) h K
  | [],off,j,h,cs,L,K,s,hL,_,_,n=>by
    refine xbv (n h ?_)
    have:L.set i (b,.cells (setl cs (off+j) []).toArray T (0,0))=L:=by
      refine List.ext_getElem? fun m=>?_
      rw [List.getElem?_set]
      split
      · rename_i e;subst e;rw [if_pos (List.getElem?_eq_some_iff.1 hL).1,hL];rfl
      · rfl
    rw [this];exact s
  | v::vs,off,j,h,cs,L,K,s,hL,hlen,h1,n=>by
    unfold storeCells
    refine xbz ?_
    rw [xnz]
    have hi:i<L.length:=(List.getElem?_eq_some_iff.1 hL).1
    simp only [List.length_cons] at hlen
    refine ⟨rfl,h1 v (by simp),⟨cs[off+j],s.ocell hL (by simp)⟩,?_,?_⟩
    · unfold frozenAt;rw [s.at hL];simp
    · show wpS P (storeCells _ vs (j+1)) _ K
      have s':=s.store (off:=off+j) (v:=v) hL
      rw [ylw] at s'
      refine xpk (i:=i) (T:=T) s' (cs:=cs.set (off+j) v) (by rw [List.getElem?_set_self hi]) (by simp;omega) (fun u hu=>h1 u (by simp [hu])) fun h' s''=>n h' ?_
      rw [List.set_set] at s''
      exact s''

theorem xik {T T':TypeId} {x y:Operand} {i b off:Nat} {cs' cs2:List Value} {v:Value} {nsz:Nat} (hm:Met ops tm ⟨none,.store T x y,ty,pos,aft,gd⟩ true) (hs:sizeT P T=some nsz)
    (hx:evl tm x= .pointer (some ⟨b,off,none⟩)) (hy:evl tm y=v) (hL:L[i]?=some (b,.cells cs'.toArray T' (0,0))) (hv:v.cells.size=nsz) (h1:v.cells.toList.all isOne=true) (hlen:off+v.cells.size≤cs'.length) (h2:setl cs' off v.cells.toList=cs2)
    (n:RL P md f r df k cs Stop ops rest tm (fun h=>St h₀ B₀ p h (L.set i (b,.cells cs2.toArray T' (0,0))))):
    RL P md f r df k cs Stop ops (⟨none,.store T x y,ty,pos,aft,gd⟩::rest) tm (fun h=>St h₀ B₀ p h L):=by
  refine wzj (K:=fun h'=>St h₀ B₀ p h' (L.set i (b,.cells cs2.toArray T' (0,0)))) hm rfl (fun h s=>?_) rfl n
  simp only [execOp,hx,hy]
  refine xbz ?_
  unfold Instr.storeAt
  refine xbz (xbv ?_)
  unfold storeVar
  refine xbz (xmx hs ?_)
  rw [if_neg (by simpa using hv)]
  refine xpk s hL (by simpa using hlen) (fun u hu=>List.all_eq_true.1 h1 u hu) fun h' s'=>?_
  refine xbv ⟨rfl,?_⟩
  rw [Nat.add_zero,h2] at s'
  exact s'
theorem xcq {L':List (Nat × Obj)} (e:L=L') (n:RL P md f r df k cs Stop ops rest tm (fun h=>St h₀ B₀ p h L')):RL P md f r df k cs Stop ops rest tm (fun h=>St h₀ B₀ p h L):=by subst e;exact n
end
end
end Go.X
namespace Go.X
open Go.Conc

def adr (a:Option Addr):Addr:=a.getD ⟨0,0,none⟩

theorem xjq (a:Option Addr) (n c:Nat) (h:a=some (adr a)):Value.slice a n c= .slice (some (adr a)) n c:=by rw [← h]

def Per (p:PHeap) (h:Heap):Prop:=∀ b o,p b=some o→h[b]?=some o

structure Sl (p:PHeap) (a:Option Addr) (n:Nat) (w:Nat) (es:List (List Value)):Prop where
  len:es.length=n
  wid: ∀ e∈es,e.length=w
  ne:0<n→a=some (adr a)
  get: ∀ i e,es[i]?=some e→ ∀ j x,e[j]?=some x→pcell p ((((adr a).add (i*w))).add j)=some x

theorem Sl.mono {p p':PHeap} {a:Option Addr} {n w:Nat} {es:List (List Value)} (hp:PLe p p') (s:Sl p a n w es):Sl p' a n w es:=
  ⟨s.len,s.wid,s.ne,fun i e hi j x hj=>hp.cell (s.get i e hi j x hj)⟩

theorem Sl.nil (p:PHeap) (w:Nat) (a:Option Addr):Sl p a 0 w []:=⟨rfl,by simp,fun h=>absurd h (by omega),by simp⟩

theorem wmj (a:Addr) (m n:Nat):(a.add m).add n=a.add (m+n):=by
  unfold Addr.add
  by_cases hm:m=0
  · subst hm;simp
  · by_cases hn:n=0
    · subst hn;simp
    · rw [if_neg hm,if_neg hn,if_neg (by omega)]
      simp [Nat.add_assoc]

theorem Sl.cut {p:PHeap} {a:Option Addr} {n w:Nat} {es:List (List Value)} (s:Sl p a n w es) {lo hi:Nat} (h1:lo≤hi) (h2:hi≤n) {a':Option Addr} (ha:lo<hi→a'=some ((adr a).add (lo*w))):
    Sl p a' (hi-lo) w ((es.drop lo).take (hi-lo)):=by
  refine ⟨by rw [List.length_take,List.length_drop,s.len];omega,fun e he=>s.wid e (List.mem_of_mem_drop (List.mem_of_mem_take he)),fun h=>by rw [ha (by omega)];rfl,?_⟩
  intro i e hi' j x hj
  rw [List.getElem?_take] at hi'
  split at hi'
  · rename_i hlt
    rw [List.getElem?_drop] at hi'
    have:=s.get _ e hi' j x hj
    rw [ha (by omega)]
    show pcell p ((((adr a).add (lo*w)).add (i*w)).add j)=_
    rw [wmj (adr a),← Nat.add_mul]
    exact this
  · cases hi'

def Ints (p:PHeap) (a:Option Addr) (n:Nat) (xs:List Int):Prop:=Sl p a n 1 (xs.map fun x=>[.int .i64 x])

theorem Ints.len {p:PHeap} {a:Option Addr} {n:Nat} {xs:List Int} (s:Ints p a n xs):xs.length=n:=by have:=Sl.len s;simpa using this
theorem Ints.mono {p p':PHeap} {a:Option Addr} {n:Nat} {xs:List Int} (hp:PLe p p') (s:Ints p a n xs):Ints p' a n xs:=Sl.mono hp s
theorem Ints.ne {p:PHeap} {a:Option Addr} {n:Nat} {xs:List Int} (s:Ints p a n xs) (hk:0<n):a=some (adr a):=Sl.ne s hk
theorem Ints.get {p:PHeap} {a:Option Addr} {n k:Nat} {xs:List Int} (s:Ints p a n xs) (hk:k<n):pcell p ((adr a).add (k*1))=some (.int .i64 (xs.getD k 0)):=by
  have hl:=s.len
  have:=Sl.get s k [.int .i64 (xs.getD k 0)] (by rw [List.getElem?_map,List.getD_eq_getElem?_getD,List.getElem?_eq_getElem (by omega)];rfl) 0 _ rfl
  exact this

def OwnS (T:TypeId) (w:Nat) (v:Value) (es:List (List Value)) (X:List (Nat × Obj)):Prop:=
  (∀ e∈es,e.length=w)∧
  ((v= .slice none 0 0∧es=[]∧X=[])∨
   ∃ b cs cap rest,v= .slice (some ⟨b,0,none⟩) es.length cap∧X=[(b,.cells (List.toArray cs) T (0,0))]∧cs=es.flatten++rest∧cs.length=cap*w∧(w=1→cap≤9223372036854775807))

theorem OwnS.empty (T:TypeId) (w:Nat):OwnS T w (.slice none 0 0) [] []:=⟨by simp,.inl ⟨rfl,rfl,rfl⟩⟩

theorem xlw {es:List (List Value)} {w:Nat} (h: ∀ e∈es,e.length=w):es.flatten.length=es.length*w:=by
  induction es with
  | nil=>simp
  | cons e es ih=>simp only [List.flatten_cons,List.length_append,List.length_cons,ih fun x hx=>h x (by simp [hx]),h e (by simp),Nat.add_mul,Nat.one_mul];omega

theorem xox {w:Nat}: ∀ {es:List (List Value)},(∀ e∈es,e.length=w)→ ∀ {i:Nat} {e:List Value},es[i]?=some e→ ∀ {j:Nat} {x:Value},e[j]?=some x→es.flatten[i*w+j]?=some x
  | [],_,i,e,hi,_,_,_=>by simp at hi
  | e₀::es,h,i,e,hi,j,x,hj=>by
    have h0:=h e₀ (by simp)
    cases i with
    | zero=>
      simp at hi;subst hi
      rw [List.flatten_cons,Nat.zero_mul,Nat.zero_add,List.getElem?_append_left (List.getElem?_eq_some_iff.1 hj).1]
      exact hj
    | succ i=>
      simp at hi
      have:=xox (fun x hx=>h x (by simp [hx])) hi hj
      rw [List.flatten_cons,List.getElem?_append_right (by rw [h0,Nat.succ_mul];omega),h0,Nat.succ_mul]
      rw [show i*w+w+j-w=i*w+j from by omega]
      exact this

theorem OwnS.last {h₀ h:Heap} {B₀:List Nat} {p:PHeap} {L X:List (Nat × Obj)} {T:TypeId} {w:Nat} {v:Value} {es:List (List Value)} (o:OwnS T w v es X) (s:St h₀ B₀ p h (X++L)):
    ∃ p' a cap,PLe p p'∧St h₀ B₀ p' h L∧v= .slice a es.length cap∧Sl p' a es.length w es∧(∀ b,p b=none→b<h₀.size→b ∉ B₀→p' b=none):=by
  obtain ⟨hw,⟨rfl,rfl,rfl⟩ | ⟨b,cs,cap,rest,rfl,rfl,hcs,hlen,_⟩⟩:=o
  · exact ⟨p,none,0,.refl _,s,rfl,.nil _ _ _,fun b hb _ _=>hb⟩
  · have hb:=s.own (b,.cells cs.toArray T (0,0)) (by simp)
    obtain ⟨hle,s'⟩:=s.last
    refine ⟨_,some ⟨b,0,none⟩,cap,hle,s',rfl,⟨rfl,hw,fun _=>rfl,?_⟩,?_⟩
    · intro i e hi j x hj
      show pcell _ (((⟨b,0,none⟩:Addr).add (i*w)).add j)=_
      rw [xnz,xnz]
      unfold pcell
      simp only [xpj,Option.isSome_none,Bool.false_eq_true,if_false,List.getElem?_toArray,Nat.zero_add]
      rw [hcs,List.getElem?_append_left]
      · exact xox hw hi hj
      · exact (List.getElem?_eq_some_iff.1 (xox hw hi hj)).1
    · intro c hc hlt hn
      unfold padd
      rw [if_neg]
      · exact hc
      · intro e;subst e
        rcases hb.2.2 with x | x
        · exact absurd hlt (by omega)
        · exact hn x

section
variable {P:Program} {h₀ h:Heap} {B₀:List Nat} {p:PHeap} {A X C:List (Nat × Obj)}

theorem wfj {need cap by':Nat} (hc:cap<need) (hn:need*by'≤2 ^ 40) (hb:by'≤2 ^ 20):Builtin.nextslicecap need cap*by'≤2 ^ 48:=by
  have g: ∀ r c,c≤need→Builtin.growBy need r c≤2*need+192*1+192:=by
    intro r
    induction r with
    | zero=>intro c hc;simp only [Builtin.growBy];omega
    | succ r ih=>
      intro c hc
      simp only [Builtin.growBy]
      split
      · omega
      · rename_i hlt
        by_cases h2:c+(c+768) / 4≤need
        · exact ih _ h2
        · cases r with
          | zero=>simp only [Builtin.growBy];omega
          | succ r=>simp only [Builtin.growBy];rw [if_pos (by omega)];omega
  have h1:Builtin.nextslicecap need cap≤2*need+384:=by
    unfold Builtin.nextslicecap
    split
    · omega
    · split
      · omega
      · have:=g 4 cap (by omega);omega
  calc Builtin.nextslicecap need cap*by'≤(2*need+384)*by':=Nat.mul_le_mul_right _ h1
    _=2*(need*by')+384*by':=by rw [Nat.add_mul,Nat.mul_assoc]
    _≤2 ^ 48:=by omega

theorem yaz (z:Array Value) (n:Nat):(Builtin.zeroCells z n).toList.length=n*z.size:=by simp [Builtin.zeroCells]

theorem ydv: ∀ {vs:List Value} {a r:List Value},vs.length≤r.length→setl (a++r) a.length vs=a++(vs++r.drop vs.length)
  | [],a,r,_=>by simp [setl]
  | v::vs,a,r,hl=>by
    match r,hl with
    | x::r,hl=>
      simp only [setl]
      rw [List.set_append_right _ _ (Nat.le_refl _),Nat.sub_self,List.set_cons_zero]
      have:=ydv (vs:=vs) (a:=a++[v]) (r:=r) (by simpa using hl)
      simp only [List.length_append,List.length_singleton,List.append_assoc,List.singleton_append] at this
      rw [this];simp

theorem zik {sT xT eT ty:TypeId} {D:TypeDesc} {w m by':Nat} {v x z:Value} {es news:List (List Value)} {K:Value→Heap→Prop} (hT:P.underlying sT=some (.slice eT)) (hs:sizeT P eT=some w) (hz:zeroT P eT=some z) (hzs:z.cells.size=w)
    (hby:bytesT P eT=some by') (hx:P.underlying xT=some D) (hD: ∀ k,D≠ .int k) (o:OwnS eT w v es X) (s:St h₀ B₀ p h (A++(X++C)))
    (hlen: ∀ K:Nat→Heap→Prop,K m h→wpS P (Builtin.lenOf x) h K) (hsrc: ∀ K:Array Value→Heap→Prop,K news.flatten.toArray h→wpS P (Builtin.firstCells w m x) h K)
    (hm:news.length=m) (hw: ∀ e∈news,e.length=w) (h1: ∀ u∈news.flatten,isOne u=true) (room:(es.length+m)*by'≤2 ^ 40) (hb2:0<by'∧by'≤2 ^ 20)
    (n: ∀ v' X' h',OwnS eT w v' (es++news) X'→St h₀ B₀ p h' (A++(X'++C))→K v' h'):wpS P (Builtin.append_ #[sT,xT] ty #[v,x]) h K:=by
  have hinfo: ∃ i,P.info? eT=some i∧i.bytes=by':=by
    unfold bytesT at hby
    cases hi:P.info? eT with
    | none=>rw [hi] at hby;cases hby
    | some i=>rw [hi] at hby;exact ⟨i,rfl,by simpa using hby⟩
  obtain ⟨i,hi,hib⟩:=hinfo
  have hnf:=xlw hw
  have hwe:=o.1
  have hfl:es.flatten.length=es.length*w:=xlw hwe
  have hwall: ∀ e∈es++news,e.length=w:=fun e he=>(List.mem_append.1 he).elim (o.1 e) (hw e)
  have hneed:es.length+m≤2 ^ 40:=Nat.le_trans (Nat.le_mul_of_pos_right _ hb2.1) room
  have base: ∃ base cap,v= .slice base es.length cap∧(∀ K:Array Value→Heap→Prop,K es.flatten.toArray h→wpS P (Builtin.firstCells w es.length v) h K)∧
      ((base=none∧es=[]∧X=[]∧cap=0)∨ ∃ b cs rest,base=some ⟨b,0,none⟩∧X=[(b,.cells (List.toArray cs) eT (0,0))]∧cs=es.flatten++rest∧cs.length=cap*w∧(w=1→cap≤9223372036854775807)):=by
    obtain ⟨_,⟨rfl,rfl,rfl⟩ | ⟨b,cs,cap,rest,rfl,rfl,hcs,hcl,hcc⟩⟩:=o
    · exact ⟨none,0,rfl,fun K hK=>xbv hK,.inl ⟨rfl,rfl,rfl,rfl⟩⟩
    · refine ⟨_,cap,rfl,fun K hK=>?_,.inr ⟨b,cs,rest,rfl,rfl,hcs,hcl,hcc⟩⟩
      have hL:(A++([(b,Obj.cells (List.toArray cs) eT (0,0))]++C))[A.length]?=some (b,.cells (List.toArray cs) eT (0,0)):=by
        rw [List.getElem?_append_right (Nat.le_refl _)];simp
      show wpS P (loadCells ⟨b,0,none⟩ (es.length*w)) h K
      refine xsj hfl (fun j u hj=>?_) hK
      rw [xnz]
      refine s.ocell hL ?_
      rw [List.getElem?_toArray,hcs,Nat.zero_add,List.getElem?_append_left (List.getElem?_eq_some_iff.1 hj).1]
      exact hj
  obtain ⟨base,cap,rfl,hold,hbase⟩:=base
  unfold Builtin.append_
  simp only [List.getElem?_toArray,List.getElem?_cons_zero,List.getElem?_cons_succ]
  refine xbz (xgq hT ?_)
  simp only
  refine xbz (xmx hs ?_)
  refine xbz (xgq hx ?_)
  refine xbz (xlz (K:=fun zr h'=>zr=false∧h'=h) (xbv ⟨by cases D <;> first | rfl | exact absurd rfl (hD _),rfl⟩) fun zr h' ⟨ez,eh⟩=>?_)
  subst ez
  have eh:=eh.symm
  subst eh
  simp only [Bool.false_eq_true,if_false,Bool.not_false,if_true]
  refine xbz (hlen _ ?_)
  by_cases hc:es.length+m≤cap
  · rw [if_pos hc]
    refine xbz (hsrc _ ?_)
    rcases hbase with ⟨rfl,rfl,rfl,rfl⟩ | ⟨b,cs,rest,rfl,rfl,hcs,hcl,hcc⟩
    · have hm0:m=0:=by simp at hc;exact hc
      have:news=[]:=List.eq_nil_of_length_eq_zero (by omega)
      subst this
      subst hm0
      exact xbv (n _ [] h (OwnS.empty _ _) s)
    · have hL:(A++([(b,Obj.cells (List.toArray cs) eT (0,0))]++C))[A.length]?=some (b,.cells (List.toArray cs) eT (0,0)):=by
        rw [List.getElem?_append_right (Nat.le_refl _)];simp
      refine xbz ?_
      rw [xnz]
      have hmul:(es.length+m)*w≤cap*w:=Nat.mul_le_mul_right _ hc
      rw [Nat.add_mul] at hmul
      have hrl:rest.length=cap*w-es.length*w:=by
        have:cs.length=es.flatten.length+rest.length:=by rw [hcs];simp
        omega
      refine xpk (i:=A.length) s hL (by simp only [Nat.zero_add,Nat.add_zero,hnf,hm,hcl];omega) h1 fun h' s'=>?_
      refine xbv (n _ [(b,.cells (List.toArray (setl cs (0+es.length*w+0) news.flatten)) eT (0,0))] h' ⟨hwall,.inr ⟨b,_,cap,rest.drop news.flatten.length,?_,rfl,?_,?_,hcc⟩⟩ ?_)
      · simp [hm]
      · rw [Nat.zero_add,Nat.add_zero,hcs,← hfl,ydv (by rw [hnf,hm];omega)]
        simp
      · rw [Nat.zero_add,Nat.add_zero,hcs,← hfl,ydv (by rw [hnf,hm];omega)]
        simp only [List.length_append,List.length_drop,hfl,hnf,hm,hrl]
        omega
      · have e2:(A++([(b,Obj.cells (List.toArray cs) eT (0,0))]++C)).set A.length (b,.cells (List.toArray (setl cs (0+es.length*w+0) news.flatten)) eT (0,0))=A++([(b,.cells (List.toArray (setl cs (0+es.length*w+0) news.flatten)) eT (0,0))]++C):=by
          rw [List.set_append_right _ _ (Nat.le_refl _)];simp
        rw [e2] at s'
        exact s'
  · rw [if_neg hc]
    refine xbz (xoq hi ?_)
    rw [if_neg (by
      intro hh
      have:(IntKind.i64.max:Int)=9223372036854775807:=by decide
      rw [this] at hh
      omega)]
    refine xbz (xoq hi ?_)
    rw [hib,if_neg (by have:=wfj (by':=by') (by omega:cap<es.length+m) room hb2.2;omega)]
    refine xbz ?_
    show wpS P (choose _) h _
    simp only [choose,wpS,Question.forced,Bool.false_eq_true,if_false,Question.cut]
    intro t
    generalize hnc:es.length+m+t % (2 ^ 63-(es.length+m))=nc
    have hnc':es.length+m≤nc:=by omega
    have hncl:nc≤9223372036854775807:=by
      have:t % (2 ^ 63-(es.length+m))<2 ^ 63-(es.length+m):=Nat.mod_lt _ (by omega)
      omega
    refine xbz (xoq hi ?_)
    refine xbz ?_
    have ask: ∀ (b:Nat) (K:Unit→Heap→Prop),K () h→wpS P (askRoom b) h K:=by
      intro b K hK
      unfold askRoom
      split
      · exact ⟨rfl,hK⟩
      · exact xbv hK
    refine ask _ _ ?_
    refine xbz (hold _ ?_)
    refine xbz (hsrc _ ?_)
    refine xbz (xpz hz ?_)
    refine xbz (xqk ?_)
    refine xbv (n _ [(h.size,.cells (List.toArray (es.flatten++news.flatten++(Builtin.zeroCells z.cells (nc-(es.length+m))).toList)) eT (0,0))] _ ⟨hwall,.inr ⟨h.size,_,nc,(Builtin.zeroCells z.cells (nc-(es.length+m))).toList,?_,rfl,by simp,?_,fun _=>hncl⟩⟩ ?_)
    · simp [hm]
    · simp only [List.length_append,xlw o.1,hnf,hm,yaz,hzs]
      rw [← Nat.add_mul,← Nat.add_mul];congr 1;omega
    · have s1:=s.push (.cells (List.toArray (es.flatten++news.flatten++(Builtin.zeroCells z.cells (nc-(es.length+m))).toList)) eT (0,0))
      have s2:=s1.sub (L':=(h.size,.cells (List.toArray (es.flatten++news.flatten++(Builtin.zeroCells z.cells (nc-(es.length+m))).toList)) eT (0,0))::(A++C)) (by
        refine List.Sublist.cons_cons _ ?_
        exact (List.Sublist.refl A).append (List.sublist_append_right X C))
      have s3:=s2.perm (L':=A++([(h.size,.cells (List.toArray (es.flatten++news.flatten++(Builtin.zeroCells z.cells (nc-(es.length+m))).toList)) eT (0,0))]++C)) (by
        simpa using (List.perm_middle (l₁:=A) (l₂:=C)).symm)
      have e1:(List.toArray es.flatten++List.toArray news.flatten++Builtin.zeroCells z.cells (nc-(es.length+m)))=List.toArray (es.flatten++news.flatten++(Builtin.zeroCells z.cells (nc-(es.length+m))).toList):=by
        apply Array.ext';simp
      rw [e1];exact s3

structure Src (P:Program) (h:Heap) (w m:Nat) (x:Value) (news:List (List Value)):Prop where
  lenOf: ∀ K:Nat→Heap→Prop,K m h→wpS P (Builtin.lenOf x) h K
  cells: ∀ K:Array Value→Heap→Prop,K news.flatten.toArray h→wpS P (Builtin.firstCells w m x) h K
  len:news.length=m
  wid: ∀ e∈news,e.length=w

theorem zuw {sT xT eT eX ty:TypeId} {w m by':Nat} {v x z:Value} {es news:List (List Value)} {K:Value→Heap→Prop} (hT:P.underlying sT=some (.slice eT)) (hs:sizeT P eT=some w) (hz:zeroT P eT=some z) (hzs:z.cells.size=w)
    (hby:bytesT P eT=some by') (hx:P.underlying xT=some (.slice eX)) (o:OwnS eT w v es X) (s:St h₀ B₀ p h (A++(X++C)))
    (hlen: ∀ K:Nat→Heap→Prop,K m h→wpS P (Builtin.lenOf x) h K) (hsrc: ∀ K:Array Value→Heap→Prop,K news.flatten.toArray h→wpS P (Builtin.firstCells w m x) h K)
    (hm:news.length=m) (hw: ∀ e∈news,e.length=w) (h1: ∀ u∈news.flatten,isOne u=true) (room:(es.length+m)*by'≤2 ^ 40) (hb2:0<by'∧by'≤2 ^ 20)
    (n: ∀ v' X' h',OwnS eT w v' (es++news) X'→St h₀ B₀ p h' (A++(X'++C))→K v' h'):wpS P (Builtin.append_ #[sT,xT] ty #[v,x]) h K:=
  zik hT hs hz hzs hby hx (fun _ e=>by cases e) o s hlen hsrc hm hw h1 room hb2 n

theorem yvq {w:Nat} (hw0:0<w): ∀ {es:List (List Value)},(∀ e∈es,e.length=w)→ ∀ {j:Nat} {x:Value},es.flatten[j]?=some x→ ∃ e,es[j / w]?=some e∧e[j % w]?=some x
  | [],_,j,x,hj=>by simp at hj
  | e::es,h,j,x,hj=>by
    have h0:=h e (by simp)
    rw [List.flatten_cons] at hj
    by_cases hlt:j<w
    · rw [List.getElem?_append_left (by omega)] at hj
      exact ⟨e,by rw [Nat.div_eq_of_lt hlt];rfl,by rw [Nat.mod_eq_of_lt hlt];exact hj⟩
    · rw [List.getElem?_append_right (by omega),h0] at hj
      obtain ⟨e',h1,h2⟩:=yvq hw0 (fun x hx=>h x (by simp [hx])) hj
      refine ⟨e',?_,?_⟩
      · rw [show j / w=(j-w) / w+1 from by
          rw [← Nat.add_div_right _ hw0];congr 1;omega]
        simpa using h1
      · rw [show j % w=(j-w) % w from by
          rw [← Nat.add_mod_right (j-w)];congr 1;omega]
        exact h2

theorem zjz {a:Option Addr} {m cap w:Nat} {news:List (List Value)} (s:St h₀ B₀ p h C) (hw0:0<w) (d:Sl p a m w news):Src P h w m (.slice a m cap) news:=by
  refine ⟨fun K hK=>xbv hK,fun K hK=>?_,d.len,d.wid⟩
  by_cases h0:m=0
  · subst h0
    have:news=[]:=List.eq_nil_of_length_eq_zero d.len
    subst this
    cases a with
    | none=>exact xbv hK
    | some a=>
      show wpS P (loadCells a (0*w)) h K
      exact xsj (vs:=[]) (by simp) (by simp) hK
  · rw [d.ne (by omega)]
    show wpS P (loadCells (adr a) (m*w)) h K
    refine xsj (by rw [xlw d.wid,d.len]) (fun j u hj=>?_) hK
    obtain ⟨e,h1,h2⟩:=yvq hw0 d.wid hj
    have:=s.cell (d.get _ e h1 _ u h2)
    rw [wmj] at this
    rwa [show j / w*w+j % w=j from by rw [Nat.mul_comm];exact Nat.div_add_mod j w] at this

theorem wyj {w:Nat}:Src P h w 0 (.slice none 0 0) []:=⟨fun K hK=>xbv hK,fun K hK=>xbv hK,rfl,by simp⟩

section
variable {md:Md} {f:FuncId} {r:Rd} {df:List Deferred} {k:List Item} {cs:List Frame} {Stop:Goroutine→Heap→Prop} {ops rest:List Oper} {tm:List Value}
  {ty:TypeId} {pos:String} {aft:Array Edge} {gd:Option (Nat × Bool)}

def bcs (l:List UInt8):List (List Value):=l.map fun x=>[.int .u8 ((x.toNat:Nat):Int)]
end
end
end Go.X
namespace Go.X
open Go.Conc

def preds (o:Oper):List Nat:=(o.after.toList.filter (Region.binds .any)).map (·.on)

def looks (ops:List Oper) (o:Oper):List Tmp:=
  o.op.operands.toList.filterMap (fun | .tmp t=>some t | _=>none)++(match o.guard with | some (j,_)=>((ops[j]?).bind (·.dst)).toList | none=>[])

def noSel:Op→Bool
  | .select .. => false
  | _=>true

def behind (cl:List (List Nat)) (o:Oper) (j:Nat):Bool:=(preds o).contains j || (preds o).any fun k=>(cl.getD k []).contains j

def stable (ops:List Oper) (m:Nat) (cl:List (List Nat)):Bool:=
  (ops.zipIdx.all fun (o,i)=>
    (preds o).all (· < i) && (cl.getD i []).all (fun j=>decide (j<i) && behind cl o j) &&
    (if m≤i then (List.range i).all fun j=>behind cl o j else
      noSel o.op && ops.zipIdx.all fun (o',j)=>!decide (j<m) || (match o'.dst with
        | some d=>(decide (i=j) || decide (o.dst≠some d)) && (!(looks ops o).contains d || (preds o).contains j)
        | none=>true)))

theorem zfw {o:Oper} {j:Nat}:j∈preds o↔ ∃ e∈o.after,Region.binds .any e=true∧e.on=j:=by
  unfold preds
  simp only [List.mem_map,List.mem_filter,Array.mem_toList_iff]
  constructor
  · rintro ⟨e,⟨h1,h2⟩,h3⟩;exact ⟨e,h1,h2,h3⟩
  · rintro ⟨e,h1,h2,h3⟩;exact ⟨e,⟨h1,h2⟩,h3⟩

section
variable {ops:List Oper} {m:Nat} {cl:List (List Nat)}

theorem xkv (hs:stable ops m cl=true) {i:Nat} {o:Oper} (ho:ops[i]?=some o):
    (∀ j∈preds o,j<i)∧(m≤i→ ∀ j<i,behind cl o j=true)∧
    (i<m→noSel o.op=true∧ ∀ (j:Nat) (o':Oper) (d:Nat),j<m→ops[j]?=some o'→o'.dst=some d→(i=j∨o.dst≠some d)∧(d∈looks ops o→j∈preds o)):=by
  unfold stable at hs
  rw [List.all_eq_true] at hs
  have hmem:(o,i)∈ops.zipIdx:=by rw [List.mem_zipIdx_iff_getElem?];exact ho
  have h:=hs (o,i) hmem
  simp only [Bool.and_eq_true,List.all_eq_true,decide_eq_true_eq] at h
  refine ⟨h.1.1,fun hm=>?_,fun hm=>?_⟩
  · rw [if_pos hm] at h
    intro j hj
    exact List.all_eq_true.1 h.2 j (List.mem_range.2 hj)
  · rw [if_neg (by omega)] at h
    have h2:=h.2
    rw [Bool.and_eq_true] at h2
    refine ⟨h2.1,fun j o' d hj ho' hd=>?_⟩
    have hmem':(o',j)∈ops.zipIdx:=by rw [List.mem_zipIdx_iff_getElem?];exact ho'
    have h3:=List.all_eq_true.1 h2.2 (o',j) hmem'
    simp only [hd,hj,decide_true,Bool.not_true,Bool.false_or,Bool.and_eq_true,Bool.or_eq_true,decide_eq_true_eq,Bool.not_eq_true',List.contains_eq_mem,decide_eq_false_iff_not] at h3
    refine ⟨h3.1,fun hl=>?_⟩
    rcases h3.2 with x | x
    · exact absurd hl (by simpa using x)
    · simpa using x

theorem zcw (hs:stable ops m cl=true) {i j:Nat} {o:Oper} (ho:ops[i]?=some o) (hj:j∈cl.getD i []):j<i∧behind cl o j=true:=by
  unfold stable at hs
  rw [List.all_eq_true] at hs
  have hmem:(o,i)∈ops.zipIdx:=by rw [List.mem_zipIdx_iff_getElem?];exact ho
  have h:=hs (o,i) hmem
  simp only [Bool.and_eq_true,List.all_eq_true,decide_eq_true_eq] at h
  exact h.1.2 j hj

theorem ykz {o:Oper} {j:Nat}:behind cl o j=true↔j∈preds o∨ ∃ k∈preds o,j∈cl.getD k []:=by
  unfold behind
  simp only [Bool.or_eq_true,List.any_eq_true,List.contains_iff_mem]

theorem xtj (hs:stable ops m cl=true) {l:Array Bool} (hsz:l.size=ops.length) (hl: ∀ (j:Nat) (o:Oper),l.getD j false=true→ops[j]?=some o→ ∀ x∈preds o,l.getD x false=true):
    ∀ (n:Nat) (o:Oper) (j:Nat),(∀ x∈preds o,x<n∧l.getD x false=true)→behind cl o j=true→l.getD j false=true:=by
  intro n
  induction n with
  | zero=>
    intro o j hp hb
    rcases ykz.1 hb with h | ⟨k,h,_⟩
    · exact (hp j h).2
    · exact absurd (hp k h).1 (by omega)
  | succ n ih=>
    intro o j hp hb
    rcases ykz.1 hb with h | ⟨k,h,h2⟩
    · exact (hp j h).2
    · obtain ⟨hk,hkl⟩:=hp k h
      have hk2:k<ops.length:=by
        rcases Nat.lt_or_ge k l.size with h | h
        · omega
        · simp [Array.getD,Nat.not_lt.2 h] at hkl
      have ho:=List.getElem?_eq_getElem hk2
      exact ih ops[k] j (fun x hx=>⟨Nat.lt_of_lt_of_le ((xkv hs ho).1 x hx) (by omega),hl k _ hkl ho x hx⟩) (zcw hs ho h2).2

inductive Ord (ops:List Oper) (m:Nat):Array Bool→List Nat→Prop
  | nil {l:Array Bool} (h: ∀ j<m,l.getD j false=true):Ord ops m l []
  | cons {l:Array Bool} {i:Nat} {s:List Nat} {o:Oper} (hi:i<m) (ho:ops[i]?=some o) (hn:l.getD i true=false) (hp: ∀ j∈preds o,l.getD j false=true) (hs:Ord ops m (l.setIfInBounds i true) s):Ord ops m l (i::s)

theorem yex {l:Array Bool} {i:Nat} (hi:i<l.size):l.getD i true=l.getD i false:=by simp [Array.getD,hi]

theorem yfk {l:Array Bool} {i:Nat}:i∈Region.ready .any ops.toArray l↔l.getD i true=false∧ ∃ o,ops[i]?=some o∧ ∀ j∈preds o,l.getD j false=true:=by
  rw [mem_ready]
  constructor
  · rintro ⟨h1,o,h2,h3⟩
    refine ⟨h1,o,by simpa using h2,fun j hj=>?_⟩
    obtain ⟨e,he,hb,rfl⟩:=zfw.1 hj
    exact h3 e he hb
  · rintro ⟨h1,o,h2,h3⟩
    exact ⟨h1,o,by simpa using h2,fun e he hb=>h3 _ (zfw.2 ⟨e,he,hb,rfl⟩)⟩

theorem whv (fuel t:Nat) (l:Array Bool):Region.linearise.go .any ops.toArray (fuel+1) t l []=(match (Region.ready .any ops.toArray l)[t % (Region.ready .any ops.toArray l).length]? with
      | some i=>i::Region.linearise.go .any ops.toArray fuel (t / (Region.ready .any ops.toArray l).length) (l.setIfInBounds i true) []
      | none=>[]):=by
  simp only [Region.linearise.go]
  change (match (Region.ready .any ops.toArray l)[t % (Region.ready .any ops.toArray l).length]? with
      | some i=>Region.linearise.go .any ops.toArray fuel (t / (Region.ready .any ops.toArray l).length) (l.setIfInBounds i true) [i]
      | none=>[].reverse)=_
  split
  · rw [linearise_go_acc];simp
  · rfl

def openN (l:Array Bool) (n:Nat):Nat:=(List.range n).countP fun i=>!l.getD i false

theorem wpq {l:Array Bool} {n i:Nat} (hi:i<n) (hl:l.size=n) (h:l.getD i true=false):openN (l.setIfInBounds i true) n+1≤openN l n:=by
  unfold openN
  have key: ∀ k,k≤n→(List.range k).countP (fun j=>!(l.setIfInBounds i true).getD j false)+(if i<k then 1 else 0)≤(List.range k).countP (fun j=>!l.getD j false):=by
    intro k
    induction k with
    | zero=>intro _;simp
    | succ k ih=>
      intro hk
      have ih:=ih (by omega)
      rw [List.range_succ,List.countP_append,List.countP_append]
      simp only [List.countP_singleton]
      by_cases e:i=k
      · subst e
        have h1:(l.setIfInBounds i true).getD i false=true:=by simp [Array.getD,hl,hi]
        have h2:l.getD i false=false:=by rw [← yex (by omega)];exact h
        rw [h1,h2]
        simp at ih ⊢
        omega
      · rw [getD_set_ne false e]
        have h3:(if i<k+1 then 1 else 0)=(if i<k then 1 else 0):=by
          by_cases h:i<k
          · rw [if_pos h,if_pos (by omega)]
          · rw [if_neg h,if_neg (by omega)]
        rw [h3];omega
  have:=key n (Nat.le_refl _)
  rw [if_pos hi] at this
  exact this

theorem wpx {l:Array Bool} {n i:Nat} (hi:i<n) (h:l.getD i false=false):0<openN l n:=by
  unfold openN
  rw [List.countP_pos_iff]
  exact ⟨i,by simpa using hi,by simp [h]⟩

theorem zvj (hs:stable ops m cl=true): ∀ (fuel t c:Nat) (l:Array Bool),m≤c→c≤ops.length→l.size=ops.length→(∀ j,l.getD j false=decide (j<c))→ops.length-c≤fuel→
    Region.linearise.go .any ops.toArray fuel t l []=List.range' c (ops.length-c):=by
  intro fuel
  induction fuel with
  | zero=>intro t c l _ _ _ _ hf;rw [show ops.length-c=0 from by omega];rfl
  | succ fuel ih=>
    intro t c l hm hc hl hd hf
    rw [whv]
    by_cases he:c=ops.length
    · have:Region.ready .any ops.toArray l=[]:=by
        rw [List.eq_nil_iff_forall_not_mem]
        intro i hi
        obtain ⟨h1,o,ho,_⟩:=yfk.1 hi
        have hlt:=(List.getElem?_eq_some_iff.1 ho).1
        rw [yex (by omega),hd] at h1
        simp at h1;omega
      rw [this,show ops.length-c=0 from by omega];rfl
    · have hlt:c<ops.length:=by omega
      have hr:Region.ready .any ops.toArray l=[c]:=by
        have hmem: ∀ i,i∈Region.ready .any ops.toArray l↔i=c:=by
          intro i
          rw [yfk]
          constructor
          · rintro ⟨h1,o,ho,hp⟩
            have hil:=(List.getElem?_eq_some_iff.1 ho).1
            rw [yex (by omega),hd] at h1
            simp at h1
            rcases Nat.lt_or_ge c i with hci | hci
            · have:=xtj hs hl (fun j o' hj ho' x hx=>by
                rw [hd] at hj ⊢;simp at hj ⊢;exact Nat.lt_trans ((xkv hs ho').1 x hx) hj) i o c (fun x hx=>⟨(xkv hs ho).1 x hx,hp x hx⟩) ((xkv hs ho).2.1 (by omega) c hci)
              rw [hd] at this;simp at this
            · omega
          · rintro rfl
            refine ⟨by rw [yex (by omega),hd];simp,_,List.getElem?_eq_getElem hlt,fun j hj=>?_⟩
            rw [hd];simpa using (xkv hs (List.getElem?_eq_getElem hlt)).1 j hj
        have hnd:(Region.ready .any ops.toArray l).Nodup:=by unfold Region.ready;exact List.nodup_range.sublist List.filter_sublist
        match hre:Region.ready .any ops.toArray l,hmem,hnd with
        | [],hmem,_=>exact absurd ((hmem c).2 rfl) (by simp)
        | [x],hmem,_=>rw [(hmem x).1 (by simp)]
        | x::y::z,hmem,hnd=>
          have h1:=(hmem x).1 (by simp)
          have h2:=(hmem y).1 (by simp)
          subst h1;subst h2
          simp at hnd
      rw [hr]
      simp only [List.length_singleton,Nat.mod_one,List.getElem?_cons_zero]
      rw [ih _ (c+1) _ (by omega) (by omega) (by simpa using hl) (fun j=>?_) (by omega)]
      · rw [show ops.length-c=ops.length-(c+1)+1 from by omega,List.range'_succ]
      · by_cases e:c=j
        · subst e;simp [Array.getD,hl,hlt]
        · rw [getD_set_ne false e,hd]
          by_cases h:j<c
          · rw [decide_eq_true h,decide_eq_true (by omega)]
          · rw [decide_eq_false h,decide_eq_false (by omega)]

theorem zkk (hs:stable ops m cl=true) (hm:m≤ops.length): ∀ (fuel t:Nat) (l:Array Bool),l.size=ops.length→(∀ j,m≤j→l.getD j false=false)→(∀ (j:Nat) (o:Oper),l.getD j false=true→ops[j]?=some o→ ∀ x∈preds o,l.getD x false=true)→openN l ops.length≤fuel→
    ∃ s,Region.linearise.go .any ops.toArray fuel t l []=s++List.range' m (ops.length-m)∧Ord ops m l s:=by
  intro fuel
  induction fuel with
  | zero=>
    intro t l hl htail _ hf
    have hall: ∀ j,j<ops.length→l.getD j false=true:=fun j hj=>by
      cases h:l.getD j false
      · have:=wpx hj h;omega
      · rfl
    have hme:m=ops.length:=by
      rcases Nat.lt_or_ge m ops.length with h | h
      · have:=hall m h;rw [htail m (Nat.le_refl _)] at this;cases this
      · omega
    exact ⟨[],by rw [hme,Nat.sub_self];rfl,.nil fun j hj=>hall j (by omega)⟩
  | succ fuel ih=>
    intro t l hl htail hcl hf
    by_cases hall: ∀ j<m,l.getD j false=true
    · refine ⟨[],?_,.nil hall⟩
      rw [List.nil_append]
      refine zvj hs _ _ m l (Nat.le_refl _) hm hl (fun j=>?_) ?_
      · by_cases h:j<m
        · rw [hall j h,decide_eq_true h]
        · rw [htail j (by omega),decide_eq_false h]
      · have:ops.length-m≤openN l ops.length:=by
          unfold openN
          have e:List.range ops.length=List.range m++(List.range (ops.length-m)).map (m+ ·):=by
            rw [← List.range_add,show m+(ops.length-m)=ops.length from by omega]
          rw [e,List.countP_append]
          have:((List.range (ops.length-m)).map (m+ ·)).countP (fun i=>!l.getD i false)=ops.length-m:=by
            rw [List.countP_eq_length.2]
            · simp
            · intro x hx
              obtain ⟨y,_,rfl⟩:=List.mem_map.1 hx
              rw [htail _ (by omega)];rfl
          omega
        omega
    ·
      have hex: ∃ i,i<m∧l.getD i false=false∧ ∀ j<i,l.getD j false=true:=by
        have: ∃ i,i<m∧l.getD i false=false:=by
          refine Classical.byContradiction fun hn=>hall fun j hj=>?_
          cases h:l.getD j false
          · exact absurd ⟨j,hj,h⟩ hn
          · rfl
        obtain ⟨i,hi,hf⟩:=this
        induction i using Nat.strongRecOn with
        | _ i ih=>
          by_cases hlow: ∀ j<i,l.getD j false=true
          · exact ⟨i,hi,hf,hlow⟩
          · have: ∃ j,j<i∧l.getD j false=false:=by
              refine Classical.byContradiction fun hn=>hlow fun j hj=>?_
              cases h:l.getD j false
              · exact absurd ⟨j,hj,h⟩ hn
              · rfl
            obtain ⟨j,hj,hjf⟩:=this
            exact ih j hj (by omega) hjf
      obtain ⟨i₀,hi₀,hf₀,hlow₀⟩:=hex
      have hr₀:i₀∈Region.ready .any ops.toArray l:=by
        rw [yfk]
        refine ⟨by rw [yex (by omega)];exact hf₀,_,List.getElem?_eq_getElem (by omega),fun j hj=>hlow₀ j ((xkv hs (List.getElem?_eq_getElem (by omega))).1 j hj)⟩
      rw [whv]
      cases hre:(Region.ready .any ops.toArray l)[t % (Region.ready .any ops.toArray l).length]? with
      | none=>
        have hlen:0<(Region.ready .any ops.toArray l).length:=List.length_pos_of_mem hr₀
        have:=Nat.mod_lt t hlen
        rw [List.getElem?_eq_none_iff] at hre
        omega
      | some i=>
        obtain ⟨h1,o,ho,hp⟩:=yfk.1 (List.mem_of_getElem? hre)
        have hil:=(List.getElem?_eq_some_iff.1 ho).1
        have him:i<m:=by
          rcases Nat.lt_or_ge i m with h | h
          · exact h
          · have:=xtj hs hl hcl i o i₀ (fun x hx=>⟨(xkv hs ho).1 x hx,hp x hx⟩) ((xkv hs ho).2.1 h i₀ (by omega))
            rw [hf₀] at this;cases this
        obtain ⟨s,e,hord⟩:=ih (t / (Region.ready .any ops.toArray l).length) (l.setIfInBounds i true) (by simpa using hl) (fun j hj=>by rw [getD_set_ne false (by omega)];exact htail j hj) (fun j o' hj ho' x hx=>by
          by_cases e':i=j
          · subst e'
            rw [ho] at ho';cases ho'
            have hx':=hp x hx
            by_cases e2:i=x
            · subst e2;simp [Array.getD,hl,hil]
            · rw [getD_set_ne false e2];exact hx'
          · rw [getD_set_ne false e'] at hj
            by_cases e2:i=x
            · subst e2;simp [Array.getD,hl,hil]
            · rw [getD_set_ne false e2];exact hcl j o' hj ho' x hx) (by
          have:=wpq hil hl h1;omega)
        refine ⟨i::s,?_,.cons him ho h1 hp hord⟩
        simp only
        rw [e];rfl

theorem yqj (hs:stable ops m cl=true) (hm:m≤ops.length) (t:Nat):
    ∃ s,Region.linearise .any ops.toArray t=s++List.range' m (ops.length-m)∧Ord ops m (Array.replicate ops.length false) s:=by
  unfold Region.linearise
  have:=zkk hs hm ops.length t (Array.replicate ops.length false) (by simp) (fun j _=>by simp [Array.getD]) (fun j _ hj=>by simp [Array.getD] at hj) (by
    unfold openN;have:=List.countP_le_length (p:=fun i=>!(Array.replicate ops.length false).getD i false) (l:=List.range ops.length);simpa using this)
  simpa using this
end

def OpTo (P:Program) (md:Md) (tm:List Value) (o:Oper) (Base:Heap→Prop) (v:Value):Prop:=
  ∀ h,Base h→Ex P tm o h (fun v' h'=>v'=v∧Base h')∨
    (∃ g args,(wpS P (execOp (evl tm) o) h fun n h'=>n= .enter g args∧h'=h)∧CallsX P md g args h (fun v' h'=>v'=v∧Base h'))∨
    ∀ (c:Frame) (cs:List Frame) (Stop:Goroutine→Heap→Prop),(∀ v' h',v'=v∧Base h'→Reach P md (G (c.finish v') cs) h' Stop)→wpS P (execOp (evl tm) o) h (Upon P md c cs Stop)

def SW (P:Program) (md:Md) (ops:List Oper) (Base:Heap→Prop):List Oper→List Value→List Value→Prop
  | [],tm,tm'=>tm=tm'
  | o::rest,tm,tm'=>noDefer o.op=true∧((Met ops tm o true∧ ∃ v,OpTo P md tm o Base v∧SW P md ops Base rest (putl tm o.dst v) tm')∨(Met ops tm o false∧SW P md ops Base rest (putl tm o.dst undef) tm'))

section
variable {P:Program} {md:Md} {Base:Heap→Prop} {ops:List Oper} {m:Nat}

def Turn (P:Program) (md:Md) (ops:List Oper) (Base:Heap→Prop) (o:Oper) (tm:List Value) (v:Value):Prop:=
  noDefer o.op=true∧((Met ops tm o true∧OpTo P md tm o Base v)∨(Met ops tm o false∧v=undef))

theorem xqz (tm:List Value) (d:Option Tmp) (v:Value):(putl tm d v).length=tm.length:=by cases d <;> simp [putl]
theorem xuv {tm:List Value} {d:Option Tmp} {v:Value} {x:Nat} (h:d≠some x):(putl tm d v)[x]?=tm[x]?:=by
  cases d with
  | none=>rfl
  | some y=>simp only [putl];rw [List.getElem?_set_ne];intro e;exact h (by rw [e])

theorem zpx: ∀ {rest:List Oper} {tm tmF:List Value},SW P md ops Base rest tm tmF→
    (∀ (i j:Nat) (o o':Oper) (d:Nat),rest[i]?=some o→rest[j]?=some o'→o.dst=some d→o'.dst=some d→i=j)→
    tmF.length=tm.length∧(∀ x,(∀ (j:Nat) (o:Oper),rest[j]?=some o→o.dst≠some x)→tmF[x]?=tm[x]?)∧
    ∀ (i:Nat) (o:Oper),rest[i]?=some o→ ∃ tmi v,Turn P md ops Base o tmi v∧tmi.length=tm.length∧(∀ x,(∃ (j:Nat) (o':Oper),j<i∧rest[j]?=some o'∧o'.dst=some x)→tmi[x]?=tmF[x]?)∧
      (∀ x,(∀ (j:Nat) (o':Oper),j<i→rest[j]?=some o'→o'.dst≠some x)→tmi[x]?=tm[x]?)∧ ∀ x,o.dst=some x→tmF[x]?=(putl tmi o.dst v)[x]?
  | [],tm,tmF,h,_=>by
    subst h
    exact ⟨rfl,fun _ _=>rfl,fun i o hi=>by simp at hi⟩
  | o₀::rest,tm,tmF,h,hd=>by
    obtain ⟨hnd,hcase⟩:=h
    have step: ∀ v,Turn P md ops Base o₀ tm v→SW P md ops Base rest (putl tm o₀.dst v) tmF→
        tmF.length=tm.length∧(∀ x,(∀ (j:Nat) (o:Oper),(o₀::rest)[j]?=some o→o.dst≠some x)→tmF[x]?=tm[x]?)∧
        ∀ (i:Nat) (o:Oper),(o₀::rest)[i]?=some o→ ∃ tmi v,Turn P md ops Base o tmi v∧tmi.length=tm.length∧(∀ x,(∃ (j:Nat) (o':Oper),j<i∧(o₀::rest)[j]?=some o'∧o'.dst=some x)→tmi[x]?=tmF[x]?)∧
          (∀ x,(∀ (j:Nat) (o':Oper),j<i→(o₀::rest)[j]?=some o'→o'.dst≠some x)→tmi[x]?=tm[x]?)∧ ∀ x,o.dst=some x→tmF[x]?=(putl tmi o.dst v)[x]?:=by
      intro v ht hs
      obtain ⟨h1,h2,h3⟩:=zpx hs fun i j o o' d hi hj ho ho'=>by
        have:=hd (i+1) (j+1) o o' d (by simpa using hi) (by simpa using hj) ho ho'
        omega
      have hfresh: ∀ x,o₀.dst=some x→ ∀ (j:Nat) (o:Oper),rest[j]?=some o→o.dst≠some x:=fun x hx j o hj ho=>by
        have:=hd 0 (j+1) o₀ o x rfl (by simpa using hj) hx ho
        omega
      have hF0: ∀ x,o₀.dst=some x→tmF[x]?=(putl tm o₀.dst v)[x]?:=fun x hx=>h2 x (hfresh x hx)
      refine ⟨by rw [h1,xqz],fun x hx=>?_,fun i o hi=>?_⟩
      · rw [h2 x fun j o hj=>hx (j+1) o (by simpa using hj),xuv (hx 0 o₀ rfl)]
      · cases i with
        | zero=>
          simp at hi;subst hi
          refine ⟨tm,v,ht,rfl,fun x hx=>?_,fun _ _=>rfl,hF0⟩
          obtain ⟨j,_,hj,_⟩:=hx
          omega
        | succ i=>
          obtain ⟨tmi,v',t1,t2,t3,t4,t5⟩:=h3 i o (by simpa using hi)
          refine ⟨tmi,v',t1,by rw [t2,xqz],fun x hx=>?_,fun x hx=>?_,t5⟩
          · obtain ⟨j,o',hj,ho',hx'⟩:=hx
            cases j with
            | zero=>
              simp at ho';subst ho'
              rw [t4 x fun j o' _ hj'=>hfresh x hx' j o' hj',hF0 x hx']
            | succ j=>exact t3 x ⟨j,o',by omega,by simpa using ho',hx'⟩
          · rw [t4 x fun j o' hj ho'=>hx (j+1) o' (by omega) (by simpa using ho'),xuv (hx 0 o₀ (by omega) rfl)]
    rcases hcase with ⟨hm,v,ho,hs⟩ | ⟨hm,hs⟩
    · exact step v ⟨hnd,.inl ⟨hm,ho⟩⟩ hs
    · exact step undef ⟨hnd,.inr ⟨hm,rfl⟩⟩ hs

theorem vhj {tm tm':List Value} {t:Nat} (h:tm[t]?=tm'[t]?):evl tm (.tmp t)=evl tm' (.tmp t):=by
  simp only [evl,List.getD_eq_getElem?_getD,h]

theorem wpz {o:Op} (h:noSel o=true) (cs:Array SelectCase) (b:Bool):o≠ .select cs b:=by intro e;subst e;simp [noSel] at h

theorem zaz {tm tm':List Value} {o:Oper} (hs:noSel o.op=true) (h: ∀ t∈looks ops o,tm[t]?=tm'[t]?):execOp (evl tm) o=execOp (evl tm') o:=by
  refine execOp_congr o (wpz hs) fun x hx=>?_
  cases x with
  | tmp t=>exact vhj (h t (by unfold looks;rw [List.mem_append];exact .inl (List.mem_filterMap.2 ⟨.tmp t,by simpa using hx,rfl⟩)))
  | const v=>rfl
  | global g=>rfl
  | func f=>rfl

theorem yqv {tm tm':List Value} {o:Oper} {t:Bool} (h: ∀ x∈looks ops o,tm[x]?=tm'[x]?) (m:Met ops tm' o t):Met ops tm o t:=by
  unfold Met at m ⊢
  split at m
  · exact m
  · rename_i j want hg
    rw [← m]
    unfold yieldl
    cases hd:(ops[j]?).bind (·.dst) with
    | none=>rfl
    | some d=>
      have:tm[d]?=tm'[d]?:=h d (by unfold looks;rw [hg,List.mem_append];exact .inr (by simp [hd]))
      simp only [Option.bind_some,this]

section
variable {f:FuncId} {r:Rd} {df:List Deferred} {k:List Item} {cs:List Frame} {Stop:Goroutine→Heap→Prop} {tm tmF:List Value}

theorem wrj [Stb Base] {id:Nat} (m:Nat) (cl:List (List Nat)) (hmix:P.follows .mixedOrders=true) (hst:stable ops m cl=true) (hm:m≤ops.length) (sw:SW P md ops Base (ops.take m) tm tmF)
    (n:RL P md f r df k cs Stop ops (ops.drop m) tmF Base):RS P md (G (FL f r tm df (.code (.region id ops.toArray true)::k)) cs) Base Stop:=by
  refine yxv fun t=>?_
  unfold Region.schedule
  rw [hmix]
  simp only [Bool.true_or,if_true]
  obtain ⟨s,e,hord⟩:=yqj hst hm t
  rw [e]
  have hget: ∀ {i:Nat} {o:Oper},i<m→ops[i]?=some o→(ops.take m)[i]?=some o:=fun hi ho=>by rw [List.getElem?_take,if_pos hi];exact ho
  have hget': ∀ {i:Nat} {o:Oper},(ops.take m)[i]?=some o→i<m∧ops[i]?=some o:=fun ho=>by
    rw [List.getElem?_take] at ho
    split at ho
    · exact ⟨by assumption,ho⟩
    · cases ho
  have hdist: ∀ (i j:Nat) (o o':Oper) (d:Nat),(ops.take m)[i]?=some o→(ops.take m)[j]?=some o'→o.dst=some d→o'.dst=some d→i=j:=fun i j o o' d hi hj ho ho'=>by
    obtain ⟨hi,hio⟩:=hget' hi
    obtain ⟨hj,hjo⟩:=hget' hj
    exact (((xkv hst hio).2.2 hi).2 j o' d hj hjo ho').1.resolve_right fun hne=>hne ho
  obtain ⟨hlen,hrest,hturn⟩:=zpx sw hdist
  have main: ∀ (s:List Nat) (l:Array Bool) (tmc:List Value),Ord ops m l s→l.size=ops.length→tmc.length=tm.length→
      (∀ x,(∃ (j:Nat) (o:Oper),j<m∧l.getD j false=true∧ops[j]?=some o∧o.dst=some x)→tmc[x]?=tmF[x]?)→
      (∀ x,(∀ (j:Nat) (o:Oper),j<m→l.getD j false=true→ops[j]?=some o→o.dst≠some x)→tmc[x]?=tm[x]?)→
      RS P md (G (FL f r tmc df (.inRegion ops.toArray (s++List.range' m (ops.length-m))::k)) cs) Base Stop:=by
    intro s
    induction s with
    | nil=>
      intro l tmc hord _ hl h1 h2
      cases hord with
      | nil hall=>
      have:tmc=tmF:=by
        refine List.ext_getElem? fun x=>?_
        by_cases hx: ∃ (j:Nat) (o:Oper),j<m∧ops[j]?=some o∧o.dst=some x
        · obtain ⟨j,o,hj,ho,hd⟩:=hx
          exact h1 x ⟨j,o,hj,hall j hj,ho,hd⟩
        · rw [h2 x fun j o hj _ ho hd=>hx ⟨j,o,hj,ho,hd⟩]
          exact (hrest x fun j o hjo hd=>hx ⟨j,o,(hget' hjo).1,(hget' hjo).2,hd⟩).symm
      subst this
      rw [List.nil_append]
      have:=n (ops.take m) (List.take_append_drop m ops).symm
      rw [List.length_take,Nat.min_eq_left hm,List.length_drop] at this
      exact this
    | cons i s ih=>
      intro l tmc hord hsz hl h1 h2
      cases hord with
      | @cons _ _ _ o hi ho hn hp hs=>
      have hil:=(List.getElem?_eq_some_iff.1 ho).1
      have hlooks:=((xkv hst ho).2.2 hi)
      obtain ⟨tmi,v,ht,t2,t3,t4,t5⟩:=hturn i o (hget hi ho)
      have hag: ∀ x∈looks ops o,tmc[x]?=tmi[x]?:=by
        intro x hx
        by_cases hw: ∃ (j:Nat) (o':Oper),j<m∧ops[j]?=some o'∧o'.dst=some x
        · obtain ⟨j,o',hj,ho',hd⟩:=hw
          have hpj:=(hlooks.2 j o' x hj ho' hd).2 hx
          rw [h1 x ⟨j,o',hj,hp j hpj,ho',hd⟩,t3 x ⟨j,o',(xkv hst ho).1 j hpj,hget hj ho',hd⟩]
        · rw [h2 x fun j o' hj _ ho' hd=>hw ⟨j,o',hj,ho',hd⟩,t4 x fun j o' _ ho' hd=>hw ⟨j,o',(hget' ho').1,(hget' ho').2,hd⟩]
      have next:RS P md (G (FL f r (putl tmc o.dst v) df (.inRegion ops.toArray (s++List.range' m (ops.length-m))::k)) cs) Base Stop:=by
        refine ih (l.setIfInBounds i true) _ hs (by simpa using hsz) (by rw [xqz];exact hl) (fun x hx=>?_) (fun x hx=>?_)
        · obtain ⟨j,o',hj,hlj,ho',hd⟩:=hx
          by_cases e:i=j
          · subst e
            rw [ho] at ho';cases ho'
            rw [t5 x hd,hd]
            simp only [putl]
            by_cases hxl:x<tm.length
            · rw [List.getElem?_set_self (by rw [hl];exact hxl),List.getElem?_set_self (by rw [t2];exact hxl)]
            · rw [List.getElem?_eq_none (by rw [List.length_set,hl];exact Nat.le_of_not_lt hxl),List.getElem?_eq_none (by rw [List.length_set,t2];exact Nat.le_of_not_lt hxl)]
          · have hne:o.dst≠some x:=(hlooks.2 j o' x hj ho' hd).1.resolve_left e
            rw [getD_set_ne false e] at hlj
            rw [xuv hne]
            exact h1 x ⟨j,o',hj,hlj,ho',hd⟩
        · have hne:o.dst≠some x:=hx i o hi (by simp [Array.getD,hsz,hil]) ho
          rw [xuv hne]
          refine h2 x fun j o' hj hlj ho'=>hx j o' hj ?_ ho'
          by_cases e:i=j
          · subst e;simp [Array.getD,hsz,hil]
          · rw [getD_set_ne false e];exact hlj
      have ho2:ops.toArray[i]?=some o:=by simpa using ho
      rcases ht.2 with ⟨hmet,hop⟩ | ⟨hmet,hv⟩
      · have hmet':=yqv hag hmet
        have hnd:=ht.1
        refine zdw ho2 (xlj hmet') yix (.inr (by revert hnd;cases o.op <;> simp [noDefer])) fun h hb=>?_
        rw [xpw,zaz (ops:=ops) hlooks.1 hag]
        rcases hop h hb with hx | ⟨g,args,hx,hc⟩ | hx
        · refine xlz hx fun n' h' ⟨v',e',e2,hb'⟩=>?_
          subst e';subst e2
          show Reach P md (G ((F (B f r) tmc.toArray df _).finish v') cs) h' Stop
          rw [xjv ho2,xjk]
          exact next h' hb'
        · refine xlz hx fun n' h' ⟨e',e2⟩=>?_
          subst e';subst e2
          refine hc _ _ _ fun v' h' ⟨e2,hb'⟩=>?_
          subst e2
          rw [xjv ho2,xjk]
          exact next h' hb'
        · refine hx _ _ _ fun v' h' ⟨e2,hb'⟩=>?_
          subst e2
          rw [xjv ho2,xjk]
          exact next h' hb'
      · refine yxk ho2 (xlj (yqv hag hmet)) ?_
        rw [xjk,← hv]
        exact next
  exact main s _ tm hord (by simp) rfl (fun x hx=>by obtain ⟨j,o,hj,hl,_⟩:=hx;simp [Array.getD] at hl) (fun _ _=>rfl)

theorem veq {rest:List Oper} (e:rest=[]) (e2:tm=tmF):SW P md ops Base rest tm tmF:=by subst e;exact e2
theorem vex {tm':List Value} {o:Oper} {rest:List Oper} {v:Value} (hm:Met ops tm o true) (hx: ∀ h,Base h→Exd P tm o h v) (ht:putl tm o.dst v=tm') (n:SW P md ops Base rest tm' tmF) (hd:noDefer o.op=true:=by rfl):
    SW P md ops Base (o::rest) tm tmF:=
  ⟨hd,.inl ⟨hm,v,fun h hb=>.inl (xlz (hx h hb) fun _ _ ⟨v',e1,e2,e3⟩=>⟨v',e1,e2,by rw [e3];exact hb⟩),by rw [ht];exact n⟩⟩
theorem wyx {tm':List Value} {o:Oper} {rest:List Oper} (hm:Met ops tm o false) (ht:putl tm o.dst undef=tm') (n:SW P md ops Base rest tm' tmF) (hd:noDefer o.op=true:=by rfl):
    SW P md ops Base (o::rest) tm tmF:=⟨hd,.inr ⟨hm,by rw [ht];exact n⟩⟩
theorem wyz {tm':List Value} {rest:List Oper} {args:List Operand} {ats:Array TypeId} {d:Option Tmp} {ty:TypeId} {pos:String} {aft:Array Edge} {gd:Option (Nat × Bool)} {x:Operand} {g:FuncId} {first cap vs:List Value} {v:Value}
    (hm:Met ops tm ⟨d,.call ⟨.value x,args.toArray,ats⟩,ty,pos,aft,gd⟩ true) (hx:evl tm x= .func (.func g) first.toArray cap.toArray) (hvs:first++(args.map (evl tm)++cap)=vs) (hg:callable P g=true)
    (hc: ∀ h,Base h→CallsX P md g vs.toArray h fun v' h'=>v'=v∧Base h') (ht:putl tm d v=tm') (n:SW P md ops Base rest tm' tmF):
    SW P md ops Base (⟨d,.call ⟨.value x,args.toArray,ats⟩,ty,pos,aft,gd⟩::rest) tm tmF:=
  ⟨rfl,.inl ⟨hm,v,fun h hb=>.inr (.inl ⟨g,vs.toArray,ymq hx hvs hg,hc h hb⟩),by rw [ht];exact n⟩⟩
end
end

section
variable {P:Program} {md:Md} {Base:Heap→Prop} {ops full rest:List Oper} {f:FuncId} {r:Rd} {df:List Deferred} {k:List Item} {cs:List Frame} {Stop:Goroutine→Heap→Prop} {tm tm':List Value}

def SWR (P:Program) (md:Md) (f:FuncId) (r:Rd) (df:List Deferred) (k:List Item) (cs:List Frame) (Stop:Goroutine→Heap→Prop) (Base:Heap→Prop) (ops full rest:List Oper) (tm:List Value):Prop:=
  ∃ tmF,SW P md ops Base rest tm tmF∧RL P md f r df k cs Stop ops full tmF Base
theorem xgx [Stb Base] {id:Nat} (m:Nat) (cl:List (List Nat)) (hmix:P.follows .mixedOrders=true) (hst:stable ops m cl=true) (hm:m≤ops.length) (sw:SWR P md f r df k cs Stop Base ops (ops.drop m) (ops.take m) tm):
    RS P md (G (FL f r tm df (.code (.region id ops.toArray true)::k)) cs) Base Stop:=by
  obtain ⟨tmF,s,n⟩:=sw
  exact wrj m cl hmix hst hm s n
theorem xiz (e:rest=[]) (n:RL P md f r df k cs Stop ops full tm Base):SWR P md f r df k cs Stop Base ops full rest tm:=⟨tm,veq e rfl,n⟩
theorem xbk {o:Oper} {v:Value} (hm:Met ops tm o true) (hx: ∀ h,Base h→Exd P tm o h v) (ht:putl tm o.dst v=tm') (n:SWR P md f r df k cs Stop Base ops full rest tm') (hd:noDefer o.op=true:=by rfl):SWR P md f r df k cs Stop Base ops full (o::rest) tm:=by
  obtain ⟨tmF,s,n⟩:=n
  exact ⟨tmF,vex hm hx ht s hd,n⟩
theorem xex {o:Oper} (hm:Met ops tm o false) (ht:putl tm o.dst undef=tm') (n:SWR P md f r df k cs Stop Base ops full rest tm') (hd:noDefer o.op=true:=by rfl):SWR P md f r df k cs Stop Base ops full (o::rest) tm:=by
  obtain ⟨tmF,s,n⟩:=n
  exact ⟨tmF,wyx hm ht s hd,n⟩
theorem xiv {args:List Operand} {ats:Array TypeId} {d:Option Tmp} {ty:TypeId} {pos:String} {aft:Array Edge} {gd:Option (Nat × Bool)} {x:Operand} {g:FuncId} {first cap vs:List Value} {v:Value}
    (hm:Met ops tm ⟨d,.call ⟨.value x,args.toArray,ats⟩,ty,pos,aft,gd⟩ true) (hx:evl tm x= .func (.func g) first.toArray cap.toArray) (hvs:first++(args.map (evl tm)++cap)=vs) (hg:callable P g=true)
    (hc: ∀ h,Base h→CallsX P md g vs.toArray h fun v' h'=>v'=v∧Base h') (ht:putl tm d v=tm') (n:SWR P md f r df k cs Stop Base ops full rest tm'):
    SWR P md f r df k cs Stop Base ops full (⟨d,.call ⟨.value x,args.toArray,ats⟩,ty,pos,aft,gd⟩::rest) tm:=by
  obtain ⟨tmF,s,n⟩:=n
  exact ⟨tmF,wyz hm hx hvs hg hc ht s,n⟩
end
end Go.X
namespace Go.X
open Go.Conc

abbrev Pcs:=List (Nat × Obj)

def fills (ops:List Oper) (val:Nat→Value):Nat→List Value→List Value
  | 0,tm=>tm
  | m+1,tm=>putl (fills ops val m tm) ((ops[m]?).bind (·.dst)) (val m)

theorem ylj (ops:List Oper) (val:Nat→Value) (tm:List Value): ∀ m,(fills ops val m tm).length=tm.length
  | 0=>rfl
  | m+1=>by simp only [fills,xqz,ylj ops val tm m]

theorem yrz {ops:List Oper} {val:Nat→Value} {tm:List Value} {x:Nat}: ∀ {m:Nat},(∀ (j:Nat) (o:Oper),j<m→ops[j]?=some o→o.dst≠some x)→(fills ops val m tm)[x]?=tm[x]?
  | 0,_=>rfl
  | m+1,h=>by
    simp only [fills]
    rw [xuv,yrz fun j o hj=>h j o (by omega)]
    intro e
    cases ho:ops[m]? with
    | none=>rw [ho] at e;cases e
    | some o=>rw [ho] at e;exact h m o (by omega) ho e

theorem zaq {ops:List Oper} {val:Nat→Value} {tm:List Value} {x i:Nat} {o:Oper}: ∀ {m:Nat},i<m→ops[i]?=some o→o.dst=some x→(∀ (j:Nat) (o':Oper),j<m→ops[j]?=some o'→o'.dst=some x→j=i)→x<tm.length→
    (fills ops val m tm)[x]?=some (val i)
  | 0,h,_,_,_,_=>by omega
  | m+1,h,ho,hd,hu,hx=>by
    simp only [fills]
    by_cases e:i=m
    · subst e
      rw [ho]
      simp only [Option.bind_some,hd,putl]
      rw [List.getElem?_set_self (by rw [ylj];exact hx)]
    · rw [xuv,zaq (by omega) ho hd (fun j o' hj=>hu j o' (by omega)) hx]
      intro e'
      cases ho':ops[m]? with
      | none=>rw [ho'] at e';cases e'
      | some o'=>rw [ho'] at e';exact e (hu m o' (by omega) ho' e').symm

def mixok (ops:List Oper) (m:Nat) (ini:List Nat) (use:Nat→List Nat) (fin:List Nat):Bool:=
  decide ini.Nodup && ini.all (fun x=>decide (m≤x)) && decide fin.Nodup &&
  (ops.zipIdx.all fun (o,i)=>!decide (i<m) || ((decide (use i).Nodup) && (use i).all fun x=>(ini.contains x || (decide (x<m) && (preds o).contains x)) && (List.range m).all fun k=>decide (k=i) || !(use k).contains x)) &&
  (fin.all fun x=>(ini.contains x || decide (x<m)) && (List.range m).all fun k=>!(use k).contains x) &&
  ((List.range m++ini).all fun x=>fin.contains x || (List.range m).any fun k=>(use k).contains x)

theorem zqk {α:Type} [DecidableEq α]: ∀ {u ls:List α},u.Nodup→(∀ x∈u,x∈ls)→ ∃ r,ls.Perm (u++r)
  | [],ls,_,_=>⟨ls,.refl _⟩
  | x::u,ls,hn,hs=>by
    have h1:=List.perm_cons_erase (hs x (by simp))
    have hn':=List.nodup_cons.1 hn
    obtain ⟨r,hr⟩:=zqk (ls:=ls.erase x) hn'.2 fun y hy=>by
      rw [List.mem_erase_of_ne (fun e=>by subst e;exact hn'.1 hy)];exact hs y (by simp [hy])
    exact ⟨r,h1.trans (hr.cons x)⟩

def Exv (P:Program) (tm:List Value) (o:Oper) (h:Heap) (K:Value→Heap→Prop):Prop:=
  wpS P (execOp (evl tm) o) h fun n h'=>∃ v,(n= .value v∨(n= .skip∧v=undef))∧K v h'
theorem Ex.exv {P:Program} {tm:List Value} {o:Oper} {h:Heap} {K:Value→Heap→Prop} (x:Ex P tm o h K):Exv P tm o h K:=xlz x fun _ _ ⟨v,e,y⟩=>⟨v,.inl e,y⟩

def OpMix (P:Program) (md:Md) (ops:List Oper) (tmF:(Nat→Value)→List Value) (h₀:Heap) (B₀:List Nat) (p:PHeap) (A:Pcs) (ini:List Nat) (X:Nat→Pcs) (use:Nat→List Nat) (Q:Nat→Value→Pcs→Prop) (i:Nat) (o:Oper):Prop:=
  ∀ val piece,(∀ j,(preds o).contains j=true→Q j (val j) (piece j))→(∀ j∈ini,piece j=X j)→
    (Met ops (tmF val) o true∧ ∀ C h,St h₀ B₀ p h ((use i).flatMap piece++(A++C))→
      Exv P (tmF val) o h (fun v h'=>∃ x,Q i v x∧St h₀ B₀ p h' (x++(A++C)))∨
      (∃ g args,(wpS P (execOp (evl (tmF val)) o) h fun n h'=>n= .enter g args∧h'=h)∧CallsX P md g args h (fun v h'=>∃ x,Q i v x∧St h₀ B₀ p h' (x++(A++C)))))∨
    (Met ops (tmF val) o false∧(use i).flatMap piece=[]∧Q i undef [])

def Mixes (F:Nat→Oper→Prop):Nat→List Oper→Prop
  | _,[]=>True
  | i,o::rest=>(noDefer o.op=true∧F i o)∧Mixes F (i+1) rest

theorem Mixes.at {F:Nat→Oper→Prop}: ∀ {l:List Oper} {b i:Nat} {o:Oper},Mixes F b l→l[i]?=some o→noDefer o.op=true∧F (b+i) o
  | [],_,_,_,_,h=>by simp at h
  | o::l,b,0,_,m,h=>by simp at h;subst h;exact m.1
  | o::l,b,i+1,_,m,h=>by
    have:=Mixes.at (i:=i) m.2 (by simpa using h)
    rw [show b+(i+1)=b+1+i from by omega];exact this

section
variable {P:Program} {md:Md} {ops:List Oper} {m:Nat} {f:FuncId} {r:Rd} {df:List Deferred} {k:List Item} {cs:List Frame} {Stop:Goroutine→Heap→Prop} {tm:List Value}
  {h₀:Heap} {B₀:List Nat} {p:PHeap} {A C:Pcs} {ini fin:List Nat} {X:Nat→Pcs} {use:Nat→List Nat} {Q:Nat→Value→Pcs→Prop} {tmF:(Nat→Value)→List Value}

theorem wpv (hk:mixok ops m ini use fin=true):ini.Nodup∧(∀ x∈ini,m≤x)∧fin.Nodup∧
    (∀ (i:Nat) (o:Oper),i<m→ops[i]?=some o→(use i).Nodup∧ ∀ x∈use i,(x∈ini∨(x<m∧x∈preds o))∧ ∀ k<m,k≠i→x ∉ use k)∧
    (∀ x∈fin,(x∈ini∨x<m)∧ ∀ k<m,x ∉ use k)∧(∀ x,(x<m∨x∈ini)→x∈fin∨ ∃ k<m,x∈use k):=by
  unfold mixok at hk
  simp only [Bool.and_eq_true,decide_eq_true_eq,List.all_eq_true] at hk
  obtain ⟨⟨⟨⟨⟨h1,h2⟩,h3⟩,h4⟩,h5⟩,h6⟩:=hk
  refine ⟨h1,h2,h3,fun i o hi ho=>?_,fun x hx=>?_,fun x hx=>?_⟩
  · have hmem:(o,i)∈ops.zipIdx:=by rw [List.mem_zipIdx_iff_getElem?];exact ho
    have h:=h4 (o,i) hmem
    simp only [hi,decide_true,Bool.not_true,Bool.false_or,Bool.and_eq_true,decide_eq_true_eq,List.all_eq_true,Bool.or_eq_true,List.mem_range,Bool.not_eq_true',List.contains_eq_mem,decide_eq_false_iff_not] at h
    exact ⟨h.1,fun x hx=>⟨(h.2 x hx).1,fun k hk hne=>((h.2 x hx).2 k hk).resolve_left hne⟩⟩
  · have h:=h5 x hx
    simp only [Bool.or_eq_true,decide_eq_true_eq,List.mem_range,Bool.not_eq_true',List.contains_eq_mem,decide_eq_false_iff_not] at h
    exact h
  · have h:=h6 x (by rw [List.mem_append,List.mem_range];exact hx)
    simp only [Bool.or_eq_true,List.any_eq_true,List.mem_range,List.contains_eq_mem,decide_eq_true_eq] at h
    exact h

def Emp (Q:Nat→Value→Pcs→Prop):List Nat→Prop
  | []=>True
  | j::l=>(∀ v x,Q j v x→x=[])∧Emp Q l
theorem Emp.flat {Q:Nat→Value→Pcs→Prop} {val:Nat→Value} {piece:Nat→Pcs}: ∀ {l:List Nat},Emp Q l→(∀ j∈l,Q j (val j) (piece j))→l.flatMap piece=[]
  | [],_,_=>rfl
  | j::l,e,h=>by
    rw [List.flatMap_cons,e.1 _ _ (h j (by simp)),Emp.flat e.2 fun i hi=>h i (by simp [hi])];rfl

def Mix (P:Program) (md:Md) (ops:List Oper) (tm:List Value) (h₀:Heap) (B₀:List Nat) (p:PHeap) (A U:Pcs) (Q:Value→Pcs→Prop) (o:Oper):Prop:=
  (Met ops tm o true∧ ∀ C h,St h₀ B₀ p h (U++(A++C))→
      Exv P tm o h (fun v h'=>∃ x,Q v x∧St h₀ B₀ p h' (x++(A++C)))∨
      (∃ g args,(wpS P (execOp (evl tm) o) h fun n h'=>n= .enter g args∧h'=h)∧CallsX P md g args h (fun v h'=>∃ x,Q v x∧St h₀ B₀ p h' (x++(A++C)))))∨
    (Met ops tm o false∧U=[]∧Q undef [])

theorem xlq {F:Nat→Oper→Prop} {b:Nat} {l:List Oper} (e:l=[]):Mixes F b l:=by subst e;trivial
theorem xaw {F:Nat→Oper→Prop} {b:Nat} {o:Oper} {l:List Oper} (hd:noDefer o.op=true) (x:F b o) (n:Mixes F (b+1) l):Mixes F b (o::l):=⟨⟨hd,x⟩,n⟩

section
variable {tm':List Value} {U:Pcs} {q:Value→Pcs→Prop} {o:Oper} {ty:TypeId} {pos:String} {aft:Array Edge} {gd:Option (Nat × Bool)}

theorem xdw {v:Value} (hm:Met ops tm' o true) (hx: ∀ C h,St h₀ B₀ p h (A++C)→Exd P tm' o h v) (hq:q v []):Mix P md ops tm' h₀ B₀ p A [] q o:=
  .inl ⟨hm,fun C h s=>.inl (xlz (hx C h s) fun _ _ ⟨v',e1,e2,e3⟩=>⟨v',.inl e1,[],by rw [e2];exact hq,by rw [e3];exact s⟩)⟩
theorem zfk (hm:Met ops tm' o true) (hx: ∀ C h,St h₀ B₀ p h (U++(A++C))→Ex P tm' o h (fun v h'=>∃ x,q v x∧St h₀ B₀ p h' (x++(A++C)))):Mix P md ops tm' h₀ B₀ p A U q o:=
  .inl ⟨hm,fun C h s=>.inl (hx C h s).exv⟩
theorem xok {args:List Operand} {ats:Array TypeId} {d:Option Tmp} {x:Operand} {g:FuncId} {first cap vs:List Value}
    (hm:Met ops tm' ⟨d,.call ⟨.value x,args.toArray,ats⟩,ty,pos,aft,gd⟩ true) (hx:evl tm' x= .func (.func g) first.toArray cap.toArray) (hvs:first++(args.map (evl tm')++cap)=vs) (hg:callable P g=true)
    (hc: ∀ C h,St h₀ B₀ p h (U++(A++C))→CallsX P md g vs.toArray h fun v h'=>∃ x,q v x∧St h₀ B₀ p h' (x++(A++C))):
    Mix P md ops tm' h₀ B₀ p A U q ⟨d,.call ⟨.value x,args.toArray,ats⟩,ty,pos,aft,gd⟩:=
  .inl ⟨hm,fun C h s=>.inr ⟨g,vs.toArray,ymq hx hvs hg,hc C h s⟩⟩

theorem OwnS.build {T:TypeId} {w b n:Nat} {es:List (List Value)} {cells:Array Value} (hc:cells=es.flatten.toArray) (hw: ∀ e∈es,e.length=w) (hn:es.length=n) (hb:n*w≤2 ^ 24):OwnS T w (.slice (some ⟨b,0,none⟩) n n) es [(b,.cells cells T (0,0))]:=by
  subst hn
  exact ⟨hw,.inr ⟨b,es.flatten,es.length,[],rfl,by rw [hc],by simp,xlw hw,fun e=>by subst e;omega⟩⟩

theorem ywv {h:Heap} {w:Nat} {T:TypeId} {x:Value} {news:List (List Value)} {Y L₁ L₂:Pcs} (o:OwnS T w x news Y) (s:St h₀ B₀ p h (L₁++(Y++L₂))):Src P h w news.length x news:=by
  obtain ⟨hw,⟨rfl,rfl,rfl⟩ | ⟨b,cs,cap,rest,rfl,rfl,hcs,hlen,hcap⟩⟩:=o
  · exact wyj
  · refine ⟨fun K hK=>xbv hK,fun K hK=>?_,rfl,hw⟩
    show wpS P (loadCells ⟨b,0,none⟩ (news.length*w)) h K
    refine xsj (xlw hw) (fun j u hj=>?_) hK
    rw [xnz]
    refine s.ocell (i:=L₁.length) (cs:=cs.toArray) (T:=T) (z:=(0,0)) ?_ ?_
    · rw [List.getElem?_append_right (Nat.le_refl _)];simp
    · rw [List.getElem?_toArray,hcs,Nat.zero_add,List.getElem?_append_left (List.getElem?_eq_some_iff.1 hj).1]
      exact hj

theorem yhj {dd:Nat} {sT xT eT eX:TypeId} {w m' by':Nat} {xo yo:Operand} {v x z:Value} {es news:List (List Value)} {h:Heap} {X' C':Pcs} (A':Pcs)
    (hT:P.underlying sT=some (.slice eT)) (hs:sizeT P eT=some w) (hz:zeroT P eT=some z) (hzs:z.cells.size=w) (hby:bytesT P eT=some by') (hx:P.underlying xT=some (.slice eX))
    (ev1:evl tm' xo=v) (ev2:evl tm' yo=x) (o:OwnS eT w v es X') (s:St h₀ B₀ p h (A'++(X'++C'))) (src:Src P h w m' x news) (h1: ∀ u∈news.flatten,isOne u=true)
    (room:(es.length+m')*by'≤2 ^ 40) (hb2:0<by'∧by'≤2 ^ 20) {K:Value→Heap→Prop}
    (n: ∀ v' X' h',OwnS eT w v' (es++news) X'→St h₀ B₀ p h' (A'++(X'++C'))→K v' h'):
    Ex P tm' ⟨some dd,.call ⟨.builtin .append,#[xo,yo],#[sT,xT]⟩,ty,pos,aft,gd⟩ h K:=by
  unfold Ex
  simp only [execOp,resolve]
  refine xbz (xbv ?_)
  simp only [invoke,builtin]
  refine xbz ?_
  have e:(#[xo,yo]:Array Operand).map (evl tm')=#[v,x]:=by simp [ev1,ev2]
  rw [e]
  refine zuw hT hs hz hzs hby hx o s src.lenOf src.cells src.len src.wid h1 room hb2 fun v' X' h' o' s'=>?_
  exact xbv ⟨v',rfl,n v' X' h' o' s'⟩

theorem yjx {dd:Nat} {sT xT eT eX:TypeId} {w by':Nat} {xo yo:Operand} {v x z:Value} {es news:List (List Value)} {X₁ Y:Pcs} (hm:Met ops tm' ⟨some dd,.call ⟨.builtin .append,#[xo,yo],#[sT,xT]⟩,ty,pos,aft,gd⟩ true)
    (hT:P.underlying sT=some (.slice eT)) (hs:sizeT P eT=some w) (hz:zeroT P eT=some z) (hzs:z.cells.size=w) (hby:bytesT P eT=some by') (hx:P.underlying xT=some (.slice eX))
    (ev1:evl tm' xo=v) (ev2:evl tm' yo=x) (o1:OwnS eT w v es X₁) (o2:OwnS eT w x news Y) (h1: ∀ u∈news.flatten,isOne u=true)
    (room:(es.length+news.length)*by'≤2 ^ 40) (hb2:0<by'∧by'≤2 ^ 20) (hq: ∀ v x,OwnS eT w v (es++news) x→q v x):
    Mix P md ops tm' h₀ B₀ p A (X₁++(Y++[])) q ⟨some dd,.call ⟨.builtin .append,#[xo,yo],#[sT,xT]⟩,ty,pos,aft,gd⟩:=
  zfk hm fun C h s=>by
    rw [List.append_nil,List.append_assoc] at s
    exact yhj [] hT hs hz hzs hby hx ev1 ev2 o1 s (ywv (L₁:=X₁) o2 s) h1 room hb2 fun v' X' h' o' s'=>⟨X',hq _ _ o',s'.sub (by
      simp only [List.nil_append]
      exact (List.Sublist.refl X').append (List.sublist_append_right Y (A++C)))⟩
theorem xvw {dd:Nat} {sT xT eT eX:TypeId} {w by' n cap:Nat} {a:Option Addr} {xo yo:Operand} {v z:Value} {es news:List (List Value)} {X₁:Pcs} (hm:Met ops tm' ⟨some dd,.call ⟨.builtin .append,#[xo,yo],#[sT,xT]⟩,ty,pos,aft,gd⟩ true)
    (hT:P.underlying sT=some (.slice eT)) (hs:sizeT P eT=some w) (hz:zeroT P eT=some z) (hzs:z.cells.size=w) (hby:bytesT P eT=some by') (hx:P.underlying xT=some (.slice eX))
    (ev1:evl tm' xo=v) (ev2:evl tm' yo= .slice a n cap) (o1:OwnS eT w v es X₁) (o2:Sl p a n w news) (h1: ∀ u∈news.flatten,isOne u=true)
    (room:(es.length+n)*by'≤2 ^ 40) (hb2:0<by'∧by'≤2 ^ 20) (hw0:0<w) (hq: ∀ v x,OwnS eT w v (es++news) x→q v x):
    Mix P md ops tm' h₀ B₀ p A (X₁++[]) q ⟨some dd,.call ⟨.builtin .append,#[xo,yo],#[sT,xT]⟩,ty,pos,aft,gd⟩:=
  zfk hm fun C h s=>by
    rw [List.append_nil] at s
    exact yhj [] hT hs hz hzs hby hx ev1 ev2 o1 s (zjz s hw0 o2) h1 room hb2 fun v' X' h' o' s'=>⟨X',hq _ _ o',s'⟩

theorem St.swap {h:Heap} {A U:Pcs} (s:St h₀ B₀ p h (A++U)):St h₀ B₀ p h (U++(A++[])):=s.perm (by rw [List.append_nil];exact List.perm_append_comm)
theorem St.swap' {h:Heap} {A U:Pcs} (s:St h₀ B₀ p h (U++(A++[]))):St h₀ B₀ p h (A++U):=s.perm (by rw [List.append_nil];exact List.perm_append_comm)
end
end
end Go.X
namespace Go.X
open Go.Conc

theorem xtx {l:List Value} (h:l.all isOne=true): ∀ u∈l,isOne u=true:=fun u hu=>List.all_eq_true.1 h u hu

theorem xfk {v:Value} {l:List Value} (h:isOne v=true) (h2:l.all isOne=true):(v::l).all isOne=true:=by simp [h,h2]

def nums (f:Nat→Int) (k:Nat):List Int:=(List.range k).map f
def ns (f:Nat→Int) (k:Nat):List (List Value):=(nums f k).map fun x=>[.int .i64 x]
theorem xrv (xs:List Int): ∀ u∈(xs.map fun x=>[Value.int .i64 x]).flatten,isOne u=true:=by
  intro u hu
  rw [List.mem_flatten] at hu
  obtain ⟨l,hl,hu⟩:=hu
  obtain ⟨x,_,rfl⟩:=List.mem_map.1 hl
  rw [List.mem_singleton.1 hu];rfl
theorem OwnS.as {T:TypeId} {w:Nat} {v:Value} {es es':List (List Value)} {X:List (Nat × Obj)} (o:OwnS T w v es X) (e:es=es'):OwnS T w v es' X:=by subst e;exact o
theorem OwnS.val {T:TypeId} {w:Nat} {v:Value} {es:List (List Value)} {X:List (Nat × Obj)} (o:OwnS T w v es X): ∃ a cap,v= .slice a es.length cap∧(0<es.length→a=some (adr a)):=by
  obtain ⟨_,⟨rfl,rfl,rfl⟩ | ⟨b,cs,cap,rest,rfl,rfl,hcs,hlen,hcap⟩⟩:=o
  · exact ⟨_,_,rfl,fun h=>absurd h (by simp)⟩
  · exact ⟨_,_,rfl,fun _=>rfl⟩
theorem OwnS.one {T:TypeId} {w:Nat} {v:Value} {es:List (List Value)} {X:List (Nat × Obj)} (o:OwnS T w v es X):v.cells=#[v]∧isOne v=true:=by
  obtain ⟨a,cap,rfl,_⟩:=o.val
  exact ⟨rfl,rfl⟩

structure New (h h':Heap) (X:Pcs):Prop where
  keep:Keep h h'
  own: ∀ x∈X,h'[x.1]?=some x.2∧h.size≤x.1
  nod:(X.map (·.1)).Nodup

section
variable {h₀ h h':Heap} {B₀:List Nat} {p:PHeap} {A X C L:Pcs}
theorem St.new (s:St h₀ [] p h X):New h₀ h X:=⟨s.kept,fun x hx=>⟨(s.own x hx).1,(s.own x hx).2.2.resolve_right (by simp)⟩,s.nod⟩
theorem St.callN (s:St h₀ B₀ p h L) (n:New h h' X):St h₀ B₀ p h' (X++L):=by
  have s':=s.call n.keep
  refine ⟨s'.keep,s'.size,s'.per,fun x hx=>?_,?_⟩
  · rcases List.mem_append.1 hx with hx | hx
    · obtain ⟨h1,h2⟩:=n.own x hx
      refine ⟨h1,?_,.inl (Nat.le_trans s.size h2)⟩
      cases hp:p x.1 with
      | none=>rfl
      | some o=>exact absurd (xwq (s.per _ _ hp)) (Nat.not_lt.2 h2)
    · exact s'.own x hx
  · rw [List.map_append,List.nodup_append]
    refine ⟨n.nod,s.nod,fun a ha b hb e=>?_⟩
    subst e
    obtain ⟨x,hx,rfl⟩:=List.mem_map.1 ha
    obtain ⟨y,hy,e⟩:=List.mem_map.1 hb
    have h1:=(n.own x hx).2
    have h2:=xwq (s.own y hy).1
    omega
theorem St.callNA (s:St h₀ B₀ p h (A++C)) (n:New h h' X):St h₀ B₀ p h' (A++(X++C)):=(s.callN n).perm (by
  rw [← List.append_assoc,← List.append_assoc];exact List.Perm.append_right C List.perm_append_comm)
theorem St.dropA (s:St h₀ B₀ p h (A++C)):St h₀ B₀ p h C:=s.sub (List.sublist_append_right A C)
end

section
variable {P:Program} {md:Md} {ops rest:List Oper} {f:FuncId} {r:Rd} {df:List Deferred} {k:List Item} {cs:List Frame} {Stop:Goroutine→Heap→Prop} {tm:List Value}
  {h₀:Heap} {B₀:List Nat} {p:PHeap} {A C X Y:Pcs} {ty:TypeId} {pos:String} {aft:Array Edge} {gd:Option (Nat × Bool)}

theorem xjj {L L':Pcs} (e:L.Perm L') (n:RL P md f r df k cs Stop ops rest tm (fun h=>St h₀ B₀ p h L')):RL P md f r df k cs Stop ops rest tm (fun h=>St h₀ B₀ p h L):=xww n fun _ s=>s.perm e

theorem vck (n:Nat) (g:Nat→Value):(Array.range n).map g=((List.range n).map g).toArray:=by apply Array.ext';simp

theorem xrj {T T':TypeId} {x y:Operand} {i b off:Nat} {cs' cs2:List Value} {v:Value} {L:Pcs} (hm:Met ops tm ⟨none,.store T x y,ty,pos,aft,gd⟩ true) (hs:sizeT P T=some 1)
    (hx:evl tm x= .pointer (some ⟨b,off,none⟩)) (hy:evl tm y=v) (hv:v.cells=#[v]∧isOne v=true) (hL:L[i]?=some (b,.cells cs'.toArray T' (0,0))) (hlen:off<cs'.length) (h2:cs'.set off v=cs2)
    (n:RL P md f r df k cs Stop ops rest tm (fun h=>St h₀ B₀ p h (L.set i (b,.cells cs2.toArray T' (0,0))))):
    RL P md f r df k cs Stop ops (⟨none,.store T x y,ty,pos,aft,gd⟩::rest) tm (fun h=>St h₀ B₀ p h L):=
  xik hm hs hx hy hL (by rw [hv.1];rfl) (by rw [hv.1];simp [hv.2]) (by rw [hv.1];exact hlen) (by rw [hv.1];simpa [setl] using h2) n

theorem zrv {T T':TypeId} {x y:Operand} {i b off nsz:Nat} {cs':List Value} {v:Value} {q:Value→Pcs→Prop} (hm:Met ops tm ⟨none,.store T x y,ty,pos,aft,gd⟩ true) (hs:sizeT P T=some nsz)
    (hx:evl tm x= .pointer (some ⟨b,off,none⟩)) (hy:evl tm y=v) (hL: ∀ C:Pcs,(A++C)[i]?=some (b,.cells cs'.toArray T' (0,0))) (hv:v.cells.size=nsz) (h1:v.cells.toList.all isOne=true) (hlen:off+v.cells.size≤cs'.length) (h2:setl cs' off v.cells.toList=cs')
    (hq:q undef []):Mix P md ops tm h₀ B₀ p A [] q ⟨none,.store T x y,ty,pos,aft,gd⟩:=
  .inl ⟨hm,fun C h s=>.inl (by
    unfold Exv
    rw [List.nil_append] at s
    simp only [execOp,hx,hy]
    refine xbz ?_
    unfold Instr.storeAt
    refine xbz (xbv ?_)
    unfold storeVar
    refine xbz (xmx hs ?_)
    rw [if_neg (by simpa using hv)]
    refine xpk s (hL C) (by simpa using hlen) (fun u hu=>List.all_eq_true.1 h1 u hu) fun h' s'=>?_
    refine xbv ⟨undef,.inr ⟨rfl,rfl⟩,[],hq,?_⟩
    rw [Nat.add_zero,h2] at s'
    have e:(A++C).set i (b,.cells cs'.toArray T' (0,0))=A++C:=by
      refine List.ext_getElem? fun m=>?_
      rw [List.getElem?_set]
      split
      · rename_i e;subst e;rw [if_pos (List.getElem?_eq_some_iff.1 (hL C)).1,hL C]
      · rfl
    rw [e] at s'
    exact s')⟩
theorem ztv {dd:Nat} {sT eT:TypeId} {w n:Nat} {parts:List (Nat × Operand)} {vs:List (Nat × Value)} {z:Value} {cells:Array Value} {es:List (List Value)} {h:Heap}
    (hT:P.underlying sT=some (.slice eT)) (hs:sizeT P eT=some w) (hz:zeroT P eT=some z) (hsm:n*w≤2 ^ 24) (hvs:(parts.map fun (i,x)=>(i,evl tm x))=vs)
    (hf:Instr.fill (fun i=>some (i*w,w)) ((List.range (n*w)).map (z.cells[· % z.cells.size]!)).toArray vs=some cells) (hc:cells=es.flatten.toArray) (hw:(es.all fun e=>e.length == w)=true) (hn:es.length=n)
    (s:St h₀ B₀ p h C) {K:Value→Heap→Prop} (nx: ∀ v X h',OwnS eT w v es X→St h₀ B₀ p h' (X++C)→K v h'):Ex P tm ⟨some dd,.buildSlice sT n parts.toArray,ty,pos,aft,gd⟩ h K:=by
  have hw': ∀ e∈es,e.length=w:=fun e he=>by simpa using List.all_eq_true.1 hw e he
  have fin: ∀ b,OwnS eT w (.slice (some ⟨b,0,none⟩) n n) es [(b,.cells cells eT (0,0))]:=fun b=>OwnS.build hc hw' hn (by simpa using hsm)
  rw [← vck] at hf
  unfold Ex
  simp only [execOp]
  refine xbz ?_
  unfold Instr.buildSlice
  refine xbz (xgq hT ?_)
  simp only
  refine xbz (xmx hs ?_)
  rw [if_neg (by omega)]
  by_cases h0:n*w=0
  · rw [if_pos h0]
    refine xbz (xbv ?_)
    have hcell:Instr.fill (fun i=>some (i*w,w)) ((Array.range (n*w)).map ((#[]:Array Value)[· % (#[]:Array Value).size]!)) vs=some cells:=by
      rw [← hf,h0,show Array.range 0=(#[]:Array Nat) from by simp,Array.map_empty,Array.map_empty]
    simp only [List.map_toArray,hvs,hcell]
    refine xbz (xqk ?_)
    refine xbv ?_
    exact xbv ⟨_,rfl,nx _ _ _ (fin _) (s.push _)⟩
  · rw [if_neg h0]
    refine xbz (xpz hz ?_)
    refine xbz (xbv ?_)
    simp only [List.map_toArray,hvs,hf]
    refine xbz (xqk ?_)
    refine xbv ?_
    exact xbv ⟨_,rfl,nx _ _ _ (fin _) (s.push _)⟩

theorem xjz {dd:Nat} {sT eT:TypeId} {w n:Nat} {parts:List (Nat × Operand)} {vs:List (Nat × Value)} {z:Value} {cells:Array Value} {es:List (List Value)} (A:Pcs)
    (hm:Met ops tm ⟨some dd,.buildSlice sT n parts.toArray,ty,pos,aft,gd⟩ true)
    (hT:P.underlying sT=some (.slice eT)) (hs:sizeT P eT=some w) (hz:zeroT P eT=some z) (hsm:n*w≤2 ^ 24) (hvs:(parts.map fun (i,x)=>(i,evl tm x))=vs)
    (hf:Instr.fill (fun i=>some (i*w,w)) ((List.range (n*w)).map (z.cells[· % z.cells.size]!)).toArray vs=some cells) (hc:cells=es.flatten.toArray) (hw:(es.all fun e=>e.length == w)=true) (hn:es.length=n)
    (nx: ∀ v X,OwnS eT w v es X→RL P md f r df k cs Stop ops rest (tm.set dd v) (fun h=>St h₀ B₀ p h (A++(X++C)))):
    RL P md f r df k cs Stop ops (⟨some dd,.buildSlice sT n parts.toArray,ty,pos,aft,gd⟩::rest) tm (fun h=>St h₀ B₀ p h (A++C)):=
  ydw (K:=fun v h'=>∃ X,OwnS eT w v es X∧St h₀ B₀ p h' (A++(X++C))) hm rfl (fun h s=>ztv hT hs hz hsm hvs hf hc hw hn s fun v X h' o s'=>⟨X,o,s'.perm (by
    rw [← List.append_assoc,← List.append_assoc];exact List.Perm.append_right C List.perm_append_comm)⟩) fun v=>xgz fun X=>xfq fun o=>nx v X o

theorem xmw {dd:Nat} {sT eT:TypeId} {w n:Nat} {parts:List (Nat × Operand)} {vs:List (Nat × Value)} {z:Value} {cells:Array Value} {es:List (List Value)} {q:Value→Pcs→Prop} (hm:Met ops tm ⟨some dd,.buildSlice sT n parts.toArray,ty,pos,aft,gd⟩ true)
    (hT:P.underlying sT=some (.slice eT)) (hs:sizeT P eT=some w) (hz:zeroT P eT=some z) (hsm:n*w≤2 ^ 24) (hvs:(parts.map fun (i,x)=>(i,evl tm x))=vs)
    (hf:Instr.fill (fun i=>some (i*w,w)) ((List.range (n*w)).map (z.cells[· % z.cells.size]!)).toArray vs=some cells) (hc:cells=es.flatten.toArray) (hw:(es.all fun e=>e.length == w)=true) (hn:es.length=n)
    (hq: ∀ v x,OwnS eT w v es x→q v x):Mix P md ops tm h₀ B₀ p A [] q ⟨some dd,.buildSlice sT n parts.toArray,ty,pos,aft,gd⟩:=
  zfk hm fun _ _ s=>ztv hT hs hz hsm hvs hf hc hw hn s fun _ X _ o s'=>⟨X,hq _ _ o,s'⟩

theorem xmv {dd:Nat} {sT xT eT eX:TypeId} {w by':Nat} {xo yo:Operand} {v x z:Value} {es news:List (List Value)} (A X Y:Pcs) (hm:Met ops tm ⟨some dd,.call ⟨.builtin .append,#[xo,yo],#[sT,xT]⟩,ty,pos,aft,gd⟩ true)
    (hT:P.underlying sT=some (.slice eT)) (hs:sizeT P eT=some w) (hz:zeroT P eT=some z) (hzs:z.cells.size=w) (hby:bytesT P eT=some by') (hx:P.underlying xT=some (.slice eX))
    (ev1:evl tm xo=v) (ev2:evl tm yo=x) (o1:OwnS eT w v es X) (o2:OwnS eT w x news Y) (h1: ∀ u∈news.flatten,isOne u=true)
    (room:(es.length+news.length)*by'≤2 ^ 40) (hb2:0<by'∧by'≤2 ^ 20)
    (nx: ∀ v' X',OwnS eT w v' (es++news) X'→RL P md f r df k cs Stop ops rest (tm.set dd v') (fun h=>St h₀ B₀ p h (A++(X'++C)))):
    RL P md f r df k cs Stop ops (⟨some dd,.call ⟨.builtin .append,#[xo,yo],#[sT,xT]⟩,ty,pos,aft,gd⟩::rest) tm (fun h=>St h₀ B₀ p h (A++(X++(Y++C)))):=
  ydw (K := fun v' h' => ∃ X', OwnS eT w v' (es ++ news) X' ∧ St h₀ B₀ p h' (A ++ (X' ++ C))) hm rfl (fun h s => yhj A hT hs hz hzs hby hx ev1 ev2 o1 s (ywv (L₁ := A ++ X) o2 (by rw [List.append_assoc]; exact s)) h1 room hb2 fun v' X' h' o' s' => ⟨X', o', s'.sub
      ((List.Sublist.refl A).append ((List.Sublist.refl X').append (List.sublist_append_right Y C)))⟩) fun v'=>xgz fun X'=>xfq fun o'=>nx v' X' o'

theorem xvq {dd:Nat} {sT xT eT eX:TypeId} {w by' n cap:Nat} {a:Option Addr} {xo yo:Operand} {v z:Value} {es news:List (List Value)} (A X:Pcs) (hm:Met ops tm ⟨some dd,.call ⟨.builtin .append,#[xo,yo],#[sT,xT]⟩,ty,pos,aft,gd⟩ true)
    (hT:P.underlying sT=some (.slice eT)) (hs:sizeT P eT=some w) (hz:zeroT P eT=some z) (hzs:z.cells.size=w) (hby:bytesT P eT=some by') (hx:P.underlying xT=some (.slice eX))
    (ev1:evl tm xo=v) (ev2:evl tm yo= .slice a n cap) (o1:OwnS eT w v es X) (o2:Sl p a n w news) (h1: ∀ u∈news.flatten,isOne u=true)
    (room:(es.length+n)*by'≤2 ^ 40) (hb2:0<by'∧by'≤2 ^ 20) (hw0:0<w)
    (nx: ∀ v' X',OwnS eT w v' (es++news) X'→RL P md f r df k cs Stop ops rest (tm.set dd v') (fun h=>St h₀ B₀ p h (A++(X'++C)))):
    RL P md f r df k cs Stop ops (⟨some dd,.call ⟨.builtin .append,#[xo,yo],#[sT,xT]⟩,ty,pos,aft,gd⟩::rest) tm (fun h=>St h₀ B₀ p h (A++(X++C))):=
  ydw (K:=fun v' h'=>∃ X',OwnS eT w v' (es++news) X'∧St h₀ B₀ p h' (A++(X'++C))) hm rfl (fun _ s=>yhj A hT hs hz hzs hby hx ev1 ev2 o1 s (zjz s hw0 o2) h1 room hb2 fun _ X' _ o' s'=>⟨X',o',s'⟩) fun v'=>xgz fun X'=>xfq fun o'=>nx v' X' o'
end
end Go.X
namespace Go.X
open Go.Conc

def CallV (P:Program) (md:Md) (fv:Value) (args:List Value) (h:Heap) (R:Value→Heap→Prop):Prop:=
  ∀ (c:Frame) (cs:List Frame) (Stop:Goroutine→Heap→Prop),(∀ v h',R v h'→Reach P md (G (c.finish v) cs) h' Stop)→
    wpS P (do let d ← Deferred.ofValue fv args.toArray;invoke d.target d.args) h (Upon P md c cs Stop)

section
variable {P:Program} {md:Md} {h:Heap} {R R':Value→Heap→Prop}
theorem CallV.mono {fv:Value} {args:List Value} (x:CallV P md fv args h R) (y: ∀ v h',R v h'→R' v h'):CallV P md fv args h R':=
  fun c cs Stop z=>x c cs Stop fun v h' r=>z v h' (y v h' r)

theorem yiq {g:FuncId} {first cap args:List Value} (hg:callable P g=true) (x:CallsX P md g (first++(args++cap)).toArray h R):CallV P md (.func (.func g) first.toArray cap.toArray) args h R:=by
  intro c cs Stop z
  refine xbz ?_
  unfold Deferred.ofValue
  refine xbv ?_
  simp only [invoke]
  refine ykv hg ?_
  show Reach P md (G (Frame.enter P g _ .normal) (c::cs)) h Stop
  have e:(first.toArray++args.toArray++cap.toArray)=(first++(args++cap)).toArray:=by simp
  rw [e]
  exact x c cs Stop z
end

section
variable {P:Program} {md:Md} {f:FuncId} {r:Rd} {df:List Deferred} {k:List Item} {cs:List Frame} {Stop:Goroutine→Heap→Prop}
  {ops rest:List Oper} {tm tm':List Value} {h:Heap} {Φ:Heap→Prop} {h₀:Heap} {B₀:List Nat} {p:PHeap} {L:Pcs}

theorem xxx [Stb Φ] {args:List Operand} {ats:Array TypeId} {d:Option Tmp} {ty:TypeId} {pos:String} {aft:Array Edge} {gd:Option (Nat × Bool)} {x:Operand} {fv:Value} {vs:List Value} {R:Value→Heap→Prop}
    (hm:Met ops tm ⟨d,.call ⟨.value x,args.toArray,ats⟩,ty,pos,aft,gd⟩ true) (hx:evl tm x=fv) (hvs:args.map (evl tm)=vs)
    (hc: ∀ h,Φ h→CallV P md fv vs h R) (n: ∀ v,RL P md f r df k cs Stop ops rest (putl tm d v) (R v)):
    RL P md f r df k cs Stop ops (⟨d,.call ⟨.value x,args.toArray,ats⟩,ty,pos,aft,gd⟩::rest) tm Φ:=by
  intro pre e
  rw [ypj]
  refine zdw (zwv e) (xlj hm) yix (.inr rfl) fun h y=>?_
  rw [xpw]
  have:=hc h y (F (B f r) tm.toArray df (.inRegion ops.toArray (pre.length::List.range' (pre.length+1) rest.length)::k)) cs Stop fun v h' hR=>by
    rw [xjv (zwv e),xjk]
    have:=n v (pre++[⟨d,.call ⟨.value x,args.toArray,ats⟩,ty,pos,aft,gd⟩]) (by simp [e]) h' hR
    simpa [FL] using this
  simp only [execOp,resolve,hx,List.map_toArray,hvs]
  exact this

theorem zmk {l:Nat} {lp:Loop} {vs:List Value} {R:Value→Heap→Prop} (hl:h[l]?=some (.loop lp)) (hp:vs.length=lp.params.size)
    (ht:((lp.params.zip vs.toArray).foldl (fun tmps (t,a)=>tmps.setIfInBounds t a) lp.tmps)=tm'.toArray)
    (x: ∀ (c:Frame) (cs:List Frame) (Stop:Goroutine→Heap→Prop),(∀ v h',R v h'→Reach P md (G (c.finish v) cs) h' Stop)→
      RS P md (G (FL lp.fn (.some l) tm' [] [.code lp.assign,.beginRound,.code lp.body]) (c::cs)) Φ Stop) (h0:Φ h):CallV P md (.func (.yield l) #[] #[]) vs h R:=by
  intro c cs Stop z
  refine xbz ?_
  unfold Deferred.ofValue
  refine xbv ?_
  simp only [invoke]
  unfold Instr.yield Instr.getLoop
  refine xbz ?_
  refine xbz ?_
  simp only [getObj,wpS,hl]
  refine ⟨rfl,?_⟩
  refine xbv ?_
  rw [if_neg (by simpa using hp)]
  refine xbv ?_
  show Reach P md (G (Frame.round l lp.fn _ lp.assign lp.body .normal) (c::cs)) h Stop
  have e:(#[]:Array Value)++vs.toArray=vs.toArray:=by simp
  rw [e,ht]
  exact x c cs Stop z h h0

theorem ydz {l:Nat} {lp:Loop} {K:Loop→Heap→Prop} (hl:h[l]?=some (.loop lp)) (x:K lp h):wpS P (Instr.getLoop l) h K:=by
  unfold Instr.getLoop
  refine xbz ?_
  simp only [getObj,wpS,hl]
  exact ⟨rfl,xbv x⟩
theorem ycv {l:Nat} {lp lp':Loop} {K:Unit→Heap→Prop} (hl:h[l]?=some (.loop lp)) (x:K () (h.setIfInBounds l (.loop lp'))):wpS P (setObj l (.loop lp')) h K:=by
  simp only [setObj,wpS,hl]
  exact ⟨rfl,rfl,x⟩

theorem St.setObj (s:St h₀ B₀ p h L) {i b:Nat} {o o':Obj} (hL:L[i]?=some (b,o)):St h₀ B₀ p (h.setIfInBounds b o') (L.set i (b,o')):=
  s.turn hL (by rw [Array.getElem?_setIfInBounds_self_of_lt (xwq (s.at hL))]) (by simp) fun c hc=>by rw [Array.getElem?_setIfInBounds_ne (Ne.symm hc)]

theorem wrk {l i:Nat} {lp:Loop} (hL:L[i]?=some (l,.loop lp)) (hr:lp.state= .ready)
    (x:RS P md (G (FL f (.some l) tm df k) cs) (fun h=>St h₀ B₀ p h (L.set i (l,.loop { lp with state:=.busy }))) Stop):
    RS P md (G (FL f (.some l) tm df (.beginRound::k)) cs) (fun h=>St h₀ B₀ p h L) Stop:=by
  refine zpw (show (B f (.some l)).kind≠ .early from yix) rfl (fun w=>rfl) fun h s=>?_
  show wpS P (do Instr.beginRound l;pure Next.skip) h _
  refine xbz ?_
  unfold Instr.beginRound
  refine xbz (ydz (s.at hL) ?_)
  refine xbz (ycv (s.at hL) ?_)
  rw [hr]
  refine xbv ?_
  refine xbv ?_
  exact x _ (s.setObj hL)

theorem woq {l i:Nat} {lp lp':Loop} {c:Frame} {jump:Option Code} {v:Value} (hL:L[i]?=some (l,.loop lp)) (hv:v= .bool jump.isNone) (hl:{ lp with state:=if jump.isNone then .ready else .done,pending:=jump }=lp')
    (hstep: ∀ w,stepG P md.isMain (G (FL f (.some l) tm df k) (c::cs)) w=(let (r,es):=(Instr.endRound l jump).runT P w #[]
        GStep.after (seen P f es) <| match r with
        | .ok v w=>doReturn P md.isMain (FL f (.some l) tm df k) (c::cs) none v w
        | .halt _ w => .ended (.stuck "range over a function: no such loop" ((FL f (.some l) tm df k).pos P)) w))
    (x:RS P md (G (c.finish v) cs) (fun h=>St h₀ B₀ p h (L.set i (l,.loop lp'))) Stop):
    RS P md (G (FL f (.some l) tm df k) (c::cs)) (fun h=>St h₀ B₀ p h L) Stop:=by
  intro h s
  refine xsx ⟨rfl,fun h₁ k₁ S w V=>?_⟩
  have s₁:=s.call k₁
  have hx:wpS P (Instr.endRound l jump) h₁ fun v' h'=>v'=v∧St h₀ B₀ p h' (L.set i (l,.loop lp')):=by
    unfold Instr.endRound
    refine xbz (ydz (s₁.at hL) ?_)
    refine xbz (ycv (s₁.at hL) ?_)
    refine xbv ⟨hv.symm,?_⟩
    rw [← hl]
    exact s₁.setObj hL
  obtain ⟨v',h',w',es,e1,e2,⟨e3,e4⟩,e5,e6,e7⟩:=ycw _ #[] hx V
  subst e3
  refine ⟨_,h',w',seen P f es,?_,x h' e4,e5,e6,xzw e7⟩
  rw [hstep w]
  simp only [Array.empty_append] at e1
  simp only [e1,GStep.after,doReturn,FL,F,B,Rd.kind,Rd.round,G,Array.append_empty]

theorem zlv {l i:Nat} {lp lp':Loop} {c:Frame} (hL:L[i]?=some (l,.loop lp)) (hl:{ lp with state:=.ready,pending:=none }=lp')
    (x:RS P md (G (c.finish (.bool true)) cs) (fun h=>St h₀ B₀ p h (L.set i (l,.loop lp'))) Stop):
    RS P md (G (FL f (.some l) tm df []) (c::cs)) (fun h=>St h₀ B₀ p h L) Stop:=
  woq hL rfl (jump:=none) (by simpa using hl) (fun _=>rfl) x
theorem zmq {l i:Nat} {lp:Loop} (hL:L[i]?=some (l,.loop lp)) (hb:lp.state≠ .busy)
    (x:RS P md (G (FL f r tm df ((lp.pending.map Item.code).toList++k)) cs) (fun h=>St h₀ B₀ p h (L.set i (l,.loop { lp with state:=.exhausted }))) Stop):
    RS P md (G (FL f r tm df (.endRangeFunc l::k)) cs) (fun h=>St h₀ B₀ p h L) Stop:=by
  intro h s
  refine xsx ⟨rfl,fun h₁ k₁ S w V=>?_⟩
  have s₁:=s.call k₁
  have hx:wpS P (Instr.endLoop l) h₁ fun v' h'=>v'=lp.pending∧St h₀ B₀ p h' (L.set i (l,.loop { lp with state:=.exhausted })):=by
    unfold Instr.endLoop
    refine xbz (ydz (s₁.at hL) ?_)
    rw [if_neg (by cases h:lp.state <;> simp_all)]
    refine xbz (ycv (s₁.at hL) ?_)
    exact xbv ⟨rfl,s₁.setObj hL⟩
  obtain ⟨v',h',w',es,e1,e2,⟨e3,e4⟩,e5,e6,e7⟩:=ycw _ #[] hx V
  subst e3
  refine ⟨_,h',w',seen P f es,?_,x h' e4,e5,e6,xzw e7⟩
  simp only [Array.empty_append] at e1
  simp only [G,stepG,stepG.exec,FL,F,B,e1,GStep.after,Array.append_empty]

def loopOf (f:FuncId) (tm:List Value) (params:Array Tmp) (assign body:Code) (r:Nat):Loop:={ state:=.ready,pending:=none,fn:=f,tmps:=tm.toArray,params,assign,body,defers:=r }

theorem zzv: ∀ (l:List (Nat × Value)) (tm:List Value),l.foldl (fun (tmps:Array Value) (q:Nat × Value)=>tmps.setIfInBounds q.1 q.2) tm.toArray=(l.foldl (fun tm q=>tm.set q.1 q.2) tm).toArray
  | [],_=>rfl
  | q::l,tm=>by
    simp only [List.foldl_cons]
    rw [← zzv l];simp

theorem zmv {l d:Nat} {lp:Loop} {vs:List Value} {R:Value→Heap→Prop} {params:List Tmp} {assign body:Code} (hl:h[l]?=some (.loop lp)) (e:lp=loopOf f tm params.toArray assign body d) (hp:vs.length=params.length)
    (ht:(params.zip vs).foldl (fun tm q=>tm.set q.1 q.2) tm=tm')
    (x: ∀ (c:Frame) (cs:List Frame) (Stop:Goroutine→Heap→Prop),(∀ v h',R v h'→Reach P md (G (c.finish v) cs) h' Stop)→
      RS P md (G (FL f (.some l) tm' [] [.code assign,.beginRound,.code body]) (c::cs)) Φ Stop) (h0:Φ h):CallV P md (.func (.yield l) #[] #[]) vs h R:=by
  subst e;exact zmk hl (by simpa [loopOf] using hp) (by
    show ((params.toArray.zip vs.toArray).foldl (fun (tmps:Array Value) (q:Nat × Value)=>tmps.setIfInBounds q.1 q.2) tm.toArray)=_
    rw [List.zip_toArray,List.foldl_toArray,zzv,ht]) x h0

theorem zyk {l i:Nat} {lp:Loop} (hL:L[i]?=some (l,.loop lp)) (hb:lp.state≠ .busy) (hp:lp.pending=none)
    (x:RS P md (G (FL f r tm df k) cs) (fun h=>St h₀ B₀ p h (L.set i (l,.loop { lp with state:=.exhausted }))) Stop):
    RS P md (G (FL f r tm df (.endRangeFunc l::k)) cs) (fun h=>St h₀ B₀ p h L) Stop:=zmq hL hb (by
  have e:(lp.pending.map Item.code).toList++k=k:=by rw [hp];rfl
  rw [e];exact x)
theorem yfv {α:Type}: ∀ {l:List α} {i:Nat} {x:α},l[i]?=some x→l.Perm (x::l.eraseIdx i)
  | [],_,_,h=>by simp at h
  | a::l,0,x,h=>by simp at h;subst h;exact .refl _
  | a::l,i+1,x,h=>((yfv (l:=l) (i:=i) (by simpa using h)).cons a).trans (.swap _ _ _)

theorem yiw {g:Goroutine} {b:Nat} {o:Obj} (i:Nat) (hL:L[i]?=some (b,o)) {L':Pcs} (he:L.eraseIdx i=L')
    (n: ∀ p',PLe p p'→p' b=some o→RS P md g (fun h=>St h₀ B₀ p' h L') Stop):RS P md g (fun h=>St h₀ B₀ p h L) Stop:=fun h s=>by
  subst he
  have s':St h₀ B₀ p h ((b,o)::L.eraseIdx i):=s.perm (yfv hL)
  exact n _ s'.last.1 xpj h s'.last.2

theorem xlk {g:Goroutine} {L':Pcs} (e:L=L') (n:RS P md g (fun h=>St h₀ B₀ p h L') Stop):RS P md g (fun h=>St h₀ B₀ p h L) Stop:=by subst e;exact n

theorem xgv {g:Goroutine} {L':Pcs} (e:L.Perm L') (n:RS P md g (fun h=>St h₀ B₀ p h L') Stop):RS P md g (fun h=>St h₀ B₀ p h L) Stop:=fun h s=>n h (s.perm e)

theorem St.rot {Z A U:Pcs} (s:St h₀ B₀ p h (Z++((A++U)++[]))):St h₀ B₀ p h (A++(U++(Z++[]))):=s.perm (by
  rw [List.append_nil,List.append_nil,← List.append_assoc A U Z];exact List.perm_append_comm)
theorem St.rot' {Z A U:Pcs} (s:St h₀ B₀ p h (A++(U++(Z++[])))):St h₀ B₀ p h (Z++((A++U)++[])):=s.perm (by
  rw [List.append_nil,List.append_nil,← List.append_assoc A U Z];exact List.perm_append_comm)

def mark (r:Nat):Deferred:={ target:=.collected r,args:=#[] }

theorem wrq {rr:Rd} {fop:Operand} {params:Array Tmp} {assign body:Code} {R:Nat→Nat→Loop→Value→Heap→Prop}
    (hc: ∀ r l lp h,lp=loopOf f tm params assign body r→St h₀ B₀ p h ((l,.loop lp)::(r,.deferred (some []))::L)→CallV P md (evl tm fop) [.func (.yield l) #[] #[]] h (R r l lp))
    (n: ∀ r l lp v,lp=loopOf f tm params assign body r→RS P md (G (FL f rr tm (mark r::df) (.endRangeFunc l::k)) cs) (R r l lp v) Stop) (hrr:rr.round=Option.none:=by rfl):
    RS P md (G (FL f rr tm df (.code (.rangeFunc fop params assign body)::k)) cs) (fun h=>St h₀ B₀ p h L) Stop:=by
  intro h s
  refine xsx ⟨rfl,fun h₁ k₁ S w V=>?_⟩
  have s₁:=s.call k₁
  have hx:wpS P (Instr.enterLoop f tm.toArray params assign body none) h₁ fun a h'=>∃ r l,a=(l,[mark r])∧
      St h₀ B₀ p h' ((l,.loop (loopOf f tm params assign body r))::(r,.deferred (some []))::L):=by
    unfold Instr.enterLoop
    refine xbz ?_
    refine xbz ?_
    simp only [newObj]
    refine xbv ?_
    refine xbz ?_
    simp only [wpS]
    exact xbv ⟨_,_,rfl,(s₁.push _).push _⟩
  obtain ⟨a,h',w',es,e1,e2,⟨r,l,rfl,e4⟩,e5,e6,e7⟩:=ycw _ #[] hx V
  have hup:=hc r l _ h' rfl e4 (FL f rr tm (mark r::df) (.inRangeFunc l::k)) cs Stop fun v h2 y=>n r l _ v rfl h2 y
  obtain ⟨nx,h2,w2,es2,g1,g2,g3,g4,g5,g6⟩:=ycw _ #[] hup e5
  simp only [Array.empty_append] at e1 g1
  have hstep:stepG P md.isMain (G (FL f rr tm df (.code (.rangeFunc fop params assign body)::k)) cs) w=
      GStep.after (seen P f es) (stepG.apply P true (FL f rr tm (mark r::df) (.inRangeFunc l::k)) cs none (do let d ← Deferred.ofValue (evl tm fop) #[.func (.yield l) #[] #[]];invoke d.target d.args) w'):=by
    have he:Frame.eval (FL f rr tm (mark r::df) (.inRangeFunc l::k))=evl tm:=by rw [← xpw];exact wjz
    simp only [G,stepG,stepG.exec,FL,F,B,hrr,e1]
    simp only [FL,F,B,hrr] at he
    simp only [resolve,List.map_toArray,List.map_cons,List.map_nil]
    have e3:({ fn:=f,tmps:=tm.toArray,todo:=.inRangeFunc l::k,defers:=[mark r]++df,mode:=.run,kind:=rr.kind,roundOf:=Option.none }:Frame).eval=evl tm:=he
    rw [e3]
    rfl
  have hev: ∀ e∈seen P f es++seen P f es2,EvX S w2.heap.size e:=fun e he=>by
    rcases Array.mem_append.1 he with he | he
    · exact wtx g5.size (xzw e7 e he)
    · exact xzw g6 e he
  have hkk:(rr.kind == CallKind.early)=false:=by cases rr <;> rfl
  rw [hstep]
  cases nx <;> first | exact g3.elim | skip
  all_goals
    refine ⟨_,h2,w2,seen P f es++seen P f es2,?_,g3,g4,e6.trans g5,hev⟩
    simp only [stepG.apply,if_true]
    simp only [g1,GStep.after,FL,F,B,hrr,hkk,Bool.false_eq_true,if_false,G,Array.append_empty]
    try rfl

end

structure Turned (h h':Heap) (b:Nat) (o:Obj):Prop where
  size:h.size≤h'.size
  keep: ∀ c,c<h.size→c≠b→h'[c]?=h[c]?
  here:h'[b]?=some o

section
variable {h₀ h h':Heap} {B₀:List Nat} {p:PHeap} {L:Pcs}
theorem St.turned {b:Nat} {o:Obj} (s:St h₀ [b] p h L) (i:Nat) (hL:L[i]?=some (b,o)):Turned h₀ h b o:=
  ⟨s.size,fun c hc hn=>s.keep c hc (by simpa using hn),s.at hL⟩
end

theorem xjx {p:PHeap} {b off:Nat} {c:Array Value} {t:TypeId} {z:Nat × Nat} {v:Value} (hb:p b=some (.cells c t z)) (hv:c[off]?=some v):pcell p ⟨b,off,none⟩=some v:=by
  unfold pcell;rw [hb];exact hv

theorem xvz {p:PHeap} {b off n:Nat} {c:Array Value} {t:TypeId} {z:Nat × Nat} {vs:List Value} (hb:p b=some (.cells c t z)) (hv:(c.toList.drop off).take n=vs):
    ∀ j v,vs[j]?=some v→pcell p ((⟨b,off,none⟩:Addr).add j)=some v:=fun j v hj=>by
  rw [xnz]
  refine xjx hb ?_
  subst hv
  rw [List.getElem?_take] at hj
  split at hj
  · rw [List.getElem?_drop] at hj;simpa using hj
  · cases hj

section
variable {P:Program} {tm:List Value} {d:Option Tmp} {ty:TypeId} {pos:String} {aft:Array Edge} {gd:Option (Nat × Bool)} {h:Heap}
theorem xhx {x:Operand} {a:Addr} (hx:evl tm x= .pointer (some a)):Exd P tm ⟨d,.nilCheck x,ty,pos,aft,gd⟩ h (.pointer (some a)):=by
  unfold Exd Ex;simp only [execOp,hx];exact xbv ⟨_,rfl,rfl,rfl⟩

variable {md:Md} {f:FuncId} {r:Rd} {df:List Deferred} {k:List Item} {cs:List Frame} {Stop:Goroutine→Heap→Prop} {ops rest:List Oper} {tm':List Value} {Φ:Heap→Prop}
theorem ypk [sb:Stb Φ] {args:List Operand} {ats:Array TypeId} {x:Operand} {fv v:Value} {vs:List Value}
    (hm:Met ops tm ⟨d,.call ⟨.value x,args.toArray,ats⟩,ty,pos,aft,gd⟩ true) (hx:evl tm x=fv) (hvs:args.map (evl tm)=vs)
    (hc: ∀ h,Φ h→CallV P md fv vs h fun v' h'=>v'=v∧Keep h h') (ht:putl tm d v=tm') (n:RL P md f r df k cs Stop ops rest tm' Φ):
    RL P md f r df k cs Stop ops (⟨d,.call ⟨.value x,args.toArray,ats⟩,ty,pos,aft,gd⟩::rest) tm Φ:=
  xxx (R:=fun v' h'=>v'=v∧Φ h') hm hx hvs (fun h y=>(hc h y).mono fun _ h' ⟨e1,e2⟩=>⟨e1,sb.stb _ _ y e2⟩) fun v' pre e h ⟨e1,y⟩=>by subst e1;rw [ht];exact n pre e h y
end
end Go.X
namespace Go.X
open Go.Conc

def adrV:Value→Addr
  | .slice (some a) _ _=>a
  | _=>⟨0,0,none⟩

theorem xzk {w:Nat} {y:Value}: ∀ {es:List (List Value)},(∀ e∈es,e.length=w)→ ∀ {i j:Nat} {e:List Value},es[i]?=some e→j<e.length→es.flatten.set (i*w+j) y=(es.set i (e.set j y)).flatten
  | [],_,i,_,e,hi,_=>by simp at hi
  | e₀::es,h,i,j,e,hi,hj=>by
    have h0:=h e₀ (by simp)
    cases i with
    | zero=>
      simp at hi;subst hi
      rw [Nat.zero_mul,Nat.zero_add,List.flatten_cons,List.set_cons_zero,List.flatten_cons,List.set_append_left _ _ hj]
    | succ i=>
      simp at hi
      have:=xzk (y:=y) (fun x hx=>h x (by simp [hx])) hi hj
      rw [List.flatten_cons,List.set_cons_succ,List.flatten_cons,List.set_append_right _ _ (by rw [h0,Nat.succ_mul];omega),← this]
      congr 2
      rw [h0,Nat.succ_mul];omega

theorem OwnS.has {T:TypeId} {w i:Nat} {v:Value} {es:List (List Value)} {X:List (Nat × Obj)} (o:OwnS T w v es X) (hi:i<es.length):
    ∃ b cs cap rest,v= .slice (some ⟨b,0,none⟩) es.length cap∧X=[(b,.cells (List.toArray cs) T (0,0))]∧cs=es.flatten++rest∧cs.length=cap*w∧(w=1→cap≤9223372036854775807):=by
  obtain ⟨_,⟨_,h,_⟩ | h⟩:=o
  · subst h;simp at hi
  · exact h

section
variable {P:Program} {md:Md} {f:FuncId} {r:Rd} {df:List Deferred} {k:List Item} {cs:List Frame} {Stop:Goroutine→Heap→Prop}
  {ops rest:List Oper} {tm tm':List Value} {h:Heap} {h₀:Heap} {B₀:List Nat} {p:PHeap} {A X C L:Pcs} {d:Option Tmp} {ty:TypeId} {pos:String} {aft:Array Edge} {gd:Option (Nat × Bool)}
  {T:TypeId} {w:Nat} {v:Value} {es:List (List Value)}

theorem wsw {t e:TypeId} {x:Operand} (o:OwnS T w v es X) (ht:P.underlying t=some (.slice e)) (hx:evl tm x=v):
    Exd P tm ⟨d,.call ⟨.builtin .len,#[x],#[t]⟩,ty,pos,aft,gd⟩ h (.int .i64 (es.length:Nat)):=by
  obtain ⟨a,cap,e,_⟩:=o.val
  exact xfz ht (hx.trans e)

theorem xzv {t e:TypeId} {x:Operand} {n:Nat} (o:OwnS T w v es X) (hn:es.length=n) (ht:P.underlying t=some (.slice e)) (hx:evl tm x=v):
    Exd P tm ⟨d,.call ⟨.builtin .len,#[x],#[t]⟩,ty,pos,aft,gd⟩ h (.int .i64 (n:Nat)):=by subst hn;exact wsw o ht hx

theorem xix {t e:TypeId} {x y:Operand} {i:Nat} (o:OwnS T w v es X) (ht:P.underlying t=some (.slice e)) (hs:sizeT P e=some w) (hx:evl tm x=v) (hy:evl tm y= .int .i64 (i:Nat)) (hi:i<es.length):
    Exd P tm ⟨d,.indexAddr t x y,ty,pos,aft,gd⟩ h (.pointer (some ((adrV v).add (i*w)))):=by
  obtain ⟨b,cs,cap,rest,e1,_⟩:=o.has hi
  rw [e1] at hx ⊢
  exact xbw ht hs hx hy hi

theorem xnv {t:TypeId} {x:Operand} {i j:Nat} {e:List Value} {u:Value} {a:Addr} (o:OwnS T w v es X) (s:St h₀ B₀ p h (A++(X++C))) (ht:aggT P t=some false) (hx:evl tm x= .pointer (some a)) (ha:((adrV v).add (i*w)).add j=a)
    (hi:es[i]?=some e) (hj:e[j]?=some u):Exd P tm ⟨d,.load t x,ty,pos,aft,gd⟩ h u:=by
  obtain ⟨b,cs,cap,rest,e1,e2,e3,e4,e5⟩:=o.has (List.getElem?_eq_some_iff.1 hi).1
  subst e1;subst e2;subst ha
  refine ynz ht hx ?_
  simp only [adrV]
  rw [xnz,xnz]
  refine s.ocell (i:=A.length) (cs:=cs.toArray) (T:=T) (z:=(0,0)) (by rw [List.getElem?_append_right (Nat.le_refl _)];simp) ?_
  have:=xox o.1 hi hj
  rw [List.getElem?_toArray,e3,Nat.zero_add,List.getElem?_append_left (List.getElem?_eq_some_iff.1 this).1]
  exact this

theorem xux {T':TypeId} {x y:Operand} {i j:Nat} {e:List Value} {u:Value} {a:Addr} (o:OwnS T w v es X) (hm:Met ops tm ⟨none,.store T' x y,ty,pos,aft,gd⟩ true) (hs:sizeT P T'=some 1) (hx:evl tm x= .pointer (some a)) (ha:((adrV v).add (i*w)).add j=a)
    (hy:evl tm y=u) (hv:u.cells=#[u]∧isOne u=true) (hi:es[i]?=some e) (hj:j<e.length)
    (n: ∀ X',OwnS T w v (es.set i (e.set j u)) X'→RL P md f r df k cs Stop ops rest tm (fun h=>St h₀ B₀ p h (A++(X'++C)))):
    RL P md f r df k cs Stop ops (⟨none,.store T' x y,ty,pos,aft,gd⟩::rest) tm (fun h=>St h₀ B₀ p h (A++(X++C))):=by
  have hil:=(List.getElem?_eq_some_iff.1 hi).1
  obtain ⟨b,cs',cap,rs,e1,e2,e3,e4,ec⟩:=o.has hil
  have hlt:i*w+j<es.flatten.length:=(List.getElem?_eq_some_iff.1 (xox o.1 hi (List.getElem?_eq_getElem hj))).1
  have he:e.length=w:=o.1 e (List.mem_of_getElem? hi)
  subst e1;subst e2;subst ha
  have e5:cs'.set (i*w+j) u=(es.set i (e.set j u)).flatten++rs:=by
    rw [e3,List.set_append_left _ _ hlt,xzk o.1 hi hj]
  have o':OwnS T w (.slice (some ⟨b,0,none⟩) es.length cap) (es.set i (e.set j u)) [(b,.cells (cs'.set (i*w+j) u).toArray T (0,0))]:=by
    refine ⟨fun z hz=>?_,.inr ⟨b,cs'.set (i*w+j) u,cap,rs,by simp,rfl,e5,by simpa using e4,ec⟩⟩
    rcases List.mem_or_eq_of_mem_set hz with h | h
    · exact o.1 z h
    · subst h;simpa using he
  have hx':evl tm x= .pointer (some ⟨b,i*w+j,none⟩):=by
    rw [hx];simp only [adrV];rw [xnz,xnz,Nat.zero_add]
  refine xrj (i:=A.length) (b:=b) (off:=i*w+j) (cs':=cs') (T':=T) hm hs hx' hy hv (by rw [List.getElem?_append_right (Nat.le_refl _)];simp) (by rw [e3,List.length_append];omega) rfl ?_
  have e6:(A++([(b,Obj.cells (List.toArray cs') T (0,0))]++C)).set A.length (b,.cells (cs'.set (i*w+j) u).toArray T (0,0))=A++([(b,.cells (cs'.set (i*w+j) u).toArray T (0,0))]++C):=by
    rw [List.set_append_right _ _ (Nat.le_refl _)];simp
  rw [e6]
  exact n _ o'

theorem wov (o:OwnS T w v es X) (n: ∀ p' a cap,PLe p p'→v= .slice a es.length cap→Sl p' a es.length w es→RL P md f r df k cs Stop ops rest tm (fun h=>St h₀ B₀ p' h (A++C))):
    RL P md f r df k cs Stop ops rest tm (fun h=>St h₀ B₀ p h (A++(X++C))):=fun pre e h s=>by
  obtain ⟨p',a,cap,h1,h2,h3,h4,_⟩:=o.last (s.perm (by rw [← List.append_assoc,← List.append_assoc];exact List.Perm.append_right C List.perm_append_comm):St h₀ B₀ p h (X++(A++C)))
  exact n p' a cap h1 h3 h4 pre e h h2
theorem woz {g:Goroutine} (o:OwnS T w v es X) (n: ∀ p' a cap,PLe p p'→v= .slice a es.length cap→Sl p' a es.length w es→RS P md g (fun h=>St h₀ B₀ p' h (A++C)) Stop):
    RS P md g (fun h=>St h₀ B₀ p h (A++(X++C))) Stop:=fun h s=>by
  obtain ⟨p',a,cap,h1,h2,h3,h4,_⟩:=o.last (s.perm (by rw [← List.append_assoc,← List.append_assoc];exact List.Perm.append_right C List.perm_append_comm):St h₀ B₀ p h (X++(A++C)))
  exact n p' a cap h1 h3 h4 h h2

theorem xxq {n:Nat} (o:OwnS T w v es X) (hn:es.length=n) (nx: ∀ p' a cap,PLe p p'→v= .slice a n cap→Sl p' a n w es→RL P md f r df k cs Stop ops rest tm (fun h=>St h₀ B₀ p' h (A++C))):
    RL P md f r df k cs Stop ops rest tm (fun h=>St h₀ B₀ p h (A++(X++C))):=by subst hn;exact wov o nx

theorem St.forget {p':PHeap} (s:St h₀ B₀ p' h L) (le:PLe p p'):St h₀ B₀ p h L:=
  ⟨s.keep,s.size,fun b o e=>s.per b o (le b o e),fun x hx=>⟨(s.own x hx).1,(by
    cases e:p x.1 with
    | none=>rfl
    | some o=>have h:=(s.own x hx).2.1;rw [le _ _ e] at h;cases h),(s.own x hx).2.2⟩,s.nod⟩
theorem St.perO {b i:Nat} {o:Obj} (s:St h₀ B₀ p h L) (hL:L[i]?=some (b,o)):Per (padd p b o) h:=fun c x hc=>by
  unfold padd at hc
  split at hc
  · rename_i e;subst e;cases hc;exact s.at hL
  · exact s.per c x hc
theorem St.leO {b i:Nat} {o:Obj} (s:St h₀ B₀ p h L) (hL:L[i]?=some (b,o)):PLe p (padd p b o):=zkj (s.own _ (mem_of_get? hL)).2.1
end

section
variable {P:Program} {md:Md} {Base:Heap→Prop} {ops rest:List Oper} {tm tm' tmF:List Value} {d:Option Tmp} {ty:TypeId} {pos:String} {aft:Array Edge} {gd:Option (Nat × Bool)}
theorem yrv {T e T':TypeId} {x:Operand} {a:Option Addr} {n c:Nat} {h:Heap} (hT:P.underlying T=some (.slice e)) (hx:evl tm x= .slice a n c):
    Exd P tm ⟨d,.binOp .eql T x (.const (.slice none 0 0)) T',ty,pos,aft,gd⟩ h (.bool a.isNone):=by
  refine xrq hx rfl (fun K z=>?_) ?_
  · unfold eqGuard
    rw [if_neg (by decide)]
    exact xbv z
  · simp only [evl,binOp,Op.equal,Op.maxDepth]
    refine xbz ?_
    rw [show (10000:Nat)=9999+1 from rfl]
    unfold Op.equalIn
    refine xbz (xgq hT ?_)
    cases a with
    | none=>exact xbv (xbv ⟨rfl,rfl⟩)
    | some a=>exact xbv (xbv ⟨rfl,rfl⟩)
end
section
variable {P:Program} {md:Md} {Base:Heap→Prop} {ops full rest:List Oper} {f:FuncId} {r:Rd} {df:List Deferred} {k:List Item} {cs:List Frame} {Stop:Goroutine→Heap→Prop} {tm tm':List Value}
end
end Go.X
namespace Go.X
open Go.Conc
theorem xqx {P:Program} {md:Md} {Stop:Goroutine→Heap→Prop} {h₀:Heap} {B₀:List Nat} {p:PHeap} {A X C:Pcs} {T:TypeId} {w:Nat} {v:Value} {es:List (List Value)} {g:Goroutine} {n:Nat} (o:OwnS T w v es X) (hn:es.length=n)
    (nx: ∀ p' a cap,PLe p p'→v= .slice a n cap→Sl p' a n w es→RS P md g (fun h=>St h₀ B₀ p' h (A++C)) Stop):RS P md g (fun h=>St h₀ B₀ p h (A++(X++C))) Stop:=by
  subst hn;exact woz o nx
section
variable {P:Program} {h₀ h:Heap} {B₀:List Nat} {p:PHeap} {A X C L:Pcs} {T:TypeId} {w:Nat} {v:Value} {es:List (List Value)}
variable {tm:List Value} {d:Option Tmp} {ty:TypeId} {pos:String} {aft:Array Edge} {gd:Option (Nat × Bool)}
theorem xuk {t:TypeId} {x:Operand} {i j:Nat} {e:List Value} {u:Value} {a:Addr} (o:OwnS T w v es X) (s:St h₀ B₀ p h L) (hX: ∀ x∈X,x∈L) (ht:aggT P t=some false) (hx:evl tm x= .pointer (some a)) (ha:((adrV v).add (i*w)).add j=a)
    (hi:es[i]?=some e) (hj:e[j]?=some u):Exd P tm ⟨d,.load t x,ty,pos,aft,gd⟩ h u:=by
  obtain ⟨b,cs,cap,rest,e1,e2,e3,e4,_⟩:=o.has (List.getElem?_eq_some_iff.1 hi).1
  subst e1;subst e2;subst ha
  refine ynz ht hx ?_
  simp only [adrV]
  rw [xnz,xnz]
  obtain ⟨q,hq⟩:=List.getElem?_of_mem (hX (b,.cells cs.toArray T (0,0)) (by simp))
  refine s.ocell (i:=q) (cs:=cs.toArray) (T:=T) (z:=(0,0)) hq ?_
  have:=xox o.1 hi hj
  rw [List.getElem?_toArray,e3,Nat.zero_add,List.getElem?_append_left (List.getElem?_eq_some_iff.1 this).1]
  exact this
end
end Go.X
namespace Go.X
open Go.Conc

inductive Bd (tm:List Value):Option Operand→Nat→Nat→Prop
  | none (d:Nat):Bd tm none d d
  | some {o:Operand} {k:IntKind} {z:Int} (d:Nat) (h:evl tm o= .int k z) (h0:0≤z):Bd tm (some o) d z.toNat
  | nat {o:Operand} {k:IntKind} {z:Nat} (d:Nat) (h:evl tm o= .int k (z:Nat)):Bd tm (some o) d z
def cutA (a:Option Addr) (c l w:Nat):Option Addr:=if c=l then a else a.map (·.add (l*w))

section
variable {P:Program} {h:Heap} {tm:List Value} {d:Option Tmp} {ty:TypeId} {pos:String} {aft:Array Edge} {gd:Option (Nat × Bool)}
theorem xpv {k:IntKind} {z:Int} {y:Nat} {code:BoundsCode} {K:Nat→Heap→Prop} (h0:0≤z) (h1:z≤(y:Nat)) (x:K z.toNat h):wpS P (Instr.sliceBound (.int k z) y code) h K:=by
  unfold Instr.sliceBound
  refine xbz (xbv ?_)
  simp only
  rw [if_pos ⟨h0,h1⟩]
  exact xbv x
theorem yoz {b:Bool} {n c l r:Nat} {lo hi:Option Operand} {K:Nat × Nat × Nat→Heap→Prop} (bl:Bd tm lo 0 l) (bh:Bd tm hi n r) (h1:l≤r) (h2:r≤c) (x:K (l,r,c) h):
    wpS P (Instr.sliceBounds b n c (lo.map (evl tm)) (hi.map (evl tm)) none) h K:=by
  unfold Instr.sliceBounds
  refine xbz (xbv ?_)
  have low: ∀ (b':Bool),wpS P (match lo.map (evl tm) with | some v=>do { let l ← Instr.sliceBound v r (if b' then .slice3C else .sliceB);pure (l,r,c) } | none=>do { let l ← pure 0;pure (l,r,c) }) h K:=by
    intro b'
    cases bl with
    | none=>exact xbz (xbv (xbv x))
    | some _ e h0=>simp only [Option.map_some,e];exact xbz (xpv h0 (by omega) (xbv x))
    | nat _ e=>simp only [Option.map_some,e];exact xbz (xpv (Int.natCast_nonneg _) (by omega) (xbv (by simpa using x)))
  cases bh with
  | none=>
    simp only [Option.map_none]
    refine xbz (xbv ?_)
    exact low _
  | some _ e h0=>
    simp only [Option.map_some,e]
    refine xbz (xpv h0 (by omega) ?_)
    exact low _
  | nat _ e=>
    simp only [Option.map_some,e]
    refine xbz (xpv (Int.natCast_nonneg _) (by omega) ?_)
    rw [Int.toNat_natCast]
    exact low _

theorem yhz {t e:TypeId} {x:Operand} {lo hi:Option Operand} {w n c l r:Nat} {a:Option Addr} (ht:P.underlying t=some (.slice e)) (hs:sizeT P e=some w) (hx:evl tm x= .slice a n c) (bl:Bd tm lo 0 l) (bh:Bd tm hi n r)
    (h1:l≤r) (h2:r≤c):Exd P tm ⟨d,.slice t x lo hi none,ty,pos,aft,gd⟩ h (.slice (cutA a c l w) (r-l) (c-l)):=by
  refine xwj (s:=Instr.sliceAt t (.slice a n c) (lo.map (evl tm)) (hi.map (evl tm)) none) (by simp only [execOp,hx,Option.map_none]) ?_
  unfold Instr.sliceAt
  refine xbz (xgq ht ?_)
  simp only
  unfold Instr.slice
  refine xbz (xgq ht ?_)
  simp only
  refine xbz (yoz bl bh h1 h2 ?_)
  simp only
  refine xbz (xmx hs ?_)
  exact xbv ⟨rfl,rfl⟩
theorem Sl.part {p:PHeap} {a:Option Addr} {n c w l r:Nat} {es:List (List Value)} (s:Sl p a n w es) (hc:n≤c) (h1:l≤r) (h2:r≤n):Sl p (cutA a c l w) (r-l) w ((es.drop l).take (r-l)):=
  s.cut h1 h2 fun hlt=>by unfold cutA;rw [if_neg (by omega),s.ne (by omega)];rfl
end

section
variable {P:Program} {md:Md} {f:FuncId} {r:Rd} {df:List Deferred} {k:List Item} {cs:List Frame} {Stop:Goroutine→Heap→Prop} {ops rest:List Oper} {tm:List Value}
  {h₀:Heap} {B₀:List Nat} {p:PHeap} {A X C:Pcs} {T:TypeId} {w:Nat} {v:Value} {es:List (List Value)} {n:Nat} {g:Goroutine}
theorem OwnS.room (o:OwnS T w v es X) (hw:0<w) {a:Option Addr} {m cap:Nat} (e:v= .slice a m cap):m≤cap:=by
  obtain ⟨h1,⟨rfl,rfl,rfl⟩ | ⟨b,cs,cap',rest,rfl,rfl,hcs,hlen,hcap⟩⟩:=o
  · cases e;exact Nat.le_refl _
  · cases e
    have h2:=xlw h1
    have h3:cs.length=es.flatten.length+rest.length:=by rw [hcs];simp
    have:es.length*w≤cap*w:=by omega
    exact Nat.le_of_mul_le_mul_right this hw
theorem xsv (o:OwnS T w v es X) (hn:es.length=n) (hw:0<w) (nx: ∀ p' a cap,PLe p p'→v= .slice a n cap→Sl p' a n w es→n≤cap→RS P md g (fun h=>St h₀ B₀ p' h (A++C)) Stop):
    RS P md g (fun h=>St h₀ B₀ p h (A++(X++C))) Stop:=
  xqx o hn fun p' a cap h1 h2 h3=>nx p' a cap h1 h2 h3 (o.room hw h2)
end
end Go.X
namespace Go.X.Flow
open Go.X

section
variable {p p':PHeap} {a:Option Addr} {n c k l r:Nat}
abbrev FWay:=Int × Int
def FWay.cells (x:FWay):List Value:=[.int .i64 x.1,.int .i64 x.2]
def wcs (xs:List FWay):List (List Value):=xs.map FWay.cells
def Wys (p:PHeap) (a:Option Addr) (n:Nat) (xs:List FWay):Prop:=Sl p a n 2 (wcs xs)
def wz:FWay:=(0,0)
variable {xs:List FWay}
theorem yiz (xs:List FWay):(wcs xs).length=xs.length:=by simp [wcs]
theorem xyw (xs:List FWay) (x:FWay):wcs xs++[x.cells]=wcs (xs++[x]):=by simp [wcs]
theorem Wys.len (s:Wys p a n xs):xs.length=n:=by have:=Sl.len s;simpa [wcs] using this
theorem Wys.mono (hp:PLe p p') (s:Wys p a n xs):Wys p' a n xs:=Sl.mono hp s
theorem Wys.ne (s:Wys p a n xs) (hk:0<n):a=some (adr a):=Sl.ne s hk
theorem Wys.at (s:Wys p a n xs) (hk:k<n) {j:Nat} {v:Value} (hv:(xs.getD k wz).cells[j]?=some v):pcell p (((adr a).add (k*2)).add j)=some v:=by
  have hl:=s.len
  exact Sl.get s k (xs.getD k wz).cells (by rw [wcs,List.getElem?_map,List.getD_eq_getElem?_getD,List.getElem?_eq_getElem (by omega)];rfl) j v hv
theorem Wys.ho (s:Wys p a n xs) (hk:k<n):pcell p ((adr a).add (k*2))=some (.int .i64 (xs.getD k wz).1):=s.at hk (j:=0) rfl
theorem Wys.we (s:Wys p a n xs) (hk:k<n):pcell p (((adr a).add (k*2)).add 1)=some (.int .i64 (xs.getD k wz).2):=s.at hk (j:=1) rfl
theorem Wys.all (s:Wys p a n xs) (hk:k<n): ∀ j v,[Value.int .i64 (xs.getD k wz).1,.int .i64 (xs.getD k wz).2][j]?=some v→pcell p (((adr a).add (k*2)).add j)=some v:=fun _ _ hv=>s.at hk hv
end

structure TownP (p:PHeap) (a1:Option Addr) (n1:Nat) (a2:Option Addr) (n2:Nat) (a3:Option Addr) (n3:Nat) (t:Tn):Prop where
  h:Ints p a1 n1 t.hs
  w:Ints p a2 n2 t.ws
  y:Wys p a3 n3 t.wy
theorem TownP.nH {p a1 n1 a2 n2 a3 n3 t} (T:TownP p a1 n1 a2 n2 a3 n3 t):t.nH=n1:=T.h.len
theorem TownP.nW {p a1 n1 a2 n2 a3 n3 t} (T:TownP p a1 n1 a2 n2 a3 n3 t):t.nW=n2:=T.w.len
theorem TownP.m {p a1 n1 a2 n2 a3 n3 t} (T:TownP p a1 n1 a2 n2 a3 n3 t):t.m=n3:=T.y.len

def Bf (x y:FWay):Prop:=x.1<y.1∨x.1=y.1∧x.2<y.2
instance (x y:FWay):Decidable (Bf x y):=by unfold Bf;infer_instance
def YOk (t:Tn) (i:Nat):Prop:=(0≤(t.wy.getD i wz).1∧(t.wy.getD i wz).1≤(t.nH:Int)-1)∧(0≤(t.wy.getD i wz).2∧(t.wy.getD i wz).2≤(t.nW:Int)-1)∧(0<i→Bf (t.wy.getD ((i:Int)-1).toNat wz) (t.wy.getD i wz))
structure Vd (t:Tn):Prop where
  nh:t.nH≤6
  nw:t.nW≤5
  h: ∀ h,h<t.nH→0≤t.hs.getD h 0∧t.hs.getD h 0≤9
  w: ∀ w,w<t.nW→0≤t.ws.getD w 0∧t.ws.getD w 0≤20
  y: ∀ i,i<t.m→YOk t i
open Classical in
noncomputable def chkB (t:Tn):Int:=if t.m≤12∧Vd t then 0 else 30
theorem xow {t} (h:t.m≤12) (v:Vd t):chkB t=0:=if_pos ⟨h,v⟩
theorem xrx {t} (h: ¬ (t.m≤12∧Vd t)):chkB t=30:=if_neg h
theorem yjk (t):chkB t=0∧t.m≤12∧Vd t∨chkB t=30∧ ¬ (t.m≤12∧Vd t):=by
  by_cases h:t.m≤12∧Vd t
  · exact .inl ⟨xow h.1 h.2,h⟩
  · exact .inr ⟨xrx h,h⟩
noncomputable def askB (t:Tn) (b:Bool):Int:=if chkB t=0 then (if b then 0 else 1) else 30
theorem Vd.ok {t} (v:Vd t) (hm:t.m≤13):Ok t:=
  ⟨v.nh,v.nw,hm,v.h,fun x hx=>by have:=v.w x hx;unfold Tn.wv;omega,fun i hi=>by
    have:=v.y i hi
    have h1:=this.1;have h2:=this.2.1
    unfold Tn.wh Tn.ww
    have e:t.wy.getD i (0,0)=t.wy.getD i wz:=rfl
    rw [e];omega⟩
end Go.X.Flow
namespace Go.X
open Go.Conc

theorem zdv {xs ys:List Int} {k:Nat} (h: ∀ i,i<k→xs.getD i 0=ys.getD i 0) (e:xs.getD k 0=ys.getD k 0): ∀ i,i<k+1→xs.getD i 0=ys.getD i 0:=fun i hi=>by
  by_cases c:i=k
  · subst c;exact e
  · exact h i (by omega)
theorem ynx {α:Type} {d:α} {xs ys:List α} (h1:xs.length=ys.length) (h2: ∀ i,i<xs.length→xs.getD i d=ys.getD i d):xs=ys:=by
  refine List.ext_getElem h1 fun i a b=>?_
  have:=h2 i a
  rw [List.getD_eq_getElem?_getD,List.getD_eq_getElem?_getD,List.getElem?_eq_getElem a,List.getElem?_eq_getElem b] at this
  exact this
theorem xzx {xs ys:List Int} {m n:Nat} (h1:xs.length=m) (h2:ys.length=n) (h:(m:Int)≠n):(Value.bool false)= .bool (decide (xs=ys)):=by
  rw [decide_eq_false];intro e;subst e;omega
theorem yxz {xs ys:List Int} {k:Nat} (h:xs.getD k 0≠ys.getD k 0):(Value.bool false)= .bool (decide (xs=ys)):=by
  rw [decide_eq_false];intro e;subst e;exact h rfl
theorem xuw {xs ys:List Int} {m n k:Nat} (h1:xs.length=m) (h2:ys.length=n) (h:(m:Int)=n) (hk:m≤k) (hs: ∀ i,i<k→xs.getD i 0=ys.getD i 0):(Value.bool true)= .bool (decide (xs=ys)):=by
  rw [decide_eq_true];exact ynx (by omega) fun i hi=>hs i (by omega)
end Go.X
