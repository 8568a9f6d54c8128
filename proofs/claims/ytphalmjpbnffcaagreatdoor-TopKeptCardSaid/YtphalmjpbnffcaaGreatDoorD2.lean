/-
  Part of proofs about cords and rosters in a file: a lone run, and what it computes. No condition.
-/
import Derived.Test.YtphalmjpbnffcaaGreatDoorD1
import Derived.Shelf.Strings.BuilderK
import Derived.Lib.ConvBytes
namespace Go.X.Cent
open Go.X

section
variable {p p':PHeap} {a:Option Addr} {n c k l r:Nat} {ts:List By}

def scs (ts:List By):List (List Value):=ts.map fun t=>[sv t]
def Strs (p:PHeap) (a:Option Addr) (n:Nat) (ts:List By):Prop:=Sl p a n 1 (scs ts)
theorem xek (ts:List By):(scs ts).length=ts.length:=by simp [scs]
theorem Strs.len (s:Strs p a n ts):ts.length=n:=by have:=Sl.len s;simpa [scs] using this
theorem Strs.mono (hp:PLe p p') (s:Strs p a n ts):Strs p' a n ts:=Sl.mono hp s
theorem Strs.ne (s:Strs p a n ts) (hk:0<n):a=some (adr a):=Sl.ne s hk
theorem Strs.get (s:Strs p a n ts) (hk:k<n):pcell p ((adr a).add (k*1))=some (sv (ts.getD k [])):=by
  have hl:=s.len
  exact Sl.get s k [sv (ts.getD k [])] (by rw [scs,List.getElem?_map,List.getD_eq_getElem?_getD,List.getElem?_eq_getElem (by omega)];rfl) 0 _ rfl

abbrev Pie:=Int × Int
def Pie.cells (x:Pie):List Value:=[.int .i64 x.1,.int .i64 x.2]
def pies (xs:List Pie):List (List Value):=xs.map Pie.cells
def Pies (p:PHeap) (a:Option Addr) (n:Nat) (xs:List Pie):Prop:=Sl p a n 2 (pies xs)
def pz:Pie:=(0,0)
variable {xs:List Pie}
theorem xoz (xs:List Pie):(pies xs).length=xs.length:=by simp [pies]
theorem Pies.len (s:Pies p a n xs):xs.length=n:=by have:=Sl.len s;simpa [pies] using this
theorem Pies.mono (hp:PLe p p') (s:Pies p a n xs):Pies p' a n xs:=Sl.mono hp s
theorem Pies.ne (s:Pies p a n xs) (hk:0<n):a=some (adr a):=Sl.ne s hk
theorem Pies.at (s:Pies p a n xs) (hk:k<n) {j:Nat} {v:Value} (hv:(xs.getD k pz).cells[j]?=some v):pcell p (((adr a).add (k*2)).add j)=some v:=by
  have hl:=s.len
  exact Sl.get s k (xs.getD k pz).cells (by rw [pies,List.getElem?_map,List.getD_eq_getElem?_getD,List.getElem?_eq_getElem (by omega)];rfl) j v hv
theorem Pies.ph (s:Pies p a n xs) (hk:k<n):pcell p ((adr a).add (k*2))=some (.int .i64 (xs.getD k pz).1):=s.at hk (j:=0) rfl
theorem Pies.by (s:Pies p a n xs) (hk:k<n):pcell p (((adr a).add (k*2)).add 1)=some (.int .i64 (xs.getD k pz).2):=s.at hk (j:=1) rfl
theorem Pies.all (s:Pies p a n xs) (hk:k<n): ∀ j v,[Value.int .i64 (xs.getD k pz).1,.int .i64 (xs.getD k pz).2][j]?=some v→pcell p (((adr a).add (k*2)).add j)=some v:=fun _ _ hv=>s.at hk hv
end
end Go.X.Cent
namespace Go.X.Cent
open Go.X

def wsumTo (l:By):Nat→Nat
  | 0=>0
  | k+1=>wsumTo l k+(l.getD k 0).toNat*(k+1)
def total (l:By):Nat:=wsumTo l l.length
theorem zkq (l:By) {k:Nat} (hk:k<4096):(l.getD k 0).toNat*(k+1)≤1044480:=by
  have h1:=ycw (l.getD k 0)
  have:=Nat.mul_le_mul h1 (show k+1≤4096 by omega)
  omega
theorem yrk (l:By): ∀ {k:Nat},k≤4096→wsumTo l k≤k*1044480
  | 0,_=>by simp [wsumTo]
  | k+1,h=>by
    have:=yrk l (k:=k) (by omega)
    have:=zkq l (k:=k) (by omega)
    simp only [wsumTo]
    omega
end Go.X.Cent
namespace Go.X
open Go.Conc

theorem zlq {xs ys:List Int} {k:Nat} (h: ∀ i,i<k→xs.getD i 0=ys.getD i 0) (e:xs.getD k 0=ys.getD k 0): ∀ i,i<k+1→xs.getD i 0=ys.getD i 0:=fun i hi=>by
  by_cases c:i=k
  · subst c;exact e
  · exact h i (by omega)
theorem zyv {α:Type} {d:α} {xs ys:List α} (h1:xs.length=ys.length) (h2: ∀ i,i<xs.length→xs.getD i d=ys.getD i d):xs=ys:=by
  refine List.ext_getElem h1 fun i a b=>?_
  have:=h2 i a
  rw [List.getD_eq_getElem?_getD,List.getD_eq_getElem?_getD,List.getElem?_eq_getElem a,List.getElem?_eq_getElem b] at this
  exact this
theorem yxv {xs ys:List Int} {m n:Nat} (h1:xs.length=m) (h2:ys.length=n) (h:(m:Int)≠n):(Value.bool false)= .bool (decide (xs=ys)):=by
  rw [decide_eq_false];intro e;subst e;omega
theorem ynk {xs ys:List Int} {k:Nat} (h:xs.getD k 0≠ys.getD k 0):(Value.bool false)= .bool (decide (xs=ys)):=by
  rw [decide_eq_false];intro e;subst e;exact h rfl
theorem ynj {xs ys:List Int} {m n k:Nat} (h1:xs.length=m) (h2:ys.length=n) (h:(m:Int)=n) (hk:m≤k) (hs: ∀ i,i<k→xs.getD i 0=ys.getD i 0):(Value.bool true)= .bool (decide (xs=ys)):=by
  rw [decide_eq_true];exact zyv (by omega) fun i hi=>hs i (by omega)
end Go.X
namespace Go.X.Cent
open Go.X

section
variable {α:Type} {d:α} {xs ys:List α} {m n k:Nat}
theorem wmq (h: ∀ i,i<k→xs.getD i d=ys.getD i d) (e:xs.getD k d=ys.getD k d): ∀ i,i<k+1→xs.getD i d=ys.getD i d:=fun i hi=>by
  by_cases c:i=k
  · subst c;exact e
  · exact h i (by omega)
theorem gext (h1:xs.length=ys.length) (h: ∀ i,i<xs.length→xs.getD i d=ys.getD i d):xs=ys:=by
  apply List.ext_getElem?
  intro i
  by_cases c:i<xs.length
  · have:=h i c
    rw [List.getD_eq_getElem?_getD,List.getD_eq_getElem?_getD,List.getElem?_eq_getElem c,List.getElem?_eq_getElem (by omega)] at this
    rw [List.getElem?_eq_getElem c,List.getElem?_eq_getElem (by omega)]
    exact congrArg some this
  · rw [List.getElem?_eq_none (by omega),List.getElem?_eq_none (by omega)]
theorem gall {P:α→Prop} (h: ∀ i,i<xs.length→P (xs.getD i d)): ∀ x∈xs,P x:=fun x hx=>by
  obtain ⟨i,hi,rfl⟩:=List.mem_iff_getElem.1 hx
  have:=h i hi
  rwa [List.getD_eq_getElem?_getD,List.getElem?_eq_getElem hi] at this
theorem gmem (h:k<xs.length):xs.getD k d∈xs:=by
  rw [List.getD_eq_getElem?_getD,List.getElem?_eq_getElem h]
  exact List.getElem_mem h
end
def isText (t:By):Prop:=t.length≤40∧ ∀ b∈t,32≤b.toNat∧b.toNat≤125
instance (t:By):Decidable (isText t):=inferInstanceAs (Decidable (_∧_))
def far (ts:List By):Prop:=60<ts.length∨ ∃ t∈ts,200<t.length
instance (ts:List By):Decidable (far ts):=inferInstanceAs (Decidable (_∨_))
theorem ymw {t:By} {k:Nat} (hk:k<t.length) (h:(((t.getD k 0).toNat:Nat):Int)<32): ¬ isText t:=fun x=>by have:=(x.2 _ (gmem (d:=0) hk)).1;omega
theorem yhz {t:By} {k:Nat} (hk:k<t.length) (h:(125:Int)<(((t.getD k 0).toNat:Nat):Int)): ¬ isText t:=fun x=>by have:=(x.2 _ (gmem (d:=0) hk)).2;omega
theorem ynq {t:By} {k:Nat} (hk:t.length≤k) (h: ∀ i,i<k→32≤(t.getD i 0).toNat∧(t.getD i 0).toNat≤125):decide (((t.length:Nat):Int)≤40)=decide (isText t):=by
  rw [decide_eq_decide]
  exact ⟨fun c=>⟨by omega,gall (d:=0) fun i hi=>h i (by omega)⟩,fun c=>by have:=c.1;omega⟩
theorem ygw {P:Nat→Prop} {k:Nat} (h: ∀ i,i<k→P i) (e:P k): ∀ i,i<k+1→P i:=fun i hi=>by
  by_cases c:i=k
  · subst c;exact e
  · exact h i (by omega)
def idxT (q:By→Bool):List By→Int
  | []=>-1
  | d::ds=>if q d=true then 0 else if idxT q ds<0 then -1 else idxT q ds+1
theorem yjq {q:By→Bool}: ∀ {ds:List By},(∀ i,i<ds.length→q (ds.getD i [])=false)→idxT q ds= -1
  | [],_=>rfl
  | d::ds,h=>by
    have h0:q d=false:=h 0 (by simp)
    have:=yjq (ds:=ds) fun i hi=>by simpa using h (i+1) (by simpa using hi)
    simp only [idxT,h0,this];simp
theorem yiw {q:By→Bool}: ∀ {ds:List By} {k:Nat},k<ds.length→q (ds.getD k [])=true→(∀ i,i<k→q (ds.getD i [])=false)→idxT q ds=k
  | [],_,h,_,_=>by simp at h
  | d::ds,0,_,h,_=>by
    have h0:q d=true:=by simpa using h
    simp [idxT,h0]
  | d::ds,k+1,hk,h,hi=>by
    have h0:q d=false:=hi 0 (by omega)
    have:=yiw (ds:=ds) (k:=k) (by simpa using hk) (by simpa using h) fun i hlt=>by simpa using hi (i+1) (by omega)
    simp only [idxT,h0,this]
    simp
    omega
theorem yok {q:By→Bool}: ∀ {ds:List By},0≤idxT q ds↔ ∃ t∈ds,q t=true
  | []=>by simp [idxT]
  | d::ds=>by
    have ih:=yok (q:=q) (ds:=ds)
    unfold idxT
    by_cases h:q d=true
    · simp [h]
    · rw [if_neg h]
      simp only [List.mem_cons,exists_eq_or_imp,h,← ih]
      split <;> simp <;> omega
def badT (t:By):Bool:=!decide (isText t)
def chkT (ts:List By):Int:=if 20<ts.length then 2 else if 0≤idxT badT ts then 1 else 0
end Go.X.Cent
namespace Go.X.Cent
open Go.X

structure Best (ph:List By) (s:By) (k b:Nat):Prop where
  lt:b<ph.length
  pre:ph.getD b [] <+: s
  max: ∀ i,i<k→ph.getD i [] <+: s→(ph.getD i []).length≤(ph.getD b []).length
  low:b=0∨b<k
theorem Best.zero {ph:List By} {s:By} (h:ph.head?=some []):Best ph s 0 0:=by
  cases ph with
  | nil=>cases h
  | cons a l=>
    obtain rfl:a=[]:=by simpa using h
    exact ⟨by simp,by simp,fun i hi=>absurd hi (Nat.not_lt_zero i),.inl rfl⟩
theorem Best.take {ph:List By} {s:By} {k b:Nat} (B:Best ph s k b) (hk:k<ph.length) (h1:(ph.getD b []).length<(ph.getD k []).length) (h2:ph.getD k [] <+: s):Best ph s (k+1) k:=
  ⟨hk,h2,fun i hi hp=>by
    by_cases e:i=k
    · subst e;exact Nat.le_refl _
    · have:=B.max i (by omega) hp;omega,.inr (by omega)⟩
theorem Best.keep {ph:List By} {s:By} {k b:Nat} (B:Best ph s k b) (h:ph.getD k [] <+: s→(ph.getD k []).length≤(ph.getD b []).length):Best ph s (k+1) b:=
  ⟨B.lt,B.pre,fun i hi hp=>by
    by_cases e:i=k
    · subst e;exact h hp
    · exact B.max i (by omega) hp,B.low.imp id (by omega)⟩
theorem Best.fin {ph:List By} {s:By} {b:Nat} (B:Best ph s ph.length b) (h:Phr ph):ph.getD b []=s.take (lp ph s):=by
  have h1:=xtq (s:=s) h.mem
  have h2:=B.pre
  have hb:ph.getD b []∈ph:=gmem (d:=[]) B.lt
  have hle:(ph.getD b []).length≤lp ph s:=by
    rcases Nat.lt_or_ge (lp ph s) (ph.getD b []).length with c | c
    · have hl:=h2.length_le
      have:=wbk h c hl
      rw [← List.prefix_iff_eq_take.1 h2] at this
      exact absurd hb this
    · exact c
  obtain ⟨i,hi,e⟩:=List.mem_iff_getElem.1 (h1.1 (lp ph s) (Nat.le_refl _))
  have e':ph.getD i []=s.take (lp ph s):=by rw [List.getD_eq_getElem?_getD,List.getElem?_eq_getElem hi];exact e
  have h3:=B.max i hi (by rw [e'];exact List.take_prefix _ _)
  rw [e',List.length_take,Nat.min_eq_left (wgw ph s)] at h3
  rw [List.prefix_iff_eq_take.1 h2,show (ph.getD b []).length=lp ph s from by omega]
end Go.X.Cent
namespace Go.X.Cent
open Go.X

def mapFrom:Nat→List By→List (By × Int)
  | _,[]=>[]
  | n,w::ph=>(w,((n:Nat):Int))::mapFrom (n+1) ph
theorem xxq: ∀ {n:Nat} {ph:List By},(mapFrom n ph).length=ph.length
  | _,[]=>rfl
  | n,w::ph=>by simp [mapFrom,xxq]
theorem ydw {w:By}: ∀ {n:Nat} {ph:List By},mapFrom n (ph++[w])=mapFrom n ph++[(w,((n+ph.length:Nat):Int))]
  | n,[]=>by simp [mapFrom]
  | n,x::ph=>by
    simp only [List.cons_append,mapFrom,ydw (n:=n+1) (ph:=ph),List.length_cons,List.cons.injEq,true_and]
    rw [show n+1+ph.length=n+(ph.length+1) from by omega]
theorem xvv {k:By}: ∀ {n:Nat} {ph:List By},findM (mapFrom n ph) k=if k∈ph then some (((n+ph.idxOf k:Nat)):Int) else none
  | n,[]=>rfl
  | n,x::ph=>by
    have ih:=xvv (k:=k) (n:=n+1) (ph:=ph)
    by_cases h:x=k
    · subst h
      simp [findM,mapFrom]
    · have hb:(x == k)=false:=by simpa using h
      have e:findM (mapFrom n (x::ph)) k=findM (mapFrom (n+1) ph) k:=by simp [findM,mapFrom,hb]
      have hi:(x::ph).idxOf k=ph.idxOf k+1:=by rw [List.idxOf_cons,hb];rfl
      rw [e,ih,hi]
      have hm:k∈x::ph↔k∈ph:=by
        rw [List.mem_cons]
        exact ⟨fun y=>y.resolve_left fun z=>h z.symm,.inr⟩
      by_cases c:k∈ph
      · rw [if_pos c,if_pos (hm.2 c)]
        congr 2
        omega
      · rw [if_neg c,if_neg fun z=>c (hm.1 z)]
def enc:Nat→List By→By→List Pie
  | 0,_,_=>[]
  | f+1,ph,s=>
    if s=[] then [] else
    if lp ph s<s.length then (((ph.idxOf (s.take (lp ph s)):Nat):Int),(((s.getD (lp ph s) 0).toNat:Nat):Int))::enc f (ph++[s.take (lp ph s+1)]) (s.drop (lp ph s+1))
    else [(((ph.idxOf s:Nat):Int),-1)]
theorem zex: ∀ {f g:Nat} {ph:List By} {s:By},s.length≤f→s.length≤g→enc f ph s=enc g ph s
  | 0,g,ph,s,h,_=>by
    have:s=[]:=List.eq_nil_of_length_eq_zero (by omega)
    subst this
    cases g <;> simp [enc]
  | f+1,0,ph,s,_,h=>by
    have:s=[]:=List.eq_nil_of_length_eq_zero (by omega)
    subst this
    simp [enc]
  | f+1,g+1,ph,s,h1,h2=>by
    unfold enc
    split
    · rfl
    · split
      · rw [zex (f:=f) (g:=g) (by rw [List.length_drop];omega) (by rw [List.length_drop];omega)]
      · rfl
def encS (ph:List By) (s:By):List Pie:=enc s.length ph s
theorem yqj (ph:List By):encS ph []=[]:=rfl
theorem yak {ph:List By} {s:By} (hl:lp ph s<s.length):
    encS ph s=(((ph.idxOf (s.take (lp ph s)):Nat):Int),(((s.getD (lp ph s) 0).toNat:Nat):Int))::encS (ph++[s.take (lp ph s+1)]) (s.drop (lp ph s+1)):=by
  have hs:s≠[]:=fun e=>by subst e;simp at hl
  unfold encS
  obtain ⟨f,hf⟩: ∃ f,s.length=f+1:=⟨s.length-1,by omega⟩
  rw [hf]
  conv=>lhs;unfold enc
  rw [if_neg hs,if_pos hl]
  congr 1
  exact zex (by rw [List.length_drop];omega) (Nat.le_refl _)
theorem yav {ph:List By} {s:By} (hs:s≠[]) (hl: ¬ lp ph s<s.length):encS ph s=[(((ph.idxOf s:Nat):Int),-1)]:=by
  unfold encS
  obtain ⟨f,hf⟩: ∃ f,s.length=f+1:=⟨s.length-1,by have:=List.length_pos_iff.2 hs;omega⟩
  rw [hf]
  unfold enc
  rw [if_neg hs,if_neg hl]
theorem yoz {ph:List By} {s:By} {k:Nat} (h0:[]∈ph) (hk:k≤s.length) (h: ∀ i,i≤k→s.take i∈ph) (he:k<s.length→s.take (k+1) ∉ ph):lp ph s=k:=by
  have hs:=xtq (s:=s) h0
  have hl:=wgw ph s
  rcases Nat.lt_trichotomy (lp ph s) k with c | c | c
  · exact absurd (h (lp ph s+1) (by omega)) (hs.2 (by omega))
  · exact c
  · exact absurd (hs.1 (k+1) (by omega)) (he (by omega))
theorem nf {ph:List By} {k:By} {n:Nat} (h:(findM (mapFrom n ph) k).isSome=false):k ∉ ph:=fun x=>by
  rw [xvv,if_pos x] at h
  cases h
theorem nfS {ph:List By} {k:By} {n:Nat} (h:(findM (mapFrom n ph) k).isSome=true):k∈ph:=by
  rw [xvv] at h
  split at h
  · assumption
  · cases h
theorem nfN {ph:List By} {k:By} {n:Nat} (h:(findM (mapFrom n ph) k).isSome=false):findM (mapFrom n ph) k=none:=by
  cases e:findM (mapFrom n ph) k with
  | none=>rfl
  | some v=>rw [e] at h;cases h
theorem yuw {ph:List By} {k:By} (h:k∈ph):(findM (mapFrom 0 ph) k).getD 0=((ph.idxOf k:Nat):Int):=by
  rw [xvv,if_pos h,Nat.zero_add];rfl
theorem zrv {ph:List By} {s:By} {k:Nat} (hl:lp ph s=k) (h0:[]∈ph) (hk:k<s.length):
    encS ph s=((findM (mapFrom 0 ph) (s.take k)).getD 0,(((s.getD k 0).toNat:Nat):Int))::encS (ph++[s.take (k+1)]) (s.drop (k+1)):=by
  subst hl
  rw [yak hk,yuw ((xtq h0).1 _ (Nat.le_refl _))]
theorem zsx {ph:List By} {s:By} {k:Nat} (hl:lp ph s=k) (h0:[]∈ph) (hs:s≠[]) (hk: ¬ k<s.length):
    encS ph s=((findM (mapFrom 0 ph) (s.take k)).getD 0,-1)::encS ph (s.drop k):=by
  subst hl
  have e:s.take (lp ph s)=s:=List.take_of_length_le (by omega)
  have e2:s.drop (lp ph s)=[]:=List.drop_of_length_le (by omega)
  rw [yav hs hk,yuw ((xtq h0).1 _ (Nat.le_refl _)),e,e2];rfl
theorem zuq {ph:List By} {s:By} {k:Nat} (h: ∀ i,i≤k→s.take i∈ph) (h1:s.take (k+1)∈ph): ∀ i,i≤k+1→s.take i∈ph:=fun i hi=>by
  by_cases e:i=k+1
  · subst e;exact h1
  · exact h i (by omega)
theorem znj {α:Type} (a:List α) (x:α) (b:List α):a++[x] <+: a++x::b:=⟨b,by simp⟩
theorem zpq {ph:List By} {w:By} {o:Obj} (h:MapO (mapFrom 0 ph++[(w,(((mapFrom 0 ph).length:Nat):Int))]) o):MapO (mapFrom 0 (ph++[w])) o:=by
  rw [ydw,Nat.zero_add]
  rw [xxq] at h
  exact h
theorem zsq: ∀ {f:Nat} {ph:List By} {s:By},(enc f ph s).length≤f
  | 0,_,_=>Nat.le_refl _
  | f+1,ph,s=>by
    unfold enc
    split
    · simp
    · split
      · have:=zsq (f:=f) (ph:=ph++[s.take (lp ph s+1)]) (s:=s.drop (lp ph s+1))
        simp only [List.length_cons];omega
      · simp
theorem yfw {ph:List By} {s:By}:(encS ph s).length≤s.length:=zsq
theorem znk {α:Type} {a:List α} {x:α} {b:List α} (h:a++[x] <+: b):a.length+1≤b.length:=by
  have:=h.length_le
  simpa using this
theorem yaq (xs:List Pie) (x:Pie):pies xs++[[.int .i64 x.1,.int .i64 x.2]]=pies (xs++[x]):=by simp [pies,Pie.cells]
theorem St.lend {h₀ h:Heap} {B₀:List Nat} {p:PHeap} {L Y:Pcs} {x:Nat × Obj} {i:Nat} (s:St h₀ B₀ p h L) (hx:L[i]?=some x) (e:L.eraseIdx i=Y):St h₀ B₀ p h ([x]++(Y++[])):=
  s.perm (by subst e;simpa using xsw hx)
end Go.X.Cent
namespace Go.X.Cent
open Go.X

def pT (ph:List By) (x:Pie):By:=ph.getD x.1.toNat []++(if x.2= -1 then [] else [UInt8.ofNat x.2.toNat])
def rd1 (ph:List By) (x:Pie):Option By:=if ((ph.length:Nat):Int)≤x.1 then none else if pT ph x=[] then none else some (pT ph x)
def rdTo:List By→List Pie→Option (List By)
  | e,[]=>some e
  | e,x::l=>match rd1 ([]::e) x with
    | none=>none
    | some t=>rdTo (e++[t]) l
theorem ybq {α:Type} {l:List α} {k:Nat} {d:α} (h:k<l.length):l.drop k=l.getD k d::l.drop (k+1):=by
  rw [List.drop_eq_getElem_cons h,List.getD_eq_getElem?_getD,List.getElem?_eq_getElem h];rfl
section
variable {e:List By} {xs:List Pie} {k:Nat}
theorem znq (he:e.length=k) (hk:k<xs.length) (h:((k+1:Nat):Int)≤(xs.getD k pz).1):rdTo e (xs.drop k)=none:=by
  rw [ybq (d:=pz) hk,rdTo,rd1,if_pos (by simp only [List.length_cons];omega)]
theorem yyz (he:e.length=k) (hk:k<xs.length) (h1: ¬ ((k+1:Nat):Int)≤(xs.getD k pz).1) (h2:(xs.getD k pz).2= -1) (h3:([]::e).getD (xs.getD k pz).1.toNat []=[]):rdTo e (xs.drop k)=none:=by
  rw [ybq (d:=pz) hk,rdTo,rd1,if_neg (by simp only [List.length_cons];omega),pT,if_pos h2,h3,List.append_nil,if_pos rfl]
theorem zwj (he:e.length=k) (hk:k<xs.length) (h1: ¬ ((k+1:Nat):Int)≤(xs.getD k pz).1) (h2:(xs.getD k pz).2= -1) (h3: ¬ ([]::e).getD (xs.getD k pz).1.toNat []=[]):
    rdTo e (xs.drop k)=rdTo (e++[([]::e).getD (xs.getD k pz).1.toNat []]) (xs.drop (k+1)):=by
  rw [ybq (d:=pz) hk,rdTo,rd1,if_neg (by simp only [List.length_cons];omega),pT,if_pos h2,List.append_nil,if_neg h3]
theorem zwz (he:e.length=k) (hk:k<xs.length) (h1: ¬ ((k+1:Nat):Int)≤(xs.getD k pz).1) (h2: ¬ (xs.getD k pz).2= -1):
    rdTo e (xs.drop k)=rdTo (e++[([]::e).getD (xs.getD k pz).1.toNat []++[UInt8.ofNat (xs.getD k pz).2.toNat]]) (xs.drop (k+1)):=by
  rw [ybq (d:=pz) hk,rdTo,rd1,if_neg (by simp only [List.length_cons];omega),pT,if_neg h2,if_neg (by simp)]
theorem wjk (hk:xs.length≤k) (h:rdTo e (xs.drop k)=rdTo [] xs):rdTo [] xs=some e:=by
  rw [List.drop_of_length_le hk,rdTo] at h
  exact h.symm
theorem ydk (he:e.length=k):(scs ([]::e)).length=k+1:=by rw [xek,List.length_cons,he]
theorem waj {l:List By} {i:Nat} (h:i<l.length):(scs l)[i]?=some [sv (l.getD i [])]:=by
  rw [scs,List.getElem?_map,List.getD_eq_getElem?_getD,List.getElem?_eq_getElem h];rfl
theorem zbx (l:List By) (t:By):scs l++[[sv t]]=scs (l++[t]):=by simp [scs]
theorem ytx (l:List By) (t:By):scs ([]::l)++[[sv t]]=scs ([]::(l++[t])):=by simp [scs]
theorem waw {m i:Nat} (h: ∀ t∈e,t.length≤m):(([]::e).getD i []).length≤m:=by
  rw [List.getD_eq_getElem?_getD]
  cases c:([]::e)[i]? with
  | none=>simp
  | some t=>
    rcases List.mem_cons.1 (List.mem_of_getElem? c) with h1 | h1
    · subst h1;simp
    · exact h t h1
theorem yrj {m:Nat} {t:By} (h: ∀ t∈e,t.length≤m) (ht:t.length≤m+1): ∀ s∈e++[t],s.length≤m+1:=fun s hs=>by
  rcases List.mem_append.1 hs with h1 | h1
  · have:=h s h1;omega
  · rw [List.mem_singleton.1 h1];exact ht
theorem yvx (t:By):(e++[t]).flatten=e.flatten++t:=by simp
end
theorem _root_.Go.X.St.dropX {h₀ h:Heap} {B₀:List Nat} {p:PHeap} {A X C:Pcs} (s:St h₀ B₀ p h (A++(X++C))):St h₀ B₀ p h (A++C):=s.sub (List.Sublist.append_left (List.sublist_append_right X C) A)
end Go.X.Cent
namespace Go.X.Cent
open Go.X

def isL (c:UInt8):Prop:=65≤c.toNat∧c.toNat≤90
instance (c:UInt8):Decidable (isL c):=inferInstanceAs (Decidable (_∧_))
def phN (s:By):Int:=((((s.getD 0 0).toNat:Nat):Int)-65)*26+((((s.getD 1 0).toNat:Nat):Int)-65)
def pie1 (s:By):Option (Pie × By):=
  if s.length<2∨ ¬ isL (s.getD 0 0)∨ ¬ isL (s.getD 1 0) then none
  else if s.drop 2=[] then some ((phN s,-1),s.drop 2)
  else if ((s.drop 2).getD 0 0).toNat=126 then some ((phN s,10),(s.drop 2).drop 1)
  else if ((s.drop 2).getD 0 0).toNat<32∨125<((s.drop 2).getD 0 0).toNat then none
  else some ((phN s,((((s.drop 2).getD 0 0).toNat:Nat):Int)),(s.drop 2).drop 1)
def prs:Nat→List Pie→By→Option (List Pie)
  | 0,out,_=>some out
  | f+1,out,s=>if s=[] then some out else match pie1 s with
    | none=>none
    | some (x,r)=>prs f (out++[x]) r
def prsS (out:List Pie) (s:By):Option (List Pie):=prs s.length out s
def formB (s:By):Option (List Pie):=
  if 1400<s.length∨s.length<5∨(s.getD (s.length-5) 0).toNat≠61 then none
  else if ∃ c∈s.drop (s.length-4),c.toNat<48∨57<c.toNat then none
  else prsS [] (s.take (s.length-5))
theorem ydv {s:By} {x:Pie} {r:By} (h:pie1 s=some (x,r)):r.length<s.length:=by
  unfold pie1 at h
  split at h
  · cases h
  rename_i h0
  have: ¬ s.length<2:=fun z=>h0 (.inl z)
  split at h
  · cases h;rw [List.length_drop];omega
  split at h
  · cases h;rw [List.length_drop,List.length_drop];omega
  split at h
  · cases h
  · cases h;rw [List.length_drop,List.length_drop];omega
theorem zbw: ∀ {f g:Nat} {out:List Pie} {s:By},s.length≤f→s.length≤g→prs f out s=prs g out s
  | 0,0,_,_,_,_=>rfl
  | 0,g+1,out,s,h,_=>by
    have:s=[]:=List.eq_nil_of_length_eq_zero (by omega)
    subst this;rfl
  | f+1,0,out,s,_,h=>by
    have:s=[]:=List.eq_nil_of_length_eq_zero (by omega)
    subst this;rfl
  | f+1,g+1,out,s,h1,h2=>by
    unfold prs
    split
    · rfl
    · cases e:pie1 s with
      | none=>rfl
      | some q=>
        obtain ⟨x,r⟩:=q
        have:=ydv e
        exact zbw (by omega) (by omega)
theorem wfz (out:List Pie):prsS out []=some out:=rfl
theorem xzw {out:List Pie} {s:By} (h0:s≠[]) (h:pie1 s=none):prsS out s=none:=by
  unfold prsS
  obtain ⟨f,hf⟩: ∃ f,s.length=f+1:=⟨s.length-1,by have:=List.length_pos_iff.2 h0;omega⟩
  rw [hf,prs,if_neg h0,h]
theorem yfx {out:List Pie} {s:By} {x:Pie} {r:By} (h:pie1 s=some (x,r)):prsS out s=prsS (out++[x]) r:=by
  have hs:=ydv h
  have h0:s≠[]:=fun e=>by subst e;simp at hs
  unfold prsS
  obtain ⟨f,hf⟩: ∃ f,s.length=f+1:=⟨s.length-1,by have:=List.length_pos_iff.2 h0;omega⟩
  rw [hf,prs,if_neg h0,h]
  exact zbw (by omega) (Nat.le_refl _)
section
variable {s:By}
theorem xmv (h:s.length<2∨ ¬ (65≤(((s.getD 0 0).toNat:Nat):Int)∧(((s.getD 0 0).toNat:Nat):Int)≤90)∨ ¬ (65≤(((s.getD 1 0).toNat:Nat):Int)∧(((s.getD 1 0).toNat:Nat):Int)≤90)):pie1 s=none:=by
  unfold pie1
  rw [if_pos]
  rcases h with h | h | h
  · exact .inl h
  · exact .inr (.inl fun z=>h (by have:=z.1;have:=z.2;omega))
  · exact .inr (.inr fun z=>h (by have:=z.1;have:=z.2;omega))
theorem wav (h0: ¬ s.length<2) (h1:65≤(((s.getD 0 0).toNat:Nat):Int)∧(((s.getD 0 0).toNat:Nat):Int)≤90) (h2:65≤(((s.getD 1 0).toNat:Nat):Int)∧(((s.getD 1 0).toNat:Nat):Int)≤90):
    pie1 s=if s.drop 2=[] then some ((phN s,-1),s.drop 2) else if ((s.drop 2).getD 0 0).toNat=126 then some ((phN s,10),(s.drop 2).drop 1)
      else if ((s.drop 2).getD 0 0).toNat<32∨125<((s.drop 2).getD 0 0).toNat then none else some ((phN s,((((s.drop 2).getD 0 0).toNat:Nat):Int)),(s.drop 2).drop 1):=by
  unfold pie1
  rw [if_neg]
  rintro (z | z | z)
  · exact h0 z
  · exact z ⟨by omega,by omega⟩
  · exact z ⟨by omega,by omega⟩
end
end Go.X.Cent
namespace Go.X.Cent
open Go.X Go.Proofs

def dig (n:Nat):UInt8:=UInt8.ofNat (48+n % 10)
def four (n:Nat):By:=[dig (n / 1000),dig (n / 100),dig (n / 10),dig n]
def sealB (l:By):By:=l++61::four (total l % 9973)
theorem dec1 {n:Nat} (h:n<10):Lib.decDigits n=[dig n]:=by
  rw [Lib.decDigits,dif_pos h,dig,Nat.mod_eq_of_lt h]
theorem dec2 {n:Nat} (h: ¬ n<10):Lib.decDigits n=Lib.decDigits (n / 10)++[dig n]:=by
  rw [Lib.decDigits,dif_neg h,dig]
theorem xsx {n m:Nat} (h:n<m) (_:0<m):dig (n / m)=48:=by
  rw [Nat.div_eq_of_lt h];rfl
theorem yuv {n:Nat} (h:n<10000):(Lib.itoa (n:Int)).length≤4∧Lib.repeatL [48] (4-(Lib.itoa (n:Int)).length)++Lib.itoa (n:Int)=four n:=by
  have e:Lib.itoa (n:Int)=Lib.decDigits n:=by rw [Lib.itoa,if_neg (by omega)];rfl
  rw [e]
  by_cases h1:n<10
  · rw [dec1 h1,four,xsx (n:=n) (m:=1000) (by omega) (by omega),xsx (n:=n) (m:=100) (by omega) (by omega),xsx (n:=n) (m:=10) (by omega) (by omega)]
    exact ⟨by simp,rfl⟩
  rw [dec2 h1]
  by_cases h2:n<100
  · rw [dec1 (n:=n / 10) (by omega),four,xsx (n:=n) (m:=1000) (by omega) (by omega),xsx (n:=n) (m:=100) (by omega) (by omega)]
    exact ⟨by simp,rfl⟩
  rw [dec2 (n:=n / 10) (by omega),Nat.div_div_eq_div_mul]
  by_cases h3:n<1000
  · rw [dec1 (n:=n / (10*10)) (by omega),four,xsx (n:=n) (m:=1000) (by omega) (by omega)]
    exact ⟨by simp,rfl⟩
  rw [dec2 (n:=n / (10*10)) (by omega),Nat.div_div_eq_div_mul,dec1 (n:=n / (10*10*10)) (by omega)]
  exact ⟨by simp,rfl⟩
theorem ziv (l:By):((l++[61])++Lib.repeatL [48] ((4:Int)-(((Lib.itoa ((total l % 9973:Nat):Int)).length:Nat):Int)).toNat)++Lib.itoa ((total l % 9973:Nat):Int)=sealB l:=by
  have h:=yuv (n:=total l % 9973) (by omega)
  have e:((4:Int)-(((Lib.itoa ((total l % 9973:Nat):Int)).length:Nat):Int)).toNat=4-(Lib.itoa ((total l % 9973:Nat):Int)).length:=by omega
  rw [e,List.append_assoc (l++[61]),h.2,sealB]
  simp
def fourTo (n:Nat):Nat→By
  | 0=>[]
  | k+1=>dig (n / 10 ^ k)::fourTo n k
def two (n:Int):By:=[UInt8.ofNat (65+n / 26).toNat,UInt8.ofNat (65+n % 26).toNat]
theorem c70i (h:Heap) (l:By) (z:Int) (h0:0≤z) (h1:z≤4096) (hl:l.length≤4096):CallsX Tryz.prog .lone 70 #[sv l,.int .i64 z] h fun v h'=>v=sv (Lib.repeatL l z.toNat)∧Keep h h':=by
  have e:z=((z.toNat:Nat):Int):=by omega
  have:=c70 h l z.toNat (by omega) (by have:=Nat.mul_le_mul hl (show z.toNat≤4096 by omega);omega)
  rw [← e] at this
  exact this
end Go.X.Cent
namespace Go.X.Cent
open Go.X Go.Proofs Go.RowKit

def selfP (b:Nat):Value:=.pointer (some ⟨b,0,none⟩)
def Bld (b:Nat) (l:By) (X:Pcs):Prop:=∃ a v Y,X=(b,.cells #[a,v] 108 (0,0))::Y∧(a= .pointer none∨a=selfP b)∧OwnS 5 1 v (bcs l) Y
theorem Bld.new (b:Nat):Bld b [] [(b,.cells #[.pointer none,.slice none 0 0] 108 (0,0))]:=⟨_,_,[],rfl,.inl rfl,.empty 5 1⟩

section
variable {h h₀:Heap} {B₀:List Nat} {p:PHeap} {L C:Pcs} {b:Nat} {a v:Value}
theorem zsv {w:World} {c:Array Value} {t:TypeId} {f:Nat × Nat} {i:Nat} (e:w.heap[b]?=some (.cells c t f)):w.cell? ⟨b,i,none⟩=c[i]?:=by
  unfold World.cell?
  simp [e]
theorem c93 (ha:a= .pointer none∨a=selfP b) (s₀:St h₀ B₀ p h ((b,.cells #[a,v] 108 (0,0))::C)):CallsX Tryz.prog .lone 93 #[selfP b] h fun r h'=>r= .tuple #[]∧St h₀ B₀ p h' ((b,.cells #[selfP b,v] 108 (0,0))::C):=by
  have hb:=s₀.at (i:=0) rfl
  rcases ha with rfl | rfl
  · refine xiz fun w hw=>?_
    subst hw
    refine (Any.Builder_copyCheck_fresh { Tryz.lays105 with } Tryz.Builder_Extra_105.toX72 b w (by rw [zsv hb];rfl) ?_ ?_).mono ?_
    · unfold World.shape?
      simp [hb]
      rfl
    · unfold World.frozen?
      simp [hb]
    · rintro e w' ⟨rfl,rfl⟩
      exact ⟨_,rfl,⟨rfl,s₀.store (i:=0) (off:=0) (v:=selfP b) rfl⟩,⟨rfl,rfl,rfl,by simp [World.setCell]⟩⟩
  · refine xiz fun w hw=>?_
    subst hw
    refine (Any.Builder_copyCheck_used { Tryz.lays105 with } Tryz.Builder_Extra_105.toX72 b w (by rw [zsv hb];rfl)).mono ?_
    rintro e w' ⟨rfl,rfl⟩
    exact ⟨_,rfl,⟨rfl,s₀⟩,.refl _⟩
theorem ypq: ∀ l:By,(bcs l).flatten=Lib.byteCells l
  | []=>rfl
  | x::l=>by
    have:=ypq l
    simp only [bcs,Lib.byteCells] at this ⊢
    simp [this]
theorem wcq {l:By} {Y:Pcs} (ha:a= .pointer none∨a=selfP b) (hO:OwnS 5 1 v (bcs l) Y) {w:World} (s₀:St h₀ [] p w.heap ((b,.cells #[a,v] 108 (0,0))::Y++C)):Lib.IsBuilder 108 5 h₀.size b (Lib.byteCells l) w:=by
  have hb:=s₀.at (i:=0) rfl
  have ob:=s₀.own _ (List.mem_of_getElem? (i:=0) rfl)
  have hbB:h₀.size≤b:=ob.2.2.resolve_right (by simp)
  have hrow:w.ownsRow h₀.size 5 1 v (Lib.byteCells l).length (Lib.byteCells l)∧v.ownBlock≠some b:=by
    obtain ⟨hw1,⟨rfl,h0,rfl⟩ | ⟨g,cs,cap,rest,rfl,rfl,hcs,hlen,hcap⟩⟩:=hO
    · have:l=[]:=by simpa [bcs] using h0
      subst this
      exact ⟨⟨rfl,.inl ⟨rfl,rfl⟩⟩,by simp [Value.ownBlock]⟩
    · have og:=s₀.own (g,.cells cs.toArray 5 (0,0)) (by simp)
      have hgB:h₀.size≤g:=og.2.2.resolve_right (by simp)
      have hne:g≠b:=fun e=>by
        have:=s₀.nod
        simp [e] at this
      have hll:(bcs l).flatten.length=l.length:=by rw [ypq];simp [Lib.byteCells]
      have hle:l.length≤cap:=by
        have:cs.length=(bcs l).flatten.length+rest.length:=by rw [hcs];simp
        omega
      refine ⟨⟨by simp [Lib.byteCells],.inr ⟨g,cap,cs.toArray,by simp [Lib.byteCells,bcs],hgB,og.1,by simpa [Lib.byteCells] using hle,by have:=hcap rfl;unfold maxLen;omega,by simpa using hlen,?_⟩⟩,by simp [Value.ownBlock,hne]⟩
      rw [← ypq,List.take_left' (by rw [hll];simp) |> fun e=>(by rw [hcs];exact e:(cs.take ((bcs l).flatten.length*1))=(bcs l).flatten)]
  · rcases ha with rfl | rfl
    · exact .inl ⟨hbB,v,hb,hrow⟩
    · exact .inr ⟨hbB,v,hb,hrow⟩
theorem c66k {l:By} {X:Pcs} (B:Bld b l X) (hp: ∀ b o,p b=some o→h₀[b]?=some o) (hC: ∀ x∈C,∀ c z,x.2≠ .cells c 5 z) (s₀:St h₀ [] p h (X++C)):CallsX Tryz.prog .lone 66 #[selfP b] h fun r h'=>r=sv l∧St h₀ [] p h' C:=by
  obtain ⟨a,v,Y,rfl,ha,hO⟩:=B
  refine xiz fun w hw=>?_
  subst hw
  have hI:=wcq ha hO s₀
  refine (Any.Builder_String_any_k { Tryz.lays105 with } Tryz.Builder_Extra_105 h₀.size b l w (Lib.IsBuilderF.of hI) s₀.size).mono ?_
  rintro e w' ⟨rfl,_,bl,ok⟩
  have hB: ∀ k,k<h₀.size→w'.heap[k]?=h₀[k]?:=fun k hk=>(bl.block k hk).trans (s₀.keep k hk (by simp))
  have hn:=s₀.nod
  refine ⟨_,rfl,⟨rfl,fun k hk _=>hB k hk,Nat.le_trans s₀.size bl.size,fun k o e=>?_,fun x hx=>?_,?_⟩,xwk bl⟩
  · have:=hp k o e
    rw [hB k (xlj this)];exact this
  · have o:=s₀.own x (by simp [hx])
    refine ⟨ok x.1 x.2 o.1 (fun e=>?_) (fun c z=>hC x hx c z),o.2⟩
    have e:x.1=b:=by simpa using e
    simp only [List.cons_append,List.map_cons,List.nodup_cons,List.map_append,List.mem_append] at hn
    exact hn.1 (.inr (e ▸ List.mem_map_of_mem hx))
  · simp only [List.map_append] at hn
    exact (List.nodup_append.1 hn).2.1
theorem c66 {l:By} {X:Pcs} (B:Bld b l X) (s₀:St h₀ [] p h (X++C)):CallsX Tryz.prog .lone 66 #[selfP b] h fun r h'=>r=sv l∧Keep h₀ h':=by
  obtain ⟨a,v,Y,rfl,ha,hO⟩:=B
  refine xiz fun w hw=>?_
  subst hw
  have hI:=wcq ha hO s₀
  refine (Any.Builder_String_any { Tryz.lays105 with } Tryz.Builder_Extra_105 h₀.size b l w hI s₀.size).mono ?_
  rintro e w' ⟨rfl,bl⟩
  exact ⟨_,rfl,⟨rfl,⟨Nat.le_trans s₀.size bl.size,fun k hk=>(bl.block k hk).trans (s₀.keep k hk (by simp))⟩⟩,xwk bl⟩
end
end Go.X.Cent
namespace Go.Proofs.YtphalmjpbnffcaaGreatDoor
open Go.X Go.X.Cent Go.Conc
set_option maxRecDepth 10000

theorem c65 (h h₀:Heap) (B₀:List Nat) (p:PHeap) (b:Nat) (a v:Value) (l:By) (Y C:Pcs) (ha:a= .pointer none∨a=selfP b) (hO:OwnS 5 1 v (bcs l) Y) (c:UInt8) (hl:l.length+4096≤2 ^ 30) (s₀:St h₀ B₀ p h (([(b,.cells #[a,v] 108 (0,0))]:Pcs)++(Y++(C++[])))):CallsX Tryz.prog .lone 65 #[.pointer (some ⟨b,0,none⟩),.int .u8 (((c.toNat:Nat):Int))] h fun v_ h'=>∃ v' Y',v_= .nilIface∧OwnS 5 1 v' (bcs (l++[c])) Y'∧St h₀ B₀ p h' ((b,.cells #[selfP b,v'] 108 (0,0))::(Y'++C)):=by
  refine xbk (Φ:=fun h_=>St h₀ B₀ p h_ (([(b,.cells #[a,v] 108 (0,0))]:Pcs)++(Y++(C++[])))) Tryz.func65 rfl (tm:=[_,_,_,_,_,_,_,_,_,_,_,_,_,_,_,_,_]) rfl ?_ s₀
  intro c₀ cs Stop K
  refine xaw ?_
  refine xak ?_
  refine xaj (xaq rfl) (fun h_ H_=>xax (v:=.nilIface) rfl) rfl ?_
  refine xav ?_
  refine xaw ?_
  refine xak ?_
  refine xaj (xaq rfl) (fun h_ H_=>xaz (v:=.pointer (some ⟨b,0,none⟩)) rfl) rfl ?_
  refine xhx (xaq rfl) (first:=[]) (cap:=[]) rfl rfl fC93 (fun h_ H_=>c93 ha H_) ?_
  refine fun v_=>xez fun ev_=>xdx (L':=([(b,.cells #[selfP b,v] 108 (0,0))]:Pcs)++(Y++(C++[]))) rfl ?_
  subst ev_
  refine xew (tm':=_::_::_::_::_::_::_::_) rfl ?_
  refine xav ?_
  refine xaw ?_
  refine xak ?_
  refine xaj (xaq rfl) (fun h_ H_=>xaz (v:=.pointer (some ⟨b,0,none⟩)) rfl) rfl ?_
  refine xaj (xaq rfl) (fun h_ H_=>xaz (v:=.pointer (some ⟨b,0,none⟩)) rfl) rfl ?_
  refine xaj (xaq rfl) (fun h_ H_=>xqw rfl) (tm':=_::_::_::_::_::_::_::_::_::_::_) rfl ?_
  refine xaj (xaq rfl) (fun h_ H_=>xbz ynz rfl (a':=⟨b,1,none⟩) rfl) rfl ?_
  refine xaj (xaq rfl) (fun h_ H_=>xbj H_ tA47 rfl (i:=0) rfl (v:=v) rfl) rfl ?_
  refine xaj (xaq rfl) (fun h_ H_=>xaz (v:=.int .u8 (((c.toNat:Nat):Int))) rfl) (tm':=[_,_,_,_,_,_,_,_,_,_,_,_,_,_,_,_,_]) rfl ?_
  refine xfq ([(b,.cells #[selfP b,v] 108 (0,0))]:Pcs) (xaq rfl) Tryz.underlying47 tS5 tZ5 (Nat.le_of_ble_eq_true rfl) (vs:=[(0,.int .u8 (((c.toNat:Nat):Int)))]) rfl rfl (es:=[[.int .u8 (((c.toNat:Nat):Int))]]) rfl rfl rfl fun v1 X2 o3=>?_
  refine xjw (List.Perm.append_left _ (List.perm_append_comm_assoc _ _ _)) ?_
  refine xdx (L':=([(b,.cells #[selfP b,v] 108 (0,0))]:Pcs)++(Y++(X2++(C++[])))) rfl ?_
  refine xkq ([(b,.cells #[selfP b,v] 108 (0,0))]:Pcs) Y X2 (xaq rfl) Tryz.underlying47 tS5 tZ5 rfl tB5 Tryz.underlying47 rfl rfl hO o3 (xrj rfl) (by rw [xwv];simp;omega) (by decide) fun v4 X5 o6=>?_
  refine xaj (xaq rfl) (fun h_ H_=>xqw rfl) (tm':=[_,_,_,_,_,_,_,_,_,_,_,_,_,_,_,_,_]) rfl ?_
  refine xaj (xaq rfl) (fun h_ H_=>xbz ynz rfl (a':=⟨b,1,none⟩) rfl) rfl ?_
  refine xuw (xaq rfl) tS47 rfl (v:=v4) rfl o6.one (i:=0) rfl (Nat.succ_le_iff.1 (Nat.le_of_ble_eq_true rfl)) (cs2:=[selfP b,v4]) rfl (xdx (L':=([(b,.cells #[selfP b,v4] 108 (0,0))]:Pcs)++(X5++(C++[]))) rfl ?_)
  refine xav ?_
  refine xaw ?_
  refine xak ?_
  refine xaj (xaq rfl) (fun h_ H_=>xax (v:=.nilIface) rfl) rfl ?_
  refine xav ?_
  refine xck Tryz.func65 rfl (vs:=[.nilIface]) (fun h_ H_=>⟨.nilIface,_,rfl,rfl,rfl⟩) (v:=.nilIface) rfl ?_
  exact fun h_ H_=>K _ _ ⟨_,_,rfl,o6.as (ymz l [c]).symm,by simpa using H_⟩
theorem c92 (h h₀:Heap) (B₀:List Nat) (p:PHeap) (b:Nat) (a v:Value) (l:By) (Y C:Pcs) (ha:a= .pointer none∨a=selfP b) (hO:OwnS 5 1 v (bcs l) Y) (m:By) (hl:l.length+4096≤2 ^ 30) (hm:m.length≤4096) (s₀:St h₀ B₀ p h (([(b,.cells #[a,v] 108 (0,0))]:Pcs)++(Y++(C++[])))):CallsX Tryz.prog .lone 92 #[.pointer (some ⟨b,0,none⟩),sv m] h fun v_ h'=>∃ v' Y',v_= .tuple #[.int .i64 ((m.length:Nat):Int),.nilIface]∧OwnS 5 1 v' (bcs (l++m)) Y'∧St h₀ B₀ p h' ((b,.cells #[selfP b,v'] 108 (0,0))::(Y'++C)):=by
  refine xbk (Φ:=fun h_=>St h₀ B₀ p h_ (([(b,.cells #[a,v] 108 (0,0))]:Pcs)++(Y++(C++[])))) Tryz.func92 rfl (tm:=[_,_,_,_,_,_,_,_,_,_,_,_,_,_,_,_,_,_,_]) rfl ?_ s₀
  intro c₀ cs Stop K
  refine xaw ?_
  refine xak ?_
  refine xaj (xaq rfl) (fun h_ H_=>xax (v:=.int .i64 0) rfl) (tm':=_::_::_::_::_::_) rfl ?_
  refine xaj (xaq rfl) (fun h_ H_=>xax (v:=.nilIface) rfl) rfl ?_
  refine xav ?_
  refine xaw ?_
  refine xak ?_
  refine xaj (xaq rfl) (fun h_ H_=>xaz (v:=.pointer (some ⟨b,0,none⟩)) rfl) rfl ?_
  refine xhx (xaq rfl) (first:=[]) (cap:=[]) rfl rfl fC93 (fun h_ H_=>c93 ha H_) ?_
  refine fun v_=>xez fun ev_=>xdx (L':=([(b,.cells #[selfP b,v] 108 (0,0))]:Pcs)++(Y++(C++[]))) rfl ?_
  subst ev_
  refine xew (tm':=_::_::_::_::_::_::_::_::_) rfl ?_
  refine xav ?_
  refine xaw ?_
  refine xak ?_
  refine xaj (xaq rfl) (fun h_ H_=>xaz (v:=.pointer (some ⟨b,0,none⟩)) rfl) rfl ?_
  refine xaj (xaq rfl) (fun h_ H_=>xaz (v:=.pointer (some ⟨b,0,none⟩)) rfl) rfl ?_
  refine xaj (xaq rfl) (fun h_ H_=>xqw rfl) (tm':=_::_::_::_::_::_::_::_::_::_::_::_) rfl ?_
  refine xaj (xaq rfl) (fun h_ H_=>xbz ynz rfl (a':=⟨b,1,none⟩) rfl) rfl ?_
  refine xaj (xaq rfl) (fun h_ H_=>xbj H_ tA47 rfl (i:=0) rfl (v:=v) rfl) rfl ?_
  refine xaj (xaq rfl) (fun h_ H_=>xaz (v:=sv m) rfl) (tm':=[_,_,_,_,_,_,_,_,_,_,_,_,_,_,_,_,_,_,_]) rfl ?_
  refine ytw (X:=Y) ([(b,.cells #[selfP b,v] 108 (0,0))]:Pcs) (xaq rfl) Tryz.underlying47 tS5 tZ5 rfl tB5 Tryz.underlying9 rfl (t:=bs m) rfl hO (by rw [xwv,xlw];omega) (by decide) fun v1 X2 o3=>?_
  have o4:OwnS 5 1 v1 (bcs l++bcs m) X2:=o3
  refine xaj (xaq rfl) (fun h_ H_=>xqw rfl) rfl ?_
  refine xaj (xaq rfl) (fun h_ H_=>xbz ynz rfl (a':=⟨b,1,none⟩) rfl) (tm':=[_,_,_,_,_,_,_,_,_,_,_,_,_,_,_,_,_,_,_]) rfl ?_
  refine xuw (xaq rfl) tS47 rfl (v:=v1) rfl o4.one (i:=0) rfl (Nat.succ_le_iff.1 (Nat.le_of_ble_eq_true rfl)) (cs2:=[selfP b,v1]) rfl (xdx (L':=([(b,.cells #[selfP b,v1] 108 (0,0))]:Pcs)++(X2++(C++[]))) rfl ?_)
  refine xav ?_
  refine xaw ?_
  refine xak ?_
  refine xaj (xaq rfl) (fun h_ H_=>xaz (v:=sv m) rfl) rfl ?_
  refine xaj (xaq rfl) (fun h_ H_=>xjx (l:=m) Tryz.underlying9 rfl) rfl ?_
  refine xaj (xaq rfl) (fun h_ H_=>xax (v:=.int .i64 (((m.length:Nat):Int))) rfl) (tm':=_::_::_::_::_::_) rfl ?_
  refine xaj (xaq rfl) (fun h_ H_=>xax (v:=.nilIface) rfl) rfl ?_
  refine xav ?_
  refine xck Tryz.func92 rfl (vs:=[.int .i64 (((m.length:Nat):Int)),.nilIface]) (fun h_ H_=>⟨.int .i64 (((m.length:Nat):Int)),_,rfl,rfl,⟨.nilIface,_,rfl,rfl,rfl⟩⟩) (v:=.tuple #[.int .i64 (((m.length:Nat):Int)),.nilIface]) rfl ?_
  exact fun h_ H_=>K _ _ ⟨_,_,rfl,o4.as (ymz l m).symm,by simpa using H_⟩
end Go.Proofs.YtphalmjpbnffcaaGreatDoor
namespace Go.X.Cent
open Go.X Go.Proofs Go.Proofs.YtphalmjpbnffcaaGreatDoor

theorem wej {P:Program} {md:Md} {f:FuncId} {r:Rd} {df:List Deferred} {k:List Item} {cs:List Frame} {Stop:Goroutine→Heap→Prop} {ops rest:List Oper} {tm:List Value} {Φ Ψ:Heap→Prop} (x: ∀ h,Φ h→Ψ h)
    (n:RL P md f r df k cs Stop ops rest tm Ψ):RL P md f r df k cs Stop ops rest tm Φ:=fun pre e h y=>n pre e h (x h y)
theorem zyx {α:Type} {l:List α} {k:Nat} {d:α} (h:k<l.length):l.getD k d∈l:=by
  rw [List.getD_eq_getElem?_getD,List.getElem?_eq_getElem h]
  exact List.getElem_mem h
section
variable {h h₀:Heap} {B₀:List Nat} {p:PHeap} {A C X:Pcs} {b:Nat} {l:By}
theorem yrx (B:Bld b l X) (s₀:St h₀ B₀ p h (A++(X++C))) (hl:l.length+4096≤2 ^ 30) (c:UInt8):
    CallsX Tryz.prog .lone 65 #[selfP b,.int .u8 ((c.toNat:Nat):Int)] h fun r h'=>r= .nilIface∧ ∃ X',Bld b (l++[c]) X'∧St h₀ B₀ p h' (A++(X'++C)):=by
  obtain ⟨a,v,Y,rfl,ha,hO⟩:=B
  have s1:St h₀ B₀ p h ((b,.cells #[a,v] 108 (0,0))::(Y++(A++C))):=s₀.perm (by
    have:=List.perm_append_comm_assoc A ((b,Obj.cells #[a,v] 108 (0,0))::Y) C
    simpa using this)
  refine (c65 h h₀ B₀ p b a v l Y (A++C) ha hO c hl (by simpa using s1)).mono ?_
  rintro r h' ⟨v',Y',rfl,o',s'⟩
  refine ⟨rfl,_,⟨selfP b,v',Y',rfl,.inr rfl,o'⟩,s'.perm ?_⟩
  have:=(List.perm_append_comm_assoc A ((b,Obj.cells #[selfP b,v'] 108 (0,0))::Y') C).symm
  simpa using this
theorem whk (B:Bld b l X) (s₀:St h₀ B₀ p h (A++(X++C))) (hl:l.length+4096≤2 ^ 30) (m:By) (hm:m.length≤4096):
    CallsX Tryz.prog .lone 92 #[selfP b,sv m] h fun r h'=>r= .tuple #[.int .i64 ((m.length:Nat):Int),.nilIface]∧ ∃ X',Bld b (l++m) X'∧St h₀ B₀ p h' (A++(X'++C)):=by
  obtain ⟨a,v,Y,rfl,ha,hO⟩:=B
  have s1:St h₀ B₀ p h ((b,.cells #[a,v] 108 (0,0))::(Y++(A++C))):=s₀.perm (by
    have:=List.perm_append_comm_assoc A ((b,Obj.cells #[a,v] 108 (0,0))::Y) C
    simpa using this)
  refine (c92 h h₀ B₀ p b a v l Y (A++C) ha hO m hl hm (by simpa using s1)).mono ?_
  rintro r h' ⟨v',Y',rfl,o',s'⟩
  refine ⟨rfl,_,⟨selfP b,v',Y',rfl,.inr rfl,o'⟩,s'.perm ?_⟩
  have:=(List.perm_append_comm_assoc A ((b,Obj.cells #[selfP b,v'] 108 (0,0))::Y') C).symm
  simpa using this
def wholeB:List By→By
  | []=>[]
  | t::ts=>t++10::wholeB ts
theorem ygv: ∀ (ts:List By) (t:By),wholeB (ts++[t])=wholeB ts++(t++[10])
  | [],t=>by simp [wholeB]
  | x::ts,t=>by simp [wholeB,ygv ts t]
theorem ywv {ts:List By} {k:Nat} (hk:k<ts.length):wholeB (ts.take (k+1))=wholeB (ts.take k)++ts.getD k []++[10]:=by
  rw [List.take_add_one,List.getElem?_eq_getElem hk,List.getD_eq_getElem?_getD,List.getElem?_eq_getElem hk]
  show wholeB (ts.take k++[ts[k]])=_
  rw [ygv,List.append_assoc]
  rfl
theorem ykk {ts:List By} {m:Nat} (h: ∀ t∈ts,t.length≤m):(wholeB ts).length≤ts.length*(m+1):=by
  induction ts with
  | nil=>simp [wholeB]
  | cons t ts ih=>
    have h1:=h t (by simp)
    have h2:=ih fun x hx=>h x (by simp [hx])
    simp only [wholeB,List.length_append,List.length_cons]
    rw [Nat.add_mul]
    omega
end
end Go.X.Cent
namespace Go.X.Cent
open Go.X Go.Proofs Go.Proofs.YtphalmjpbnffcaaGreatDoor

def pieB (x:Pie):By:=two x.1++(if x.2= -1 then [] else if x.2=10 then [126] else [UInt8.ofNat x.2.toNat])
def filP (l:List Pie):By:=l.flatMap pieB
def fileB (ts:List By):By:=sealB (filP (encS [[]] (wholeB ts)))
theorem yjk (l:List Pie) (x:Pie):filP (l++[x])=filP l++pieB x:=by simp [filP]
theorem ypk {l:List Pie} {x:Pie} (h:x.2= -1):filP l++[UInt8.ofNat (65+x.1 / 26).toNat]++[UInt8.ofNat (65+x.1 % 26).toNat]=filP (l++[x]):=by
  rw [yjk,pieB,if_pos h];simp [two]
theorem ypv {l:List Pie} {x:Pie} (h:x.2=10):filP l++[UInt8.ofNat (65+x.1 / 26).toNat]++[UInt8.ofNat (65+x.1 % 26).toNat]++[126]=filP (l++[x]):=by
  rw [yjk,pieB,if_neg (by omega),if_pos h];simp [two]
theorem ypw {l:List Pie} {x:Pie} (h1: ¬ x.2= -1) (h2: ¬ x.2=10):filP l++[UInt8.ofNat (65+x.1 / 26).toNat]++[UInt8.ofNat (65+x.1 % 26).toNat]++[UInt8.ofNat x.2.toNat]=filP (l++[x]):=by
  rw [yjk,pieB,if_neg h1,if_neg h2];simp [two]
theorem zwk (x:Pie):(pieB x).length≤3:=by
  unfold pieB two
  split
  · simp
  · split <;> simp
theorem yfk: ∀ l:List Pie,(filP l).length≤3*l.length
  | []=>by simp [filP]
  | x::l=>by
    have h1:=zwk x
    have h2:=yfk l
    simp only [filP,List.flatMap_cons,List.length_append,List.length_cons] at h2 ⊢
    omega
theorem Bld.as {b:Nat} {l m:By} {X:Pcs} (B:Bld b l X) (e:l=m):Bld b m X:=e ▸ B
theorem zrw: ∀ {f:Nat} {ph:List By} {s:By} {x:Pie},x∈enc f ph s→0≤x.1∧x.1≤((ph.length+f:Nat):Int)∧ -1≤x.2∧x.2≤255
  | 0,_,_,x,h=>by simp [enc] at h
  | f+1,ph,s,x,h=>by
    unfold enc at h
    split at h
    · simp at h
    · split at h
      · rcases List.mem_cons.1 h with rfl | h
        · have:=List.idxOf_le_length (l:=ph) (a:=s.take (lp ph s))
          have hb:=(s.getD (lp ph s) 0).toNat_lt
          simp only
          omega
        · have:=zrw h
          simp only [List.length_append,List.length_singleton] at this
          omega
      · obtain rfl:=List.mem_singleton.1 h
        have:=List.idxOf_le_length (l:=ph) (a:=s)
        simp only
        omega
theorem zez {s:By} {x:Pie} (h:x∈encS [[]] s):0≤x.1∧x.1≤((1+s.length:Nat):Int)∧ -1≤x.2∧x.2≤255:=zrw h
theorem wfj {α:Type} {a b:List α} {x:α} (h:a++[x] <+: b):x∈b:=h.subset (by simp)
theorem ykj {h h₀:Heap} {B₀:List Nat} {p:PHeap} {A C X:Pcs} {b:Nat} {l:By} (B:Bld b l X) (s₀:St h₀ B₀ p h (A++(X++C))) (hl:l.length+4096≤2 ^ 30) (z:Int) (h0:0≤z) (h1:z≤255):
    CallsX Tryz.prog .lone 65 #[selfP b,.int .u8 z] h fun r h'=>r= .nilIface∧ ∃ X',Bld b (l++[UInt8.ofNat z.toNat]) X'∧St h₀ B₀ p h' (A++(X'++C)):=by
  have e:(((UInt8.ofNat z.toNat).toNat:Nat):Int)=z:=by
    rw [UInt8.toNat_ofNat_of_lt' (show z.toNat<256 by omega)];omega
  have:=yrx B s₀ hl (UInt8.ofNat z.toNat)
  rwa [e] at this
theorem xpv {ts:List By} (h:chkT ts=0):ts.length≤20∧ ∀ t∈ts,isText t:=by
  unfold chkT at h
  by_cases c:20<ts.length
  · rw [if_pos c] at h;cases h
  rw [if_neg c] at h
  by_cases d:0≤idxT badT ts
  · rw [if_pos d] at h;cases h
  refine ⟨by omega,fun t ht=>?_⟩
  by_cases e:isText t
  · exact e
  · exact absurd (yok.2 ⟨t,ht,by unfold badT;rw [decide_eq_false e];rfl⟩) d
theorem xzx {ts:List By} (h:ts.length≤20) (h2: ∀ t∈ts,t.length≤40):(wholeB ts).length≤820:=by
  have:=ykk h2
  have:=Nat.mul_le_mul_right 41 h
  omega
end Go.X.Cent
namespace Go.X.Cent
open Go.X Go.Proofs

def trim1 (t:By):By:=Lib.trimSuffix t [10]
def trimTo (k:Nat) (ts:List By):List By:=(ts.take k).map trim1++ts.drop k
def linesB (all:By):List By:=((cutAfter 10 all).take ((cutAfter 10 all).length-1)).map trim1
def readB (s:By):Int × List By:=
  match formB s with
  | none=>(140,[])
  | some l=>if sealB (s.take (s.length-5))≠s then (141,[]) else
    match rdTo [] l with
    | none=>(142,[])
    | some e=>if chkT (linesB e.flatten)≠0∨fileB (linesB e.flatten)≠s then (142,[]) else (0,linesB e.flatten)
theorem ybz (k:Nat) (ts:List By):(trimTo k ts).length=ts.length:=by
  simp only [trimTo,List.length_append,List.length_map,List.length_take,List.length_drop];omega
theorem zjj {k:Nat} {ts:List By} (h:k<ts.length):(trimTo k ts).getD k []=ts.getD k []:=by
  rw [trimTo,List.getD_eq_getElem?_getD,List.getElem?_append_right (by simp only [List.length_map,List.length_take];omega)]
  simp only [List.length_map,List.length_take,Nat.min_eq_left (Nat.le_of_lt h),Nat.sub_self,List.getElem?_drop,Nat.add_zero,List.getD_eq_getElem?_getD]
theorem yww (ts:List By):trimTo 0 ts=ts:=by simp [trimTo]
theorem zgk {k:Nat} {ts:List By} (h:ts.length≤k):trimTo k ts=ts.map trim1:=by
  rw [trimTo,List.take_of_length_le h,List.drop_of_length_le h,List.append_nil]
theorem zgj {k:Nat} {ts:List By} (h:k<ts.length):(scs (trimTo k ts)).set k ([sv (ts.getD k [])].set 0 (sv (trim1 (ts.getD k []))))=scs (trimTo (k+1) ts):=by
  have e:[sv (ts.getD k [])].set 0 (sv (trim1 (ts.getD k [])))=[sv (trim1 (ts.getD k []))]:=rfl
  rw [e,scs,scs,← List.map_set,trimTo,trimTo,List.set_append_right _ _ (by simp only [List.length_map,List.length_take];omega)]
  congr 1
  simp only [List.length_map,List.length_take,Nat.min_eq_left (Nat.le_of_lt h),Nat.sub_self]
  rw [List.drop_eq_getElem_cons h,List.set_cons_zero,List.take_add_one,List.getElem?_eq_getElem h,List.map_append,List.append_assoc,List.getD_eq_getElem?_getD,List.getElem?_eq_getElem h]
  rfl
theorem zew (l:By):1≤(cutAfter 10 l).length∧(cutAfter 10 l).length≤l.length+1:=by
  rw [xrx]
  have:l.count 10≤l.length:=List.count_le_length
  omega
theorem xvk: ∀ {l t:By},t∈cutAfter 10 l→t.length≤l.length
  | [],t,h=>by simp [cutAfter] at h;subst h;simp
  | b::l,t,h=>by
    unfold cutAfter at h
    split at h
    · rcases List.mem_cons.1 h with rfl | h
      · simp
      · have:=xvk h;simp only [List.length_cons];omega
    · split at h
      · rename_i e;exact absurd e (ykx _ _)
      · rename_i x r e
        rcases List.mem_cons.1 h with rfl | h
        · have:=xvk (l:=l) (t:=x) (by rw [e];simp)
          simp only [List.length_cons];omega
        · have:=xvk (l:=l) (t:=t) (by rw [e];simp [h])
          simp only [List.length_cons];omega
theorem zjk (t:By):(trim1 t).length≤t.length:=by
  unfold trim1 Lib.trimSuffix
  split
  · rw [List.length_take];omega
  · exact Nat.le_refl _
theorem zpz {all t:By} (h:t∈linesB all):t.length≤all.length:=by
  obtain ⟨u,hu,rfl⟩:=List.mem_map.1 h
  exact Nat.le_trans (zjk u) (xvk (List.mem_of_mem_take hu))
theorem yzq (all:By):(linesB all).length≤all.length:=by
  have:=zew all
  rw [linesB,List.length_map,List.length_take];omega
theorem zbq (l:List By) (k:Nat):(scs l).take k=scs (l.take k):=by rw [scs,scs,List.map_take]
theorem zkw {k:Nat} {ts:List By} (h:k<ts.length):(scs (trimTo k ts))[k]?=some [sv (ts.getD k [])]:=by
  rw [waj (by rw [ybz];exact h),zjj h]
theorem zqx {s:By} (h:(formB s).isSome=false):formB s=none:=by
  cases e:formB s with
  | none=>rfl
  | some l=>rw [e] at h;cases h
theorem yvq {s:By} {l:List Pie} (h:formB s=some l):5≤s.length∧s.length≤1400:=by
  unfold formB at h
  split at h
  · cases h
  · rename_i c
    exact ⟨Nat.le_of_not_lt fun z=>c (.inr (.inl z)),Nat.le_of_not_lt fun z=>c (.inl z)⟩
theorem znz {Q:Pie→Prop} (hq: ∀ s x r,pie1 s=some (x,r)→Q x): ∀ {f:Nat} {out:List Pie} {s:By} {l:List Pie},(∀ x∈out,Q x)→prs f out s=some l→(∀ x∈l,Q x)∧l.length≤out.length+f
  | 0,out,s,l,h,e=>by
    obtain rfl:=Option.some.inj e
    exact ⟨h,by omega⟩
  | f+1,out,s,l,h,e=>by
    unfold prs at e
    split at e
    · obtain rfl:=Option.some.inj e
      exact ⟨h,by omega⟩
    · split at e
      · cases e
      · rename_i x r e1
        have:=znz hq (f:=f) (out:=out++[x]) (s:=r) (l:=l) (fun y hy=>by
          rcases List.mem_append.1 hy with z | z
          · exact h y z
          · rw [List.mem_singleton.1 z];exact hq _ _ _ e1) e
        rw [List.length_append,List.length_singleton] at this
        exact ⟨this.1,by omega⟩
theorem zbv: ∀ {f:Nat} {out:List Pie} {s:By} {l:List Pie},prs f out s=some l→2*l.length≤2*out.length+s.length
  | 0,out,s,l,e=>by
    obtain rfl:=Option.some.inj e
    omega
  | f+1,out,s,l,e=>by
    unfold prs at e
    split at e
    · obtain rfl:=Option.some.inj e
      omega
    · split at e
      · cases e
      · rename_i x r e1
        have:=zbv (f:=f) e
        have h2:r.length+2≤s.length:=by
          unfold pie1 at e1
          split at e1
          · cases e1
          rename_i h0
          have: ¬ s.length<2:=fun z=>h0 (.inl z)
          split at e1
          · cases e1;rw [List.length_drop];omega
          split at e1
          · cases e1;rw [List.length_drop,List.length_drop];omega
          split at e1
          · cases e1
          · cases e1;rw [List.length_drop,List.length_drop];omega
        rw [List.length_append,List.length_singleton] at this
        omega
theorem wfk {s:By} {x:Pie} {r:By} (h:pie1 s=some (x,r)):0≤x.1∧x.1≤675∧ -1≤x.2∧x.2≤125:=by
  unfold pie1 at h
  split at h
  · cases h
  rename_i h0
  have h1:isL (s.getD 0 0):=Decidable.not_not.1 fun z=>h0 (.inr (.inl z))
  have h2:isL (s.getD 1 0):=Decidable.not_not.1 fun z=>h0 (.inr (.inr z))
  obtain ⟨a1,a2⟩:=h1
  obtain ⟨b1,b2⟩:=h2
  have hp:0≤phN s∧phN s≤675:=by unfold phN;omega
  split at h
  · cases h;exact ⟨hp.1,hp.2,by omega,by omega⟩
  split at h
  · cases h;exact ⟨hp.1,hp.2,by omega,by omega⟩
  split at h
  · cases h
  · rename_i h3
    cases h;exact ⟨hp.1,hp.2,by omega,by omega⟩
theorem zqq (s:By):((formB s).getD []).length≤700∧ ∀ x∈(formB s).getD [],0≤x.1∧x.1≤675∧ -1≤x.2∧x.2≤125:=by
  cases e:formB s with
  | none=>simp
  | some l=>
    have h5:=yvq e
    unfold formB at e
    split at e
    · cases e
    split at e
    · cases e
    · have h1:=znz (Q:=fun x=>0≤x.1∧x.1≤675∧ -1≤x.2∧x.2≤125) (fun _ _ _=>wfk) (by simp) e
      have h2:=zbv e
      rw [List.length_take] at h2
      exact ⟨by show l.length≤700;simp only [List.length_nil] at h2;omega,h1.1⟩
theorem zyj (s:By): ∀ x∈(formB s).getD [],0≤x.1∧ -1≤x.2∧x.2≤255:=fun x hx=>by have:=(zqq s).2 x hx;omega
theorem zmv: ∀ {l:List Pie} {e r:List By},rdTo e l=some r→(∀ t∈e,t.length≤e.length)→(∀ t∈r,t.length≤r.length)∧r.length=e.length+l.length
  | [],e,r,h,hm=>by
    obtain rfl:=Option.some.inj h
    exact ⟨hm,by simp⟩
  | x::l,e,r,h,hm=>by
    unfold rdTo at h
    split at h
    · cases h
    · rename_i t ht
      have h1:t.length≤e.length+1:=by
        unfold rd1 at ht
        split at ht
        · cases ht
        split at ht
        · cases ht
        · obtain rfl:=Option.some.inj ht
          have:=waw (i:=x.1.toNat) hm
          unfold pT
          rw [List.length_append]
          split
          · simp only [List.length_nil];omega
          · simp only [List.length_singleton];omega
      have:=zmv h (by rw [List.length_append,List.length_singleton];exact yrj hm h1)
      rw [List.length_append,List.length_singleton] at this
      exact ⟨this.1,by rw [this.2,List.length_cons];omega⟩
theorem zqj {m:Nat}: ∀ {r:List By},(∀ t∈r,t.length≤m)→r.flatten.length≤r.length*m
  | [],_=>by simp
  | t::r,h=>by
    have h1:=h t (by simp)
    have h2:=zqj (r:=r) fun x hx=>h x (by simp [hx])
    rw [List.flatten_cons,List.length_append,List.length_cons,Nat.add_mul]
    omega
theorem wfx {l:List Pie} {r:List By} (h:rdTo [] l=some r) (hl:l.length≤1000):r.flatten.length≤1000000:=by
  have:=zmv h (by simp)
  simp only [List.length_nil,Nat.zero_add] at this
  have h1:=zqj (r:=r) (m:=1000) fun t ht=>by have:=this.1 t ht;omega
  have h2:=Nat.mul_le_mul_right 1000 (show r.length≤1000 by omega)
  omega
end Go.X.Cent
namespace Go.X.Cent
open Go.X

def errT (ts:List By):Prop:=chkT ts≠0
instance (ts:List By):Decidable (errT ts):=inferInstanceAs (Decidable (_≠_))
def writeB (ts:List By):By × Int:=if chkT ts≠0 then ([],chkT ts) else (fileB ts,0)
def pcB (ts:List By):List By:=if chkT ts≠0 then [] else (rdTo [] (encS [[]] (wholeB ts))).getD []
def savesB (ts:List By):Int × Int:=if chkT ts≠0 then (0,chkT ts) else ((((wholeB ts).length:Nat):Int)-(((fileB ts).length:Nat):Int),0)
def badN (l:List Pie) (n:Int):Prop:=n<0∨((l.length:Nat):Int)<n∨0<n∧(l.getD (n-1).toNat pz).2= -1
instance (l:List Pie) (n:Int):Decidable (badN l n):=inferInstanceAs (Decidable (_∨_))
def cntN (l:List Pie) (n:Int):Nat:=l.countP fun x=>decide (x.1=n)
def usesB (ts:List By) (n:Int):Int × Int:=
  if chkT ts≠0 then (0,chkT ts) else if badN (encS [[]] (wholeB ts)) n then (0,1) else (((cntN (encS [[]] (wholeB ts)) n:Nat):Int),0)
def longB (l:List By):Nat:=l.foldl (fun n t=>max n t.length) 0
def sumB (s:By):Int × Int:=if 1400<s.length then (0,1) else (((total s % 9973:Nat):Int),0)
def parseB (s:By):Int:=if (formB s).isSome then 0 else 140
def stateB (s:By):Int:=if (readB s).1=0 then 1 else if (readB s).1=140 then 2 else if (readB s).1=141 then 3 else 4
def addB (s t:By):By × Int:=if (readB s).1≠0 then ([],(readB s).1) else writeB ((readB s).2++[t])
theorem yov {ts:List By} (h: ¬ chkT ts≠0):(∀ t∈ts,t.length≤40)∧(∀ t∈ts,t.length≤200)∧(wholeB ts).length≤820∧ts.length≤20∧(encS [[]] (wholeB ts)).length≤820∧ ∀ x∈encS [[]] (wholeB ts),0≤x.1∧ -1≤x.2∧x.2≤255:=by
  have g:=xpv (Decidable.not_not.1 h)
  have h40: ∀ t∈ts,t.length≤40:=fun t z=>(g.2 t z).1
  have hw:=xzx g.1 h40
  exact ⟨h40,fun t z=>by have:=h40 t z;omega,hw,g.1,Nat.le_trans yfw hw,fun x hx=>by have:=zez hx;omega⟩
theorem xsj (l:By):(sealB l).length=l.length+5:=by simp [sealB,four]
end Go.X.Cent
namespace Go.Proofs.YtphalmjpbnffcaaGreatDoor
open Go.X Go.X.Cent Go.Conc
set_option maxRecDepth 10000

theorem c8 (md:Md) (h:Heap) (n lo hi:Int):CallsX Tryz.prog md 8 #[.int .i64 (n),.int .i64 (lo),.int .i64 (hi)] h fun v h'=>v= .bool (decide (lo≤n∧n≤hi))∧Keep h h':=by
  refine xbk (Φ:=fun h_=>St h [] (fun _=>none) h_ []) Tryz.func8 rfl (tm:=[_,_,_,_,_,_,_,_,_,_,_,_,_,_,_]) rfl ?_ (St.start h _ (fun _ _ e=>by cases e))
  intro c₀ cs Stop K
  refine xaw ?_
  refine xak ?_
  refine xaj (xaq rfl) (fun h_ H_=>xax (v:=.bool (false)) rfl) rfl ?_
  refine xav ?_
  refine xaw ?_
  refine xak ?_
  refine xaj (xaq rfl) (fun h_ H_=>xaz (v:=.int .i64 (lo)) rfl) rfl ?_
  refine xaj (xaq rfl) (fun h_ H_=>xaz (v:=.int .i64 (n)) rfl) (tm':=_::_::_::_::_::_::_::_::_::_) rfl ?_
  refine xaj (xaq rfl) (fun h_ H_=>ycj rfl rfl) rfl ?_
  refine xaj (xaq rfl) (fun h_ H_=>xaz (v:=.bool (decide (lo≤n))) rfl) rfl ?_
  by_cases cc1:lo≤n
  · refine xaj (xfw rfl rfl (decide_eq_true cc1)) (fun h_ H_=>xaz (v:=.int .i64 (n)) rfl) (tm':=[_,_,_,_,_,_,_,_,_,_,_,_,_,_,_]) rfl ?_
    refine xaj (xfw rfl rfl (decide_eq_true cc1)) (fun h_ H_=>xaz (v:=.int .i64 (hi)) rfl) rfl ?_
    refine xaj (xfw rfl rfl (decide_eq_true cc1)) (fun h_ H_=>ycj rfl rfl) rfl ?_
    refine xaj (xaq rfl) (fun h_ H_=>xdz rfl (decide_eq_true cc1) (v:=.bool (decide (n≤hi))) rfl) (tm':=[_,_,_,_,_,_,_,_,_,_,_,_,_,_,_]) rfl ?_
    refine xaj (xaq rfl) (fun h_ H_=>xax (v:=.bool (decide (n≤hi))) rfl) rfl ?_
    refine xav ?_
    refine xck Tryz.func8 rfl (vs:=[.bool (decide (n≤hi))]) (fun h_ H_=>⟨.bool (decide (n≤hi)),_,rfl,rfl,rfl⟩) (v:=.bool (decide (n≤hi))) rfl ?_
    exact fun h_ H_=>K _ _ ⟨by simp [*],H_.kept⟩
  · refine xdk (xfk rfl rfl (decide_eq_false cc1)) rfl ?_
    refine xdk (xfk rfl rfl (decide_eq_false cc1)) (tm':=[_,_,_,_,_,_,_,_,_,_,_,_,_,_,_]) rfl ?_
    refine xdk (xfk rfl rfl (decide_eq_false cc1)) rfl ?_
    refine xaj (xaq rfl) (fun h_ H_=>xdw rfl (decide_eq_false cc1) (v:=.bool (false)) rfl) rfl ?_
    refine xaj (xaq rfl) (fun h_ H_=>xax (v:=.bool (false)) rfl) (tm':=_::_::_::_::_::_::_::_) rfl ?_
    refine xav ?_
    refine xck Tryz.func8 rfl (vs:=[.bool (false)]) (fun h_ H_=>⟨.bool (false),_,rfl,rfl,rfl⟩) (v:=.bool (false)) rfl ?_
    exact fun h_ H_=>K _ _ ⟨by simp [*],H_.kept⟩
theorem c67 (md:Md) (h:Heap) (c:Int):CallsX Tryz.prog md 67 #[.int .u8 (c)] h fun v h'=>v= .bool (decide (65≤c∧c≤90))∧Keep h h':=by
  refine xbk (Φ:=fun h_=>St h [] (fun _=>none) h_ []) Tryz.func67 rfl (tm:=[_,_,_,_,_,_,_,_,_]) rfl ?_ (St.start h _ (fun _ _ e=>by cases e))
  intro c₀ cs Stop K
  refine xaw ?_
  refine xak ?_
  refine xaj (xaq rfl) (fun h_ H_=>xax (v:=.bool (false)) rfl) rfl ?_
  refine xav ?_
  refine xaw ?_
  refine xak ?_
  refine xaj (xaq rfl) (fun h_ H_=>xaz (v:=.int .u8 (c)) rfl) rfl ?_
  refine xaj (xaq rfl) (fun h_ H_=>xvj rfl rfl) (tm':=_::_::_::_::_::_) rfl ?_
  refine xaj (xaq rfl) (fun h_ H_=>xaz (v:=.bool (decide (65≤c))) rfl) rfl ?_
  by_cases cc1:65≤c
  · refine xaj (xfw rfl rfl (decide_eq_true cc1)) (fun h_ H_=>xaz (v:=.int .u8 (c)) rfl) rfl ?_
    refine xaj (xfw rfl rfl (decide_eq_true cc1)) (fun h_ H_=>ycj rfl rfl) (tm':=[_,_,_,_,_,_,_,_,_]) rfl ?_
    refine xaj (xaq rfl) (fun h_ H_=>xdz rfl (decide_eq_true cc1) (v:=.bool (decide (c≤90))) rfl) rfl ?_
    refine xaj (xaq rfl) (fun h_ H_=>xax (v:=.bool (decide (c≤90))) rfl) rfl ?_
    refine xav ?_
    refine xck Tryz.func67 rfl (vs:=[.bool (decide (c≤90))]) (fun h_ H_=>⟨.bool (decide (c≤90)),_,rfl,rfl,rfl⟩) (v:=.bool (decide (c≤90))) rfl ?_
    exact fun h_ H_=>K _ _ ⟨by simp [*],H_.kept⟩
  · refine xdk (xfk rfl rfl (decide_eq_false cc1)) (tm':=[_,_,_,_,_,_,_,_,_]) rfl ?_
    refine xdk (xfk rfl rfl (decide_eq_false cc1)) rfl ?_
    refine xaj (xaq rfl) (fun h_ H_=>xdw rfl (decide_eq_false cc1) (v:=.bool (false)) rfl) rfl ?_
    refine xaj (xaq rfl) (fun h_ H_=>xax (v:=.bool (false)) rfl) (tm':=_::_::_::_) rfl ?_
    refine xav ?_
    refine xck Tryz.func67 rfl (vs:=[.bool (false)]) (fun h_ H_=>⟨.bool (false),_,rfl,rfl,rfl⟩) (v:=.bool (false)) rfl ?_
    exact fun h_ H_=>K _ _ ⟨by simp [*],H_.kept⟩
theorem c69 (md:Md) (h:Heap) (l:By) (hl:l.length≤4096):CallsX Tryz.prog md 69 #[sv l] h fun v h'=>v= .int .i64 ((total l % 9973:Nat):Int)∧Keep h h':=by
  refine xbk (Φ:=fun h_=>St h [] (fun _=>none) h_ []) Tryz.func69 rfl (tm:=[_,_,_,_,_,_,_,_,_,_,_,_,_,_,_,_,_,_,_,_,_,_]) rfl ?_ (St.start h _ (fun _ _ e=>by cases e))
  intro c₀ cs Stop K
  refine xaw ?_
  refine xak ?_
  refine xaj (xaq rfl) (fun h_ H_=>xax (v:=.int .i64 0) rfl) rfl ?_
  refine xav ?_
  refine xaw ?_
  refine xak ?_
  refine xaj (xaq rfl) (fun h_ H_=>xax (v:=.int .i64 0) rfl) rfl ?_
  refine xav ?_
  refine xaw ?_
  refine xaw ?_
  refine xak ?_
  refine xaj (xaq rfl) (fun h_ H_=>xaz (v:=sv l) rfl) (tm':=_::_::_::_::_::_::_) rfl ?_
  refine xaj (xaq rfl) (fun h_ H_=>xjx (l:=l) Tryz.underlying9 rfl) rfl ?_
  refine xaj (xaq rfl) (fun h_ H_=>xaz (v:=.int .i64 0) rfl) rfl ?_
  refine xav ?_
  refine xcw ?_
  refine xhw (m₀:=l.length-0) (fun m_ tm_ h_=>∃ (k:Nat),m_=l.length-k∧(∃ y1:Nat→Value,tm_=[sv l,undef,.int .i64 0,.int .i64 (((wsumTo l k:Nat):Int)),(y1 4),sv l,.int .i64 (((l.length:Nat):Int)),.int .i64 (((k:Nat):Int)),(y1 8),(y1 9),(y1 10),(y1 11),(y1 12),(y1 13),(y1 14),(y1 15),(y1 16),(y1 17),(y1 18),(y1 19),undef,undef])∧(k≤l.length)∧St h [] (fun _=>none) h_ ([])) (fun h_ H_=>⟨0,rfl,(y_of rfl),Nat.zero_le _,H_⟩) ?_
  intro m_ tm_ IH2
  refine xhv fun k=>xcq fun hm_=>xcq fun ht_=>xcq fun hk=>?_
  subst hm_;obtain ⟨y1,ht_⟩:=ht_;subst ht_
  have hb:=ycw (l.getD k 0)
  have hs:=yrk l (k:=k) (by omega)
  have ht:k<l.length→(l.getD k 0).toNat*(k+1)≤1044480:=fun z=>zkq l (by omega)
  refine xaw ?_
  refine xak ?_
  refine xaj (xaq rfl) (fun h_ H_=>xgz rfl rfl) (tm':=_::_::_::_::_::_::_::_::_::_) rfl ?_
  refine xav ?_
  refine xaw ?_
  by_cases cc3:((k:Nat):Int)<((l.length:Nat):Int)
  · refine xbv rfl (decide_eq_true cc3) ?_
    refine xcj ?_
    refine xaw ?_
    refine xcw ?_
    refine xaw ?_
    refine xak ?_
    refine xaj (xaq rfl) (fun h_ H_=>xaz (v:=.int .i64 (((k:Nat):Int))) rfl) rfl ?_
    refine xaj (xaq rfl) (fun h_ H_=>xax (v:=.int .i64 (((k:Nat):Int))) rfl) rfl ?_
    refine xav ?_
    refine xak ?_
    refine xaj (xaq rfl) (fun h_ H_=>xaz (v:=.int .i64 (((wsumTo l k:Nat):Int))) rfl) (tm':=_::_::_::_::_::_::_::_::_::_::_::_) rfl ?_
    refine xaj (xaq rfl) (fun h_ H_=>xaz (v:=sv l) rfl) rfl ?_
    refine xaj (xaq rfl) (fun h_ H_=>xaz (v:=.int .i64 (((k:Nat):Int))) rfl) rfl ?_
    refine xaj (xaq rfl) (fun h_ H_=>xlv (l:=l) (i:=k) Tryz.underlying9 rfl rfl (by omega)) (tm':=_::_::_::_::_::_::_::_::_::_::_::_::_::_::_) rfl ?_
    refine xaj (xaq rfl) (fun h_ H_=>xmq ⟨_,Tryz.underlying5⟩ Tryz.underlying3 rfl (n:=(((l.getD k 0).toNat:Nat):Int)) (wrB _)) rfl ?_
    refine xaj (xaq rfl) (fun h_ H_=>xaz (v:=.int .i64 (((k:Nat):Int))) rfl) rfl ?_
    refine xaj (xaq rfl) (fun h_ H_=>xfj rfl rfl (n:=((k+1:Nat):Int)) (wr (by omega))) (tm':=[_,_,_,_,_,_,_,_,_,_,_,_,_,_,_,_,_,_,_,_,_,_]) rfl ?_
    refine xaj (xaq rfl) (fun h_ H_=>ycx rfl rfl (wr (by omega))) rfl ?_
    refine xaj (xaq rfl) (fun h_ H_=>xfj rfl rfl (wr (by omega))) rfl ?_
    refine xaj (xaq rfl) (fun h_ H_=>xax (v:=.int .i64 (((wsumTo l k:Nat):Int)+((((l.getD k 0).toNat:Nat):Int)*((k+1:Nat):Int)))) rfl) (tm':=_::_::_::_::_) rfl ?_
    refine xav ?_
    refine xdq ?_
    refine xak ?_
    refine xaj (xaq rfl) (fun h_ H_=>xfj rfl rfl (n:=((k+1:Nat):Int)) (wr (by omega))) rfl ?_
    refine xaj (xaq rfl) (fun h_ H_=>xaz (v:=.int .i64 (((k+1:Nat):Int))) rfl) rfl ?_
    refine xav ?_
    exact fun h_ H_=>IH2 _ _ (by omega) h_ ⟨k+1,rfl,(y_of rfl),(by omega),H_⟩
  · refine xcx rfl (decide_eq_false cc3) ?_
    refine xhz rfl ?_
    refine xaw ?_
    refine xak ?_
    refine xaj (xaq rfl) (fun h_ H_=>xaz (v:=.int .i64 (((wsumTo l k:Nat):Int))) rfl) (tm':=[_,_,_,_,_,_,_,_,_,_,_,_,_,_,_,_,_,_,_,_,_,_]) rfl ?_
    refine xaj (xaq rfl) (fun h_ H_=>yzv rfl rfl (by decide) (n:=((wsumTo l k:Nat):Int) % 9973) (Int.tmod_eq_emod_of_nonneg (by omega))) rfl ?_
    refine xaj (xaq rfl) (fun h_ H_=>xax (v:=.int .i64 (((wsumTo l k:Nat):Int) % 9973)) rfl) rfl ?_
    refine xav ?_
    refine xck Tryz.func69 rfl (vs:=[.int .i64 (((wsumTo l k:Nat):Int) % 9973)]) (fun h_ H_=>⟨.int .i64 (((wsumTo l k:Nat):Int) % 9973),_,rfl,rfl,rfl⟩) (v:=.int .i64 (((wsumTo l k:Nat):Int) % 9973)) rfl ?_
    exact fun h_ H_=>K _ _ ⟨(by cases (show k=l.length from (by omega));rfl),H_.kept⟩
end Go.Proofs.YtphalmjpbnffcaaGreatDoor
namespace Go.Proofs.YtphalmjpbnffcaaGreatDoor
open Go.X Go.X.Cent Go.Conc
set_option maxRecDepth 10000

end Go.Proofs.YtphalmjpbnffcaaGreatDoor
namespace Go.X
open Go.Conc
section
variable {P:Program} {md:Md} {ops:List Oper} {tm:List Value} {h₀:Heap} {B₀:List Nat} {p:PHeap} {A:Pcs} {ty:TypeId} {pos:String} {aft:Array Edge} {gd:Option (Nat × Bool)}
end
end Go.X
namespace Go.X
open Go.Conc

def Qr (anc:Nat→List Nat) (Q:Nat→(Nat→Value)→(Nat→Pcs)→Value→Pcs→Prop) (val:Nat→Value) (piece:Nat→Pcs) (i:Nat):Value→Pcs→Prop:=
  Q i (fun j=>if (anc i).contains j=true then val j else undef) (fun j=>if (anc i).contains j=true then piece j else [])
theorem wax {anc:Nat→List Nat} {Q:Nat→(Nat→Value)→(Nat→Pcs)→Value→Pcs→Prop} {val val':Nat→Value} {piece piece':Nat→Pcs} {i:Nat} (h: ∀ y,(anc i).contains y=true→val y=val' y∧piece y=piece' y):
    Qr anc Q val piece i=Qr anc Q val' piece' i:=by
  unfold Qr
  have e1:(fun j=>if (anc i).contains j=true then val j else undef)=(fun j=>if (anc i).contains j=true then val' j else undef):=by
    funext j;split
    · rename_i hj;exact (h j hj).1
    · rfl
  have e2:(fun j=>if (anc i).contains j=true then piece j else [])=(fun j=>if (anc i).contains j=true then piece' j else []):=by
    funext j;split
    · rename_i hj;exact (h j hj).2
    · rfl
  rw [e1,e2]
def ancok (ops:List Oper) (m:Nat) (cl:List (List Nat)) (anc:Nat→List Nat):Bool:=
  ops.zipIdx.all fun (o,i)=>!decide (i<m) || (anc i).all fun j=>behind cl o j
theorem zfk {ops:List Oper} {m:Nat} {cl:List (List Nat)} {anc:Nat→List Nat} (h:ancok ops m cl anc=true) {i j:Nat} {o:Oper} (hi:i<m) (ho:ops[i]?=some o) (hj:(anc i).contains j=true):behind cl o j=true:=by
  unfold ancok at h
  rw [List.all_eq_true] at h
  have:=h (o,i) (by rw [List.mem_zipIdx_iff_getElem?];exact ho)
  simp only [hi,decide_true,Bool.not_true,Bool.false_or,List.all_eq_true] at this
  exact this j (by simpa using hj)
theorem ztj {ops:List Oper} {m:Nat} {cl:List (List Nat)} (hs:stable ops m cl=true) {i j:Nat} {o:Oper} (ho:ops[i]?=some o) (h:behind cl o j=true):j<i:=by
  rcases (ydq).1 h with h | ⟨k,hk,h⟩
  · exact (xgv hs ho).1 j h
  · have h1:=(xgv hs ho).1 k hk
    obtain ⟨ok,hok⟩: ∃ ok,ops[k]?=some ok:=⟨_,List.getElem?_eq_getElem (Nat.lt_trans h1 (List.getElem?_eq_some_iff.1 ho).1)⟩
    exact Nat.lt_trans (ysw hs hok h).1 h1

def OpMix2 (P:Program) (md:Md) (ops:List Oper) (tmF:(Nat→Value)→List Value) (h₀:Heap) (B₀:List Nat) (p:PHeap) (A:Pcs) (ini:List Nat) (X:Nat→Pcs) (use:Nat→List Nat) (anc:Nat→List Nat) (Q:Nat→(Nat→Value)→(Nat→Pcs)→Value→Pcs→Prop) (i:Nat) (o:Oper):Prop:=
  ∀ val piece,(∀ j,(anc i).contains j=true→Qr anc Q val piece j (val j) (piece j))→(∀ j∈ini,piece j=X j)→
    (Met ops (tmF val) o true∧ ∀ C h,St h₀ B₀ p h ((use i).flatMap piece++(A++C))→
      Exv P (tmF val) o h (fun v h'=>∃ x,Qr anc Q val piece i v x∧St h₀ B₀ p h' (x++(A++C)))∨
      (∃ g args,(wpS P (execOp (evl (tmF val)) o) h fun n h'=>n= .enter g args∧h'=h)∧CallsX P md g args h (fun v h'=>∃ x,Qr anc Q val piece i v x∧St h₀ B₀ p h' (x++(A++C)))))∨
    (Met ops (tmF val) o false∧(use i).flatMap piece=[]∧Qr anc Q val piece i undef [])

section
variable {P:Program} {md:Md} {ops:List Oper} {m:Nat} {f:FuncId} {r:Rd} {df:List Deferred} {k:List Item} {cs:List Frame} {Stop:Goroutine→Heap→Prop} {tm:List Value}
  {h₀:Heap} {B₀:List Nat} {p:PHeap} {A C:Pcs} {ini:List Nat} {X:Nat→Pcs} {use:Nat→List Nat} {anc:Nat→List Nat} {Q:Nat→(Nat→Value)→(Nat→Pcs)→Value→Pcs→Prop} {tmF:(Nat→Value)→List Value}

theorem yaj {rid:Nat} (m:Nat) (cl:List (List Nat)) (ini fin emp:List Nat) (X:Nat→Pcs) (use:Nat→List Nat) (anc:Nat→List Nat) (Q:Nat→(Nat→Value)→(Nat→Pcs)→Value→Pcs→Prop) (tmF:(Nat→Value)→List Value)
    (hmix:P.follows .mixedOrders=true) (hst:stable ops m cl=true) (hm:m≤ops.length) (hk:mixok ops m ini use (fin++emp)=true) (hemp:emp.all (fun j=>decide (j<m))=true) (hanc:ancok ops m cl anc=true) (hemp2: ∀ val piece,Emp (Qr anc Q val piece) emp) (htm: ∀ val,fills ops val m tm=tmF val)
    (hdl:(ops.all fun o=>match o.dst with | some d=>decide (d<tm.length) | none=>true)=true)
    (st:Mixes (OpMix2 P md ops tmF h₀ B₀ p A ini X use anc Q) 0 (ops.take m))
    (n: ∀ val piece,(∀ j<m,Qr anc Q val piece j (val j) (piece j))→(∀ j∈ini,piece j=X j)→RL P md f r df k cs Stop ops (ops.drop m) (tmF val) (fun h=>St h₀ B₀ p h (fin.flatMap piece++(A++C)))):
    RS P md (G (FL f r tm df (.code (.region rid ops.toArray true)::k)) cs) (fun h=>St h₀ B₀ p h (ini.flatMap X++(A++C))) Stop:=by
  refine yoq fun t=>?_
  unfold Region.schedule
  rw [hmix]
  simp only [Bool.true_or,if_true]
  obtain ⟨s,e,hord⟩:=yiz hst hm t
  rw [e]
  obtain ⟨k1,k2,k3,k4,k5,k6⟩:=zxk hk
  have hops: ∀ {i:Nat} {o:Oper},i<m→ops[i]?=some o→noDefer o.op=true∧OpMix2 P md ops tmF h₀ B₀ p A ini X use anc Q i o:=fun {i o} hi ho=>by
    have:=Mixes.at (i:=i) st (by rw [List.getElem?_take,if_pos hi];exact ho)
    rw [Nat.zero_add] at this;exact this
  have hdist: ∀ (i j:Nat) (o o':Oper) (d:Nat),i<m→j<m→ops[i]?=some o→ops[j]?=some o'→o.dst=some d→o'.dst=some d→i=j:=fun i j o o' d hi hj ho ho' hd hd'=>
    (((xgv hst ho).2.2 hi).2 j o' d hj ho' hd').1.resolve_right fun hne=>hne hd
  have hdlt: ∀ {i:Nat} {o:Oper} {d:Nat},ops[i]?=some o→o.dst=some d→d<tm.length:=fun {i o d} ho hd=>by
    have:=List.all_eq_true.1 hdl o (List.mem_of_getElem? ho)
    simpa [hd] using this
  have main: ∀ (s:List Nat) (l:Array Bool) (tmc:List Value) (val:Nat→Value) (piece:Nat→Pcs) (ls:List Nat),Ord ops m l s→l.size=ops.length→tmc.length=tm.length→
      (∀ x,(∃ (j:Nat) (o:Oper),j<m∧l.getD j false=true∧ops[j]?=some o∧o.dst=some x)→tmc[x]?=(tmF val)[x]?)→
      (∀ x,(∀ (j:Nat) (o:Oper),j<m→l.getD j false=true→ops[j]?=some o→o.dst≠some x)→tmc[x]?=tm[x]?)→
      (∀ j<m,l.getD j false=true→Qr anc Q val piece j (val j) (piece j))→(∀ j∈ini,piece j=X j)→ls.Nodup→
      (∀ x,x∈ls↔(x∈ini∨(x<m∧l.getD x false=true))∧ ∀ k<m,l.getD k false=true→x ∉ use k)→
      (∀ k<m,l.getD k false=true→ ∀ x∈use k,x∈ini∨(x<m∧l.getD x false=true))→
      (∀ (k:Nat) (o:Oper),l.getD k false=true→ops[k]?=some o→ ∀ x∈preds o,l.getD x false=true)→
      RS P md (G (FL f r tmc df (.inRegion ops.toArray (s++List.range' m (ops.length-m))::k)) cs) (fun h=>St h₀ B₀ p h (ls.flatMap piece++(A++C))) Stop:=by
    intro s
    induction s with
    | nil=>
      intro l tmc val piece ls hord _ hl h1 h2 hQ hX hnd hls _ _
      cases hord with
      | nil hall=>
      have:tmc=tmF val:=by
        refine List.ext_getElem? fun x=>?_
        by_cases hx: ∃ (j:Nat) (o:Oper),j<m∧ops[j]?=some o∧o.dst=some x
        · obtain ⟨j,o,hj,ho,hd⟩:=hx
          exact h1 x ⟨j,o,hj,hall j hj,ho,hd⟩
        · rw [h2 x fun j o hj _ ho hd=>hx ⟨j,o,hj,ho,hd⟩,← htm,yjj]
          exact fun j o hj ho hd=>hx ⟨j,o,hj,ho,hd⟩
      subst this
      rw [List.nil_append]
      have hp:ls.Perm (fin++emp):=by
        refine (List.perm_ext_iff_of_nodup hnd k3).2 fun x=>?_
        rw [hls]
        constructor
        · rintro ⟨hx,hu⟩
          rcases k6 x (hx.elim .inr fun y=>.inl y.1) with y | ⟨k,hk,y⟩
          · exact y
          · exact absurd y (hu k hk (hall k hk))
        · intro hx
          obtain ⟨y,z⟩:=k5 x hx
          exact ⟨y.imp id fun y=>⟨y,hall x y⟩,fun k hk _=>z k hk⟩
      have:=n val piece (fun j hj=>hQ j hj (hall j hj)) hX (ops.take m) (List.take_append_drop m ops).symm
      rw [List.length_take,Nat.min_eq_left hm,List.length_drop] at this
      have he:emp.flatMap piece=[]:=(hemp2 val piece).flat fun j hj=>hQ j (by simpa using List.all_eq_true.1 hemp j hj) (hall j (by simpa using List.all_eq_true.1 hemp j hj))
      exact fun h y=>this h (y.perm (by
        have:=(hp.flatMap_right piece).append_right (A++C)
        rwa [List.flatMap_append,he,List.append_nil] at this))
    | cons i s ih=>
      intro l tmc val piece ls hord hsz hl h1 h2 hQ hX hnd hls hcl hpc
      cases hord with
      | @cons _ _ _ o hi ho hn hp hs=>
      have hil:=(List.getElem?_eq_some_iff.1 ho).1
      have hni:l.getD i false=false:=by rw [← xyk (by omega)];exact hn
      have hlooks:=((xgv hst ho).2.2 hi)
      have hag: ∀ x∈looks ops o,tmc[x]?=(tmF val)[x]?:=by
        intro x hx
        by_cases hw: ∃ (j:Nat) (o':Oper),j<m∧ops[j]?=some o'∧o'.dst=some x
        · obtain ⟨j,o',hj,ho',hd⟩:=hw
          have hpj:=(hlooks.2 j o' x hj ho' hd).2 hx
          exact h1 x ⟨j,o',hj,hp j hpj,ho',hd⟩
        · rw [h2 x fun j o' hj _ ho' hd=>hw ⟨j,o',hj,ho',hd⟩,← htm,yjj]
          exact fun j o hj ho hd=>hw ⟨j,o,hj,ho,hd⟩
      have hset: ∀ j,i≠j→(l.setIfInBounds i true).getD j false=l.getD j false:=fun j e=>getD_set_ne false e
      have hself:(l.setIfInBounds i true).getD i false=true:=by simp [Array.getD,hsz,hil]
      obtain ⟨u1,u2⟩:=k4 i o hi ho
      have husein: ∀ x∈use i,x∈ls:=fun x hx=>by
        rw [hls]
        obtain ⟨a,b⟩:=u2 x hx
        refine ⟨a.imp id fun a=>⟨a.1,hp x a.2⟩,fun k hk hd hxk=>?_⟩
        by_cases e:k=i
        · subst e;rw [hni] at hd;cases hd
        · exact b k hk e hxk
      obtain ⟨rest,hperm⟩:=zcq u1 husein
      have hnd2:=hperm.nodup_iff.1 hnd
      have hrest: ∀ x,x∈rest↔x∈ls∧x ∉ use i:=fun x=>by
        rw [hperm.mem_iff,List.mem_append]
        constructor
        · intro hx
          exact ⟨.inr hx,fun hu=>(List.nodup_append.1 hnd2).2.2 x hu x hx rfl⟩
        · rintro ⟨a | a,b⟩
          · exact absurd a b
          · exact a
      have hiini:i ∉ ini:=fun e=>by have:=k2 i e;omega
      have hils:i ∉ ls:=fun e=>by
        have:=((hls i).1 e).1
        rcases this with a | a
        · exact hiini a
        · rw [hni] at a;cases a.2
      have hanl: ∀ (j:Nat) (oj:Oper),j<m→ops[j]?=some oj→(j=i∨l.getD j false=true)→ ∀ y,(anc j).contains y=true→l.getD y false=true:=fun j oj hj hoj hjl y hy=>by
        have hb:=zfk hanc hj hoj hy
        refine xoq hst hsz hpc j oj y (fun x hx=>⟨(xgv hst hoj).1 x hx,?_⟩) hb
        rcases hjl with rfl | hjl
        · rw [ho] at hoj;cases hoj;exact hp x hx
        · exact hpc j oj hjl hoj x hx
      have next: ∀ v x,Qr anc Q val piece i v x→RS P md (G (FL f r (putl tmc o.dst v) df (.inRegion ops.toArray (s++List.range' m (ops.length-m))::k)) cs) (fun h=>St h₀ B₀ p h (x++(A++(rest.flatMap piece++C)))) Stop:=by
        intro v x hq
        have hv: ∀ j,i≠j→(fun j=>if j=i then v else val j) j=val j:=fun j e=>if_neg fun e'=>e e'.symm
        have hx': ∀ j,i≠j→(fun j=>if j=i then x else piece j) j=piece j:=fun j e=>if_neg fun e'=>e e'.symm
        have:=ih (l.setIfInBounds i true) (putl tmc o.dst v) (fun j=>if j=i then v else val j) (fun j=>if j=i then x else piece j) (i::rest) hs (by simpa using hsz) (by rw [xlz];exact hl)
          (fun y hy=>by
            obtain ⟨j,o',hj,hlj,ho',hd⟩:=hy
            rw [← htm,ypj hj ho' hd (fun j' o'' hj' ho'' hd'=>hdist j' j o'' o' y hj' hj ho'' ho' hd' hd) (hdlt ho' hd)]
            by_cases e:i=j
            · subst e
              rw [ho] at ho';cases ho'
              rw [hd]
              simp only [putl,if_true]
              rw [List.getElem?_set_self (by rw [hl];exact hdlt ho hd)]
            · have hne:o.dst≠some y:=fun hd'=>e (hdist i j o o' y hi hj ho ho' hd' hd)
              rw [hset j e] at hlj
              rw [xpj hne,h1 y ⟨j,o',hj,hlj,ho',hd⟩,← htm,ypj hj ho' hd (fun j' o'' hj' ho'' hd'=>hdist j' j o'' o' y hj' hj ho'' ho' hd' hd) (hdlt ho' hd)]
              rw [if_neg fun e'=>e e'.symm])
          (fun y hy=>by
            have hne:o.dst≠some y:=hy i o hi hself ho
            rw [xpj hne]
            refine h2 y fun j o' hj hlj ho'=>hy j o' hj ?_ ho'
            by_cases e:i=j
            · subst e;exact hself
            · rw [hset j e];exact hlj)
          (fun j hj hlj=>by
            obtain ⟨oj,hoj⟩: ∃ oj,ops[j]?=some oj:=⟨_,List.getElem?_eq_getElem (Nat.lt_of_lt_of_le hj hm)⟩
            have hjl:j=i∨l.getD j false=true:=by
              by_cases e:i=j
              · exact .inl e.symm
              · rw [hset j e] at hlj;exact .inr hlj
            have hne: ∀ y,(anc j).contains y=true→i≠y:=fun y hy e=>by
              have:=hanl j oj hj hoj hjl y hy
              subst e;rw [hni] at this;cases this
            have hr:=wax (Q:=Q) (anc:=anc) (i:=j) (val:=val) (piece:=piece) (val':=fun j=>if j=i then v else val j) (piece':=fun j=>if j=i then x else piece j) fun y hy=>⟨(hv y (hne y hy)).symm,(hx' y (hne y hy)).symm⟩
            by_cases e:i=j
            · subst e;simp only [if_true];rw [← hr];exact hq
            · rw [hset j e] at hlj
              have:=hQ j hj hlj;rw [← hr,if_neg (fun e'=>e e'.symm),if_neg (fun e'=>e e'.symm)];exact this)
          (fun j hj=>(hx' j (fun e=>by subst e;exact hiini hj)).trans (hX j hj))
          (List.nodup_cons.2 ⟨fun e=>hils ((hrest i).1 e).1,(List.nodup_append.1 hnd2).2.1⟩)
          (fun y=>by
            rw [List.mem_cons,hrest,hls]
            constructor
            · rintro (rfl | ⟨⟨a,b⟩,c⟩)
              · refine ⟨.inr ⟨hi,hself⟩,fun k' hk' hd hy=>?_⟩
                by_cases e:y=k'
                · subst e
                  rcases (u2 y hy).1 with a | a
                  · exact hiini a
                  · exact absurd ((xgv hst ho).1 y a.2) (Nat.lt_irrefl _)
                · rw [hset k' e] at hd
                  rcases hcl k' hk' hd y hy with a | a
                  · exact hiini a
                  · rw [hni] at a;cases a.2
              · refine ⟨a.imp id fun a=>⟨a.1,?_⟩,fun k' hk' hd=>?_⟩
                · by_cases e:i=y
                  · subst e;exact hself
                  · rw [hset y e];exact a.2
                · by_cases e:i=k'
                  · subst e;exact c
                  · rw [hset k' e] at hd;exact b k' hk' hd
            · rintro ⟨a,b⟩
              by_cases e:y=i
              · exact .inl e
              · refine .inr ⟨⟨a.imp id fun a=>⟨a.1,?_⟩,fun k' hk' hd=>b k' hk' ?_⟩,b i hi hself⟩
                · have:=a.2;rw [hset y (fun e'=>e e'.symm)] at this;exact this
                · by_cases e':i=k'
                  · subst e';exact hself
                  · rw [hset k' e'];exact hd)
          (fun k' hk' hd y hy=>by
            by_cases e:i=k'
            · subst e
              obtain ⟨a,_⟩:=u2 y hy
              refine a.imp id fun a=>⟨a.1,?_⟩
              by_cases e':i=y
              · subst e';exact hself
              · rw [hset y e'];exact hp y a.2
            · rw [hset k' e] at hd
              refine (hcl k' hk' hd y hy).imp id fun a=>⟨a.1,?_⟩
              by_cases e':i=y
              · subst e';exact hself
              · rw [hset y e'];exact a.2)
          (fun k' o' hd ho' y hy=>by
            have hy2:l.getD y false=true:=by
              by_cases e:i=k'
              · subst e;rw [ho] at ho';cases ho';exact hp y hy
              · rw [hset k' e] at hd;exact hpc k' o' hd ho' y hy
            by_cases e':i=y
            · subst e';exact hself
            · rw [hset y e'];exact hy2)
        have hfm:rest.flatMap (fun j=>if j=i then x else piece j)=rest.flatMap piece:=by
          have hni':i ∉ rest:=fun e=>hils ((hrest i).1 e).1
          clear this hperm hnd2 hrest
          induction rest with
          | nil=>rfl
          | cons a r ih'=>
            simp only [List.flatMap_cons]
            rw [ih' (fun e=>hni' (by simp [e])),if_neg (fun e=>hni' (by simp [e]))]
        intro h y
        refine this h ?_
        rw [List.flatMap_cons,hfm]
        simp only [if_true]
        refine y.perm ?_
        rw [List.append_assoc]
        refine List.Perm.append_left x ?_
        rw [← List.append_assoc,← List.append_assoc]
        exact List.Perm.append_right C List.perm_append_comm
      have hmixi:=hops hi ho
      have ho2:ops.toArray[i]?=some o:=by simpa using ho
      have hpre: ∀ h,St h₀ B₀ p h (ls.flatMap piece++(A++C))→St h₀ B₀ p h ((use i).flatMap piece++(A++(rest.flatMap piece++C))):=fun h y=>by
        refine y.perm ?_
        refine ((hperm.flatMap_right piece).append_right _).trans ?_
        rw [List.flatMap_append,List.append_assoc]
        refine List.Perm.append_left _ ?_
        rw [← List.append_assoc,← List.append_assoc]
        exact List.Perm.append_right C List.perm_append_comm
      have hnd:=hmixi.1
      rcases hmixi.2 val piece (fun j hj=>by
          have hlj:=hanl i o hi ho (.inl rfl) j hj
          exact hQ j (Nat.lt_trans (ztj hst ho (zfk hanc hi ho hj)) hi) hlj) hX with ⟨hmet,hop⟩ | ⟨hmet,hu,hq⟩
      · have hmet':=yij hag hmet
        refine ytz ho2 (xgk hmet') xxz (.inr (by revert hnd;cases o.op <;> simp [noDefer])) fun h hb=>?_
        rw [xkx,yqq (ops:=ops) hlooks.1 hag]
        rcases hop _ h (hpre h hb) with hx | ⟨g,args,hx,hc⟩
        · refine xhk hx fun n' h' ⟨v',e',x,hq,hb'⟩=>?_
          rcases e' with rfl | ⟨rfl,rfl⟩
          · show Reach P md (G ((F (B f r) tmc.toArray df _).finish v') cs) h' Stop
            rw [xev ho2,xfx]
            exact next v' x hq h' hb'
          · show Reach P md (G ((F (B f r) tmc.toArray df _).finish undef) cs) h' Stop
            rw [xev ho2,xfx]
            exact next undef x hq h' hb'
        · refine xhk hx fun n' h' ⟨e',e2⟩=>?_
          subst e';subst e2
          refine hc _ _ _ fun v' h' ⟨x,hq,hb'⟩=>?_
          rw [xev ho2,xfx]
          exact next v' x hq h' hb'
      · refine ynw ho2 (xgk (yij hag hmet)) ?_
        rw [xfx]
        intro h hb
        have:=next undef [] hq h
        refine this ?_
        have:=hpre h hb
        rw [hu] at this
        simpa using this
  intro h y
  refine main s _ tm (fun _=>undef) X ini hord (by simp) rfl (fun x hx=>by obtain ⟨j,o,hj,hl,_⟩:=hx;simp [Array.getD] at hl) (fun _ _=>rfl) (fun j _ hl=>by simp [Array.getD] at hl) (fun _ _=>rfl) k1
    (fun x=>⟨fun hx=>⟨.inl hx,fun k _ hl=>by simp [Array.getD] at hl⟩,fun hx=>hx.1.elim id fun a=>by simp [Array.getD] at a⟩) (fun k _ hl=>by simp [Array.getD] at hl) (fun k _ hl=>by simp [Array.getD] at hl) h y

theorem xij {i:Nat} {o:Oper} (x: ∀ val piece,(∀ j,(anc i).contains j=true→Qr anc Q val piece j (val j) (piece j))→(∀ j∈ini,piece j=X j)→
    ∃ tm' U q,tmF val=tm'∧(use i).flatMap piece=U∧(∀ v x,q v x→Qr anc Q val piece i v x)∧Mix P md ops tm' h₀ B₀ p A U q o):OpMix2 P md ops tmF h₀ B₀ p A ini X use anc Q i o:=fun val piece hQ hX=>by
  obtain ⟨tm',U,q,e1,e2,e3,h⟩:=x val piece hQ hX
  rw [e1,e2]
  rcases h with ⟨h1,h2⟩ | ⟨h1,h2,h3⟩
  · refine .inl ⟨h1,fun C h s=>?_⟩
    rcases h2 C h s with y | ⟨g,args,y,z⟩
    · exact .inl (xhk y fun n h' ⟨v,a,x,b,c⟩=>⟨v,a,x,e3 v x b,c⟩)
    · exact .inr ⟨g,args,y,z.mono fun v h' ⟨x,b,c⟩=>⟨x,e3 v x b,c⟩⟩
  · exact .inr ⟨h1,h2,e3 _ _ h3⟩
theorem zow {dd:Nat} {T:TypeId} {z:Value} {cells:Array Value} {ty:TypeId} {pos:String} {aft:Array Edge} {gd:Option (Nat × Bool)} {tm':List Value} {q:Value→Pcs→Prop} (hm:Met ops tm' ⟨some dd,.alloc T,ty,pos,aft,gd⟩ true) (hz:zeroT P T=some z) (hc:z.cells=cells)
    (hq: ∀ b,q (.pointer (some ⟨b,0,none⟩)) [(b,.cells cells T (0,0))]):Mix P md ops tm' h₀ B₀ p A [] q ⟨some dd,.alloc T,ty,pos,aft,gd⟩:=
  wbj hm fun C h s=>by
    unfold Ex
    simp only [execOp]
    refine xbq ?_
    unfold Instr.alloc
    refine xbq (xkj hz ?_)
    simp only
    unfold newVar
    rw [hc]
    refine xbq (xnx ?_)
    refine xbx ?_
    exact xbx ⟨_,rfl,_,hq _,s.push _⟩
end
theorem sk1 {α β γ1:Type} [Nonempty γ1] (R:α→β→γ1→Prop): ∃ (G1:α→β→γ1),∀ a b,(∃ c1,R a b c1)→R a b (G1 a b):=by
  have key: ∀ ab:α × β,∃ y:γ1,(∃ c1,R ab.1 ab.2 c1)→R ab.1 ab.2 (y):=fun ab=>by
    by_cases h: ∃ c1,R ab.1 ab.2 c1
    · obtain ⟨c1,h⟩:=h
      exact ⟨c1,fun _=>h⟩
    · exact ⟨Classical.choice inferInstance,fun x=>absurd x h⟩
  obtain ⟨G,hG⟩:=Classical.axiomOfChoice key
  exact ⟨fun a b=>(G (a,b)),fun a b h=>hG (a,b) h⟩
theorem sk2 {α β γ1 γ2:Type} [Nonempty γ1] [Nonempty γ2] (R:α→β→γ1→γ2→Prop): ∃ (G1:α→β→γ1) (G2:α→β→γ2),∀ a b,(∃ c1 c2,R a b c1 c2)→R a b (G1 a b) (G2 a b):=by
  have key: ∀ ab:α × β,∃ y:γ1 × γ2,(∃ c1 c2,R ab.1 ab.2 c1 c2)→R ab.1 ab.2 (y.1) (y.2):=fun ab=>by
    by_cases h: ∃ c1 c2,R ab.1 ab.2 c1 c2
    · obtain ⟨c1,c2,h⟩:=h
      exact ⟨(c1,c2),fun _=>h⟩
    · exact ⟨(Classical.choice inferInstance,Classical.choice inferInstance),fun x=>absurd x h⟩
  obtain ⟨G,hG⟩:=Classical.axiomOfChoice key
  exact ⟨fun a b=>(G (a,b)).1,fun a b=>(G (a,b)).2,fun a b h=>hG (a,b) h⟩
end Go.X
namespace Go.X
open Go.Conc

section
variable {P:Program} {md:Md} {f:FuncId} {r:Rd} {df:List Deferred} {k:List Item} {cs:List Frame} {Stop:Goroutine→Heap→Prop} {ops rest:List Oper} {tm:List Value}
  {h₀:Heap} {B₀:List Nat} {p:PHeap} {A X C:Pcs} {T:TypeId} {w:Nat} {v:Value} {es:List (List Value)} {d:Option Tmp} {ty:TypeId} {pos:String} {aft:Array Edge} {gd:Option (Nat × Bool)} {h:Heap}
theorem yjv {t e:TypeId} {x y:Operand} {i:Int} (o:OwnS T w v es X) (ht:P.underlying t=some (.slice e)) (hs:sizeT P e=some w) (hx:evl tm x=v) (hy:evl tm y= .int .i64 i) (h0:0≤i) (hi:i.toNat<es.length):
    Exd P tm ⟨d,.indexAddr t x y,ty,pos,aft,gd⟩ h (.pointer (some ((adrV v).add (i.toNat*w)))):=
  xwx (i:=i.toNat) o ht hs hx (by rw [hy,Int.toNat_of_nonneg h0]) hi
end
end Go.X
namespace Go.X
open Go.Conc

section
variable {T:TypeId} {w:Nat} {v:Value} {es:List (List Value)} {X:Pcs} {p p':PHeap}
theorem OwnS.inP (o:OwnS T w v es X) (hp: ∀ x∈X,p x.1=some x.2): ∃ a cap,v= .slice a es.length cap∧Sl p a es.length w es:=by
  obtain ⟨hw,⟨rfl,rfl,rfl⟩ | ⟨b,cs,cap,rest,rfl,rfl,hcs,hlen,hcap⟩⟩:=o
  · exact ⟨none,0,rfl,.nil _ _ _⟩
  · refine ⟨some ⟨b,0,none⟩,cap,rfl,rfl,hw,fun _=>rfl,?_⟩
    intro i e hi j x hj
    show pcell _ (((⟨b,0,none⟩:Addr).add (i*w)).add j)=_
    rw [xkz,xkz]
    unfold pcell
    simp only [hp (b,.cells cs.toArray T (0,0)) (by simp),Option.isSome_none,Bool.false_eq_true,if_false,List.getElem?_toArray,Nat.zero_add]
    rw [hcs,List.getElem?_append_left]
    · exact xjk hw hi hj
    · exact (List.getElem?_eq_some_iff.1 (xjk hw hi hj)).1
theorem OwnS.lend {h₀ h:Heap} {B₀:List Nat} {L:Pcs} (o:OwnS T w v es X) (hn:0<es.length) (s:St h₀ B₀ p h (X++L)):
    ∃ a cap b ob,v= .slice a es.length cap∧X=[(b,ob)]∧Per (padd p b ob) h∧PLe p (padd p b ob)∧Sl (padd p b ob) a es.length w es:=by
  obtain ⟨b,cs,cap,rest,e1,e2,_,_⟩:=o.has hn
  have h1:(X++L)[0]?=some (b,.cells (List.toArray cs) T (0,0)):=by rw [e2];rfl
  obtain ⟨a,cap',e3,sl⟩:=o.inP (p:=padd p b (.cells (List.toArray cs) T (0,0))) (by rw [e2];intro x hx;rw [List.mem_singleton.1 hx];exact xvx)
  exact ⟨a,cap',b,_,e3,e2,s.perO h1,s.leO h1,sl⟩
end

def Refs (p:PHeap) (es:List (List Value)) (xss:List (List Int)):Prop:=es.length=xss.length∧ ∀ i,i<xss.length→ ∃ a c,es[i]?=some [.slice a (xss.getD i []).length c]∧Ints p a (xss.getD i []).length (xss.getD i [])
def Inn (p:PHeap) (es:List (List Value)) (xss:List (List Int)) (Z:Pcs):Prop:=∀ p',PLe p p'→(∀ x∈Z,p' x.1=some x.2)→Refs p' es xss
section
variable {p:PHeap} {es fs:List (List Value)} {xss yss:List (List Int)} {Z Y:Pcs}
theorem Inn.nil:Inn p [] [] []:=fun _ _ _=>⟨rfl,fun i hi=>absurd hi (by simp)⟩
theorem Inn.one {a:Option Addr} {n c:Nat} {xs:List Int} (D:Ints p a n xs):Inn p [[.slice a n c]] [xs] []:=fun p' le _=>by
  have hl:=D.len
  refine ⟨rfl,fun i hi=>?_⟩
  obtain rfl:i=0:=by simpa using hi
  exact ⟨a,c,by simp [hl],by simpa [hl] using D.mono le⟩
theorem Inn.lent {b:Nat} {o:Obj} (hle:PLe p (padd p b o)) (x:Inn (padd p b o) es xss Z):Inn p es xss (Z++[(b,o)]):=fun p' le hz=>by
  refine x p' (fun c q hc=>?_) fun y hy=>hz y (by simp [hy])
  unfold padd at hc
  split at hc
  · rename_i e;subst e;cases hc;exact hz (c,o) (by simp)
  · exact le c q hc
theorem Inn.as {Y:Pcs} (x:Inn p es xss Z) (e:xss=yss) (e2:Z=Y):Inn p es yss Y:=by subst e;subst e2;exact x

structure Tab1 (p:PHeap) (a:Option Addr) (k:Nat) (A:Nat→Option Addr) (C:Nat→Nat) (N:Nat→Nat) (xss:Nat→List Int):Prop where
  ne:0<k→a=some (adr a)
  cell: ∀ i,i<k→pcell p ((adr a).add (i*1))=some (.slice (A i) (N i) (C i))
  ints: ∀ i,i<k→Ints p (A i) (N i) (xss i)
theorem Tab1.mono {p':PHeap} {a:Option Addr} {k:Nat} {A:Nat→Option Addr} {C N:Nat→Nat} {xs:Nat→List Int} (h:PLe p p') (t:Tab1 p a k A C N xs):Tab1 p' a k A C N xs:=
  ⟨t.ne,fun i hi=>h.cell (t.cell i hi),fun i hi=>(t.ints i hi).mono h⟩
end
end Go.X
namespace Go.X
open Go.Conc
theorem yzx {Q:Prop} {T:TypeId} {w n:Nat} {v:Value} {es:List (List Value)} {X L:Pcs} {p:PHeap} {h₀ h:Heap} {B₀:List Nat} (o:OwnS T w v es X) (hn:es.length=n) (s:St h₀ B₀ p h L) (hX: ∀ x∈X,x∈L)
    (c: ∀ p' a cap,Per p' h→PLe p p'→v= .slice a n cap→Sl p' a n w es→Q):Q:=by
  subst hn
  rcases o.2 with ⟨_,_,e⟩ | ⟨b,cs,cap,rest,_,e,_⟩
  · obtain ⟨a,cap,e1,sl⟩:=o.inP (p:=p) (by rw [e];simp)
    exact c p a cap s.per (.refl p) e1 sl
  · obtain ⟨i,hi⟩:=List.mem_iff_getElem?.1 (hX (b,.cells (List.toArray cs) T (0,0)) (by rw [e];simp))
    obtain ⟨a,cap',e3,sl⟩:=o.inP (p:=padd p b (.cells (List.toArray cs) T (0,0))) (by rw [e];intro x hx;rw [List.mem_singleton.1 hx];exact xvx)
    exact c _ a cap' (s.perO hi) (s.leO hi) e3 sl
end Go.X
namespace Go.X.Cent
open Go.X

def each:Nat→List By→By→List By
  | 0,_,_=>[]
  | f+1,ph,s=>
    if s=[] then [] else
    if lp ph s<s.length then s.take (lp ph s+1)::each f (ph++[s.take (lp ph s+1)]) (s.drop (lp ph s+1))
    else [s]
theorem ywx: ∀ {f g:Nat} {ph:List By} {s:By},s.length≤f→s.length≤g→each f ph s=each g ph s
  | 0,g,ph,s,h,_=>by
    have:s=[]:=List.eq_nil_of_length_eq_zero (by omega)
    subst this
    cases g <;> simp [each]
  | f+1,0,ph,s,_,h=>by
    have:s=[]:=List.eq_nil_of_length_eq_zero (by omega)
    subst this
    simp [each]
  | f+1,g+1,ph,s,h1,h2=>by
    unfold each
    split
    · rfl
    · split
      · rw [ywx (f:=f) (g:=g) (by rw [List.length_drop];omega) (by rw [List.length_drop];omega)]
      · rfl
def eachS (ph:List By) (s:By):List By:=each s.length ph s
theorem yaw (ph:List By):eachS ph []=[]:=rfl
theorem xnj {ph:List By} {s:By} (hl:lp ph s<s.length):eachS ph s=s.take (lp ph s+1)::eachS (ph++[s.take (lp ph s+1)]) (s.drop (lp ph s+1)):=by
  have hs:s≠[]:=fun e=>by subst e;simp at hl
  unfold eachS
  obtain ⟨f,hf⟩: ∃ f,s.length=f+1:=⟨s.length-1,by omega⟩
  rw [hf]
  conv=>lhs;unfold each
  rw [if_neg hs,if_pos hl]
  congr 1
  exact ywx (by rw [List.length_drop];omega) (Nat.le_refl _)
theorem xok {ph:List By} {s:By} (hs:s≠[]) (hl: ¬ lp ph s<s.length):eachS ph s=[s]:=by
  unfold eachS
  obtain ⟨f,hf⟩: ∃ f,s.length=f+1:=⟨s.length-1,by have:=List.length_pos_iff.2 hs;omega⟩
  rw [hf]
  unfold each
  rw [if_neg hs,if_neg hl]
theorem zpx {ph:List By} (s:By) (h:Phr ph):s.take (lp ph s)∈ph:=(xtq h.mem).1 _ (Nat.le_refl _)
section
variable {s:By} {m:Nat} {ph:List By}
end
end Go.X.Cent
namespace Go.X.Cent
open Go.X

def okAt (s:By) (e i:Nat):Prop:=
  (e<i→48≤(s.getD i 0).toNat∧(s.getD i 0).toNat≤57)∧(i<e→i % 3<2→65≤(s.getD i 0).toNat∧(s.getD i 0).toNat≤90)∧(i<e→ ¬ i % 3<2→32≤(s.getD i 0).toNat∧(s.getD i 0).toNat≤126)
instance (s:By) (e i:Nat):Decidable (okAt s e i):=inferInstanceAs (Decidable ((_→_)∧(_→_→_)∧(_→_→_)))
def okUp (s:By) (e k:Nat):Prop:=∀ i,i<k→okAt s e i
def bodyOk (s:By):Prop:=5≤s.length∧s.length≤1400∧(s.getD (s.length-5) 0).toNat=61∧(s.length-5) % 3≠1∧ ∀ i,i<s.length→okAt s (s.length-5) i
instance (s:By):Decidable (bodyOk s):=inferInstanceAs (Decidable (_∧_∧_∧_∧_))
def bodyB (s:By):By:=if bodyOk s then s.take (s.length-5) else []
def byB (b:Int):Int:=if b=126 then 10 else b
def pieR (s:By):Pie:=(26*((((s.getD 0 0).toNat:Nat):Int)-65)+((((s.getD 1 0).toNat:Nat):Int)-65),byB (if 2<s.length then (((s.getD 2 0).toNat:Nat):Int) else -1))
def refP:Nat→By→List Pie
  | 0,_=>[]
  | f+1,s=>if s=[] then [] else pieR s::refP f (s.drop 3)
def refS (s:By):List Pie:=refP s.length s
def parseR (s:By):List Pie:=if bodyOk s then refS (s.take (s.length-5)) else []
def perR (s:By):Int:=if bodyOk s then 0 else 140
def rdR:List By→By→List Pie→Option By
  | _,w,[]=>some w
  | ph,w,x::l=>if ((ph.length:Nat):Int)≤x.1∨820<w.length then none else rdR (ph++[pT ph x]) (w++pT ph x) l
def lnR:List By→By→By→List By × By
  | out,t,[]=>(out,t)
  | out,t,b::w=>if b=10 then lnR (out++[t]) [] w else lnR out (t++[b]) w
def texR (xs:List Pie):List By × Bool:=match rdR [[]] [] xs with
  | none=>([],false)
  | some w=>((lnR [] [] w).1,decide ((lnR [] [] w).2=[]))
def readR (s:By):Int × List By:=
  if ¬ bodyOk s then (140,[]) else if sealB (bodyB s)≠s then (141,[]) else
  if (texR (parseR s)).2=false∨chkT (texR (parseR s)).1≠0∨fileB (texR (parseR s)).1≠s then (142,[]) else (0,(texR (parseR s)).1)
def stateR (s:By):Int:=if (readR s).1=140 then 2 else if (readR s).1=141 then 3 else if (readR s).1=142 then 4 else 1
def addR (s t:By):By × Int:=if (readR s).1≠0 then ([],(readR s).1) else writeB ((readR s).2++[t])
def pcR (ts:List By):List By:=if chkT ts≠0 then [] else eachS [[]] (wholeB ts)
section
variable {ph:List By} {w:By} {xs:List Pie} {k:Nat}
end
theorem zek: ∀ {f:Nat} {ph:List By} {s:By},(each f ph s).length≤f∧ ∀ t∈each f ph s,t.length≤s.length
  | 0,_,_=>by simp [each]
  | f+1,ph,s=>by
    unfold each
    split
    · simp
    · split
      · have:=zek (f:=f) (ph:=ph++[s.take (lp ph s+1)]) (s:=s.drop (lp ph s+1))
        refine ⟨by rw [List.length_cons];omega,fun t ht=>?_⟩
        rcases List.mem_cons.1 ht with rfl | ht
        · rw [List.length_take];omega
        · have:=this.2 t ht;rw [List.length_drop] at this;omega
      · simp
theorem wfw (ts:List By):(pcR ts).length≤820:=by
  unfold pcR
  split
  · simp
  · rename_i h
    have:=(yov h).2.2.1
    have h2:(eachS [[]] (wholeB ts)).length≤(wholeB ts).length:=zek.1
    omega
theorem yew (l:List By): ∀ u∈(scs l).flatten,isOne u=true:=fun u hu=>by
  obtain ⟨e,he,hu⟩:=List.mem_flatten.1 hu
  obtain ⟨t,_,rfl⟩:=List.mem_map.1 he
  rw [List.mem_singleton.1 hu];rfl
end Go.X.Cent
namespace Go.X.Cent
open Go.X

def readyT (ts:List By):Prop:=¬ far ts∧chkT ts=0
instance (ts:List By):Decidable (readyT ts):=inferInstanceAs (Decidable (_∧_))
def wrOk (ts:List By):Prop:=(writeB ts).2=0∧5≤(((writeB ts).1.length:Nat):Int)∧(((writeB ts).1.length:Nat):Int)≤1400
instance (ts:List By):Decidable (wrOk ts):=inferInstanceAs (Decidable (_∧_∧_))
def fndT (l:List By) (s:By):Int:=if s∈l then ((l.idxOf s:Nat):Int) else -1
theorem ylx (a b:List By):scs a++scs b=scs (a++b):=by simp [scs]
theorem zhj (s:By):((readB s).1=0∧stateB s=1)∨((((readB s).2.length:Nat):Int)=0∧(((readB s).1=140∧stateB s=2)∨((readB s).1=141∧stateB s=3)∨((readB s).1=142∧stateB s=4))):=by
  unfold stateB
  have h:(readB s).1=0∨((readB s).2=[]∧((readB s).1=140∨(readB s).1=141∨(readB s).1=142)):=by
    unfold readB
    split
    · exact .inr ⟨rfl,.inl rfl⟩
    split
    · exact .inr ⟨rfl,.inr (.inl rfl)⟩
    split
    · exact .inr ⟨rfl,.inr (.inr rfl)⟩
    split
    · exact .inr ⟨rfl,.inr (.inr rfl)⟩
    · exact .inl rfl
  rcases h with h | ⟨h0,h | h | h⟩
  · exact .inl ⟨h,by rw [h];rfl⟩
  · exact .inr ⟨by rw [h0];rfl,.inl ⟨h,by rw [h];rfl⟩⟩
  · exact .inr ⟨by rw [h0];rfl,.inr (.inl ⟨h,by rw [h];rfl⟩)⟩
  · exact .inr ⟨by rw [h0];rfl,.inr (.inr ⟨h,by rw [h];rfl⟩)⟩
end Go.X.Cent
namespace Go.X.Cent
open Go.X Go.Proofs

theorem zdq {ph:List By} {x:By} (h:x∈ph):ph.getD (ph.idxOf x) []=x:=by
  have hl:=List.idxOf_lt_length_iff.2 h
  rw [List.getD_eq_getElem?_getD,List.getElem?_eq_getElem hl]
  exact List.getElem_idxOf hl
theorem zkx {s:By} {k:Nat} (hk:k<s.length):s.take k++[s.getD k 0]=s.take (k+1):=by
  rw [List.take_add_one,List.getElem?_eq_getElem hk,List.getD_eq_getElem?_getD,List.getElem?_eq_getElem hk];rfl
theorem wak: ∀ {n:Nat} {e:List By} {s:By},s.length≤n→Phr ([]::e)→rdTo e (encS ([]::e) s)=some (e++eachS ([]::e) s)
  | 0,e,s,h,_=>by
    have:s=[]:=List.eq_nil_of_length_eq_zero (by omega)
    subst this
    rw [yqj,yaw,List.append_nil];rfl
  | n+1,e,s,h,hP=>by
    by_cases h0:s=[]
    · subst h0;rw [yqj,yaw,List.append_nil];rfl
    have hm:=zpx s hP
    have hi:=List.idxOf_lt_length_iff.2 hm
    by_cases hk:lp ([]::e) s<s.length
    · rw [yak hk,xnj hk,rdTo]
      have hT:pT ([]::e) (((([]::e).idxOf (s.take (lp ([]::e) s)):Nat):Int),(((s.getD (lp ([]::e) s) 0).toNat:Nat):Int))=s.take (lp ([]::e) s+1):=by
        unfold pT
        simp only [Int.toNat_natCast]
        rw [zdq hm,if_neg (by omega),UInt8.ofNat_toNat,zkx hk]
      have hne:s.take (lp ([]::e) s+1)≠[]:=fun z=>by
        have:=congrArg List.length z
        rw [List.length_take] at this;simp only [List.length_nil] at this;omega
      have h1:rd1 ([]::e) (((([]::e).idxOf (s.take (lp ([]::e) s)):Nat):Int),(((s.getD (lp ([]::e) s) 0).toNat:Nat):Int))=some (s.take (lp ([]::e) s+1)):=by
        rw [rd1,if_neg (by show ¬ _≤(((([]::e).idxOf (s.take (lp ([]::e) s)):Nat):Int));omega),hT,if_neg hne]
      rw [h1]
      have hP2:=hP.snoc hk
      simp only []
      have:=wak (n:=n) (e:=e++[s.take (lp ([]::e) s+1)]) (s:=s.drop (lp ([]::e) s+1)) (by rw [List.length_drop];omega) hP2
      rw [List.cons_append] at*
      rw [this]
      simp
    · have e1:s.take (lp ([]::e) s)=s:=List.take_of_length_le (by omega)
      rw [e1] at hm hi
      rw [yav h0 hk,xok h0 hk,rdTo]
      have h1:rd1 ([]::e) (((([]::e).idxOf s:Nat):Int),-1)=some s:=by
        have hT:pT ([]::e) (((([]::e).idxOf s:Nat):Int),-1)=s:=by
          unfold pT
          simp only [Int.toNat_natCast]
          rw [zdq hm,if_pos trivial,List.append_nil]
        rw [rd1,if_neg (by show ¬ _≤(((([]::e).idxOf s:Nat):Int));omega),hT,if_neg h0]
      rw [h1]
      rfl
theorem zmw (s:By):rdTo [] (encS [[]] s)=some (eachS [[]] s):=by
  have:=wak (n:=s.length) (e:=[]) (s:=s) (Nat.le_refl _) Phr.one
  simpa using this
theorem znw (ts:List By):pcB ts=pcR ts:=by
  unfold pcB pcR
  split
  · rfl
  · rw [zmw];rfl

theorem ywq: ∀ {n:Nat} {ph:List By} {s:By},s.length≤n→(eachS ph s).flatten=s
  | 0,ph,s,h=>by
    have:s=[]:=List.eq_nil_of_length_eq_zero (by omega)
    subst this;rfl
  | n+1,ph,s,h=>by
    by_cases h0:s=[]
    · subst h0;rfl
    by_cases hk:lp ph s<s.length
    · rw [xnj hk,List.flatten_cons,ywq (n:=n) (by rw [List.length_drop];omega),List.take_append_drop]
    · rw [xok h0 hk];simp
theorem ymx (ph:List By) (s:By):(eachS ph s).flatten=s:=ywq (Nat.le_refl _)
theorem ymq: ∀ {n:Nat} {ph:List By} {s:By},s.length≤n→Phr ph→ ∃ l t,eachS ph s=l++t∧t.length≤1∧(∀ x∈t,x∈ph++l)∧(ph++l).Nodup∧(∀ x∈l,x≠[])∧Phr (ph++l)
  | 0,ph,s,h,hP=>by
    have:s=[]:=List.eq_nil_of_length_eq_zero (by omega)
    subst this
    exact ⟨[],[],rfl,by simp,by simp,by simpa using hP.nod,by simp,by simpa using hP⟩
  | n+1,ph,s,h,hP=>by
    by_cases h0:s=[]
    · subst h0
      exact ⟨[],[],rfl,by simp,by simp,by simpa using hP.nod,by simp,by simpa using hP⟩
    by_cases hk:lp ph s<s.length
    · obtain ⟨l,t,e1,e2,e3,e4,e5,e6⟩:=ymq (n:=n) (ph:=ph++[s.take (lp ph s+1)]) (s:=s.drop (lp ph s+1)) (by rw [List.length_drop];omega) (hP.snoc hk)
      refine ⟨s.take (lp ph s+1)::l,t,by rw [xnj hk,e1,List.cons_append],e2,by simpa using e3,by simpa using e4,fun x hx=>?_,by simpa using e6⟩
      rcases List.mem_cons.1 hx with rfl | hx
      · intro z
        have:=congrArg List.length z
        rw [List.length_take] at this;simp only [List.length_nil] at this;omega
      · exact e5 x hx
    · have e1:s.take (lp ph s)=s:=List.take_of_length_le (by omega)
      have hm:=zpx s hP
      rw [e1] at hm
      exact ⟨[],[s],by rw [xok h0 hk];rfl,by simp,by simpa using hm,by simpa using hP.nod,by simp,by simpa using hP⟩
theorem zcj {α:Type} [BEq α] [LawfulBEq α]: ∀ {l m:List α},l.Nodup→(∀ x∈l,x∈m)→l.length≤m.length
  | [],_,_,_=>by simp
  | x::l,m,hn,hs=>by
    have hx:=hs x (by simp)
    rw [List.nodup_cons] at hn
    have:=zcj (l:=l) (m:=m.erase x) hn.2 fun y hy=>by
      have h1:=hs y (by simp [hy])
      have h2:y≠x:=fun e=>hn.1 (e ▸ hy)
      exact (List.mem_erase_of_ne h2).2 h1
    rw [List.length_erase_of_mem hx] at this
    have:=List.length_pos_of_mem hx
    rw [List.length_cons];omega
def alphabet:By:=10::(List.range 94).map fun i=>UInt8.ofNat (32+i)
theorem ztv {b:UInt8} (h:b=10∨32≤b.toNat∧b.toNat≤125):b∈alphabet:=by
  rcases h with rfl | ⟨h1,h2⟩
  · simp [alphabet]
  · refine List.mem_cons_of_mem _ (List.mem_map.2 ⟨b.toNat-32,by rw [List.mem_range];omega,?_⟩)
    rw [show 32+(b.toNat-32)=b.toNat from by omega,UInt8.ofNat_toNat]
theorem few: ∀ {l:List By},l.Nodup→(∀ x∈l,x≠[])→(∀ x∈l,∀ b∈x,b=10∨32≤b.toNat∧b.toNat≤125)→2*l.length≤l.flatten.length+95:=fun {l} hn h0 hb=>by
  have split: ∀ m:List By,(∀ x∈m,x≠[])→2*m.length≤m.flatten.length+(m.filter fun x=>x.length == 1).length:=by
    intro m
    induction m with
    | nil=>simp
    | cons x m ih=>
      intro hm
      have hx:=List.length_pos_iff.2 (hm x (by simp))
      have:=ih fun y hy=>hm y (by simp [hy])
      rw [List.length_cons,List.flatten_cons,List.length_append]
      by_cases c:x.length=1
      · rw [List.filter_cons_of_pos (by simp [c]),List.length_cons];omega
      · rw [List.filter_cons_of_neg (by simp [c])];omega
  have h1:(l.filter fun x=>x.length == 1).length≤(alphabet.map fun b=>[b]).length:=by
    refine zcj (hn.sublist List.filter_sublist) fun x hx=>?_
    obtain ⟨hx,hl⟩:=List.mem_filter.1 hx
    have hl:x.length=1:=by simpa using hl
    obtain ⟨b,rfl⟩:=List.length_eq_one_iff.1 hl
    exact List.mem_map.2 ⟨b,ztv (hb _ hx b (by simp)),rfl⟩
  have h2:=split l h0
  have h3:(alphabet.map fun b=>[b]).length=95:=by simp [alphabet]
  omega
theorem yex: ∀ {n:Nat} {ph:List By} {s:By},s.length≤n→(encS ph s).length=(eachS ph s).length
  | 0,ph,s,h=>by
    have:s=[]:=List.eq_nil_of_length_eq_zero (by omega)
    subst this;rfl
  | n+1,ph,s,h=>by
    by_cases h0:s=[]
    · subst h0;rfl
    by_cases hk:lp ph s<s.length
    · rw [yak hk,xnj hk,List.length_cons,List.length_cons,yex (n:=n) (by rw [List.length_drop];omega)]
    · rw [yav h0 hk,xok h0 hk];rfl
theorem yqk (ph:List By) (s:By):(encS ph s).length=(eachS ph s).length:=yex (Nat.le_refl _)
def Fine (s:By):Prop:=∀ b∈s,b=10∨32≤b.toNat∧b.toNat≤125
theorem zhv {s:By} (h:s.length≤820) (hf:Fine s):(eachS [[]] s).length≤458:=by
  obtain ⟨l,t,e1,e2,e3,e4,e5,e6⟩:=ymq (n:=s.length) (ph:=[[]]) (s:=s) (Nat.le_refl _) Phr.one
  have hj:=ymx [[]] s
  rw [e1,List.flatten_append] at hj
  have h1:=few (l:=l) (List.nodup_append.1 e4).2.1 e5 fun x hx b hb=>hf b (by rw [← hj];exact List.mem_append_left _ (List.mem_flatten.2 ⟨x,hx,hb⟩))
  have h2:=congrArg List.length hj
  rw [List.length_append] at h2
  rw [e1,List.length_append]
  omega
theorem zgz {ts:List By} (h: ∀ t∈ts,isText t):Fine (wholeB ts):=by
  induction ts with
  | nil=>intro b hb;simp [wholeB] at hb
  | cons t ts ih=>
    intro b hb
    rcases List.mem_append.1 hb with hb | hb
    · exact .inr ((h t (by simp)).2 b hb)
    · rcases List.mem_cons.1 hb with rfl | hb
      · exact .inl rfl
      · exact ih (fun x hx=>h x (by simp [hx])) b hb
def GoodL:List Pie→Prop
  | []=>True
  | x::l=>(0≤x.1∧x.1≤675)∧((x.2= -1∧l=[])∨((x.2=10∨32≤x.2∧x.2≤125)∧GoodL l))
theorem zeq: ∀ {n:Nat} {ph:List By} {s:By},s.length≤n→Phr ph→Fine s→ph.length+(eachS ph s).length≤676→GoodL (encS ph s)
  | 0,ph,s,h,_,_,_=>by
    have:s=[]:=List.eq_nil_of_length_eq_zero (by omega)
    subst this;trivial
  | n+1,ph,s,h,hP,hf,hl=>by
    by_cases h0:s=[]
    · subst h0;trivial
    have hm:=zpx s hP
    have hi:=List.idxOf_lt_length_iff.2 hm
    by_cases hk:lp ph s<s.length
    · rw [xnj hk,List.length_cons] at hl
      rw [yak hk]
      have hb:s.getD (lp ph s) 0∈s:=gmem (d:=0) hk
      refine ⟨⟨by show (0:Int)≤((_:Nat):Int);omega,by show ((_:Nat):Int)≤675;omega⟩,.inr ⟨?_,zeq (n:=n) (by rw [List.length_drop];omega) (hP.snoc hk) (fun b hb=>hf b (List.mem_of_mem_drop hb)) (by rw [List.length_append,List.length_singleton];omega)⟩⟩
      show (((s.getD (lp ph s) 0).toNat:Nat):Int)=10∨32≤(((s.getD (lp ph s) 0).toNat:Nat):Int)∧(((s.getD (lp ph s) 0).toNat:Nat):Int)≤125
      rcases hf _ hb with e | ⟨e1,e2⟩
      · rw [e];exact .inl rfl
      · exact .inr ⟨by omega,by omega⟩
    · rw [yav h0 hk]
      have e1:s.take (lp ph s)=s:=List.take_of_length_le (by omega)
      rw [e1] at hi
      rw [xok h0 hk,List.length_singleton] at hl
      exact ⟨⟨by show (0:Int)≤((_:Nat):Int);omega,by show ((_:Nat):Int)≤675;omega⟩,.inl ⟨rfl,rfl⟩⟩

theorem yaz {z:Int} (h0:0≤z) (h1:z≤255):(((UInt8.ofNat z.toNat).toNat:Nat):Int)=z:=by
  rw [UInt8.toNat_ofNat_of_lt' (show z.toNat<256 by omega)];omega
theorem zwv {x:Pie} {r:By} (h1:0≤x.1∧x.1≤675) (h2:(x.2= -1∧r=[])∨(x.2=10∨32≤x.2∧x.2≤125)):pie1 (pieB x++r)=some (x,r):=by
  have a1:=yaz (z:=65+x.1 / 26) (by omega) (by omega)
  have a2:=yaz (z:=65+x.1 % 26) (by omega) (by omega)
  have g0:(pieB x++r).getD 0 0=UInt8.ofNat (65+x.1 / 26).toNat:=by simp [pieB,two]
  have g1:(pieB x++r).getD 1 0=UInt8.ofNat (65+x.1 % 26).toNat:=by simp [pieB,two]
  have gd:(pieB x++r).drop 2=(if x.2= -1 then [] else if x.2=10 then [126] else [UInt8.ofNat x.2.toNat])++r:=by simp [pieB,two]
  have hl: ¬ (pieB x++r).length<2:=by simp only [pieB,two,List.length_append,List.length_cons];omega
  rw [wav hl (by rw [g0,a1];omega) (by rw [g1,a2];omega),gd]
  have hph:phN (pieB x++r)=x.1:=by unfold phN;rw [g0,g1,a1,a2];omega
  rw [hph]
  rcases h2 with ⟨e1,e2⟩ | h2
  · rw [if_pos e1,e2,List.append_nil,if_pos rfl,← e1]
  · have hn: ¬ x.2= -1:=by omega
    rw [if_neg hn]
    by_cases c:x.2=10
    · rw [if_pos c,if_neg (by simp)]
      have:(([126]++r:By).getD 0 0).toNat=126:=rfl
      rw [if_pos this,← c]
      rfl
    · rw [if_neg c,if_neg (by simp)]
      have hb:=yaz (z:=x.2) (by omega) (by omega)
      have e:([UInt8.ofNat x.2.toNat]++r:By).getD 0 0=UInt8.ofNat x.2.toNat:=rfl
      rw [e,if_neg (by omega),if_neg (by omega),hb]
      rfl
theorem znx: ∀ {l out:List Pie},GoodL l→prsS out (filP l)=some (out++l)
  | [],out,_=>by rw [List.append_nil];rfl
  | x::l,out,h=>by
    obtain ⟨h1,h2⟩:=h
    have e:filP (x::l)=pieB x++filP l:=by simp [filP]
    have hp:pie1 (pieB x++filP l)=some (x,filP l):=zwv h1 (h2.imp (fun z=>⟨z.1,by rw [z.2];rfl⟩) (·.1))
    have hg:GoodL l:=by
      rcases h2 with ⟨_,e2⟩ | h2
      · rw [e2];trivial
      · exact h2.2
    rw [e,yfx hp,znx hg]
    simp
theorem zev (n:Nat):48≤(dig n).toNat∧(dig n).toNat≤57:=by
  unfold dig
  rw [UInt8.toNat_ofNat_of_lt' (show 48+n % 10<256 by omega)]
  omega
theorem yhj (l:By):(sealB l).take ((sealB l).length-5)=l:=by
  rw [xsj,Nat.add_sub_cancel,sealB,List.take_left' rfl]
theorem wdz (l:By):(sealB l).getD ((sealB l).length-5) 0=61:=by
  rw [xsj,Nat.add_sub_cancel,sealB,List.getD_eq_getElem?_getD,List.getElem?_append_right (Nat.le_refl _)]
  simp
theorem zkv (l:By):(sealB l).drop ((sealB l).length-4)=four (total l % 9973):=by
  rw [xsj,show l.length+5-4=l.length+1 from by omega,sealB,← List.drop_drop,List.drop_left' rfl]
  rfl
theorem zpw {l:List Pie} (hg:GoodL l) (hl:(filP l).length≤1395):formB (sealB (filP l))=some l:=by
  have h1:=xsj (filP l)
  rw [formB,if_neg (by rw [wdz,h1];rintro (z | z | z) <;> first | omega | exact z rfl),if_neg,yhj,znx hg,List.nil_append]
  rintro ⟨c,hc,z⟩
  rw [zkv,four] at hc
  simp only [List.mem_cons,List.not_mem_nil,or_false] at hc
  rcases hc with rfl | rfl | rfl | rfl
  all_goals (have:=zev (total (filP l) % 9973 / 1000);have:=zev (total (filP l) % 9973 / 100);have:=zev (total (filP l) % 9973 / 10);have:=zev (total (filP l) % 9973);omega)

theorem zzk {t r:By} (h:(10:UInt8) ∉ t):cutAfter 10 (t++10::r)=(t++[10])::cutAfter 10 r:=by
  induction t with
  | nil=>rw [List.nil_append,cutAfter,if_pos rfl];rfl
  | cons b t ih=>
    rw [List.mem_cons,not_or] at h
    rw [List.cons_append,cutAfter,if_neg (fun e=>h.1 e.symm),ih h.2]
    rfl
theorem zjz {t:By}:trim1 (t++[10])=t:=by
  unfold trim1 Lib.trimSuffix
  have h:Lib.hasSuffix (t++[10]) [10]=true:=by simp [Lib.hasSuffix]
  rw [if_pos h]
  simp
theorem ywj: ∀ {ts:List By},(∀ t∈ts,(10:UInt8) ∉ t)→cutAfter 10 (wholeB ts)=ts.map (· ++ [10])++[[]]
  | [],_=>rfl
  | t::ts,h=>by
    rw [wholeB,zzk (h t (by simp)),ywj fun x hx=>h x (by simp [hx])]
    rfl
theorem yyw {ts:List By} (h: ∀ t∈ts,(10:UInt8) ∉ t):linesB (wholeB ts)=ts:=by
  rw [linesB,ywj h,List.length_append,List.length_map,List.length_singleton,Nat.add_sub_cancel,List.take_left' (by simp),List.map_map]
  have:(trim1 ∘ fun x:By=>x++[10])=id:=funext fun t=>zjz
  rw [this,List.map_id]
theorem zjw {t:By} (h:isText t):(10:UInt8) ∉ t:=fun z=>by
  have:=(h.2 _ z).1
  exact absurd this (by decide)

theorem yow {ts:List By} (h:chkT ts=0):GoodL (encS [[]] (wholeB ts))∧(filP (encS [[]] (wholeB ts))).length≤1374∧(encS [[]] (wholeB ts)).length≤458:=by
  have g:=xpv h
  have hw:=xzx g.1 fun t z=>(g.2 t z).1
  have hf:=zgz g.2
  have h1:=zhv hw hf
  have h2:=yqk [[]] (wholeB ts)
  have h3:=yfk (encS [[]] (wholeB ts))
  exact ⟨zeq (Nat.le_refl _) Phr.one hf (by simp only [List.length_singleton];omega),by omega,by omega⟩
theorem zqz {ts:List By} (h:chkT ts=0):formB (fileB ts)=some (encS [[]] (wholeB ts)):=by
  have g:=yow h
  exact zpw g.1 (by omega)
theorem yzk {ts:List By} (h:chkT ts=0):5≤(fileB ts).length∧(fileB ts).length≤1379:=by
  have g:=yow h
  rw [fileB,xsj];omega
theorem zmk {ts:List By} (h:chkT ts=0):readB (fileB ts)=(0,ts):=by
  have g:=xpv h
  have hL:linesB (wholeB ts)=ts:=yyw fun t z=>zjw (g.2 t z)
  unfold readB
  rw [zqz h]
  simp only []
  have e1:(fileB ts).take ((fileB ts).length-5)=filP (encS [[]] (wholeB ts)):=yhj _
  rw [e1,if_neg (fun z=>z rfl),zmw]
  simp only []
  rw [ymx,hL,if_neg]
  rintro (z | z)
  · exact z h
  · exact z rfl
theorem wew {s:By} (h:(readB s).1=0):fileB (readB s).2=s∧chkT (readB s).2=0:=by
  unfold readB at h ⊢
  split at h
  · cases h
  split at h
  · cases h
  rename_i h1
  split at h
  · cases h
  split at h
  · cases h
  · rename_i h2
    rw [if_neg h1,if_neg h2]
    exact ⟨Decidable.not_not.1 fun z=>h2 (.inr z),Decidable.not_not.1 fun z=>h2 (.inl z)⟩
theorem xpw {ts:List By} (h:chkT ts=0):writeB ts=(fileB ts,0):=by rw [writeB,if_neg fun z=>z h]
theorem xox {ts:List By} (h:chkT ts=0):readB (writeB ts).1=(0,ts):=by rw [xpw h];exact zmk h
end Go.X.Cent
namespace Go.X.Cent
open Go.X Go.Proofs

def ChOk (b:By):Prop:=b.length % 3≠1∧ ∀ i,i<b.length→(i % 3<2→isL (b.getD i 0))∧(¬ i % 3<2→32≤(b.getD i 0).toNat∧(b.getD i 0).toNat≤126)
theorem wbw {ts:List By} (h1:ts.length≤20) (h2: ∀ t∈ts,isText t):chkT ts=0:=by
  unfold chkT
  rw [if_neg (by omega),if_neg]
  intro z
  obtain ⟨t,ht,hb⟩:=yok.1 z
  have:=h2 t ht
  simp [badT,this] at hb
theorem zzv {ts:List By} (h:chkT ts=0) (k:Nat):chkT (ts.take k)=0:=by
  have g:=xpv h
  exact wbw (by rw [List.length_take];omega) fun t z=>g.2 t (List.mem_of_mem_take z)
end Go.X.Cent
namespace Go.X.Cent
open Go.X Go.Proofs

def alphaI:List Int:=alphabet.map fun b=>((b.toNat:Nat):Int)
structure Spl (L l t:List Pie):Prop where
  eq:L=l++t
  one:t.length≤1
  tm: ∀ x∈t,x.2= -1
  lm: ∀ x∈l,x.2≠ -1
  rng: ∀ x∈L,0≤x.1∧x.1≤((l.length:Nat):Int)
  few: ∀ n,cntN L n≤96
section
variable {L l t:List Pie}
theorem Spl.len (S:Spl L l t):L.length=l.length+t.length:=by rw [S.eq,List.length_append]
theorem Spl.no (S:Spl L l t) (h:0<L.length→(L.getD (L.length-1) pz).2≠ -1):L.length=l.length:=by
  have hl:=S.len
  have h1:=S.one
  rcases Nat.eq_zero_or_pos t.length with z | z
  · omega
  · exfalso
    have h0:0<L.length:=by omega
    refine h h0 (S.tm _ ?_)
    rw [List.getD_eq_getElem?_getD,S.eq,List.getElem?_append_right (by rw [List.length_append];omega),List.length_append]
    rw [show l.length+t.length-1-l.length=0 from by omega]
    obtain ⟨x,rfl⟩:=List.length_eq_one_iff.1 (show t.length=1 by omega)
    simp
end
def sumC (L:List Pie):Nat→Nat
  | 0=>0
  | k+1=>sumC L k+cntN L ((k:Nat):Int)
theorem ykw: ∀ (k:Nat) (L:List Pie),sumC L k=L.countP fun x=>decide (0≤x.1∧x.1<((k:Nat):Int))
  | 0,L=>by
    rw [sumC,List.countP_eq_zero.2]
    intro x _
    simp
  | k+1,L=>by
    rw [sumC,ykw k L]
    induction L with
    | nil=>rfl
    | cons x L ih=>
      simp only [cntN,List.countP_cons] at ih ⊢
      have:(if decide (0≤x.1∧x.1<((k+1:Nat):Int))=true then 1 else 0)=(if decide (0≤x.1∧x.1<((k:Nat):Int))=true then 1 else 0)+(if decide (x.1=((k:Nat):Int))=true then 1 else 0):=by
        simp only [decide_eq_true_eq]
        by_cases c:x.1=((k:Nat):Int)
        · rw [if_pos (by omega),if_neg (by omega),if_pos c]
        · by_cases d:0≤x.1∧x.1<((k:Nat):Int)
          · rw [if_pos (by omega),if_pos d,if_neg c]
          · rw [if_neg (by omega),if_neg d,if_neg c]
      omega
theorem Spl.sum {L l t:List Pie} (S:Spl L l t):sumC L (l.length+1)=L.length:=by
  rw [ykw,List.countP_eq_length]
  intro x hx
  have:=S.rng x hx
  simp only [decide_eq_true_eq]
  omega
theorem zoq {ts:List By} (h:chkT ts=0):pcB ts=eachS [[]] (wholeB ts):=by rw [znw,pcR,if_neg fun z=>z h]
end Go.X.Cent
namespace Go.X.Cent
open Go.X Go.Proofs

theorem zvq {l:By} {i j:Nat} {c:UInt8} (hi:i<l.length):(l.set i c).getD j 0=if i=j then c else l.getD j 0:=by
  rw [List.getD_eq_getElem?_getD,List.getD_eq_getElem?_getD,List.getElem?_set]
  by_cases e:i=j
  · rw [if_pos e,if_pos e,if_pos hi];rfl
  · rw [if_neg e,if_neg e]
theorem zaj {l:By} {i:Nat} {c:UInt8} (hi:i<l.length): ∀ k,wsumTo (l.set i c) k+(if i<k then (l.getD i 0).toNat*(i+1) else 0)=wsumTo l k+(if i<k then c.toNat*(i+1) else 0)
  | 0=>by simp [wsumTo]
  | k+1=>by
    have ih:=zaj hi k (c:=c)
    simp only [wsumTo]
    rw [zvq hi]
    by_cases e:i=k
    · subst e
      rw [if_neg (Nat.lt_irrefl i),if_neg (Nat.lt_irrefl i)] at ih
      rw [if_pos rfl,if_pos (Nat.lt_succ_self i),if_pos (Nat.lt_succ_self i)]
      omega
    · rw [if_neg e]
      by_cases d:i<k
      · rw [if_pos d,if_pos d] at ih
        rw [if_pos (by omega),if_pos (by omega)]
        omega
      · rw [if_neg d,if_neg d] at ih
        rw [if_neg (by omega),if_neg (by omega)]
        omega
theorem zjv {l:By} {i:Nat} {c:UInt8} (hi:i<l.length):total (l.set i c)+(l.getD i 0).toNat*(i+1)=total l+c.toNat*(i+1):=by
  have:=zaj (c:=c) hi l.length
  rw [if_pos hi,if_pos hi] at this
  rw [total,total,List.length_set]
  exact this
theorem copr: ∀ d,d<256→d≠0→Nat.Coprime 9973 d:=by decide +kernel
theorem zck {d k:Nat} (hd:d<256) (h0:d≠0) (hk:0<k) (hk2:k<9973):(d*k) % 9973≠0:=fun h=>by
  have h1:=(copr d hd h0).dvd_of_dvd_mul_left (Nat.dvd_of_mod_eq_zero h)
  have:=Nat.le_of_dvd hk h1
  omega
theorem yqw {a b:Nat} (h:dig a=dig b):a % 10=b % 10:=by
  have:=congrArg UInt8.toNat h
  unfold dig at this
  rw [UInt8.toNat_ofNat_of_lt' (show 48+a % 10<256 by omega),UInt8.toNat_ofNat_of_lt' (show 48+b % 10<256 by omega)] at this
  omega
theorem zyz {a b:Nat} (ha:a<10000) (hb:b<10000) (h:four a=four b):a=b:=by
  simp only [four,List.cons.injEq,and_true] at h
  have h1:=yqw h.1
  have h2:=yqw h.2.1
  have h3:=yqw h.2.2.1
  have h4:=yqw h.2.2.2
  omega
theorem yhv {s:By} (h:(readB s).1=0):s=sealB (s.take (s.length-5)):=by
  have h1:=(wew h).1
  have h2:=yhj (filP (encS [[]] (wholeB (readB s).2)))
  have h3:sealB (filP (encS [[]] (wholeB (readB s).2)))=s:=h1
  rw [h3] at h2
  rw [h2];exact h3.symm
section
variable {B t:By}
theorem yxk (hl:t.length=B.length+5) (hr:(readB t).1=0) (hd:t.drop B.length=(sealB B).drop B.length):total (t.take B.length) % 9973=total B % 9973:=by
  have h1:=yhv hr
  rw [hl,Nat.add_sub_cancel] at h1
  have hlt:(t.take B.length).length=B.length:=by rw [List.length_take];omega
  have h2:t.drop B.length=61::four (total (t.take B.length) % 9973):=by
    conv=>lhs;rw [h1]
    rw [sealB,List.drop_left' hlt]
  have h3:(sealB B).drop B.length=61::four (total B % 9973):=by rw [sealB,List.drop_left' rfl]
  rw [h2,h3] at hd
  simp only [List.cons.injEq,true_and] at hd
  exact zyz (by omega) (by omega) hd
theorem ztq {i:Nat} {c:UInt8} (hB:B.length≤1400) (hi:i<B.length+5) (hne: ¬ (sealB B).set i c=sealB B):(readB ((sealB B).set i c)).1≠0:=fun hr=>by
  have hl:((sealB B).set i c).length=B.length+5:=by rw [List.length_set,xsj]
  by_cases h:i<B.length
  · have hs:(sealB B).set i c=B.set i c++61::four (total B % 9973):=by rw [sealB,List.set_append_left _ _ h]
    have ht:((sealB B).set i c).take B.length=B.set i c:=by rw [hs,List.take_left' (by simp)]
    have hd:((sealB B).set i c).drop B.length=(sealB B).drop B.length:=by rw [hs,List.drop_left' (by simp),sealB,List.drop_left' rfl]
    have hm:=yxk hl hr hd
    rw [ht] at hm
    have ht2:=zjv (c:=c) h
    have hc:c≠B.getD i 0:=fun e=>hne (by
      rw [hs,sealB]
      congr 1
      rw [e,List.getD_eq_getElem?_getD,List.getElem?_eq_getElem h]
      exact List.set_getElem_self h)
    have hc2:c.toNat≠(B.getD i 0).toNat:=fun e=>hc (UInt8.toNat_inj.1 e)
    have b1:=ycw c
    have b2:=ycw (B.getD i 0)
    rcases Nat.lt_or_gt_of_ne hc2 with z | z
    · have e:(B.getD i 0).toNat*(i+1)=c.toNat*(i+1)+((B.getD i 0).toNat-c.toNat)*(i+1):=by rw [← Nat.add_mul];congr 1;omega
      exact zck (d:=(B.getD i 0).toNat-c.toNat) (k:=i+1) (by omega) (by omega) (by omega) (by omega) (by omega)
    · have e:c.toNat*(i+1)=(B.getD i 0).toNat*(i+1)+(c.toNat-(B.getD i 0).toNat)*(i+1):=by rw [← Nat.add_mul];congr 1;omega
      exact zck (d:=c.toNat-(B.getD i 0).toNat) (k:=i+1) (by omega) (by omega) (by omega) (by omega) (by omega)
  · have h1:=yhv hr
    rw [hl,Nat.add_sub_cancel] at h1
    have ht:((sealB B).set i c).take B.length=B:=by
      rw [List.take_set_of_le (by omega),sealB,List.take_left' rfl]
    rw [ht] at h1
    exact hne h1
end
theorem zfv {ts:List By} (h:chkT ts=0):(writeB ts).1=sealB (filP (encS [[]] (wholeB ts))):=by rw [xpw h];rfl
theorem zzw {ts:List By} {i:Nat} {c:UInt8} (h:chkT ts=0) (hi:i<(writeB ts).1.length) (hne: ¬ (writeB ts).1.set i c=(writeB ts).1):(readB ((writeB ts).1.set i c)).1≠0:=by
  have g:=(yow h).2.1
  rw [zfv h] at hi hne ⊢
  rw [xsj] at hi
  exact ztq (by omega) hi hne
end Go.X.Cent
namespace Go.X.Cent
open Go.X Go.Proofs

def fstP (L:List Pie) (E:List By) (i:Nat):By:=if 0<(L.getD i pz).1 then E.getD ((L.getD i pz).1-1).toNat [] else []
structure PF (L:List Pie) (E:List By):Prop where
  len:E.length=L.length
  lo: ∀ i,i<L.length→0≤(L.getD i pz).1∧(L.getD i pz).1≤((i:Nat):Int)
  byt: ∀ i,i<L.length→(L.getD i pz).2= -1∨0≤(L.getD i pz).2∧(L.getD i pz).2≤255
  piece: ∀ i,i<L.length→E.getD i []=fstP L E i++(if (L.getD i pz).2= -1 then [] else [UInt8.ofNat (L.getD i pz).2.toNat])
  last: ∀ i,i<L.length→(L.getD i pz).2= -1→i+1=L.length∧E.getD i []∈E.take i
  new: ∀ i,i<L.length→(L.getD i pz).2≠ -1→E.getD i [] ∉ E.take i
  short: ∀ i,i<L.length→(E.getD i []).length≤i+1
section
variable {L:List Pie} {E:List By} {i:Nat}
theorem PF.back (p:PF L E) (hi:i<L.length) (hb:(L.getD i pz).2= -1):E.getD i []=fstP L E i:=by
  have h1:=p.piece i hi
  rwa [if_pos hb,List.append_nil] at h1
end
theorem Strs.pre {p:PHeap} {a:Option Addr} {n c r:Nat} {ts:List By} (T:Strs p a n ts) (hc:n≤c) (h2:r≤n):Strs p (cutA a c 0 1) r (ts.take r):=by
  have h:=Sl.part (l:=0) (r:=r) T hc (Nat.zero_le _) h2
  rw [List.drop_zero,Nat.sub_zero] at h
  unfold Strs
  rw [← zbq]
  exact h
end Go.X.Cent
namespace Go.X.Cent
open Go.X Go.Proofs

theorem yek {u v:By} {i:Nat} (h:i≤u.length):(u++v).take i=u.take i:=by rw [List.take_append_of_le_length h]
theorem wkq {ph:List By} (hP:Phr ph) {u v:By} (hk:lp ph u<u.length):lp ph (u++v)=lp ph u:=by
  have h:=xtq (s:=u) hP.mem
  refine yoz hP.mem (by rw [List.length_append];omega) (fun i hi=>?_) fun _=>?_
  · rw [yek (by omega)];exact h.1 i hi
  · rw [yek (by omega)];exact h.2 hk
theorem zej: ∀ {n:Nat} {ph:List By} {u v:By},u.length≤n→Phr ph→(eachS ph u).length≤(eachS ph (u++v)).length∧
    ∀ i,i<(eachS ph u).length→(i+1<(eachS ph u).length→(eachS ph u).getD i []=(eachS ph (u++v)).getD i [])∧(eachS ph u).getD i [] <+: (eachS ph (u++v)).getD i []
  | 0,ph,u,v,h,_=>by
    have:u=[]:=List.eq_nil_of_length_eq_zero (by omega)
    subst this
    rw [yaw]
    exact ⟨by simp,fun i hi=>by simp at hi⟩
  | n+1,ph,u,v,h,hP=>by
    by_cases h0:u=[]
    · subst h0
      rw [yaw]
      exact ⟨by simp,fun i hi=>by simp at hi⟩
    by_cases hk:lp ph u<u.length
    · have e:=wkq (v:=v) hP hk
      have hk2:lp ph (u++v)<(u++v).length:=by rw [e,List.length_append];omega
      rw [xnj hk,xnj hk2,e,yek (by omega),List.drop_append_of_le_length (by omega)]
      obtain ⟨i1,i2⟩:=zej (n:=n) (ph:=ph++[u.take (lp ph u+1)]) (u:=u.drop (lp ph u+1)) (v:=v) (by rw [List.length_drop];omega) (hP.snoc hk)
      refine ⟨by simp only [List.length_cons];omega,fun i hi=>?_⟩
      cases i with
      | zero=>exact ⟨fun _=>rfl,List.prefix_refl _⟩
      | succ i=>
        simp only [List.length_cons] at hi ⊢
        have:=i2 i (by omega)
        simp only [List.getD_cons_succ]
        exact ⟨fun z=>this.1 (by omega),this.2⟩
    · rw [xok h0 hk]
      have hne:u++v≠[]:=fun z=>h0 (List.append_eq_nil_iff.1 z).1
      have hu:u.take u.length∈ph:=by
        have h2:=(xtq (s:=u) hP.mem).1 (lp ph u) (Nat.le_refl _)
        have:lp ph u=u.length:=by have:=wgw ph u;omega
        rwa [this] at h2
      have hle:u.length≤lp ph (u++v):=by
        rcases Nat.lt_or_ge (lp ph (u++v)) u.length with c | c
        · have:=wbk hP c (by rw [List.length_append];omega)
          rw [yek (Nat.le_refl _)] at this
          exact absurd hu this
        · exact c
      have hp: ∃ x r,eachS ph (u++v)=x::r∧u <+: x:=by
        by_cases hk2:lp ph (u++v)<(u++v).length
        · refine ⟨_,_,xnj hk2,?_⟩
          rw [List.take_append]
          exact ⟨v.take (lp ph (u++v)+1-u.length),by rw [List.take_of_length_le (l:=u) (by omega)]⟩
        · exact ⟨_,_,xok hne hk2,List.prefix_append u v⟩
      obtain ⟨x,r,e,hx⟩:=hp
      rw [e]
      refine ⟨by simp,fun i hi=>?_⟩
      obtain rfl:i=0:=by simpa using hi
      exact ⟨fun z=>absurd z (by simp),hx⟩
theorem ysx: ∀ (xs ys:List By),wholeB (xs++ys)=wholeB xs++wholeB ys
  | [],ys=>rfl
  | x::xs,ys=>by
    rw [List.cons_append,wholeB,wholeB,ysx xs ys]
    simp
structure Beg (K L:List By):Prop where
  len:K.length≤L.length
  eq: ∀ i,i+1<K.length→K.getD i []=L.getD i []
  pre: ∀ i,i<K.length→K.getD i [] <+: L.getD i []
theorem wlq {ts:List By} (h:chkT ts=0) (k:Nat):Beg (pcB (ts.take k)) (pcB ts):=by
  rw [zoq h,zoq (zzv h k)]
  have e:wholeB ts=wholeB (ts.take k)++wholeB (ts.drop k):=by rw [← ysx,List.take_append_drop]
  rw [e]
  have:=zej (v:=wholeB (ts.drop k)) (Nat.le_refl (wholeB (ts.take k)).length) Phr.one
  exact ⟨this.1,fun i hi=>(this.2 i (by omega)).1 hi,fun i hi=>(this.2 i hi).2⟩
end Go.X.Cent
namespace Go.X.Kn
open Go.X Go.X.Cent

theorem wlj {p:PHeap} {a a1 a2:Option Addr} {c1 c2:Nat} {l1 l2:List Sp} (s:Sl p a 2 1 [[.slice a1 l1.length c1],[.slice a2 l2.length c2]]) (h1:Sps p a1 l1.length l1) (h2:Sps p a2 l2.length l2):
    TabS p a 2 (fun i=>if i=0 then a1 else a2) (fun i=>if i=0 then c1 else c2) [l1,l2]:=by
  refine ⟨rfl,fun h=>Sl.ne s h,fun i hi=>?_,fun i hi=>?_⟩
  · match i,hi with
    | 0,_=>exact Sl.get s 0 _ rfl 0 _ rfl
    | 1,_=>exact Sl.get s 1 _ rfl 0 _ rfl
  · match i,hi with
    | 0,_=>exact h1
    | 1,_=>exact h2
def exK:Bk:=⟨10,2,[[(1,1),(2,3)],[(0,1),(5,5)]],[(2,2),(7,8)]⟩
theorem wkj:bookB exK:=by decide
def mk (d:Int):UInt8:=UInt8.ofNat (48+d).toNat
def tx (l:List Int):By:=l.map mk
theorem wbz {d:Int} (h:0≤d∧d≤9):(((mk d).toNat:Nat):Int)=48+d:=by
  have:(48+d).toNat<256:=by omega
  unfold mk;rw [UInt8.toNat_ofNat',Nat.mod_eq_of_lt this];omega
theorem waz (l:List Int):(tx l).length=l.length:=by simp [tx]
theorem wcx {l:List Int} {j:Nat} (h:j<l.length):tx (l.take j)++[mk (l.getD j 0)]=tx (l.take (j+1)):=by
  unfold tx;rw [List.take_add_one,List.map_append,List.getD_eq_getElem?_getD,List.getElem?_eq_getElem h];rfl
theorem wlz {l:List Int} {j:Nat} (h:j<l.length):(tx l).getD j 0=mk (l.getD j 0):=by
  unfold tx;rw [List.getD_eq_getElem?_getD,List.getElem?_map,List.getElem?_eq_getElem h,List.getD_eq_getElem?_getD,List.getElem?_eq_getElem h];rfl
def nt (k:Bk) (n:Int):By:=tx (digs k.base k.places.toNat n)
def nts (k:Bk) (ns:List Int):List By:=ns.map (nt k)
theorem zxz {k:Bk} {ns:List Int} {i:Nat} (h:i<ns.length):nts k (ns.take i)++[nt k (ns.getD i 0)]=nts k (ns.take (i+1)):=by
  unfold nts;rw [List.take_add_one,List.map_append,List.getD_eq_getElem?_getD,List.getElem?_eq_getElem h];rfl
theorem yyv (k:Bk) (ns:List Int):(nts k ns).length=ns.length:=by simp [nts]
theorem wjw {k:Bk} {ns:List Int} {i:Nat} (h:i<ns.length):(nts k ns).getD i []=nt k (ns.getD i 0):=by
  unfold nts;rw [List.getD_eq_getElem?_getD,List.getElem?_map,List.getElem?_eq_getElem h,List.getD_eq_getElem?_getD,List.getElem?_eq_getElem h];rfl
theorem wbx (k:Bk) (n:Int):(nt k n).length=k.places.toNat:=by rw [nt,waz,xik]
theorem ykq {k:Bk} (h:bookB k) (n:Int):digK k (digs k.base k.places.toNat n):=by
  have hb:=h.1;have hp:=h.2.1
  exact ⟨by rw [xik];omega,fun d hd=>ztk (yqv (by omega) hd)⟩
theorem zsj {k:Bk} (h:bookB k) {n:Int} {j:Nat} (hj:j<k.places.toNat):0≤(digs k.base k.places.toNat n).getD j 0∧(digs k.base k.places.toNat n).getD j 0≤9:=by
  have hb:=h.1
  have:=yqv (b:=k.base) (by omega) (xlk (d:=0) (l:=digs k.base k.places.toNat n) (i:=j) (by rw [xik];exact hj))
  omega
theorem wgz {k:Bk} (h:bookB k) (n:Int):isText (nt k n):=by
  have hb:=h.1;have hp:=h.2.1
  refine ⟨by rw [wbx];omega,fun b hbm=>?_⟩
  obtain ⟨d,hd,rfl⟩:=List.mem_map.1 hbm
  have:=yqv (b:=k.base) (by omega) hd
  have:=wbz (d:=d) (by omega)
  omega
theorem zok {k:Bk} (h:bookB k) {ns:List Int} (hl:ns.length≤20):chkT (nts k ns)=0:=wbw (by rw [yyv];exact hl) fun t ht=>by
  obtain ⟨n,_,rfl⟩:=List.mem_map.1 ht
  exact wgz h n
theorem wgx (k:Bk) (a b:List Int):nts k a++nts k b=nts k (a++b):=by simp [nts]
theorem wfq {k:Bk} (h:bookB k) {n:Int} {j:Nat} (hj:j<k.places.toNat):((((nt k n).getD j 0).toNat:Nat):Int)-48=(digs k.base k.places.toNat n).getD j 0:=by
  have e:(nt k n).getD j 0=mk ((digs k.base k.places.toNat n).getD j 0):=wlz (by rw [xik];exact hj)
  have:=wbz (zsj h (n:=n) hj)
  rw [e];omega
theorem zuj {l:List Int} {j:Nat} (h:j<l.length):l.take j++[l.getD j 0]=l.take (j+1):=by
  rw [List.take_add_one,List.getD_eq_getElem?_getD,List.getElem?_eq_getElem h];rfl
theorem xvq {k:Bk} (h:bookB k) {n:Int} (h0:0≤n) (h1:n≤k.base ^ k.places.toNat-1):rdK k (digs k.base k.places.toNat n)=n∧askK k (decide (digK k (digs k.base k.places.toNat n)))=0:=by
  refine ⟨?_,zfj h (ykq h n)⟩
  rw [rdK,if_pos ⟨xlx h,ykq h n⟩,xik]
  exact zcx h.1.1 h0 h1
theorem yhq {ts:List By} (h:chkT (ts++ts)=0):(pcB ts).length≤(pcB (ts++ts)).length:=by
  have B:=wlq h ts.length
  rw [List.take_left'] at B
  exact B.len
  rfl
theorem yix (ts:List By):(pcB ts).length≤820:=by rw [znw];exact wfw ts
theorem yvw {s:By} (h:(readB s).1≠0):(((readB s).2.length:Nat):Int)=0:=by
  rcases zhj s with ⟨e,_⟩ | ⟨e,_⟩
  · exact absurd e h
  · exact e
theorem wjq {l:By} {i:Nat} {c:UInt8} (hi:i<l.length) (h:l.getD i 0≠c): ¬ l.set i c=l:=fun e=>h (by
  have:=congrArg (fun q:By=>q.getD i 0) e
  simp only [List.getD_eq_getElem?_getD,List.getElem?_set_self hi] at this
  rw [List.getD_eq_getElem?_getD,← this];rfl)
theorem zrq {ts:List By} (h:chkT ts=0):(writeB ts).1.length≤1379:=by rw [xpw h];exact (yzk h).2
end Go.X.Kn
namespace Go.X.Kn
open Go.X Go.X.Cent
def InR (k:Bk) (ns:List Int) (i:Nat):Prop:=∀ j,j<i→0≤ns.getD j 0∧ns.getD j 0≤k.base ^ k.places.toNat-1
theorem wlw (k:Bk) (ns:List Int):InR k ns 0:=fun j hj=>absurd hj (Nat.not_lt_zero j)
theorem wkx {k:Bk} {ns:List Int} {i:Nat} (h:InR k ns i) (c:0≤ns.getD i 0∧ns.getD i 0≤k.base ^ k.places.toNat-1):InR k ns (i+1):=xuk h c
theorem whx {k:Bk} {ns:List Int} {i:Nat} (h:InR k ns i): ∀ j,j<i→0≤ns.getD j 0∧ns.getD j 0≤k.base ^ k.places.toNat-1:=h
theorem wgv {b:UInt8} {y:Int} (h:0≤y∧y≤255) (n: ¬ ((b.toNat:Nat):Int)=y):b≠UInt8.ofNat y.toNat:=fun e=>n (by
  have:y.toNat<256:=by omega
  rw [e,UInt8.toNat_ofNat',Nat.mod_eq_of_lt this];omega)
end Go.X.Kn
namespace Go.X
open Go.Conc

section
variable {P:Program} {b:Frame} {tm:Array Value} {df:List Deferred} {k:List Item} {cs:List Frame} {Φ:Heap→Prop} {Stop:Goroutine→Heap→Prop}
theorem wdj {ops:Array Oper} {i:Nat} {rest:List Nat} {o:Oper} (ho:ops[i]?=some o) (hw:Region.wanted o (yielded ops tm)=true) (hk:b.kind≠ .early)
    (hnd:(match o.op with | .defer _=>false | _=>true)=true)
    (x: ∀ h,Φ h→ ∀ w:World,w.heap=h→ ∃ v w' es,(execOp (ev tm) o).runT P w #[]=(.ok (.value v) w',es)∧Calm w w'∧Reach P .lone (G (F b (put tm o.dst v) df (.inRegion ops rest::k)) cs) w'.heap Stop):
    RS P .lone (G (F b tm df (.inRegion ops (i::rest)::k)) cs) Φ Stop:=by
  intro h y w hwh
  obtain ⟨v,w',es,e1,c,r⟩:=x h y w hwh
  have hk':(b.kind == CallKind.early)=false:=by simpa using hk
  have he:Frame.eval (F b tm df (.inRegion ops (i::rest)::k))=ev tm:=zdw
  have hs:stepG P true (G (F b tm df (.inRegion ops (i::rest)::k)) cs) w=stepG.apply P true (F b tm df (.inRegion ops (i::rest)::k)) cs none (execOp (ev tm) o) w:=by
    simp only [F] at he
    simp only [G,stepG,stepG.exec,F,ho,Option.map_some,hw,Option.getD_some,if_true,stepG.oper,Frame.oper?,he]
    cases hrn:b.roundOf with
    | none=>rfl
    | some l=>
      revert hnd
      cases o.op <;> simp
  have hgo:stepG P true (G (F b tm df (.inRegion ops (i::rest)::k)) cs) w= .go (G ((F b tm df (.inRegion ops (i::rest)::k)).finish v) cs) w' (seen P b.fn es):=by
    rw [hs]
    simp only [stepG.apply,if_true,e1,GStep.after,G,Array.append_empty]
    rw [if_neg (show ¬ ((F b tm df (.inRegion ops (i::rest)::k)).kind == CallKind.early)=true from fun z=>by rw [show (F b tm df (.inRegion ops (i::rest)::k)).kind=b.kind from rfl,hk'] at z;cases z)]
    rfl
  rw [xev ho] at hgo
  obtain ⟨g2,w2,a2,b2,c2⟩:=r w' rfl
  exact ⟨g2,w2,.head (ysv rfl hgo) a2,b2,c.trans c2⟩
end
end Go.X
namespace Go.X
open Go.Conc

section
variable {P:Program} {f:FuncId} {r:Rd} {df:List Deferred} {k:List Item} {cs:List Frame} {Stop:Goroutine→Heap→Prop} {ops rest:List Oper} {tm:List Value}
  {h₀:Heap} {B₀:List Nat} {p:PHeap} {L:Pcs} {ty:TypeId} {pos:String} {aft:Array Edge} {gd:Option (Nat × Bool)}
theorem zbj {o:Oper} {Φ:Heap→Prop} {K:Value→Heap→Prop} (hm:Met ops tm o true) (hd:noDefer o.op=true) (hx: ∀ h,Φ h→ ∀ w:World,w.heap=h→ ∃ v w',(execOp (evl tm) o).run P w= .ok (.value v) w'∧Calm w w'∧K v w'.heap)
    (n: ∀ v,RL P .lone f r df k cs Stop ops rest (putl tm o.dst v) (K v)):RL P .lone f r df k cs Stop ops (o::rest) tm Φ:=by
  intro pre e
  rw [ybv]
  refine wdj (yyx e) (xgk hm) xxz (by revert hd;cases o.op <;> simp [noDefer]) fun h y w hw=>?_
  rw [xkx]
  obtain ⟨v,w',e1,c,hK⟩:=hx h y w hw
  refine ⟨v,w',((execOp (evl tm) o).runT P w #[]).2,Prod.ext ?_ rfl,c,?_⟩
  · rw [Sem.runT_fst];exact e1
  have:=n v (pre++[o]) (by simp [e]) w'.heap hK
  rw [xfx]
  simpa [FL] using this

theorem zmq {dd:Nat} {src dst e:TypeId} {x:Operand} {l:List UInt8} (hm:Met ops tm ⟨some dd,.convert src dst x,ty,pos,aft,gd⟩ true) (hs:P.underlying src=some .string) (hd:P.underlying dst=some (.slice e)) (he:P.underlying e=some (.int .u8)) (hx:evl tm x=sv l)
    (n: ∀ b cap rest' z,((bcs l).flatten++rest').length=cap→RL P .lone f r df k cs Stop ops rest (tm.set dd (.slice (some ⟨b,0,none⟩) l.length cap)) (fun h=>St h₀ B₀ p h ((b,.cells ((bcs l).flatten++rest').toArray e z)::L))):
    RL P .lone f r df k cs Stop ops (⟨some dd,.convert src dst x,ty,pos,aft,gd⟩::rest) tm (fun h=>St h₀ B₀ p h L):=by
  have hf: ∀ l:List UInt8,(bcs l).flatten=l.map fun b=>Value.int .u8 ((b.toNat:Nat):Int):=fun l=>by
    induction l with
    | nil=>rfl
    | cons a l ih=>simp only [bcs] at ih ⊢;simp [ih]
  refine zbj (K:=fun v h=>∃ b cap rest' z,((bcs l).flatten++rest').length=cap∧v= .slice (some ⟨b,0,none⟩) l.length cap∧St h₀ B₀ p h ((b,.cells ((bcs l).flatten++rest').toArray e z)::L)) hm rfl (fun h s w hw=>?_)
    fun v=>xgj fun b=>xgj fun cap=>xgj fun rest'=>xgj fun z=>xez fun h1=>xez fun h2=>by subst h2;exact n b cap rest' z h1
  subst hw
  have hrun:=Lib.run_convert_string_bytes (P:=P) w src dst e (bs l) hs hd he
  have hg:l.length≤grownCap w (bs l).size 0 e:=by have:=grownCap_ge w (bs l).size 0 e;rw [xlw] at this ⊢;exact this
  have hc:Lib.bytesCells w e (bs l)=((bcs l).flatten++List.replicate (grownCap w (bs l).size 0 e-l.length) (Value.int .u8 0)).toArray:=by
    unfold Lib.bytesCells
    apply Array.ext'
    rw [hf,xlw]
    simp [bs]
  refine ⟨.slice (some ⟨w.heap.size,0,none⟩) (bs l).size (grownCap w (bs l).size 0 e),Lib.bytesWorld w e (bs l),?_,?_,w.heap.size,grownCap w (bs l).size 0 e,List.replicate (grownCap w (bs l).size 0 e-l.length) (Value.int .u8 0),((Lib.bytesCells w e (bs l)).size,(Lib.bytesCells w e (bs l)).size+1),?_,by rw [xlw],?_⟩
  · simp only [execOp,hx,sv]
    simp [hrun]
  · exact ⟨by simp [Lib.bytesWorld,World.freeze];rfl,by simp [Lib.bytesWorld,World.freeze],by simp [Lib.bytesWorld,World.freeze];rfl,by rw [Lib.bytesWorld_size];omega⟩
  · rw [hf,List.length_append,List.length_map,List.length_replicate]
    omega
  · have hn:=Lib.bytesWorld_at_new w e (bs l)
    have nw:New w.heap (Lib.bytesWorld w e (bs l)).heap [(w.heap.size,.cells ((bcs l).flatten++List.replicate (grownCap w (bs l).size 0 e-l.length) (Value.int .u8 0)).toArray e ((Lib.bytesCells w e (bs l)).size,(Lib.bytesCells w e (bs l)).size+1))]:=by
      refine ⟨⟨by rw [Lib.bytesWorld_size];omega,fun b hb=>Lib.bytesWorld_at_old w e (bs l) b hb⟩,fun x hx=>?_,by simp⟩
      rw [List.mem_singleton.1 hx]
      refine ⟨?_,Nat.le_refl _⟩
      rw [hn,← hc]
    exact s.callN nw
def Byts (p:PHeap) (a:Option Addr) (n:Nat) (l:List UInt8):Prop:=Sl p a n 1 (bcs l)
theorem Byts.len {a:Option Addr} {n:Nat} {l:List UInt8} (s:Byts p a n l):l.length=n:=by have:=Sl.len s;simpa [bcs] using this
theorem Byts.mono {p':PHeap} {a:Option Addr} {n:Nat} {l:List UInt8} (hp:PLe p p') (s:Byts p a n l):Byts p' a n l:=Sl.mono hp s
theorem Byts.ne {a:Option Addr} {n:Nat} {l:List UInt8} (s:Byts p a n l) (hk:0<n):a=some (adr a):=Sl.ne s hk
theorem Byts.get {a:Option Addr} {n i:Nat} {l:List UInt8} (s:Byts p a n l) (hk:i<n):pcell p ((adr a).add (i*1))=some (.int .u8 (((l.getD i 0).toNat:Nat):Int)):=by
  have hl:=s.len
  exact Sl.get s i [.int .u8 (((l.getD i 0).toNat:Nat):Int)] (by rw [bcs,List.getElem?_map,List.getD_eq_getElem?_getD,List.getElem?_eq_getElem (by omega)];rfl) 0 _ rfl
theorem ytv {dd:Nat} {src dst e:TypeId} {x:Operand} {l:List UInt8} (hm:Met ops tm ⟨some dd,.convert src dst x,ty,pos,aft,gd⟩ true) (hs:P.underlying src=some .string) (hd:P.underlying dst=some (.slice e)) (he:P.underlying e=some (.int .u8)) (hx:evl tm x=sv l)
    (n: ∀ p' a cap,PLe p p'→Byts p' a l.length l→l.length≤cap→RL P .lone f r df k cs Stop ops rest (tm.set dd (.slice a l.length cap)) (fun h=>St h₀ B₀ p' h L)):
    RL P .lone f r df k cs Stop ops (⟨some dd,.convert src dst x,ty,pos,aft,gd⟩::rest) tm (fun h=>St h₀ B₀ p h L):=by
  refine zmq hm hs hd he hx fun b cap rest' z hcap=>fun pre e h s=>?_
  obtain ⟨le,s'⟩:=s.last
  have hw: ∀ e∈bcs l,e.length=1:=fun e he=>by
    obtain ⟨x,_,rfl⟩:=List.mem_map.1 he
    rfl
  have hfl:=xhj hw
  refine n _ (some ⟨b,0,none⟩) cap le ⟨by simp [bcs],hw,fun _=>rfl,fun i e' hi j x hj=>?_⟩ (by rw [← hcap,List.length_append,hfl,xwv];omega) pre e h s'
  show pcell _ (((⟨b,0,none⟩:Addr).add (i*1)).add j)=_
  rw [xkz,xkz]
  unfold pcell
  simp only [xvx,Option.isSome_none,Bool.false_eq_true,if_false,List.getElem?_toArray,Nat.zero_add]
  have:=xjk hw hi hj
  rw [List.getElem?_append_left (List.getElem?_eq_some_iff.1 this).1]
  exact this
end
end Go.X
namespace Go.X
open Go.Conc

section
variable {P:Program} {h h₀:Heap} {B₀:List Nat} {p:PHeap} {A X C:Pcs} {tm:List Value} {d:Option Tmp} {ty:TypeId} {pos:String} {aft:Array Edge} {gd:Option (Nat × Bool)}
theorem ydx (f:Value→ByteArray→Sem (ForInStep ByteArray)) (hf: ∀ (n:Int) (r:ByteArray) (K:ForInStep ByteArray→Heap→Prop),K (.yield (r.push (UInt8.ofNat n.toNat))) h→wpS P (f (.int .u8 n) r) h K):
    ∀ (l:List UInt8) (m:List UInt8) (K:ByteArray→Heap→Prop),K (bs (m++l)) h→wpS P (forIn (l.map fun b=>Value.int .u8 ((b.toNat:Nat):Int)) (bs m) f) h K:=by
  intro l
  induction l with
  | nil=>intro m K k;rw [List.append_nil] at k;exact xbx k
  | cons b l ih=>
    intro m K k
    rw [List.map_cons,List.forIn_cons]
    refine xbq (hf _ _ _ ?_)
    have e:(bs m).push (UInt8.ofNat (((b.toNat:Nat):Int)).toNat)=bs (m++[b]):=by
      apply ByteArray.ext
      simp [bs]
    rw [e]
    refine ih _ _ ?_
    rw [List.append_assoc]
    exact k
theorem xvw {src dst e:TypeId} {x:Operand} {v:Value} {l:List UInt8} (o:OwnS e 1 v (bcs l) X) (s:St h₀ B₀ p h (A++(X++C))) (hs:P.underlying src=some (.slice e)) (hd:P.underlying dst=some .string) (he:P.underlying e=some (.int .u8)) (hx:evl tm x=v):
    Exd P tm ⟨d,.convert src dst x,ty,pos,aft,gd⟩ h (sv l):=by
  refine xpk (s:=convert src dst v) (by simp only [execOp,hx]) ?_
  unfold convert
  refine xbq (xcv hs ?_)
  refine xbq (xcv hd ?_)
  obtain ⟨hw,⟨rfl,h0,rfl⟩ | ⟨b,cs,cap,rest,rfl,rfl,hcs,hlen,_⟩⟩:=o
  · have:l=[]:=by simpa [bcs] using h0
    subst this
    simp only
    refine xbq (xcv he ?_)
    exact xbx ⟨rfl,rfl⟩
  · simp only
    refine xbq (xcv he ?_)
    simp only [Conv.bytesToString]
    have hfl:=xhj hw
    have hL:(A++([(b,Obj.cells (List.toArray cs) e (0,0))]++C))[A.length]?=some (b,.cells (List.toArray cs) e (0,0)):=by
      rw [List.getElem?_append_right (Nat.le_refl _)];simp
    refine xbq (xkk (vs:=(bcs l).flatten) (by rw [hfl];simp) (fun j u hj=>?_) ?_)
    · rw [xkz]
      refine s.ocell hL ?_
      rw [List.getElem?_toArray,hcs,Nat.zero_add,List.getElem?_append_left (List.getElem?_eq_some_iff.1 hj).1]
      exact hj
    · have hf: ∀ l:List UInt8,(bcs l).flatten=l.map fun b=>Value.int .u8 ((b.toNat:Nat):Int):=fun l=>by
        induction l with
        | nil=>rfl
        | cons a l ih=>simp only [bcs] at ih ⊢;simp [ih]
      rw [hf]
      simp only [List.forIn_toArray]
      refine xbq ?_
      exact ydx _ (fun n r K k=>xbx k) l [] _ (xbx ⟨rfl,rfl⟩)
theorem zfx {z:Int} (h0:0≤z) (h1:z≤255):[[Value.int .u8 z]]=bcs [UInt8.ofNat z.toNat]:=by
  have e:(((UInt8.ofNat z.toNat).toNat:Nat):Int)=z:=by
    rw [UInt8.toNat_ofNat_of_lt' (by show z.toNat<256;omega)]
    omega
  simp only [bcs,List.map_cons,List.map_nil,e]
end
end Go.X
namespace Go.X
open Go.Conc

def tkV (v:Value) (k:Nat):Value:=match v with
  | .slice a _ c=>.slice a k c
  | v=>v
theorem OwnS.take {T:TypeId} {w:Nat} {v:Value} {es:List (List Value)} {X:Pcs} (o:OwnS T w v es X) {k:Nat} (hk:k≤es.length):OwnS T w (tkV v k) (es.take k) X:=by
  obtain ⟨h1,⟨rfl,rfl,rfl⟩ | ⟨b,cs,cap,rest,rfl,rfl,hcs,hlen,hcap⟩⟩:=o
  · obtain rfl:k=0:=by simpa using hk
    exact ⟨by simp,.inl ⟨rfl,rfl,rfl⟩⟩
  · refine ⟨fun e he=>h1 e (List.mem_of_mem_take he),.inr ⟨b,cs,cap,(es.drop k).flatten++rest,?_,rfl,?_,hlen,hcap⟩⟩
    · simp [tkV,Nat.min_eq_left hk]
    · rw [hcs,← List.append_assoc,← List.flatten_append,List.take_append_drop]
section
variable {P:Program} {h:Heap} {tm:List Value} {d:Option Tmp} {ty:TypeId} {pos:String} {aft:Array Edge} {gd:Option (Nat × Bool)}
theorem zrx {t e:TypeId} {x:Operand} {hi:Option Operand} {T:TypeId} {w k n:Nat} {v:Value} {es:List (List Value)} {X:Pcs} (hw:0<w) (o:OwnS T w v es X) (hn:es.length=n) (ht:P.underlying t=some (.slice e)) (hs:sizeT P e=some w) (hx:evl tm x=v)
    (bh:Bd tm hi n k) (hk:k≤n):Exd P tm ⟨d,.slice t x none hi none,ty,pos,aft,gd⟩ h (tkV v k):=by
  obtain ⟨h1,⟨rfl,rfl,rfl⟩ | ⟨b,cs,cap,rest,rfl,rfl,hcs,hlen,hcap⟩⟩:=o
  · have hn0:n=0:=hn.symm
    subst hn0
    obtain rfl:k=0:=by omega
    have:=yvz (P:=P) (tm:=tm) (d:=d) (ty:=ty) (pos:=pos) (aft:=aft) (gd:=gd) (h:=h) (w:=w) ht hs hx (.none _) bh (Nat.le_refl 0) (Nat.le_refl 0)
    exact this
  · subst hn
    have hle:k≤cap:=by
      have:=xhj h1
      rw [hcs,List.length_append,this] at hlen
      exact Nat.le_trans hk (Nat.le_of_mul_le_mul_right (by omega) hw)
    have:=yvz (P:=P) (tm:=tm) (d:=d) (ty:=ty) (pos:=pos) (aft:=aft) (gd:=gd) (h:=h) (w:=w) ht hs hx (.none _) bh (Nat.zero_le _) hle
    have e:cutA (some (⟨b,0,none⟩:Addr)) cap 0 w=some ⟨b,0,none⟩:=by
      unfold cutA
      split
      · rfl
      · simp [Addr.add]
    rw [e] at this
    exact this
theorem wgk {md:Md} {ops:List Oper} {tm':List Value} {h₀:Heap} {B₀:List Nat} {p:PHeap} {A U:Pcs} {q:Value→Pcs→Prop} {o:Oper} {v:Value} (hm:Met ops tm' o true) (hx: ∀ C h,St h₀ B₀ p h (U++(A++C))→Exd P tm' o h v) (hq:q v []):Mix P md ops tm' h₀ B₀ p A U q o:=
  .inl ⟨hm,fun C h s=>.inl (xhk (hx C h s) fun _ _ ⟨v',e1,e2,e3⟩=>⟨v',.inl e1,[],by rw [e2];exact hq,by rw [e3];exact s.dropA⟩)⟩
theorem St.one1 {h₀ h:Heap} {B₀:List Nat} {p:PHeap} {X C:Pcs} (s:St h₀ B₀ p h ((X++[])++C)):St h₀ B₀ p h (([]:Pcs)++(X++C)):=by simpa using s
theorem St.assoc {h₀ h:Heap} {B₀:List Nat} {p:PHeap} {A X C:Pcs} (s:St h₀ B₀ p h (A++(X++C))):St h₀ B₀ p h ((A++X)++C):=by rwa [List.append_assoc]
theorem St.assoc' {h₀ h:Heap} {B₀:List Nat} {p:PHeap} {A X C:Pcs} (s:St h₀ B₀ p h ((A++X)++C)):St h₀ B₀ p h (A++(X++C)):=by rwa [List.append_assoc] at s
end
end Go.X
namespace Go.X
open Go.Conc

def OwnB (v:Value) (l:List UInt8) (X:Pcs):Prop:=∃ b cs cap rest,v= .slice (some ⟨b,0,none⟩) l.length cap∧X=[(b,.cells (List.toArray cs) 5 (cap,cap+1))]∧cs=(bcs l).flatten++rest∧cs.length=cap
theorem xrz (l:List UInt8):(bcs l).flatten=l.map fun b=>Value.int .u8 ((b.toNat:Nat):Int):=by
  induction l with
  | nil=>rfl
  | cons a l ih=>simp only [bcs] at ih ⊢;simp [ih]
section
variable {P:Program} {f:FuncId} {r:Rd} {df:List Deferred} {k:List Item} {cs:List Frame} {Stop:Goroutine→Heap→Prop} {ops rest:List Oper} {tm:List Value}
  {h₀:Heap} {B₀:List Nat} {p:PHeap} {A C:Pcs} {L:Pcs} {ty:TypeId} {pos:String} {aft:Array Edge} {gd:Option (Nat × Bool)} {v:Value} {l:List UInt8} {X:Pcs}
theorem zmx {dd:Nat} {src dst:TypeId} {x:Operand} {l:List UInt8} (A:Pcs) (hm:Met ops tm ⟨some dd,.convert src dst x,ty,pos,aft,gd⟩ true) (hs:P.underlying src=some .string) (hd:P.underlying dst=some (.slice 5)) (he:P.underlying 5=some (.int .u8)) (hx:evl tm x=sv l)
    (n: ∀ v X,OwnB v l X→RL P .lone f r df k cs Stop ops rest (tm.set dd v) (fun h=>St h₀ B₀ p h (A++(X++C)))):
    RL P .lone f r df k cs Stop ops (⟨some dd,.convert src dst x,ty,pos,aft,gd⟩::rest) tm (fun h=>St h₀ B₀ p h (A++C)):=by
  refine zbj (K:=fun v h=>∃ X,OwnB v l X∧St h₀ B₀ p h (A++(X++C))) hm rfl (fun h s w hw=>?_) fun v=>xgj fun X=>xez fun o=>n v X o
  subst hw
  have hrun:=Lib.run_convert_string_bytes (P:=P) w src dst 5 (bs l) hs hd he
  have hg:l.length≤grownCap w (bs l).size 0 5:=by have:=grownCap_ge w (bs l).size 0 5;rw [xlw] at this ⊢;exact this
  have hc:Lib.bytesCells w 5 (bs l)=((bcs l).flatten++List.replicate (grownCap w (bs l).size 0 5-l.length) (Value.int .u8 0)).toArray:=by
    unfold Lib.bytesCells
    apply Array.ext'
    rw [xrz,xlw]
    simp [bs]
  have hsz:(Lib.bytesCells w 5 (bs l)).size=grownCap w (bs l).size 0 5:=by
    rw [hc,xrz]
    simp only [List.size_toArray,List.length_append,List.length_map,List.length_replicate]
    omega
  refine ⟨.slice (some ⟨w.heap.size,0,none⟩) (bs l).size (grownCap w (bs l).size 0 5),Lib.bytesWorld w 5 (bs l),?_,?_,[(w.heap.size,.cells ((bcs l).flatten++List.replicate (grownCap w (bs l).size 0 5-l.length) (Value.int .u8 0)).toArray 5 (grownCap w (bs l).size 0 5,grownCap w (bs l).size 0 5+1))],⟨w.heap.size,_,_,_,by rw [xlw],rfl,rfl,?_⟩,?_⟩
  · simp only [execOp,hx,sv]
    simp [hrun]
  · exact ⟨by simp [Lib.bytesWorld,World.freeze];rfl,by simp [Lib.bytesWorld,World.freeze],by simp [Lib.bytesWorld,World.freeze];rfl,by rw [Lib.bytesWorld_size];omega⟩
  · rw [xrz,List.length_append,List.length_map,List.length_replicate]
    omega
  · have hn:=Lib.bytesWorld_at_new w 5 (bs l)
    have nw:New w.heap (Lib.bytesWorld w 5 (bs l)).heap [(w.heap.size,.cells ((bcs l).flatten++List.replicate (grownCap w (bs l).size 0 5-l.length) (Value.int .u8 0)).toArray 5 (grownCap w (bs l).size 0 5,grownCap w (bs l).size 0 5+1))]:=by
      refine ⟨⟨by rw [Lib.bytesWorld_size];omega,fun b hb=>Lib.bytesWorld_at_old w 5 (bs l) b hb⟩,fun x hx=>?_,by simp⟩
      rw [List.mem_singleton.1 hx]
      refine ⟨?_,Nat.le_refl _⟩
      rw [hn,← hc,hsz]
    exact s.callNA nw
theorem zyw {src dst:TypeId} {x:Operand} {d:Option Tmp} {h:Heap} (o:OwnB v l X) (s:St h₀ B₀ p h L) (hX: ∀ x∈X,x∈L) (hs:P.underlying src=some (.slice 5)) (hd:P.underlying dst=some .string) (he:P.underlying 5=some (.int .u8)) (hx:evl tm x=v):
    Exd P tm ⟨d,.convert src dst x,ty,pos,aft,gd⟩ h (sv l):=by
  refine xpk (s:=convert src dst v) (by simp only [execOp,hx]) ?_
  unfold convert
  refine xbq (xcv hs ?_)
  refine xbq (xcv hd ?_)
  obtain ⟨b,cs,cap,rest,rfl,rfl,hcs,hlen⟩:=o
  obtain ⟨i,hi⟩:=List.mem_iff_getElem?.1 (hX (b,.cells (List.toArray cs) 5 (cap,cap+1)) (by simp))
  simp only
  refine xbq (xcv he ?_)
  simp only [Conv.bytesToString]
  refine xbq (xkk (vs:=(bcs l).flatten) (by rw [xrz];simp) (fun j u hj=>?_) ?_)
  · rw [xkz]
    refine s.ocell hi ?_
    rw [List.getElem?_toArray,hcs,Nat.zero_add,List.getElem?_append_left (List.getElem?_eq_some_iff.1 hj).1]
    exact hj
  · rw [xrz]
    simp only [List.forIn_toArray]
    refine xbq ?_
    exact ydx _ (fun n r K k=>xbx k) l [] _ (xbx ⟨rfl,rfl⟩)
theorem zik {t:TypeId} {x y:Operand} {d:Option Tmp} {h:Heap} {z:Int} (o:OwnB v l X) (ht:P.underlying t=some (.slice 5)) (hs:sizeT P 5=some 1) (hx:evl tm x=v) (hy:evl tm y= .int .i64 z) (h0:0≤z) (hi:z.toNat<l.length):
    Exd P tm ⟨d,.indexAddr t x y,ty,pos,aft,gd⟩ h (.pointer (some ((adrV v).add (z.toNat*1)))):=by
  obtain ⟨b,cs,cap,rest,rfl,_,_,_⟩:=o
  exact xbw (i:=z.toNat) ht hs hx (by rw [hy,Int.toNat_of_nonneg h0]) hi
theorem zfw {b off i z1 z2:Nat} {T:TypeId} {h:Heap} {cs:List Value} {u:Value} {K:Unit→Heap→Prop} (s:St h₀ B₀ p h L) (hL:L[i]?=some (b,.cells cs.toArray T (z1,z2))) (hlen:off<cs.length) (hz:off<z1) (h1:isOne u=true)
    (n: ∀ h',St h₀ B₀ p h' (L.set i (b,.cells (cs.set off u).toArray T (z1,z2)))→K () h'):wpS P (storeCells ⟨b,off,none⟩ [u] 0) h K:=by
  unfold storeCells
  refine xbq ?_
  rw [xkz,Nat.add_zero]
  refine ⟨rfl,h1,⟨cs[off],s.ocell hL (by simp)⟩,?_,?_⟩
  · unfold frozenAt;rw [s.at hL]
    have:decide (z1≤off)=false:=decide_eq_false (by omega)
    simp [this]
  · have s':=s.store (off:=off) (v:=u) hL
    rw [xux] at s'
    exact xbx (n _ s')
theorem OwnB.store {i:Nat} {c:UInt8} {h:Heap} {K:Heap→Prop} {T:TypeId} {x y:Operand} {u:Int} (o:OwnB v l X) (s:St h₀ B₀ p h (A++(X++C))) (hs:sizeT P T=some 1) (hx:evl tm x= .pointer (some ((adrV v).add (i*1)))) (hy:evl tm y= .int .u8 u) (hu:u=((c.toNat:Nat):Int)) (hi:i<l.length)
    (n: ∀ X' h',OwnB v (l.set i c) X'→St h₀ B₀ p h' (A++(X'++C))→K h'):wpS P (execOp (evl tm) ⟨none,.store T x y,ty,pos,aft,gd⟩) h fun n h'=>n= .skip∧K h':=by
  obtain ⟨b,cs,cap,rest,rfl,rfl,hcs,hlen⟩:=o
  have hx':evl tm x= .pointer (some ⟨b,i,none⟩):=by rw [hx];simp only [adrV];rw [xkz,Nat.zero_add,Nat.mul_one]
  have hfl:(bcs l).flatten.length=l.length:=by rw [xrz];simp
  have hle:l.length≤cap:=by rw [← hlen,hcs,List.length_append,hfl];omega
  simp only [execOp,hx',hy]
  refine xbq ?_
  unfold Instr.storeAt
  refine xbq (xbx ?_)
  unfold storeVar
  refine xbq (xjz hs ?_)
  rw [if_neg (by simp [Value.cells])]
  have hL:(A++([(b,Obj.cells (List.toArray cs) 5 (cap,cap+1))]++C))[A.length]?=some (b,.cells (List.toArray cs) 5 (cap,cap+1)):=by
    rw [List.getElem?_append_right (Nat.le_refl _)];simp
  have hc:(Value.int IntKind.u8 u).cells.toList=[.int .u8 u]:=rfl
  rw [hc]
  refine zfw s hL (by omega) (by omega) rfl fun h' s'=>?_
  refine xbx ⟨rfl,n [(b,.cells (cs.set i (.int .u8 u)).toArray 5 (cap,cap+1))] h' ⟨b,cs.set i (.int .u8 u),cap,rest,by simp,rfl,?_,by simpa using hlen⟩ ?_⟩
  · rw [hcs,List.set_append_left _ _ (by omega),xrz,xrz,List.map_set,hu]
  · have e6:(A++([(b,Obj.cells (List.toArray cs) 5 (cap,cap+1))]++C)).set A.length (b,.cells (cs.set i (.int .u8 u)).toArray 5 (cap,cap+1))=A++([(b,.cells (cs.set i (.int .u8 u)).toArray 5 (cap,cap+1))]++C):=by
      rw [List.set_append_right _ _ (Nat.le_refl _)];simp
    rw [e6] at s'
    exact s'
theorem zlw {md:Md} {i:Nat} {c:UInt8} {T:TypeId} {x y:Operand} {u:Int} (o:OwnB v l X) (hm:Met ops tm ⟨none,.store T x y,ty,pos,aft,gd⟩ true) (hs:sizeT P T=some 1) (hx:evl tm x= .pointer (some ((adrV v).add (i*1)))) (hy:evl tm y= .int .u8 u) (hu:u=((c.toNat:Nat):Int)) (hi:i<l.length)
    (n: ∀ X',OwnB v (l.set i c) X'→RL P md f r df k cs Stop ops rest tm (fun h=>St h₀ B₀ p h (A++(X'++C)))):
    RL P md f r df k cs Stop ops (⟨none,.store T x y,ty,pos,aft,gd⟩::rest) tm (fun h=>St h₀ B₀ p h (A++(X++C))):=
  yyq (K:=fun h'=>∃ X',OwnB v (l.set i c) X'∧St h₀ B₀ p h' (A++(X'++C))) hm rfl (fun _ s=>o.store s hs hx hy hu hi fun X' _ o' s'=>⟨X',o',s'⟩) rfl (xgj fun X'=>xez fun o'=>n X' o')
end
end Go.X
namespace Go.X
open Go.Conc

section
variable {P:Program} {h:Heap}

def EqOk (P:Program) (d:Nat) (xs ys:Array Value):List Field→Bool→Prop
  | [],r=>r=true
  | f :: fs, r => f.name ≠ "_" ∧ ∃ a b q, (∀ h (K : Value → Heap → Prop), K a h → wpS P (part f.type xs f.offset) h K) ∧ (∀ h (K : Value → Heap → Prop), K b h → wpS P (part f.type ys f.offset) h K) ∧
      (∀ h (K:Bool→Heap→Prop),K q h→wpS P (Op.equalIn d f.type a b) h K)∧(q=false∧r=false∨q=true∧EqOk P d xs ys fs r)

variable {tm:List Value} {d:Option Tmp} {ty:TypeId} {pos:String} {aft:Array Edge} {gd:Option (Nat × Bool)}
end
end Go.X
namespace Go.X
open Go.Conc
section
variable {P:Program} {h:Heap} {tm:List Value} {d:Option Tmp} {ty:TypeId} {pos:String} {aft:Array Edge} {gd:Option (Nat × Bool)}
end
end Go.X
namespace Go.Proofs.YtphalmjpbnffcaaGreatDoor
open Go.X Go.X.Kn Go.Conc
set_option maxRecDepth 10000
set_option synthInstance.maxSize 2000

set_option maxHeartbeats 2000000
theorem c30 (md:Md) (h:Heap) (n lo hi:Int):CallsX Tryz.prog md 30 #[.int .i64 (n),.int .i64 (lo),.int .i64 (hi)] h fun v h'=>v= .bool (decide (lo≤n∧n≤hi))∧Keep h h':=by
 refine xbk (Φ:=fun h_=>St h [] (fun _=>none) h_ []) Tryz.func30 rfl (tm:=zq1 (zq2 (zq8 []))) rfl ?_ (St.start h _ (fun _ _ e=>by cases e))
 intro c₀ cs Stop K
 refine fsr <| ro (xax (v:=.bool (false)) rfl) <| ren <| xak <| ro (xaz (v:=.int .i64 (n)) rfl) <| rt (xaz (v:=.int .i64 (lo)) rfl) (tm':=zq1 (zq2 (zq8 []))) rfl ?_
 refine ro (xaz (v:=.int .i64 (hi)) rfl) ?_
 refine xdj mn (first:=[]) (cap:=[]) rfl rfl fC8 (fun h_ H_=>c8 md _ (n) (lo) (hi)) rfl ?_
 refine rt (xax (v:=.bool (decide (lo≤n∧n≤hi))) rfl) (tm':=zq1 (zq2 (zq4 _))) rfl <| xav ?_
 refine xck Tryz.func30 rfl (vs:=[.bool (decide (lo≤n∧n≤hi))]) (fun h_ H_=>⟨.bool (decide (lo≤n∧n≤hi)),_,rfl,rfl,rfl⟩) (v:=.bool (decide (lo≤n∧n≤hi))) rfl ?_
 exact fun h_ H_=>K _ _ ⟨by first | rfl | simp [*],H_.kept⟩
theorem c35 (md:Md) (h:Heap) (n lo hi:Int):CallsX Tryz.prog md 35 #[.int .i64 (n),.int .i64 (lo),.int .i64 (hi)] h fun v h'=>v= .bool (decide (lo≤n∧n≤hi))∧Keep h h':=by
 refine xbk (Φ:=fun h_=>St h [] (fun _=>none) h_ []) Tryz.func35 rfl (tm:=zq1 (zq2 (zq4 (zq8 [])))) rfl ?_ (St.start h _ (fun _ _ e=>by cases e))
 intro c₀ cs Stop K
 refine fsr <| ro (xax (v:=.bool (false)) rfl) <| ren <| xak <| ro (xaz (v:=.int .i64 (lo)) rfl) <| rt (xaz (v:=.int .i64 (n)) rfl) (tm':=zq1 (zq8 _)) rfl ?_
 refine ro (ycj rfl rfl) <| ro (xaz (v:=.bool (decide (lo≤n))) rfl) ?_
 by_cases cc1:lo≤n
 ·
  refine xaj (ms rfl rfl (dtt cc1)) (fun h_ H_=>xaz (v:=.int .i64 (n)) rfl) (tm':=zq1 (zq2 (zq4 (zq8 [])))) rfl ?_
  refine xaj (ms rfl rfl (dtt cc1)) (fun h_ H_=>xaz (v:=.int .i64 (hi)) rfl) rfl ?_
  refine xaj (ms rfl rfl (dtt cc1)) (fun h_ H_=>ycj rfl rfl) rfl ?_
  refine rt (xdz rfl (dtt cc1) (v:=.bool (decide (n≤hi))) rfl) (tm':=zq1 (zq2 (zq4 (zq8 [])))) rfl <| ro (xax (v:=.bool (decide (n≤hi))) rfl) <| xav ?_
  refine xck Tryz.func35 rfl (vs:=[.bool (decide (n≤hi))]) (fun h_ H_=>⟨.bool (decide (n≤hi)),_,rfl,rfl,rfl⟩) (v:=.bool (decide (n≤hi))) rfl ?_
  exact fun h_ H_=>K _ _ ⟨by first | rfl | simp [*],H_.kept⟩
 ·
  refine rp (mo rfl rfl (dff cc1)) <| xdk (mo rfl rfl (dff cc1)) (tm':=zq1 (zq2 (zq4 (zq8 [])))) rfl <| rp (mo rfl rfl (dff cc1)) <| ro (xdw rfl (dff cc1) (v:=.bool (false)) rfl) <| rt (xax (v:=.bool (false)) rfl) (tm':=zq1 (zq2 (zq4 _))) rfl <| xav ?_
  refine xck Tryz.func35 rfl (vs:=[.bool (false)]) (fun h_ H_=>⟨.bool (false),_,rfl,rfl,rfl⟩) (v:=.bool (false)) rfl ?_
  exact fun h_ H_=>K _ _ ⟨by first | rfl | simp [*],H_.kept⟩
theorem c31 (md:Md) (h:Heap) (p:PHeap) (hp:Per p h) (a:Option Addr) (ca:Nat) (A:Nat→Option Addr) (C:Nat→Nat) (b:Option Addr) (cb:Nat) (k:Bk) (_B:BookP p a k.cords.length A C b k.top.length k) (e:Option Addr) (m ce:Nat) (l:List Sp) (S:Sps p e m l) (hm:m≤40) (hb:2≤k.base∧k.base≤10):CallsX Tryz.prog md 31 #[.agg #[.int .i64 (k.base),.int .i64 (k.places),.slice a k.cords.length ca,.slice b k.top.length cb],.slice e m ce] h fun v h'=>v= .bool (decide (cordB k l))∧Keep h h':=by
 refine xbk (Φ:=fun h_=>St h [] p h_ []) Tryz.func31 rfl (tm:=zq1 (zq8 (zq32 []))) rfl ?_ (St.start h _ hp)
 intro c₀ cs Stop K
 have hs:=S.len
 refine fsr ?_
 refine xnv mn (v:=.agg #[.int .i64 (k.base),.int .i64 (k.places),.slice a k.cords.length ca,.slice b k.top.length cb]) rfl fun b1=>xdx (L':=[(b1,.cells #[.int .i64 (k.base),.int .i64 (k.places),.slice a k.cords.length ca,.slice b k.top.length cb] 25 (0,0))]) rfl ?_
 refine ro (xax (v:=.bool (false)) rfl) <| ren <| fsr <| rt (xaz (v:=.slice e m ce) rfl) (tm':=zq1 (zq2 (zq4 _))) rfl <| ro (xfv Tryz.underlying23 rfl) <| ro (xbz xww rfl (a':=⟨b1,1,none⟩) rfl) ?_
 refine xaj mn (fun h_ H_=>xbj H_ tA3 rfl (i:=0) rfl (v:=.int .i64 (k.places)) rfl) (tm':=zq2 (zq8 _)) rfl ?_
 refine ro (xix rfl rfl) <| xav ?_
 by_cases cc2:((m:Nat):Int)≠k.places
 ·
  refine xbv rfl (dtt cc2) <| fsr <| ro (xax (v:=.bool (false)) rfl) <| xav ?_
  refine xck Tryz.func31 rfl (vs:=[.bool (false)]) (fun h_ H_=>⟨.bool (false),_,rfl,rfl,rfl⟩) (v:=.bool (false)) rfl ?_
  exact fun h_ H_=>K _ _ ⟨by first | (rw [decide_eq_true (ygq (by omega) (fun i hi=>h1 i (by omega)))]) | (rw [decide_eq_false (xwj (by omega))]) | (rw [decide_eq_false (yrq (i:=j) (by omega) (ygx (by omega)))]),H_.kept⟩
 ·
  refine xcx rfl (dff cc2) <| xcj <| xaw <| fsr <| rt (xax (v:=.int .i64 0) rfl) (tm':=zq2 (zq4 _)) rfl <| xav ?_
  refine xcw ?_
  refine xhw (m₀:=m-0) (fun m_ tm_ h_=>∃ (j:Nat),m_=m-j∧(∃ y3:Nat→Value,tm_=[.agg #[.int .i64 (k.base),.int .i64 (k.places),.slice a k.cords.length ca,.slice b k.top.length cb],.slice e m ce,.pointer (some ⟨b1,0,none⟩),undef,(y3 4),.int .i64 (((j:Nat):Int)),.slice e m ce,.int .i64 (((m:Nat):Int)),.pointer (some ⟨b1,1,none⟩),.int .i64 (k.places),.bool (decide (((m:Nat):Int)≠k.places)),(y3 11),(y3 12),(y3 13),(y3 14),(y3 15),(y3 16),(y3 17),(y3 18),(y3 19),(y3 20),(y3 21),(y3 22),(y3 23),(y3 24),(y3 25),(y3 26),(y3 27),(y3 28),(y3 29),(y3 30),(y3 31),(y3 32),(y3 33),(y3 34),(y3 35),(y3 36),(y3 37),(y3 38),(y3 39),(y3 40)])∧(j≤m)∧(∀ i,i<j→badS k (l.getD i spz)=false)∧St h [] p h_ ([(b1,.cells #[.int .i64 (k.base),.int .i64 (k.places),.slice a k.cords.length ca,.slice b k.top.length cb] 25 (0,0))])) (fun h_ H_=>⟨0,rfl,(y_of rfl),Nat.zero_le _,(fun i hi=>absurd hi (Nat.not_lt_zero i)),H_⟩) ?_
  intro m_ tm_ IH4
  refine xhv fun j=>xcq fun hm_=>xcq fun ht_=>xcq fun hkj=>xcq fun h1=>?_
  subst hm_;obtain ⟨y3,ht_⟩:=ht_;subst ht_
  refine xaw <| fsr <| ro (xaz (v:=.int .i64 (((j:Nat):Int))) rfl) <| ro (xaz (v:=.slice e m ce) rfl) <| rt (xfv Tryz.underlying23 rfl) (tm':=zq2 (zq4 (zq8 _))) rfl <| ro (xgz rfl rfl) ?_
  refine xav ?_
  by_cases cc5:((j:Nat):Int)<((m:Nat):Int)
  ·
   refine xbv rfl (dtt cc5) <| xcj <| xaw <| xcw <| xaw ?_
   by_cases cc6:0≤(l.getD j spz).2∧(l.getD j spz).2≤k.base-1
   ·
    refine xiw 21 [[],[],[0,1],[0,1,2],[0,1,2,3],[],[5],[5,6],[0,1,2,3,4,5,6,7],[0,1,2,3,4,5,6,7],[0,1,2,3,4,5,6,7,8,9],[],[],[11,12],[11,12,13],[11,12,13,14],[],[0,1,2,3,4,5,6,7,8,9],[0,1,2,3,4,5,6,7,8,9,16,17],[0,1,2,3,4,5,6,7,8,9,16,17,18],[0,1,2,3,4,5,6,7,8,9,16,17,18,19],[0,1,2,3,4,5,6,7,8,9,11,12,13,14,15,16,17,18,19,20],[0,1,2,3,4,5,6,7,8,9,11,12,13,14,15,16,17,18,19,20,21],[]] mixed (by kernel_rfl) (Nat.le_of_ble_eq_true rfl) ?_
    refine wt (xaz (v:=.slice e m ce) rfl) (tm':=zq2 (zq16 _)) rfl <| wo (xaz (v:=.int .i64 (((j:Nat):Int))) rfl) ?_
    refine wt (xbw (i:=j) Tryz.underlying23 tS68 (xmz e m ce (S.ne (by omega))) rfl (by omega)) (tm':=zq4 (zq16 _)) rfl ?_
    refine wo (xbz ykv rfl (a':=((adr e).add (j*2)).add 1) rfl) ?_
    refine xej mn (fun h_ H_=>xcz H_ tA3 rfl (v:=.int .i64 ((l.getD j spz).2)) (S.hi (by omega))) (tm':=zq2 (zq4 (zq16 _))) rfl ?_
    refine wo (xbz xrv rfl (a':=⟨b1,0,none⟩) rfl) ?_
    refine xej mn (fun h_ H_=>xbj H_ tA3 rfl (i:=0) rfl (v:=.int .i64 (k.base)) rfl) (tm':=zq8 (zq16 _)) rfl ?_
    refine wo (xlq rfl rfl (wr (by omega))) ?_
    refine xpq mn (first:=[]) (cap:=[]) rfl rfl fC30 (fun h_ H_=>(c30 md _ ((l.getD j spz).2) (0) (k.base-1)).mono fun v_ h2_ ⟨e_,k_⟩=>⟨e_,H_.call k_⟩) (tm':=zq2 (zq8 (zq16 _))) rfl ?_
    refine wo (xgw rfl) <| wt (xaz (v:=.bool (!(decide (0≤(l.getD j spz).2∧(l.getD j spz).2≤k.base-1)))) rfl) (tm':=zq1 (zq8 (zq32 []))) rfl ?_
    refine xej (ms rfl rfl (xfz (dtt cc6))) (fun h_ H_=>xaz (v:=.slice e m ce) rfl) rfl ?_
    refine xej (ms rfl rfl (xfz (dtt cc6))) (fun h_ H_=>xaz (v:=.int .i64 (((j:Nat):Int))) rfl) (tm':=zq1 (zq8 (zq32 []))) rfl ?_
    refine xej (ms rfl rfl (xfz (dtt cc6))) (fun h_ H_=>xbw (i:=j) Tryz.underlying23 tS68 (xmz e m ce (S.ne (by omega))) rfl (by omega)) rfl ?_
    refine xej (ms rfl rfl (xfz (dtt cc6))) (fun h_ H_=>xbz zkz rfl (a':=(adr e).add (j*2)) rfl) (tm':=zq1 (zq8 (zq32 []))) rfl ?_
    refine xej (ms rfl rfl (xfz (dtt cc6))) (fun h_ H_=>xcz H_ tA3 rfl (v:=.int .i64 ((l.getD j spz).1)) (S.lo (by omega))) rfl ?_
    refine xej (ms rfl rfl (xfz (dtt cc6))) (fun h_ H_=>xaz (v:=.slice e m ce) rfl) (tm':=zq1 (zq8 (zq32 []))) rfl ?_
    refine xej (ms rfl rfl (xfz (dtt cc6))) (fun h_ H_=>xaz (v:=.int .i64 (((j:Nat):Int))) rfl) rfl ?_
    refine xej (ms rfl rfl (xfz (dtt cc6))) (fun h_ H_=>xbw (i:=j) Tryz.underlying23 tS68 (xmz e m ce (S.ne (by omega))) rfl (by omega)) (tm':=zq1 (zq8 (zq32 []))) rfl ?_
    refine xej (ms rfl rfl (xfz (dtt cc6))) (fun h_ H_=>xbz ykv rfl (a':=((adr e).add (j*2)).add 1) rfl) rfl ?_
    refine xej (ms rfl rfl (xfz (dtt cc6))) (fun h_ H_=>xcz H_ tA3 rfl (v:=.int .i64 ((l.getD j spz).2)) (S.hi (by omega))) (tm':=zq1 (zq8 (zq32 []))) rfl ?_
    refine xmk rfl ?_
    refine xdj (ms rfl rfl (xfz (dtt cc6))) (first:=[]) (cap:=[]) rfl rfl fC30 (fun h_ H_=>c30 md _ ((l.getD j spz).1) (0) ((l.getD j spz).2)) rfl ?_
    refine xaj (ms rfl rfl (xfz (dtt cc6))) (fun h_ H_=>xgw rfl) rfl ?_
    refine rt (xdw rfl (xfz (dtt cc6)) (v:=.bool (!(decide (0≤(l.getD j spz).1∧(l.getD j spz).1≤(l.getD j spz).2)))) rfl) (tm':=zq1 (zq8 (zq32 []))) rfl <| xav ?_
    by_cases cc7:0≤(l.getD j spz).1∧(l.getD j spz).1≤(l.getD j spz).2
    ·
     refine xcx rfl (xfz (dtt cc7)) <| xcj <| xdq <| xak <| ro (xaz (v:=.int .i64 (((j:Nat):Int))) rfl) ?_
     refine ro (xfj rfl rfl (n:=((j+1:Nat):Int)) (wr (by omega))) ?_
     refine rt (xax (v:=.int .i64 (((j+1:Nat):Int))) rfl) (tm':=zq2 (zq4 _)) rfl <| xav ?_
     exact fun h_ H_=>IH4 _ _ (by omega) h_ ⟨j+1,rfl,(y_of rfl),(by omega),(xuk h1 (whw (by omega) (by omega))),H_⟩
    ·
     refine xbv rfl (xgx (dff cc7)) <| fsr <| ro (xax (v:=.bool (false)) rfl) <| xav ?_
     refine xck Tryz.func31 rfl (vs:=[.bool (false)]) (fun h_ H_=>⟨.bool (false),_,rfl,rfl,rfl⟩) (v:=.bool (false)) rfl ?_
     exact fun h_ H_=>K _ _ ⟨by first | (rw [decide_eq_true (ygq (by omega) (fun i hi=>h1 i (by omega)))]) | (rw [decide_eq_false (xwj (by omega))]) | (rw [decide_eq_false (yrq (i:=j) (by omega) (ygx (by omega)))]),H_.kept⟩
   ·
    refine xiw 21 [[],[],[0,1],[0,1,2],[0,1,2,3],[],[5],[5,6],[0,1,2,3,4,5,6,7],[0,1,2,3,4,5,6,7],[0,1,2,3,4,5,6,7,8,9],[],[],[11,12],[11,12,13],[11,12,13,14],[],[0,1,2,3,4,5,6,7,8,9],[0,1,2,3,4,5,6,7,8,9,16,17],[0,1,2,3,4,5,6,7,8,9,16,17,18],[0,1,2,3,4,5,6,7,8,9,16,17,18,19],[0,1,2,3,4,5,6,7,8,9,11,12,13,14,15,16,17,18,19,20],[0,1,2,3,4,5,6,7,8,9,11,12,13,14,15,16,17,18,19,20,21],[]] mixed (by kernel_rfl) (Nat.le_of_ble_eq_true rfl) ?_
    refine wt (xaz (v:=.slice e m ce) rfl) (tm':=zq2 (zq16 _)) rfl <| wo (xaz (v:=.int .i64 (((j:Nat):Int))) rfl) ?_
    refine wt (xbw (i:=j) Tryz.underlying23 tS68 (xmz e m ce (S.ne (by omega))) rfl (by omega)) (tm':=zq4 (zq16 _)) rfl ?_
    refine wo (xbz ykv rfl (a':=((adr e).add (j*2)).add 1) rfl) ?_
    refine xej mn (fun h_ H_=>xcz H_ tA3 rfl (v:=.int .i64 ((l.getD j spz).2)) (S.hi (by omega))) (tm':=zq2 (zq4 (zq16 _))) rfl ?_
    refine wo (xbz xrv rfl (a':=⟨b1,0,none⟩) rfl) ?_
    refine xej mn (fun h_ H_=>xbj H_ tA3 rfl (i:=0) rfl (v:=.int .i64 (k.base)) rfl) (tm':=zq8 (zq16 _)) rfl ?_
    refine wo (xlq rfl rfl (wr (by omega))) ?_
    refine xpq mn (first:=[]) (cap:=[]) rfl rfl fC30 (fun h_ H_=>(c30 md _ ((l.getD j spz).2) (0) (k.base-1)).mono fun v_ h2_ ⟨e_,k_⟩=>⟨e_,H_.call k_⟩) (tm':=zq2 (zq8 (zq16 _))) rfl ?_
    refine wo (xgw rfl) <| wt (xaz (v:=.bool (!(decide (0≤(l.getD j spz).2∧(l.getD j spz).2≤k.base-1)))) rfl) (tm':=zq1 (zq8 (zq32 []))) rfl <| wp (mo rfl rfl (xgx (dff cc6))) <| xkv (mo rfl rfl (xgx (dff cc6))) (tm':=zq1 (zq8 (zq32 []))) rfl <| wp (mo rfl rfl (xgx (dff cc6))) <| xkv (mo rfl rfl (xgx (dff cc6))) (tm':=zq1 (zq8 (zq32 []))) rfl ?_
    refine wp (mo rfl rfl (xgx (dff cc6))) <| xkv (mo rfl rfl (xgx (dff cc6))) (tm':=zq1 (zq8 (zq32 []))) rfl <| wp (mo rfl rfl (xgx (dff cc6))) <| xkv (mo rfl rfl (xgx (dff cc6))) (tm':=zq1 (zq8 (zq32 []))) rfl <| wp (mo rfl rfl (xgx (dff cc6))) <| xkv (mo rfl rfl (xgx (dff cc6))) (tm':=zq1 (zq8 (zq32 []))) rfl ?_
    refine xmk rfl ?_
    refine rp (mo rfl rfl (xgx (dff cc6))) <| xdk (mo rfl rfl (xgx (dff cc6))) (tm':=zq1 (zq8 (zq32 []))) rfl <| ro (xdz rfl (xgx (dff cc6)) (v:=.bool (true)) rfl) <| xav <| xbv rfl rfl <| fsr ?_
    refine ro (xax (v:=.bool (false)) rfl) <| xav ?_
    refine xck Tryz.func31 rfl (vs:=[.bool (false)]) (fun h_ H_=>⟨.bool (false),_,rfl,rfl,rfl⟩) (v:=.bool (false)) rfl ?_
    exact fun h_ H_=>K _ _ ⟨by first | (rw [decide_eq_true (ygq (by omega) (fun i hi=>h1 i (by omega)))]) | (rw [decide_eq_false (xwj (by omega))]) | (rw [decide_eq_false (yrq (i:=j) (by omega) (ygx (by omega)))]),H_.kept⟩
  ·
   refine xcx rfl (dff cc5) <| xhz rfl <| fsr <| rt (xax (v:=.bool (true)) rfl) (tm':=zq1 (zq4 _)) rfl <| xav ?_
   refine xck Tryz.func31 rfl (vs:=[.bool (true)]) (fun h_ H_=>⟨.bool (true),_,rfl,rfl,rfl⟩) (v:=.bool (true)) rfl ?_
   exact fun h_ H_=>K _ _ ⟨by first | (rw [decide_eq_true (ygq (by omega) (fun i hi=>h1 i (by omega)))]) | (rw [decide_eq_false (xwj (by omega))]) | (rw [decide_eq_false (yrq (i:=j) (by omega) (ygx (by omega)))]),H_.kept⟩
theorem c6 (md:Md) (h:Heap) (p:PHeap) (hp:Per p h) (a:Option Addr) (ca:Nat) (A:Nat→Option Addr) (C:Nat→Nat) (b:Option Addr) (cb:Nat) (k:Bk) (B:BookP p a k.cords.length A C b k.top.length k) (hn:k.cords.length≤40∧k.top.length≤40∧ ∀ l∈k.cords,l.length≤40):CallsX Tryz.prog md 6 #[.agg #[.int .i64 (k.base),.int .i64 (k.places),.slice a k.cords.length ca,.slice b k.top.length cb]] h fun v h'=>v= .int .i64 (chkK k)∧Keep h h':=by
 refine xbk (Φ:=fun h_=>St h [] p h_ []) Tryz.func6 rfl (tm:=zq2 (zq8 (zq32 []))) rfl ?_ (St.start h _ hp)
 intro c₀ cs Stop K
 refine fsr ?_
 refine xnv mn (v:=.agg #[.int .i64 (k.base),.int .i64 (k.places),.slice a k.cords.length ca,.slice b k.top.length cb]) rfl fun b1=>xdx (L':=[(b1,.cells #[.int .i64 (k.base),.int .i64 (k.places),.slice a k.cords.length ca,.slice b k.top.length cb] 25 (0,0))]) rfl ?_
 refine ro (xax (v:=.int .i64 0) rfl) <| ren <| fsr <| rt (xbz xrv rfl (a':=⟨b1,0,none⟩) rfl) (tm':=zq1 (zq4 _)) rfl <| rd (fun h_ H_=>xbj H_ tA3 rfl (i:=0) rfl (v:=.int .i64 (k.base)) rfl) ?_
 refine xdj mn (first:=[]) (cap:=[]) rfl rfl fC30 (fun h_ H_=>c30 md _ (k.base) (2) (10)) rfl ?_
 refine rt (xgw rfl) (tm':=zq8 _) rfl <| ro (xaz (v:=.bool (!(decide (2≤k.base∧k.base≤10)))) rfl) ?_
 by_cases cc2:2≤k.base∧k.base≤10
 ·
  refine xaj (ms rfl rfl (xfz (dtt cc2))) (fun h_ H_=>xbz xww rfl (a':=⟨b1,1,none⟩) rfl) rfl ?_
  refine xaj (ms rfl rfl (xfz (dtt cc2))) (fun h_ H_=>xbj H_ tA3 rfl (i:=0) rfl (v:=.int .i64 (k.places)) rfl) (tm':=zq1 (zq2 (zq8 _))) rfl ?_
  refine xdj (ms rfl rfl (xfz (dtt cc2))) (first:=[]) (cap:=[]) rfl rfl fC30 (fun h_ H_=>c30 md _ (k.places) (1) (4)) rfl ?_
  refine xaj (ms rfl rfl (xfz (dtt cc2))) (fun h_ H_=>xgw rfl) rfl ?_
  refine rt (xdw rfl (xfz (dtt cc2)) (v:=.bool (!(decide (1≤k.places∧k.places≤4)))) rfl) (tm':=zq2 (zq4 (zq8 _))) rfl <| ro (xaz (v:=.bool (!(decide (1≤k.places∧k.places≤4)))) rfl) ?_
  by_cases cc3:1≤k.places∧k.places≤4
  ·
   refine xaj (ms rfl rfl (xfz (dtt cc3))) (fun h_ H_=>xbz xuq rfl (a':=⟨b1,2,none⟩) rfl) rfl ?_
   refine xaj (ms rfl rfl (xfz (dtt cc3))) (fun h_ H_=>xbj H_ tA22 rfl (i:=0) rfl (v:=.slice a k.cords.length ca) rfl) (tm':=zq1 (zq16 _)) rfl ?_
   refine xaj (ms rfl rfl (xfz (dtt cc3))) (fun h_ H_=>xfv Tryz.underlying22 rfl) rfl ?_
   refine xaj (ms rfl rfl (xfz (dtt cc3))) (fun h_ H_=>xmw rfl rfl) rfl ?_
   refine rt (xdw rfl (xfz (dtt cc3)) (v:=.bool (decide (4<((k.cords.length:Nat):Int)))) rfl) (tm':=zq4 (zq16 _)) rfl <| ro (xaz (v:=.bool (decide (4<((k.cords.length:Nat):Int)))) rfl) ?_
   by_cases cc4:4<((k.cords.length:Nat):Int)
   ·
    refine rp (mo rfl rfl (dtt cc4)) <| xdk (mo rfl rfl (dtt cc4)) (tm':=zq1 (zq2 (zq4 (zq16 _)))) rfl <| rp (mo rfl rfl (dtt cc4)) <| rp (mo rfl rfl (dtt cc4)) <| xdk (mo rfl rfl (dtt cc4)) (tm':=zq2 (zq8 (zq16 _))) rfl <| ro (xdz rfl (dtt cc4) (v:=.bool (true)) rfl) ?_
    refine xav <| xbv rfl rfl <| fsr <| ro (xax (v:=.int .i64 110) rfl) <| xav ?_
    refine xck Tryz.func6 rfl (vs:=[.int .i64 110]) (fun h_ H_=>⟨.int .i64 110,_,rfl,rfl,rfl⟩) (v:=.int .i64 110) rfl ?_
    exact fun h_ H_=>K _ _ ⟨by first | (rw [xlx ⟨by omega,by omega,by omega,by assumption,(xqj (d:=[])).2 (fun i hi=>h1 i (by omega))⟩]) | (rw [xov (fun z=>by have z1:=z.1;have z2:=z.2.1;have z3:=z.2.2.1;first | omega | exact absurd z.2.2.2.1 ‹_› | exact absurd ((xqj (d:=[])).1 z.2.2.2.2 j (by omega)) ‹_›)]),H_.kept⟩
   ·
    refine xaj (ms rfl rfl (dff cc4)) (fun h_ H_=>xeq H_ tA25 tS25 rfl (i:=0) rfl (vs:=[.int .i64 (k.base),.int .i64 (k.places),.slice a k.cords.length ca,.slice b k.top.length cb]) rfl rfl) (tm':=zq2 (zq4 (zq16 _))) rfl ?_
    refine xaj (ms rfl rfl (dff cc4)) (fun h_ H_=>xbz zkj rfl (a':=⟨b1,3,none⟩) rfl) rfl ?_
    refine xaj (ms rfl rfl (dff cc4)) (fun h_ H_=>xbj H_ tA23 rfl (i:=0) rfl (v:=.slice b k.top.length cb) rfl) rfl ?_
    refine xdj (ms rfl rfl (dff cc4)) (first:=[]) (cap:=[]) rfl rfl fC31 (fun h_ H_=>c31 md _ _ H_.pe _ _ _ _ _ _ k (show BookP _ _ _ _ _ _ _ k from ⟨B.t,B.u⟩) _ _ _ _ B.u (by first | omega | exact hn.2.2 _ (xlk (by omega))) (by omega)) (tm':=zq1 (zq8 (zq16 _))) rfl ?_
    refine xaj (ms rfl rfl (dff cc4)) (fun h_ H_=>xgw rfl) rfl ?_
    refine ro (xdw rfl (dff cc4) (v:=.bool (!(decide (cordB k k.top)))) rfl) <| xav ?_
    by_cases cc5:cordB k k.top
    ·
     refine xcx rfl (xfz (dtt cc5)) <| xcj <| xaw <| fsr <| rt (xax (v:=.int .i64 0) rfl) (tm':=zq4 _) rfl <| xav ?_
     refine xcw ?_
     refine xhw (m₀:=k.cords.length-0) (fun m_ tm_ h_=>∃ (j:Nat),m_=k.cords.length-j∧(∃ y6:Nat→Value,tm_=[.agg #[.int .i64 (k.base),.int .i64 (k.places),.slice a k.cords.length ca,.slice b k.top.length cb],.pointer (some ⟨b1,0,none⟩),(y6 2),.int .i64 (((j:Nat):Int)),.pointer (some ⟨b1,0,none⟩),.int .i64 (k.base),.bool (decide (2≤k.base∧k.base≤10)),.bool (!(decide (2≤k.base∧k.base≤10))),.bool (!(decide (2≤k.base∧k.base≤10))),.pointer (some ⟨b1,1,none⟩),.int .i64 (k.places),.bool (decide (1≤k.places∧k.places≤4)),.bool (!(decide (1≤k.places∧k.places≤4))),.bool (!(decide (1≤k.places∧k.places≤4))),.bool (!(decide (1≤k.places∧k.places≤4))),.pointer (some ⟨b1,2,none⟩),.slice a k.cords.length ca,.int .i64 (((k.cords.length:Nat):Int)),.bool (decide (4<((k.cords.length:Nat):Int))),.bool (decide (4<((k.cords.length:Nat):Int))),.bool (decide (4<((k.cords.length:Nat):Int))),.agg #[.int .i64 (k.base),.int .i64 (k.places),.slice a k.cords.length ca,.slice b k.top.length cb],.pointer (some ⟨b1,3,none⟩),.slice b k.top.length cb,.bool (decide (cordB k k.top)),.bool (!(decide (cordB k k.top))),.bool (!(decide (cordB k k.top))),(y6 27),(y6 28),(y6 29),(y6 30),(y6 31),(y6 32),(y6 33),(y6 34),(y6 35),(y6 36),(y6 37),(y6 38),(y6 39),(y6 40),(y6 41)])∧(j≤k.cords.length)∧(∀ i,i<j→cordB k (k.cords.getD i []))∧St h [] p h_ ([(b1,.cells #[.int .i64 (k.base),.int .i64 (k.places),.slice a k.cords.length ca,.slice b k.top.length cb] 25 (0,0))])) (fun h_ H_=>⟨0,rfl,(y_of rfl),Nat.zero_le _,(fun i hi=>absurd hi (Nat.not_lt_zero i)),H_⟩) ?_
     intro m_ tm_ IH7
     refine xhv fun j=>xcq fun hm_=>xcq fun ht_=>xcq fun hkj=>xcq fun h1=>?_
     subst hm_;obtain ⟨y6,ht_⟩:=ht_;subst ht_
     refine xaw <| fsr <| ro (xaz (v:=.int .i64 (((j:Nat):Int))) rfl) <| ro (xbz xuq rfl (a':=⟨b1,2,none⟩) rfl) ?_
     refine xaj mn (fun h_ H_=>xbj H_ tA22 rfl (i:=0) rfl (v:=.slice a k.cords.length ca) rfl) (tm':=zq2 (zq8 (zq32 []))) rfl ?_
     refine ro (xfv Tryz.underlying22 rfl) <| ro (xgz rfl rfl) <| xav ?_
     by_cases cc8:((j:Nat):Int)<((k.cords.length:Nat):Int)
     ·
      refine xbv rfl (dtt cc8) <| xcj <| xaw <| xcw <| xaw ?_
      refine xiw 6 [[],[],[1],[],[1,2,3],[1,2,3,4],[0,1,2,3,4,5],[]] mixed (by kernel_rfl) (Nat.le_of_ble_eq_true rfl) ?_
      refine xej mn (fun h_ H_=>xeq H_ tA25 tS25 rfl (i:=0) rfl (vs:=[.int .i64 (k.base),.int .i64 (k.places),.slice a k.cords.length ca,.slice b k.top.length cb]) rfl rfl) (tm':=zq2 (zq8 (zq32 []))) rfl ?_
      refine wo (xbz xuq rfl (a':=⟨b1,2,none⟩) rfl) ?_
      refine xej mn (fun h_ H_=>xbj H_ tA22 rfl (i:=0) rfl (v:=.slice a k.cords.length ca) rfl) (tm':=zq2 (zq8 (zq32 []))) rfl ?_
      refine wo (xaz (v:=.int .i64 (((j:Nat):Int))) rfl) ?_
      refine wt (xbw (i:=j) Tryz.underlying22 tS23 (xmz a k.cords.length ca (B.t.ne (by omega))) rfl (by omega)) (tm':=zq2 (zq8 (zq32 []))) rfl ?_
      refine wd (fun h_ H_=>xcz H_ tA23 rfl (v:=.slice (A j) ((k.cords.getD j []).length) (C j)) (B.t.cell _ (by omega))) ?_
      refine xmk rfl ?_
      refine xdj mn (first:=[]) (cap:=[]) rfl rfl fC31 (fun h_ H_=>c31 md _ _ H_.pe _ _ _ _ _ _ k (show BookP _ _ _ _ _ _ _ k from ⟨B.t,B.u⟩) _ _ _ _ (B.t.sps _ (by omega)) (by first | omega | exact hn.2.2 _ (xlk (by omega))) (by omega)) (tm':=zq2 (zq8 (zq32 []))) rfl ?_
      refine ro (xgw rfl) <| xav ?_
      by_cases cc9:cordB k (k.cords.getD j [])
      ·
       refine xcx rfl (xfz (dtt cc9)) <| xcj <| xdq <| xak <| ro (xaz (v:=.int .i64 (((j:Nat):Int))) rfl) ?_
       refine rt (xfj rfl rfl (n:=((j+1:Nat):Int)) (wr (by omega))) (tm':=zq2 (zq8 (zq32 []))) rfl ?_
       refine ro (xax (v:=.int .i64 (((j+1:Nat):Int))) rfl) <| xav ?_
       exact fun h_ H_=>IH7 _ _ (by omega) h_ ⟨j+1,rfl,(y_of rfl),(by omega),(xuk h1 ‹_›),H_⟩
      ·
       refine xbv rfl (xgx (dff cc9)) <| fsr <| ro (xax (v:=.int .i64 110) rfl) <| xav ?_
       refine xck Tryz.func6 rfl (vs:=[.int .i64 110]) (fun h_ H_=>⟨.int .i64 110,_,rfl,rfl,rfl⟩) (v:=.int .i64 110) rfl ?_
       exact fun h_ H_=>K _ _ ⟨by first | (rw [xlx ⟨by omega,by omega,by omega,by assumption,(xqj (d:=[])).2 (fun i hi=>h1 i (by omega))⟩]) | (rw [xov (fun z=>by have z1:=z.1;have z2:=z.2.1;have z3:=z.2.2.1;first | omega | exact absurd z.2.2.2.1 ‹_› | exact absurd ((xqj (d:=[])).1 z.2.2.2.2 j (by omega)) ‹_›)]),H_.kept⟩
     ·
      refine xcx rfl (dff cc8) <| xhz rfl <| fsr <| rt (xax (v:=.int .i64 0) rfl) (tm':=_::_::_::_) rfl <| xav ?_
      refine xck Tryz.func6 rfl (vs:=[.int .i64 0]) (fun h_ H_=>⟨.int .i64 0,_,rfl,rfl,rfl⟩) (v:=.int .i64 0) rfl ?_
      exact fun h_ H_=>K _ _ ⟨by first | (rw [xlx ⟨by omega,by omega,by omega,by assumption,(xqj (d:=[])).2 (fun i hi=>h1 i (by omega))⟩]) | (rw [xov (fun z=>by have z1:=z.1;have z2:=z.2.1;have z3:=z.2.2.1;first | omega | exact absurd z.2.2.2.1 ‹_› | exact absurd ((xqj (d:=[])).1 z.2.2.2.2 j (by omega)) ‹_›)]),H_.kept⟩
    ·
     refine xbv rfl (xgx (dff cc5)) <| fsr <| ro (xax (v:=.int .i64 110) rfl) <| xav ?_
     refine xck Tryz.func6 rfl (vs:=[.int .i64 110]) (fun h_ H_=>⟨.int .i64 110,_,rfl,rfl,rfl⟩) (v:=.int .i64 110) rfl ?_
     exact fun h_ H_=>K _ _ ⟨by first | (rw [xlx ⟨by omega,by omega,by omega,by assumption,(xqj (d:=[])).2 (fun i hi=>h1 i (by omega))⟩]) | (rw [xov (fun z=>by have z1:=z.1;have z2:=z.2.1;have z3:=z.2.2.1;first | omega | exact absurd z.2.2.2.1 ‹_› | exact absurd ((xqj (d:=[])).1 z.2.2.2.2 j (by omega)) ‹_›)]),H_.kept⟩
  ·
   refine rp (mo rfl rfl (xgx (dff cc3))) <| xdk (mo rfl rfl (xgx (dff cc3))) (tm':=zq1 (zq16 _)) rfl <| rp (mo rfl rfl (xgx (dff cc3))) <| rp (mo rfl rfl (xgx (dff cc3))) <| rt (xdz rfl (xgx (dff cc3)) (v:=.bool (true)) rfl) (tm':=zq4 (zq16 _)) rfl <| ro (xaz (v:=.bool (true)) rfl) ?_
   refine rp (mo rfl rfl rfl) <| xdk (mo rfl rfl rfl) (tm':=zq1 (zq2 (zq4 (zq16 _)))) rfl <| rp (mo rfl rfl rfl) <| rp (mo rfl rfl rfl) <| xdk (mo rfl rfl rfl) (tm':=zq2 (zq8 (zq16 _))) rfl <| ro (xdz rfl rfl (v:=.bool (true)) rfl) ?_
   refine xav <| xbv rfl rfl <| fsr <| ro (xax (v:=.int .i64 110) rfl) <| xav ?_
   refine xck Tryz.func6 rfl (vs:=[.int .i64 110]) (fun h_ H_=>⟨.int .i64 110,_,rfl,rfl,rfl⟩) (v:=.int .i64 110) rfl ?_
   exact fun h_ H_=>K _ _ ⟨by first | (rw [xlx ⟨by omega,by omega,by omega,by assumption,(xqj (d:=[])).2 (fun i hi=>h1 i (by omega))⟩]) | (rw [xov (fun z=>by have z1:=z.1;have z2:=z.2.1;have z3:=z.2.2.1;first | omega | exact absurd z.2.2.2.1 ‹_› | exact absurd ((xqj (d:=[])).1 z.2.2.2.2 j (by omega)) ‹_›)]),H_.kept⟩
 ·
  refine xdk (mo rfl rfl (xgx (dff cc2))) (tm':=zq2 (zq8 _)) rfl <| rp (mo rfl rfl (xgx (dff cc2))) <| rp (mo rfl rfl (xgx (dff cc2))) <| xdk (mo rfl rfl (xgx (dff cc2))) (tm':=zq1 (zq4 (zq8 _))) rfl <| ro (xdz rfl (xgx (dff cc2)) (v:=.bool (true)) rfl) <| ro (xaz (v:=.bool (true)) rfl) ?_
  refine xdk (mo rfl rfl rfl) (tm':=zq16 _) rfl <| rp (mo rfl rfl rfl) <| rp (mo rfl rfl rfl) <| xdk (mo rfl rfl rfl) (tm':=zq1 (zq2 (zq16 _))) rfl <| ro (xdz rfl rfl (v:=.bool (true)) rfl) <| ro (xaz (v:=.bool (true)) rfl) ?_
  refine xdk (mo rfl rfl rfl) (tm':=zq2 (zq4 (zq16 _))) rfl <| rp (mo rfl rfl rfl) <| rp (mo rfl rfl rfl) <| xdk (mo rfl rfl rfl) (tm':=zq1 (zq8 (zq16 _))) rfl <| rp (mo rfl rfl rfl) <| ro (xdz rfl rfl (v:=.bool (true)) rfl) ?_
  refine xav <| xbv rfl rfl <| fsr <| rt (xax (v:=.int .i64 110) rfl) (tm':=_::_::_::_) rfl <| xav ?_
  refine xck Tryz.func6 rfl (vs:=[.int .i64 110]) (fun h_ H_=>⟨.int .i64 110,_,rfl,rfl,rfl⟩) (v:=.int .i64 110) rfl ?_
  exact fun h_ H_=>K _ _ ⟨by first | (rw [xlx ⟨by omega,by omega,by omega,by assumption,(xqj (d:=[])).2 (fun i hi=>h1 i (by omega))⟩]) | (rw [xov (fun z=>by have z1:=z.1;have z2:=z.2.1;have z3:=z.2.2.1;first | omega | exact absurd z.2.2.2.1 ‹_› | exact absurd ((xqj (d:=[])).1 z.2.2.2.2 j (by omega)) ‹_›)]),H_.kept⟩
theorem c29 (md:Md) (h:Heap) (p:PHeap) (hp:Per p h) (a:Option Addr) (ca:Nat) (A:Nat→Option Addr) (C:Nat→Nat) (b:Option Addr) (cb:Nat) (k:Bk) (B:BookP p a k.cords.length A C b k.top.length k) (hl:k.cords.length≤9223372036854775807∧k.top.length≤9223372036854775807):CallsX Tryz.prog md 29 #[.agg #[.int .i64 (k.base),.int .i64 (k.places),.slice a k.cords.length ca,.slice b k.top.length cb]] h fun v h'=>v= .bool (decide (bigK k))∧Keep h h':=by
 refine xbk (Φ:=fun h_=>St h [] p h_ []) Tryz.func29 rfl (tm:=zq4 (zq8 (zq16 []))) rfl ?_ (St.start h _ hp)
 intro c₀ cs Stop K
 refine fsr ?_
 refine xnv mn (v:=.agg #[.int .i64 (k.base),.int .i64 (k.places),.slice a k.cords.length ca,.slice b k.top.length cb]) rfl fun b1=>xdx (L':=[(b1,.cells #[.int .i64 (k.base),.int .i64 (k.places),.slice a k.cords.length ca,.slice b k.top.length cb] 25 (0,0))]) rfl ?_
 refine ro (xax (v:=.bool (false)) rfl) <| ren <| fsr <| rt (xbz xuq rfl (a':=⟨b1,2,none⟩) rfl) (tm':=zq1 (zq4 _)) rfl <| rd (fun h_ H_=>xbj H_ tA22 rfl (i:=0) rfl (v:=.slice a k.cords.length ca) rfl) <| ro (xfv Tryz.underlying22 rfl) ?_
 refine rt (xmw rfl rfl) (tm':=zq8 _) rfl <| ro (xaz (v:=.bool (decide (40<((k.cords.length:Nat):Int)))) rfl) ?_
 by_cases cc2:40<((k.cords.length:Nat):Int)
 ·
  refine rp (mo rfl rfl (dtt cc2)) <| xdk (mo rfl rfl (dtt cc2)) (tm':=zq1 (zq2 (zq8 _))) rfl <| rp (mo rfl rfl (dtt cc2)) <| rp (mo rfl rfl (dtt cc2)) <| rt (xdz rfl (dtt cc2) (v:=.bool (true)) rfl) (tm':=zq2 (zq4 (zq8 _))) rfl <| xav ?_
  refine xbv rfl rfl <| fsr <| ro (xax (v:=.bool (true)) rfl) <| xav ?_
  refine xck Tryz.func29 rfl (vs:=[.bool (true)]) (fun h_ H_=>⟨.bool (true),_,rfl,rfl,rfl⟩) (v:=.bool (true)) rfl ?_
  exact fun h_ H_=>K _ _ ⟨by first | (rw [decide_eq_true (show bigK k from by first | exact .inl (by omega) | exact .inr (.inl (by omega)) | exact .inr (.inr ⟨_,xlk (i:=j) (d:=[]) (by omega),by omega⟩))]) | (rw [decide_eq_false (zfz (by omega) (by omega) (fun i hi=>h1 i (by omega)))]),H_.kept⟩
 ·
  refine xaj (ms rfl rfl (dff cc2)) (fun h_ H_=>xbz zkj rfl (a':=⟨b1,3,none⟩) rfl) rfl ?_
  refine xaj (ms rfl rfl (dff cc2)) (fun h_ H_=>xbj H_ tA23 rfl (i:=0) rfl (v:=.slice b k.top.length cb) rfl) (tm':=zq1 (zq2 (zq8 _))) rfl ?_
  refine xaj (ms rfl rfl (dff cc2)) (fun h_ H_=>xfv Tryz.underlying23 rfl) rfl ?_
  refine xaj (ms rfl rfl (dff cc2)) (fun h_ H_=>xmw rfl rfl) rfl ?_
  refine rt (xdw rfl (dff cc2) (v:=.bool (decide (40<((k.top.length:Nat):Int)))) rfl) (tm':=zq2 (zq4 (zq8 _))) rfl <| xav ?_
  by_cases cc3:40<((k.top.length:Nat):Int)
  ·
   refine xbv rfl (dtt cc3) <| fsr <| ro (xax (v:=.bool (true)) rfl) <| xav ?_
   refine xck Tryz.func29 rfl (vs:=[.bool (true)]) (fun h_ H_=>⟨.bool (true),_,rfl,rfl,rfl⟩) (v:=.bool (true)) rfl ?_
   exact fun h_ H_=>K _ _ ⟨by first | (rw [decide_eq_true (show bigK k from by first | exact .inl (by omega) | exact .inr (.inl (by omega)) | exact .inr (.inr ⟨_,xlk (i:=j) (d:=[]) (by omega),by omega⟩))]) | (rw [decide_eq_false (zfz (by omega) (by omega) (fun i hi=>h1 i (by omega)))]),H_.kept⟩
  ·
   refine xcx rfl (dff cc3) <| xcj <| xaw <| fsr <| ro (xax (v:=.int .i64 0) rfl) <| xav ?_
   refine xcw ?_
   refine xhw (m₀:=k.cords.length-0) (fun m_ tm_ h_=>∃ (j:Nat),m_=k.cords.length-j∧(∃ y4:Nat→Value,tm_=[.agg #[.int .i64 (k.base),.int .i64 (k.places),.slice a k.cords.length ca,.slice b k.top.length cb],.pointer (some ⟨b1,0,none⟩),(y4 2),.int .i64 (((j:Nat):Int)),.pointer (some ⟨b1,2,none⟩),.slice a k.cords.length ca,.int .i64 (((k.cords.length:Nat):Int)),.bool (decide (40<((k.cords.length:Nat):Int))),.bool (decide (40<((k.cords.length:Nat):Int))),.pointer (some ⟨b1,3,none⟩),.slice b k.top.length cb,.int .i64 (((k.top.length:Nat):Int)),.bool (decide (40<((k.top.length:Nat):Int))),.bool (decide (40<((k.top.length:Nat):Int))),(y4 14),(y4 15),(y4 16),(y4 17),(y4 18),(y4 19),(y4 20),(y4 21),(y4 22),(y4 23),(y4 24),(y4 25),(y4 26),(y4 27)])∧(j≤k.cords.length)∧(∀ i,i<j→(k.cords.getD i []).length≤40)∧St h [] p h_ ([(b1,.cells #[.int .i64 (k.base),.int .i64 (k.places),.slice a k.cords.length ca,.slice b k.top.length cb] 25 (0,0))])) (fun h_ H_=>⟨0,rfl,(y_of rfl),Nat.zero_le _,(fun i hi=>absurd hi (Nat.not_lt_zero i)),H_⟩) ?_
   intro m_ tm_ IH5
   refine xhv fun j=>xcq fun hm_=>xcq fun ht_=>xcq fun hkj=>xcq fun h1=>?_
   subst hm_;obtain ⟨y4,ht_⟩:=ht_;subst ht_
   refine xaw <| fsr <| rt (xaz (v:=.int .i64 (((j:Nat):Int))) rfl) (tm':=zq1 (zq2 (zq4 (zq8 _)))) rfl <| ro (xbz xuq rfl (a':=⟨b1,2,none⟩) rfl) <| rd (fun h_ H_=>xbj H_ tA22 rfl (i:=0) rfl (v:=.slice a k.cords.length ca) rfl) <| rt (xfv Tryz.underlying22 rfl) (tm':=zq2 (zq16 _)) rfl ?_
   refine ro (xgz rfl rfl) <| xav ?_
   by_cases cc6:((j:Nat):Int)<((k.cords.length:Nat):Int)
   ·
    refine xbv rfl (dtt cc6) <| xcj <| xaw <| xcw <| fsr <| ro (xbz xuq rfl (a':=⟨b1,2,none⟩) rfl) ?_
    refine xaj mn (fun h_ H_=>xbj H_ tA22 rfl (i:=0) rfl (v:=.slice a k.cords.length ca) rfl) (tm':=zq4 (zq8 (zq16 []))) rfl ?_
    refine ro (xaz (v:=.int .i64 (((j:Nat):Int))) rfl) ?_
    refine ro (xbw (i:=j) Tryz.underlying22 tS23 (xmz a k.cords.length ca (B.t.ne (by omega))) rfl (by omega)) ?_
    refine xaj mn (fun h_ H_=>xcz H_ tA23 rfl (v:=.slice (A j) ((k.cords.getD j []).length) (C j)) (B.t.cell _ (by omega))) (tm':=zq4 (zq8 (zq16 []))) rfl ?_
    refine ro (xfv Tryz.underlying23 rfl) <| ro (xmw rfl rfl) <| xav ?_
    by_cases cc7:40<(((k.cords.getD j []).length:Nat):Int)
    ·
     refine xbv rfl (dtt cc7) <| fsr <| rt (xax (v:=.bool (true)) rfl) (tm':=_::_::_::_) rfl <| xav ?_
     refine xck Tryz.func29 rfl (vs:=[.bool (true)]) (fun h_ H_=>⟨.bool (true),_,rfl,rfl,rfl⟩) (v:=.bool (true)) rfl ?_
     exact fun h_ H_=>K _ _ ⟨by first | (rw [decide_eq_true (show bigK k from by first | exact .inl (by omega) | exact .inr (.inl (by omega)) | exact .inr (.inr ⟨_,xlk (i:=j) (d:=[]) (by omega),by omega⟩))]) | (rw [decide_eq_false (zfz (by omega) (by omega) (fun i hi=>h1 i (by omega)))]),H_.kept⟩
    ·
     refine xcx rfl (dff cc7) <| xcj <| xdq <| xak <| ro (xaz (v:=.int .i64 (((j:Nat):Int))) rfl) ?_
     refine ro (xfj rfl rfl (n:=((j+1:Nat):Int)) (wr (by omega))) ?_
     refine rt (xax (v:=.int .i64 (((j+1:Nat):Int))) rfl) (tm':=zq4 _) rfl <| xav ?_
     exact fun h_ H_=>IH5 _ _ (by omega) h_ ⟨j+1,rfl,(y_of rfl),(by omega),(xuk h1 (by omega)),H_⟩
   ·
    refine xcx rfl (dff cc6) <| xhz rfl <| fsr <| ro (xax (v:=.bool (false)) rfl) <| xav ?_
    refine xck Tryz.func29 rfl (vs:=[.bool (false)]) (fun h_ H_=>⟨.bool (false),_,rfl,rfl,rfl⟩) (v:=.bool (false)) rfl ?_
    exact fun h_ H_=>K _ _ ⟨by first | (rw [decide_eq_true (show bigK k from by first | exact .inl (by omega) | exact .inr (.inl (by omega)) | exact .inr (.inr ⟨_,xlk (i:=j) (d:=[]) (by omega),by omega⟩))]) | (rw [decide_eq_false (zfz (by omega) (by omega) (fun i hi=>h1 i (by omega)))]),H_.kept⟩
end Go.Proofs.YtphalmjpbnffcaaGreatDoor
namespace Go.Proofs.YtphalmjpbnffcaaGreatDoor
open Go.X Go.X.Kn Go.Conc
set_option maxRecDepth 10000
set_option synthInstance.maxSize 2000

set_option maxHeartbeats 2000000
theorem c110 (md:Md) (h:Heap) (p:PHeap) (hp:Per p h) (a:Option Addr) (ca:Nat) (A:Nat→Option Addr) (C:Nat→Nat) (b:Option Addr) (cb:Nat) (k:Bk) (_B:BookP p a k.cords.length A C b k.top.length k) (bt:Nat) (hbt:p bt=some (.cells #[.int .i64 k.base,.int .i64 k.places,.slice a k.cords.length ca,.slice b k.top.length cb] 25 (0,0))) (x y:Int):CallsX Tryz.prog md 110 #[.agg #[.int .i64 (x),.int .i64 (y)],.pointer (some ⟨bt,0,none⟩)] h fun v h'=>v= .bool (badS k (x,y))∧Keep h h':=by
 refine xbk (Φ:=fun h_=>St h [] p h_ []) Tryz.func110 rfl (tm:=zq1 (zq16 [])) rfl ?_ (St.start h _ hp)
 intro c₀ cs Stop K
 refine fsr ?_
 refine xnv mn (v:=.agg #[.int .i64 (x),.int .i64 (y)]) rfl fun b1=>xdx (L':=[(b1,.cells #[.int .i64 (x),.int .i64 (y)] 68 (0,0))]) rfl ?_
 refine ro (xax (v:=.bool (false)) rfl) <| ren <| xak <| rt (xbz zkz rfl (a':=⟨b1,0,none⟩) rfl) (tm':=zq1 (zq4 _)) rfl <| rd (fun h_ H_=>xbj H_ tA3 rfl (i:=0) rfl (v:=.int .i64 (x)) rfl) <| ro (xbz ykv rfl (a':=⟨b1,1,none⟩) rfl) ?_
 refine xaj mn (fun h_ H_=>xbj H_ tA3 rfl (i:=0) rfl (v:=.int .i64 (y)) rfl) (tm':=zq8 _) rfl ?_
 refine xdj mn (first:=[]) (cap:=[]) rfl rfl fC35 (fun h_ H_=>c35 md _ (x) (0) (y)) rfl ?_
 refine ro (xgw rfl) <| rt (xaz (v:=.bool (!(decide (0≤x∧x≤y)))) rfl) (tm':=zq1 (zq2 (zq8 _))) rfl ?_
 by_cases cc2:0≤x∧x≤y
 ·
  refine xaj (ms rfl rfl (xfz (dtt cc2))) (fun h_ H_=>xbz ykv rfl (a':=⟨b1,1,none⟩) rfl) rfl ?_
  refine xaj (ms rfl rfl (xfz (dtt cc2))) (fun h_ H_=>xbj H_ tA3 rfl (i:=0) rfl (v:=.int .i64 (y)) rfl) rfl ?_
  refine xaj (ms rfl rfl (xfz (dtt cc2))) (fun h_ H_=>xbz xrv rfl (a':=⟨bt,0,none⟩) rfl) (tm':=zq1 (zq16 [])) rfl ?_
  refine xaj (ms rfl rfl (xfz (dtt cc2))) (fun h_ H_=>xcz H_ tA3 rfl (v:=.int .i64 (k.base)) (xpx hbt rfl)) rfl ?_
  refine xaj (ms rfl rfl (xfz (dtt cc2))) (fun h_ H_=>xvj rfl rfl) rfl ?_
  refine rt (xdw rfl (xfz (dtt cc2)) (v:=.bool (decide (k.base≤y))) rfl) (tm':=zq1 (zq16 [])) rfl <| ro (xax (v:=.bool (decide (k.base≤y))) rfl) <| xav ?_
  refine xck Tryz.func110 rfl (vs:=[.bool (decide (k.base≤y))]) (fun h_ H_=>⟨.bool (decide (k.base≤y)),_,rfl,rfl,rfl⟩) (v:=.bool (decide (k.base≤y))) rfl ?_
  exact fun h_ H_=>K _ _ ⟨congrArg Value.bool (by unfold badS;rw [Bool.eq_iff_iff,decide_eq_true_eq];first | (simp [*];done) | (simp [*];omega) | (simp;omega)),H_.kept⟩
 ·
  refine rp (mo rfl rfl (xgx (dff cc2))) <| xdk (mo rfl rfl (xgx (dff cc2))) (tm':=zq1 (zq16 [])) rfl <| rp (mo rfl rfl (xgx (dff cc2))) <| rp (mo rfl rfl (xgx (dff cc2))) <| xdk (mo rfl rfl (xgx (dff cc2))) (tm':=zq1 (zq16 [])) rfl <| ro (xdz rfl (xgx (dff cc2)) (v:=.bool (true)) rfl) ?_
  refine ro (xax (v:=.bool (true)) rfl) <| xav ?_
  refine xck Tryz.func110 rfl (vs:=[.bool (true)]) (fun h_ H_=>⟨.bool (true),_,rfl,rfl,rfl⟩) (v:=.bool (true)) rfl ?_
  exact fun h_ H_=>K _ _ ⟨congrArg Value.bool (by unfold badS;rw [Bool.eq_iff_iff,decide_eq_true_eq];first | (simp [*];done) | (simp [*];omega) | (simp;omega)),H_.kept⟩
theorem c124 (md:Md) (h:Heap) (p:PHeap) (hp:Per p h) (fv:Value) (e:Option Addr) (n ce:Nat) (xs:List Sp) (S:Sps p e n xs) (hn:n≤2 ^ 40) (q:Sp→Bool) (hf: ∀ h,Per p h→ ∀ i,i<n→CallV Tryz.prog md fv [.agg #[.int .i64 (xs.getD i spz).1,.int .i64 (xs.getD i spz).2]] h fun v h'=>v= .bool (q ((xs.getD i spz)))∧Keep h h'):CallsX Tryz.prog md 124 #[.slice e n ce,fv] h fun v h'=>v= .int .i64 (idxA q xs)∧Keep h h':=by
 refine xbk (Φ:=fun h_=>St h [] p h_ []) Tryz.func124 rfl (tm:=zq1 (zq2 (zq16 []))) rfl ?_ (St.start h _ hp)
 intro c₀ cs Stop K
 refine fsr <| rt (xax (v:=.int .i64 0) rfl) (tm':=zq1 (zq4 _)) rfl <| ren <| fsr <| ro (xaz (v:=.slice e n ce) rfl) <| ro (xfv Tryz.underlying23 rfl) ?_
 refine rt (xaz (v:=.int .i64 0) rfl) (tm':=zq1 (zq8 _)) rfl <| xav <| xcw ?_
 refine xhw (m₀:=n-0) (fun m_ tm_ h_=>∃ (j:Nat),m_=n-j∧(∃ y1:Nat→Value,tm_=[.slice e n ce,fv,undef,undef,(y1 4),(y1 5),.slice e n ce,.int .i64 (((n:Nat):Int)),.int .i64 (((j:Nat):Int)),(y1 9),(y1 10),(y1 11),(y1 12),(y1 13),(y1 14),(y1 15),(y1 16),(y1 17),(y1 18)])∧(j≤n)∧(∀ i,i<j→q ((xs.getD i spz))=false)∧St h [] p h_ ([])) (fun h_ H_=>⟨0,rfl,(y_of rfl),Nat.zero_le _,(fun i hi=>absurd hi (Nat.not_lt_zero i)),H_⟩) ?_
 intro m_ tm_ IH2
 refine xhv fun j=>xcq fun hm_=>xcq fun ht_=>xcq fun hk=>xcq fun hs=>?_
 subst hm_;obtain ⟨y1,ht_⟩:=ht_;subst ht_
 refine fsr <| ro (xgz rfl rfl) <| ren ?_
 by_cases cc3:((j:Nat):Int)<((n:Nat):Int)
 ·
  refine xbv rfl (dtt cc3) <| xcj <| xaw <| xcw <| fsr <| ro (xaz (v:=.int .i64 (((j:Nat):Int))) rfl) ?_
  refine rt (xax (v:=.int .i64 (((j:Nat):Int))) rfl) (tm':=zq2 (zq4 _)) rfl <| ren <| xak <| ro (xaz (v:=fv) rfl) <| ro (xaz (v:=.slice e n ce) rfl) <| rt (xaz (v:=.int .i64 (((j:Nat):Int))) rfl) (tm':=zq1 (zq2 (zq16 []))) rfl ?_
  refine ro (xbw (i:=j) Tryz.underlying23 tS68 (xmz e n ce (S.ne (by omega))) rfl (by omega)) ?_
  refine rd (fun h_ H_=>xtx H_ tA68 tS68 rfl (vs:=[.int .i64 ((xs.getD j spz).1),.int .i64 ((xs.getD j spz).2)]) rfl (S.all (by omega))) ?_
  refine xzk mn rfl (vs:=[.agg #[.int .i64 ((xs.getD j spz).1),.int .i64 ((xs.getD j spz).2)]]) rfl (fun h_ H_=>hf h_ H_.per j (show j<n by omega)) (tm':=zq1 (zq2 (zq16 []))) rfl ?_
  refine xav ?_
  rcases xxx ((q ((xs.getD j spz)))) with cc4 | cc4
  ·
   refine xbv rfl cc4 <| fsr <| ro (xaz (v:=.int .i64 (((j:Nat):Int))) rfl) <| ro (xax (v:=.int .i64 (((j:Nat):Int))) rfl) <| xav ?_
   refine xck Tryz.func124 rfl (vs:=[.int .i64 (((j:Nat):Int))]) (fun h_ H_=>⟨.int .i64 (((j:Nat):Int)),_,rfl,rfl,rfl⟩) (v:=.int .i64 (((j:Nat):Int))) rfl ?_
   have hl:=S.len
   exact fun h_ H_=>K _ _ ⟨by first | (rw [xqq (z:=spz) (k:=j) (by omega) ‹_› hs]) | (rw [xqx (z:=spz) (fun i hi=>hs i (by omega))]),H_.kept⟩
  ·
   refine xcx rfl cc4 <| xcj <| xdq <| xak ?_
   refine rt (xfj rfl rfl (n:=((j+1:Nat):Int)) (wr (by omega))) (tm':=zq1 (zq2 (zq16 []))) rfl ?_
   refine ro (xaz (v:=.int .i64 (((j+1:Nat):Int))) rfl) <| xav ?_
   exact fun h_ H_=>IH2 _ _ (by omega) h_ ⟨j+1,rfl,(y_of rfl),(by omega),(xuk (q:=fun i=>q ((xs.getD i spz))=false) hs ‹_›),H_⟩
 ·
  refine xcx rfl (dff cc3) <| xhz rfl <| fsr <| ro (xax (v:=.int .i64 (-1)) rfl) <| xav ?_
  refine xck Tryz.func124 rfl (vs:=[.int .i64 (-1)]) (fun h_ H_=>⟨.int .i64 (-1),_,rfl,rfl,rfl⟩) (v:=.int .i64 (-1)) rfl ?_
  have hl:=S.len
  exact fun h_ H_=>K _ _ ⟨by first | (rw [xqq (z:=spz) (k:=j) (by omega) ‹_› hs]) | (rw [xqx (z:=spz) (fun i hi=>hs i (by omega))]),H_.kept⟩
theorem c111 (md:Md) (h:Heap) (p:PHeap) (hp:Per p h) (fv:Value) (e:Option Addr) (n ce:Nat) (xs:List Sp) (S:Sps p e n xs) (hn:n≤2 ^ 40) (q:Sp→Bool) (hf: ∀ h,Per p h→ ∀ i,i<n→CallV Tryz.prog md fv [.agg #[.int .i64 (xs.getD i spz).1,.int .i64 (xs.getD i spz).2]] h fun v h'=>v= .bool (q ((xs.getD i spz)))∧Keep h h'):CallsX Tryz.prog md 111 #[.slice e n ce,fv] h fun v h'=>v= .bool (decide (0≤idxA q xs))∧Keep h h':=by
 refine xbk (Φ:=fun h_=>St h [] p h_ []) Tryz.func111 rfl (tm:=zq1 (zq8 [])) rfl ?_ (St.start h _ hp)
 intro c₀ cs Stop K
 refine fsr <| rt (xax (v:=.bool (false)) rfl) (tm':=zq1 (zq4 _)) rfl <| ren <| xak <| ro (xaz (v:=.slice e n ce) rfl) <| ro (xaz (v:=fv) rfl) ?_
 refine xdj mn (first:=[]) (cap:=[]) rfl rfl wmx (fun h_ H_=>c124 md _ _ H_.pe fv _ _ _ _ S (by omega) q hf) (tm':=zq1 (zq8 [])) rfl ?_
 refine ro (xvj rfl rfl) <| ro (xax (v:=.bool (decide (0≤idxA q xs))) rfl) <| xav ?_
 refine xck Tryz.func111 rfl (vs:=[.bool (decide (0≤idxA q xs))]) (fun h_ H_=>⟨.bool (decide (0≤idxA q xs)),_,rfl,rfl,rfl⟩) (v:=.bool (decide (0≤idxA q xs))) rfl ?_
 exact fun h_ H_=>K _ _ ⟨rfl,H_.kept⟩
theorem c112 (md:Md) (h:Heap) (p:PHeap) (hp:Per p h) (fv:Value) (e:Option Addr) (n ce:Nat) (A:Nat→Option Addr) (C:Nat→Nat) (xs:List (List Sp)) (S:TabS p e n A C xs) (hn:n≤2 ^ 40) (q:List Sp→Bool) (hf: ∀ h,Per p h→ ∀ i,i<n→CallV Tryz.prog md fv [.slice (A i) (xs.getD i []).length (C i)] h fun v h'=>v= .bool (q ((xs.getD i [])))∧Keep h h'):CallsX Tryz.prog md 112 #[.slice e n ce,fv] h fun v h'=>v= .int .i64 (idxA q xs)∧Keep h h':=by
 refine xbk (Φ:=fun h_=>St h [] p h_ []) Tryz.func112 rfl (tm:=zq1 (zq2 (zq16 []))) rfl ?_ (St.start h _ hp)
 intro c₀ cs Stop K
 refine fsr <| rt (xax (v:=.int .i64 0) rfl) (tm':=zq1 (zq4 _)) rfl <| ren <| fsr <| ro (xaz (v:=.slice e n ce) rfl) <| ro (xfv Tryz.underlying22 rfl) ?_
 refine rt (xaz (v:=.int .i64 0) rfl) (tm':=zq1 (zq8 _)) rfl <| xav <| xcw ?_
 refine xhw (m₀:=n-0) (fun m_ tm_ h_=>∃ (j:Nat),m_=n-j∧(∃ y1:Nat→Value,tm_=[.slice e n ce,fv,undef,undef,(y1 4),(y1 5),.slice e n ce,.int .i64 (((n:Nat):Int)),.int .i64 (((j:Nat):Int)),(y1 9),(y1 10),(y1 11),(y1 12),(y1 13),(y1 14),(y1 15),(y1 16),(y1 17),(y1 18)])∧(j≤n)∧(∀ i,i<j→q ((xs.getD i []))=false)∧St h [] p h_ ([])) (fun h_ H_=>⟨0,rfl,(y_of rfl),Nat.zero_le _,(fun i hi=>absurd hi (Nat.not_lt_zero i)),H_⟩) ?_
 intro m_ tm_ IH2
 refine xhv fun j=>xcq fun hm_=>xcq fun ht_=>xcq fun hk=>xcq fun hs=>?_
 subst hm_;obtain ⟨y1,ht_⟩:=ht_;subst ht_
 refine fsr <| ro (xgz rfl rfl) <| ren ?_
 by_cases cc3:((j:Nat):Int)<((n:Nat):Int)
 ·
  refine xbv rfl (dtt cc3) <| xcj <| xaw <| xcw <| fsr <| ro (xaz (v:=.int .i64 (((j:Nat):Int))) rfl) ?_
  refine rt (xax (v:=.int .i64 (((j:Nat):Int))) rfl) (tm':=zq2 (zq4 _)) rfl <| ren <| xak <| ro (xaz (v:=fv) rfl) <| ro (xaz (v:=.slice e n ce) rfl) <| rt (xaz (v:=.int .i64 (((j:Nat):Int))) rfl) (tm':=zq1 (zq2 (zq16 []))) rfl ?_
  refine ro (xbw (i:=j) Tryz.underlying22 tS23 (xmz e n ce (S.ne (by omega))) rfl (by omega)) ?_
  refine rd (fun h_ H_=>xcz H_ tA23 rfl (v:=.slice (A j) ((xs.getD j []).length) (C j)) (S.cell _ (by omega))) ?_
  refine xzk mn rfl (vs:=[.slice (A j) ((xs.getD j []).length) (C j)]) rfl (fun h_ H_=>hf h_ H_.per j (show j<n by omega)) (tm':=zq1 (zq2 (zq16 []))) rfl ?_
  refine xav ?_
  rcases xxx ((q ((xs.getD j [])))) with cc4 | cc4
  ·
   refine xbv rfl cc4 <| fsr <| ro (xaz (v:=.int .i64 (((j:Nat):Int))) rfl) <| ro (xax (v:=.int .i64 (((j:Nat):Int))) rfl) <| xav ?_
   refine xck Tryz.func112 rfl (vs:=[.int .i64 (((j:Nat):Int))]) (fun h_ H_=>⟨.int .i64 (((j:Nat):Int)),_,rfl,rfl,rfl⟩) (v:=.int .i64 (((j:Nat):Int))) rfl ?_
   have hl:=S.len
   exact fun h_ H_=>K _ _ ⟨by first | (rw [xqq (z:=[]) (k:=j) (by omega) ‹_› hs]) | (rw [xqx (z:=[]) (fun i hi=>hs i (by omega))]),H_.kept⟩
  ·
   refine xcx rfl cc4 <| xcj <| xdq <| xak ?_
   refine rt (xfj rfl rfl (n:=((j+1:Nat):Int)) (wr (by omega))) (tm':=zq1 (zq2 (zq16 []))) rfl ?_
   refine ro (xaz (v:=.int .i64 (((j+1:Nat):Int))) rfl) <| xav ?_
   exact fun h_ H_=>IH2 _ _ (by omega) h_ ⟨j+1,rfl,(y_of rfl),(by omega),(xuk (q:=fun i=>q ((xs.getD i []))=false) hs ‹_›),H_⟩
 ·
  refine xcx rfl (dff cc3) <| xhz rfl <| fsr <| ro (xax (v:=.int .i64 (-1)) rfl) <| xav ?_
  refine xck Tryz.func112 rfl (vs:=[.int .i64 (-1)]) (fun h_ H_=>⟨.int .i64 (-1),_,rfl,rfl,rfl⟩) (v:=.int .i64 (-1)) rfl ?_
  have hl:=S.len
  exact fun h_ H_=>K _ _ ⟨by first | (rw [xqq (z:=[]) (k:=j) (by omega) ‹_› hs]) | (rw [xqx (z:=[]) (fun i hi=>hs i (by omega))]),H_.kept⟩
theorem c89 (md:Md) (h:Heap) (p:PHeap) (hp:Per p h) (fv:Value) (e:Option Addr) (n ce:Nat) (A:Nat→Option Addr) (C:Nat→Nat) (xs:List (List Sp)) (S:TabS p e n A C xs) (hn:n≤2 ^ 40) (q:List Sp→Bool) (hf: ∀ h,Per p h→ ∀ i,i<n→CallV Tryz.prog md fv [.slice (A i) (xs.getD i []).length (C i)] h fun v h'=>v= .bool (q ((xs.getD i [])))∧Keep h h'):CallsX Tryz.prog md 89 #[.slice e n ce,fv] h fun v h'=>v= .bool (decide (0≤idxA q xs))∧Keep h h':=by
 refine xbk (Φ:=fun h_=>St h [] p h_ []) Tryz.func89 rfl (tm:=zq1 (zq8 [])) rfl ?_ (St.start h _ hp)
 intro c₀ cs Stop K
 refine fsr <| rt (xax (v:=.bool (false)) rfl) (tm':=zq1 (zq4 _)) rfl <| ren <| xak <| ro (xaz (v:=.slice e n ce) rfl) <| ro (xaz (v:=fv) rfl) ?_
 refine xdj mn (first:=[]) (cap:=[]) rfl rfl wmz (fun h_ H_=>c112 md _ _ H_.pe fv _ _ _ _ _ _ S (by omega) q hf) (tm':=zq1 (zq8 [])) rfl ?_
 refine ro (xvj rfl rfl) <| ro (xax (v:=.bool (decide (0≤idxA q xs))) rfl) <| xav ?_
 refine xck Tryz.func89 rfl (vs:=[.bool (decide (0≤idxA q xs))]) (fun h_ H_=>⟨.bool (decide (0≤idxA q xs)),_,rfl,rfl,rfl⟩) (v:=.bool (decide (0≤idxA q xs))) rfl ?_
 exact fun h_ H_=>K _ _ ⟨rfl,H_.kept⟩
theorem c103 (md:Md) (h:Heap) (p:PHeap) (hp:Per p h) (fv:Value) (e:Option Addr) (n ce:Nat) (xs:List Int) (S:Ints p e n xs) (hn:n≤2 ^ 40) (q:Int→Bool) (hf: ∀ h,Per p h→ ∀ i,i<n→CallV Tryz.prog md fv [.int .i64 (xs.getD i 0)] h fun v h'=>v= .bool (q ((xs.getD i 0)))∧Keep h h'):CallsX Tryz.prog md 103 #[.slice e n ce,fv] h fun v h'=>v= .int .i64 (idxA q xs)∧Keep h h':=by
 refine xbk (Φ:=fun h_=>St h [] p h_ []) Tryz.func103 rfl (tm:=zq1 (zq2 (zq16 []))) rfl ?_ (St.start h _ hp)
 intro c₀ cs Stop K
 refine fsr <| rt (xax (v:=.int .i64 0) rfl) (tm':=zq1 (zq4 _)) rfl <| ren <| fsr <| ro (xaz (v:=.slice e n ce) rfl) <| ro (xfv Tryz.underlying26 rfl) ?_
 refine rt (xaz (v:=.int .i64 0) rfl) (tm':=zq1 (zq8 _)) rfl <| xav <| xcw ?_
 refine xhw (m₀:=n-0) (fun m_ tm_ h_=>∃ (j:Nat),m_=n-j∧(∃ y1:Nat→Value,tm_=[.slice e n ce,fv,undef,undef,(y1 4),(y1 5),.slice e n ce,.int .i64 (((n:Nat):Int)),.int .i64 (((j:Nat):Int)),(y1 9),(y1 10),(y1 11),(y1 12),(y1 13),(y1 14),(y1 15),(y1 16),(y1 17),(y1 18)])∧(j≤n)∧(∀ i,i<j→q ((xs.getD i 0))=false)∧St h [] p h_ ([])) (fun h_ H_=>⟨0,rfl,(y_of rfl),Nat.zero_le _,(fun i hi=>absurd hi (Nat.not_lt_zero i)),H_⟩) ?_
 intro m_ tm_ IH2
 refine xhv fun j=>xcq fun hm_=>xcq fun ht_=>xcq fun hk=>xcq fun hs=>?_
 subst hm_;obtain ⟨y1,ht_⟩:=ht_;subst ht_
 refine fsr <| ro (xgz rfl rfl) <| ren ?_
 by_cases cc3:((j:Nat):Int)<((n:Nat):Int)
 ·
  refine xbv rfl (dtt cc3) <| xcj <| xaw <| xcw <| fsr <| ro (xaz (v:=.int .i64 (((j:Nat):Int))) rfl) ?_
  refine rt (xax (v:=.int .i64 (((j:Nat):Int))) rfl) (tm':=zq2 (zq4 _)) rfl <| ren <| xak <| ro (xaz (v:=fv) rfl) <| ro (xaz (v:=.slice e n ce) rfl) <| rt (xaz (v:=.int .i64 (((j:Nat):Int))) rfl) (tm':=zq1 (zq2 (zq16 []))) rfl ?_
  refine ro (xbw (i:=j) Tryz.underlying26 tS3 (xmz e n ce (S.ne (by omega))) rfl (by omega)) ?_
  refine rd (fun h_ H_=>xcz H_ tA3 rfl (v:=.int .i64 (xs.getD j 0)) (S.get (by omega))) ?_
  refine xzk mn rfl (vs:=[.int .i64 (xs.getD j 0)]) rfl (fun h_ H_=>hf h_ H_.per j (show j<n by omega)) (tm':=zq1 (zq2 (zq16 []))) rfl ?_
  refine xav ?_
  rcases xxx ((q ((xs.getD j 0)))) with cc4 | cc4
  ·
   refine xbv rfl cc4 <| fsr <| ro (xaz (v:=.int .i64 (((j:Nat):Int))) rfl) <| ro (xax (v:=.int .i64 (((j:Nat):Int))) rfl) <| xav ?_
   refine xck Tryz.func103 rfl (vs:=[.int .i64 (((j:Nat):Int))]) (fun h_ H_=>⟨.int .i64 (((j:Nat):Int)),_,rfl,rfl,rfl⟩) (v:=.int .i64 (((j:Nat):Int))) rfl ?_
   have hl:=S.len
   exact fun h_ H_=>K _ _ ⟨by first | (rw [xqq (z:=0) (k:=j) (by omega) ‹_› hs]) | (rw [xqx (z:=0) (fun i hi=>hs i (by omega))]),H_.kept⟩
  ·
   refine xcx rfl cc4 <| xcj <| xdq <| xak ?_
   refine rt (xfj rfl rfl (n:=((j+1:Nat):Int)) (wr (by omega))) (tm':=zq1 (zq2 (zq16 []))) rfl ?_
   refine ro (xaz (v:=.int .i64 (((j+1:Nat):Int))) rfl) <| xav ?_
   exact fun h_ H_=>IH2 _ _ (by omega) h_ ⟨j+1,rfl,(y_of rfl),(by omega),(xuk (q:=fun i=>q ((xs.getD i 0))=false) hs ‹_›),H_⟩
 ·
  refine xcx rfl (dff cc3) <| xhz rfl <| fsr <| ro (xax (v:=.int .i64 (-1)) rfl) <| xav ?_
  refine xck Tryz.func103 rfl (vs:=[.int .i64 (-1)]) (fun h_ H_=>⟨.int .i64 (-1),_,rfl,rfl,rfl⟩) (v:=.int .i64 (-1)) rfl ?_
  have hl:=S.len
  exact fun h_ H_=>K _ _ ⟨by first | (rw [xqq (z:=0) (k:=j) (by omega) ‹_› hs]) | (rw [xqx (z:=0) (fun i hi=>hs i (by omega))]),H_.kept⟩
theorem c73 (md:Md) (h:Heap) (p:PHeap) (hp:Per p h) (fv:Value) (e:Option Addr) (n ce:Nat) (xs:List Int) (S:Ints p e n xs) (hn:n≤2 ^ 40) (q:Int→Bool) (hf: ∀ h,Per p h→ ∀ i,i<n→CallV Tryz.prog md fv [.int .i64 (xs.getD i 0)] h fun v h'=>v= .bool (q ((xs.getD i 0)))∧Keep h h'):CallsX Tryz.prog md 73 #[.slice e n ce,fv] h fun v h'=>v= .bool (decide (0≤idxA q xs))∧Keep h h':=by
 refine xbk (Φ:=fun h_=>St h [] p h_ []) Tryz.func73 rfl (tm:=zq1 (zq8 [])) rfl ?_ (St.start h _ hp)
 intro c₀ cs Stop K
 refine fsr <| rt (xax (v:=.bool (false)) rfl) (tm':=zq1 (zq4 _)) rfl <| ren <| xak <| ro (xaz (v:=.slice e n ce) rfl) <| ro (xaz (v:=fv) rfl) ?_
 refine xdj mn (first:=[]) (cap:=[]) rfl rfl wmw (fun h_ H_=>c103 md _ _ H_.pe fv _ _ _ _ S (by omega) q hf) (tm':=zq1 (zq8 [])) rfl ?_
 refine ro (xvj rfl rfl) <| ro (xax (v:=.bool (decide (0≤idxA q xs))) rfl) <| xav ?_
 refine xck Tryz.func73 rfl (vs:=[.bool (decide (0≤idxA q xs))]) (fun h_ H_=>⟨.bool (decide (0≤idxA q xs)),_,rfl,rfl,rfl⟩) (v:=.bool (decide (0≤idxA q xs))) rfl ?_
 exact fun h_ H_=>K _ _ ⟨rfl,H_.kept⟩
theorem c88 (md:Md) (h:Heap) (p:PHeap) (hp:Per p h) (a:Option Addr) (ca:Nat) (A:Nat→Option Addr) (C:Nat→Nat) (b:Option Addr) (cb:Nat) (k:Bk) (B:BookP p a k.cords.length A C b k.top.length k) (e:Option Addr) (m ce:Nat) (l:List Sp) (S:Sps p e m l) (hm:m≤40):CallsX Tryz.prog md 88 #[.agg #[.int .i64 (k.base),.int .i64 (k.places),.slice a k.cords.length ca,.slice b k.top.length cb],.slice e m ce] h fun v h'=>v= .bool (decide (cordB k l))∧Keep h h':=by
 refine xbk (Φ:=fun h_=>St h [] p h_ []) Tryz.func88 rfl (tm:=zq2 (zq16 [])) rfl ?_ (St.start h _ hp)
 intro c₀ cs Stop K
 have hs:=S.len
 refine fsr ?_
 refine xnv mn (v:=.agg #[.int .i64 (k.base),.int .i64 (k.places),.slice a k.cords.length ca,.slice b k.top.length cb]) rfl fun b1=>xdx (L':=[(b1,.cells #[.int .i64 (k.base),.int .i64 (k.places),.slice a k.cords.length ca,.slice b k.top.length cb] 25 (0,0))]) rfl ?_
 refine xew (tm':=_::_::_::_) rfl ?_
 refine ro (xax (v:=.bool (false)) rfl) <| ren ?_
 refine yxw 0 rfl (L':=[]) rfl fun p2 le3 hb4=>?_
 refine xak <| ro (xpz (a:=[]) (b:=[.pointer (some ⟨b1,0,none⟩)]) rfl rfl) <| rt (xax (v:=.func (.func 110) #[] #[.pointer (some ⟨b1,0,none⟩)]) rfl) (tm':=zq2 (zq4 _)) rfl <| ren <| xak <| ro (xaz (v:=.slice e m ce) rfl) ?_
 refine ro (xfv Tryz.underlying23 rfl) <| rt (xbz xww rfl (a':=⟨b1,1,none⟩) rfl) (tm':=zq2 (zq8 _)) rfl <| rd (fun h_ H_=>xcz H_ tA3 rfl (v:=.int .i64 (k.places)) (xpx hb4 rfl)) <| ro (xtz rfl rfl) <| rt (xaz (v:=.bool (decide (((m:Nat):Int)=k.places))) rfl) (tm':=zq2 (zq16 [])) rfl ?_
 by_cases cc5:((m:Nat):Int)=k.places
 ·
  refine xaj (ms rfl rfl (dtt cc5)) (fun h_ H_=>xaz (v:=.slice e m ce) rfl) rfl ?_
  refine xaj (ms rfl rfl (dtt cc5)) (fun h_ H_=>xaz (v:=.func (.func 110) #[] #[.pointer (some ⟨b1,0,none⟩)]) rfl) rfl ?_
  refine xdj (ms rfl rfl (dtt cc5)) (first:=[]) (cap:=[]) rfl rfl wmj (fun h_ H_=>c111 md _ _ H_.pe (.func (.func 110) #[] #[.pointer (some ⟨b1,0,none⟩)]) _ _ _ _ (S.mono le3) (by omega) (badS k) (fun h_ hp_ i_ hi_=>xtw wmk (c110 md _ _ hp_ _ _ _ _ _ _ k (show BookP _ _ _ _ _ _ _ k from ⟨(B.t.mono le3),(B.u.mono le3)⟩) _ hb4 _ _))) (tm':=zq2 (zq16 [])) rfl ?_
  refine xaj (ms rfl rfl (dtt cc5)) (fun h_ H_=>xgw rfl) rfl ?_
  refine ro (xdz rfl (dtt cc5) (v:=.bool (!(decide (0≤idxA (badS k) l)))) rfl) <| rt (xax (v:=.bool (!(decide (0≤idxA (badS k) l)))) rfl) (tm':=zq1 (zq4 _)) rfl <| xav ?_
  refine xck Tryz.func88 rfl (vs:=[.bool (!(decide (0≤idxA (badS k) l)))]) (fun h_ H_=>⟨.bool (!(decide (0≤idxA (badS k) l))),_,rfl,rfl,rfl⟩) (v:=.bool (!(decide (0≤idxA (badS k) l)))) rfl ?_
  exact fun h_ H_=>K _ _ ⟨congrArg Value.bool (by first | exact (zfq (by omega)) | exact (decide_eq_false (xwj (by omega))).symm),H_.kept⟩
 ·
  refine rp (mo rfl rfl (dff cc5)) <| rp (mo rfl rfl (dff cc5)) <| xdk (mo rfl rfl (dff cc5)) (tm':=zq2 (zq16 [])) rfl <| rp (mo rfl rfl (dff cc5)) <| ro (xdw rfl (dff cc5) (v:=.bool (false)) rfl) <| rt (xax (v:=.bool (false)) rfl) (tm':=zq1 (zq4 _)) rfl ?_
  refine xav ?_
  refine xck Tryz.func88 rfl (vs:=[.bool (false)]) (fun h_ H_=>⟨.bool (false),_,rfl,rfl,rfl⟩) (v:=.bool (false)) rfl ?_
  exact fun h_ H_=>K _ _ ⟨congrArg Value.bool (by first | exact (zfq (by omega)) | exact (decide_eq_false (xwj (by omega))).symm),H_.kept⟩
theorem c87 (md:Md) (h:Heap) (p:PHeap) (hp:Per p h) (a:Option Addr) (ca:Nat) (A:Nat→Option Addr) (C:Nat→Nat) (b:Option Addr) (cb:Nat) (k:Bk) (B:BookP p a k.cords.length A C b k.top.length k) (bt:Nat) (hbt:p bt=some (.cells #[.int .i64 k.base,.int .i64 k.places,.slice a k.cords.length ca,.slice b k.top.length cb] 25 (0,0))) (e:Option Addr) (m ce:Nat) (l:List Sp) (S:Sps p e m l) (hm:m≤40):CallsX Tryz.prog md 87 #[.slice e m ce,.pointer (some ⟨bt,0,none⟩)] h fun v h'=>v= .bool (notCord k l)∧Keep h h':=by
 refine xbk (Φ:=fun h_=>St h [] p h_ []) Tryz.func87 rfl (tm:=zq8 []) rfl ?_ (St.start h _ hp)
 intro c₀ cs Stop K
 refine fsr <| ro (xax (v:=.bool (false)) rfl) <| ren <| xak <| rd (fun h_ H_=>xtx H_ tA25 tS25 rfl (vs:=[.int .i64 (k.base),.int .i64 (k.places),.slice a k.cords.length ca,.slice b k.top.length cb]) rfl (znv (n:=4) hbt rfl)) <| rt (xaz (v:=.slice e m ce) rfl) (tm':=zq8 []) rfl ?_
 refine xdj mn (first:=[]) (cap:=[]) rfl rfl fC88 (fun h_ H_=>c88 md _ _ H_.pe _ _ _ _ _ _ k (show BookP _ _ _ _ _ _ _ k from ⟨B.t,B.u⟩) _ _ _ _ S (by omega)) rfl ?_
 refine ro (xgw rfl) <| rt (xax (v:=.bool (!(decide (cordB k l)))) rfl) (tm':=zq4 _) rfl <| xav ?_
 refine xck Tryz.func87 rfl (vs:=[.bool (!(decide (cordB k l)))]) (fun h_ H_=>⟨.bool (!(decide (cordB k l))),_,rfl,rfl,rfl⟩) (v:=.bool (!(decide (cordB k l)))) rfl ?_
 exact fun h_ H_=>K _ _ ⟨by first | rfl | simp [notCord, *],H_.kept⟩
theorem c58 (md:Md) (h:Heap) (p:PHeap) (hp:Per p h) (a:Option Addr) (ca:Nat) (A:Nat→Option Addr) (C:Nat→Nat) (b:Option Addr) (cb:Nat) (k:Bk) (B:BookP p a k.cords.length A C b k.top.length k) (hn:k.cords.length≤40∧k.top.length≤40∧ ∀ l∈k.cords,l.length≤40):CallsX Tryz.prog md 58 #[.agg #[.int .i64 (k.base),.int .i64 (k.places),.slice a k.cords.length ca,.slice b k.top.length cb]] h fun v h'=>v= .int .i64 (chkK k)∧Keep h h':=by
 refine xbk (Φ:=fun h_=>St h [] p h_ []) Tryz.func58 rfl (tm:=zq1 (zq32 [])) rfl ?_ (St.start h _ hp)
 intro c₀ cs Stop K
 refine fsr ?_
 refine xnv mn (v:=.agg #[.int .i64 (k.base),.int .i64 (k.places),.slice a k.cords.length ca,.slice b k.top.length cb]) rfl fun b1=>xdx (L':=[(b1,.cells #[.int .i64 (k.base),.int .i64 (k.places),.slice a k.cords.length ca,.slice b k.top.length cb] 25 (0,0))]) rfl ?_
 refine ro (xax (v:=.int .i64 0) rfl) <| ren ?_
 refine yxw 0 rfl (L':=[]) rfl fun p2 le3 hb4=>?_
 refine xak <| rt (xpz (a:=[]) (b:=[.pointer (some ⟨b1,0,none⟩)]) rfl rfl) (tm':=zq1 (zq4 _)) rfl <| ro (xax (v:=.func (.func 87) #[] #[.pointer (some ⟨b1,0,none⟩)]) rfl) <| ren <| fsr <| ro (xbz xrv rfl (a':=⟨b1,0,none⟩) rfl) ?_
 refine xaj mn (fun h_ H_=>xcz H_ tA3 rfl (v:=.int .i64 (k.base)) (xpx hb4 rfl)) (tm':=zq1 (zq2 (zq4 _))) rfl ?_
 refine xdj mn (first:=[]) (cap:=[]) rfl rfl fC35 (fun h_ H_=>c35 md _ (k.base) (2) (10)) rfl ?_
 refine ro (xgw rfl) <| rt (xaz (v:=.bool (!(decide (2≤k.base∧k.base≤10)))) rfl) (tm':=zq2 (zq8 _)) rfl ?_
 by_cases cc5:2≤k.base∧k.base≤10
 ·
  refine xaj (ms rfl rfl (xfz (dtt cc5))) (fun h_ H_=>xbz xww rfl (a':=⟨b1,1,none⟩) rfl) rfl ?_
  refine xaj (ms rfl rfl (xfz (dtt cc5))) (fun h_ H_=>xcz H_ tA3 rfl (v:=.int .i64 (k.places)) (xpx hb4 rfl)) rfl ?_
  refine xdj (ms rfl rfl (xfz (dtt cc5))) (first:=[]) (cap:=[]) rfl rfl fC35 (fun h_ H_=>c35 md _ (k.places) (1) (4)) (tm':=zq1 (zq4 (zq8 _))) rfl ?_
  refine xaj (ms rfl rfl (xfz (dtt cc5))) (fun h_ H_=>xgw rfl) rfl ?_
  refine ro (xdw rfl (xfz (dtt cc5)) (v:=.bool (!(decide (1≤k.places∧k.places≤4)))) rfl) <| rt (xaz (v:=.bool (!(decide (1≤k.places∧k.places≤4)))) rfl) (tm':=zq16 _) rfl ?_
  by_cases cc6:1≤k.places∧k.places≤4
  ·
   refine xaj (ms rfl rfl (xfz (dtt cc6))) (fun h_ H_=>xbz xuq rfl (a':=⟨b1,2,none⟩) rfl) rfl ?_
   refine xaj (ms rfl rfl (xfz (dtt cc6))) (fun h_ H_=>xcz H_ tA22 rfl (v:=.slice a k.cords.length ca) (xpx hb4 rfl)) rfl ?_
   refine xaj (ms rfl rfl (xfz (dtt cc6))) (fun h_ H_=>xfv Tryz.underlying22 rfl) (tm':=zq1 (zq2 (zq16 _))) rfl ?_
   refine xaj (ms rfl rfl (xfz (dtt cc6))) (fun h_ H_=>xmw rfl rfl) rfl ?_
   refine ro (xdw rfl (xfz (dtt cc6)) (v:=.bool (decide (4<((k.cords.length:Nat):Int)))) rfl) <| rt (xaz (v:=.bool (decide (4<((k.cords.length:Nat):Int)))) rfl) (tm':=zq2 (zq4 (zq16 _))) rfl ?_
   by_cases cc7:4<((k.cords.length:Nat):Int)
   ·
    refine rp (mo rfl rfl (dtt cc7)) <| rp (mo rfl rfl (dtt cc7)) <| xdk (mo rfl rfl (dtt cc7)) (tm':=zq1 (zq32 [])) rfl <| rp (mo rfl rfl (dtt cc7)) <| ro (xdz rfl (dtt cc7) (v:=.bool (true)) rfl) <| rt (xaz (v:=.bool (true)) rfl) (tm':=zq1 (zq32 [])) rfl ?_
    refine rp (mo rfl rfl rfl) <| rp (mo rfl rfl rfl) <| xdk (mo rfl rfl rfl) (tm':=zq1 (zq32 [])) rfl <| rp (mo rfl rfl rfl) <| ro (xdz rfl rfl (v:=.bool (true)) rfl) <| xav ?_
    refine xbv rfl rfl <| fsr <| rt (xax (v:=.int .i64 110) rfl) (tm':=_::_::_::_) rfl <| xav ?_
    refine xck Tryz.func58 rfl (vs:=[.int .i64 110]) (fun h_ H_=>⟨.int .i64 110,_,rfl,rfl,rfl⟩) (v:=.int .i64 110) rfl ?_
    exact fun h_ H_=>K _ _ ⟨by first | (rw [xlx ⟨by omega,by omega,by omega,xtv (by assumption),xsz (by assumption)⟩]) | (rw [xov (fun z=>by have z1:=z.1;have z2:=z.2.1;have z3:=z.2.2.1;first | omega | exact ycv z.2.2.2.1 ‹_› | exact absurd ‹_› (xwz z.2.2.2.2))]),H_.kept⟩
   ·
    refine xaj (ms rfl rfl (dff cc7)) (fun h_ H_=>xbz xuq rfl (a':=⟨b1,2,none⟩) rfl) rfl ?_
    refine xaj (ms rfl rfl (dff cc7)) (fun h_ H_=>xcz H_ tA22 rfl (v:=.slice a k.cords.length ca) (xpx hb4 rfl)) rfl ?_
    refine xaj (ms rfl rfl (dff cc7)) (fun h_ H_=>xaz (v:=.func (.func 87) #[] #[.pointer (some ⟨b1,0,none⟩)]) rfl) (tm':=zq1 (zq32 [])) rfl ?_
    refine xdj (ms rfl rfl (dff cc7)) (first:=[]) (cap:=[]) rfl rfl fC89 (fun h_ H_=>c89 md _ _ H_.pe (.func (.func 87) #[] #[.pointer (some ⟨b1,0,none⟩)]) _ _ _ _ _ _ (B.t.mono le3) (by omega) (notCord k) (fun h_ hp_ i_ hi_=>xtw fC87 (c87 md _ _ hp_ _ _ _ _ _ _ k (show BookP _ _ _ _ _ _ _ k from ⟨(B.t.mono le3),(B.u.mono le3)⟩) _ hb4 _ _ _ _ ((B.t.mono le3).sps _ hi_) (hn.2.2 _ (xlk (by omega)))))) rfl ?_
    refine ro (xdw rfl (dff cc7) (v:=.bool (decide (0≤idxA (notCord k) k.cords))) rfl) <| rt (xaz (v:=.bool (decide (0≤idxA (notCord k) k.cords))) rfl) (tm':=zq1 (zq32 [])) rfl ?_
    by_cases cc8:0≤idxA (notCord k) k.cords
    ·
     refine rp (mo rfl rfl (dtt cc8)) <| rp (mo rfl rfl (dtt cc8)) <| xdk (mo rfl rfl (dtt cc8)) (tm':=zq1 (zq32 [])) rfl <| rp (mo rfl rfl (dtt cc8)) <| ro (xdz rfl (dtt cc8) (v:=.bool (true)) rfl) <| xav ?_
     refine xbv rfl rfl <| fsr <| rt (xax (v:=.int .i64 110) rfl) (tm':=_::_::_::_) rfl <| xav ?_
     refine xck Tryz.func58 rfl (vs:=[.int .i64 110]) (fun h_ H_=>⟨.int .i64 110,_,rfl,rfl,rfl⟩) (v:=.int .i64 110) rfl ?_
     exact fun h_ H_=>K _ _ ⟨by first | (rw [xlx ⟨by omega,by omega,by omega,xtv (by assumption),xsz (by assumption)⟩]) | (rw [xov (fun z=>by have z1:=z.1;have z2:=z.2.1;have z3:=z.2.2.1;first | omega | exact ycv z.2.2.2.1 ‹_› | exact absurd ‹_› (xwz z.2.2.2.2))]),H_.kept⟩
    ·
     refine xaj (ms rfl rfl (dff cc8)) (fun h_ H_=>xaz (v:=.func (.func 87) #[] #[.pointer (some ⟨b1,0,none⟩)]) rfl) rfl ?_
     refine xaj (ms rfl rfl (dff cc8)) (fun h_ H_=>xbz zkj rfl (a':=⟨b1,3,none⟩) rfl) rfl ?_
     refine xaj (ms rfl rfl (dff cc8)) (fun h_ H_=>xcz H_ tA23 rfl (v:=.slice b k.top.length cb) (xpx hb4 rfl)) (tm':=zq1 (zq32 [])) rfl ?_
     refine xdj (ms rfl rfl (dff cc8)) (first:=[]) (cap:=[.pointer (some ⟨b1,0,none⟩)]) rfl rfl fC87 (fun h_ H_=>c87 md _ _ H_.pe _ _ _ _ _ _ k (show BookP _ _ _ _ _ _ _ k from ⟨(B.t.mono le3),(B.u.mono le3)⟩) _ hb4 _ _ _ _ (B.u.mono le3) (by omega)) rfl ?_
     refine ro (xdw rfl (dff cc8) (v:=.bool (notCord k k.top)) rfl) <| xav ?_
     rcases xxx (notCord k k.top) with cc9 | cc9
     ·
      refine xbv rfl cc9 <| fsr <| rt (xax (v:=.int .i64 110) rfl) (tm':=_::_::_::_) rfl <| xav ?_
      refine xck Tryz.func58 rfl (vs:=[.int .i64 110]) (fun h_ H_=>⟨.int .i64 110,_,rfl,rfl,rfl⟩) (v:=.int .i64 110) rfl ?_
      exact fun h_ H_=>K _ _ ⟨by first | (rw [xlx ⟨by omega,by omega,by omega,xtv (by assumption),xsz (by assumption)⟩]) | (rw [xov (fun z=>by have z1:=z.1;have z2:=z.2.1;have z3:=z.2.2.1;first | omega | exact ycv z.2.2.2.1 ‹_› | exact absurd ‹_› (xwz z.2.2.2.2))]),H_.kept⟩
     ·
      refine xcx rfl cc9 <| xcj <| fsr <| ro (xax (v:=.int .i64 0) rfl) <| xav ?_
      refine xck Tryz.func58 rfl (vs:=[.int .i64 0]) (fun h_ H_=>⟨.int .i64 0,_,rfl,rfl,rfl⟩) (v:=.int .i64 0) rfl ?_
      exact fun h_ H_=>K _ _ ⟨by first | (rw [xlx ⟨by omega,by omega,by omega,xtv (by assumption),xsz (by assumption)⟩]) | (rw [xov (fun z=>by have z1:=z.1;have z2:=z.2.1;have z3:=z.2.2.1;first | omega | exact ycv z.2.2.2.1 ‹_› | exact absurd ‹_› (xwz z.2.2.2.2))]),H_.kept⟩
  ·
   refine rp (mo rfl rfl (xgx (dff cc6))) <| xdk (mo rfl rfl (xgx (dff cc6))) (tm':=zq2 (zq16 _)) rfl <| rp (mo rfl rfl (xgx (dff cc6))) <| rp (mo rfl rfl (xgx (dff cc6))) <| rt (xdz rfl (xgx (dff cc6)) (v:=.bool (true)) rfl) (tm':=zq1 (zq4 (zq16 _))) rfl <| ro (xaz (v:=.bool (true)) rfl) ?_
   refine rp (mo rfl rfl rfl) <| xdk (mo rfl rfl rfl) (tm':=zq1 (zq32 [])) rfl <| rp (mo rfl rfl rfl) <| rp (mo rfl rfl rfl) <| rt (xdz rfl rfl (v:=.bool (true)) rfl) (tm':=zq1 (zq32 [])) rfl <| ro (xaz (v:=.bool (true)) rfl) ?_
   refine rp (mo rfl rfl rfl) <| xdk (mo rfl rfl rfl) (tm':=zq1 (zq32 [])) rfl <| rp (mo rfl rfl rfl) <| rp (mo rfl rfl rfl) <| rt (xdz rfl rfl (v:=.bool (true)) rfl) (tm':=zq1 (zq32 [])) rfl <| xav ?_
   refine xbv rfl rfl <| fsr <| ro (xax (v:=.int .i64 110) rfl) <| xav ?_
   refine xck Tryz.func58 rfl (vs:=[.int .i64 110]) (fun h_ H_=>⟨.int .i64 110,_,rfl,rfl,rfl⟩) (v:=.int .i64 110) rfl ?_
   exact fun h_ H_=>K _ _ ⟨by first | (rw [xlx ⟨by omega,by omega,by omega,xtv (by assumption),xsz (by assumption)⟩]) | (rw [xov (fun z=>by have z1:=z.1;have z2:=z.2.1;have z3:=z.2.2.1;first | omega | exact ycv z.2.2.2.1 ‹_› | exact absurd ‹_› (xwz z.2.2.2.2))]),H_.kept⟩
 ·
  refine rp (mo rfl rfl (xgx (dff cc5))) <| xdk (mo rfl rfl (xgx (dff cc5))) (tm':=zq4 (zq8 _)) rfl <| rp (mo rfl rfl (xgx (dff cc5))) <| rp (mo rfl rfl (xgx (dff cc5))) <| rt (xdz rfl (xgx (dff cc5)) (v:=.bool (true)) rfl) (tm':=zq1 (zq2 (zq4 (zq8 _)))) rfl <| ro (xaz (v:=.bool (true)) rfl) ?_
  refine rp (mo rfl rfl rfl) <| xdk (mo rfl rfl rfl) (tm':=zq2 (zq16 _)) rfl <| rp (mo rfl rfl rfl) <| rp (mo rfl rfl rfl) <| rt (xdz rfl rfl (v:=.bool (true)) rfl) (tm':=zq1 (zq4 (zq16 _))) rfl <| ro (xaz (v:=.bool (true)) rfl) ?_
  refine rp (mo rfl rfl rfl) <| xdk (mo rfl rfl rfl) (tm':=zq1 (zq32 [])) rfl <| rp (mo rfl rfl rfl) <| rp (mo rfl rfl rfl) <| rt (xdz rfl rfl (v:=.bool (true)) rfl) (tm':=zq1 (zq32 [])) rfl <| ro (xaz (v:=.bool (true)) rfl) ?_
  refine rp (mo rfl rfl rfl) <| xdk (mo rfl rfl rfl) (tm':=zq1 (zq32 [])) rfl <| rp (mo rfl rfl rfl) <| rp (mo rfl rfl rfl) <| rt (xdz rfl rfl (v:=.bool (true)) rfl) (tm':=zq1 (zq32 [])) rfl <| xav ?_
  refine xbv rfl rfl <| fsr <| ro (xax (v:=.int .i64 110) rfl) <| xav ?_
  refine xck Tryz.func58 rfl (vs:=[.int .i64 110]) (fun h_ H_=>⟨.int .i64 110,_,rfl,rfl,rfl⟩) (v:=.int .i64 110) rfl ?_
  exact fun h_ H_=>K _ _ ⟨by first | (rw [xlx ⟨by omega,by omega,by omega,xtv (by assumption),xsz (by assumption)⟩]) | (rw [xov (fun z=>by have z1:=z.1;have z2:=z.2.1;have z3:=z.2.2.1;first | omega | exact ycv z.2.2.2.1 ‹_› | exact absurd ‹_› (xwz z.2.2.2.2))]),H_.kept⟩
theorem c34 (md:Md) (h:Heap) (p:PHeap) (hp:Per p h) (a:Option Addr) (ca:Nat) (A:Nat→Option Addr) (C:Nat→Nat) (b:Option Addr) (cb:Nat) (k:Bk) (B:BookP p a k.cords.length A C b k.top.length k) (hn:k.cords.length≤40∧k.top.length≤40∧ ∀ l∈k.cords,l.length≤40) (q:Bool):CallsX Tryz.prog md 34 #[.agg #[.int .i64 (k.base),.int .i64 (k.places),.slice a k.cords.length ca,.slice b k.top.length cb],.bool (q)] h fun v h'=>v= .int .i64 (askK k q)∧Keep h h':=by
 refine xbk (Φ:=fun h_=>St h [] p h_ []) Tryz.func34 rfl (tm:=zq1 (zq4 (zq8 []))) rfl ?_ (St.start h _ hp)
 intro c₀ cs Stop K
 refine fsr ?_
 refine xnv mn (v:=.agg #[.int .i64 (k.base),.int .i64 (k.places),.slice a k.cords.length ca,.slice b k.top.length cb]) rfl fun b1=>xdx (L':=[(b1,.cells #[.int .i64 (k.base),.int .i64 (k.places),.slice a k.cords.length ca,.slice b k.top.length cb] 25 (0,0))]) rfl ?_
 refine rt (xax (v:=.int .i64 0) rfl) (tm':=zq1 (zq4 _)) rfl <| ren <| fsr <| rd (fun h_ H_=>xeq H_ tA25 tS25 rfl (i:=0) rfl (vs:=[.int .i64 (k.base),.int .i64 (k.places),.slice a k.cords.length ca,.slice b k.top.length cb]) rfl rfl) ?_
 refine xdj mn (first:=[]) (cap:=[]) rfl rfl fC58 (fun h_ H_=>c58 md _ _ H_.pe _ _ _ _ _ _ k (show BookP _ _ _ _ _ _ _ k from ⟨B.t,B.u⟩) hn) rfl ?_
 refine rt (xax (v:=.int .i64 (chkK k)) rfl) (tm':=zq2 (zq4 _)) rfl <| ren <| xak <| ro (xaz (v:=.int .i64 (chkK k)) rfl) <| ro (xix rfl rfl) <| xav ?_
 by_cases cc2:chkK k≠0
 ·
  refine xbv rfl (dtt cc2) <| fsr <| rt (xaz (v:=.int .i64 (chkK k)) rfl) (tm':=zq1 (zq4 (zq8 []))) rfl <| ro (xax (v:=.int .i64 (chkK k)) rfl) <| xav ?_
  refine xck Tryz.func34 rfl (vs:=[.int .i64 (chkK k)]) (fun h_ H_=>⟨.int .i64 (chkK k),_,rfl,rfl,rfl⟩) (v:=.int .i64 (chkK k)) rfl ?_
  exact fun h_ H_=>K _ _ ⟨by unfold askK;first | (rw [if_neg ‹_›]) | (rw [if_pos (by omega)];simp [*]),H_.kept⟩
 ·
  refine xcx rfl (dff cc2) <| xcj <| xaw <| fsr <| ro (xaz (v:=.bool (q)) rfl) <| rt (xgw rfl) (tm':=zq1 (zq4 (zq8 []))) rfl ?_
  refine xav ?_
  rcases xxx (q) with cc3 | cc3
  ·
   refine xcx rfl (xfz cc3) <| xcj <| fsr <| ro (xax (v:=.int .i64 0) rfl) <| xav ?_
   refine xck Tryz.func34 rfl (vs:=[.int .i64 0]) (fun h_ H_=>⟨.int .i64 0,_,rfl,rfl,rfl⟩) (v:=.int .i64 0) rfl ?_
   exact fun h_ H_=>K _ _ ⟨by unfold askK;first | (rw [if_neg ‹_›]) | (rw [if_pos (by omega)];simp [*]),H_.kept⟩
  ·
   refine xbv rfl (xgx cc3) <| fsr <| ro (xax (v:=.int .i64 1) rfl) <| xav ?_
   refine xck Tryz.func34 rfl (vs:=[.int .i64 1]) (fun h_ H_=>⟨.int .i64 1,_,rfl,rfl,rfl⟩) (v:=.int .i64 1) rfl ?_
   exact fun h_ H_=>K _ _ ⟨by unfold askK;first | (rw [if_neg ‹_›]) | (rw [if_pos (by omega)];simp [*]),H_.kept⟩
theorem c74 (md:Md) (h:Heap) (p:PHeap) (hp:Per p h) (a:Option Addr) (ca:Nat) (A:Nat→Option Addr) (C:Nat→Nat) (b:Option Addr) (cb:Nat) (k:Bk) (_B:BookP p a k.cords.length A C b k.top.length k) (bt:Nat) (hbt:p bt=some (.cells #[.int .i64 k.base,.int .i64 k.places,.slice a k.cords.length ca,.slice b k.top.length cb] 25 (0,0))) (d:Int) (hb:2≤k.base∧k.base≤10):CallsX Tryz.prog md 74 #[.int .i64 (d),.pointer (some ⟨bt,0,none⟩)] h fun v h'=>v= .bool (badD k d)∧Keep h h':=by
 refine xbk (Φ:=fun h_=>St h [] p h_ []) Tryz.func74 rfl (tm:=zq2 (zq8 [])) rfl ?_ (St.start h _ hp)
 intro c₀ cs Stop K
 refine fsr <| rt (xax (v:=.bool (false)) rfl) (tm':=zq4 _) rfl <| ren <| xak <| ro (xaz (v:=.int .i64 (d)) rfl) <| ro (xbz xrv rfl (a':=⟨bt,0,none⟩) rfl) ?_
 refine xaj mn (fun h_ H_=>xcz H_ tA3 rfl (v:=.int .i64 (k.base)) (xpx hbt rfl)) (tm':=zq2 (zq8 [])) rfl ?_
 refine ro (xlq rfl rfl (wr (by omega))) ?_
 refine xdj mn (first:=[]) (cap:=[]) rfl rfl fC35 (fun h_ H_=>c35 md _ (d) (0) (k.base-1)) rfl ?_
 refine rt (xgw rfl) (tm':=zq2 (zq8 [])) rfl <| ro (xax (v:=.bool (!(decide (0≤d∧d≤k.base-1)))) rfl) <| xav ?_
 refine xck Tryz.func74 rfl (vs:=[.bool (!(decide (0≤d∧d≤k.base-1)))]) (fun h_ H_=>⟨.bool (!(decide (0≤d∧d≤k.base-1))),_,rfl,rfl,rfl⟩) (v:=.bool (!(decide (0≤d∧d≤k.base-1)))) rfl ?_
 exact fun h_ H_=>K _ _ ⟨by first | rfl | (unfold badD;simp [*]),H_.kept⟩
theorem c44 (md:Md) (h:Heap) (p:PHeap) (hp:Per p h) (a:Option Addr) (ca:Nat) (A:Nat→Option Addr) (C:Nat→Nat) (b:Option Addr) (cb:Nat) (k:Bk) (B:BookP p a k.cords.length A C b k.top.length k) (e:Option Addr) (m ce:Nat) (l:List Int) (S:Ints p e m l) (hm:m≤2 ^ 40) (hb:2≤k.base∧k.base≤10):CallsX Tryz.prog md 44 #[.agg #[.int .i64 (k.base),.int .i64 (k.places),.slice a k.cords.length ca,.slice b k.top.length cb],.slice e m ce] h fun v h'=>v= .bool (decide (digK k l))∧Keep h h':=by
 refine xbk (Φ:=fun h_=>St h [] p h_ []) Tryz.func44 rfl (tm:=zq16 []) rfl ?_ (St.start h _ hp)
 intro c₀ cs Stop K
 have hs:=S.len
 refine fsr ?_
 refine xnv mn (v:=.agg #[.int .i64 (k.base),.int .i64 (k.places),.slice a k.cords.length ca,.slice b k.top.length cb]) rfl fun b1=>xdx (L':=[(b1,.cells #[.int .i64 (k.base),.int .i64 (k.places),.slice a k.cords.length ca,.slice b k.top.length cb] 25 (0,0))]) rfl ?_
 refine rt (xax (v:=.bool (false)) rfl) (tm':=zq1 (zq4 _)) rfl <| ren ?_
 refine yxw 0 rfl (L':=[]) rfl fun p2 le3 hb4=>?_
 refine xak <| ro (xaz (v:=.slice e m ce) rfl) <| ro (xfv Tryz.underlying26 rfl) <| rt (xbz xww rfl (a':=⟨b1,1,none⟩) rfl) (tm':=zq8 _) rfl <| rd (fun h_ H_=>xcz H_ tA3 rfl (v:=.int .i64 (k.places)) (xpx hb4 rfl)) <| ro (xtz rfl rfl) ?_
 refine rt (xaz (v:=.bool (decide (((m:Nat):Int)=k.places))) rfl) (tm':=zq16 []) rfl ?_
 by_cases cc5:((m:Nat):Int)=k.places
 ·
  refine xaj (ms rfl rfl (dtt cc5)) (fun h_ H_=>xaz (v:=.slice e m ce) rfl) rfl ?_
  refine xaj (ms rfl rfl (dtt cc5)) (fun h_ H_=>xpz (a:=[]) (b:=[.pointer (some ⟨b1,0,none⟩)]) rfl rfl) rfl ?_
  refine xdj (ms rfl rfl (dtt cc5)) (first:=[]) (cap:=[]) rfl rfl fC73 (fun h_ H_=>c73 md _ _ H_.pe (.func (.func 74) #[] #[.pointer (some ⟨b1,0,none⟩)]) _ _ _ _ (S.mono le3) (by omega) (badD k) (fun h_ hp_ i_ hi_=>xtw fC74 (c74 md _ _ hp_ _ _ _ _ _ _ k (show BookP _ _ _ _ _ _ _ k from ⟨(B.t.mono le3),(B.u.mono le3)⟩) _ hb4 _ hb))) (tm':=zq16 []) rfl ?_
  refine xaj (ms rfl rfl (dtt cc5)) (fun h_ H_=>xgw rfl) rfl ?_
  refine ro (xdz rfl (dtt cc5) (v:=.bool (!(decide (0≤idxA (badD k) l)))) rfl) <| rt (xax (v:=.bool (!(decide (0≤idxA (badD k) l)))) rfl) (tm':=zq1 (zq4 _)) rfl <| xav ?_
  refine xck Tryz.func44 rfl (vs:=[.bool (!(decide (0≤idxA (badD k) l)))]) (fun h_ H_=>⟨.bool (!(decide (0≤idxA (badD k) l))),_,rfl,rfl,rfl⟩) (v:=.bool (!(decide (0≤idxA (badD k) l)))) rfl ?_
  exact fun h_ H_=>K _ _ ⟨congrArg Value.bool (by first | exact (zsz (by omega)) | exact (decide_eq_false (yjw (by omega))).symm),H_.kept⟩
 ·
  refine rp (mo rfl rfl (dff cc5)) <| rp (mo rfl rfl (dff cc5)) <| xdk (mo rfl rfl (dff cc5)) (tm':=zq16 []) rfl <| rp (mo rfl rfl (dff cc5)) <| ro (xdw rfl (dff cc5) (v:=.bool (false)) rfl) <| rt (xax (v:=.bool (false)) rfl) (tm':=zq1 (zq4 _)) rfl ?_
  refine xav ?_
  refine xck Tryz.func44 rfl (vs:=[.bool (false)]) (fun h_ H_=>⟨.bool (false),_,rfl,rfl,rfl⟩) (v:=.bool (false)) rfl ?_
  exact fun h_ H_=>K _ _ ⟨congrArg Value.bool (by first | exact (zsz (by omega)) | exact (decide_eq_false (yjw (by omega))).symm),H_.kept⟩
theorem c11 (md:Md) (h:Heap) (p:PHeap) (hp:Per p h) (a:Option Addr) (ca:Nat) (A:Nat→Option Addr) (C:Nat→Nat) (b:Option Addr) (cb:Nat) (k:Bk) (_B:BookP p a k.cords.length A C b k.top.length k) (e:Option Addr) (m ce:Nat) (l:List Int) (S:Ints p e m l) (hm:m≤2 ^ 40) (hb:2≤k.base∧k.base≤10):CallsX Tryz.prog md 11 #[.agg #[.int .i64 (k.base),.int .i64 (k.places),.slice a k.cords.length ca,.slice b k.top.length cb],.slice e m ce] h fun v h'=>v= .bool (decide (digK k l))∧Keep h h':=by
 refine xbk (Φ:=fun h_=>St h [] p h_ []) Tryz.func11 rfl (tm:=zq2 (zq8 (zq16 []))) rfl ?_ (St.start h _ hp)
 intro c₀ cs Stop K
 have hs:=S.len
 refine fsr ?_
 refine xnv mn (v:=.agg #[.int .i64 (k.base),.int .i64 (k.places),.slice a k.cords.length ca,.slice b k.top.length cb]) rfl fun b1=>xdx (L':=[(b1,.cells #[.int .i64 (k.base),.int .i64 (k.places),.slice a k.cords.length ca,.slice b k.top.length cb] 25 (0,0))]) rfl ?_
 refine ro (xax (v:=.bool (false)) rfl) <| ren <| fsr <| rt (xaz (v:=.slice e m ce) rfl) (tm':=zq1 (zq2 (zq4 _))) rfl <| ro (xfv Tryz.underlying26 rfl) <| ro (xbz xww rfl (a':=⟨b1,1,none⟩) rfl) ?_
 refine xaj mn (fun h_ H_=>xbj H_ tA3 rfl (i:=0) rfl (v:=.int .i64 (k.places)) rfl) (tm':=zq2 (zq8 _)) rfl ?_
 refine ro (xix rfl rfl) <| xav ?_
 by_cases cc2:((m:Nat):Int)≠k.places
 ·
  refine xbv rfl (dtt cc2) <| fsr <| ro (xax (v:=.bool (false)) rfl) <| xav ?_
  refine xck Tryz.func11 rfl (vs:=[.bool (false)]) (fun h_ H_=>⟨.bool (false),_,rfl,rfl,rfl⟩) (v:=.bool (false)) rfl ?_
  exact fun h_ H_=>K _ _ ⟨by first | (rw [decide_eq_true (zaq (by omega) (fun i hi=>h1 i (by omega)))]) | (rw [decide_eq_false (yjw (by omega))]) | (rw [decide_eq_false (zsk (i:=j) (by omega) (yrz (by omega)))]),H_.kept⟩
 ·
  refine xcx rfl (dff cc2) <| xcj <| xaw <| fsr <| rt (xax (v:=.int .i64 0) rfl) (tm':=zq2 (zq4 _)) rfl <| xav ?_
  refine xcw ?_
  refine xhw (m₀:=m-0) (fun m_ tm_ h_=>∃ (j:Nat),m_=m-j∧(∃ y3:Nat→Value,tm_=[.agg #[.int .i64 (k.base),.int .i64 (k.places),.slice a k.cords.length ca,.slice b k.top.length cb],.slice e m ce,.pointer (some ⟨b1,0,none⟩),undef,(y3 4),.int .i64 (((j:Nat):Int)),.slice e m ce,.int .i64 (((m:Nat):Int)),.pointer (some ⟨b1,1,none⟩),.int .i64 (k.places),.bool (decide (((m:Nat):Int)≠k.places)),(y3 11),(y3 12),(y3 13),(y3 14),(y3 15),(y3 16),(y3 17),(y3 18),(y3 19),(y3 20),(y3 21),(y3 22),(y3 23),(y3 24),(y3 25)])∧(j≤m)∧(∀ i,i<j→badD k (l.getD i 0)=false)∧St h [] p h_ ([(b1,.cells #[.int .i64 (k.base),.int .i64 (k.places),.slice a k.cords.length ca,.slice b k.top.length cb] 25 (0,0))])) (fun h_ H_=>⟨0,rfl,(y_of rfl),Nat.zero_le _,(fun i hi=>absurd hi (Nat.not_lt_zero i)),H_⟩) ?_
  intro m_ tm_ IH4
  refine xhv fun j=>xcq fun hm_=>xcq fun ht_=>xcq fun hk=>xcq fun h1=>?_
  subst hm_;obtain ⟨y3,ht_⟩:=ht_;subst ht_
  refine xaw <| fsr <| ro (xaz (v:=.int .i64 (((j:Nat):Int))) rfl) <| ro (xaz (v:=.slice e m ce) rfl) <| rt (xfv Tryz.underlying26 rfl) (tm':=zq2 (zq4 (zq8 _))) rfl <| ro (xgz rfl rfl) ?_
  refine xav ?_
  by_cases cc5:((j:Nat):Int)<((m:Nat):Int)
  ·
   refine xbv rfl (dtt cc5) <| xcj <| xaw <| xcw <| xaw ?_
   refine xiw 7 [[],[],[0,1],[0,1,2],[],[4],[4,5],[0,1,2,3,4,5,6],[]] mixed (by kernel_rfl) (Nat.le_of_ble_eq_true rfl) ?_
   refine wt (xaz (v:=.slice e m ce) rfl) (tm':=zq2 (zq8 (zq16 []))) rfl <| wo (xaz (v:=.int .i64 (((j:Nat):Int))) rfl) ?_
   refine wt (xbw (i:=j) Tryz.underlying26 tS3 (xmz e m ce (S.ne (by omega))) rfl (by omega)) (tm':=zq2 (zq8 (zq16 []))) rfl ?_
   refine wd (fun h_ H_=>xcz H_ tA3 rfl (v:=.int .i64 (l.getD j 0)) (S.get (by omega))) ?_
   refine wt (xbz xrv rfl (a':=⟨b1,0,none⟩) rfl) (tm':=zq2 (zq8 (zq16 []))) rfl <| wd (fun h_ H_=>xbj H_ tA3 rfl (i:=0) rfl (v:=.int .i64 (k.base)) rfl) ?_
   refine wt (xlq rfl rfl (wr (by omega))) (tm':=zq2 (zq8 (zq16 []))) rfl ?_
   refine xmk rfl ?_
   refine xdj mn (first:=[]) (cap:=[]) rfl rfl fC30 (fun h_ H_=>c30 md _ (l.getD j 0) (0) (k.base-1)) (tm':=zq2 (zq8 (zq16 []))) rfl ?_
   refine ro (xgw rfl) <| xav ?_
   by_cases cc6:0≤l.getD j 0∧l.getD j 0≤k.base-1
   ·
    refine xcx rfl (xfz (dtt cc6)) <| xcj <| xdq <| xak <| ro (xaz (v:=.int .i64 (((j:Nat):Int))) rfl) ?_
    refine rt (xfj rfl rfl (n:=((j+1:Nat):Int)) (wr (by omega))) (tm':=zq1 (zq16 _)) rfl ?_
    refine ro (xax (v:=.int .i64 (((j+1:Nat):Int))) rfl) <| xav ?_
    exact fun h_ H_=>IH4 _ _ (by omega) h_ ⟨j+1,rfl,(y_of rfl),(by omega),(xuk h1 (ztk (by omega))),H_⟩
   ·
    refine xbv rfl (xgx (dff cc6)) <| fsr <| ro (xax (v:=.bool (false)) rfl) <| xav ?_
    refine xck Tryz.func11 rfl (vs:=[.bool (false)]) (fun h_ H_=>⟨.bool (false),_,rfl,rfl,rfl⟩) (v:=.bool (false)) rfl ?_
    exact fun h_ H_=>K _ _ ⟨by first | (rw [decide_eq_true (zaq (by omega) (fun i hi=>h1 i (by omega)))]) | (rw [decide_eq_false (yjw (by omega))]) | (rw [decide_eq_false (zsk (i:=j) (by omega) (yrz (by omega)))]),H_.kept⟩
  ·
   refine xcx rfl (dff cc5) <| xhz rfl <| fsr <| rt (xax (v:=.bool (true)) rfl) (tm':=zq1 (zq4 _)) rfl <| xav ?_
   refine xck Tryz.func11 rfl (vs:=[.bool (true)]) (fun h_ H_=>⟨.bool (true),_,rfl,rfl,rfl⟩) (v:=.bool (true)) rfl ?_
   exact fun h_ H_=>K _ _ ⟨by first | (rw [decide_eq_true (zaq (by omega) (fun i hi=>h1 i (by omega)))]) | (rw [decide_eq_false (yjw (by omega))]) | (rw [decide_eq_false (zsk (i:=j) (by omega) (yrz (by omega)))]),H_.kept⟩
end Go.Proofs.YtphalmjpbnffcaaGreatDoor
namespace Go.Proofs.YtphalmjpbnffcaaGreatDoor
open Go.X Go.X.Kn Go.Conc
set_option maxRecDepth 10000
set_option synthInstance.maxSize 2000

set_option maxHeartbeats 2000000
theorem c45 (md:Md) (h:Heap) (p:PHeap) (hp:Per p h) (z:Int) (hz:2≤z∧z≤10) (e:Option Addr) (m ce:Nat) (l:List Int) (S:Ints p e m l) (hm:m≤4) (hd: ∀ i,i<m→0≤l.getD i 0∧l.getD i 0≤z-1):CallsX Tryz.prog md 45 #[.int .i64 (z),.slice e m ce] h fun v h'=>v= .int .i64 (numJ z l l.length)∧Keep h h':=by
 refine xbk (Φ:=fun h_=>St h [] p h_ []) Tryz.func45 rfl (tm:=zq1 (zq4 (zq16 []))) rfl ?_ (St.start h _ hp)
 intro c₀ cs Stop K
 have hs:=S.len
 refine fsr <| ro (xax (v:=.int .i64 0) rfl) <| ren <| xak <| ro (xax (v:=.int .i64 0) rfl) <| ren ?_
 refine fsr <| rt (xaz (v:=.slice e m ce) rfl) (tm':=zq1 (zq8 _)) rfl <| ro (xfv Tryz.underlying26 rfl) <| ro (xaz (v:=.int .i64 0) rfl) <| xav <| xcw ?_
 refine xhw (m₀:=m-0) (fun m_ tm_ h_=>∃ (j:Nat) (s:Int),m_=m-j∧(∃ y1:Nat→Value,tm_=[.int .i64 (z),.slice e m ce,undef,undef,.int .i64 0,.int .i64 (s),undef,(y1 7),.slice e m ce,.int .i64 (((m:Nat):Int)),.int .i64 (((j:Nat):Int)),(y1 11),(y1 12),(y1 13),(y1 14),(y1 15),(y1 16),(y1 17),(y1 18),(y1 19),undef])∧(j≤m)∧(s=numJ z l j)∧St h [] p h_ ([])) (fun h_ H_=>⟨0,0,rfl,(y_of rfl),Nat.zero_le _,rfl,H_⟩) ?_
 intro m_ tm_ IH2
 refine xhv fun j=>xhv fun s=>xcq fun hm_=>xcq fun ht_=>xcq fun hj=>xcq fun hs_=>?_
 subst hm_;obtain ⟨y1,ht_⟩:=ht_;subst ht_
 have hd1_:=yuz hz (l:=l) (j:=j) (by omega) (fun i hi=>hd i (by omega))
 have hd2_:=wgq hz (l:=l) (j:=j) (by omega) (fun i hi=>hd i (by omega))
 rw [← hs_] at hd1_ hd2_
 refine fsr <| rt (xgz rfl rfl) (tm':=zq4 (zq8 _)) rfl <| ren ?_
 by_cases cc3:((j:Nat):Int)<((m:Nat):Int)
 ·
  refine xbv rfl (dtt cc3) <| xcj <| xaw <| xcw <| fsr ?_
  refine ro (xbw (i:=j) Tryz.underlying26 tS3 (xmz e m ce (S.ne (by omega))) rfl (by omega)) ?_
  refine rd (fun h_ H_=>xcz H_ tA3 rfl (v:=.int .i64 (l.getD j 0)) (S.get (by omega))) ?_
  refine rt (xax (v:=.int .i64 (l.getD j 0)) rfl) (tm':=zq8 _) rfl <| xav <| xak <| ro (xaz (v:=.int .i64 (s)) rfl) <| ro (xaz (v:=.int .i64 (z)) rfl) ?_
  refine rt (ycx rfl rfl (wr (by first | omega | (have z_:=hd j (by omega);omega)))) (tm':=zq1 (zq4 (zq16 []))) rfl ?_
  refine ro (xaz (v:=.int .i64 (l.getD j 0)) rfl) ?_
  refine ro (xfj rfl rfl (wr (by first | omega | (have z_:=hd j (by omega);omega)))) ?_
  refine rt (xax (v:=.int .i64 ((s*z)+(l.getD j 0))) rfl) (tm':=zq2 (zq4 _)) rfl <| xav <| xdq <| xak ?_
  refine ro (xfj rfl rfl (n:=((j+1:Nat):Int)) (wr (by omega))) ?_
  refine ro (xaz (v:=.int .i64 (((j+1:Nat):Int))) rfl) <| xav ?_
  exact fun h_ H_=>IH2 _ _ (by omega) h_ ⟨j+1,(s*z)+(l.getD j 0),rfl,(y_of rfl),(by omega),(by rw [numJ,← hs_]),H_⟩
 ·
  refine xcx rfl (dff cc3) <| xhz rfl <| fsr <| rt (xaz (v:=.int .i64 (s)) rfl) (tm':=zq1 (zq4 (zq16 []))) rfl <| ro (xax (v:=.int .i64 (s)) rfl) <| xav ?_
  refine xck Tryz.func45 rfl (vs:=[.int .i64 (s)]) (fun h_ H_=>⟨.int .i64 (s),_,rfl,rfl,rfl⟩) (v:=.int .i64 (s)) rfl ?_
  have ej_:j=l.length:=by omega
  exact fun h_ H_=>K _ _ ⟨by rw [hs_,ej_],H_.kept⟩
theorem c15 (md:Md) (h:Heap) (p:PHeap) (hp:Per p h) (a:Option Addr) (ca:Nat) (A:Nat→Option Addr) (C:Nat→Nat) (b:Option Addr) (cb:Nat) (k:Bk) (B:BookP p a k.cords.length A C b k.top.length k) (hn:k.cords.length≤40∧k.top.length≤40∧ ∀ l∈k.cords,l.length≤40) (hb:2≤k.base∧k.base≤10) (e:Option Addr) (m ce:Nat) (l:List Int) (S:Ints p e m l) (hm:m≤2 ^ 40):CallsX Tryz.prog md 15 #[.agg #[.int .i64 (k.base),.int .i64 (k.places),.slice a k.cords.length ca,.slice b k.top.length cb],.slice e m ce] h fun v h'=>v= .tuple #[.int .i64 (rdK k l),.int .i64 (askK k (decide (digK k l)))]∧Keep h h':=by
 refine xbk (Φ:=fun h_=>St h [] p h_ []) Tryz.func15 rfl (tm:=zq1 (zq2 (zq16 []))) rfl ?_ (St.start h _ hp)
 intro c₀ cs Stop K
 have hs:=S.len
 refine fsr ?_
 refine xnv mn (v:=.agg #[.int .i64 (k.base),.int .i64 (k.places),.slice a k.cords.length ca,.slice b k.top.length cb]) rfl fun b1=>xdx (L':=[(b1,.cells #[.int .i64 (k.base),.int .i64 (k.places),.slice a k.cords.length ca,.slice b k.top.length cb] 25 (0,0))]) rfl ?_
 refine rt (xax (v:=.int .i64 0) rfl) (tm':=zq1 (zq4 _)) rfl <| ro (xax (v:=.int .i64 0) rfl) <| ren <| xaw ?_
 refine xiw 4 [[],[],[],[1,2],[],[]] mixed (by kernel_rfl) (Nat.le_of_ble_eq_true rfl) ?_
 refine wd (fun h_ H_=>xeq H_ tA25 tS25 rfl (i:=0) rfl (vs:=[.int .i64 (k.base),.int .i64 (k.places),.slice a k.cords.length ca,.slice b k.top.length cb]) rfl rfl) ?_
 refine xej mn (fun h_ H_=>xeq H_ tA25 tS25 rfl (i:=0) rfl (vs:=[.int .i64 (k.base),.int .i64 (k.places),.slice a k.cords.length ca,.slice b k.top.length cb]) rfl rfl) (tm':=zq1 (zq8 _)) rfl ?_
 refine wo (xaz (v:=.slice e m ce) rfl) ?_
 refine xpq mn (first:=[]) (cap:=[]) rfl rfl fC44 (fun h_ H_=>(c44 md _ _ H_.pe _ _ _ _ _ _ k (show BookP _ _ _ _ _ _ _ k from ⟨B.t,B.u⟩) _ _ _ _ S (by omega) hb).mono fun v_ h2_ ⟨e_,k_⟩=>⟨e_,H_.call k_⟩) (tm':=zq1 (zq2 (zq8 _))) rfl ?_
 refine xmk rfl ?_
 refine xdj mn (first:=[]) (cap:=[]) rfl rfl fC34 (fun h_ H_=>c34 md _ _ H_.pe _ _ _ _ _ _ k (show BookP _ _ _ _ _ _ _ k from ⟨B.t,B.u⟩) hn (decide (digK k l))) (tm':=zq4 (zq8 _)) rfl ?_
 refine ro (xax (v:=.int .i64 (askK k (decide (digK k l)))) rfl) <| ren <| xak <| ro (xaz (v:=.int .i64 (askK k (decide (digK k l)))) rfl) <| rt (xix rfl rfl) (tm':=zq1 (zq2 (zq16 []))) rfl <| xav ?_
 by_cases cc2:askK k (decide (digK k l))≠0
 ·
  refine xbv rfl (dtt cc2) <| fsr <| ro (xaz (v:=.int .i64 (askK k (decide (digK k l)))) rfl) <| ro (xax (v:=.int .i64 0) rfl) <| rt (xax (v:=.int .i64 (askK k (decide (digK k l)))) rfl) (tm':=zq2 (zq4 _)) rfl <| xav ?_
  refine xck Tryz.func15 rfl (vs:=[.int .i64 0,.int .i64 (askK k (decide (digK k l)))]) (fun h_ H_=>⟨.int .i64 0,_,rfl,rfl,⟨.int .i64 (askK k (decide (digK k l))),_,rfl,rfl,rfl⟩⟩) (v:=.tuple #[.int .i64 0,.int .i64 (askK k (decide (digK k l)))]) rfl ?_
  exact fun h_ H_=>K _ _ ⟨by rw [rdK,if_neg (fun z_=>by have y_:=wlx (k:=k) (b:=decide (digK k l)) ‹_›;first | exact y_ z_.1 (decide_eq_true z_.2) )],H_.kept⟩
 ·
  refine xcx rfl (dff cc2) <| xcj <| xaw ?_
  obtain ⟨hc_,hq_⟩:=wix (show askK k (decide (digK k l))=0 by omega)
  have hd_:=of_decide_eq_true hq_
  have hl_:=hd_.1
  have hp_:=(zax hc_).2.1
  refine xak <| ro (xbz xrv rfl (a':=⟨b1,0,none⟩) rfl) <| rd (fun h_ H_=>xbj H_ tA3 rfl (i:=0) rfl (v:=.int .i64 (k.base)) rfl) <| rt (xaz (v:=.slice e m ce) rfl) (tm':=zq1 (zq2 (zq16 []))) rfl ?_
  refine xdj mn (first:=[]) (cap:=[]) rfl rfl fC45 (fun h_ H_=>c45 md _ _ H_.pe _ hb _ _ _ _ S (by omega) (fun i hi=>wiq (hd_.2 _ (xlk (by omega))))) rfl ?_
  refine ro (xax (v:=.int .i64 (numJ k.base l l.length)) rfl) <| rt (xax (v:=.int .i64 0) rfl) (tm':=zq2 (zq4 _)) rfl <| xav ?_
  refine xck Tryz.func15 rfl (vs:=[.int .i64 (numJ k.base l l.length),.int .i64 0]) (fun h_ H_=>⟨.int .i64 (numJ k.base l l.length),_,rfl,rfl,⟨.int .i64 0,_,rfl,rfl,rfl⟩⟩) (v:=.tuple #[.int .i64 (numJ k.base l l.length),.int .i64 0]) rfl ?_
  exact fun h_ H_=>K _ _ ⟨by rw [rdK,if_pos ⟨hc_,hd_⟩,show askK k (decide (digK k l))=0 by omega],H_.kept⟩
theorem c9 (md:Md) (h:Heap) (p:PHeap) (hp:Per p h) (a:Option Addr) (ca:Nat) (A:Nat→Option Addr) (C:Nat→Nat) (b:Option Addr) (cb:Nat) (k:Bk) (_B:BookP p a k.cords.length A C b k.top.length k) (hk:bookB k):CallsX Tryz.prog md 9 #[.agg #[.int .i64 (k.base),.int .i64 (k.places),.slice a k.cords.length ca,.slice b k.top.length cb]] h fun v h'=>v= .int .i64 (k.base ^ k.places.toNat)∧Keep h h':=by
 refine xbk (Φ:=fun h_=>St h [] p h_ []) Tryz.func9 rfl (tm:=zq16 []) rfl ?_ (St.start h _ hp)
 intro c₀ cs Stop K
 have hb:=hk.1
 have hp2:=hk.2.1
 refine fsr ?_
 refine xnv mn (v:=.agg #[.int .i64 (k.base),.int .i64 (k.places),.slice a k.cords.length ca,.slice b k.top.length cb]) rfl fun b1=>xdx (L':=[(b1,.cells #[.int .i64 (k.base),.int .i64 (k.places),.slice a k.cords.length ca,.slice b k.top.length cb] 25 (0,0))]) rfl ?_
 refine ro (xax (v:=.int .i64 0) rfl) <| ren <| xak <| rt (xax (v:=.int .i64 1) rfl) (tm':=zq4 _) rfl <| ren <| fsr ?_
 refine ro (xax (v:=.int .i64 0) rfl) <| xav <| xcw ?_
 refine xhw (m₀:=k.places.toNat-0) (fun m_ tm_ h_=>∃ (j:Nat) (s:Int),m_=k.places.toNat-j∧(∃ y2:Nat→Value,tm_=[.agg #[.int .i64 (k.base),.int .i64 (k.places),.slice a k.cords.length ca,.slice b k.top.length cb],.pointer (some ⟨b1,0,none⟩),.int .i64 0,.int .i64 (s),.int .i64 (((j:Nat):Int)),(y2 5),(y2 6),(y2 7),(y2 8),(y2 9),(y2 10),(y2 11),(y2 12),(y2 13),(y2 14),undef])∧(j≤k.places.toNat)∧(s=k.base ^ j)∧St h [] p h_ ([(b1,.cells #[.int .i64 (k.base),.int .i64 (k.places),.slice a k.cords.length ca,.slice b k.top.length cb] 25 (0,0))])) (fun h_ H_=>⟨0,1,rfl,(y_of rfl),Nat.zero_le _,(Int.pow_zero _).symm,H_⟩) ?_
 intro m_ tm_ IH3
 refine xhv fun j=>xhv fun s=>xcq fun hm_=>xcq fun ht_=>xcq fun hj=>xcq fun hs_=>?_
 subst hm_;obtain ⟨y2,ht_⟩:=ht_;subst ht_
 have hd1_:=ylz hb (j:=j) (by omega)
 have hd2_:=ylk hd1_ (show 1≤k.base∧k.base≤10 by omega)
 rw [← hs_] at hd1_ hd2_
 refine xaw <| fsr <| ro (xaz (v:=.int .i64 (((j:Nat):Int))) rfl) <| rt (xbz xww rfl (a':=⟨b1,1,none⟩) rfl) (tm':=zq1 (zq2 (zq4 _))) rfl <| rd (fun h_ H_=>xbj H_ tA3 rfl (i:=0) rfl (v:=.int .i64 (k.places)) rfl) <| ro (xgz rfl rfl) ?_
 refine xav ?_
 by_cases cc4:((j:Nat):Int)<k.places
 ·
  refine xbv rfl (dtt cc4) <| xcj <| xaw <| xcw <| xak <| rt (xaz (v:=.int .i64 (s)) rfl) (tm':=zq16 []) rfl ?_
  refine ro (xbz xrv rfl (a':=⟨b1,0,none⟩) rfl) <| rd (fun h_ H_=>xbj H_ tA3 rfl (i:=0) rfl (v:=.int .i64 (k.base)) rfl) ?_
  refine rt (ycx rfl rfl (wr (by omega))) (tm':=zq16 []) rfl ?_
  refine ro (xax (v:=.int .i64 (s*k.base)) rfl) <| xav <| xdq <| xak <| ro (xaz (v:=.int .i64 (((j:Nat):Int))) rfl) ?_
  refine rt (xfj rfl rfl (n:=((j+1:Nat):Int)) (wr (by omega))) (tm':=zq16 []) rfl ?_
  refine ro (xax (v:=.int .i64 (((j+1:Nat):Int))) rfl) <| xav ?_
  exact fun h_ H_=>IH3 _ _ (by omega) h_ ⟨j+1,s*k.base,rfl,(y_of rfl),(by omega),(by rw [Int.pow_succ,← hs_]),H_⟩
 ·
  refine xcx rfl (dff cc4) <| xhz rfl <| fsr <| ro (xaz (v:=.int .i64 (s)) rfl) <| rt (xax (v:=.int .i64 (s)) rfl) (tm':=_::_::_::_) rfl <| xav ?_
  refine xck Tryz.func9 rfl (vs:=[.int .i64 (s)]) (fun h_ H_=>⟨.int .i64 (s),_,rfl,rfl,rfl⟩) (v:=.int .i64 (s)) rfl ?_
  have ej_:j=k.places.toNat:=by omega
  exact fun h_ H_=>K _ _ ⟨by rw [hs_,ej_],H_.kept⟩
theorem c5 (md:Md) (h:Heap) (p:PHeap) (hp:Per p h) (a:Option Addr) (ca:Nat) (A:Nat→Option Addr) (C:Nat→Nat) (b:Option Addr) (cb:Nat) (k:Bk) (B:BookP p a k.cords.length A C b k.top.length k) (hl:k.cords.length≤9223372036854775807∧k.top.length≤9223372036854775807):CallsX Tryz.prog md 5 #[.agg #[.int .i64 (k.base),.int .i64 (k.places),.slice a k.cords.length ca,.slice b k.top.length cb]] h fun v h'=>∃ x:Bool,v= .bool x∧(x=false→ ¬ bigK k)∧New h h' []:=by
 refine xbk (Φ:=fun h_=>St h [] p h_ []) Tryz.func5 rfl (tm:=zq1 (zq2 (zq4 (zq16 (zq32 []))))) rfl ?_ (St.start h _ hp)
 intro c₀ cs Stop K
 refine fsr ?_
 refine xnv mn (v:=.agg #[.int .i64 (k.base),.int .i64 (k.places),.slice a k.cords.length ca,.slice b k.top.length cb]) rfl fun b1=>xdx (L':=[(b1,.cells #[.int .i64 (k.base),.int .i64 (k.places),.slice a k.cords.length ca,.slice b k.top.length cb] 25 (0,0))]) rfl ?_
 refine ro (xax (v:=.bool (false)) rfl) <| ren <| fsr ?_
 refine xaj mn (fun h_ H_=>xeq H_ tA25 tS25 rfl (i:=0) rfl (vs:=[.int .i64 (k.base),.int .i64 (k.places),.slice a k.cords.length ca,.slice b k.top.length cb]) rfl rfl) (tm':=zq1 (zq2 (zq4 _))) rfl ?_
 refine xdj mn (first:=[]) (cap:=[]) rfl rfl fC29 (fun h_ H_=>c29 md _ _ H_.pe _ _ _ _ _ _ k (show BookP _ _ _ _ _ _ _ k from ⟨B.t,B.u⟩) hl) rfl ?_
 refine xav ?_
 by_cases cc2:bigK k
 ·
  refine xbv rfl (dtt cc2) <| fsr <| ro (xax (v:=.bool (true)) rfl) <| xav ?_
  refine xck Tryz.func5 rfl (vs:=[.bool (true)]) (fun h_ H_=>⟨.bool (true),_,rfl,rfl,rfl⟩) (v:=.bool (true)) rfl ?_
  exact fun h_ H_=>K _ _ ⟨_,rfl,(fun z_=>by first | exact absurd z_ (by decide) | assumption),(H_.sub (List.nil_sublist _)).new⟩
 ·
  refine xcx rfl (dff cc2) <| xcj <| xaw <| xaw ?_
  have hn:=wkw ‹¬ bigK k›
  refine xak ?_
  refine xaj mn (fun h_ H_=>xeq H_ tA25 tS25 rfl (i:=0) rfl (vs:=[.int .i64 (k.base),.int .i64 (k.places),.slice a k.cords.length ca,.slice b k.top.length cb]) rfl rfl) (tm':=zq1 (zq8 _)) rfl ?_
  refine xdj mn (first:=[]) (cap:=[]) rfl rfl fC6 (fun h_ H_=>c6 md _ _ H_.pe _ _ _ _ _ _ k (show BookP _ _ _ _ _ _ _ k from ⟨B.t,B.u⟩) hn) rfl ?_
  refine ro (xix rfl rfl) <| xav ?_
  by_cases cc3:chkK k≠0
  ·
   refine xbv rfl (dtt cc3) <| fsr <| rt (xax (v:=.bool (false)) rfl) (tm':=_::_::_::_) rfl <| xav ?_
   refine xck Tryz.func5 rfl (vs:=[.bool (false)]) (fun h_ H_=>⟨.bool (false),_,rfl,rfl,rfl⟩) (v:=.bool (false)) rfl ?_
   exact fun h_ H_=>K _ _ ⟨_,rfl,(fun z_=>by first | exact absurd z_ (by decide) | assumption),(H_.sub (List.nil_sublist _)).new⟩
  ·
   refine xcx rfl (dff cc3) <| xcj <| xaw ?_
   have hk:=zax (k:=k) (by omega)
   have hb:=hk.1
   have hp4_:=hk.2.1
   have hpw_:=ylz hb (j:=k.places.toNat) (by omega)
   refine xak <| ro (xax (v:=.int .i64 1) rfl) <| ren <| fsr <| ro (xax (v:=.int .i64 0) rfl) <| xav ?_
   refine xcw ?_
   refine xhw (m₀:=k.cords.length-0) (fun m_ tm_ h_=>∃ (i:Nat) (s:Int),m_=k.cords.length-i∧(∃ y4:Nat→Value,tm_=[.agg #[.int .i64 (k.base),.int .i64 (k.places),.slice a k.cords.length ca,.slice b k.top.length cb],.pointer (some ⟨b1,0,none⟩),(y4 2),.int .i64 (s),.int .i64 (((i:Nat):Int)),(y4 5),.agg #[.int .i64 (k.base),.int .i64 (k.places),.slice a k.cords.length ca,.slice b k.top.length cb],.bool (decide (bigK k)),.agg #[.int .i64 (k.base),.int .i64 (k.places),.slice a k.cords.length ca,.slice b k.top.length cb],.int .i64 (chkK k),.bool (decide (chkK k≠0)),(y4 11),(y4 12),(y4 13),(y4 14),(y4 15),(y4 16),(y4 17),(y4 18),(y4 19),(y4 20),(y4 21),(y4 22),(y4 23),(y4 24),(y4 25),(y4 26),(y4 27),(y4 28),(y4 29),(y4 30),(y4 31),(y4 32),(y4 33),(y4 34),(y4 35),(y4 36),(y4 37),(y4 38),(y4 39),(y4 40),(y4 41),(y4 42),(y4 43),(y4 44),(y4 45),(y4 46),(y4 47),(y4 48),(y4 49),(y4 50),(y4 51),undef,undef,undef])∧(i≤k.cords.length)∧(1≤s∧s≤400)∧St h [] p h_ ([(b1,.cells #[.int .i64 (k.base),.int .i64 (k.places),.slice a k.cords.length ca,.slice b k.top.length cb] 25 (0,0))])) (fun h_ H_=>⟨0,1,rfl,(y_of rfl),Nat.zero_le _,(by decide),H_⟩) ?_
   intro m_ tm_ IH5
   refine xhv fun i=>xhv fun s=>xcq fun hm_=>xcq fun ht_=>xcq fun hi=>xcq fun hs_=>?_
   subst hm_;obtain ⟨y4,ht_⟩:=ht_;subst ht_
   refine xaw <| fsr <| rt (xaz (v:=.int .i64 (((i:Nat):Int))) rfl) (tm':=zq4 (zq8 _)) rfl <| ro (xbz xuq rfl (a':=⟨b1,2,none⟩) rfl) <| rd (fun h_ H_=>xbj H_ tA22 rfl (i:=0) rfl (v:=.slice a k.cords.length ca) rfl) <| rt (xfv Tryz.underlying22 rfl) (tm':=zq1 (zq2 (zq4 (zq8 _)))) rfl ?_
   refine ro (xgz rfl rfl) <| xav ?_
   by_cases cc6:((i:Nat):Int)<((k.cords.length:Nat):Int)
   ·
    refine xbv rfl (dtt cc6) <| xcj <| xaw <| xcw <| fsr <| ro (xax (v:=.int .i64 0) rfl) ?_
    refine xav <| xcw ?_
    refine xhw (m₀:=(k.cords.getD i []).length-0) (fun m_ tm_ h_=>∃ (q:Nat) (s2:Int),m_=(k.cords.getD i []).length-q∧(∃ y7:Nat→Value,tm_=[.agg #[.int .i64 (k.base),.int .i64 (k.places),.slice a k.cords.length ca,.slice b k.top.length cb],.pointer (some ⟨b1,0,none⟩),(y7 2),.int .i64 (s2),.int .i64 (((i:Nat):Int)),.int .i64 (((q:Nat):Int)),.agg #[.int .i64 (k.base),.int .i64 (k.places),.slice a k.cords.length ca,.slice b k.top.length cb],.bool (decide (bigK k)),.agg #[.int .i64 (k.base),.int .i64 (k.places),.slice a k.cords.length ca,.slice b k.top.length cb],.int .i64 (chkK k),.bool (decide (chkK k≠0)),.int .i64 (((i:Nat):Int)),.pointer (some ⟨b1,2,none⟩),.slice a k.cords.length ca,.int .i64 (((k.cords.length:Nat):Int)),.bool (decide (((i:Nat):Int)<((k.cords.length:Nat):Int))),(y4 16),(y4 17),(y7 18),(y7 19),(y7 20),(y7 21),(y7 22),(y7 23),(y7 24),(y7 25),(y7 26),(y7 27),(y7 28),(y7 29),(y7 30),(y7 31),(y7 32),(y7 33),(y7 34),(y7 35),(y7 36),(y7 37),(y7 38),(y7 39),(y7 40),(y7 41),(y7 42),(y7 43),(y7 44),(y7 45),(y7 46),(y7 47),(y7 48),(y7 49),(y7 50),(y7 51),undef,undef,undef])∧(q≤(k.cords.getD i []).length)∧(1≤s2∧s2≤400)∧St h [] p h_ ([(b1,.cells #[.int .i64 (k.base),.int .i64 (k.places),.slice a k.cords.length ca,.slice b k.top.length cb] 25 (0,0))])) (fun h_ H_=>⟨0,s,rfl,(y_of rfl),Nat.zero_le _,hs_,H_⟩) ?_
    intro m_ tm_ IH8
    refine xhv fun q=>xhv fun s2=>xcq fun hm_=>xcq fun ht_=>xcq fun hq=>xcq fun hs2_=>?_
    subst hm_;obtain ⟨y7,ht_⟩:=ht_;subst ht_
    have hc40_:=hn.2.2 _ (xlk (d:=[]) (l:=k.cords) (i:=i) (by omega))
    refine xaw <| fsr <| rt (xaz (v:=.int .i64 (((q:Nat):Int))) rfl) (tm':=zq1 (zq2 (zq16 _))) rfl <| ro (xbz xuq rfl (a':=⟨b1,2,none⟩) rfl) <| rd (fun h_ H_=>xbj H_ tA22 rfl (i:=0) rfl (v:=.slice a k.cords.length ca) rfl) <| rt (xaz (v:=.int .i64 (((i:Nat):Int))) rfl) (tm':=zq2 (zq4 (zq16 _))) rfl ?_
    refine ro (xbw (i:=i) Tryz.underlying22 tS23 (xmz a k.cords.length ca (B.t.ne (by omega))) rfl (by omega)) ?_
    refine rd (fun h_ H_=>xcz H_ tA23 rfl (v:=.slice (A i) ((k.cords.getD i []).length) (C i)) (B.t.cell _ (by omega))) ?_
    refine rt (xfv Tryz.underlying23 rfl) (tm':=zq1 (zq8 (zq16 _))) rfl <| ro (xgz rfl rfl) <| xav ?_
    by_cases cc9:((q:Nat):Int)<(((k.cords.getD i []).length:Nat):Int)
    ·
     refine xbv rfl (dtt cc9) <| xcj <| xaw <| xcw <| xaw ?_
     refine xiw 21 [[],[],[1],[],[1,2,3],[1,2,3,4],[],[1,2,3,4,5,6],[1,2,3,4,5,6,7],[1,2,3,4,5,6,7,8],[],[10],[],[10,11,12],[10,11,12,13],[],[10,11,12,13,14,15],[10,11,12,13,14,15,16],[10,11,12,13,14,15,16,17],[1,2,3,4,5,6,7,8,9,10,11,12,13,14,15,16,17,18],[1,2,3,4,5,6,7,8,9,10,11,12,13,14,15,16,17,18,19],[],[]] mixed (by kernel_rfl) (Nat.le_of_ble_eq_true rfl) ?_
     refine wo (xaz (v:=.int .i64 (s2)) rfl) <| wt (xbz xuq rfl (a':=⟨b1,2,none⟩) rfl) (tm':=zq2 (zq4 (zq8 (zq16 _)))) rfl <| wd (fun h_ H_=>xbj H_ tA22 rfl (i:=0) rfl (v:=.slice a k.cords.length ca) rfl) <| wt (xaz (v:=.int .i64 (((i:Nat):Int))) rfl) (tm':=zq32 _) rfl ?_
     refine wo (xbw (i:=i) Tryz.underlying22 tS23 (xmz a k.cords.length ca (B.t.ne (by omega))) rfl (by omega)) ?_
     refine xej mn (fun h_ H_=>xcz H_ tA23 rfl (v:=.slice (A i) ((k.cords.getD i []).length) (C i)) (B.t.cell _ (by omega))) (tm':=zq2 (zq32 _)) rfl ?_
     refine wo (xaz (v:=.int .i64 (((q:Nat):Int))) rfl) ?_
     refine wt (xbw (i:=q) Tryz.underlying23 tS68 (xmz (A i) ((k.cords.getD i []).length) (C i) ((B.t.sps _ (by omega)).ne (by omega))) rfl (by omega)) (tm':=zq4 (zq32 _)) rfl ?_
     refine wo (xbz ykv rfl (a':=((adr (A i)).add (q*2)).add 1) rfl) ?_
     refine xej mn (fun h_ H_=>xcz H_ tA3 rfl (v:=.int .i64 (((k.cords.getD i []).getD q spz).2)) ((B.t.sps _ (by omega)).hi (by omega))) (tm':=zq1 (zq2 (zq4 (zq16 (zq32 []))))) rfl ?_
     refine wo (xbz xuq rfl (a':=⟨b1,2,none⟩) rfl) ?_
     refine xej mn (fun h_ H_=>xbj H_ tA22 rfl (i:=0) rfl (v:=.slice a k.cords.length ca) rfl) (tm':=zq1 (zq2 (zq4 (zq16 (zq32 []))))) rfl ?_
     refine wo (xaz (v:=.int .i64 (((i:Nat):Int))) rfl) ?_
     refine wt (xbw (i:=i) Tryz.underlying22 tS23 (xmz a k.cords.length ca (B.t.ne (by omega))) rfl (by omega)) (tm':=zq1 (zq2 (zq4 (zq16 (zq32 []))))) rfl ?_
     refine wd (fun h_ H_=>xcz H_ tA23 rfl (v:=.slice (A i) ((k.cords.getD i []).length) (C i)) (B.t.cell _ (by omega))) ?_
     refine wt (xaz (v:=.int .i64 (((q:Nat):Int))) rfl) (tm':=zq1 (zq2 (zq4 (zq16 (zq32 []))))) rfl ?_
     refine wo (xbw (i:=q) Tryz.underlying23 tS68 (xmz (A i) ((k.cords.getD i []).length) (C i) ((B.t.sps _ (by omega)).ne (by omega))) rfl (by omega)) ?_
     refine wt (xbz zkz rfl (a':=(adr (A i)).add (q*2)) rfl) (tm':=zq1 (zq2 (zq4 (zq16 (zq32 []))))) rfl ?_
     refine wd (fun h_ H_=>xcz H_ tA3 rfl (v:=.int .i64 (((k.cords.getD i []).getD q spz).1)) ((B.t.sps _ (by omega)).lo (by omega))) ?_
     refine wt (xlq rfl rfl (wr (by have z_:=zuw hk (i:=i) (p:=q) (by omega) (by omega);have y_:=ylk (f:=((k.cords.getD i []).getD q spz).2-((k.cords.getD i []).getD q spz).1+1) hs2_ (by omega);omega))) (tm':=zq1 (zq2 (zq4 (zq16 (zq32 []))))) rfl ?_
     refine wo (xfj rfl rfl (wr (by have z_:=zuw hk (i:=i) (p:=q) (by omega) (by omega);have y_:=ylk (f:=((k.cords.getD i []).getD q spz).2-((k.cords.getD i []).getD q spz).1+1) hs2_ (by omega);omega))) ?_
     refine xmk rfl ?_
     refine ro (ycx rfl rfl (wr (by have z_:=zuw hk (i:=i) (p:=q) (by omega) (by omega);have y_:=ylk (f:=((k.cords.getD i []).getD q spz).2-((k.cords.getD i []).getD q spz).1+1) hs2_ (by omega);omega))) ?_
     refine rt (xax (v:=.int .i64 (s2*(((((k.cords.getD i []).getD q spz).2)-(((k.cords.getD i []).getD q spz).1))+1))) rfl) (tm':=zq4 _) rfl <| ren <| xak <| ro (xaz (v:=.int .i64 (s2*(((((k.cords.getD i []).getD q spz).2)-(((k.cords.getD i []).getD q spz).1))+1))) rfl) <| ro (xmw rfl rfl) <| xav ?_
     by_cases cc10:400<s2*(((((k.cords.getD i []).getD q spz).2)-(((k.cords.getD i []).getD q spz).1))+1)
     ·
      refine xbv rfl (dtt cc10) <| fsr <| rt (xax (v:=.bool (true)) rfl) (tm':=_::_::_::_) rfl <| xav ?_
      refine xck Tryz.func5 rfl (vs:=[.bool (true)]) (fun h_ H_=>⟨.bool (true),_,rfl,rfl,rfl⟩) (v:=.bool (true)) rfl ?_
      exact fun h_ H_=>K _ _ ⟨_,rfl,(fun z_=>by first | exact absurd z_ (by decide) | assumption),(H_.sub (List.nil_sublist _)).new⟩
     ·
      refine xcx rfl (dff cc10) <| xcj <| xdq <| xak <| ro (xaz (v:=.int .i64 (((q:Nat):Int))) rfl) ?_
      refine ro (xfj rfl rfl (n:=((q+1:Nat):Int)) (wr (by omega))) ?_
      refine rt (xax (v:=.int .i64 (((q+1:Nat):Int))) rfl) (tm':=zq2 (zq4 _)) rfl <| xav ?_
      exact fun h_ H_=>IH8 _ _ (by omega) h_ ⟨q+1,s2*(((((k.cords.getD i []).getD q spz).2)-(((k.cords.getD i []).getD q spz).1))+1),rfl,(y_of rfl),(by omega),(by have z_:=zuw hk (i:=i) (p:=q) (by omega) (by omega);have y_:=ylk (f:=((k.cords.getD i []).getD q spz).2-((k.cords.getD i []).getD q spz).1+1) hs2_ (by omega);omega),H_⟩
    ·
     refine xcx rfl (dff cc9) <| xhz rfl <| xdq <| xak <| ro (xaz (v:=.int .i64 (((i:Nat):Int))) rfl) ?_
     refine ro (xfj rfl rfl (n:=((i+1:Nat):Int)) (wr (by omega))) ?_
     refine rt (xax (v:=.int .i64 (((i+1:Nat):Int))) rfl) (tm':=zq1 (zq4 _)) rfl <| xav ?_
     exact fun h_ H_=>IH5 _ _ (by omega) h_ ⟨i+1,s2,rfl,(y_of rfl),(by omega),(by omega),H_⟩
   ·
    refine xcx rfl (dff cc6) <| xhz rfl <| fsr <| rd (fun h_ H_=>xeq H_ tA25 tS25 rfl (i:=0) rfl (vs:=[.int .i64 (k.base),.int .i64 (k.places),.slice a k.cords.length ca,.slice b k.top.length cb]) rfl rfl) ?_
    refine xdj mn (first:=[]) (cap:=[]) rfl rfl fC9 (fun h_ H_=>c9 md _ _ H_.pe _ _ _ _ _ _ k (show BookP _ _ _ _ _ _ _ k from ⟨B.t,B.u⟩) hk) rfl ?_
    refine rt (xmw rfl rfl) (tm':=zq1 (zq2 (zq4 (zq16 (zq32 []))))) rfl <| ro (xax (v:=.bool (decide (1000<k.base ^ k.places.toNat))) rfl) <| xav ?_
    refine xck Tryz.func5 rfl (vs:=[.bool (decide (1000<k.base ^ k.places.toNat))]) (fun h_ H_=>⟨.bool (decide (1000<k.base ^ k.places.toNat)),_,rfl,rfl,rfl⟩) (v:=.bool (decide (1000<k.base ^ k.places.toNat))) rfl ?_
    exact fun h_ H_=>K _ _ ⟨_,rfl,(fun z_=>by first | exact absurd z_ (by decide) | assumption),(H_.sub (List.nil_sublist _)).new⟩
end Go.Proofs.YtphalmjpbnffcaaGreatDoor
namespace Go.Proofs.YtphalmjpbnffcaaGreatDoor
open Go.X Go.X.Kn Go.Conc
set_option maxRecDepth 10000
set_option synthInstance.maxSize 2000

set_option maxHeartbeats 2000000
theorem c12 (md:Md) (h:Heap) (d:Int) (hd:0≤d∧d≤9):CallsX Tryz.prog md 12 #[.int .i64 (d)] h fun v h'=>v=sv [UInt8.ofNat (48+d).toNat]∧Keep h h':=by
 refine xbk (Φ:=fun h_=>St h [] (fun _=>none) h_ []) Tryz.func12 rfl (tm:=zq1 (zq2 (zq4 (zq16 [])))) rfl ?_ (St.start h _ (fun _ _ e=>by cases e))
 intro c₀ cs Stop K
 refine fsr <| ro (xax (v:=sv ([]:List UInt8)) rfl) <| ren <| fsr <| ro (xaz (v:=.int .i64 (d)) rfl) <| rt (xgz rfl rfl) (tm':=zq1 (zq4 _)) rfl ?_
 refine xav ?_
 refine xcx rfl (decide_eq_false (by omega)) ?_
 refine xcj <| xaw <| fsr <| ro (xaz (v:=.int .i64 (d)) rfl) <| ro (xgz rfl rfl) <| xav ?_
 refine xbv rfl (decide_eq_true (by omega)) ?_
 refine fsr <| rt (xaz (v:=.int .i64 (d)) rfl) (tm':=zq4 (zq8 _)) rfl ?_
 refine ro (xfj rfl rfl (wr (by omega))) ?_
 refine ro (xmq ⟨_,Tryz.underlying3⟩ Tryz.underlying5 rfl (n:=48+d) (wr8 (by omega))) ?_
 refine xdx (L':=([]:Pcs)++[]) rfl ?_
 refine xfq ([]:Pcs) mn Tryz.underlying47 tS5 tZ5 (Nat.le_of_ble_eq_true rfl) (vs:=[(0,.int .u8 (48+d))]) rfl rfl (es:=[[.int .u8 (48+d)]]) rfl rfl rfl fun v1 X2 o3=>?_
 refine xew (tm':=zq1 (zq2 (zq4 (zq8 _)))) rfl ?_
 refine rd (fun h_ H_=>xvw (A:=([]:Pcs)) (o3.as (zfx (by omega) (by omega))) H_ Tryz.underlying47 Tryz.underlying9 Tryz.underlying5 rfl) ?_
 refine ro (xax (v:=sv ([UInt8.ofNat (48+d).toNat])) rfl) <| xav ?_
 refine xck Tryz.func12 rfl (vs:=[sv ([UInt8.ofNat (48+d).toNat])]) (fun h_ H_=>⟨sv ([UInt8.ofNat (48+d).toNat]),_,rfl,rfl,rfl⟩) (v:=sv ([UInt8.ofNat (48+d).toNat])) rfl ?_
 exact fun h_ H_=>K _ _ ⟨rfl,H_.kept⟩
theorem c28 (md:Md) (h:Heap) (p:PHeap) (hp:Per p h) (a b:Option Addr) (m n c d:Nat) (xs ys:List Int) (A:Ints p a m xs) (B:Ints p b n ys) (hm:m≤2 ^ 40):CallsX Tryz.prog md 28 #[.slice a m c,.slice b n d] h fun v h'=>v= .bool (decide (xs=ys))∧Keep h h':=by
 refine xbk (Φ:=fun h_=>St h [] p h_ []) Tryz.func28 rfl (tm:=zq2 (zq8 (zq16 []))) rfl ?_ (St.start h _ hp)
 intro c₀ cs Stop K
 refine fsr <| rt (xax (v:=.bool (false)) rfl) (tm':=zq1 (zq4 _)) rfl <| ren <| fsr <| ro (xaz (v:=.slice a m c) rfl) <| ro (xfv Tryz.underlying26 rfl) ?_
 refine rt (xaz (v:=.slice b n d) rfl) (tm':=zq1 (zq8 _)) rfl <| ro (xfv Tryz.underlying26 rfl) <| ro (xix rfl rfl) <| xav ?_
 by_cases cc1:((m:Nat):Int)≠((n:Nat):Int)
 ·
  refine xbv rfl (dtt cc1) <| fsr <| rt (xax (v:=.bool (false)) rfl) (tm':=zq1 (zq4 _)) rfl <| xav ?_
  refine xck Tryz.func28 rfl (vs:=[.bool (false)]) (fun h_ H_=>⟨.bool (false),_,rfl,rfl,rfl⟩) (v:=.bool (false)) rfl ?_
  exact fun h_ H_=>K _ _ ⟨by first | exact yxv A.len B.len (by omega) | exact ynk ‹_› | exact ynj A.len B.len (by omega) (by omega) hs,H_.kept⟩
 ·
  refine xcx rfl (dff cc1) <| xcj <| xaw <| fsr <| ro (xax (v:=.int .i64 0) rfl) <| xav ?_
  refine xcw ?_
  refine xhw (m₀:=m-0) (fun m_ tm_ h_=>∃ (k:Nat),m_=m-k∧(∃ y2:Nat→Value,tm_=[.slice a m c,.slice b n d,undef,undef,(y2 4),.int .i64 (((k:Nat):Int)),.slice a m c,.int .i64 (((m:Nat):Int)),.slice b n d,.int .i64 (((n:Nat):Int)),.bool (decide (((m:Nat):Int)≠((n:Nat):Int))),(y2 11),(y2 12),(y2 13),(y2 14),(y2 15),(y2 16),(y2 17),(y2 18),(y2 19),(y2 20),(y2 21),(y2 22),(y2 23),(y2 24),(y2 25)])∧(k≤m)∧(∀ i,i<k→xs.getD i 0=ys.getD i 0)∧St h [] p h_ ([])) (fun h_ H_=>⟨0,rfl,(y_of rfl),Nat.zero_le _,(fun i hi=>absurd hi (Nat.not_lt_zero i)),H_⟩) ?_
  intro m_ tm_ IH3
  refine xhv fun k=>xcq fun hm_=>xcq fun ht_=>xcq fun hk=>xcq fun hs=>?_
  subst hm_;obtain ⟨y2,ht_⟩:=ht_;subst ht_
  refine xaw <| fsr <| ro (xaz (v:=.int .i64 (((k:Nat):Int))) rfl) <| rt (xaz (v:=.slice a m c) rfl) (tm':=zq1 (zq4 (zq8 _))) rfl <| ro (xfv Tryz.underlying26 rfl) <| ro (xgz rfl rfl) ?_
  refine xav ?_
  by_cases cc4:((k:Nat):Int)<((m:Nat):Int)
  ·
   refine xbv rfl (dtt cc4) <| xcj <| xaw <| xcw <| xaw ?_
   refine xiw 8 [[],[],[0,1],[0,1,2],[],[],[4,5],[4,5,6],[]] mixed (by kernel_rfl) (Nat.le_of_ble_eq_true rfl) ?_
   refine wt (xaz (v:=.slice a m c) rfl) (tm':=zq2 (zq8 (zq16 []))) rfl <| wo (xaz (v:=.int .i64 (((k:Nat):Int))) rfl) ?_
   refine wt (xbw (i:=k) Tryz.underlying26 tS3 (xmz a m c (A.ne (by omega))) rfl (by omega)) (tm':=zq2 (zq8 (zq16 []))) rfl ?_
   refine wd (fun h_ H_=>xcz H_ tA3 rfl (v:=.int .i64 (xs.getD k 0)) (A.get (by omega))) ?_
   refine wt (xaz (v:=.slice b n d) rfl) (tm':=zq2 (zq8 (zq16 []))) rfl <| wo (xaz (v:=.int .i64 (((k:Nat):Int))) rfl) ?_
   refine wt (xbw (i:=k) Tryz.underlying26 tS3 (xmz b n d (B.ne (by omega))) rfl (by omega)) (tm':=zq2 (zq8 (zq16 []))) rfl ?_
   refine wd (fun h_ H_=>xcz H_ tA3 rfl (v:=.int .i64 (ys.getD k 0)) (B.get (by omega))) ?_
   refine xmk rfl ?_
   refine ro (xix rfl rfl) <| xav ?_
   by_cases cc5:xs.getD k 0≠ys.getD k 0
   ·
    refine xbv rfl (dtt cc5) <| fsr <| rt (xax (v:=.bool (false)) rfl) (tm':=zq1 (zq4 _)) rfl <| xav ?_
    refine xck Tryz.func28 rfl (vs:=[.bool (false)]) (fun h_ H_=>⟨.bool (false),_,rfl,rfl,rfl⟩) (v:=.bool (false)) rfl ?_
    exact fun h_ H_=>K _ _ ⟨by first | exact yxv A.len B.len (by omega) | exact ynk ‹_› | exact ynj A.len B.len (by omega) (by omega) hs,H_.kept⟩
   ·
    refine xcx rfl (dff cc5) <| xcj <| xdq <| xak <| ro (xaz (v:=.int .i64 (((k:Nat):Int))) rfl) ?_
    refine ro (xfj rfl rfl (n:=((k+1:Nat):Int)) (wr (by omega))) ?_
    refine rt (xax (v:=.int .i64 (((k+1:Nat):Int))) rfl) (tm':=zq2 (zq4 _)) rfl <| xav ?_
    exact fun h_ H_=>IH3 _ _ (by omega) h_ ⟨k+1,rfl,(y_of rfl),(by omega),(zlq hs (by omega)),H_⟩
  ·
   refine xcx rfl (dff cc4) <| xhz rfl <| fsr <| ro (xax (v:=.bool (true)) rfl) <| xav ?_
   refine xck Tryz.func28 rfl (vs:=[.bool (true)]) (fun h_ H_=>⟨.bool (true),_,rfl,rfl,rfl⟩) (v:=.bool (true)) rfl ?_
   exact fun h_ H_=>K _ _ ⟨by first | exact yxv A.len B.len (by omega) | exact ynk ‹_› | exact ynj A.len B.len (by omega) (by omega) hs,H_.kept⟩
theorem c32 (md:Md) (h:Heap):CallsX Tryz.prog md 32 #[] h fun v h'=>∃ w1 w2 w3 w4 w7 w8 e7 e8 X1 X2 X3 X4 X5 X6 X7 X8,v= .tuple #[.agg #[.int .i64 10,.int .i64 2,w3,w4],.agg #[.int .i64 10,.int .i64 1,w7,w8]]∧OwnS 68 2 w1 (spcs [(1,1),(2,3)]) X1∧OwnS 68 2 w2 (spcs [(0,1),(5,5)]) X2∧OwnS 23 1 w3 [[w1],[w2]] X3∧OwnS 68 2 w4 (spcs [(2,2),(7,8)]) X4∧OwnS 23 1 w7 e7 X7∧OwnS 68 2 w8 e8 X8∧New h h' (X8++(X7++(X6++(X5++(X4++(X3++(X2++(X1++[])))))))):=by
 refine xbk (Φ:=fun h_=>St h [] (fun _=>none) h_ []) Tryz.func32 rfl (tm:=zq1 (zq2 (zq4 (zq16 [])))) rfl ?_ (St.start h _ (fun _ _ e=>by cases e))
 intro c₀ cs Stop K
 refine fsr ?_
 refine xmj mn tZ25 rfl fun b1=>xdx (L':=[(b1,.cells #[.int .i64 0,.int .i64 0,.slice none 0 0,.slice none 0 0] 25 (0,0))]) rfl ?_
 refine xmj mn tZ25 rfl fun b2=>xdx (L':=[(b2,.cells #[.int .i64 0,.int .i64 0,.slice none 0 0,.slice none 0 0] 25 (0,0)),(b1,.cells #[.int .i64 0,.int .i64 0,.slice none 0 0,.slice none 0 0] 25 (0,0))]) rfl ?_
 refine xew (tm':=_::_::_) rfl ?_
 refine ren <| xak <| ro (xjj tZ68 tP68 (vs:=[(0,.int .i64 1),(1,.int .i64 1)]) rfl (cells:=#[.int .i64 1,.int .i64 1]) rfl) <| ro (xjj tZ68 tP68 (vs:=[(0,.int .i64 2),(1,.int .i64 3)]) rfl (cells:=#[.int .i64 2,.int .i64 3]) rfl) ?_
 refine xdx (L':=([(b2,.cells #[.int .i64 0,.int .i64 0,.slice none 0 0,.slice none 0 0] 25 (0,0)),(b1,.cells #[.int .i64 0,.int .i64 0,.slice none 0 0,.slice none 0 0] 25 (0,0))]:Pcs)++[]) rfl ?_
 refine xfq ([(b2,.cells #[.int .i64 0,.int .i64 0,.slice none 0 0,.slice none 0 0] 25 (0,0)),(b1,.cells #[.int .i64 0,.int .i64 0,.slice none 0 0,.slice none 0 0] 25 (0,0))]:Pcs) mn Tryz.underlying23 tS68 tZ68 (Nat.le_of_ble_eq_true rfl) (vs:=[(0,.agg #[.int .i64 1,.int .i64 1]),(1,.agg #[.int .i64 2,.int .i64 3])]) rfl rfl (es:=[[.int .i64 1,.int .i64 1],[.int .i64 2,.int .i64 3]]) rfl rfl rfl fun v3 X4 o5=>?_
 refine xew (tm':=zq1 (zq4 _)) rfl ?_
 refine ro (xjj tZ68 tP68 (vs:=[(1,.int .i64 1)]) rfl (cells:=#[.int .i64 0,.int .i64 1]) rfl) <| ro (xjj tZ68 tP68 (vs:=[(0,.int .i64 5),(1,.int .i64 5)]) rfl (cells:=#[.int .i64 5,.int .i64 5]) rfl) ?_
 refine xfq ([(b2,.cells #[.int .i64 0,.int .i64 0,.slice none 0 0,.slice none 0 0] 25 (0,0)),(b1,.cells #[.int .i64 0,.int .i64 0,.slice none 0 0,.slice none 0 0] 25 (0,0))]:Pcs) mn Tryz.underlying23 tS68 tZ68 (Nat.le_of_ble_eq_true rfl) (vs:=[(0,.agg #[.int .i64 0,.int .i64 1]),(1,.agg #[.int .i64 5,.int .i64 5])]) rfl rfl (es:=[[.int .i64 0,.int .i64 1],[.int .i64 5,.int .i64 5]]) rfl rfl rfl fun v6 X7 o8=>?_
 refine xew (tm':=zq8 _) rfl ?_
 obtain ⟨a9,c10,ev_,_⟩:=o5.val;have ev_:v3= .slice a9 2 c10:=ev_.trans (congrArg (fun q_=>Value.slice a9 q_ c10) (show _=2 from rfl));subst ev_
 obtain ⟨a11,c12,ev_,_⟩:=o8.val;have ev_:v6= .slice a11 2 c12:=ev_.trans (congrArg (fun q_=>Value.slice a11 q_ c12) (show _=2 from rfl));subst ev_
 refine xfq ([(b2,.cells #[.int .i64 0,.int .i64 0,.slice none 0 0,.slice none 0 0] 25 (0,0)),(b1,.cells #[.int .i64 0,.int .i64 0,.slice none 0 0,.slice none 0 0] 25 (0,0))]:Pcs) mn Tryz.underlying22 tS23 tZ23 (Nat.le_of_ble_eq_true rfl) (vs:=[(0,(.slice a9 2 c10)),(1,(.slice a11 2 c12))]) rfl rfl (es:=[[(.slice a9 2 c10)],[(.slice a11 2 c12)]]) rfl rfl rfl fun v13 X14 o15=>?_
 refine ro (xjj tZ68 tP68 (vs:=[(0,.int .i64 2),(1,.int .i64 2)]) rfl (cells:=#[.int .i64 2,.int .i64 2]) rfl) <| rt (xjj tZ68 tP68 (vs:=[(0,.int .i64 7),(1,.int .i64 8)]) rfl (cells:=#[.int .i64 7,.int .i64 8]) rfl) (tm':=zq1 (zq2 (zq8 _))) rfl ?_
 refine xfq ([(b2,.cells #[.int .i64 0,.int .i64 0,.slice none 0 0,.slice none 0 0] 25 (0,0)),(b1,.cells #[.int .i64 0,.int .i64 0,.slice none 0 0,.slice none 0 0] 25 (0,0))]:Pcs) mn Tryz.underlying23 tS68 tZ68 (Nat.le_of_ble_eq_true rfl) (vs:=[(0,.agg #[.int .i64 2,.int .i64 2]),(1,.agg #[.int .i64 7,.int .i64 8])]) rfl rfl (es:=[[.int .i64 2,.int .i64 2],[.int .i64 7,.int .i64 8]]) rfl rfl rfl fun v16 X17 o18=>?_
 obtain ⟨a19,c20,ev_,_⟩:=o15.val;have ev_:v13= .slice a19 2 c20:=ev_.trans (congrArg (fun q_=>Value.slice a19 q_ c20) (show _=2 from rfl));subst ev_
 obtain ⟨a21,c22,ev_,_⟩:=o18.val;have ev_:v16= .slice a21 2 c22:=ev_.trans (congrArg (fun q_=>Value.slice a21 q_ c22) (show _=2 from rfl));subst ev_
 refine ro (xjj tZ25 tP25 (vs:=[(0,.int .i64 10),(1,.int .i64 2),(2,(.slice a19 2 c20)),(3,(.slice a21 2 c22))]) rfl (cells:=#[.int .i64 10,.int .i64 2,(.slice a19 2 c20),(.slice a21 2 c22)]) rfl) ?_
 refine xjq mn tS25 rfl (v:=.agg #[.int .i64 10,.int .i64 2,(.slice a19 2 c20),(.slice a21 2 c22)]) rfl (i:=1) rfl rfl (xgq rfl (xgq rfl (xgq o15.one.2 (xgq o18.one.2 rfl)))) (Nat.le_of_ble_eq_true rfl) (cs2:=[.int .i64 10,.int .i64 2,(.slice a19 2 c20),(.slice a21 2 c22)]) rfl (xdx (L':=([(b2,.cells #[.int .i64 0,.int .i64 0,.slice none 0 0,.slice none 0 0] 25 (0,0)),(b1,.cells #[.int .i64 10,.int .i64 2,(.slice a19 2 c20),(.slice a21 2 c22)] 25 (0,0))]:Pcs)++(X17++(X14++(X7++(X4++[]))))) rfl ?_)
 refine ren <| xak <| rt (xjj tZ68 tP68 (vs:=[(0,.int .i64 3),(1,.int .i64 3)]) rfl (cells:=#[.int .i64 3,.int .i64 3]) rfl) (tm':=zq2 (zq4 (zq8 _))) rfl ?_
 refine xfq ([(b2,.cells #[.int .i64 0,.int .i64 0,.slice none 0 0,.slice none 0 0] 25 (0,0)),(b1,.cells #[.int .i64 10,.int .i64 2,(.slice a19 2 c20),(.slice a21 2 c22)] 25 (0,0))]:Pcs) mn Tryz.underlying23 tS68 tZ68 (Nat.le_of_ble_eq_true rfl) (vs:=[(0,.agg #[.int .i64 3,.int .i64 3])]) rfl rfl (es:=[[.int .i64 3,.int .i64 3]]) rfl rfl rfl fun v23 X24 o25=>?_
 refine ro (xjj tZ68 tP68 (vs:=[(0,.int .i64 4),(1,.int .i64 4)]) rfl (cells:=#[.int .i64 4,.int .i64 4]) rfl) ?_
 refine xfq ([(b2,.cells #[.int .i64 0,.int .i64 0,.slice none 0 0,.slice none 0 0] 25 (0,0)),(b1,.cells #[.int .i64 10,.int .i64 2,(.slice a19 2 c20),(.slice a21 2 c22)] 25 (0,0))]:Pcs) mn Tryz.underlying23 tS68 tZ68 (Nat.le_of_ble_eq_true rfl) (vs:=[(0,.agg #[.int .i64 4,.int .i64 4])]) rfl rfl (es:=[[.int .i64 4,.int .i64 4]]) rfl rfl rfl fun v26 X27 o28=>?_
 refine xew (tm':=zq1 (zq2 (zq4 (zq16 [])))) rfl ?_
 obtain ⟨a29,c30,ev_,_⟩:=o25.val;have ev_:v23= .slice a29 1 c30:=ev_.trans (congrArg (fun q_=>Value.slice a29 q_ c30) (show _=1 from rfl));subst ev_
 obtain ⟨a31,c32,ev_,_⟩:=o28.val;have ev_:v26= .slice a31 1 c32:=ev_.trans (congrArg (fun q_=>Value.slice a31 q_ c32) (show _=1 from rfl));subst ev_
 refine xfq ([(b2,.cells #[.int .i64 0,.int .i64 0,.slice none 0 0,.slice none 0 0] 25 (0,0)),(b1,.cells #[.int .i64 10,.int .i64 2,(.slice a19 2 c20),(.slice a21 2 c22)] 25 (0,0))]:Pcs) mn Tryz.underlying22 tS23 tZ23 (Nat.le_of_ble_eq_true rfl) (vs:=[(0,(.slice a29 1 c30)),(1,(.slice a31 1 c32))]) rfl rfl (es:=[[(.slice a29 1 c30)],[(.slice a31 1 c32)]]) rfl rfl rfl fun v33 X34 o35=>?_
 refine ro (xjj tZ68 tP68 (vs:=[(0,.int .i64 9),(1,.int .i64 9)]) rfl (cells:=#[.int .i64 9,.int .i64 9]) rfl) ?_
 refine xfq ([(b2,.cells #[.int .i64 0,.int .i64 0,.slice none 0 0,.slice none 0 0] 25 (0,0)),(b1,.cells #[.int .i64 10,.int .i64 2,(.slice a19 2 c20),(.slice a21 2 c22)] 25 (0,0))]:Pcs) mn Tryz.underlying23 tS68 tZ68 (Nat.le_of_ble_eq_true rfl) (vs:=[(0,.agg #[.int .i64 9,.int .i64 9])]) rfl rfl (es:=[[.int .i64 9,.int .i64 9]]) rfl rfl rfl fun v36 X37 o38=>?_
 refine xew (tm':=zq1 (zq2 (zq4 (zq16 [])))) rfl ?_
 obtain ⟨a39,c40,ev_,_⟩:=o35.val;have ev_:v33= .slice a39 2 c40:=ev_.trans (congrArg (fun q_=>Value.slice a39 q_ c40) (show _=2 from rfl));subst ev_
 obtain ⟨a41,c42,ev_,_⟩:=o38.val;have ev_:v36= .slice a41 1 c42:=ev_.trans (congrArg (fun q_=>Value.slice a41 q_ c42) (show _=1 from rfl));subst ev_
 refine ro (xjj tZ25 tP25 (vs:=[(0,.int .i64 10),(1,.int .i64 1),(2,(.slice a39 2 c40)),(3,(.slice a41 1 c42))]) rfl (cells:=#[.int .i64 10,.int .i64 1,(.slice a39 2 c40),(.slice a41 1 c42)]) rfl) ?_
 refine xjq mn tS25 rfl (v:=.agg #[.int .i64 10,.int .i64 1,(.slice a39 2 c40),(.slice a41 1 c42)]) rfl (i:=0) rfl rfl (xgq rfl (xgq rfl (xgq o35.one.2 (xgq o38.one.2 rfl)))) (Nat.le_of_ble_eq_true rfl) (cs2:=[.int .i64 10,.int .i64 1,(.slice a39 2 c40),(.slice a41 1 c42)]) rfl (xdx (L':=([(b2,.cells #[.int .i64 10,.int .i64 1,(.slice a39 2 c40),(.slice a41 1 c42)] 25 (0,0)),(b1,.cells #[.int .i64 10,.int .i64 2,(.slice a19 2 c20),(.slice a21 2 c22)] 25 (0,0))]:Pcs)++(X37++(X34++(X27++(X24++(X17++(X14++(X7++(X4++[]))))))))) rfl ?_)
 refine ren ?_
 refine zlk (yaj (C:=[]) (A:=([(b2,.cells #[.int .i64 10,.int .i64 1,(.slice a39 2 c40),(.slice a41 1 c42)] 25 (0,0)),(b1,.cells #[.int .i64 10,.int .i64 2,(.slice a19 2 c20),(.slice a21 2 c22)] 25 (0,0))]:Pcs)) 3 [] [3,4,5,6,7,8,9,10] [3,4,5,6,7,8,9,10] [0,1,2] (fun i_=>match i_ with | 3=>X37 | 4=>X34 | 5=>X27 | 6=>X24 | 7=>X17 | 8=>X14 | 9=>X7 | 10=>X4 | _=>[]) (fun _=>[]) (fun i_=>match i_ with | 0=>[] | 1=>[] | 2=>[0] | _=>[]) (fun i_ val_ pc_ v_ x_=>match i_ with | 0=>v_= .agg #[.int .i64 10,.int .i64 2,(.slice a19 2 c20),(.slice a21 2 c22)]∧x_=[] | 1=>v_= .agg #[.int .i64 10,.int .i64 1,(.slice a39 2 c40),(.slice a41 1 c42)]∧x_=[] | 2=>v_=undef∧x_=[] | _=>True) (fun val43=>[.pointer (some ⟨b1,0,none⟩),.pointer (some ⟨b2,0,none⟩),.agg #[.int .i64 1,.int .i64 1],.agg #[.int .i64 2,.int .i64 3],(.slice a9 2 c10),.agg #[.int .i64 0,.int .i64 1],.agg #[.int .i64 5,.int .i64 5],(.slice a11 2 c12),(.slice a19 2 c20),.agg #[.int .i64 2,.int .i64 2],.agg #[.int .i64 7,.int .i64 8],(.slice a21 2 c22),.agg #[.int .i64 10,.int .i64 2,(.slice a19 2 c20),(.slice a21 2 c22)],.agg #[.int .i64 3,.int .i64 3],(.slice a29 1 c30),.agg #[.int .i64 4,.int .i64 4],(.slice a31 1 c32),(.slice a39 2 c40),.agg #[.int .i64 9,.int .i64 9],(.slice a41 1 c42),.agg #[.int .i64 10,.int .i64 1,(.slice a39 2 c40),(.slice a41 1 c42)],(val43 0),(val43 1)]) mixed (by kernel_rfl) (Nat.le_of_ble_eq_true rfl) (by kernel_rfl) (by kernel_rfl) (by kernel_rfl) (fun _ _=>⟨fun _ _ h=>h.2,⟨fun _ _ h=>h.2,⟨fun _ _ h=>h.2,trivial⟩⟩⟩) (fun _=>by kernel_rfl) (by kernel_rfl) ?_ ?_) (fun h_ H_=>St.swap (A:=([(b2,.cells #[.int .i64 10,.int .i64 1,(.slice a39 2 c40),(.slice a41 1 c42)] 25 (0,0)),(b1,.cells #[.int .i64 10,.int .i64 2,(.slice a19 2 c20),(.slice a21 2 c22)] 25 (0,0))]:Pcs)) (U:=(X37++(X34++(X27++(X24++(X17++(X14++(X7++(X4++[]))))))))) H_)
 ·
  refine xex rfl (xij ?_) ?_
  ·
   intro val43 pc44 hQ_ hX_
   obtain ⟨q_,hq0_⟩: ∃ q_:Value→Pcs→Prop,q_=(fun v_ x_=>v_= .agg #[.int .i64 10,.int .i64 2,(.slice a19 2 c20),(.slice a21 2 c22)]∧x_=[]):=⟨_,rfl⟩
   refine ⟨(zq1 (zq2 (zq4 (zq16 [])))),[],q_,rfl,rfl,(fun _ _ z_=>by subst hq0_;exact z_),?_⟩
   subst hq0_
   exact xiq mn (fun _ h_ H_=>xeq H_ tA25 tS25 rfl (i:=1) rfl (vs:=[.int .i64 10,.int .i64 2,(.slice a19 2 c20),(.slice a21 2 c22)]) rfl rfl) ⟨rfl,rfl⟩
  refine xex rfl (xij ?_) ?_
  ·
   intro val43 pc44 hQ_ hX_
   obtain ⟨q_,hq0_⟩: ∃ q_:Value→Pcs→Prop,q_=(fun v_ x_=>v_= .agg #[.int .i64 10,.int .i64 1,(.slice a39 2 c40),(.slice a41 1 c42)]∧x_=[]):=⟨_,rfl⟩
   refine ⟨(zq1 (zq2 (zq4 (zq16 [])))),[],q_,rfl,rfl,(fun _ _ z_=>by subst hq0_;exact z_),?_⟩
   subst hq0_
   exact xiq mn (fun _ h_ H_=>xeq H_ tA25 tS25 rfl (i:=0) rfl (vs:=[.int .i64 10,.int .i64 1,(.slice a39 2 c40),(.slice a41 1 c42)]) rfl rfl) ⟨rfl,rfl⟩
  refine xex rfl (xij ?_) ?_
  ·
   intro val43 pc44 hQ_ hX_
   have e0_:val43 0= .agg #[.int .i64 10,.int .i64 2,(.slice a19 2 c20),(.slice a21 2 c22)]:=(hQ_ 0 rfl).1
   obtain ⟨q_,hq0_⟩: ∃ q_:Value→Pcs→Prop,q_=(fun v_ x_=>v_=undef∧x_=[]):=⟨_,rfl⟩
   refine ⟨(zq1 (zq2 (zq4 (zq16 [])))),[],q_,(by rw [e0_]),rfl,(fun _ _ z_=>by subst hq0_;exact z_),?_⟩
   subst hq0_
   exact zxv mn tS25 rfl (v:=.agg #[.int .i64 10,.int .i64 2,(.slice a19 2 c20),(.slice a21 2 c22)]) rfl (i:=1) (fun _=>rfl) rfl (xgq rfl (xgq rfl (xgq o15.one.2 (xgq o18.one.2 rfl)))) (Nat.le_of_ble_eq_true rfl) rfl ⟨rfl,rfl⟩
  exact yax rfl
 intro val43 pc44 hQ_ hX_
 have e0_:val43 0= .agg #[.int .i64 10,.int .i64 2,(.slice a19 2 c20),(.slice a21 2 c22)]:=(hQ_ 0 (by decide)).1
 have e1_:val43 1= .agg #[.int .i64 10,.int .i64 1,(.slice a39 2 c40),(.slice a41 1 c42)]:=(hQ_ 1 (by decide)).1
 have x3_:pc44 3=X37:=hX_ 3 (by decide)
 have x4_:pc44 4=X34:=hX_ 4 (by decide)
 have x5_:pc44 5=X27:=hX_ 5 (by decide)
 have x6_:pc44 6=X24:=hX_ 6 (by decide)
 have x7_:pc44 7=X17:=hX_ 7 (by decide)
 have x8_:pc44 8=X14:=hX_ 8 (by decide)
 have x9_:pc44 9=X7:=hX_ 9 (by decide)
 have x10_:pc44 10=X4:=hX_ 10 (by decide)
 clear hQ_ hX_
 refine zmz (Φ:=fun h_=>St h [] (fun _=>none) h_ (([(b2,.cells #[.int .i64 10,.int .i64 1,(.slice a39 2 c40),(.slice a41 1 c42)] 25 (0,0)),(b1,.cells #[.int .i64 10,.int .i64 2,(.slice a19 2 c20),(.slice a21 2 c22)] 25 (0,0))]:Pcs)++(pc44 3++(pc44 4++(pc44 5++(pc44 6++(pc44 7++(pc44 8++(pc44 9++(pc44 10++[])))))))))) ?_ (fun h_ H_=>H_.swap')
 rw [x3_,x4_,x5_,x6_,x7_,x8_,x9_,x10_]
 refine xew (tm':=(zq1 (zq2 (zq4 (zq16 []))))) (by rw [e0_,e1_]) ?_
 refine xjq mn tS25 rfl (v:=.agg #[.int .i64 10,.int .i64 1,(.slice a39 2 c40),(.slice a41 1 c42)]) rfl (i:=0) rfl rfl (xgq rfl (xgq rfl (xgq o35.one.2 (xgq o38.one.2 rfl)))) (Nat.le_of_ble_eq_true rfl) (cs2:=[.int .i64 10,.int .i64 1,(.slice a39 2 c40),(.slice a41 1 c42)]) rfl (xdx (L':=([(b2,.cells #[.int .i64 10,.int .i64 1,(.slice a39 2 c40),(.slice a41 1 c42)] 25 (0,0)),(b1,.cells #[.int .i64 10,.int .i64 2,(.slice a19 2 c20),(.slice a21 2 c22)] 25 (0,0))]:Pcs)++(X37++(X34++(X27++(X24++(X17++(X14++(X7++(X4++[]))))))))) rfl ?_)
 refine xav ?_
 refine xck Tryz.func32 rfl (vs:=[.agg #[.int .i64 10,.int .i64 2,(.slice a19 2 c20),(.slice a21 2 c22)],.agg #[.int .i64 10,.int .i64 1,(.slice a39 2 c40),(.slice a41 1 c42)]]) (fun h_ H_=>⟨.agg #[.int .i64 10,.int .i64 2,(.slice a19 2 c20),(.slice a21 2 c22)],_,rfl,(xbq (xbx (xuj tA25 tS25 (vs:=[.int .i64 10,.int .i64 2,(.slice a19 2 c20),(.slice a21 2 c22)]) rfl (fun j_ v_ e_=>by rw [xkz];exact H_.ocell (i:=1) rfl (by simpa using e_)) ⟨rfl,rfl⟩))),⟨.agg #[.int .i64 10,.int .i64 1,(.slice a39 2 c40),(.slice a41 1 c42)],_,rfl,(xbq (xbx (xuj tA25 tS25 (vs:=[.int .i64 10,.int .i64 1,(.slice a39 2 c40),(.slice a41 1 c42)]) rfl (fun j_ v_ e_=>by rw [xkz];exact H_.ocell (i:=0) rfl (by simpa using e_)) ⟨rfl,rfl⟩))),rfl⟩⟩) (v:=.tuple #[.agg #[.int .i64 10,.int .i64 2,(.slice a19 2 c20),(.slice a21 2 c22)],.agg #[.int .i64 10,.int .i64 1,(.slice a39 2 c40),(.slice a41 1 c42)]]) rfl ?_
 exact fun h_ H_=>K _ _ ⟨_,_,_,_,_,_,_,_,X4,X7,X14,X17,X24,X27,X34,X37,rfl,by assumption,by assumption,by assumption,by assumption,by assumption,by assumption,by simpa using H_.dropA.new⟩
end Go.Proofs.YtphalmjpbnffcaaGreatDoor
