/-
  Part of proofs about buckets brought from wells to houses: a lone run, and what it computes. No condition.
-/
import Derived.Test.YtalfgojocdonhaaDoorD1
import Derived.Laws.StructEq
import Derived.Test.YtalfgojocdonhaaDoorProg
import Derived.KernelRfl
namespace Go.X.Flow
open Go.X

def cmpI (x y:Int):Int:=if x<y then -1 else if y<x then 1 else 0
def knownI (x y:Int):Int:=if x=0 then 2 else if x=y then 1 else 3
theorem xrw {q:Nat→Prop} {k:Nat} (hs: ∀ i,i<k→q i) (h:q k): ∀ i,i<k+1→q i:=fun i hi=>by
  by_cases e:i=k
  · subst e;exact h
  · exact hs i (by omega)
theorem wyq {xs:List Int} {z:Int} {k:Nat} (hs: ∀ i,i<k→xs.getD i 0≠z) (h: ¬ xs.getD k 0=z): ∀ i,i<k+1→xs.getD i 0≠z:=xrw hs h
theorem xpq {α:Type} {l:List α} {i:Nat} {d:α} (h:i<l.length):l.getD i d=l[i]:=by
  rw [List.getD_eq_getElem?_getD,List.getElem?_eq_getElem h];rfl
theorem zrw {xs:List Int} {z:Int} {k:Nat} (hk:k<xs.length) (h:xs.getD k 0=z):z∈xs:=by
  rw [← h,xpq hk];exact List.getElem_mem hk
theorem ylx {xs:List Int} {z:Int} {k:Nat} (hk:xs.length≤k) (hs: ∀ i,i<k→xs.getD i 0≠z):z ∉ xs:=fun m=>by
  obtain ⟨i,hi,e⟩:=List.mem_iff_getElem.1 m
  exact hs i (by omega) (by rw [xpq hi];exact e)
def RiseAt (xs:List Int) (lo hi:Int) (i:Nat):Prop:=(lo≤xs.getD i 0∧xs.getD i 0≤hi)∧(0<i→xs.getD ((i:Int)-1).toNat 0<xs.getD i 0)
def Rise (xs:List Int) (lo hi:Int):Prop:=∀ i,i<xs.length→RiseAt xs lo hi i
instance (xs lo hi i):Decidable (RiseAt xs lo hi i):=by unfold RiseAt;infer_instance
instance (xs lo hi):Decidable (Rise xs lo hi):=by unfold Rise;infer_instance
theorem ycz: ∀ {k:Nat} {xs ys:List Int},k<xs.length→k<ys.length→(∀ i,i<k→xs.getD i 0=ys.getD i 0)→ ¬ xs.getD k 0=ys.getD k 0→earlier xs ys=decide (xs.getD k 0<ys.getD k 0)
  | _,[],_,h,_,_,_=>by simp at h
  | _,_::_,[],_,h,_,_=>by simp at h
  | 0,x::xs,y::ys,_,_,_,n=>by
    have n: ¬ x=y:=n
    rw [earlier,if_neg n];rfl
  | k+1,x::xs,y::ys,h1,h2,hs,n=>by
    have e:x=y:=hs 0 (by omega)
    rw [earlier,if_pos e]
    exact ycz (k:=k) (by simp at h1;omega) (by simp at h2;omega) (fun i hi=>hs (i+1) (by omega)) n
theorem yaq: ∀ {k:Nat} {xs ys:List Int},k≤xs.length→k≤ys.length→xs.length≤k∨ys.length≤k→(∀ i,i<k→xs.getD i 0=ys.getD i 0)→earlier xs ys=false
  | _,[],[],_,_,_,_=>rfl
  | _,[],_::_,_,_,_,_=>rfl
  | _,_::_,[],_,_,_,_=>rfl
  | 0,x::xs,y::ys,_,_,h,_=>by simp at h
  | k+1,x::xs,y::ys,h1,h2,h,hs=>by
    have e:x=y:=hs 0 (by omega)
    rw [earlier,if_pos e]
    exact yaq (k:=k) (by simp at h1;omega) (by simp at h2;omega) (by simp at h;omega) (fun i hi=>hs (i+1) (by omega))

def idxA {α:Type} (q:α→Bool):List α→Int
  | []=>-1
  | d::ds=>if q d=true then 0 else if idxA q ds<0 then -1 else idxA q ds+1
theorem xwz {α:Type} {q:α→Bool} {z:α}: ∀ {ds:List α},(∀ i,i<ds.length→q (ds.getD i z)=false)→idxA q ds= -1
  | [],_=>rfl
  | d::ds,h=>by
    have h0:q d=false:=h 0 (by simp)
    have:=xwz (ds:=ds) fun i hi=>h (i+1) (by simp;omega)
    simp only [idxA,h0,this];simp
theorem xwx {α:Type} {q:α→Bool} {z:α}: ∀ {ds:List α} {k:Nat},k<ds.length→q (ds.getD k z)=true→(∀ i,i<k→q (ds.getD i z)=false)→idxA q ds=k
  | [],_,h,_,_=>by simp at h
  | d::ds,0,_,h,_=>by
    have h0:q d=true:=h
    simp [idxA,h0]
  | d::ds,k+1,hk,h,hs=>by
    have h0:q d=false:=hs 0 (by omega)
    have:=xwx (ds:=ds) (k:=k) (by simp at hk;omega) h fun i hi=>hs (i+1) (by omega)
    simp only [idxA,h0,this]
    rw [if_neg (by simp),if_neg (by omega)];omega
theorem ygz {α:Type} {q:α→Bool}: ∀ {ds:List α},0≤idxA q ds↔ ∃ t∈ds,q t=true
  | []=>by simp [idxA]
  | d::ds=>by
    have ih:=ygz (q:=q) (ds:=ds)
    rw [idxA]
    by_cases h:q d=true
    · rw [if_pos h];exact ⟨fun _=>⟨d,List.mem_cons_self ..,h⟩,fun _=>Int.le_refl _⟩
    · rw [if_neg h]
      by_cases c:idxA q ds<0
      · rw [if_pos c]
        refine ⟨fun z=>absurd z (by omega),fun ⟨t,ht,hq⟩=>?_⟩
        rcases List.mem_cons.1 ht with rfl | ht
        · exact absurd hq h
        · have:=ih.2 ⟨t,ht,hq⟩;omega
      · rw [if_neg c]
        refine ⟨fun _=>?_,fun _=>by omega⟩
        obtain ⟨t,ht,hq⟩:=ih.1 (by omega)
        exact ⟨t,List.mem_cons_of_mem _ ht,hq⟩
def orI:List Int→Int
  | []=>0
  | x::l=>if x=0 then orI l else x
theorem wfq: ∀ {k:Nat} {xs:List Int},k<xs.length→(∀ i,i<k→xs.getD i 0=0)→ ¬ xs.getD k 0=0→orI xs=xs.getD k 0
  | _,[],h,_,_=>by simp at h
  | 0,x::xs,_,_,n=>by
    have n: ¬ x=0:=n
    rw [orI,if_neg n];rfl
  | k+1,x::xs,h,hs,n=>by
    have e:x=0:=hs 0 (by omega)
    rw [orI,if_pos e];exact wfq (k:=k) (by simp at h;omega) (fun i hi=>hs (i+1) (by omega)) n
theorem zkv: ∀ {xs:List Int},(∀ i,i<xs.length→xs.getD i 0=0)→orI xs=0
  | [],_=>rfl
  | x::xs,hs=>by
    have e:x=0:=hs 0 (by simp)
    rw [orI,if_pos e];exact zkv fun i hi=>hs (i+1) (by simp;omega)
def ordW (a b c d:Int):Int:=orI [cmpI a c,cmpI b d]
theorem xsw {x y:FWay}:0≤ordW x.1 x.2 y.1 y.2↔ ¬ Bf x y:=by
  unfold ordW Bf
  simp only [orI,cmpI]
  (repeat' split) <;> omega
def badN (hi:Int) (n:Int):Bool:=! decide (0≤n∧n≤hi)
theorem xnw {hi:Int} {xs:List Int} (h: ¬ 0≤idxA (badN hi) xs): ∀ i,i<xs.length→0≤xs.getD i 0∧xs.getD i 0≤hi:=fun i hi'=>by
  have:=fun z=>h (ygz.2 ⟨xs.getD i 0,by rw [xpq hi'];exact List.getElem_mem hi',z⟩)
  by_cases c:0≤xs.getD i 0∧xs.getD i 0≤hi
  · exact c
  · exact absurd (by unfold badN;rw [decide_eq_false c];rfl) this
theorem xqq {hi:Int} {xs:List Int} (h:0≤idxA (badN hi) xs): ¬ ∀ i,i<xs.length→0≤xs.getD i 0∧xs.getD i 0≤hi:=fun z=>by
  obtain ⟨t,ht,hq⟩:=ygz.1 h
  obtain ⟨i,hi',e⟩:=List.mem_iff_getElem.1 ht
  have:=z i hi'
  rw [xpq hi',e] at this
  unfold badN at hq
  simp only [Bool.not_eq_true',decide_eq_false_iff_not] at hq
  omega
theorem zlq {x:FWay} {y:Int × Int}:(x.1=y.1∧x.2=y.2)↔x=y:=by
  cases x;cases y;simp
theorem waj {xs:List FWay} {x:FWay} {k:Nat} (hk:k<xs.length) (h:xs.getD k wz=x):x∈xs:=by
  rw [← h,xpq hk];exact List.getElem_mem hk
theorem waz {xs:List FWay} {x:FWay} {k:Nat} (hk:xs.length≤k) (hs: ∀ i,i<k→ ¬ xs.getD i wz=x):x ∉ xs:=fun m=>by
  obtain ⟨i,hi,e⟩:=List.mem_iff_getElem.1 m
  exact hs i (by omega) (by rw [xpq hi];exact e)
noncomputable instance (t:Tn):Decidable (Vd t):=Classical.propDecidable _
theorem ykj {t b}:askB t b=if chkB t=0 then (if b then 0 else 1) else chkB t:=by
  unfold askB
  rcases yjk t with h | h
  · rw [h.1];rfl
  · rw [h.1]
end Go.X.Flow
namespace Go.X
open Go.Conc

theorem ydk: ∀ {vs:List Value} {e:List Value} {j:Nat},(setl e j vs).length=e.length
  | [],_,_=>rfl
  | v::vs,e,j=>by simp only [setl];rw [ydk];simp
theorem ylz {w:Nat}: ∀ {vs:List Value} {es:List (List Value)} {i j:Nat} {e:List Value},(∀ e∈es,e.length=w)→es[i]?=some e→j+vs.length≤e.length→setl es.flatten (i*w+j) vs=(es.set i (setl e j vs)).flatten
  | [],es,i,j,e,_,hi,_=>by
    have:es.set i e=es:=by
      refine List.ext_getElem? fun m=>?_
      rw [List.getElem?_set]
      split
      · rename_i h;subst h;rw [if_pos (List.getElem?_eq_some_iff.1 hi).1,hi]
      · rfl
    simp only [setl];rw [this]
  | v::vs,es,i,j,e,h,hi,hj=>by
    have hil:=(List.getElem?_eq_some_iff.1 hi).1
    have he:e.length=w:=h e (List.mem_of_getElem? hi)
    simp only [List.length_cons] at hj
    simp only [setl]
    rw [xzk h hi (by omega)]
    have h2: ∀ z∈es.set i (e.set j v),z.length=w:=fun z hz=>by
      rcases List.mem_or_eq_of_mem_set hz with q | q
      · exact h z q
      · subst q;simpa using he
    have:=ylz (vs:=vs) (es:=es.set i (e.set j v)) (i:=i) (j:=j+1) (e:=e.set j v) h2 (by rw [List.getElem?_set,if_pos rfl,if_pos hil]) (by simp;omega)
    rw [Nat.add_assoc,this,List.set_set]

section
variable {P:Program} {md:Md} {f:FuncId} {r:Rd} {df:List Deferred} {k:List Item} {cs:List Frame} {Stop:Goroutine→Heap→Prop} {ops rest:List Oper} {tm:List Value}
  {h₀:Heap} {B₀:List Nat} {p:PHeap} {A X C:Pcs} {T:TypeId} {w:Nat} {v:Value} {es:List (List Value)} {d:Option Tmp} {ty:TypeId} {pos:String} {aft:Array Edge} {gd:Option (Nat × Bool)} {h:Heap}
theorem xoz {t e:TypeId} {x y:Operand} {i:Int} (o:OwnS T w v es X) (ht:P.underlying t=some (.slice e)) (hs:sizeT P e=some w) (hx:evl tm x=v) (hy:evl tm y= .int .i64 i) (h0:0≤i) (hi:i.toNat<es.length):
    Exd P tm ⟨d,.indexAddr t x y,ty,pos,aft,gd⟩ h (.pointer (some ((adrV v).add (i.toNat*w)))):=
  xix (i:=i.toNat) o ht hs hx (by rw [hy,Int.toNat_of_nonneg h0]) hi
theorem zwk {T':TypeId} {x y:Operand} {i j nsz:Nat} {e vs:List Value} {u:Value} {a:Addr} (o:OwnS T w v es X) (hm:Met ops tm ⟨none,.store T' x y,ty,pos,aft,gd⟩ true) (hs:sizeT P T'=some nsz) (hx:evl tm x= .pointer (some a)) (ha:((adrV v).add (i*w)).add j=a)
    (hy:evl tm y=u) (hu:u.cells=vs.toArray) (hn:vs.length=nsz) (h1:vs.all isOne=true) (hi:es[i]?=some e) (hj:j+vs.length≤e.length)
    (n: ∀ X',OwnS T w v (es.set i (setl e j vs)) X'→RL P md f r df k cs Stop ops rest tm (fun h=>St h₀ B₀ p h (A++(X'++C)))):
    RL P md f r df k cs Stop ops (⟨none,.store T' x y,ty,pos,aft,gd⟩::rest) tm (fun h=>St h₀ B₀ p h (A++(X++C))):=by
  have hil:=(List.getElem?_eq_some_iff.1 hi).1
  obtain ⟨b,cs',cap,rs,e1,e2,e3,e4,ec⟩:=o.has hil
  have he:e.length=w:=o.1 e (List.mem_of_getElem? hi)
  have hfl:es.flatten.length=es.length*w:=xlw o.1
  have hmul:(i+1)*w≤es.length*w:=Nat.mul_le_mul_right _ hil
  rw [Nat.add_mul,Nat.one_mul] at hmul
  subst e1;subst e2;subst ha
  have e5:setl cs' (i*w+j) vs=(es.set i (setl e j vs)).flatten++rs:=by
    rw [e3,← ylz o.1 hi hj]
    have: ∀ (vs l:List Value) (m:Nat),m+vs.length≤l.length→setl (l++rs) m vs=setl l m vs++rs:=by
      intro vs
      induction vs with
      | nil=>intro l m _;rfl
      | cons v vs ih=>
        intro l m hl
        simp only [List.length_cons] at hl
        simp only [setl]
        rw [List.set_append_left _ _ (by omega),ih _ _ (by simp;omega)]
    exact this vs _ _ (by omega)
  have o':OwnS T w (.slice (some ⟨b,0,none⟩) es.length cap) (es.set i (setl e j vs)) [(b,.cells (setl cs' (i*w+j) vs).toArray T (0,0))]:=by
    refine ⟨fun z hz=>?_,.inr ⟨b,setl cs' (i*w+j) vs,cap,rs,by simp,rfl,e5,by rw [ydk];exact e4,ec⟩⟩
    rcases List.mem_or_eq_of_mem_set hz with h | h
    · exact o.1 z h
    · subst h;rw [ydk];exact he
  have hx':evl tm x= .pointer (some ⟨b,i*w+j,none⟩):=by
    rw [hx];simp only [adrV];rw [xnz,xnz,Nat.zero_add]
  refine xik (i:=A.length) (b:=b) (off:=i*w+j) (cs':=cs') (T':=T) hm hs hx' hy (by rw [List.getElem?_append_right (Nat.le_refl _)];simp) (by rw [hu];simpa using hn) (by rw [hu];exact h1) (by rw [hu,e3,List.length_append];simp only [List.size_toArray];omega) (by rw [hu]) ?_
  have e6:(A++([(b,Obj.cells (List.toArray cs') T (0,0))]++C)).set A.length (b,.cells (setl cs' (i*w+j) vs).toArray T (0,0))=A++([(b,.cells (setl cs' (i*w+j) vs).toArray T (0,0))]++C):=by
    rw [List.set_append_right _ _ (Nat.le_refl _)];simp
  rw [e6]
  exact n _ o'
end
end Go.X
namespace Go.X.Flow
open Go.X

def ics (xs:List Int):List (List Value):=xs.map fun x=>[.int .i64 x]
theorem xcw (xs:List Int):(ics xs).length=xs.length:=by simp [ics]
theorem xqw {xs:List Int} {j:Nat} (h:j<xs.length):(ics xs)[j]?=some [.int .i64 (xs.getD j 0)]:=by
  rw [ics,List.getElem?_map,List.getD_eq_getElem?_getD,List.getElem?_eq_getElem h];rfl
theorem xxw {xs:List Int} {j:Nat} {z:Int}:(ics xs).set j [.int .i64 z]=ics (xs.set j z):=by
  simp [ics,List.map_set]
theorem yzx (xs:List Int) (z:Int):ics xs++[[.int .i64 z]]=ics (xs++[z]):=by simp [ics]
def leftK (vs:List Int) (g:Nat→Nat) (d:List Int) (k:Nat):List Int:=(List.range vs.length).map fun h=>vs.getD h 0-sm k fun i=>if g i=h then dv d i else 0
theorem leftK_length {vs g d k}:(leftK vs g d k).length=vs.length:=by simp [leftK]
theorem xvx {vs g d k h} (hh:h<vs.length):(leftK vs g d k).getD h 0=vs.getD h 0-sm k fun i=>if g i=h then dv d i else 0:=by
  rw [leftK,List.getD_eq_getElem?_getD,List.getElem?_map,List.getElem?_range hh];rfl
theorem ynx {a b:List Int} (hl:a.length=b.length) (h: ∀ i,i<a.length→a.getD i 0=b.getD i 0):a=b:=by
  refine List.ext_getElem hl fun i h1 h2=>?_
  have:=h i h1
  rwa [xpq h1,xpq h2] at this
theorem yuj {vs g d}:leftK vs g d 0=vs:=ynx leftK_length fun i hi=>by
  rw [leftK_length] at hi;rw [xvx hi];simp [sm]
theorem ynq {xs:List Int} {i j:Nat} {z:Int} (hi:i<xs.length):(xs.set i z).getD j 0=if i=j then z else xs.getD j 0:=wwk hi j
theorem yuk {vs:List Int} {g:Nat→Nat} {d:List Int} {k:Nat} (hg:g k<vs.length):(leftK vs g d k).set (g k) ((leftK vs g d k).getD (g k) 0-dv d k)=leftK vs g d (k+1):=by
  refine ynx (by rw [List.length_set,leftK_length,leftK_length]) fun i hi=>?_
  rw [List.length_set,leftK_length] at hi
  rw [ynq (by rw [leftK_length];exact hg),xvx hi,xvx hi,xvx hg]
  simp only [sm]
  by_cases e:g k=i
  · rw [if_pos e,if_pos e,e];omega
  · rw [if_neg e,if_neg e];omega
theorem yrq {g:Nat→Nat} {d:List Int} {k h:Nat} (hd: ∀ i,i<k→0≤dv d i∧dv d i≤20):0≤(sm k fun i=>if g i=h then dv d i else 0)∧(sm k fun i=>if g i=h then dv d i else 0)≤20*k:=by
  induction k with
  | zero=>exact ⟨Int.le_refl _,Int.le_refl _⟩
  | succ k ih=>
    have:=ih fun i hi=>hd i (by omega)
    have:=hd k (by omega)
    simp only [sm];split <;> omega
def hasL (t:Tn) (d:List Int):List Int:=(List.range t.nW).map (has t d)
theorem vdz {t:Tn} {i:Nat}:(t.wy.getD i wz).1.toNat=t.wh i:=rfl
theorem vdq {t:Tn} {i:Nat}:(t.wy.getD i wz).2.toNat=t.ww i:=rfl
theorem zfj {p:PHeap} {a:Option Addr} {n:Nat} {xs:List Int} (A:Ints p a n xs) (h:a.isNone=true):xs=[]:=by
  have hl:=A.len
  by_cases c:0<n
  · have:=A.ne c;rw [this] at h;cases h
  · cases xs with
    | nil=>rfl
    | cons x l=>simp at hl;omega
end Go.X.Flow
namespace Go.X.Flow
open Go.X Go.X.Bf

def arcC (x:Arc):List Value:=[.int .i64 ((x.fr:Nat):Int),.int .i64 ((x.to:Nat):Int),.int .i64 x.cost,.int .i64 x.way,.int .i64 x.more]
def arcV (x:Arc):Value:=.agg (arcC x).toArray
theorem yax {a b c w m:Int} {x:Arc} (h1:a=x.fr) (h2:b=x.to) (h3:c=x.cost) (h4:w=x.way) (h5:m=x.more):
    Value.agg #[.int .i64 a,.int .i64 b,.int .i64 c,.int .i64 w,.int .i64 m]=arcV x:=by subst h1;subst h2;subst h3;subst h4;subst h5;rfl
def acs (l:List Arc):List (List Value):=l.map arcC
theorem xyv (l:List Arc):(acs l).length=l.length:=by simp [acs]
theorem wuz (l:List Arc) (x:Arc):acs l++[arcC x]=acs (l++[x]):=by simp [acs]
theorem vcw {l:List Arc} {i:Nat} {x:Arc}:(acs l).set i (arcC x)=acs (l.set i x):=by simp [acs,List.map_set]
theorem wxx {l:List Arc} {i:Nat} (h:i<l.length):(acs l)[i]?=some (arcC (l.getD i a0)):=by
  rw [acs,List.getElem?_map,List.getD_eq_getElem?_getD,List.getElem?_eq_getElem h];rfl
section
variable {p p':PHeap} {a:Option Addr} {n k:Nat} {l:List Arc}
def Arcs (p:PHeap) (a:Option Addr) (n:Nat) (l:List Arc):Prop:=Sl p a n 5 (acs l)
theorem Arcs.len (s:Arcs p a n l):l.length=n:=by have:=Sl.len s;simpa [acs] using this
theorem Arcs.mono (hp:PLe p p') (s:Arcs p a n l):Arcs p' a n l:=Sl.mono hp s
theorem Arcs.at (s:Arcs p a n l) (hk:k<n) {j:Nat} {v:Value} (hv:(arcC (l.getD k a0))[j]?=some v):pcell p (((adr a).add (k*5)).add j)=some v:=by
  have hl:=s.len
  exact Sl.get s k (arcC (l.getD k a0)) (wxx (by omega)) j v hv
theorem Arcs.all (s:Arcs p a n l) (hk:k<n): ∀ j v,(arcC (l.getD k a0))[j]?=some v→pcell p (((adr a).add (k*5)).add j)=some v:=fun _ _ hv=>s.at hk hv
end

structure OkT (t:Tn):Prop extends Ok t where
  yp: ∀ i,i<t.m→0≤(t.wy.getD i wz).1∧0≤(t.wy.getD i wz).2

section
variable {p:PHeap} {a:Option Addr} {n k:Nat} {t:Tn} {d:List Int}
theorem Wys.hoN (s:Wys p a n t.wy) (hk:k<n) (h0:0≤(t.wy.getD k wz).1):pcell p ((adr a).add (k*2))=some (.int .i64 ((t.wh k:Nat):Int)):=by
  rw [s.ho hk,show ((t.wh k:Nat):Int)=(t.wy.getD k wz).1 from Int.toNat_of_nonneg h0]
theorem Wys.weN (s:Wys p a n t.wy) (hk:k<n) (h0:0≤(t.wy.getD k wz).2):pcell p (((adr a).add (k*2)).add 1)=some (.int .i64 ((t.ww k:Nat):Int)):=by
  rw [s.we hk,show ((t.ww k:Nat):Int)=(t.wy.getD k wz).2 from Int.toNat_of_nonneg h0]
theorem Wys.allN (s:Wys p a n t.wy) (hk:k<n) (h0:0≤(t.wy.getD k wz).1∧0≤(t.wy.getD k wz).2): ∀ j v,[Value.int .i64 ((t.wh k:Nat):Int),.int .i64 ((t.ww k:Nat):Int)][j]?=some v→pcell p (((adr a).add (k*2)).add j)=some v:=fun j v hv=>by
  rw [show ((t.wh k:Nat):Int)=(t.wy.getD k wz).1 from Int.toNat_of_nonneg h0.1,show ((t.ww k:Nat):Int)=(t.wy.getD k wz).2 from Int.toNat_of_nonneg h0.2] at hv
  exact s.all hk j v hv
theorem wqv {h:Nat} (hh:h<t.nH):(lackL t d).getD h 0=lack t d h:=by rw [lackL,List.getD_eq_getElem?_getD];simp [hh]
theorem vbv {x:Nat} (hx:x<t.nW):(hasL t d).getD x 0=has t d x:=by rw [hasL,List.getD_eq_getElem?_getD];simp [hx]
theorem ybx:(lackL t d).length=t.nH:=by simp [lackL]
theorem ymw:(hasL t d).length=t.nW:=by simp [hasL]
end

theorem zsv {t:Tn} {d:List Int} {h:Nat} (hh:h<t.nH):(ics (lackL t d))[h]?=some [.int .i64 (lack t d h)]:=by
  rw [xqw (by rw [ybx];exact hh),wqv hh]
theorem whk {t:Tn} {d:List Int} {x:Nat} (hx:x<t.nW):(ics (hasL t d))[x]?=some [.int .i64 (has t d x)]:=by
  rw [xqw (by rw [ymw];exact hx),vbv hx]
section
variable (t:Tn) (w:Wi) (d:List Int)
def outW (k:Nat):List Arc:=(List.range k).flatMap (arcsW t w d)
def outH (k:Nat):List Arc:=outW t w d t.nW++(List.range k).flatMap (arcsH t w d)
def outY (k:Nat):List Arc:=outH t w d t.nH++(List.range k).flatMap (arcsY t d)
end
section
variable {t:Tn} {w:Wi} {d:List Int} {k:Nat}
theorem xvj:outW t w d (k+1)=outW t w d k++arcsW t w d k:=by simp [outW,List.range_succ]
theorem xvk:outH t w d (k+1)=outH t w d k++arcsH t w d k:=by simp [outH,List.range_succ]
theorem yfw:outY t w d (k+1)=outY t w d k++arcsY t d k:=by simp [outY,List.range_succ]
theorem wew:outH t w d 0=outW t w d t.nW:=by simp [outH]
theorem wev:outY t w d 0=outH t w d t.nH:=by simp [outY]
theorem vaq:outY t w d t.m=arcsL t w d:=by simp [outY,outH,outW,arcsL]
variable {l:List Arc} {x y:Arc}
theorem W_tt (c1:0<has t d k) (c2:has t d k<t.wv k):(outW t w d k++[⟨t.sp,k,-bw w k,-1,0⟩])++[⟨k,t.sp,bw w k,-1,0⟩]=outW t w d (k+1):=by rw [xvj,arcsW,if_pos c1,if_pos c2,List.append_assoc]
theorem W_tf (c1:0<has t d k) (c2: ¬ has t d k<t.wv k):outW t w d k++[⟨t.sp,k,-bw w k,-1,0⟩]=outW t w d (k+1):=by rw [xvj,arcsW,if_pos c1,if_neg c2,List.append_nil]
theorem W_ft (c1: ¬ 0<has t d k) (c2:has t d k<t.wv k):outW t w d k++[⟨k,t.sp,bw w k,-1,0⟩]=outW t w d (k+1):=by rw [xvj,arcsW,if_neg c1,if_pos c2,List.nil_append]
theorem W_ff (c1: ¬ 0<has t d k) (c2: ¬ has t d k<t.wv k):outW t w d k=outW t w d (k+1):=by rw [xvj,arcsW,if_neg c1,if_neg c2];simp
theorem H_tt (c1:0<lack t d k) (c2:lack t d k<t.hv k):(outH t w d k++[⟨t.nW+k,t.si,dear ((lack t d k).toNat-1)-dear (lack t d k).toNat-bh w k,-1,0⟩])++[⟨t.si,t.nW+k,dear ((lack t d k).toNat+1)-dear (lack t d k).toNat+bh w k,-1,0⟩]=outH t w d (k+1):=by
  rw [xvk,arcsH,if_pos c1,if_pos c2,List.append_assoc]
theorem H_tf (c1:0<lack t d k) (c2: ¬ lack t d k<t.hv k):outH t w d k++[⟨t.nW+k,t.si,dear ((lack t d k).toNat-1)-dear (lack t d k).toNat-bh w k,-1,0⟩]=outH t w d (k+1):=by rw [xvk,arcsH,if_pos c1,if_neg c2,List.append_nil]
theorem H_ft (c1: ¬ 0<lack t d k) (c2:lack t d k<t.hv k):outH t w d k++[⟨t.si,t.nW+k,dear ((lack t d k).toNat+1)-dear (lack t d k).toNat+bh w k,-1,0⟩]=outH t w d (k+1):=by rw [xvk,arcsH,if_neg c1,if_pos c2,List.nil_append]
theorem H_ff (c1: ¬ 0<lack t d k) (c2: ¬ lack t d k<t.hv k):outH t w d k=outH t w d (k+1):=by rw [xvk,arcsH,if_neg c1,if_neg c2];simp
theorem Y_t (c:0<dv d k):(outY t w d k++[⟨t.ww k,t.nW+t.wh k,0,k,1⟩])++[⟨t.nW+t.wh k,t.ww k,0,k,-1⟩]=outY t w d (k+1):=by rw [yfw,arcsY,if_pos c,List.append_assoc];rfl
theorem Y_f (c: ¬ 0<dv d k):outY t w d k++[⟨t.ww k,t.nW+t.wh k,0,k,1⟩]=outY t w d (k+1):=by rw [yfw,arcsY,if_neg c]
end
theorem yzv (f:Nat→List Arc) {k n:Nat} (h:k≤n):(List.range k).flatMap f <+: (List.range n).flatMap f:=by
  obtain ⟨j,rfl⟩:=Nat.exists_eq_add_of_le h
  rw [List.range_add,List.flatMap_append]
  exact ⟨_,rfl⟩
section
variable {t:Tn} {w:Wi} {d:List Int} {k:Nat}
theorem yyz (h:k≤t.nW):outW t w d k <+: arcsL t w d:=(yzv _ h).trans ⟨_,rfl⟩
theorem yyj (h:k≤t.nH):outH t w d k <+: arcsL t w d:=by
  rw [arcsL,outH,outW,← List.append_assoc]
  obtain ⟨z,hz⟩:=yzv (arcsH t w d) h
  exact ⟨z++(List.range t.m).flatMap (arcsY t d),by rw [← hz];simp only [List.append_assoc]⟩
theorem zrx (h:k≤t.m):outY t w d k <+: arcsL t w d:=by
  rw [arcsL,outY,outH,outW,← List.append_assoc]
  obtain ⟨z,hz⟩:=yzv (arcsY t d) h
  exact ⟨z,by rw [← hz];simp only [List.append_assoc]⟩
theorem xxz {o l E:List Arc} {x:Arc} {r:List Arc} (h:o++(l++x::r) <+: E):(o++l)++[x] <+: E:=by
  refine List.IsPrefix.trans ⟨r,?_⟩ h
  simp only [List.append_assoc,List.singleton_append]
theorem vgx (h:k<t.nW) (c1:0<has t d k):outW t w d k++[⟨t.sp,k,-bw w k,-1,0⟩] <+: arcsL t w d:=by
  have:=yyz (w:=w) (d:=d) (show k+1≤t.nW from h)
  rw [xvj,arcsW,if_pos c1] at this
  exact List.append_nil (outW t w d k) ▸ xxz (l:=[]) this
theorem vgq (h:k<t.nW) (c1:0<has t d k) (c2:has t d k<t.wv k):(outW t w d k++[⟨t.sp,k,-bw w k,-1,0⟩])++[⟨k,t.sp,bw w k,-1,0⟩] <+: arcsL t w d:=by
  have:=yyz (w:=w) (d:=d) (show k+1≤t.nW from h)
  rw [xvj,arcsW,if_pos c1,if_pos c2] at this
  exact xxz this
theorem vfw (h:k<t.nW) (c1: ¬ 0<has t d k) (c2:has t d k<t.wv k):outW t w d k++[⟨k,t.sp,bw w k,-1,0⟩] <+: arcsL t w d:=by
  have:=yyz (w:=w) (d:=d) (show k+1≤t.nW from h)
  rw [xvj,arcsW,if_neg c1,if_pos c2] at this
  exact List.append_nil (outW t w d k) ▸ xxz (l:=[]) this
theorem wwx (h:k<t.nH) (c1:0<lack t d k):outH t w d k++[⟨t.nW+k,t.si,dear ((lack t d k).toNat-1)-dear (lack t d k).toNat-bh w k,-1,0⟩] <+: arcsL t w d:=by
  have:=yyj (w:=w) (d:=d) (show k+1≤t.nH from h)
  rw [xvk,arcsH,if_pos c1] at this
  exact List.append_nil (outH t w d k) ▸ xxz (l:=[]) this
theorem vgj (h:k<t.nH) (c1:0<lack t d k) (c2:lack t d k<t.hv k):(outH t w d k++[⟨t.nW+k,t.si,dear ((lack t d k).toNat-1)-dear (lack t d k).toNat-bh w k,-1,0⟩])++[⟨t.si,t.nW+k,dear ((lack t d k).toNat+1)-dear (lack t d k).toNat+bh w k,-1,0⟩] <+: arcsL t w d:=by
  have:=yyj (w:=w) (d:=d) (show k+1≤t.nH from h)
  rw [xvk,arcsH,if_pos c1,if_pos c2] at this
  exact xxz this
theorem vgz (h:k<t.nH) (c1: ¬ 0<lack t d k) (c2:lack t d k<t.hv k):outH t w d k++[⟨t.si,t.nW+k,dear ((lack t d k).toNat+1)-dear (lack t d k).toNat+bh w k,-1,0⟩] <+: arcsL t w d:=by
  have:=yyj (w:=w) (d:=d) (show k+1≤t.nH from h)
  rw [xvk,arcsH,if_neg c1,if_pos c2] at this
  exact List.append_nil (outH t w d k) ▸ xxz (l:=[]) this
theorem vfv (h:k<t.m):outY t w d k++[⟨t.ww k,t.nW+t.wh k,0,k,1⟩] <+: arcsL t w d:=by
  have:=zrx (w:=w) (d:=d) (show k+1≤t.m from h)
  rw [yfw,arcsY] at this
  exact List.append_nil (outY t w d k) ▸ xxz (l:=[]) this
theorem vfk (h:k<t.m) (c:0<dv d k):(outY t w d k++[⟨t.ww k,t.nW+t.wh k,0,k,1⟩])++[⟨t.nW+t.wh k,t.ww k,0,k,-1⟩] <+: arcsL t w d:=by
  have:=zrx (w:=w) (d:=d) (show k+1≤t.m from h)
  rw [yfw,arcsY,if_pos c] at this
  exact xxz (l:=[_]) this
end
theorem xhv {x:Nat} (h:x≤10):0≤dear x∧dear x≤282475249000:=by
  have h1:=xnq x;have h2:=xqj h;have h3:dear 10=282475249000:=by decide
  omega
end Go.X.Flow
namespace Go.X.Flow
open Go.X Go.X.Bf

def W60:Int:=1152921504606846976
theorem yhq:far=1152921504606846976:=by decide
theorem vjq {s:Lab} {i:Nat} (h:i<s.c.length):s.c.getD i 0=L s i:=by
  rw [L,List.getD_eq_getElem?_getD,List.getD_eq_getElem?_getD,List.getElem?_eq_getElem h];rfl
theorem ygx {s:Lab} {i:Nat} (h:i<s.c.length):(ics s.c)[i]?=some [.int .i64 (L s i)]:=by rw [xqw h,vjq h]
theorem zmw {s:Lab} {i:Nat} (h:i<s.b.length):(acs s.b)[i]?=some (arcC (Bf.B s i)):=wxx h
section
variable {E out:List Arc} {N sp j:Nat}
theorem lenc:((out.foldl rel (sweeps E j (lab0 N sp))).c).length=N:=by rw [ygj.1,(xsq j).1];simp [lab0]
theorem lenb:((out.foldl rel (sweeps E j (lab0 N sp))).b).length=N:=by rw [ygj.2,(xsq j).2];simp [lab0]
theorem vkx:((sweeps E j (lab0 N sp)).c).length=N:=by rw [(xsq j).1];simp [lab0]
theorem vkz:((sweeps E j (lab0 N sp)).b).length=N:=by rw [(xsq j).2];simp [lab0]
end
theorem wcv {s:Lab} {a:Arc} (h1:L s a.fr<1152921504606846976) (h2:L s a.fr+a.cost<L s a.to):rel s a=⟨s.c.set a.to (L s a.fr+a.cost),s.b.set a.to a⟩:=by
  rw [rel,if_pos ⟨by rw [yhq];exact h1,h2⟩]
theorem wdq {s:Lab} {a:Arc} (h1: ¬ L s a.fr<1152921504606846976):rel s a=s:=by rw [rel,if_neg (fun e=>h1 (by have:=e.1;rw [yhq] at this;exact this))]
theorem wcw {s:Lab} {a:Arc} (h2: ¬ L s a.fr+a.cost<L s a.to):rel s a=s:=by rw [rel,if_neg (fun e=>h2 e.2)]
theorem xtz {out:List Arc} {x:Arc} {s:Lab}:(out++[x]).foldl rel s=rel (out.foldl rel s) x:=by simp
theorem wck (n:Nat):List.replicate n [Value.int .i64 0]=ics (List.replicate n 0):=by simp [ics]
theorem wzk (n:Nat):List.replicate n [Value.int .i64 0,.int .i64 0,.int .i64 0,.int .i64 0,.int .i64 0]=acs (List.replicate n a0):=by simp [acs,arcC,a0]
def fillK (k n:Nat):List Int:=List.replicate k far++List.replicate (n-k) 0
theorem ygw {k n:Nat} (h:k≤n):(fillK k n).length=n:=by simp [fillK];omega
theorem zyv {k n:Nat} (h:k<n):(fillK k n).set k 1152921504606846976=fillK (k+1) n:=by
  unfold fillK
  rw [List.set_append_right _ _ (by simp),List.length_replicate,Nat.sub_self]
  obtain ⟨j,hj⟩: ∃ j,n-k=j+1:=⟨n-k-1,by omega⟩
  rw [hj,List.replicate_succ,List.set_cons_zero,show n-(k+1)=j from by omega,List.replicate_succ',List.append_assoc,yhq];rfl
theorem wiz (n:Nat):fillK n n=List.replicate n far:=by simp [fillK]
def LabB (s:Lab) (k:Nat):Prop:=∀ v,L s v<1152921504606846976→ -(40353607001*(k:Int))≤L s v∧L s v≤40353607001*(k:Int)
theorem LabB.mono {s k k'} (h:LabB s k) (hk:k≤k'):LabB s k':=fun v hv=>by have:=h v hv;omega
theorem LabB.step {s:Lab} {a:Arc} {k} (h:LabB s k) (ht:a.to<s.c.length) (hc: -cC≤a.cost∧a.cost≤cC):LabB (rel s a) (k+1):=fun v hv=>by
  have e:cC=40353607001:=by decide
  have:=wdx (s:=s) (a:=a) (K:=40353607001*(k:Int)) (C:=cC) ht hc (fun v hv=>h v (by rw [yhq] at hv;exact hv)) v (by rw [yhq];exact hv)
  rw [e] at this;omega
theorem LabB.start {N sp:Nat}:LabB (lab0 N sp) 0:=fun v hv=>by
  unfold L lab0 at hv ⊢
  simp only [List.getD_eq_getElem?_getD,List.getElem?_set,List.getElem?_replicate] at hv ⊢
  have hf:=yhq
  by_cases e:sp=v
  · subst e
    by_cases h:sp<N
    · simp [h]
    · simp only [List.length_replicate,h,if_true,if_false,Option.getD_none] at hv;omega
  · simp only [e,if_false] at hv
    by_cases h:v<N
    · simp only [h,if_true,Option.getD_some] at hv;omega
    · simp only [h,if_false,Option.getD_none] at hv;omega
theorem ygk {f:Nat→List Arc} (h: ∀ i,(f i).length≤2): ∀ n,((List.range n).flatMap f).length≤2*n
  | 0=>by simp
  | n+1=>by
    rw [List.range_succ,List.flatMap_append,List.length_append,List.flatMap_singleton]
    have:=ygk h n;have:=h n;omega
theorem zux {t:Tn} {w d} (O:Ok t):(arcsL t w d).length≤48:=by
  have h1:=ygk (f:=arcsW t w d) (fun i=>by unfold arcsW;split <;> split <;> simp) t.nW
  have h2:=ygk (f:=arcsH t w d) (fun i=>by unfold arcsH;split <;> split <;> simp) t.nH
  have h3:=ygk (f:=arcsY t d) (fun i=>by unfold arcsY;split <;> simp) t.m
  have:=O.nh;have:=O.nw;have:=O.nm
  rw [arcsL,List.length_append,List.length_append];omega
theorem Chain.cases' {s:Lab} {sp v:Nat} {r:List Arc} (C:Chain s sp v r) (h:v≠sp): ∃ r',r=Bf.B s v::r'∧Chain s sp (Bf.B s v).fr r':=by
  cases C with
  | nil=>exact absurd rfl h
  | cons _ C=>exact ⟨_,rfl,C⟩
theorem Chain.nil' {s:Lab} {sp v:Nat} {r:List Arc} (C:Chain s sp v r) (h:v=sp):r=[]:=by
  cases C with
  | nil=>rfl
  | cons ne _=>exact absurd h ne
section
variable {t:Tn} {w:Wi} {d:List Int}
theorem yjw:((bf t w d).c).length=t.nW+t.nH+2:=vkx
theorem zbz:((bf t w d).b).length=t.nW+t.nH+2:=vkz
theorem zrq (O:Ok t) (S:Sg w) (G:Good t w d):(pathL t w d).length≤13:=by
  by_cases h:costL t w d<far
  · obtain ⟨h1,_,h3,h4⟩:=(G.find O S).way h
    have:=ygq (N:=nN t) h3 (fun x hx=>by
      rcases List.mem_cons.1 hx with rfl | hx
      · simp only [Tn.sp,nN];omega
      · obtain ⟨a,ha,rfl⟩:=List.mem_map.1 hx
        exact (ycj O.y a (h4 a ha).1).2)
    have:=O.nh;have:=O.nw
    simp only [List.length_cons,List.length_map,nN] at *;omega
  · rw [pathL,if_neg h];simp
end
end Go.X.Flow
namespace Go.X.Flow
open Go.X Go.X.Bf
theorem wlw {t:Tn} {w:Wi} {d:List Int} {a:Arc} (h:a∈arcsL t w d):a.way<(t.m:Int)∧ -1≤a.more∧a.more≤1:=by
  cases xov.1 h with
  | k1=>simp;omega
  | k2=>simp;omega
  | k3=>simp;omega
  | k4=>simp;omega
  | k5 hi=>simp;omega
  | k6 hi _=>simp;omega
def augK (d:List Int) (p:List Arc) (k:Nat):List Int:=aug d (p.take k)
theorem augK_len {d p k}:(augK d p k).length=d.length:=aug_len
theorem ziz {d p}:augK d p 0=d:=by simp [augK,aug]
theorem wux {d:List Int} {p:List Arc} {k:Nat} (h:k=p.length):augK d p k=aug d p:=by rw [augK,h,List.take_length]
theorem ytx {d:List Int} {p:List Arc} {k:Nat} (h:k<p.length):augK d p (k+1)=if 0≤(p.getD k a0).way then (augK d p k).set (p.getD k a0).way.toNat (dv (augK d p k) (p.getD k a0).way.toNat+(p.getD k a0).more) else augK d p k:=by
  have e:p.getD k a0=p[k]:=by rw [List.getD_eq_getElem?_getD,List.getElem?_eq_getElem h];rfl
  rw [augK,List.take_succ_eq_append_getElem h,aug,List.foldl_append,e];rfl
theorem wuq {d:List Int} {p:List Arc} {k:Nat} (h:k<p.length) (c:0≤(p.getD k a0).way):(augK d p k).set (p.getD k a0).way.toNat ((augK d p k).getD (p.getD k a0).way.toNat 0+(p.getD k a0).more)=augK d p (k+1):=by
  rw [ytx h,if_pos c];rfl
theorem vcv {d:List Int} {p:List Arc} {k:Nat} (h:k<p.length) (c: ¬ 0≤(p.getD k a0).way):augK d p k=augK d p (k+1):=by rw [ytx h,if_neg c]
theorem yzj {p:List Arc} {k:Nat} (h:k<p.length):p.getD k a0∈p:=by
  rw [List.getD_eq_getElem?_getD,List.getElem?_eq_getElem h];exact List.getElem_mem h
theorem wlk {d:List Int} {p:List Arc} (hp: ∀ a∈p,-1≤a.more∧a.more≤1) (hd: ∀ i,0≤dv d i∧dv d i≤9): ∀ k,k≤p.length→ ∀ i,-(k:Int)≤(augK d p k).getD i 0∧(augK d p k).getD i 0≤9+k
  | 0,_,i=>by rw [ziz];have:=hd i;unfold dv at this;omega
  | k+1,hk,i=>by
    have ih:=wlk hp hd k (by omega)
    have hm:=hp _ (yzj (show k<p.length by omega))
    rw [ytx (by omega)]
    split
    · rw [List.getD_eq_getElem?_getD,List.getElem?_set]
      split
      · rename_i e
        split
        · rename_i h2
          have h3:=ih (p.getD k a0).way.toNat
          simp only [Option.getD_some];unfold dv;omega
        · simp;omega
      · have:=ih i;rw [List.getD_eq_getElem?_getD] at this;omega
    · have:=ih i;omega
theorem vhw {t:Tn} {d:List Int} (D:Div t d) (h: ∀ i,i<t.m→0≤dv d i∧dv d i≤9) (i:Nat):0≤dv d i∧dv d i≤9:=by
  by_cases c:i<t.m
  · exact h i c
  · have:=D.len
    unfold dv;rw [List.getD_eq_getElem?_getD,List.getElem?_eq_none (by omega)];simp
theorem zzq {t w n d} (h:0≤costL t w d):fairF t w (n+1) d=d:=by rw [fairF,if_pos h]
theorem wsx {t w n d} (h: ¬ 0≤costL t w d):fairF t w (n+1) d=fairF t w n (aug d (pathL t w d)):=by rw [fairF,if_neg h]
theorem wiv {t:Tn} {w:Wi} {d:List Int} {n:Nat} (O:Ok t) (S:Sg w) (G:Good t w d) (h: ¬ 0≤costL t w d) (hn:sm t.nH t.hv-tot t d<(n:Int)+1) (hF:fairF t w (n+1) d=fairP t w):
    ∃ n',n=n'+1∧Good t w (aug d (pathL t w d))∧sm t.nH t.hv-tot t (aug d (pathL t w d))<(n':Int)+1∧fairF t w (n'+1) (aug d (pathL t w d))=fairP t w:=by
  obtain ⟨G',lt⟩:=G.next O S (by omega)
  have:=wvx O G'.div
  obtain ⟨n',rfl⟩: ∃ n',n=n'+1:=⟨n-1,by omega⟩
  refine ⟨n',rfl,G',by omega,?_⟩
  rw [← hF,wsx h]
theorem zyw {t:Tn} (O:Ok t):sm t.nH t.hv-tot t (List.replicate t.m 0)<((sm t.nH t.hv).toNat:Int)+1:=by
  have h0:tot t (List.replicate t.m 0)=0:=by
    unfold tot
    refine (xhw (g:=fun _=>0) fun i hi=>?_).trans (xtk t.m)
    unfold dv;rw [List.getD_eq_getElem?_getD,List.getElem?_replicate,if_pos hi];rfl
  have h1:0≤sm t.nH t.hv:=xsk fun i hi=>(O.h i hi).1
  rw [h0];omega
theorem TownP.mono {p p':PHeap} {a1 a2 a3:Option Addr} {n1 n2 n3:Nat} {t:Tn} (T:TownP p a1 n1 a2 n2 a3 n3 t) (le:PLe p p'):TownP p' a1 n1 a2 n2 a3 n3 t:=⟨T.h.mono le,T.w.mono le,T.y.mono le⟩
theorem yhx (t:Tn) (wi:Wi):(fairP t wi).length=t.m:=by
  have: ∀ n d,(fairF t wi n d).length=d.length:=by
    intro n
    induction n with
    | zero=>intro d;rfl
    | succ n ih=>
      intro d
      rw [fairF]
      split
      · rfl
      · rw [ih,aug_len]
  rw [fairP,this];simp
end Go.X.Flow
namespace Go.X
open Go.Conc
section
variable {P:Program} {md:Md} {ops:List Oper} {tm:List Value} {h₀:Heap} {B₀:List Nat} {p:PHeap} {A:Pcs} {ty:TypeId} {pos:String} {aft:Array Edge} {gd:Option (Nat × Bool)}
theorem vak {T T':TypeId} {x y:Operand} {b off nsz:Nat} {cs' cs2:List Value} {v:Value} {q:Value→Pcs→Prop} (hm:Met ops tm ⟨none,.store T x y,ty,pos,aft,gd⟩ true) (hs:sizeT P T=some nsz)
    (hx:evl tm x= .pointer (some ⟨b,off,none⟩)) (hy:evl tm y=v) (hv:v.cells.size=nsz) (h1:v.cells.toList.all isOne=true) (hlen:off+v.cells.size≤cs'.length) (h2:setl cs' off v.cells.toList=cs2)
    (hq:q undef [(b,.cells cs2.toArray T' (0,0))]):Mix P md ops tm h₀ B₀ p A ([(b,.cells cs'.toArray T' (0,0))]++[]) q ⟨none,.store T x y,ty,pos,aft,gd⟩:=
  .inl ⟨hm,fun C h s=>.inl (by
    unfold Exv
    simp only [execOp,hx,hy]
    refine xbz ?_
    unfold Instr.storeAt
    refine xbz (xbv ?_)
    unfold storeVar
    refine xbz (xmx hs ?_)
    rw [if_neg (by simpa using hv)]
    refine xpk (i:=0) s rfl (by simpa using hlen) (fun u hu=>List.all_eq_true.1 h1 u hu) fun h' s'=>?_
    refine xbv ⟨undef,.inr ⟨rfl,rfl⟩,_,hq,?_⟩
    rw [Nat.add_zero,h2] at s'
    exact s')⟩
end
end Go.X
namespace Go.X
open Go.Conc

def Qr (anc:Nat→List Nat) (Q:Nat→(Nat→Value)→(Nat→Pcs)→Value→Pcs→Prop) (val:Nat→Value) (piece:Nat→Pcs) (i:Nat):Value→Pcs→Prop:=
  Q i (fun j=>if (anc i).contains j=true then val j else undef) (fun j=>if (anc i).contains j=true then piece j else [])
theorem wuj {anc:Nat→List Nat} {Q:Nat→(Nat→Value)→(Nat→Pcs)→Value→Pcs→Prop} {val val':Nat→Value} {piece piece':Nat→Pcs} {i:Nat} (h: ∀ y,(anc i).contains y=true→val y=val' y∧piece y=piece' y):
    Qr anc Q val piece i=Qr anc Q val' piece' i:=by
  unfold Qr
  have e1:(fun j=>if (anc i).contains j=true then val j else undef)=(fun j=>if (anc i).contains j=true then val' j else undef):=by
    funext j;split
    · rename_i hj;exact (h j hj).1
    · rfl
  have e2:(fun j=>if (anc i).contains j=true then piece j else [])=(fun j=>if (anc i).contains j=true then piece' j else []):=by
    funext j;split
    · rename_i hj;exact (h j hj).2
    · rfl
  rw [e1,e2]
def ancok (ops:List Oper) (m:Nat) (cl:List (List Nat)) (anc:Nat→List Nat):Bool:=
  ops.zipIdx.all fun (o,i)=>!decide (i<m) || (anc i).all fun j=>behind cl o j
theorem zuz {ops:List Oper} {m:Nat} {cl:List (List Nat)} {anc:Nat→List Nat} (h:ancok ops m cl anc=true) {i j:Nat} {o:Oper} (hi:i<m) (ho:ops[i]?=some o) (hj:(anc i).contains j=true):behind cl o j=true:=by
  unfold ancok at h
  rw [List.all_eq_true] at h
  have:=h (o,i) (by rw [List.mem_zipIdx_iff_getElem?];exact ho)
  simp only [hi,decide_true,Bool.not_true,Bool.false_or,List.all_eq_true] at this
  exact this j (by simpa using hj)
theorem wlj {ops:List Oper} {m:Nat} {cl:List (List Nat)} (hs:stable ops m cl=true) {i j:Nat} {o:Oper} (ho:ops[i]?=some o) (h:behind cl o j=true):j<i:=by
  rcases (ykz).1 h with h | ⟨k,hk,h⟩
  · exact (xkv hs ho).1 j h
  · have h1:=(xkv hs ho).1 k hk
    obtain ⟨ok,hok⟩: ∃ ok,ops[k]?=some ok:=⟨_,List.getElem?_eq_getElem (Nat.lt_trans h1 (List.getElem?_eq_some_iff.1 ho).1)⟩
    exact Nat.lt_trans (zcw hs hok h).1 h1

def OpMix2 (P:Program) (md:Md) (ops:List Oper) (tmF:(Nat→Value)→List Value) (h₀:Heap) (B₀:List Nat) (p:PHeap) (A:Pcs) (ini:List Nat) (X:Nat→Pcs) (use:Nat→List Nat) (anc:Nat→List Nat) (Q:Nat→(Nat→Value)→(Nat→Pcs)→Value→Pcs→Prop) (i:Nat) (o:Oper):Prop:=
  ∀ val piece,(∀ j,(anc i).contains j=true→Qr anc Q val piece j (val j) (piece j))→(∀ j∈ini,piece j=X j)→
    (Met ops (tmF val) o true∧ ∀ C h,St h₀ B₀ p h ((use i).flatMap piece++(A++C))→
      Exv P (tmF val) o h (fun v h'=>∃ x,Qr anc Q val piece i v x∧St h₀ B₀ p h' (x++(A++C)))∨
      (∃ g args,(wpS P (execOp (evl (tmF val)) o) h fun n h'=>n= .enter g args∧h'=h)∧CallsX P md g args h (fun v h'=>∃ x,Qr anc Q val piece i v x∧St h₀ B₀ p h' (x++(A++C)))))∨
    (Met ops (tmF val) o false∧(use i).flatMap piece=[]∧Qr anc Q val piece i undef [])

section
variable {P:Program} {md:Md} {ops:List Oper} {m:Nat} {f:FuncId} {r:Rd} {df:List Deferred} {k:List Item} {cs:List Frame} {Stop:Goroutine→Heap→Prop} {tm:List Value}
  {h₀:Heap} {B₀:List Nat} {p:PHeap} {A C:Pcs} {ini:List Nat} {X:Nat→Pcs} {use:Nat→List Nat} {anc:Nat→List Nat} {Q:Nat→(Nat→Value)→(Nat→Pcs)→Value→Pcs→Prop} {tmF:(Nat→Value)→List Value}

theorem xlx {rid:Nat} (m:Nat) (cl:List (List Nat)) (ini fin emp:List Nat) (X:Nat→Pcs) (use:Nat→List Nat) (anc:Nat→List Nat) (Q:Nat→(Nat→Value)→(Nat→Pcs)→Value→Pcs→Prop) (tmF:(Nat→Value)→List Value)
    (hmix:P.follows .mixedOrders=true) (hst:stable ops m cl=true) (hm:m≤ops.length) (hk:mixok ops m ini use (fin++emp)=true) (hemp:emp.all (fun j=>decide (j<m))=true) (hanc:ancok ops m cl anc=true) (hemp2: ∀ val piece,Emp (Qr anc Q val piece) emp) (htm: ∀ val,fills ops val m tm=tmF val)
    (hdl:(ops.all fun o=>match o.dst with | some d=>decide (d<tm.length) | none=>true)=true)
    (st:Mixes (OpMix2 P md ops tmF h₀ B₀ p A ini X use anc Q) 0 (ops.take m))
    (n: ∀ val piece,(∀ j<m,Qr anc Q val piece j (val j) (piece j))→(∀ j∈ini,piece j=X j)→RL P md f r df k cs Stop ops (ops.drop m) (tmF val) (fun h=>St h₀ B₀ p h (fin.flatMap piece++(A++C)))):
    RS P md (G (FL f r tm df (.code (.region rid ops.toArray true)::k)) cs) (fun h=>St h₀ B₀ p h (ini.flatMap X++(A++C))) Stop:=by
  refine yxv fun t=>?_
  unfold Region.schedule
  rw [hmix]
  simp only [Bool.true_or,if_true]
  obtain ⟨s,e,hord⟩:=yqj hst hm t
  rw [e]
  obtain ⟨k1,k2,k3,k4,k5,k6⟩:=wpv hk
  have hops: ∀ {i:Nat} {o:Oper},i<m→ops[i]?=some o→noDefer o.op=true∧OpMix2 P md ops tmF h₀ B₀ p A ini X use anc Q i o:=fun {i o} hi ho=>by
    have:=Mixes.at (i:=i) st (by rw [List.getElem?_take,if_pos hi];exact ho)
    rw [Nat.zero_add] at this;exact this
  have hdist: ∀ (i j:Nat) (o o':Oper) (d:Nat),i<m→j<m→ops[i]?=some o→ops[j]?=some o'→o.dst=some d→o'.dst=some d→i=j:=fun i j o o' d hi hj ho ho' hd hd'=>
    (((xkv hst ho).2.2 hi).2 j o' d hj ho' hd').1.resolve_right fun hne=>hne hd
  have hdlt: ∀ {i:Nat} {o:Oper} {d:Nat},ops[i]?=some o→o.dst=some d→d<tm.length:=fun {i o d} ho hd=>by
    have:=List.all_eq_true.1 hdl o (List.mem_of_getElem? ho)
    simpa [hd] using this
  have main: ∀ (s:List Nat) (l:Array Bool) (tmc:List Value) (val:Nat→Value) (piece:Nat→Pcs) (ls:List Nat),Ord ops m l s→l.size=ops.length→tmc.length=tm.length→
      (∀ x,(∃ (j:Nat) (o:Oper),j<m∧l.getD j false=true∧ops[j]?=some o∧o.dst=some x)→tmc[x]?=(tmF val)[x]?)→
      (∀ x,(∀ (j:Nat) (o:Oper),j<m→l.getD j false=true→ops[j]?=some o→o.dst≠some x)→tmc[x]?=tm[x]?)→
      (∀ j<m,l.getD j false=true→Qr anc Q val piece j (val j) (piece j))→(∀ j∈ini,piece j=X j)→ls.Nodup→
      (∀ x,x∈ls↔(x∈ini∨(x<m∧l.getD x false=true))∧ ∀ k<m,l.getD k false=true→x ∉ use k)→
      (∀ k<m,l.getD k false=true→ ∀ x∈use k,x∈ini∨(x<m∧l.getD x false=true))→
      (∀ (k:Nat) (o:Oper),l.getD k false=true→ops[k]?=some o→ ∀ x∈preds o,l.getD x false=true)→
      RS P md (G (FL f r tmc df (.inRegion ops.toArray (s++List.range' m (ops.length-m))::k)) cs) (fun h=>St h₀ B₀ p h (ls.flatMap piece++(A++C))) Stop:=by
    intro s
    induction s with
    | nil=>
      intro l tmc val piece ls hord _ hl h1 h2 hQ hX hnd hls _ _
      cases hord with
      | nil hall=>
      have:tmc=tmF val:=by
        refine List.ext_getElem? fun x=>?_
        by_cases hx: ∃ (j:Nat) (o:Oper),j<m∧ops[j]?=some o∧o.dst=some x
        · obtain ⟨j,o,hj,ho,hd⟩:=hx
          exact h1 x ⟨j,o,hj,hall j hj,ho,hd⟩
        · rw [h2 x fun j o hj _ ho hd=>hx ⟨j,o,hj,ho,hd⟩,← htm,yrz]
          exact fun j o hj ho hd=>hx ⟨j,o,hj,ho,hd⟩
      subst this
      rw [List.nil_append]
      have hp:ls.Perm (fin++emp):=by
        refine (List.perm_ext_iff_of_nodup hnd k3).2 fun x=>?_
        rw [hls]
        constructor
        · rintro ⟨hx,hu⟩
          rcases k6 x (hx.elim .inr fun y=>.inl y.1) with y | ⟨k,hk,y⟩
          · exact y
          · exact absurd y (hu k hk (hall k hk))
        · intro hx
          obtain ⟨y,z⟩:=k5 x hx
          exact ⟨y.imp id fun y=>⟨y,hall x y⟩,fun k hk _=>z k hk⟩
      have:=n val piece (fun j hj=>hQ j hj (hall j hj)) hX (ops.take m) (List.take_append_drop m ops).symm
      rw [List.length_take,Nat.min_eq_left hm,List.length_drop] at this
      have he:emp.flatMap piece=[]:=(hemp2 val piece).flat fun j hj=>hQ j (by simpa using List.all_eq_true.1 hemp j hj) (hall j (by simpa using List.all_eq_true.1 hemp j hj))
      exact fun h y=>this h (y.perm (by
        have:=(hp.flatMap_right piece).append_right (A++C)
        rwa [List.flatMap_append,he,List.append_nil] at this))
    | cons i s ih=>
      intro l tmc val piece ls hord hsz hl h1 h2 hQ hX hnd hls hcl hpc
      cases hord with
      | @cons _ _ _ o hi ho hn hp hs=>
      have hil:=(List.getElem?_eq_some_iff.1 ho).1
      have hni:l.getD i false=false:=by rw [← yex (by omega)];exact hn
      have hlooks:=((xkv hst ho).2.2 hi)
      have hag: ∀ x∈looks ops o,tmc[x]?=(tmF val)[x]?:=by
        intro x hx
        by_cases hw: ∃ (j:Nat) (o':Oper),j<m∧ops[j]?=some o'∧o'.dst=some x
        · obtain ⟨j,o',hj,ho',hd⟩:=hw
          have hpj:=(hlooks.2 j o' x hj ho' hd).2 hx
          exact h1 x ⟨j,o',hj,hp j hpj,ho',hd⟩
        · rw [h2 x fun j o' hj _ ho' hd=>hw ⟨j,o',hj,ho',hd⟩,← htm,yrz]
          exact fun j o hj ho hd=>hw ⟨j,o,hj,ho,hd⟩
      have hset: ∀ j,i≠j→(l.setIfInBounds i true).getD j false=l.getD j false:=fun j e=>getD_set_ne false e
      have hself:(l.setIfInBounds i true).getD i false=true:=by simp [Array.getD,hsz,hil]
      obtain ⟨u1,u2⟩:=k4 i o hi ho
      have husein: ∀ x∈use i,x∈ls:=fun x hx=>by
        rw [hls]
        obtain ⟨a,b⟩:=u2 x hx
        refine ⟨a.imp id fun a=>⟨a.1,hp x a.2⟩,fun k hk hd hxk=>?_⟩
        by_cases e:k=i
        · subst e;rw [hni] at hd;cases hd
        · exact b k hk e hxk
      obtain ⟨rest,hperm⟩:=zqk u1 husein
      have hnd2:=hperm.nodup_iff.1 hnd
      have hrest: ∀ x,x∈rest↔x∈ls∧x ∉ use i:=fun x=>by
        rw [hperm.mem_iff,List.mem_append]
        constructor
        · intro hx
          exact ⟨.inr hx,fun hu=>(List.nodup_append.1 hnd2).2.2 x hu x hx rfl⟩
        · rintro ⟨a | a,b⟩
          · exact absurd a b
          · exact a
      have hiini:i ∉ ini:=fun e=>by have:=k2 i e;omega
      have hils:i ∉ ls:=fun e=>by
        have:=((hls i).1 e).1
        rcases this with a | a
        · exact hiini a
        · rw [hni] at a;cases a.2
      have hanl: ∀ (j:Nat) (oj:Oper),j<m→ops[j]?=some oj→(j=i∨l.getD j false=true)→ ∀ y,(anc j).contains y=true→l.getD y false=true:=fun j oj hj hoj hjl y hy=>by
        have hb:=zuz hanc hj hoj hy
        refine xtj hst hsz hpc j oj y (fun x hx=>⟨(xkv hst hoj).1 x hx,?_⟩) hb
        rcases hjl with rfl | hjl
        · rw [ho] at hoj;cases hoj;exact hp x hx
        · exact hpc j oj hjl hoj x hx
      have next: ∀ v x,Qr anc Q val piece i v x→RS P md (G (FL f r (putl tmc o.dst v) df (.inRegion ops.toArray (s++List.range' m (ops.length-m))::k)) cs) (fun h=>St h₀ B₀ p h (x++(A++(rest.flatMap piece++C)))) Stop:=by
        intro v x hq
        have hv: ∀ j,i≠j→(fun j=>if j=i then v else val j) j=val j:=fun j e=>if_neg fun e'=>e e'.symm
        have hx': ∀ j,i≠j→(fun j=>if j=i then x else piece j) j=piece j:=fun j e=>if_neg fun e'=>e e'.symm
        have:=ih (l.setIfInBounds i true) (putl tmc o.dst v) (fun j=>if j=i then v else val j) (fun j=>if j=i then x else piece j) (i::rest) hs (by simpa using hsz) (by rw [xqz];exact hl)
          (fun y hy=>by
            obtain ⟨j,o',hj,hlj,ho',hd⟩:=hy
            rw [← htm,zaq hj ho' hd (fun j' o'' hj' ho'' hd'=>hdist j' j o'' o' y hj' hj ho'' ho' hd' hd) (hdlt ho' hd)]
            by_cases e:i=j
            · subst e
              rw [ho] at ho';cases ho'
              rw [hd]
              simp only [putl,if_true]
              rw [List.getElem?_set_self (by rw [hl];exact hdlt ho hd)]
            · have hne:o.dst≠some y:=fun hd'=>e (hdist i j o o' y hi hj ho ho' hd' hd)
              rw [hset j e] at hlj
              rw [xuv hne,h1 y ⟨j,o',hj,hlj,ho',hd⟩,← htm,zaq hj ho' hd (fun j' o'' hj' ho'' hd'=>hdist j' j o'' o' y hj' hj ho'' ho' hd' hd) (hdlt ho' hd)]
              rw [if_neg fun e'=>e e'.symm])
          (fun y hy=>by
            have hne:o.dst≠some y:=hy i o hi hself ho
            rw [xuv hne]
            refine h2 y fun j o' hj hlj ho'=>hy j o' hj ?_ ho'
            by_cases e:i=j
            · subst e;exact hself
            · rw [hset j e];exact hlj)
          (fun j hj hlj=>by
            obtain ⟨oj,hoj⟩: ∃ oj,ops[j]?=some oj:=⟨_,List.getElem?_eq_getElem (Nat.lt_of_lt_of_le hj hm)⟩
            have hjl:j=i∨l.getD j false=true:=by
              by_cases e:i=j
              · exact .inl e.symm
              · rw [hset j e] at hlj;exact .inr hlj
            have hne: ∀ y,(anc j).contains y=true→i≠y:=fun y hy e=>by
              have:=hanl j oj hj hoj hjl y hy
              subst e;rw [hni] at this;cases this
            have hr:=wuj (Q:=Q) (anc:=anc) (i:=j) (val:=val) (piece:=piece) (val':=fun j=>if j=i then v else val j) (piece':=fun j=>if j=i then x else piece j) fun y hy=>⟨(hv y (hne y hy)).symm,(hx' y (hne y hy)).symm⟩
            by_cases e:i=j
            · subst e;simp only [if_true];rw [← hr];exact hq
            · rw [hset j e] at hlj
              have:=hQ j hj hlj;rw [← hr,if_neg (fun e'=>e e'.symm),if_neg (fun e'=>e e'.symm)];exact this)
          (fun j hj=>(hx' j (fun e=>by subst e;exact hiini hj)).trans (hX j hj))
          (List.nodup_cons.2 ⟨fun e=>hils ((hrest i).1 e).1,(List.nodup_append.1 hnd2).2.1⟩)
          (fun y=>by
            rw [List.mem_cons,hrest,hls]
            constructor
            · rintro (rfl | ⟨⟨a,b⟩,c⟩)
              · refine ⟨.inr ⟨hi,hself⟩,fun k' hk' hd hy=>?_⟩
                by_cases e:y=k'
                · subst e
                  rcases (u2 y hy).1 with a | a
                  · exact hiini a
                  · exact absurd ((xkv hst ho).1 y a.2) (Nat.lt_irrefl _)
                · rw [hset k' e] at hd
                  rcases hcl k' hk' hd y hy with a | a
                  · exact hiini a
                  · rw [hni] at a;cases a.2
              · refine ⟨a.imp id fun a=>⟨a.1,?_⟩,fun k' hk' hd=>?_⟩
                · by_cases e:i=y
                  · subst e;exact hself
                  · rw [hset y e];exact a.2
                · by_cases e:i=k'
                  · subst e;exact c
                  · rw [hset k' e] at hd;exact b k' hk' hd
            · rintro ⟨a,b⟩
              by_cases e:y=i
              · exact .inl e
              · refine .inr ⟨⟨a.imp id fun a=>⟨a.1,?_⟩,fun k' hk' hd=>b k' hk' ?_⟩,b i hi hself⟩
                · have:=a.2;rw [hset y (fun e'=>e e'.symm)] at this;exact this
                · by_cases e':i=k'
                  · subst e';exact hself
                  · rw [hset k' e'];exact hd)
          (fun k' hk' hd y hy=>by
            by_cases e:i=k'
            · subst e
              obtain ⟨a,_⟩:=u2 y hy
              refine a.imp id fun a=>⟨a.1,?_⟩
              by_cases e':i=y
              · subst e';exact hself
              · rw [hset y e'];exact hp y a.2
            · rw [hset k' e] at hd
              refine (hcl k' hk' hd y hy).imp id fun a=>⟨a.1,?_⟩
              by_cases e':i=y
              · subst e';exact hself
              · rw [hset y e'];exact a.2)
          (fun k' o' hd ho' y hy=>by
            have hy2:l.getD y false=true:=by
              by_cases e:i=k'
              · subst e;rw [ho] at ho';cases ho';exact hp y hy
              · rw [hset k' e] at hd;exact hpc k' o' hd ho' y hy
            by_cases e':i=y
            · subst e';exact hself
            · rw [hset y e'];exact hy2)
        have hfm:rest.flatMap (fun j=>if j=i then x else piece j)=rest.flatMap piece:=by
          have hni':i ∉ rest:=fun e=>hils ((hrest i).1 e).1
          clear this hperm hnd2 hrest
          induction rest with
          | nil=>rfl
          | cons a r ih'=>
            simp only [List.flatMap_cons]
            rw [ih' (fun e=>hni' (by simp [e])),if_neg (fun e=>hni' (by simp [e]))]
        intro h y
        refine this h ?_
        rw [List.flatMap_cons,hfm]
        simp only [if_true]
        refine y.perm ?_
        rw [List.append_assoc]
        refine List.Perm.append_left x ?_
        rw [← List.append_assoc,← List.append_assoc]
        exact List.Perm.append_right C List.perm_append_comm
      have hmixi:=hops hi ho
      have ho2:ops.toArray[i]?=some o:=by simpa using ho
      have hpre: ∀ h,St h₀ B₀ p h (ls.flatMap piece++(A++C))→St h₀ B₀ p h ((use i).flatMap piece++(A++(rest.flatMap piece++C))):=fun h y=>by
        refine y.perm ?_
        refine ((hperm.flatMap_right piece).append_right _).trans ?_
        rw [List.flatMap_append,List.append_assoc]
        refine List.Perm.append_left _ ?_
        rw [← List.append_assoc,← List.append_assoc]
        exact List.Perm.append_right C List.perm_append_comm
      have hnd:=hmixi.1
      rcases hmixi.2 val piece (fun j hj=>by
          have hlj:=hanl i o hi ho (.inl rfl) j hj
          exact hQ j (Nat.lt_trans (wlj hst ho (zuz hanc hi ho hj)) hi) hlj) hX with ⟨hmet,hop⟩ | ⟨hmet,hu,hq⟩
      · have hmet':=yqv hag hmet
        refine zdw ho2 (xlj hmet') yix (.inr (by revert hnd;cases o.op <;> simp [noDefer])) fun h hb=>?_
        rw [xpw,zaz (ops:=ops) hlooks.1 hag]
        rcases hop _ h (hpre h hb) with hx | ⟨g,args,hx,hc⟩
        · refine xlz hx fun n' h' ⟨v',e',x,hq,hb'⟩=>?_
          rcases e' with rfl | ⟨rfl,rfl⟩
          · show Reach P md (G ((F (B f r) tmc.toArray df _).finish v') cs) h' Stop
            rw [xjv ho2,xjk]
            exact next v' x hq h' hb'
          · show Reach P md (G ((F (B f r) tmc.toArray df _).finish undef) cs) h' Stop
            rw [xjv ho2,xjk]
            exact next undef x hq h' hb'
        · refine xlz hx fun n' h' ⟨e',e2⟩=>?_
          subst e';subst e2
          refine hc _ _ _ fun v' h' ⟨x,hq,hb'⟩=>?_
          rw [xjv ho2,xjk]
          exact next v' x hq h' hb'
      · refine yxk ho2 (xlj (yqv hag hmet)) ?_
        rw [xjk]
        intro h hb
        have:=next undef [] hq h
        refine this ?_
        have:=hpre h hb
        rw [hu] at this
        simpa using this
  intro h y
  refine main s _ tm (fun _=>undef) X ini hord (by simp) rfl (fun x hx=>by obtain ⟨j,o,hj,hl,_⟩:=hx;simp [Array.getD] at hl) (fun _ _=>rfl) (fun j _ hl=>by simp [Array.getD] at hl) (fun _ _=>rfl) k1
    (fun x=>⟨fun hx=>⟨.inl hx,fun k _ hl=>by simp [Array.getD] at hl⟩,fun hx=>hx.1.elim id fun a=>by simp [Array.getD] at a⟩) (fun k _ hl=>by simp [Array.getD] at hl) (fun k _ hl=>by simp [Array.getD] at hl) h y

theorem xdk {i:Nat} {o:Oper} (x: ∀ val piece,(∀ j,(anc i).contains j=true→Qr anc Q val piece j (val j) (piece j))→(∀ j∈ini,piece j=X j)→
    ∃ tm' U q,tmF val=tm'∧(use i).flatMap piece=U∧(∀ v x,q v x→Qr anc Q val piece i v x)∧Mix P md ops tm' h₀ B₀ p A U q o):OpMix2 P md ops tmF h₀ B₀ p A ini X use anc Q i o:=fun val piece hQ hX=>by
  obtain ⟨tm',U,q,e1,e2,e3,h⟩:=x val piece hQ hX
  rw [e1,e2]
  rcases h with ⟨h1,h2⟩ | ⟨h1,h2,h3⟩
  · refine .inl ⟨h1,fun C h s=>?_⟩
    rcases h2 C h s with y | ⟨g,args,y,z⟩
    · exact .inl (xlz y fun n h' ⟨v,a,x,b,c⟩=>⟨v,a,x,e3 v x b,c⟩)
    · exact .inr ⟨g,args,y,z.mono fun v h' ⟨x,b,c⟩=>⟨x,e3 v x b,c⟩⟩
  · exact .inr ⟨h1,h2,e3 _ _ h3⟩
theorem zfv {dd:Nat} {T:TypeId} {z:Value} {cells:Array Value} {ty:TypeId} {pos:String} {aft:Array Edge} {gd:Option (Nat × Bool)} {tm':List Value} {q:Value→Pcs→Prop} (hm:Met ops tm' ⟨some dd,.alloc T,ty,pos,aft,gd⟩ true) (hz:zeroT P T=some z) (hc:z.cells=cells)
    (hq: ∀ b,q (.pointer (some ⟨b,0,none⟩)) [(b,.cells cells T (0,0))]):Mix P md ops tm' h₀ B₀ p A [] q ⟨some dd,.alloc T,ty,pos,aft,gd⟩:=
  zfk hm fun C h s=>by
    unfold Ex
    simp only [execOp]
    refine xbz ?_
    unfold Instr.alloc
    refine xbz (xpz hz ?_)
    simp only
    unfold newVar
    rw [hc]
    refine xbz (xqk ?_)
    refine xbv ?_
    exact xbv ⟨_,rfl,_,hq _,s.push _⟩
end
theorem sk1 {α β γ1:Type} [Nonempty γ1] (R:α→β→γ1→Prop): ∃ (G1:α→β→γ1),∀ a b,(∃ c1,R a b c1)→R a b (G1 a b):=by
  have key: ∀ ab:α × β,∃ y:γ1,(∃ c1,R ab.1 ab.2 c1)→R ab.1 ab.2 (y):=fun ab=>by
    by_cases h: ∃ c1,R ab.1 ab.2 c1
    · obtain ⟨c1,h⟩:=h
      exact ⟨c1,fun _=>h⟩
    · exact ⟨Classical.choice inferInstance,fun x=>absurd x h⟩
  obtain ⟨G,hG⟩:=Classical.axiomOfChoice key
  exact ⟨fun a b=>(G (a,b)),fun a b h=>hG (a,b) h⟩
theorem sk2 {α β γ1 γ2:Type} [Nonempty γ1] [Nonempty γ2] (R:α→β→γ1→γ2→Prop): ∃ (G1:α→β→γ1) (G2:α→β→γ2),∀ a b,(∃ c1 c2,R a b c1 c2)→R a b (G1 a b) (G2 a b):=by
  have key: ∀ ab:α × β,∃ y:γ1 × γ2,(∃ c1 c2,R ab.1 ab.2 c1 c2)→R ab.1 ab.2 (y.1) (y.2):=fun ab=>by
    by_cases h: ∃ c1 c2,R ab.1 ab.2 c1 c2
    · obtain ⟨c1,c2,h⟩:=h
      exact ⟨(c1,c2),fun _=>h⟩
    · exact ⟨(Classical.choice inferInstance,Classical.choice inferInstance),fun x=>absurd x h⟩
  obtain ⟨G,hG⟩:=Classical.axiomOfChoice key
  exact ⟨fun a b=>(G (a,b)).1,fun a b=>(G (a,b)).2,fun a b h=>hG (a,b) h⟩
theorem sk4 {α β γ1 γ2 γ3 γ4:Type} [Nonempty γ1] [Nonempty γ2] [Nonempty γ3] [Nonempty γ4] (R:α→β→γ1→γ2→γ3→γ4→Prop): ∃ (G1:α→β→γ1) (G2:α→β→γ2) (G3:α→β→γ3) (G4:α→β→γ4),∀ a b,(∃ c1 c2 c3 c4,R a b c1 c2 c3 c4)→R a b (G1 a b) (G2 a b) (G3 a b) (G4 a b):=by
  have key: ∀ ab:α × β,∃ y:γ1 × γ2 × γ3 × γ4,(∃ c1 c2 c3 c4,R ab.1 ab.2 c1 c2 c3 c4)→R ab.1 ab.2 (y.1) (y.2.1) (y.2.2.1) (y.2.2.2):=fun ab=>by
    by_cases h: ∃ c1 c2 c3 c4,R ab.1 ab.2 c1 c2 c3 c4
    · obtain ⟨c1,c2,c3,c4,h⟩:=h
      exact ⟨(c1,c2,c3,c4),fun _=>h⟩
    · exact ⟨(Classical.choice inferInstance,Classical.choice inferInstance,Classical.choice inferInstance,Classical.choice inferInstance),fun x=>absurd x h⟩
  obtain ⟨G,hG⟩:=Classical.axiomOfChoice key
  exact ⟨fun a b=>(G (a,b)).1,fun a b=>(G (a,b)).2.1,fun a b=>(G (a,b)).2.2.1,fun a b=>(G (a,b)).2.2.2,fun a b h=>hG (a,b) h⟩
theorem sk6 {α β γ1 γ2 γ3 γ4 γ5 γ6:Type} [Nonempty γ1] [Nonempty γ2] [Nonempty γ3] [Nonempty γ4] [Nonempty γ5] [Nonempty γ6] (R:α→β→γ1→γ2→γ3→γ4→γ5→γ6→Prop): ∃ (G1:α→β→γ1) (G2:α→β→γ2) (G3:α→β→γ3) (G4:α→β→γ4) (G5:α→β→γ5) (G6:α→β→γ6),∀ a b,(∃ c1 c2 c3 c4 c5 c6,R a b c1 c2 c3 c4 c5 c6)→R a b (G1 a b) (G2 a b) (G3 a b) (G4 a b) (G5 a b) (G6 a b):=by
  have key: ∀ ab:α × β,∃ y:γ1 × γ2 × γ3 × γ4 × γ5 × γ6,(∃ c1 c2 c3 c4 c5 c6,R ab.1 ab.2 c1 c2 c3 c4 c5 c6)→R ab.1 ab.2 (y.1) (y.2.1) (y.2.2.1) (y.2.2.2.1) (y.2.2.2.2.1) (y.2.2.2.2.2):=fun ab=>by
    by_cases h: ∃ c1 c2 c3 c4 c5 c6,R ab.1 ab.2 c1 c2 c3 c4 c5 c6
    · obtain ⟨c1,c2,c3,c4,c5,c6,h⟩:=h
      exact ⟨(c1,c2,c3,c4,c5,c6),fun _=>h⟩
    · exact ⟨(Classical.choice inferInstance,Classical.choice inferInstance,Classical.choice inferInstance,Classical.choice inferInstance,Classical.choice inferInstance,Classical.choice inferInstance),fun x=>absurd x h⟩
  obtain ⟨G,hG⟩:=Classical.axiomOfChoice key
  exact ⟨fun a b=>(G (a,b)).1,fun a b=>(G (a,b)).2.1,fun a b=>(G (a,b)).2.2.1,fun a b=>(G (a,b)).2.2.2.1,fun a b=>(G (a,b)).2.2.2.2.1,fun a b=>(G (a,b)).2.2.2.2.2,fun a b h=>hG (a,b) h⟩
end Go.X
namespace Go.X
open Go.Conc

theorem yfj {P:Program} {md:Md} {g:Goroutine} {Stop:Goroutine→Heap→Prop} {h₀:Heap} {B₀:List Nat} {A C:Pcs}: ∀ {Z:Pcs} {p:PHeap},
    (∀ p',PLe p p'→(∀ x∈Z,p' x.1=some x.2)→RS P md g (fun h=>St h₀ B₀ p' h (A++C)) Stop)→RS P md g (fun h=>St h₀ B₀ p h (A++(Z++C))) Stop
  | [],p,nx=>nx p (.refl p) (by simp)
  | (b,o)::Z,p,nx=>fun h s=>by
    have s1:St h₀ B₀ p h ((b,o)::(A++(Z++C))):=s.perm (by simp)
    obtain ⟨le,s2⟩:=s1.last
    refine yfj (Z:=Z) (p:=padd p b o) (fun p' le' hz=>nx p' (le.trans le') fun x hx=>?_) h s2
    rcases List.mem_cons.1 hx with rfl | hx
    · exact le' _ _ xpj
    · exact hz x hx

section
variable {T:TypeId} {w:Nat} {v:Value} {es:List (List Value)} {X:Pcs} {p p':PHeap}
theorem OwnS.inP (o:OwnS T w v es X) (hp: ∀ x∈X,p x.1=some x.2): ∃ a cap,v= .slice a es.length cap∧Sl p a es.length w es:=by
  obtain ⟨hw,⟨rfl,rfl,rfl⟩ | ⟨b,cs,cap,rest,rfl,rfl,hcs,hlen,hcap⟩⟩:=o
  · exact ⟨none,0,rfl,.nil _ _ _⟩
  · refine ⟨some ⟨b,0,none⟩,cap,rfl,rfl,hw,fun _=>rfl,?_⟩
    intro i e hi j x hj
    show pcell _ (((⟨b,0,none⟩:Addr).add (i*w)).add j)=_
    rw [xnz,xnz]
    unfold pcell
    simp only [hp (b,.cells cs.toArray T (0,0)) (by simp),Option.isSome_none,Bool.false_eq_true,if_false,List.getElem?_toArray,Nat.zero_add]
    rw [hcs,List.getElem?_append_left]
    · exact xox hw hi hj
    · exact (List.getElem?_eq_some_iff.1 (xox hw hi hj)).1
theorem OwnS.lend {h₀ h:Heap} {B₀:List Nat} {L:Pcs} (o:OwnS T w v es X) (hn:0<es.length) (s:St h₀ B₀ p h (X++L)):
    ∃ a cap b ob,v= .slice a es.length cap∧X=[(b,ob)]∧Per (padd p b ob) h∧PLe p (padd p b ob)∧Sl (padd p b ob) a es.length w es:=by
  obtain ⟨b,cs,cap,rest,e1,e2,_,_⟩:=o.has hn
  have h1:(X++L)[0]?=some (b,.cells (List.toArray cs) T (0,0)):=by rw [e2];rfl
  obtain ⟨a,cap',e3,sl⟩:=o.inP (p:=padd p b (.cells (List.toArray cs) T (0,0))) (by rw [e2];intro x hx;rw [List.mem_singleton.1 hx];exact xpj)
  exact ⟨a,cap',b,_,e3,e2,s.perO h1,s.leO h1,sl⟩
end

theorem yyk {es fs:List (List Value)} (h1: ∀ u∈es.flatten,isOne u=true) (h2: ∀ u∈fs.flatten,isOne u=true): ∀ u∈(es++fs).flatten,isOne u=true:=fun u hu=>by
  rw [List.flatten_append,List.mem_append] at hu
  exact hu.elim (h1 u) (h2 u)

def Refs (p:PHeap) (es:List (List Value)) (xss:List (List Int)):Prop:=es.length=xss.length∧ ∀ i,i<xss.length→ ∃ a c,es[i]?=some [.slice a (xss.getD i []).length c]∧Ints p a (xss.getD i []).length (xss.getD i [])
def Inn (p:PHeap) (es:List (List Value)) (xss:List (List Int)) (Z:Pcs):Prop:=∀ p',PLe p p'→(∀ x∈Z,p' x.1=some x.2)→Refs p' es xss
section
variable {p:PHeap} {es fs:List (List Value)} {xss yss:List (List Int)} {Z Y:Pcs}
theorem Inn.nil:Inn p [] [] []:=fun _ _ _=>⟨rfl,fun i hi=>absurd hi (by simp)⟩
theorem Inn.one {a:Option Addr} {n c:Nat} {xs:List Int} (D:Ints p a n xs):Inn p [[.slice a n c]] [xs] []:=fun p' le _=>by
  have hl:=D.len
  refine ⟨rfl,fun i hi=>?_⟩
  obtain rfl:i=0:=by simpa using hi
  exact ⟨a,c,by simp [hl],by simpa [hl] using D.mono le⟩
theorem Inn.app (x:Inn p es xss Z) (y:Inn p fs yss Y):Inn p (es++fs) (xss++yss) (Z++Y):=fun p' le hz=>by
  obtain ⟨l1,r1⟩:=x p' le fun q hq=>hz q (by simp [hq])
  obtain ⟨l2,r2⟩:=y p' le fun q hq=>hz q (by simp [hq])
  refine ⟨by simp [l1,l2],fun i hi=>?_⟩
  by_cases h:i<xss.length
  · obtain ⟨a,c,e,I⟩:=r1 i h
    have e2:(xss++yss).getD i []=xss.getD i []:=by rw [List.getD_eq_getElem?_getD,List.getElem?_append_left h,← List.getD_eq_getElem?_getD]
    exact ⟨a,c,by rw [e2,List.getElem?_append_left (by omega)];exact e,by rw [e2];exact I⟩
  · rw [List.length_append] at hi
    obtain ⟨a,c,e,I⟩:=r2 (i-xss.length) (by omega)
    have e2:(xss++yss).getD i []=yss.getD (i-xss.length) []:=by rw [List.getD_eq_getElem?_getD,List.getElem?_append_right (by omega),← List.getD_eq_getElem?_getD]
    exact ⟨a,c,by rw [e2,List.getElem?_append_right (by omega),l1];exact e,by rw [e2];exact I⟩
theorem Inn.lent {b:Nat} {o:Obj} (hle:PLe p (padd p b o)) (x:Inn (padd p b o) es xss Z):Inn p es xss (Z++[(b,o)]):=fun p' le hz=>by
  refine x p' (fun c q hc=>?_) fun y hy=>hz y (by simp [hy])
  unfold padd at hc
  split at hc
  · rename_i e;subst e;cases hc;exact hz (c,o) (by simp)
  · exact le c q hc
theorem Inn.as {Y:Pcs} (x:Inn p es xss Z) (e:xss=yss) (e2:Z=Y):Inn p es yss Y:=by subst e;subst e2;exact x

structure Tab1 (p:PHeap) (a:Option Addr) (k:Nat) (A:Nat→Option Addr) (C:Nat→Nat) (N:Nat→Nat) (xss:Nat→List Int):Prop where
  ne:0<k→a=some (adr a)
  cell: ∀ i,i<k→pcell p ((adr a).add (i*1))=some (.slice (A i) (N i) (C i))
  ints: ∀ i,i<k→Ints p (A i) (N i) (xss i)
theorem Tab1.mono {p':PHeap} {a:Option Addr} {k:Nat} {A:Nat→Option Addr} {C N:Nat→Nat} {xs:Nat→List Int} (h:PLe p p') (t:Tab1 p a k A C N xs):Tab1 p' a k A C N xs:=
  ⟨t.ne,fun i hi=>h.cell (t.cell i hi),fun i hi=>(t.ints i hi).mono h⟩
theorem Refs.tab {a:Option Addr} {n:Nat} (r:Refs p es xss) (s:Sl p a n 1 es): ∃ A C,Tab1 p a xss.length A C (fun i=>(xss.getD i []).length) (fun i=>xss.getD i []):=by
  obtain ⟨hl,r⟩:=r
  have hn:n=xss.length:=by rw [← hl];exact s.len.symm
  have key: ∀ i:Nat,∃ y:Option Addr × Nat,i<xss.length→es[i]?=some [.slice y.1 (xss.getD i []).length y.2]∧Ints p y.1 (xss.getD i []).length (xss.getD i []):=fun i=>by
    by_cases h:i<xss.length
    · obtain ⟨a,c,h1,h2⟩:=r i h
      exact ⟨(a,c),fun _=>⟨h1,h2⟩⟩
    · exact ⟨(none,0),fun x=>absurd x h⟩
  obtain ⟨F,hF⟩:=Classical.axiomOfChoice key
  refine ⟨fun i=>(F i).1,fun i=>(F i).2,fun h=>s.ne (by omega),fun i hi=>?_,fun i hi=>(hF i hi).2⟩
  exact s.get i _ (hF i hi).1 0 _ rfl
end
end Go.X
namespace Go.X
open Go.Conc
theorem yzq {Q:Prop} {T:TypeId} {w n:Nat} {v:Value} {es:List (List Value)} {X L:Pcs} {p:PHeap} {h₀ h:Heap} {B₀:List Nat} (o:OwnS T w v es X) (hn:es.length=n) (s:St h₀ B₀ p h L) (hX: ∀ x∈X,x∈L)
    (c: ∀ p' a cap,Per p' h→PLe p p'→v= .slice a n cap→Sl p' a n w es→Q):Q:=by
  subst hn
  rcases o.2 with ⟨_,_,e⟩ | ⟨b,cs,cap,rest,_,e,_⟩
  · obtain ⟨a,cap,e1,sl⟩:=o.inP (p:=p) (by rw [e];simp)
    exact c p a cap s.per (.refl p) e1 sl
  · obtain ⟨i,hi⟩:=List.mem_iff_getElem?.1 (hX (b,.cells (List.toArray cs) T (0,0)) (by rw [e];simp))
    obtain ⟨a,cap',e3,sl⟩:=o.inP (p:=padd p b (.cells (List.toArray cs) T (0,0))) (by rw [e];intro x hx;rw [List.mem_singleton.1 hx];exact xpj)
    exact c _ a cap' (s.perO hi) (s.leO hi) e3 sl
end Go.X
namespace Go.X
open Go.Conc
theorem wqj {Q:Prop} {T:TypeId} {w n:Nat} {v:Value} {es:List (List Value)} {X L:Pcs} {p:PHeap} {h₀ h:Heap} {B₀:List Nat} (o:OwnS T w v es X) (hn:es.length=n) (s:St h₀ B₀ p h L) (hX: ∀ x∈X,x∈L) {bt:Nat} {ob:Obj} (hb:(bt,ob)∈L)
    (c: ∀ p' a cap,Per p' h→PLe p p'→v= .slice a n cap→Sl p' a n w es→p' bt=some ob→Q):Q:=by
  subst hn
  have own: ∀ x∈L,h[x.1]?=some x.2∧p x.1=none:=fun x hx=>⟨(s.own x hx).1,(s.own x hx).2.1⟩
  let p':PHeap:=fun b=>if b=bt then some ob else match X.find? (fun x=>x.1 == b) with
    | some x=>some x.2
    | none=>p b
  have hper:Per p' h:=fun b o' e=>by
    simp only [p'] at e
    split at e
    · rename_i hb';subst hb';cases e;exact (own _ hb).1
    · split at e
      · rename_i x hx
        have hm:=List.mem_of_find?_eq_some hx
        have he:=List.find?_some hx
        simp only [beq_iff_eq] at he
        cases e;subst he
        exact (own x (hX x hm)).1
      · exact s.per b o' e
  have hle:PLe p p':=fun b o' e=>by
    simp only [p']
    rw [if_neg (fun hb'=>by subst hb';rw [(own _ hb).2] at e;cases e)]
    split
    · rename_i x hx
      have hm:=List.mem_of_find?_eq_some hx
      have he:=List.find?_some hx
      simp only [beq_iff_eq] at he
      subst he
      rw [(own x (hX x hm)).2] at e;cases e
    · exact e
  have hpx: ∀ x∈X,p' x.1=some x.2:=fun x hx=>by
    have key: ∀ y:Nat × Obj,y∈L→y.1=x.1→y.2=x.2:=fun y hy e=>by
      have h1:=(own y hy).1;have h2:=(own x (hX x hx)).1
      rw [e,h2] at h1;exact (Option.some.inj h1).symm
    simp only [p']
    split
    · rename_i e;exact congrArg some (key (bt,ob) hb e.symm)
    · split
      · rename_i y hy
        have hm:=List.mem_of_find?_eq_some hy
        have he:=List.find?_some hy
        simp only [beq_iff_eq] at he
        exact congrArg some (key y (hX y hm) he)
      · rename_i hy
        have:=List.find?_eq_none.1 hy x hx
        simp at this
  obtain ⟨a,cap,e1,sl⟩:=o.inP (p:=p') hpx
  exact c p' a cap hper hle e1 sl (by simp [p'])
theorem zsk {Q:Prop} {L Z:Pcs} {p:PHeap} {h₀ h:Heap} {B₀:List Nat} (s:St h₀ B₀ p h L) (hZ: ∀ x∈Z,x∈L) (c: ∀ p',Per p' h→PLe p p'→(∀ x∈Z,p' x.1=some x.2)→Q):Q:=by
  have own: ∀ x∈L,h[x.1]?=some x.2∧p x.1=none:=fun x hx=>⟨(s.own x hx).1,(s.own x hx).2.1⟩
  let p':PHeap:=fun b=>match Z.find? (fun x=>x.1 == b) with
    | some x=>some x.2
    | none=>p b
  refine c p' (fun b o' e=>?_) (fun b o' e=>?_) (fun x hx=>?_)
  · simp only [p'] at e
    split at e
    · rename_i x hx
      have hm:=List.mem_of_find?_eq_some hx
      have he:=List.find?_some hx
      simp only [beq_iff_eq] at he
      cases e;subst he
      exact (own x (hZ x hm)).1
    · exact s.per b o' e
  · simp only [p']
    split
    · rename_i x hx
      have hm:=List.mem_of_find?_eq_some hx
      have he:=List.find?_some hx
      simp only [beq_iff_eq] at he
      subst he
      rw [(own x (hZ x hm)).2] at e;cases e
    · exact e
  · simp only [p']
    split
    · rename_i y hy
      have hm:=List.mem_of_find?_eq_some hy
      have he:=List.find?_some hy
      simp only [beq_iff_eq] at he
      have h1:=(own y (hZ y hm)).1;have h2:=(own x (hZ x hx)).1
      rw [he,h2] at h1
      exact congrArg some (Option.some.inj h1).symm
    · rename_i hy
      have:=List.find?_eq_none.1 hy x hx
      simp at this
theorem zyq {Q:Prop} {T T':TypeId} {w w' n n':Nat} {v v':Value} {es es':List (List Value)} {X X' L:Pcs} {p:PHeap} {h₀ h:Heap} {B₀:List Nat} (o:OwnS T w v es X) (hn:es.length=n) (o':OwnS T' w' v' es' X') (hn':es'.length=n') (s:St h₀ B₀ p h L) (hX: ∀ x∈X++X',x∈L)
    (c: ∀ p' a cap a' cap',Per p' h→PLe p p'→v= .slice a n cap→v'= .slice a' n' cap'→Sl p' a n w es→Sl p' a' n' w' es'→Q):Q:=
  zsk s hX fun p' hp le hz=>by
    subst hn;subst hn'
    obtain ⟨a,cap,e1,sl⟩:=o.inP (p:=p') fun x hx=>hz x (List.mem_append_left _ hx)
    obtain ⟨a',cap',e2,sl'⟩:=o'.inP (p:=p') fun x hx=>hz x (List.mem_append_right _ hx)
    exact c p' a cap a' cap' hp le e1 e2 sl sl'
theorem yvz {P:Program} {tm:List Value} {d:Option Tmp} {ty:TypeId} {pos:String} {aft:Array Edge} {gd:Option (Nat × Bool)} {h:Heap} {T eT:TypeId} {w:Nat} {v:Value} {es:List (List Value)} {X:Pcs} {C:Prop} [Decidable C] {t t':TypeId} {x:Operand} (o:OwnS T w v es X)
    (h1:C→v= .slice none 0 0) (h2: ¬ C→es≠[]) (ht:P.underlying t=some (.slice eT)) (hx:evl tm x=v):Exd P tm ⟨d,.binOp .eql t x (.const (.slice none 0 0)) t',ty,pos,aft,gd⟩ h (.bool (decide C)):=by
  rcases o.2 with ⟨e1,e2,_⟩ | ⟨b,cs,cap,rest,e1,_⟩
  · have hc:C:=Decidable.byContradiction fun z=>h2 z e2
    have:=yrv (P:=P) (tm:=tm) (d:=d) (ty:=ty) (pos:=pos) (aft:=aft) (gd:=gd) (h:=h) (T':=t') ht (hx.trans e1)
    rw [decide_eq_true hc]
    exact this
  · have hc: ¬ C:=fun z=>by have:=h1 z;rw [e1] at this;cases this
    have:=yrv (P:=P) (tm:=tm) (d:=d) (ty:=ty) (pos:=pos) (aft:=aft) (gd:=gd) (h:=h) (T':=t') ht (hx.trans e1)
    rw [decide_eq_false hc]
    exact this
end Go.X
namespace Go.X.Flow
open Go.X

def drawI (t:Tn) (d:List Int) (k:Nat) (x:Int):Int:=sm k fun i=>if (t.wy.getD i wz).1=x then dv d i else 0
def giveI (t:Tn) (d:List Int) (k:Nat) (x:Int):Int:=sm k fun i=>if (t.wy.getD i wz).2=x then dv d i else 0
theorem xyz {d:List Int} {c:Nat→Prop} [DecidablePred c] {k:Nat} (hd: ∀ i,i<k→0≤dv d i∧dv d i≤1000):0≤(sm k fun i=>if c i then dv d i else 0)∧(sm k fun i=>if c i then dv d i else 0)≤1000*k:=by
  induction k with
  | zero=>exact ⟨Int.le_refl _,Int.le_refl _⟩
  | succ k ih=>
    have:=ih fun i hi=>hd i (by omega)
    have:=hd k (by omega)
    simp only [sm];split <;> omega
theorem zhk {t d k x} (h:(t.wy.getD k wz).1=x):drawI t d k x+d.getD k 0=drawI t d (k+1) x:=by
  simp only [drawI,sm];rw [if_pos h];rfl
theorem ztw {t d k x} (h: ¬ (t.wy.getD k wz).1=x):drawI t d k x=drawI t d (k+1) x:=by
  simp only [drawI,sm];rw [if_neg h];omega
theorem zgk {t d k x} (h:(t.wy.getD k wz).2=x):giveI t d k x+d.getD k 0=giveI t d (k+1) x:=by
  simp only [giveI,sm];rw [if_pos h];rfl
theorem zsw {t d k x} (h: ¬ (t.wy.getD k wz).2=x):giveI t d k x=giveI t d (k+1) x:=by
  simp only [giveI,sm];rw [if_neg h];omega
def DivAt (t:Tn) (d:List Int) (i:Nat):Prop:=drawI t d d.length (t.wy.getD i wz).1≤t.hs.getD (t.wy.getD i wz).1.toNat 0∧giveI t d d.length (t.wy.getD i wz).2≤t.ws.getD (t.wy.getD i wz).2.toNat 0
structure DivI (t:Tn) (d:List Int):Prop where
  len:d.length=t.m
  pos: ∀ i,i<d.length→0≤d.getD i 0∧d.getD i 0≤9
  at_: ∀ i,i<d.length→DivAt t d i
noncomputable instance (t:Tn) (d):Decidable (DivI t d):=Classical.propDecidable _
def WOk (t:Tn):Prop:=∀ i,i<t.m→(0≤(t.wy.getD i wz).1∧(t.wy.getD i wz).1.toNat<t.nH)∧0≤(t.wy.getD i wz).2∧(t.wy.getD i wz).2.toNat<t.nW
theorem Vd.wok {t} (v:Vd t):WOk t:=fun i hi=>by have:=v.y i hi;have h1:=this.1;have h2:=this.2.1;omega
theorem wtz {t:Tn} {d:List Int} (w:WOk t) (hl:d.length=t.m) {h:Nat} {x:Int} (hx:x=(h:Int)):drawI t d d.length x=draw t d h:=by
  rw [hl];exact xhw fun i hi=>by
    have:=(w i hi).1
    have e:(t.wy.getD i wz).1.toNat=t.wh i:=rfl
    by_cases c:t.wh i=h
    · rw [if_pos (by omega),if_pos c]
    · rw [if_neg (by omega),if_neg c]
end Go.X.Flow
namespace Go.X.Flow
open Go.X

theorem _root_.Go.X.St.dropX {h₀ h:Heap} {B₀:List Nat} {p:PHeap} {A X C:Pcs} (s:St h₀ B₀ p h (A++(X++C))):St h₀ B₀ p h (A++C):=s.sub (List.Sublist.append_left (List.sublist_append_right X C) A)
section
variable {p:PHeap} {a:Option Addr} {n c l r:Nat} {xs:List Int}
theorem _root_.Go.X.Ints.pre (D:Ints p a n xs) (hc:n≤c) (h:r≤n):Ints p (cutA a c 0 1) r (xs.take r):=by
  have:=Sl.part D hc (Nat.zero_le r) h
  unfold Ints
  rw [List.map_take]
  simpa using this
theorem _root_.Go.X.Ints.suf (D:Ints p a n xs) (hc:n≤c) (h:l≤n):Ints p (cutA a c l 1) (n-l) (xs.drop l):=by
  have hl:=D.len
  have:=Sl.part D hc h (Nat.le_refl n)
  unfold Ints
  rw [List.map_drop]
  rw [List.take_of_length_le (by rw [List.length_drop,List.length_map];omega)] at this
  exact this
end
theorem wdv: ∀ {k:Nat} {xs:List Int} {z:Int},k≤xs.length→(∀ i,i<k→z≤xs.getD i 0)→(xs.length≤k∨ ¬ z≤xs.getD k 0)→put xs z=xs.take k++z::xs.drop k
  | 0,[],_,_,_,_=>rfl
  | 0,x::xs,z,_,_,h=>by
    have h: ¬ z≤x:=by
      rcases h with h | h
      · simp at h
      · exact h
    rw [put,if_neg h];rfl
  | k+1,[],_,h,_,_=>by simp at h
  | k+1,x::xs,z,hk,hs,h=>by
    have e:z≤x:=hs 0 (by omega)
    have ih:=wdv (k:=k) (xs:=xs) (z:=z) (by simp at hk;omega) (fun i hi=>hs (i+1) (by omega)) (by
      rcases h with h | h
      · left;simp at h;omega
      · right;exact h)
    rw [put,if_pos e,ih];rfl
theorem zxq (xs:List Int) (z:Int):(put xs z).length=xs.length+1:=by rw [(ymk z xs).length_eq];rfl
def lacksK (t:Tn) (d:List Int) (k:Nat):List Int:=((List.range k).map (lack t d)).foldl put []
theorem yrx (t d k):put (lacksK t d k) (lack t d k)=lacksK t d (k+1):=by
  unfold lacksK;rw [List.range_succ,List.map_append,List.foldl_append];rfl
theorem yuv (t d): ∀ k,(lacksK t d k).length=k
  | 0=>rfl
  | k+1=>by rw [← yrx,zxq,yuv t d k]
theorem vbq {t:Tn} {d:List Int} (w:WOk t) (hl:d.length=t.m) (h:Nat):t.hs.getD h 0-drawI t d d.length (h:Int)=lack t d h:=by
  rw [wtz w hl (h:=h) rfl];rfl
end Go.X.Flow
namespace Go.X.Flow
open Go.X Go.X.Bf Go.Conc
theorem Vd.okT {t:Tn} (v:Vd t) (hm:t.m≤13):OkT t:={ v.ok hm with yp:=fun i hi=>⟨(v.y i hi).1.1,(v.y i hi).2.1.1⟩ }
theorem xuz {t:Tn} (h:chkB t=0):OkT t:=by
  rcases yjk t with ⟨_,hm,v⟩ | ⟨h2,_⟩
  · exact v.okT (by omega)
  · omega
theorem zvz {t:Tn} (h:chkB t=0):t.m≤12∧Vd t:=by
  rcases yjk t with ⟨_,hm,v⟩ | ⟨h2,_⟩
  · exact ⟨hm,v⟩
  · omega
def NoneP (p:PHeap):Prop:=∃ t z,p 0=some (.cells #[.int .i64 (-1),.int .i64 (-1),.int .i64 0] t z)
theorem NoneP.mono {p p':PHeap} (N:NoneP p) (le:PLe p p'):NoneP p':=by obtain ⟨t,z,h⟩:=N;exact ⟨t,z,le _ _ h⟩
theorem wsq {t:Tn} {w:Wi} (O:OkT t) (S:Sg w): ∀ i,i<t.m→0≤(fairP t w).getD i 0∧(fairP t w).getD i 0≤9:=fun i hi=>by
  have D:=(xtv O.toOk S).div
  have h1:=O.y i hi
  have h2:dv (fairP t w) i≤draw t (fairP t w) (t.wh i):=by
    have:=zpj (f:=fun k=>if t.wh k=t.wh i then dv (fairP t w) k else 0) (k:=t.m) (fun k hk=>by have:=D.pos k hk;split <;> omega) hi
    simpa [draw] using this
  have h3:=D.hs _ h1.1;have h4:=O.h _ h1.1;have h5:=D.pos i hi
  unfold dv at *;omega
def mostV (t:Tn):Int:=tot t (fairP t none0)
def worstV (t:Tn):Int:=(LK t).getD 0 0
theorem xxk (t:Tn):(LK t).length=t.nH:=xmj _ _
def drawV (t:Tn) (h:Int) (s:Int):Int:=draw t (fairP t ⟨h,-1,s⟩) h.toNat
def restV (t:Tn) (x:Int) (s:Int):Int:=has t (fairP t ⟨-1,x,s⟩) x.toNat
def dryV (t:Tn) (x:Int):Int:=if restV t x (-1)=0 then 1 else if 0<restV t x 1 then 2 else 3
noncomputable def houseC (t:Tn) (z:Int) (s:Int):Int:=if askB t (decide (0≤z∧z≤(t.nH:Int)-1))=0 then drawV t z s else 0
noncomputable def dryC (t:Tn) (z:Int):Int:=if askB t (decide (0≤z∧z≤(t.nW:Int)-1))=0 then dryV t z else 0
theorem ycx {t z s} (h:askB t (decide (0≤z∧z≤(t.nH:Int)-1))=0):houseC t z s=drawV t z s:=if_pos h
theorem zgz {t z s} (h: ¬ askB t (decide (0≤z∧z≤(t.nH:Int)-1))=0):houseC t z s=0:=if_neg h
theorem ynk {t z} (h:askB t (decide (0≤z∧z≤(t.nW:Int)-1))=0):dryC t z=dryV t z:=if_pos h
theorem vcq {t z} (h: ¬ askB t (decide (0≤z∧z≤(t.nW:Int)-1))=0):dryC t z=0:=if_neg h
noncomputable def LKc (t:Tn):List Int:=if chkB t=0 then LK t else []
noncomputable def fairC (t:Tn):List Int:=if chkB t=0 then fairP t none0 else []
noncomputable def worstC (t:Tn):Int:=(LKc t).getD 0 0
noncomputable def mostC (t:Tn):Int:=if chkB t=0 then mostV t else 0
noncomputable def goodL (t:Tn) (d:List Int):List Int:=if chkB t=0∧DivI t d then lacks t d else []
theorem znx {t} (h:chkB t=0):LKc t=LK t:=if_pos h
theorem wxz {t} (h: ¬ chkB t=0):LKc t=[]:=if_neg h
theorem wlv {t:Tn} {b:Bool} (h:askB t b=0):chkB t=0∧b=true:=by
  unfold askB at h
  split at h
  · rename_i h2;refine ⟨h2,?_⟩;cases b <;> simp_all
  · omega
abbrev neg0:Int→Bool:=fun n=>decide (n<0)
end Go.X.Flow
namespace Go.X
open Go.Conc

def bs (l:List UInt8):ByteArray:=⟨l.toArray⟩
theorem wkv (l:List UInt8):(bs l).size=l.length:=by simp [bs,ByteArray.size]
theorem vix (l:List UInt8) (i:Nat):(bs l)[i]?=l[i]?:=by
  by_cases h:i<l.length
  · rw [getElem?_pos (bs l) i (by rw [wkv];exact h),List.getElem?_eq_getElem h];rfl
  · rw [getElem?_neg (bs l) i (by rw [wkv];exact h),List.getElem?_eq_none (by omega)]
def sv (l:List UInt8):Value:=.string (bs l)

section
variable {P:Program} {h:Heap} {tm:List Value} {d:Option Tmp} {ty:TypeId} {pos:String} {aft:Array Edge} {gd:Option (Nat × Bool)} {l m:List UInt8}
theorem zzj {t:TypeId} {x y:Operand} {k:IntKind} {i:Int} (ht:P.underlying t=some .string) (hx:evl tm x=sv l) (hy:evl tm y= .int k i) (h0:0≤i) (h1:i<l.length):
    Exd P tm ⟨d,.index t x y,ty,pos,aft,gd⟩ h (.int .u8 ((l.getD i.toNat 0).toNat:Nat)):=by
  refine xwj (s:=Instr.index t (sv l) (.int k i)) (by simp only [execOp,hx,hy]) ?_
  unfold Instr.index
  refine xbz (xbv ?_)
  simp only
  refine xbz (xgq ht ?_)
  simp only [sv]
  have e:(bs l)[i.toNat]?=some (l.getD i.toNat 0):=by
    rw [vix,List.getD_eq_getElem?_getD,List.getElem?_eq_getElem (by omega)];rfl
  rw [if_pos h0,e]
  exact xbv ⟨rfl,rfl⟩
theorem zmz {t:TypeId} {x y:Operand} {k:IntKind} {i:Nat} (ht:P.underlying t=some .string) (hx:evl tm x=sv l) (hy:evl tm y= .int k (i:Nat)) (h1:i<l.length):
    Exd P tm ⟨d,.index t x y,ty,pos,aft,gd⟩ h (.int .u8 ((l.getD i 0).toNat:Nat)):=by
  have:=zzj (P:=P) (tm:=tm) (d:=d) (ty:=ty) (pos:=pos) (aft:=aft) (gd:=gd) (h:=h) ht hx hy (by omega) (by omega)
  rwa [Int.toNat_natCast] at this
theorem ynj {src dst:TypeId} {x:Operand} {k k':IntKind} {a n:Int} (hs: ∃ t,P.underlying src=some t) (hd:P.underlying dst=some (.int k')) (hx:evl tm x= .int k a) (hn:k'.wrap a=n):Exd P tm ⟨d,.convert src dst x,ty,pos,aft,gd⟩ h (.int k' n):=by
  obtain ⟨t,hs⟩:=hs
  refine xwj (s:=convert src dst (.int k a)) (by simp only [execOp,hx]) ?_
  unfold convert
  refine xbz (xgq hs ?_)
  refine xbz (xgq hd ?_)
  simp only [Conv.intToInt]
  exact xbv ⟨by rw [hn],rfl⟩
theorem wkk (b:UInt8):b.toNat≤255:=by have:b.toNat<256:=b.toNat_lt;omega
theorem wrB (b:UInt8):IntKind.i64.wrap ((b.toNat:Nat):Int)=((b.toNat:Nat):Int):=wr (by have:=wkk b;omega)
theorem wr8 {n:Int} (h:0≤n∧n≤255):IntKind.u8.wrap n=n:=by
  simp only [IntKind.wrap,IntKind.bits,IntKind.signed]
  simp
  omega
end
end Go.X
namespace Go.X
open Go.Conc

theorem wrU {n:Int} (h:0≤n∧n≤18446744073709551615):IntKind.u64.wrap n=n:=by
  show (n % ((2:Int) ^ 64))=n
  exact Int.emod_eq_of_lt h.1 (by omega)
theorem vjj (b:UInt8): -9223372036854775808≤0+((b.toNat:Nat):Int)∧0+((b.toNat:Nat):Int)≤9223372036854775807:=by have:=wkk b;omega

theorem St.lentTo {h₀ h:Heap} {B₀:List Nat} {p:PHeap} {A X C:Pcs} (s:St h₀ B₀ p h (A++(X++C))):St h₀ B₀ p h (([]:Pcs)++(X++((A++C)++[]))):=
  s.perm (by rw [List.nil_append,List.append_nil];exact List.perm_append_comm_assoc _ _ _)
theorem St.lentBack {h₀ h:Heap} {B₀:List Nat} {p:PHeap} {A X C:Pcs} (s:St h₀ B₀ p h (X++((A++C)++[]))):St h₀ B₀ p h (A++(X++C)):=
  s.perm (by rw [List.append_nil];exact List.perm_append_comm_assoc _ _ _)
theorem St.yTo {h₀ h:Heap} {B₀:List Nat} {p:PHeap} {A X C:Pcs} (s:St h₀ B₀ p h (A++(X++C))):St h₀ B₀ p h ((A++C)++(X++[])):=
  s.perm (by rw [List.append_nil,List.append_assoc];exact List.Perm.append_left A List.perm_append_comm)
theorem St.yBack {h₀ h:Heap} {B₀:List Nat} {p:PHeap} {A X C:Pcs} (s:St h₀ B₀ p h ((A++C)++(X++[]))):St h₀ B₀ p h (A++(X++C)):=
  s.perm (by rw [List.append_nil,List.append_assoc];exact List.Perm.append_left A List.perm_append_comm)
theorem wrx {P:Program} {md:Md} {f:FuncId} {r:Rd} {df:List Deferred} {k:List Item} {cs:List Frame} {Stop:Goroutine→Heap→Prop} {tm:List Value} {Φ:Heap→Prop} [Stb Φ] {c:Code}
    (z:RS P md (G (FL f r tm df (.code c:: .inLoop c::k)) cs) Φ Stop):RS P md (G (FL f r tm df (.code (.loop c)::k)) cs) Φ Stop:=zkx z
end Go.X
namespace Go.X
open Go.Conc
def marksL (rs:List Nat):List Deferred:=rs.map mark
def marksP (rs:List Nat):Pcs:=rs.map fun r=>(r,.deferred (some []))
section
variable {P:Program} {md:Md} {f:FuncId} {r:Rd} {k:List Item} {cs:List Frame} {Stop:Goroutine→Heap→Prop} {tm:List Value} {Φ:Heap→Prop} [Stb Φ]
  {h₀ h:Heap} {B₀:List Nat} {p:PHeap} {L A C X Y M:Pcs}
theorem wrz {c:Code} {m₀:Nat} {rs₀:List Nat} (I:Nat→List Nat→List Value→Heap→Prop) (start: ∀ h,Φ h→I m₀ rs₀ tm h) [∀ m rs tm,Stb (I m rs tm)]
    (round: ∀ m rs tm,(∀ m' rs' tm',m'<m→RS P md (G (FL f r tm' (marksL rs') (.inLoop c::k)) cs) (I m' rs' tm') Stop)→RS P md (G (FL f r tm (marksL rs) (.code c:: .inLoop c::k)) cs) (I m rs tm) Stop):
    RS P md (G (FL f r tm (marksL rs₀) (.code (.loop c)::k)) cs) Φ Stop:=by
  refine zkx ?_
  suffices H: ∀ m rs tm,RS P md (G (FL f r tm (marksL rs) (.code c:: .inLoop c::k)) cs) (I m rs tm) Stop from fun h y=>H _ _ _ h (start h y)
  intro m
  induction m using Nat.strongRecOn with
  | _ m ih=>exact fun rs tm=>round m rs tm fun m' rs' tm' hlt=>zeq (ih m' hlt rs' tm')

theorem zpv {c₀:Frame} {td:List Item} {df:List Deferred}: ∀ {rs:List Nat} {L:Pcs},RS P md (G (FR (B f r) tm.toArray df td) (c₀::cs)) (fun h=>St h₀ B₀ p h L) Stop→
    RS P md (G (FR (B f r) tm.toArray (marksL rs++df) td) (c₀::cs)) (fun h=>St h₀ B₀ p h (marksP rs++L)) Stop
  | [],_,x=>x
  | _::rs,_,x=>zex (fun _ s=>s.at (i:=0) rfl) fun _ s=>zpv (rs:=rs) x _ (s.setObj (i:=0) rfl).drop

theorem ztq {c₀:Frame} {fn:Func} {rv:List ResultVar} {vs:List Value} {v:Value} {rs:List Nat} (hf:P.funcs[f]?=some fn) (hr:fn.results=rv.toArray)
    (e: ∀ h,St h₀ B₀ p h L→Res P h tm rv vs) (hv:packs vs=v)
    (x:RS P md (G (c₀.finish v) cs) (fun h=>St h₀ B₀ p h L) Stop):RS P md (G (FL f .none tm (marksL rs) (.code .ret::k)) (c₀::cs)) (fun h=>St h₀ B₀ p h (marksP rs++L)) Stop:=
  wcx (hro:=rfl) fun td=>by
    have:=zpv (P:=P) (md:=md) (f:=f) (r:=.none) (cs:=cs) (Stop:=Stop) (tm:=tm) (c₀:=c₀) (td:=td) (df:=[]) (rs:=rs) (L:=L) (h₀:=h₀) (B₀:=B₀) (p:=p)
      (ypz (Φ:=fun h=>St h₀ B₀ p h L) hf rfl fun h y=>ydq hr (e h y) hv (x h y))
    rw [List.append_nil] at this
    exact this

theorem St.marked {r:Nat} {rs:List Nat} (s:St h₀ B₀ p h ((r,.deferred (some []))::(A++(X++(Y++(marksP rs++C)))))):St h₀ B₀ p h (A++(X++(Y++(marksP (r::rs)++C)))):=
  s.perm (by
    have e:(A++(X++(Y++(marksP (r::rs)++C))))=(A++(X++Y))++((r,.deferred (some []))::(marksP rs++C)):=by simp [marksP]
    have e2:(A++(X++(Y++(marksP rs++C))))=(A++(X++Y))++(marksP rs++C):=by simp
    rw [e,e2]
    exact List.perm_middle.symm)
end
theorem zzz {P:Program} {tm:List Value} {h₀ h:Heap} {B₀:List Nat} {p:PHeap} {L X:Pcs} {T:TypeId} {w:Nat} {v:Value} {es:List (List Value)} {d:Option Tmp} {ty:TypeId} {pos:String} {aft:Array Edge} {gd:Option (Nat × Bool)}
    {t:TypeId} {x:Operand} {i:Nat} {e:List Value} {a:Addr} (o:OwnS T w v es X) (s:St h₀ B₀ p h L) (hX: ∀ x∈X,x∈L) (ht:aggT P t=some true) (hs:sizeT P t=some w) (hx:evl tm x= .pointer (some a)) (ha:((adrV v).add (i*w)).add 0=a)
    (hi:es[i]?=some e):Exd P tm ⟨d,.load t x,ty,pos,aft,gd⟩ h (.agg e.toArray):=by
  obtain ⟨b,cs,cap,rest,e1,e2,e3,e4,_⟩:=o.has (List.getElem?_eq_some_iff.1 hi).1
  subst e1;subst e2;subst ha
  refine yrk ht hs (o.1 e (List.mem_of_getElem? hi)) hx fun j u hj=>?_
  simp only [adrV]
  rw [xnz,xnz,xnz]
  obtain ⟨q,hq⟩:=List.getElem?_of_mem (hX (b,.cells cs.toArray T (0,0)) (by simp))
  refine s.ocell (i:=q) (cs:=cs.toArray) (T:=T) (z:=(0,0)) hq ?_
  have:=xox o.1 hi hj
  rw [List.getElem?_toArray,e3,Nat.add_zero,Nat.zero_add,List.getElem?_append_left (List.getElem?_eq_some_iff.1 this).1]
  exact this
theorem St.nil2 {h₀ h:Heap} {B₀:List Nat} {p:PHeap} {L:Pcs} (s:St h₀ B₀ p h L):St h₀ B₀ p h (([]:Pcs)++(L++[])):=by rw [List.append_nil];exact s
end Go.X
namespace Go.X
open Go.Conc
section
variable {P:Program} {tm:List Value} {h:Heap} {d:Option Tmp} {ty:TypeId} {pos:String} {aft:Array Edge} {gd:Option (Nat × Bool)}
theorem vdx (n:Int):IntKind.u64.wrap n=n % 18446744073709551616:=rfl
theorem zak {T T':TypeId} {x y:Operand} {a b:Nat} (hx:evl tm x= .int .u64 ((a:Nat):Int)) (hy:evl tm y= .int .u64 ((b:Nat):Int)) (ha:a<18446744073709551616) (hb:b<18446744073709551616):
    Exd P tm ⟨d,.binOp .and T x y T',ty,pos,aft,gd⟩ h (.int .u64 ((a &&& b:Nat):Int)):=
  xrq hx hy (fun K z=>xlv rfl z) (by
    simp only [binOp,ne_eq,not_true_eq_false,if_false,Op.intBits]
    refine xbv ⟨?_,rfl⟩
    have e:((BitVec.ofInt IntKind.u64.bits ((a:Nat):Int)) &&& (BitVec.ofInt IntKind.u64.bits ((b:Nat):Int))).toNat=a &&& b:=by
      rw [BitVec.toNat_and,BitVec.ofInt_natCast,BitVec.ofInt_natCast,BitVec.toNat_ofNat,BitVec.toNat_ofNat,Nat.mod_eq_of_lt (show a<2 ^ IntKind.u64.bits from ha),Nat.mod_eq_of_lt (show b<2 ^ IntKind.u64.bits from hb)]
    rw [e,wrU ⟨by omega,by have:=Nat.and_le_left (n:=a) (m:=b);omega⟩])
theorem ztz {T T':TypeId} {x y:Operand} {k k':IntKind} {a s:Nat} (hx:evl tm x= .int k ((a:Nat):Int)) (hy:evl tm y= .int k' ((s:Nat):Int)) (hs:s≤k.bits):
    Exd P tm ⟨d,.binOp .shr T x y T',ty,pos,aft,gd⟩ h (.int k ((a / 2 ^ s:Nat):Int)):=
  xrq hx hy (fun K z=>xlv rfl z) (by
    simp only [binOp,Op.shift]
    rw [if_neg (by omega)]
    refine xbv ⟨?_,rfl⟩
    rw [Int.toNat_natCast,Nat.min_eq_left hs,Int.fdiv_eq_ediv_of_nonneg _ (by exact Int.pow_nonneg (by decide))]
    simp)
theorem wsj {T T':TypeId} {x y:Operand} {k':IntKind} {s:Nat} (hx:evl tm x= .int .u64 1) (hy:evl tm y= .int k' ((s:Nat):Int)) (hs:s≤63):
    Exd P tm ⟨d,.binOp .shl T x y T',ty,pos,aft,gd⟩ h (.int .u64 ((2 ^ s:Nat):Int)):=
  xrq hx hy (fun K z=>xlv rfl z) (by
    simp only [binOp,Op.shift]
    rw [if_neg (by omega)]
    refine xbv ⟨?_,rfl⟩
    have h1:2 ^ s≤2 ^ 63:=Nat.pow_le_pow_right (by decide) hs
    have h2:s≤IntKind.u64.bits:=by show s≤64;omega
    rw [Int.toNat_natCast,Nat.min_eq_left h2,wrU (by
      have e:(1:Int)*2 ^ s=((2 ^ s:Nat):Int):=by simp
      have h3:(2:Nat) ^ 63=9223372036854775808:=by decide
      rw [e]
      exact ⟨Int.natCast_nonneg _,Int.ofNat_le.2 (show 2 ^ s≤18446744073709551615 from by omega)⟩)]
    simp)
theorem wsv {T T':TypeId} {x y:Operand} {a b:Nat} (hx:evl tm x= .int .u64 ((a:Nat):Int)) (hy:evl tm y= .int .u64 ((b:Nat):Int)):
    Exd P tm ⟨d,.binOp .mul T x y T',ty,pos,aft,gd⟩ h (.int .u64 ((a*b % 18446744073709551616:Nat):Int)):=yrj hx hy (by rw [vdx];simp)
theorem wsk {T:TypeId} {x:Operand} {a:Nat} (hx:evl tm x= .int .u64 ((a:Nat):Int)) (h0:0<a) (h1:a<18446744073709551616):Exd P tm ⟨d,.unOp .neg T x,ty,pos,aft,gd⟩ h (.int .u64 ((18446744073709551616-a:Nat):Int)):=
  wjx hx (by rw [vdx];omega)
theorem zhx {t e:TypeId} {x y:Operand} {w len i:Nat} {k:IntKind} {a:Addr} (ht:P.underlying t=some (.array len e)) (hs:sizeT P e=some w) (hx:evl tm x= .pointer (some a)) (hy:evl tm y= .int k ((i:Nat):Int)) (h1:i<len):
    Exd P tm ⟨d,.indexAddr t x y,ty,pos,aft,gd⟩ h (.pointer (some (a.add (i*w)))):=by
  refine xwj (s:=Instr.indexAt t (.pointer (some a)) (.int k ((i:Nat):Int))) (by simp only [execOp,hx,hy]) ?_
  unfold Instr.indexAt
  refine xbz (xbv ?_)
  simp only
  refine xbz (xgq ht ?_)
  simp only [Instr.sureAddr]
  refine xbz ?_
  refine xbz (xbv ?_)
  simp only
  refine xbz (xgq ht ?_)
  simp only
  rw [if_pos ⟨by omega,by omega⟩]
  refine xbz (xmx hs ?_)
  exact xbv ⟨by rw [Int.toNat_natCast],rfl⟩
end
end Go.X
namespace Go.X.Flow
open Go.X

def tab64:List Nat:=[0,1,56,2,57,49,28,3,61,58,42,50,38,29,17,4,62,47,59,36,45,43,51,22,53,39,33,30,24,18,12,5,63,55,48,27,60,41,37,16,46,35,44,21,52,32,23,11,54,26,40,15,34,20,31,10,25,14,19,9,13,8,7,6]
def tzF (x:Nat):Nat:=(x &&& (18446744073709551616-x))*285870213051353865 % 18446744073709551616 / 2 ^ 58
def tzN (x:Nat):Nat:=tab64.getD (tzF x) 0
theorem wvq (x:Nat):tzF x<64:=by unfold tzF;omega
theorem wnz (i:Nat):tab64.getD i 0≤63:=by
  by_cases h:i<64
  · exact (show ∀ i,i<64→tab64.getD i 0≤63 by decide) i h
  · have h2:tab64.length=64:=by decide
    rw [List.getD_eq_getElem?_getD,List.getElem?_eq_none (by omega)];simp
def TabP (p:PHeap):Prop:=∃ t z,p 2=some (.cells (tab64.map fun n=>Value.int .u8 ((n:Nat):Int)).toArray t z)
theorem TabP.mono {p p':PHeap} (N:TabP p) (le:PLe p p'):TabP p':=by obtain ⟨t,z,h⟩:=N;exact ⟨t,z,le _ _ h⟩
theorem TabP.at {p:PHeap} (N:TabP p) {i:Nat} (h:i<64):pcell p ((⟨2,0,none⟩:Addr).add (i*1))=some (.int .u8 ((tab64.getD i 0:Nat):Int)):=by
  have hl:tab64.length=64:=by decide
  obtain ⟨t,z,N⟩:=N
  unfold pcell
  rw [xnz,N]
  simp only [Option.isSome_none,Bool.false_eq_true,if_false,Nat.zero_add,Nat.mul_one,List.getElem?_toArray,List.getElem?_map]
  rw [List.getD_eq_getElem?_getD,List.getElem?_eq_getElem (by omega)];rfl
def listG:Nat→Nat→List Int
  | 0,_=>[]
  | n+1,g=>if g=0 then [] else ((tzN g:Nat):Int)::listG n (g &&& (g-1))
def LG (g:Nat):List Int:=listG 6 g
theorem yuz {n:Nat}:listG n 0=[]:=by cases n <;> rfl
theorem zxw {n g:Nat} (h:g≠0):listG (n+1) g=((tzN g:Nat):Int)::listG n (g &&& (g-1)):=by rw [listG,if_neg h]
def popL:Nat→Nat→Bool
  | 0,g=>g == 0
  | n+1,g=>g == 0 || popL n (g &&& (g-1))
theorem pop6: ∀ g,g<64→popL 6 g=true:=by decide +kernel
theorem wej {n g:Nat} (h:popL (n+1) g=true) (h0:g≠0):popL n (g &&& (g-1))=true:=by
  simp only [popL,Bool.or_eq_true,beq_iff_eq] at h;exact h.resolve_left h0
theorem wez {g:Nat} (h:popL 0 g=true):g=0:=by simpa [popL] using h
theorem wxj: ∀ k:Nat,k≤6→ ∀ g:Nat,g<2 ^ k→((LG g).all fun z=>decide (0≤z∧z<(k:Int)))=true:=by decide +kernel
theorem vjz {k g:Nat} (hk:k≤6) (hg:g<2 ^ k): ∀ i,i<(LG g).length→0≤(LG g).getD i 0∧(LG g).getD i 0<k:=fun i hi=>by
  have:=List.all_eq_true.1 (wxj k hk g hg) ((LG g).getD i 0) (by rw [List.getD_eq_getElem?_getD,List.getElem?_eq_getElem hi];exact List.getElem_mem hi)
  simpa using this
theorem zuk: ∀ g,g<64→(LG g).length≤6:=by decide +kernel
def cmpL:List Int→List Int→Int
  | [],[]=>0
  | [],_::_=>-1
  | _::_,[]=>1
  | x::xs,y::ys=>if cmpI x y=0 then cmpL xs ys else cmpI x y
theorem ybz {xs ys:List Int} {k:Nat} (h1:k<xs.length) (h2:k<ys.length):cmpL (xs.drop k) (ys.drop k)=if cmpI (xs.getD k 0) (ys.getD k 0)=0 then cmpL (xs.drop (k+1)) (ys.drop (k+1)) else cmpI (xs.getD k 0) (ys.getD k 0):=by
  rw [List.drop_eq_getElem_cons h1,List.drop_eq_getElem_cons h2,cmpL,List.getD_eq_getElem?_getD,List.getD_eq_getElem?_getD,List.getElem?_eq_getElem h1,List.getElem?_eq_getElem h2];rfl
theorem yhv {xs ys:List Int} {k:Nat} (h1:k=xs.length) (h2:k<ys.length):cmpL (xs.drop k) (ys.drop k)= -1:=by
  rw [List.drop_eq_nil_of_le (by omega),List.drop_eq_getElem_cons h2,cmpL]
theorem yhk {xs ys:List Int} {k:Nat} (h1:k<xs.length) (h2:k=ys.length):cmpL (xs.drop k) (ys.drop k)=1:=by
  rw [List.drop_eq_nil_of_le (show ys.length≤k by omega),List.drop_eq_getElem_cons h1,cmpL]
theorem ynw {xs ys:List Int} {k:Nat} (h1:k=xs.length) (h2:k=ys.length):cmpL (xs.drop k) (ys.drop k)=0:=by
  rw [List.drop_eq_nil_of_le (show xs.length≤k by omega),List.drop_eq_nil_of_le (show ys.length≤k by omega),cmpL]
theorem xxj: ∀ {xs ys:List Int},xs.length=ys.length→(cmpL xs ys<0↔earlier xs ys=true)
  | [],[],_=>by simp [cmpL,earlier]
  | x::xs,y::ys,h=>by
    have ih:=xxj (xs:=xs) (ys:=ys) (by simpa using h)
    rw [cmpL,earlier]
    unfold cmpI
    (repeat' split) <;> simp_all <;> omega
end Go.X.Flow
namespace Go.X.Flow
open Go.X

structure Pre (t:Tn) (d:List Int):Prop where
  len:d.length≤t.m
  pos: ∀ i,i<t.m→0≤dv d i
  hs: ∀ h,h<t.nH→draw t d h≤t.hv h
  ws: ∀ w,w<t.nW→give t d w≤t.wv w
theorem Pre.div {t d} (D:Pre t d) (h:d.length=t.m):Div t d:=⟨h,D.pos,D.hs,D.ws⟩
theorem ysz {d:List Int} {i:Nat} (h:d.length≤i):dv d i=0:=by
  unfold dv;rw [List.getD_eq_getElem?_getD,List.getElem?_eq_none h];rfl
theorem zhj {d:List Int} {n:Int} {i:Nat}:dv (d++[n]) i=dv d i+if d.length=i then n else 0:=by
  unfold dv
  rw [List.getD_eq_getElem?_getD,List.getD_eq_getElem?_getD]
  by_cases c:i<d.length
  · rw [List.getElem?_append_left c,if_neg (by omega)];omega
  · rw [List.getElem?_append_right (by omega),List.getElem?_eq_none (l:=d) (by omega)]
    by_cases e:d.length=i
    · rw [if_pos e];subst e;simp
    · rw [if_neg e,List.getElem?_eq_none (by simp;omega)];rfl
theorem zbq {t:Tn} {d:List Int} {n:Int} (h:d.length<t.m) (x:Nat):draw t (d++[n]) x=draw t d x+if t.wh d.length=x then n else 0:=by
  unfold draw
  rw [xhw (g:=fun i=>(if t.wh i=x then dv d i else 0)+if d.length=i then (if t.wh i=x then n else 0) else 0) fun i _=>by
    rw [zhj];(repeat' split) <;> omega,xyj,zdx (fun i=>if t.wh i=x then n else 0) h]
theorem yzz {t:Tn} {d:List Int} {n:Int} (h:d.length<t.m) (x:Nat):give t (d++[n]) x=give t d x+if t.ww d.length=x then n else 0:=by
  unfold give
  rw [xhw (g:=fun i=>(if t.ww i=x then dv d i else 0)+if d.length=i then (if t.ww i=x then n else 0) else 0) fun i _=>by
    rw [zhj];(repeat' split) <;> omega,xyj,zdx (fun i=>if t.ww i=x then n else 0) h]
def most (t:Tn) (d:List Int):Int:=min (t.hv (t.wh d.length)-draw t d (t.wh d.length)) (t.wv (t.ww d.length)-give t d (t.ww d.length))
theorem Pre.next {t:Tn} {d:List Int} (D:Pre t d) (h:d.length<t.m) {n:Int} (h0:0≤n) (h1:n≤most t d):Pre t (d++[n]):=by
  unfold most at h1
  refine ⟨by simp;omega,fun i hi=>?_,fun x hx=>?_,fun x hx=>?_⟩
  · rw [zhj];have:=D.pos i hi;split <;> omega
  · rw [zbq h];have:=D.hs x hx
    by_cases e:t.wh d.length=x
    · rw [if_pos e];rw [e] at h1;omega
    · rw [if_neg e];omega
  · rw [yzz h];have:=D.ws x hx
    by_cases e:t.ww d.length=x
    · rw [if_pos e];rw [e] at h1;omega
    · rw [if_neg e];omega
theorem Pre.back {t:Tn} {d:List Int} {n:Int} (O:Ok t) (h:d.length<t.m) (D:Pre t (d++[n])):Pre t d∧0≤n∧n≤most t d:=by
  have hn:0≤n:=by
    have:=D.pos d.length h
    rw [zhj,if_pos rfl,ysz (Nat.le_refl _)] at this;omega
  have hy:=O.y d.length h
  refine ⟨⟨by omega,fun i hi=>?_,fun x hx=>?_,fun x hx=>?_⟩,hn,?_⟩
  · by_cases c:d.length≤i
    · rw [ysz c];exact Int.le_refl _
    · have:=D.pos i hi;rw [zhj,if_neg (by omega)] at this;omega
  · have:=D.hs x hx;rw [zbq h] at this;split at this <;> omega
  · have:=D.ws x hx;rw [yzz h] at this;split at this <;> omega
  · have a:=D.hs _ hy.1
    have b:=D.ws _ hy.2
    rw [zbq h,if_pos rfl] at a
    rw [yzz h,if_pos rfl] at b
    unfold most;omega
def divs (t:Tn):Nat→List Int→List (List Int)
  | 0,d=>[d]
  | f+1,d=>(List.range (most t d+1).toNat).flatMap fun n:Nat=>divs t f (d++[(n:Int)])
theorem wwq {t:Tn} (O:Ok t): ∀ {r d:List Int},Pre t (d++r)→Pre t d
  | [],d,D=>by rwa [List.append_nil] at D
  | x::r,d,D=>by
    rw [show d++x::r=(d++[x])++r by simp] at D
    have D':=wwq O (r:=r) D
    have:=D'.len
    simp only [List.length_append,List.length_cons,List.length_nil] at this
    exact (Pre.back O (by omega) D').1
theorem yyv {t:Tn} (O:Ok t): ∀ {f:Nat} {d l:List Int},Pre t d→d.length+f=t.m→(l∈divs t f d↔Div t l∧ ∃ r,l=d++r)
  | 0,d,l,D,h=>by
    rw [divs,List.mem_singleton]
    constructor
    · rintro rfl;exact ⟨D.div (by omega),[],by simp⟩
    · rintro ⟨L,r,rfl⟩
      have:=L.len
      simp only [List.length_append] at this
      obtain rfl:r=[]:=List.length_eq_zero_iff.1 (by omega)
      simp
  | f+1,d,l,D,h=>by
    rw [divs]
    simp only [List.mem_flatMap,List.mem_range]
    constructor
    · rintro ⟨n,hn,hl⟩
      have D':=D.next (by omega) (n:=n) (by omega) (by omega)
      obtain ⟨L,r,rfl⟩:=(yyv O D' (by simp;omega)).1 hl
      exact ⟨L,n::r,by simp⟩
    · rintro ⟨L,r,rfl⟩
      cases r with
      | nil=>have:=L.len;simp at this;omega
      | cons n r=>
        have e:d++n::r=(d++[n])++r:=by simp
        rw [e] at L ⊢
        have P:Pre t (d++[n]):=wwq O (r:=r) ⟨Nat.le_of_eq L.len,L.pos,L.hs,L.ws⟩
        obtain ⟨_,n0,n1⟩:=Pre.back O (by omega) P
        refine ⟨n.toNat,by omega,?_⟩
        rw [show ((n.toNat:Nat):Int)=n by omega]
        exact (yyv O P (by simp;omega)).2 ⟨L,r,rfl⟩
theorem Pre.nil {t:Tn} (O:Ok t):Pre t []:=by
  have dr: ∀ h,draw t [] h=0:=fun h=>(xhw (g:=fun _=>0) fun i _=>by rw [ysz (Nat.zero_le _)];split <;> rfl).trans (xtk _)
  have gv: ∀ h,give t [] h=0:=fun h=>(xhw (g:=fun _=>0) fun i _=>by rw [ysz (Nat.zero_le _)];split <;> rfl).trans (xtk _)
  exact ⟨Nat.zero_le _,fun i _=>by rw [ysz (Nat.zero_le _)];exact Int.le_refl _,fun h hh=>by rw [dr];exact (O.h h hh).1,fun x hx=>by rw [gv];exact (O.w x hx).1⟩
def allD (t:Tn):List (List Int):=divs t t.m []
theorem zlx {t:Tn} (O:Ok t) {l:List Int}:l∈allD t↔Div t l:=by
  unfold allD
  rw [yyv O (Pre.nil O) (by simp)]
  exact ⟨fun h=>h.1,fun h=>⟨h,l,rfl⟩⟩
def prodW (t:Tn):Nat→Nat→Nat
  | 0,_=>1
  | f+1,k=>(min (t.hv (t.wh k)) (t.wv (t.ww k))+1).toNat*prodW t f (k+1)
theorem ynv {t:Tn} (O:Ok t): ∀ {f:Nat} {d:List Int},Pre t d→d.length+f=t.m→(divs t f d).length≤prodW t f d.length
  | 0,d,_,_=>by simp [divs,prodW]
  | f+1,d,D,h=>by
    have g1:0≤draw t d (t.wh d.length):=xsk fun i hi=>by split;exact D.pos i hi;exact Int.le_refl _
    have g2:0≤give t d (t.ww d.length):=xsk fun i hi=>by split;exact D.pos i hi;exact Int.le_refl _
    have hm:(most t d+1).toNat≤(min (t.hv (t.wh d.length)) (t.wv (t.ww d.length))+1).toNat:=by unfold most;omega
    have key: ∀ k,k≤(most t d+1).toNat→((List.range k).flatMap fun n:Nat=>divs t f (d++[(n:Int)])).length≤k*prodW t f (d.length+1):=fun k=>by
      induction k with
      | zero=>simp
      | succ k ih=>
        intro hk
        rw [List.range_succ,List.flatMap_append,List.length_append,Nat.add_mul,Nat.one_mul]
        have a:=ih (by omega)
        have b:=ynv O (D.next (by omega) (n:=k) (by omega) (by omega)) (f:=f) (by simp;omega)
        simp only [List.flatMap_cons,List.flatMap_nil,List.append_nil,List.length_append,List.length_cons,List.length_nil,Nat.zero_add] at b ⊢
        omega
    rw [divs,prodW]
    exact Nat.le_trans (key _ (Nat.le_refl _)) (Nat.mul_le_mul_right _ hm)

def bestL (t:Tn):List (List Int)→List Int→List Int
  | [],b=>b
  | d::l,b=>bestL t l (if earlier (lacks t d) b then lacks t d else b)
end Go.X.Flow
namespace Go.X.Flow
open Go.X

theorem yjj {t:Tn} (O:Ok t) {d d':List Int} (D:Div t d) (h:earlier (lacks t d) (lacks t d')=true):val (lacks t d)+1000≤val (lacks t d'):=
  yej (ywk _) (zgq D) (by rw [xmj,xmj]) (by rw [xmj];exact O.nh) h
theorem zkw {t:Tn} (O:Ok t) {d d':List Int} (D':Div t d') (h:earlier (lacks t d) (lacks t d')=false):val (lacks t d')≤val (lacks t d):=by
  rcases xwv (a:=lacks t d) (b:=lacks t d') (by rw [xmj,xmj]) with e | e | e
  · rw [e];exact Int.le_refl _
  · rw [e] at h;cases h
  · have:=yjj O D' e;omega
theorem ykq {t:Tn} (O:Ok t): ∀ {L:List (List Int)} {b:List Int},(∀ d∈L,Div t d)→(∃ d,Div t d∧b=lacks t d)→
    (∃ d,Div t d∧bestL t L b=lacks t d)∧val (bestL t L b)≤val b∧ ∀ d∈L,val (bestL t L b)≤val (lacks t d)
  | [],b,_,hb=>⟨hb,Int.le_refl _,fun d h=>absurd h (by simp)⟩
  | d::L,b,hL,hb=>by
    have D:=hL d (List.mem_cons_self ..)
    have hL': ∀ e∈L,Div t e:=fun e he=>hL e (List.mem_cons_of_mem _ he)
    rw [bestL]
    cases c:earlier (lacks t d) b with
    | true=>
      obtain ⟨d',D',rfl⟩:=hb
      rw [if_pos rfl]
      obtain ⟨h1,h2,h3⟩:=ykq O hL' ⟨d,D,rfl⟩
      have:=yjj O D c
      exact ⟨h1,by omega,fun e he=>(List.mem_cons.1 he).elim (fun z=>z ▸ h2) (h3 e)⟩
    | false=>
      obtain ⟨d',D',rfl⟩:=hb
      rw [if_neg (by simp)]
      obtain ⟨h1,h2,h3⟩:=ykq O hL' ⟨d',D',rfl⟩
      have:=zkw O D' c
      exact ⟨h1,h2,fun e he=>(List.mem_cons.1 he).elim (fun z=>by subst z;omega) (h3 e)⟩
theorem www {t:Tn} (O:Ok t):fairP t none0∈allD t:=(zlx O).2 (xsz O xvv).div
theorem wkw {t:Tn} (O:Ok t) {d:List Int} (D:Div t d):bestL t (allD t) (lacks t d)=LK t:=by
  obtain ⟨⟨e,E,he⟩,_,h3⟩:=ykq O (fun d h=>(zlx O).1 h) ⟨d,D,rfl⟩
  have h:=h3 _ (www O)
  rw [he] at h ⊢
  rcases xwv (a:=lacks t e) (b:=LK t) (by rw [xmj];exact (xmj t _).symm) with z | z | z
  · exact z
  · rw [zuj O E] at z;cases z
  · have:=yjj O (xsz O xvv).div z;omega
def maxT (t:Tn):List (List Int)→Int→Int
  | [],b=>b
  | d::l,b=>maxT t l (max b (tot t d))
end Go.X.Flow
namespace Go.X.Flow
open Go.X

def inc (b:Bool):Int:=if b then 1 else 0
def wantX (t:Tn) (X:Nat→Bool):Int:=sm t.nH fun h=>t.hv h*inc (X h)
def touch (t:Tn) (X:Nat→Bool) (x:Nat):Bool:=(List.range t.m).any fun i=>t.ww i == x && X (t.wh i)
def reachX (t:Tn) (X:Nat→Bool):Int:=sm t.nW fun x=>t.wv x*inc (touch t X x)
theorem yfq {t X x}:touch t X x=true↔ ∃ i,i<t.m∧t.ww i=x∧X (t.wh i)=true:=by
  unfold touch;simp
def only (t:Tn) (X:Nat→Bool):Tn:=⟨(List.range t.nH).map fun h=>t.hv h*inc (X h),t.ws,t.wy⟩
end Go.X.Flow
namespace Go.X.Flow
open Go.X Go.X.Bf

def pour (t:Tn) (x:Nat):Tn:=⟨t.hs,t.ws.set x (t.wv x+1),t.wy⟩
theorem yyq (t x):(pour t x).nW=t.nW:=by simp [pour,Tn.nW]
theorem wex {t x y} (hx:x<t.nW):(pour t x).wv y=if x=y then t.wv x+1 else t.wv y:=ynq hx
theorem wzv {t x} (O:Ok t) (hx:x<t.nW) (h20:t.wv x≤20):Ok (pour t x):=
  ⟨O.nh,by rw [yyq];exact O.nw,O.nm,O.h,fun y hy=>by
    rw [yyq] at hy;rw [wex hx];have:=O.w y hy;have:=O.w x hx;split <;> omega,fun i hi=>by rw [yyq];exact O.y i hi⟩
end Go.X.Flow
namespace Go.X
open Go.Conc
section
variable {P:Program} {h:Heap} {h₀:Heap} {B₀:List Nat} {p:PHeap} {C A:Pcs}
theorem ziv {sT xT eT eX ty:TypeId} {w m n by':Nat} {a:Option Addr} {x z:Value} {es news:List (List Value)} {K:Value→Heap→Prop} (hT:P.underlying sT=some (.slice eT)) (hs:sizeT P eT=some w) (hz:zeroT P eT=some z) (hzs:z.cells.size=w) (hw0:0<w) (hw1:w≠1)
    (hby:bytesT P eT=some by') (hx:P.underlying xT=some (.slice eX)) (d:Sl p a n w es) (s:St h₀ B₀ p h C)
    (hlen: ∀ K:Nat→Heap→Prop,K m h→wpS P (Builtin.lenOf x) h K) (hsrc: ∀ K:Array Value→Heap→Prop,K news.flatten.toArray h→wpS P (Builtin.firstCells w m x) h K)
    (hm:news.length=m) (hm0:0<m) (hw: ∀ e∈news,e.length=w) (room:(n+m)*by'≤2 ^ 40) (hb2:0<by'∧by'≤2 ^ 20)
    (nx: ∀ v' X' h',OwnS eT w v' (es++news) X'→St h₀ B₀ p h' (X'++C)→K v' h'):wpS P (Builtin.append_ #[sT,xT] ty #[.slice a n n,x]) h K:=by
  obtain ⟨i,hi,hib⟩: ∃ i,P.info? eT=some i∧i.bytes=by':=by
    unfold bytesT at hby
    cases hi:P.info? eT with
    | none=>rw [hi] at hby;cases hby
    | some i=>rw [hi] at hby;exact ⟨i,rfl,by simpa using hby⟩
  have hn:=d.len
  have hwe:=d.wid
  have hnf:=xlw hw
  have hwall: ∀ e∈es++news,e.length=w:=fun e he=>(List.mem_append.1 he).elim (hwe e) (hw e)
  have hneed:n+m≤2 ^ 40:=Nat.le_trans (Nat.le_mul_of_pos_right _ hb2.1) room
  have hold:=(zjz (P:=P) (cap:=n) s hw0 d).cells
  unfold Builtin.append_
  simp only [List.getElem?_toArray,List.getElem?_cons_zero,List.getElem?_cons_succ]
  refine xbz (xgq hT ?_)
  simp only
  refine xbz (xmx hs ?_)
  refine xbz (xgq hx ?_)
  refine xbz (xlz (K:=fun zr h'=>zr=false∧h'=h) (xbv ⟨rfl,rfl⟩) fun zr h' ⟨ez,eh⟩=>?_)
  subst ez
  have eh:=eh.symm
  subst eh
  simp only [Bool.false_eq_true,if_false,Bool.not_false,if_true]
  refine xbz (hlen _ ?_)
  rw [if_neg (show ¬ n+m≤n by omega)]
  refine xbz (xoq hi ?_)
  rw [if_neg (by
    intro hh
    have:(IntKind.i64.max:Int)=9223372036854775807:=by decide
    rw [this] at hh
    omega)]
  refine xbz (xoq hi ?_)
  rw [hib,if_neg (by have:=wfj (by':=by') (by omega:n<n+m) room hb2.2;omega)]
  refine xbz ?_
  show wpS P (choose _) h _
  simp only [choose,wpS,Question.forced,Bool.false_eq_true,if_false,Question.cut]
  intro t
  generalize hnc:n+m+t % (2 ^ 63-(n+m))=nc
  have hnc':n+m≤nc:=by omega
  refine xbz (xoq hi ?_)
  refine xbz ?_
  have ask: ∀ (b:Nat) (K:Unit→Heap→Prop),K () h→wpS P (askRoom b) h K:=by
    intro b K hK
    unfold askRoom
    split
    · exact ⟨rfl,hK⟩
    · exact xbv hK
  refine ask _ _ ?_
  refine xbz (hold _ ?_)
  refine xbz (hsrc _ ?_)
  refine xbz (xpz hz ?_)
  refine xbz (xqk ?_)
  refine xbv (nx _ [(h.size,.cells (List.toArray (es.flatten++news.flatten++(Builtin.zeroCells z.cells (nc-(n+m))).toList)) eT (0,0))] _ ⟨hwall,.inr ⟨h.size,_,nc,(Builtin.zeroCells z.cells (nc-(n+m))).toList,?_,rfl,by simp,?_,fun e=>absurd e hw1⟩⟩ ?_)
  · simp [hm,hn]
  · simp only [List.length_append,xlw hwe,hnf,hm,hn,yaz,hzs]
    rw [← Nat.add_mul,← Nat.add_mul];congr 1;omega
  · have s1:=s.push (.cells (List.toArray (es.flatten++news.flatten++(Builtin.zeroCells z.cells (nc-(n+m))).toList)) eT (0,0))
    have e1:(List.toArray es.flatten++List.toArray news.flatten++Builtin.zeroCells z.cells (nc-(n+m)))=List.toArray (es.flatten++news.flatten++(Builtin.zeroCells z.cells (nc-(n+m))).toList):=by
      apply Array.ext';simp
    rw [e1];exact s1
theorem wmz (a:Addr) (w:Nat):a.add (0*w)=a:=by
  rw [Nat.zero_mul]
  cases a with
  | mk b off spot=>unfold Addr.add;cases spot <;> simp
theorem cutA0 (a:Option Addr) (c w:Nat):cutA a c 0 w=a:=by
  unfold cutA
  split
  · rfl
  · cases a with
    | none=>rfl
    | some a=>simp only [Option.map_some,wmz]
theorem yvx {tm:List Value} {d:Option Tmp} {ty:TypeId} {pos:String} {aft:Array Edge} {gd:Option (Nat × Bool)} {t e:TypeId} {x y z:Operand} {w n c:Nat} {k k':IntKind} {a:Option Addr} (ht:P.underlying t=some (.slice e)) (hs:sizeT P e=some w) (hx:evl tm x= .slice a n c)
    (hy:evl tm y= .int k ((n:Nat):Int)) (hz:evl tm z= .int k' ((n:Nat):Int)) (h2:n≤c):Exd P tm ⟨d,.slice t x none (some y) (some z),ty,pos,aft,gd⟩ h (.slice a n n):=by
  refine xwj (s:=Instr.sliceAt t (.slice a n c) none (some (.int k ((n:Nat):Int))) (some (.int k' ((n:Nat):Int)))) (by simp only [execOp,hx,hy,hz,Option.map_none,Option.map_some]) ?_
  unfold Instr.sliceAt
  refine xbz (xgq ht ?_)
  simp only
  unfold Instr.slice
  refine xbz (xgq ht ?_)
  simp only
  refine xbz (xlz (K:=fun q h'=>q=(0,n,n)∧h'=h) ?_ fun q h' ⟨eq,eh⟩=>?_)
  · unfold Instr.sliceBounds
    refine xbz (xpv (Int.natCast_nonneg _) (by omega) ?_)
    rw [Int.toNat_natCast]
    simp only
    refine xbz (xpv (Int.natCast_nonneg _) (by omega) ?_)
    rw [Int.toNat_natCast]
    exact xbz (xbv (xbv ⟨rfl,rfl⟩))
  · subst eq;subst eh
    simp only
    refine xbz (xmx hs ?_)
    refine xbv ⟨?_,rfl⟩
    have:=cutA0 a n w
    unfold cutA at this
    rw [this,Nat.sub_zero]
end
section
variable {P:Program} {md:Md} {ops:List Oper} {tm':List Value} {h₀:Heap} {B₀:List Nat} {p:PHeap} {A:Pcs} {ty:TypeId} {pos:String} {aft:Array Edge} {gd:Option (Nat × Bool)}
variable {md':Md} {f:FuncId} {r:Rd} {df:List Deferred} {k:List Item} {cs:List Frame} {Stop:Goroutine→Heap→Prop} {rest:List Oper} {C:Pcs}
theorem ytj {dd:Nat} {sT xT eT eX:TypeId} {w n by':Nat} {a:Option Addr} {xo yo:Operand} {x z:Value} {es news:List (List Value)} (A Y:Pcs) (hm:Met ops tm' ⟨some dd,.call ⟨.builtin .append,#[xo,yo],#[sT,xT]⟩,ty,pos,aft,gd⟩ true)
    (hT:P.underlying sT=some (.slice eT)) (hs:sizeT P eT=some w) (hz:zeroT P eT=some z) (hzs:z.cells.size=w) (hby:bytesT P eT=some by') (hx:P.underlying xT=some (.slice eX)) (ev1:evl tm' xo= .slice a n n) (ev2:evl tm' yo=x)
    (d:Sl p a n w es) (hw0:0<w) (hw1:w≠1) (o2:OwnS eT w x news Y) (hm0:0<news.length) (room:(n+news.length)*by'≤2 ^ 40) (hb2:0<by'∧by'≤2 ^ 20)
    (nx: ∀ v X,OwnS eT w v (es++news) X→RL P md' f r df k cs Stop ops rest (tm'.set dd v) (fun h=>St h₀ B₀ p h (A++(X++C)))):
    RL P md' f r df k cs Stop ops (⟨some dd,.call ⟨.builtin .append,#[xo,yo],#[sT,xT]⟩,ty,pos,aft,gd⟩::rest) tm' (fun h=>St h₀ B₀ p h (A++(Y++C))):=by
  refine ydw (K:=fun v' h'=>∃ X,OwnS eT w v' (es++news) X∧St h₀ B₀ p h' (A++(X++C))) hm rfl (fun h s=>?_) fun v'=>xgz fun X=>xfq fun o'=>nx v' X o'
  have src:=ywv (P:=P) (L₁:=A) (L₂:=C) o2 s
  unfold Ex
  simp only [execOp,resolve]
  refine xbz (xbv ?_)
  simp only [invoke,builtin]
  refine xbz ?_
  have e:(#[xo,yo]:Array Operand).map (evl tm')=#[.slice a n n,x]:=by simp [ev1,ev2]
  rw [e]
  refine ziv hT hs hz hzs hw0 hw1 hby hx d s src.lenOf src.cells src.len hm0 src.wid room hb2 fun v' X' h' o' s'=>?_
  refine xbv ⟨v',rfl,X',o',?_⟩
  have h1:=s'.perm (List.perm_append_comm_assoc X' A (Y++C))
  exact h1.sub (List.Sublist.append_left (List.Sublist.append_left (List.sublist_append_right _ _) _) _)
end
end Go.X
namespace Go.X.Flow
open Go.X
def shq (g w:Nat) (x:FWay):Bool:=decide (x.2.toNat=w∧g / 2 ^ x.1.toNat &&& 1=1)
def wantG (t:Tn) (g k:Nat):Int:=sm k fun i=>t.hv ((LG g).getD i 0).toNat
def reachG (t:Tn) (g k:Nat):Int:=sm k fun w=>if 0≤idxA (shq g w) t.wy then t.wv w else 0
def shortN (t:Tn) (g:Nat):Int:=wantG t g (LG g).length-reachG t g t.nW
abbrev prec (l b:List Int):Prop:=orI [(l.length:Int)-(b.length:Int),cmpL l b]<0
def shortF (t:Tn):Nat→List Int
  | 0=>[]
  | k+1=>if 0<shortN t k∧(shortF t k=[]∨prec (LG k) (shortF t k)) then LG k else shortF t k
def shortP (t:Tn):List Int:=shortF t (2 ^ t.nH)
noncomputable def shortC (t:Tn):List Int:=if chkB t=0 then shortP t else []
noncomputable def shortE (t:Tn):Int:=if chkB t=0 then (if shortP t=[] then 3 else 0) else chkB t
theorem xyk {t} (h:chkB t=0):shortC t=shortP t:=if_pos h
theorem zdj {t} (h: ¬ chkB t=0):shortC t=[]:=if_neg h
theorem zdz {t} (h: ¬ chkB t=0):shortE t=chkB t:=if_neg h
theorem zpk {t} (h:chkB t=0) (h2:shortP t=[]):shortE t=3:=by rw [shortE,if_pos h,if_pos h2]
theorem yxq {t} (h:chkB t=0) (h2: ¬ shortP t=[]):shortE t=0:=by rw [shortE,if_pos h,if_neg h2]
theorem ybk {t k} (h:0<shortN t k) (h2:shortF t k=[]∨prec (LG k) (shortF t k)):shortF t (k+1)=LG k:=if_pos ⟨h,h2⟩
theorem ybv {t k} (h: ¬ 0<shortN t k):shortF t (k+1)=shortF t k:=if_neg fun e=>h e.1
theorem yik {t k} (h: ¬ shortF t k=[]) (h2: ¬ prec (LG k) (shortF t k)):shortF t (k+1)=shortF t k:=if_neg fun e=>e.2.elim h h2
theorem zox {t:Tn} (O:Ok t) {g:Nat} (hg:g<2 ^ t.nH) {k:Nat} (hk:k≤(LG g).length):0≤wantG t g k∧wantG t g k≤9*k:=by
  induction k with
  | zero=>simp [wantG,sm]
  | succ k ih=>
    have ih:=ih (by omega)
    have hb:=vjz O.nh hg k (by omega)
    have:=O.h ((LG g).getD k 0).toNat (by omega)
    have e:wantG t g (k+1)=wantG t g k+t.hv ((LG g).getD k 0).toNat:=rfl
    rw [e];omega
theorem zek {t:Tn} (O:Ok t) {g k:Nat} (hk:k≤t.nW):0≤reachG t g k∧reachG t g k≤21*k:=by
  induction k with
  | zero=>simp [reachG,sm]
  | succ k ih=>
    have ih:=ih (by omega)
    have:=O.w k (by omega)
    have e:reachG t g (k+1)=reachG t g k+(if 0≤idxA (shq g k) t.wy then t.wv k else 0):=rfl
    rw [e];split <;> omega
theorem ytk {t g k} (h:0≤idxA (shq g k) t.wy):reachG t g (k+1)=reachG t g k+t.wv k:=by
  have e:reachG t g (k+1)=reachG t g k+(if 0≤idxA (shq g k) t.wy then t.wv k else 0):=rfl
  rw [e,if_pos h]
theorem zej {t g k} (h: ¬ 0≤idxA (shq g k) t.wy):reachG t g (k+1)=reachG t g k:=by
  have e:reachG t g (k+1)=reachG t g k+(if 0≤idxA (shq g k) t.wy then t.wv k else 0):=rfl
  rw [e,if_neg h];omega
theorem zvx {t g k}:wantG t g (k+1)=wantG t g k+t.hv ((LG g).getD k 0).toNat:=rfl
theorem yaw {t:Tn} (O:Ok t) {g:Nat} (h:0<shortN t g):LG g≠[]:=fun e=>by
  have h1:wantG t g (LG g).length=0:=by rw [e];rfl
  have h2:=(zek O (g:=g) (Nat.le_refl t.nW)).1
  unfold shortN at h;omega
theorem ylq {t:Tn} (O:Ok t):2 ^ t.nH≤64:=by
  have h:t.nH≤6:=O.nh
  have:=Nat.pow_le_pow_right (show 0<2 by decide) h
  simpa using this
theorem zqj {t:Tn} {w:Nat} (V:Vd t) (h:t.m≤13) (hw:w<t.nW):OkT (pour t w):=
  { wzv (V.ok h) hw (by have:=V.w w hw;unfold Tn.wv;omega) with yp:=fun i hi=>⟨(V.y i hi).1.1,(V.y i hi).2.1.1⟩ }
def helpsB (t:Tn) (w:Nat):Bool:=decide (cmpL (LK (pour t w)) (LK t)<0)
def helpsF (t:Tn) (k:Nat):List Int:=((List.range k).filter (helpsB t)).map fun w=>((w:Nat):Int)
noncomputable def helpsC (t:Tn):List Int:=if chkB t=0 then helpsF t t.nW else []
theorem yuw {t k} (h:cmpL (LK (pour t k)) (LK t)<0):helpsF t (k+1)=helpsF t k++[((k:Nat):Int)]:=by
  rw [helpsF,List.range_succ,List.filter_append,List.map_append];simp [helpsF,helpsB,h]
theorem zgj {t k} (h: ¬ cmpL (LK (pour t k)) (LK t)<0):helpsF t (k+1)=helpsF t k:=by
  rw [helpsF,List.range_succ,List.filter_append,List.map_append];simp [helpsF,helpsB,h]
theorem yjz {t k}:(helpsF t k).length≤k:=by
  rw [helpsF,List.length_map]
  exact Nat.le_trans (List.length_filter_le _ _) (by simp)
theorem vjk {t:Tn} (O:OkT t) {i:Nat} (hi:i<t.m):0≤(t.wy.getD i wz).1∧(t.wy.getD i wz).1≤63∧0≤(t.wy.getD i wz).2:=by
  have h1:=O.yp i hi;have h2:=O.y i hi;have h3:=O.nh
  have e:t.wh i=(t.wy.getD i wz).1.toNat:=rfl
  exact ⟨h1.1,by omega,h1.2⟩
def wayM (t:Tn) (x:FWay):Tn:=⟨t.hs,t.ws,t.wy++[x]⟩
theorem wak (t x):(wayM t x).m=t.m+1:=by simp [wayM,Tn.m]
theorem yvk {t:Tn} {x:FWay} (O:OkT t) (h:t.m≤12) (h1:0≤x.1∧x.1.toNat<t.nH) (h2:0≤x.2∧x.2.toNat<t.nW):OkT (wayM t x):=by
  have e: ∀ i,i<t.m+1→(wayM t x).wy.getD i wz=if i<t.m then t.wy.getD i wz else x:=fun i hi=>by
    unfold wayM Tn.m at*
    simp only [List.getD_eq_getElem?_getD]
    split
    · rename_i h;rw [List.getElem?_append_left h]
    · rename_i h
      have:i=t.wy.length:=by omega
      subst this;simp
  have e0: ∀ i,(wayM t x).wy.getD i (0,0)=(wayM t x).wy.getD i wz:=fun _=>rfl
  refine { nh:=O.nh,nw:=O.nw,nm:=by rw [wak];omega,h:=O.h,w:=O.w,y:=fun i hi=>?_,yp:=fun i hi=>?_ }
  · rw [wak] at hi
    unfold Tn.wh Tn.ww
    rw [e0,e i hi]
    split
    · rename_i h;exact O.y i h
    · exact ⟨h1.2,h2.2⟩
  · rw [wak] at hi
    rw [e i hi]
    split
    · rename_i h;exact O.yp i h
    · exact ⟨h1.1,h2.1⟩
theorem whj {l:List Int} (h:ics l=[]):l=[]:=by
  cases l with
  | nil=>rfl
  | cons _ _=>simp [ics] at h
theorem yiv (t:Tn): ∀ k,k≤64→(shortF t k).length≤6
  | 0,_=>by simp [shortF]
  | k+1,h=>by
    rw [shortF];split
    · exact zuk k (by omega)
    · exact yiv t k (by omega)
noncomputable def wayA (t:Tn) (x y:Int):Int:=askB t (decide ((0≤x∧x≤(t.nH:Int)-1)∧(0≤y∧y≤(t.nW:Int)-1)))
noncomputable def wayE (t:Tn) (x y:Int):Int:=if wayA t x y=0 then (if ((x,y):FWay)∈t.wy then 3 else 0) else wayA t x y
noncomputable def wayB (t:Tn) (x y:Int):Bool:=decide (wayA t x y=0∧ ¬ ((x,y):FWay)∈t.wy∧cmpL (LK (wayM t (x,y))) (LK t)<0)
theorem yvv {t x y} (h: ¬ wayA t x y=0):wayE t x y=wayA t x y:=if_neg h
theorem znk {t x y} (h:wayA t x y=0) (h2:((x,y):FWay)∈t.wy):wayE t x y=3:=by rw [wayE,if_pos h,if_pos h2]
theorem zbv {t x y} (h:wayA t x y=0) (h2: ¬ ((x,y):FWay)∈t.wy):wayE t x y=0:=by rw [wayE,if_pos h,if_neg h2]
theorem yvw {t x y} (h: ¬ wayA t x y=0):wayB t x y=false:=decide_eq_false fun e=>h e.1
theorem znv {t x y} (h2:((x,y):FWay)∈t.wy):wayB t x y=false:=decide_eq_false fun e=>e.2.1 h2
theorem znw {t x y} (h:wayA t x y=0) (h2: ¬ ((x,y):FWay)∈t.wy):wayB t x y=decide (cmpL (LK (wayM t (x,y))) (LK t)<0):=by
  unfold wayB;rw [Bool.eq_iff_iff];simp [h,h2]
theorem yov {t:Tn} {x y:Int} (h:0≤x∧x≤(t.nH:Int)-1):wayA t x y=askB t (decide (0≤y∧y≤(t.nW:Int)-1)):=by unfold wayA;simp [h]
theorem zoq {t:Tn} {x y:Int} (h: ¬ (0≤x∧x≤(t.nH:Int)-1)):wayA t x y=askB t false:=by unfold wayA;simp [h]
theorem yow {t:Tn} {x y:Int} (h:wayA t x y=0):chkB t=0∧(0≤x∧x≤(t.nH:Int)-1)∧(0≤y∧y≤(t.nW:Int)-1):=by
  have:=wlv h;exact ⟨this.1,of_decide_eq_true this.2⟩
theorem vaw {xs:List FWay} {x:FWay}:0≤idxA (fun z=>decide (z=x)) xs↔x∈xs:=by
  rw [ygz];constructor
  · rintro ⟨z,hz,e⟩;obtain rfl:=of_decide_eq_true e;exact hz
  · exact fun h=>⟨x,h,decide_eq_true rfl⟩
end Go.X.Flow
namespace Go.X.Flow
open Go.X
def exB:Tn:=⟨[5,4,3],[4,3],[(0,0),(1,0),(1,1),(2,1)]⟩
def exC:Tn:=⟨[2,3],[5,0],[(0,0),(1,1)]⟩
def exD:Tn:=⟨[1],[1,1],[(0,0),(0,1)]⟩
theorem vdB:Vd exB:=⟨by decide,by decide,by decide,by decide,by unfold YOk;decide⟩
theorem vdC:Vd exC:=⟨by decide,by decide,by decide,by decide,by unfold YOk;decide⟩
theorem vdD:Vd exD:=⟨by decide,by decide,by decide,by decide,by unfold YOk;decide⟩
theorem yhw:chkB exB=0:=xow (by decide) vdB
theorem wkz:chkB exC=0:=xow (by decide) vdC
theorem viq:chkB exD=0:=xow (by decide) vdD
theorem vkq:LK exB=[2,2,1]:=by decide +kernel
theorem vaj:mostV exB=7:=by decide +kernel
theorem vbz:drawV exB 0 (-1)=3:=by decide +kernel
theorem vbx:drawV exB 0 1=4:=by decide +kernel
theorem wvv:shortP exC=[1]:=by decide +kernel
theorem vdk:cmpL (LK (wayM exC (1,0))) (LK exC)<0:=by decide +kernel
theorem vhv:dryV exD 0=3:=by decide +kernel
end Go.X.Flow
namespace Go.X.Flow
open Go.X
abbrev Big (t:Tn):Prop:=40<t.nH∨40<t.nW∨40<t.m
def fac (t:Tn) (i:Nat):Int:=min (t.hv (t.wh i)) (t.wv (t.ww i))+1
def prodK (t:Tn):Nat→Int
  | 0=>1
  | k+1=>prodK t k*fac t k
noncomputable def farB (t:Tn):Bool:=decide (Big t∨(chkB t=0∧2000<prodK t t.m))
theorem wiw {t:Tn} (O:Ok t) {i:Nat} (hi:i<t.m):1≤fac t i∧fac t i≤10:=by
  have h1:=O.y i hi;have h2:=O.h _ h1.1;have h3:=O.w _ h1.2
  unfold fac;omega
theorem yqz {t:Tn} (O:Ok t): ∀ k,k≤t.m→1≤prodK t k
  | 0,_=>by simp [prodK]
  | k+1,h=>by
    have h1:=yqz O k (by omega);have h2:=wiw O (show k<t.m by omega)
    have:=Int.mul_le_mul h1 h2.1 (by decide) (by omega)
    rw [prodK];omega
theorem zxj {t:Tn} (O:Ok t) {k:Nat} (hk:k≤t.m):prodK t k≤prodK t t.m:=by
  obtain ⟨j,hj⟩:=Nat.exists_eq_add_of_le hk
  have: ∀ j,k+j≤t.m→prodK t k≤prodK t (k+j):=by
    intro j
    induction j with
    | zero=>intro _;exact Int.le_refl _
    | succ j ih=>
      intro h
      have h1:=ih (by omega);have h2:=wiw O (show k+j<t.m by omega);have h3:=yqz O (k+j) (by omega)
      have h4:prodK t (k+(j+1))=prodK t (k+j)*fac t (k+j):=rfl
      have h5:=Int.mul_le_mul (Int.le_refl (prodK t (k+j))) h2.1 (by decide) (by omega)
      rw [h4];omega
  rw [hj];exact this j (by omega)
theorem ztx {t} (h:Big t):farB t=true:=decide_eq_true (.inl h)
theorem wrw {t} (h: ¬ Big t) (h2: ¬ chkB t=0):farB t=false:=decide_eq_false fun e=>e.elim h fun e=>h2 e.1
theorem wrv {t} (O:Ok t) (h2:chkB t=0) {k:Nat} (hk:k≤t.m) (h:2000<prodK t k):farB t=true:=decide_eq_true (.inr ⟨h2,by have:=zxj O hk;omega⟩)
theorem wik {t} (h: ¬ Big t) (h2: ¬ 2000<prodK t t.m):farB t=false:=decide_eq_false fun e=>e.elim h fun e=>h2 e.2
theorem vax {t} (h:farB t=false): ¬ Big t:=fun e=>by rw [ztx e] at h;cases h
noncomputable def readyB (t:Tn):Bool:=decide (farB t=false∧chkB t=0)
end Go.X.Flow
namespace Go.X
open Go.Conc

abbrev zq1 {a:Value} (l:List Value):List Value:=a::l
abbrev zq2 {a b:Value} (l:List Value):List Value:=a::b::l
abbrev zq4 {a b c d:Value} (l:List Value):List Value:=a::b::c::d::l
abbrev zq8 {a b c d e f g h:Value} (l:List Value):List Value:=a::b::c::d::e::f::g::h::l
abbrev zq16 {a b c d e f g h i j k m n o p q:Value} (l:List Value):List Value:=a::b::c::d::e::f::g::h::i::j::k::m::n::o::p::q::l
abbrev zq32 {a b c d e f g h i j k m n o p q a' b' c' d' e' f' g' h' i' j' k' m' n' o' p' q':Value} (l:List Value):List Value:=
  a::b::c::d::e::f::g::h::i::j::k::m::n::o::p::q::a'::b'::c'::d'::e'::f'::g'::h'::i'::j'::k'::m'::n'::o'::p'::q'::l
abbrev zu4 (l:List Value):List Value:=undef::undef::undef::undef::l
abbrev zu8 (l:List Value):List Value:=undef::undef::undef::undef::undef::undef::undef::undef::l
abbrev zu16 (l:List Value):List Value:=undef::undef::undef::undef::undef::undef::undef::undef::undef::undef::undef::undef::undef::undef::undef::undef::l

theorem mn {ops:List Oper} {tm:List Value} {o:Oper} (h:o.guard=none:=by rfl):Met ops tm o true:=xzj h
theorem ms {ops:List Oper} {tm:List Value} {o:Oper} {j:Nat} {want b:Bool} (h:o.guard=some (j,want)) (hy:yieldl ops tm j=some b) (hb:b=want):Met ops tm o true:=wqq h hy hb
theorem mo {ops:List Oper} {tm:List Value} {o:Oper} {j:Nat} {want b:Bool} (h:o.guard=some (j,want)) (hy:yieldl ops tm j=some b) (hb:b= !want):Met ops tm o false:=vav h hy hb
theorem dtt {p:Prop} [i:Decidable p] (h:p):decide p=true:=decide_eq_true h
theorem dff {p:Prop} [i:Decidable p] (h: ¬ p):decide p=false:=decide_eq_false h
section
variable {P:Program} {md:Md} {Φ Base:Heap→Prop} {ops full rest:List Oper} {f:FuncId} {r:Rd} {df:List Deferred} {k:List Item} {cs:List Frame} {Stop:Goroutine→Heap→Prop} {tm tm':List Value} {o:Oper} {v:Value}
theorem rd [Stb Φ] (hx: ∀ h,Φ h→Exd P tm o h v) (n:RL P md f r df k cs Stop ops rest (putl tm o.dst v) Φ) (hm:o.guard=none:=by rfl) (hd:noDefer o.op=true:=by rfl):RL P md f r df k cs Stop ops (o::rest) tm Φ:=
  xbx (xzj hm) hx rfl n hd
theorem ro [Stb Φ] (hx: ∀ {h},Exd P tm o h v) (n:RL P md f r df k cs Stop ops rest (putl tm o.dst v) Φ) (hm:o.guard=none:=by rfl) (hd:noDefer o.op=true:=by rfl):RL P md f r df k cs Stop ops (o::rest) tm Φ:=
  xbx (xzj hm) (fun _ _=>hx) rfl n hd
theorem rt [Stb Φ] (hx: ∀ {h},Exd P tm o h v) (ht:putl tm o.dst v=tm') (n:RL P md f r df k cs Stop ops rest tm' Φ) (hm:o.guard=none:=by rfl) (hd:noDefer o.op=true:=by rfl):RL P md f r df k cs Stop ops (o::rest) tm Φ:=
  xbx (xzj hm) (fun _ _=>hx) ht n hd
theorem wd (hx: ∀ h,Base h→Exd P tm o h v) (n:SWR P md f r df k cs Stop Base ops full rest (putl tm o.dst v)) (hm:o.guard=none:=by rfl) (hd:noDefer o.op=true:=by rfl):SWR P md f r df k cs Stop Base ops full (o::rest) tm:=
  xbk (xzj hm) hx rfl n hd
theorem wo (hx: ∀ {h},Exd P tm o h v) (n:SWR P md f r df k cs Stop Base ops full rest (putl tm o.dst v)) (hm:o.guard=none:=by rfl) (hd:noDefer o.op=true:=by rfl):SWR P md f r df k cs Stop Base ops full (o::rest) tm:=
  xbk (xzj hm) (fun _ _=>hx) rfl n hd
theorem wt (hx: ∀ {h},Exd P tm o h v) (ht:putl tm o.dst v=tm') (n:SWR P md f r df k cs Stop Base ops full rest tm') (hm:o.guard=none:=by rfl) (hd:noDefer o.op=true:=by rfl):SWR P md f r df k cs Stop Base ops full (o::rest) tm:=
  xbk (xzj hm) (fun _ _=>hx) ht n hd
theorem rp [Stb Φ] (hm:Met ops tm o false) (n:RL P md f r df k cs Stop ops rest (putl tm o.dst undef) Φ):RL P md f r df k cs Stop ops (o::rest) tm Φ:=xfx hm rfl n
theorem wp (hm:Met ops tm o false) (n:SWR P md f r df k cs Stop Base ops full rest (putl tm o.dst undef)) (hd:noDefer o.op=true:=by rfl):SWR P md f r df k cs Stop Base ops full (o::rest) tm:=xex hm rfl n hd
theorem fsr [Stb Φ] {y:Code} {id:Nat} {l:List Oper} (x:RL P md f r df (.code y::k) cs Stop l l tm Φ):RS P md (G (FL f r tm df (.code (.seq (.region id l.toArray false) y)::k)) cs) Φ Stop:=xez (xbq x)
theorem ren [Stb Φ] {x y:Code} (z:RS P md (G (FL f r tm df (.code x:: .code y::k)) cs) Φ Stop):RL P md f r df (.code (.seq x y)::k) cs Stop ops [] tm Φ:=xak (xez z)
end
theorem St.pe {h₀:Heap} {B₀:List Nat} {p:PHeap} {h:Heap} {L:List (Nat × Obj)} (s:St h₀ B₀ p h L):Per p h:=fun b o e=>s.per b o e
end Go.X
namespace Go.Proofs.YtalfgojocdonhaaDoor
open Go.X

theorem xkk: Tryd.prog.follows .mixedOrders=true:=by kernel_rfl
theorem tA3:aggT Tryd.prog 3=some false:=by kernel_rfl
theorem tS3:sizeT Tryd.prog 3=some 1:=by kernel_rfl
theorem tZ3:zeroT Tryd.prog 3=some (.int .i64 0):=by kernel_rfl
theorem tA5:aggT Tryd.prog 5=some false:=by kernel_rfl
theorem tS5:sizeT Tryd.prog 5=some 1:=by kernel_rfl
theorem tA22:aggT Tryd.prog 22=some false:=by kernel_rfl
theorem tS22:sizeT Tryd.prog 22=some 1:=by kernel_rfl
theorem tZ22:zeroT Tryd.prog 22=some (.slice none 0 0):=by kernel_rfl
theorem tA23:aggT Tryd.prog 23=some false:=by kernel_rfl
theorem tS23:sizeT Tryd.prog 23=some 1:=by kernel_rfl
theorem tA25:aggT Tryd.prog 25=some true:=by kernel_rfl
theorem tS25:sizeT Tryd.prog 25=some 3:=by kernel_rfl
theorem tZ25:zeroT Tryd.prog 25=some (.agg #[.slice none 0 0,.slice none 0 0,.slice none 0 0]):=by kernel_rfl
theorem tP25:placesT Tryd.prog 25=some [(0,1),(1,1),(2,1)]:=by kernel_rfl
theorem xnx:fieldT Tryd.prog 25 0=some (0,1):=by kernel_rfl
theorem xnk:fieldT Tryd.prog 25 1=some (1,1):=by kernel_rfl
theorem xhj:fieldT Tryd.prog 25 2=some (2,1):=by kernel_rfl
theorem tA30:aggT Tryd.prog 30=some true:=by kernel_rfl
theorem tS30:sizeT Tryd.prog 30=some 2:=by kernel_rfl
theorem tZ30:zeroT Tryd.prog 30=some (.agg #[.int .i64 0,.int .i64 0]):=by kernel_rfl
theorem tP30:placesT Tryd.prog 30=some [(0,1),(1,1)]:=by kernel_rfl
theorem tA43:aggT Tryd.prog 43=some true:=by kernel_rfl
theorem tS43:sizeT Tryd.prog 43=some 2:=by kernel_rfl
theorem tZ43:zeroT Tryd.prog 43=some (.agg #[.int .i64 0,.int .i64 0]):=by kernel_rfl
theorem tP43:placesT Tryd.prog 43=some [(0,1),(1,1)]:=by kernel_rfl
theorem xoj:fieldT Tryd.prog 43 0=some (0,1):=by kernel_rfl
theorem xqv:fieldT Tryd.prog 43 1=some (1,1):=by kernel_rfl
theorem tA72:aggT Tryd.prog 72=some true:=by kernel_rfl
theorem tS72:sizeT Tryd.prog 72=some 3:=by kernel_rfl
theorem tZ72:zeroT Tryd.prog 72=some (.agg #[.int .i64 0,.int .i64 0,.int .i64 0]):=by kernel_rfl
theorem tP72:placesT Tryd.prog 72=some [(0,1),(1,1),(2,1)]:=by kernel_rfl
theorem zov:fieldT Tryd.prog 72 0=some (0,1):=by kernel_rfl
theorem wbx:fieldT Tryd.prog 72 1=some (1,1):=by kernel_rfl
theorem vdw:fieldT Tryd.prog 72 2=some (2,1):=by kernel_rfl
theorem tA79:aggT Tryd.prog 79=some false:=by kernel_rfl
theorem tA92:aggT Tryd.prog 92=some false:=by kernel_rfl
theorem tZ94:zeroT Tryd.prog 94=some (.agg #[.slice none 0 0,.slice none 0 0,.slice none 0 0,.int .i64 0,.int .i64 0,.int .i64 0,.slice none 0 0]):=by kernel_rfl
theorem tP94:placesT Tryd.prog 94=some [(0,3),(3,3),(6,1)]:=by kernel_rfl
theorem yaj:fieldT Tryd.prog 94 0=some (0,3):=by kernel_rfl
theorem ykw:fieldT Tryd.prog 94 1=some (3,3):=by kernel_rfl
theorem zok:fieldT Tryd.prog 94 2=some (6,1):=by kernel_rfl
theorem tA95:aggT Tryd.prog 95=some false:=by kernel_rfl
theorem tS95:sizeT Tryd.prog 95=some 1:=by kernel_rfl
theorem tZ95:zeroT Tryd.prog 95=some (.slice none 0 0):=by kernel_rfl
theorem tA99:aggT Tryd.prog 99=some true:=by kernel_rfl
theorem tS99:sizeT Tryd.prog 99=some 5:=by kernel_rfl
theorem tZ99:zeroT Tryd.prog 99=some (.agg #[.int .i64 0,.int .i64 0,.int .i64 0,.int .i64 0,.int .i64 0]):=by kernel_rfl
theorem tP99:placesT Tryd.prog 99=some [(0,1),(1,1),(2,1),(3,1),(4,1)]:=by kernel_rfl
theorem zcz:fieldT Tryd.prog 99 0=some (0,1):=by kernel_rfl
theorem zoj:fieldT Tryd.prog 99 1=some (1,1):=by kernel_rfl
theorem wvk:fieldT Tryd.prog 99 2=some (2,1):=by kernel_rfl
theorem wvj:fieldT Tryd.prog 99 3=some (3,1):=by kernel_rfl
theorem vdv:fieldT Tryd.prog 99 4=some (4,1):=by kernel_rfl
theorem tB3:bytesT Tryd.prog 3=some 8:=by kernel_rfl
theorem tB22:bytesT Tryd.prog 22=some 24:=by kernel_rfl
theorem tB43:bytesT Tryd.prog 43=some 16:=by kernel_rfl
theorem tB99:bytesT Tryd.prog 99=some 40:=by kernel_rfl
theorem fC15:callable Tryd.prog 15=true:=by kernel_rfl
theorem fC16:callable Tryd.prog 16=true:=by kernel_rfl
theorem fC17:callable Tryd.prog 17=true:=by kernel_rfl
theorem fC18:callable Tryd.prog 18=true:=by kernel_rfl
theorem fC20:callable Tryd.prog 20=true:=by kernel_rfl
theorem fC22:callable Tryd.prog 22=true:=by kernel_rfl
theorem fC25:callable Tryd.prog 25=true:=by kernel_rfl
theorem fC26:callable Tryd.prog 26=true:=by kernel_rfl
theorem fC27:callable Tryd.prog 27=true:=by kernel_rfl
theorem fC28:callable Tryd.prog 28=true:=by kernel_rfl
theorem fC29:callable Tryd.prog 29=true:=by kernel_rfl
theorem fC33:callable Tryd.prog 33=true:=by kernel_rfl
theorem fC34:callable Tryd.prog 34=true:=by kernel_rfl
theorem fC35:callable Tryd.prog 35=true:=by kernel_rfl
theorem fC39:callable Tryd.prog 39=true:=by kernel_rfl
theorem fC40:callable Tryd.prog 40=true:=by kernel_rfl
theorem fC43:callable Tryd.prog 43=true:=by kernel_rfl
theorem fC45:callable Tryd.prog 45=true:=by kernel_rfl
theorem fC46:callable Tryd.prog 46=true:=by kernel_rfl
theorem fC47:callable Tryd.prog 47=true:=by kernel_rfl
theorem fC48:callable Tryd.prog 48=true:=by kernel_rfl
theorem fC51:callable Tryd.prog 51=true:=by kernel_rfl
theorem fC52:callable Tryd.prog 52=true:=by kernel_rfl
theorem fC53:callable Tryd.prog 53=true:=by kernel_rfl
theorem fC54:callable Tryd.prog 54=true:=by kernel_rfl
theorem fC55:callable Tryd.prog 55=true:=by kernel_rfl
theorem fC56:callable Tryd.prog 56=true:=by kernel_rfl
theorem fC57:callable Tryd.prog 57=true:=by kernel_rfl
theorem fC58:callable Tryd.prog 58=true:=by kernel_rfl
theorem fC59:callable Tryd.prog 59=true:=by kernel_rfl
theorem fC60:callable Tryd.prog 60=true:=by kernel_rfl
theorem fC61:callable Tryd.prog 61=true:=by kernel_rfl
theorem fC62:callable Tryd.prog 62=true:=by kernel_rfl
theorem fC63:callable Tryd.prog 63=true:=by kernel_rfl
theorem fC64:callable Tryd.prog 64=true:=by kernel_rfl
theorem fC65:callable Tryd.prog 65=true:=by kernel_rfl
theorem fC66:callable Tryd.prog 66=true:=by kernel_rfl
theorem fC67:callable Tryd.prog 67=true:=by kernel_rfl
theorem fC68:callable Tryd.prog 68=true:=by kernel_rfl
theorem fC70:callable Tryd.prog 70=true:=by kernel_rfl
theorem fC71:callable Tryd.prog 71=true:=by kernel_rfl
theorem fC73:callable Tryd.prog 73=true:=by kernel_rfl
theorem fC74:callable Tryd.prog 74=true:=by kernel_rfl
theorem fC75:callable Tryd.prog 75=true:=by kernel_rfl
theorem fC76:callable Tryd.prog 76=true:=by kernel_rfl
theorem fC77:callable Tryd.prog 77=true:=by kernel_rfl
theorem fC78:callable Tryd.prog 78=true:=by kernel_rfl
theorem fC79:callable Tryd.prog 79=true:=by kernel_rfl
theorem fC80:callable Tryd.prog 80=true:=by kernel_rfl
theorem fC81:callable Tryd.prog 81=true:=by kernel_rfl
theorem fC82:callable Tryd.prog 82=true:=by kernel_rfl
theorem fC83:callable Tryd.prog 83=true:=by kernel_rfl
theorem fC84:callable Tryd.prog 84=true:=by kernel_rfl
theorem fC85:callable Tryd.prog 85=true:=by kernel_rfl
theorem fC86:callable Tryd.prog 86=true:=by kernel_rfl
theorem fC87:callable Tryd.prog 87=true:=by kernel_rfl
theorem fC88:callable Tryd.prog 88=true:=by kernel_rfl
theorem fC91:callable Tryd.prog 91=true:=by kernel_rfl
theorem fC92:callable Tryd.prog 92=true:=by kernel_rfl
theorem fC93:callable Tryd.prog 93=true:=by kernel_rfl
theorem fC94:callable Tryd.prog 94=true:=by kernel_rfl
theorem fC95:callable Tryd.prog 95=true:=by kernel_rfl
theorem fC96:callable Tryd.prog 96=true:=by kernel_rfl
theorem fC97:callable Tryd.prog 97=true:=by kernel_rfl
theorem fC98:callable Tryd.prog 98=true:=by kernel_rfl
theorem fC99:callable Tryd.prog 99=true:=by kernel_rfl
theorem fC100:callable Tryd.prog 100=true:=by kernel_rfl
theorem wsz:callable Tryd.prog 101=true:=by kernel_rfl
theorem fC102:callable Tryd.prog 102=true:=by kernel_rfl
theorem fC103:callable Tryd.prog 103=true:=by kernel_rfl
theorem fC104:callable Tryd.prog 104=true:=by kernel_rfl
theorem fC105:callable Tryd.prog 105=true:=by kernel_rfl
theorem fC106:callable Tryd.prog 106=true:=by kernel_rfl
theorem fC108:callable Tryd.prog 108=true:=by kernel_rfl
theorem fC109:callable Tryd.prog 109=true:=by kernel_rfl
theorem vhz:callable Tryd.prog 110=true:=by kernel_rfl
theorem fC111:callable Tryd.prog 111=true:=by kernel_rfl
theorem fC112:callable Tryd.prog 112=true:=by kernel_rfl
theorem zmx:callable Tryd.prog 113=true:=by kernel_rfl
theorem zhq:callable Tryd.prog 114=true:=by kernel_rfl
theorem fC115:callable Tryd.prog 115=true:=by kernel_rfl
theorem fC124:callable Tryd.prog 124=true:=by kernel_rfl
end Go.Proofs.YtalfgojocdonhaaDoor
namespace Go.X.Flow
open Go.X
structure OneF (t:Tn) (z:Int):Prop where
  a:0≤drawV t z (-1)
  b:drawV t z 1≤t.hs.getD z.toNat 0
  c:drawV t z (-1)≤drawI t (fairP t none0) (fairP t none0).length z
  d:drawI t (fairP t none0) (fairP t none0).length z≤drawV t z 1
  e:drawV t z 1≤drawV t z (-1)+1
  f:t.hs.getD z.toNat 0-drawV t z (-1)∈LK t
  g:t.hs.getD z.toNat 0-drawV t z 1∈LK t
  h:t.hs.getD z.toNat 0≤9
structure EachF (t:Tn) (d:List Int):Prop where
  a:earlier (lacks t d) (LK t)=false
  b:0<t.nH→worstV t≤(lacks t d).getD 0 0
  c:t.nH=0→worstV t=0
  e:sm d.length (dv d)≤mostV t
end Go.X.Flow
namespace Go.X
open Go.Conc

section
variable {P:Program} {h:Heap}

theorem xuq {t:TypeId} {cs:Array Value} {off:Nat} {v:Value} {K:Value→Heap→Prop} (ha:aggT P t=some false) (hv:cs[off]?=some v) (x:K v h):wpS P (part t cs off) h K:=by
  unfold part
  refine xbz (yoj ha ?_)
  rw [if_neg (by simp),hv]
  exact xbv x

theorem ydx {K:Program→Heap→Prop} (x:K P h):wpS P program h K:=by simp only [program,wpS];exact x

def EqOk (P:Program) (d:Nat) (xs ys:Array Value):List Field→Bool→Prop
  | [],r=>r=true
  | f :: fs, r => f.name ≠ "_" ∧ ∃ a b q, (∀ h (K : Value → Heap → Prop), K a h → wpS P (part f.type xs f.offset) h K) ∧ (∀ h (K : Value → Heap → Prop), K b h → wpS P (part f.type ys f.offset) h K) ∧
      (∀ h (K:Bool→Heap→Prop),K q h→wpS P (Op.equalIn d f.type a b) h K)∧(q=false∧r=false∨q=true∧EqOk P d xs ys fs r)

theorem ykk {d:Nat} {t:TypeId} {fs:Array Field} {xs ys:Array Value} {r:Bool} {K:Bool→Heap→Prop} (ht:P.underlying t=some (.struct fs)) (hp:P.stoodInHeld t=false) (e:EqOk P d xs ys fs.toList r) (k:K r h):
    wpS P (Op.equalIn (d+1) t (.agg xs) (.agg ys)) h K:=by
  simp only [Op.equalIn]
  refine xbz (xgq ht ?_)
  simp only
  refine xbz (ydx ?_)
  rw [if_neg (by rw [hp];simp)]
  rw [← Array.forIn_toList]
  generalize fs.toList=l at e
  refine xbz ?_
  induction l generalizing h with
  | nil=>
    rw [show r=true from e] at k
    simp only [List.forIn_nil]
    exact xbv (xbv k)
  | cons f l ih=>
    obtain ⟨hn,a,b,q,ha,hb,hq,hr⟩:=e
    simp only [List.forIn_cons]
    refine xbz ?_
    rw [if_pos hn]
    refine xbz (ha _ _ ?_)
    refine xbz (hb _ _ ?_)
    refine xbz (hq _ _ ?_)
    rcases hr with ⟨rfl,rfl⟩ | ⟨rfl,hr⟩
    · exact xbv (xbv (xbv k))
    · exact xbv (ih k hr)

theorem yek {d:Nat} {t:TypeId} {k:IntKind} {a b:Int} {K:Bool→Heap→Prop} (ht:P.underlying t=some (.int k)) (x:K (decide (a=b)) h):wpS P (Op.equalIn (d+1) t (.int k a) (.int k b)) h K:=by
  simp only [Op.equalIn]
  refine xbz (xgq ht ?_)
  simp only [if_true,ibeq]
  exact xbv x

variable {tm:List Value} {d:Option Tmp} {ty:TypeId} {pos:String} {aft:Array Edge} {gd:Option (Nat × Bool)}
theorem ysx {op:BinOp} {T:TypeId} {x y:Operand} {xs ys:Array Value} {K:Unit→Heap→Prop} (hg:P.eqGuardType P.depth T=false) (z:K () h):wpS P (eqGuard op T x y (.agg xs) (.agg ys)) h K:=by
  unfold eqGuard
  cases op <;> first | (rw [if_pos (by rfl)];exact xbv z) | (rw [if_neg (by decide)];refine xbz (ydx (xbz (ydx ?_)));rw [if_pos (by rw [hg];rfl)];exact xbv z)
theorem yrw {T T':TypeId} {x y:Operand} {xs ys:Array Value} {q:Bool} (hg:P.eqGuardType P.depth T=false) (e: ∀ h (K:Bool→Heap→Prop),K q h→wpS P (Op.equalIn (9999+1) T (.agg xs) (.agg ys)) h K) (hx:evl tm x= .agg xs) (hy:evl tm y= .agg ys):
    Exd P tm ⟨d,.binOp .eql T x y T',ty,pos,aft,gd⟩ h (.bool q):=by
  refine xrq hx hy (fun K z=>ysx hg z) ?_
  simp only [binOp,Op.equal,Op.maxDepth]
  refine xbz (e _ _ ?_)
  exact xbv ⟨rfl,rfl⟩
theorem zzx {T T':TypeId} {x y:Operand} {xs ys:Array Value} {q:Bool} (hg:P.eqGuardType P.depth T=false) (e: ∀ h (K:Bool→Heap→Prop),K q h→wpS P (Op.equalIn (9999+1) T (.agg xs) (.agg ys)) h K) (hx:evl tm x= .agg xs) (hy:evl tm y= .agg ys):
    Exd P tm ⟨d,.binOp .neq T x y T',ty,pos,aft,gd⟩ h (.bool (!q)):=by
  refine xrq hx hy (fun K z=>ysx hg z) ?_
  simp only [binOp,Op.equal,Op.maxDepth]
  refine xbz (e _ _ ?_)
  exact xbv ⟨rfl,rfl⟩
end
end Go.X
namespace Go.Proofs.YtalfgojocdonhaaDoor
open Go.X Go.X.Flow Go.Conc

set_option maxRecDepth 10000

theorem wxw (n:Nat) (a b c d:Int): ∀ h (K:Bool→Heap→Prop),K (decide (a=c∧b=d)) h→wpS Tryd.prog (Op.equalIn (n+2) 43 (.agg #[.int .i64 a,.int .i64 b]) (.agg #[.int .i64 c,.int .i64 d])) h K:=fun h K x=>by
  refine ykk Tryd.underlying43 (by kernel_rfl) (r:=decide (a=c∧b=d)) ?_ x
  refine ⟨by decide,_,_,decide (a=c),fun h K k=>xuq tA3 rfl k,fun h K k=>xuq tA3 rfl k,fun h K k=>yek Tryd.underlying3 k,?_⟩
  by_cases e:a=c
  · refine .inr ⟨decide_eq_true e,by decide,_,_,decide (b=d),fun h K k=>xuq tA3 rfl k,fun h K k=>xuq tA3 rfl k,fun h K k=>yek Tryd.underlying3 k,?_⟩
    by_cases e2:b=d
    · exact .inr ⟨decide_eq_true e2,decide_eq_true ⟨e,e2⟩⟩
    · exact .inl ⟨decide_eq_false e2,decide_eq_false fun x=>e2 x.2⟩
  · exact .inl ⟨decide_eq_false e,decide_eq_false fun x=>e x.1⟩

theorem vej (n:Nat) (a b c d:Int): ∀ h (K:Bool→Heap→Prop),K (decide (a=c∧b=d)) h→wpS Tryd.prog (Op.equalIn (n+2) 30 (.agg #[.int .i64 a,.int .i64 b]) (.agg #[.int .i64 c,.int .i64 d])) h K:=fun h K x=>by
  refine ykk Tryd.underlying30 (by kernel_rfl) (r:=decide (a=c∧b=d)) ?_ x
  refine ⟨by decide,_,_,decide (a=c),fun h K k=>xuq tA3 rfl k,fun h K k=>xuq tA3 rfl k,fun h K k=>yek Tryd.underlying3 k,?_⟩
  by_cases e:a=c
  · refine .inr ⟨decide_eq_true e,by decide,_,_,decide (b=d),fun h K k=>xuq tA3 rfl k,fun h K k=>xuq tA3 rfl k,fun h K k=>yek Tryd.underlying3 k,?_⟩
    by_cases e2:b=d
    · exact .inr ⟨decide_eq_true e2,decide_eq_true ⟨e,e2⟩⟩
    · exact .inl ⟨decide_eq_false e2,decide_eq_false fun x=>e2 x.2⟩
  · exact .inl ⟨decide_eq_false e,decide_eq_false fun x=>e x.1⟩

theorem gT43: Tryd.prog.eqGuardType Tryd.prog.depth 43=false:=by kernel_rfl
theorem gT30: Tryd.prog.eqGuardType Tryd.prog.depth 30=false:=by kernel_rfl
end Go.Proofs.YtalfgojocdonhaaDoor
namespace Go.Proofs.YtalfgojocdonhaaDoor
open Go.X Go.X.Flow Go.Conc
set_option maxRecDepth 10000
set_option synthInstance.maxSize 2000

theorem c61 (md:Md) (h:Heap) (n lo hi:Int):CallsX Tryd.prog md 61 #[.int .i64 (n),.int .i64 (lo),.int .i64 (hi)] h fun v h'=>v= .bool (decide (lo≤n∧n≤hi))∧Keep h h':=by
 refine xcx (Φ:=fun h_=>St h [] (fun _=>none) h_ []) Tryd.func61 rfl (tm:=zq1 (zq2 (zq4 (zq8 [])))) rfl ?_ (St.start h _ (fun _ _ e=>by cases e))
 intro c₀ cs Stop K
 refine fsr <| ro (xax (v:=.bool (false)) rfl) <| ren <| xbq <| ro (xaq (v:=.int .i64 (lo)) rfl) <| rt (xaq (v:=.int .i64 (n)) rfl) (tm':=zq1 (zq8 _)) rfl ?_
 refine ro (yez rfl rfl) <| ro (xaq (v:=.bool (decide (lo≤n))) rfl) ?_
 by_cases cc1:lo≤n
 ·
  refine xbx (ms rfl rfl (dtt cc1)) (fun h_ H_=>xaq (v:=.int .i64 (n)) rfl) (tm':=zq1 (zq2 (zq4 (zq8 [])))) rfl ?_
  refine xbx (ms rfl rfl (dtt cc1)) (fun h_ H_=>xaq (v:=.int .i64 (hi)) rfl) rfl ?_
  refine xbx (ms rfl rfl (dtt cc1)) (fun h_ H_=>yez rfl rfl) rfl ?_
  refine rt (xdz rfl (dtt cc1) (v:=.bool (decide (n≤hi))) rfl) (tm':=zq1 (zq2 (zq4 (zq8 [])))) rfl <| ro (xax (v:=.bool (decide (n≤hi))) rfl) <| xak ?_
  refine xdv Tryd.func61 rfl (vs:=[.bool (decide (n≤hi))]) (fun h_ H_=>⟨.bool (decide (n≤hi)),_,rfl,rfl,rfl⟩) (v:=.bool (decide (n≤hi))) rfl ?_
  exact fun h_ H_=>K _ _ ⟨by first | rfl | simp [*],H_.kept⟩
 ·
  refine rp (mo rfl rfl (dff cc1)) <| xfx (mo rfl rfl (dff cc1)) (tm':=zq1 (zq2 (zq4 (zq8 [])))) rfl <| rp (mo rfl rfl (dff cc1)) <| ro (xej rfl (dff cc1) (v:=.bool (false)) rfl) <| rt (xax (v:=.bool (false)) rfl) (tm':=zq1 (zq2 (zq4 _))) rfl <| xak ?_
  refine xdv Tryd.func61 rfl (vs:=[.bool (false)]) (fun h_ H_=>⟨.bool (false),_,rfl,rfl,rfl⟩) (v:=.bool (false)) rfl ?_
  exact fun h_ H_=>K _ _ ⟨by first | rfl | simp [*],H_.kept⟩
theorem c79 (md:Md) (h:Heap) (n lo hi:Int):CallsX Tryd.prog md 79 #[.int .i64 (n),.int .i64 (lo),.int .i64 (hi)] h fun v h'=>v= .bool (decide (lo≤n∧n≤hi))∧Keep h h':=by
 refine xcx (Φ:=fun h_=>St h [] (fun _=>none) h_ []) Tryd.func79 rfl (tm:=zq1 (zq2 (zq8 []))) rfl ?_ (St.start h _ (fun _ _ e=>by cases e))
 intro c₀ cs Stop K
 refine fsr <| ro (xax (v:=.bool (false)) rfl) <| ren <| xbq <| ro (xaq (v:=.int .i64 (n)) rfl) <| rt (xaq (v:=.int .i64 (lo)) rfl) (tm':=zq1 (zq2 (zq8 []))) rfl ?_
 refine ro (xaq (v:=.int .i64 (hi)) rfl) ?_
 refine xeq mn (first:=[]) (cap:=[]) rfl rfl fC61 (fun h_ H_=>c61 md _ (n) (lo) (hi)) rfl ?_
 refine rt (xax (v:=.bool (decide (lo≤n∧n≤hi))) rfl) (tm':=zq1 (zq2 (zq4 _))) rfl <| xak ?_
 refine xdv Tryd.func79 rfl (vs:=[.bool (decide (lo≤n∧n≤hi))]) (fun h_ H_=>⟨.bool (decide (lo≤n∧n≤hi)),_,rfl,rfl,rfl⟩) (v:=.bool (decide (lo≤n∧n≤hi))) rfl ?_
 exact fun h_ H_=>K _ _ ⟨by first | rfl | simp [*],H_.kept⟩
theorem c85 (md:Md) (h:Heap) (n lo hi:Int):CallsX Tryd.prog md 85 #[.int .i64 (n),.int .i64 (lo),.int .i64 (hi)] h fun v h'=>v= .bool (decide (lo≤n∧n≤hi))∧Keep h h':=by
 refine xcx (Φ:=fun h_=>St h [] (fun _=>none) h_ []) Tryd.func85 rfl (tm:=zq1 (zq2 (zq4 (zq8 [])))) rfl ?_ (St.start h _ (fun _ _ e=>by cases e))
 intro c₀ cs Stop K
 refine fsr <| ro (xax (v:=.bool (false)) rfl) <| ren <| xbq <| ro (xaq (v:=.int .i64 (lo)) rfl) <| rt (xaq (v:=.int .i64 (n)) rfl) (tm':=zq1 (zq8 _)) rfl ?_
 refine ro (yez rfl rfl) <| ro (xaq (v:=.bool (decide (lo≤n))) rfl) ?_
 by_cases cc1:lo≤n
 ·
  refine xbx (ms rfl rfl (dtt cc1)) (fun h_ H_=>xaq (v:=.int .i64 (n)) rfl) (tm':=zq1 (zq2 (zq4 (zq8 [])))) rfl ?_
  refine xbx (ms rfl rfl (dtt cc1)) (fun h_ H_=>xaq (v:=.int .i64 (hi)) rfl) rfl ?_
  refine xbx (ms rfl rfl (dtt cc1)) (fun h_ H_=>yez rfl rfl) rfl ?_
  refine rt (xdz rfl (dtt cc1) (v:=.bool (decide (n≤hi))) rfl) (tm':=zq1 (zq2 (zq4 (zq8 [])))) rfl <| ro (xax (v:=.bool (decide (n≤hi))) rfl) <| xak ?_
  refine xdv Tryd.func85 rfl (vs:=[.bool (decide (n≤hi))]) (fun h_ H_=>⟨.bool (decide (n≤hi)),_,rfl,rfl,rfl⟩) (v:=.bool (decide (n≤hi))) rfl ?_
  exact fun h_ H_=>K _ _ ⟨by first | rfl | simp [*],H_.kept⟩
 ·
  refine rp (mo rfl rfl (dff cc1)) <| xfx (mo rfl rfl (dff cc1)) (tm':=zq1 (zq2 (zq4 (zq8 [])))) rfl <| rp (mo rfl rfl (dff cc1)) <| ro (xej rfl (dff cc1) (v:=.bool (false)) rfl) <| rt (xax (v:=.bool (false)) rfl) (tm':=zq1 (zq2 (zq4 _))) rfl <| xak ?_
  refine xdv Tryd.func85 rfl (vs:=[.bool (false)]) (fun h_ H_=>⟨.bool (false),_,rfl,rfl,rfl⟩) (v:=.bool (false)) rfl ?_
  exact fun h_ H_=>K _ _ ⟨by first | rfl | simp [*],H_.kept⟩
theorem c33 (md:Md) (h:Heap) (p:PHeap) (hp:Per p h) (a1:Option Addr) (n1 c1:Nat) (a2:Option Addr) (n2 c2:Nat) (a3:Option Addr) (n3 c3:Nat) (t:Tn) (T:TownP p a1 n1 a2 n2 a3 n3 t) (hn:n1≤40∧n2≤40∧n3≤41) (x:Int):CallsX Tryd.prog md 33 #[.agg #[.slice a1 n1 c1,.slice a2 n2 c2,.slice a3 n3 c3],.int .i64 (x)] h fun v h'=>v= .bool (decide (0≤x∧x≤(t.nH:Int)-1))∧Keep h h':=by
 refine xcx (Φ:=fun h_=>St h [] p h_ []) Tryd.func33 rfl (tm:=zq1 (zq2 (zq8 []))) rfl ?_ (St.start h _ hp)
 intro c₀ cs Stop K
 have eH:=T.nH
 have eW:=T.nW
 have eM:=T.m
 refine fsr ?_
 refine xij mn (v:=.agg #[.slice a1 n1 c1,.slice a2 n2 c2,.slice a3 n3 c3]) rfl fun b1=>xcq (L':=[(b1,.cells #[.slice a1 n1 c1,.slice a2 n2 c2,.slice a3 n3 c3] 25 (0,0))]) rfl ?_
 refine ro (xax (v:=.bool (false)) rfl) <| ren <| xbq <| rt (xaq (v:=.int .i64 (x)) rfl) (tm':=zq2 (zq4 _)) rfl <| ro (xaz xnx rfl (a':=⟨b1,0,none⟩) rfl) <| rd (fun h_ H_=>xaj H_ tA22 rfl (i:=0) rfl (v:=.slice a1 n1 c1) rfl) ?_
 refine rt (xfz Tryd.underlying22 rfl) (tm':=zq1 (zq2 (zq8 []))) rfl ?_
 refine ro (xkj rfl rfl (wr (by omega))) ?_
 refine xeq mn (first:=[]) (cap:=[]) rfl rfl fC79 (fun h_ H_=>c79 md _ (x) (0) (((n1:Nat):Int)-1)) rfl ?_
 refine rt (xax (v:=.bool (decide (0≤x∧x≤((n1:Nat):Int)-1))) rfl) (tm':=zq1 (zq4 _)) rfl <| xak ?_
 refine xdv Tryd.func33 rfl (vs:=[.bool (decide (0≤x∧x≤((n1:Nat):Int)-1))]) (fun h_ H_=>⟨.bool (decide (0≤x∧x≤((n1:Nat):Int)-1)),_,rfl,rfl,rfl⟩) (v:=.bool (decide (0≤x∧x≤((n1:Nat):Int)-1))) rfl ?_
 exact fun h_ H_=>K _ _ ⟨by first | rfl | (rw [eH]) | (rw [eW]),H_.kept⟩
theorem c65 (md:Md) (h:Heap) (p:PHeap) (hp:Per p h) (a1:Option Addr) (n1 c1:Nat) (a2:Option Addr) (n2 c2:Nat) (a3:Option Addr) (n3 c3:Nat) (t:Tn) (T:TownP p a1 n1 a2 n2 a3 n3 t) (hn:n1≤40∧n2≤40∧n3≤41) (x:Int):CallsX Tryd.prog md 65 #[.agg #[.slice a1 n1 c1,.slice a2 n2 c2,.slice a3 n3 c3],.int .i64 (x)] h fun v h'=>v= .bool (decide (0≤x∧x≤(t.nH:Int)-1))∧Keep h h':=by
 refine xcx (Φ:=fun h_=>St h [] p h_ []) Tryd.func65 rfl (tm:=zq1 (zq2 (zq8 []))) rfl ?_ (St.start h _ hp)
 intro c₀ cs Stop K
 have eH:=T.nH
 have eW:=T.nW
 have eM:=T.m
 refine fsr ?_
 refine xij mn (v:=.agg #[.slice a1 n1 c1,.slice a2 n2 c2,.slice a3 n3 c3]) rfl fun b1=>xcq (L':=[(b1,.cells #[.slice a1 n1 c1,.slice a2 n2 c2,.slice a3 n3 c3] 25 (0,0))]) rfl ?_
 refine ro (xax (v:=.bool (false)) rfl) <| ren <| xbq <| rt (xaq (v:=.int .i64 (x)) rfl) (tm':=zq2 (zq4 _)) rfl <| ro (xaz xnx rfl (a':=⟨b1,0,none⟩) rfl) <| rd (fun h_ H_=>xaj H_ tA22 rfl (i:=0) rfl (v:=.slice a1 n1 c1) rfl) ?_
 refine rt (xfz Tryd.underlying22 rfl) (tm':=zq1 (zq2 (zq8 []))) rfl ?_
 refine ro (xkj rfl rfl (wr (by omega))) ?_
 refine xeq mn (first:=[]) (cap:=[]) rfl rfl fC85 (fun h_ H_=>c85 md _ (x) (0) (((n1:Nat):Int)-1)) rfl ?_
 refine rt (xax (v:=.bool (decide (0≤x∧x≤((n1:Nat):Int)-1))) rfl) (tm':=zq1 (zq4 _)) rfl <| xak ?_
 refine xdv Tryd.func65 rfl (vs:=[.bool (decide (0≤x∧x≤((n1:Nat):Int)-1))]) (fun h_ H_=>⟨.bool (decide (0≤x∧x≤((n1:Nat):Int)-1)),_,rfl,rfl,rfl⟩) (v:=.bool (decide (0≤x∧x≤((n1:Nat):Int)-1))) rfl ?_
 exact fun h_ H_=>K _ _ ⟨by first | rfl | (rw [eH]) | (rw [eW]),H_.kept⟩
theorem c57 (md:Md) (h:Heap) (p:PHeap) (hp:Per p h) (a1:Option Addr) (n1 c1:Nat) (a2:Option Addr) (n2 c2:Nat) (a3:Option Addr) (n3 c3:Nat) (t:Tn) (T:TownP p a1 n1 a2 n2 a3 n3 t) (hn:n1≤40∧n2≤40∧n3≤41) (x:Int):CallsX Tryd.prog md 57 #[.agg #[.slice a1 n1 c1,.slice a2 n2 c2,.slice a3 n3 c3],.int .i64 (x)] h fun v h'=>v= .bool (decide (0≤x∧x≤(t.nW:Int)-1))∧Keep h h':=by
 refine xcx (Φ:=fun h_=>St h [] p h_ []) Tryd.func57 rfl (tm:=zq1 (zq2 (zq8 []))) rfl ?_ (St.start h _ hp)
 intro c₀ cs Stop K
 have eH:=T.nH
 have eW:=T.nW
 have eM:=T.m
 refine fsr ?_
 refine xij mn (v:=.agg #[.slice a1 n1 c1,.slice a2 n2 c2,.slice a3 n3 c3]) rfl fun b1=>xcq (L':=[(b1,.cells #[.slice a1 n1 c1,.slice a2 n2 c2,.slice a3 n3 c3] 25 (0,0))]) rfl ?_
 refine ro (xax (v:=.bool (false)) rfl) <| ren <| xbq <| rt (xaq (v:=.int .i64 (x)) rfl) (tm':=zq2 (zq4 _)) rfl <| ro (xaz xnk rfl (a':=⟨b1,1,none⟩) rfl) <| rd (fun h_ H_=>xaj H_ tA22 rfl (i:=0) rfl (v:=.slice a2 n2 c2) rfl) ?_
 refine rt (xfz Tryd.underlying22 rfl) (tm':=zq1 (zq2 (zq8 []))) rfl ?_
 refine ro (xkj rfl rfl (wr (by omega))) ?_
 refine xeq mn (first:=[]) (cap:=[]) rfl rfl fC79 (fun h_ H_=>c79 md _ (x) (0) (((n2:Nat):Int)-1)) rfl ?_
 refine rt (xax (v:=.bool (decide (0≤x∧x≤((n2:Nat):Int)-1))) rfl) (tm':=zq1 (zq4 _)) rfl <| xak ?_
 refine xdv Tryd.func57 rfl (vs:=[.bool (decide (0≤x∧x≤((n2:Nat):Int)-1))]) (fun h_ H_=>⟨.bool (decide (0≤x∧x≤((n2:Nat):Int)-1)),_,rfl,rfl,rfl⟩) (v:=.bool (decide (0≤x∧x≤((n2:Nat):Int)-1))) rfl ?_
 exact fun h_ H_=>K _ _ ⟨by first | rfl | (rw [eH]) | (rw [eW]),H_.kept⟩
theorem c70 (md:Md) (h:Heap) (p:PHeap) (hp:Per p h) (a1:Option Addr) (n1 c1:Nat) (a2:Option Addr) (n2 c2:Nat) (a3:Option Addr) (n3 c3:Nat) (t:Tn) (T:TownP p a1 n1 a2 n2 a3 n3 t) (hn:n1≤40∧n2≤40∧n3≤41) (x:Int):CallsX Tryd.prog md 70 #[.agg #[.slice a1 n1 c1,.slice a2 n2 c2,.slice a3 n3 c3],.int .i64 (x)] h fun v h'=>v= .bool (decide (0≤x∧x≤(t.nW:Int)-1))∧Keep h h':=by
 refine xcx (Φ:=fun h_=>St h [] p h_ []) Tryd.func70 rfl (tm:=zq1 (zq2 (zq8 []))) rfl ?_ (St.start h _ hp)
 intro c₀ cs Stop K
 have eH:=T.nH
 have eW:=T.nW
 have eM:=T.m
 refine fsr ?_
 refine xij mn (v:=.agg #[.slice a1 n1 c1,.slice a2 n2 c2,.slice a3 n3 c3]) rfl fun b1=>xcq (L':=[(b1,.cells #[.slice a1 n1 c1,.slice a2 n2 c2,.slice a3 n3 c3] 25 (0,0))]) rfl ?_
 refine ro (xax (v:=.bool (false)) rfl) <| ren <| xbq <| rt (xaq (v:=.int .i64 (x)) rfl) (tm':=zq2 (zq4 _)) rfl <| ro (xaz xnk rfl (a':=⟨b1,1,none⟩) rfl) <| rd (fun h_ H_=>xaj H_ tA22 rfl (i:=0) rfl (v:=.slice a2 n2 c2) rfl) ?_
 refine rt (xfz Tryd.underlying22 rfl) (tm':=zq1 (zq2 (zq8 []))) rfl ?_
 refine ro (xkj rfl rfl (wr (by omega))) ?_
 refine xeq mn (first:=[]) (cap:=[]) rfl rfl fC85 (fun h_ H_=>c85 md _ (x) (0) (((n2:Nat):Int)-1)) rfl ?_
 refine rt (xax (v:=.bool (decide (0≤x∧x≤((n2:Nat):Int)-1))) rfl) (tm':=zq1 (zq4 _)) rfl <| xak ?_
 refine xdv Tryd.func70 rfl (vs:=[.bool (decide (0≤x∧x≤((n2:Nat):Int)-1))]) (fun h_ H_=>⟨.bool (decide (0≤x∧x≤((n2:Nat):Int)-1)),_,rfl,rfl,rfl⟩) (v:=.bool (decide (0≤x∧x≤((n2:Nat):Int)-1))) rfl ?_
 exact fun h_ H_=>K _ _ ⟨by first | rfl | (rw [eH]) | (rw [eW]),H_.kept⟩
theorem c77 (md:Md) (h:Heap) (a b c d:Int):CallsX Tryd.prog md 77 #[.agg #[.int .i64 (a),.int .i64 (b)],.agg #[.int .i64 (c),.int .i64 (d)]] h fun v h'=>v= .bool (decide (Bf (a,b) (c,d)))∧Keep h h':=by
 refine xcx (Φ:=fun h_=>St h [] (fun _=>none) h_ []) Tryd.func77 rfl (tm:=zq8 (zq16 [])) rfl ?_ (St.start h _ (fun _ _ e=>by cases e))
 intro c₀ cs Stop K
 refine fsr ?_
 refine xij mn (v:=.agg #[.int .i64 (a),.int .i64 (b)]) rfl fun b1=>xcq (L':=[(b1,.cells #[.int .i64 (a),.int .i64 (b)] 43 (0,0))]) rfl ?_
 refine xij mn (v:=.agg #[.int .i64 (c),.int .i64 (d)]) rfl fun b2=>xcq (L':=[(b2,.cells #[.int .i64 (c),.int .i64 (d)] 43 (0,0)),(b1,.cells #[.int .i64 (a),.int .i64 (b)] 43 (0,0))]) rfl ?_
 refine rt (xax (v:=.bool (false)) rfl) (tm':=zq1 (zq4 _)) rfl <| ren <| xbq <| ro (xaz xoj rfl (a':=⟨b1,0,none⟩) rfl) <| rd (fun h_ H_=>xaj H_ tA3 rfl (i:=1) rfl (v:=.int .i64 (a)) rfl) <| rt (xaz xoj rfl (a':=⟨b2,0,none⟩) rfl) (tm':=zq8 _) rfl ?_
 refine rd (fun h_ H_=>xaj H_ tA3 rfl (i:=0) rfl (v:=.int .i64 (c)) rfl) <| ro (xgj rfl rfl) <| rt (xaq (v:=.bool (decide (a<c))) rfl) (tm':=zq1 (zq2 (zq8 _))) rfl ?_
 by_cases cc3:a<c
 ·
  refine rp (mo rfl rfl (dtt cc3)) <| rp (mo rfl rfl (dtt cc3)) <| xfx (mo rfl rfl (dtt cc3)) (tm':=zq2 (zq4 (zq8 _))) rfl <| rp (mo rfl rfl (dtt cc3)) <| rp (mo rfl rfl (dtt cc3)) <| xfx (mo rfl rfl (dtt cc3)) (tm':=zq8 (zq16 [])) rfl ?_
  refine rp (xew rfl rfl) <| rp (xew rfl rfl) <| xfx (xew rfl rfl) (tm':=zq8 (zq16 [])) rfl <| rp (xew rfl rfl) <| rp (xew rfl rfl) <| xfx (mo rfl rfl (dtt cc3)) (tm':=zq8 (zq16 [])) rfl ?_
  refine ro (xdz rfl (dtt cc3) (v:=.bool (true)) rfl) <| ro (xax (v:=.bool (true)) rfl) <| xak ?_
  refine xdv Tryd.func77 rfl (vs:=[.bool (true)]) (fun h_ H_=>⟨.bool (true),_,rfl,rfl,rfl⟩) (v:=.bool (true)) rfl ?_
  exact fun h_ H_=>K _ _ ⟨by unfold Bf;first | rfl | (congr 1;simp [*]) | simp [*],H_.kept⟩
 ·
  refine xbx (ms rfl rfl (dff cc3)) (fun h_ H_=>xaz xoj rfl (a':=⟨b1,0,none⟩) rfl) (tm':=zq4 (zq8 _)) rfl ?_
  refine xbx (ms rfl rfl (dff cc3)) (fun h_ H_=>xaj H_ tA3 rfl (i:=1) rfl (v:=.int .i64 (a)) rfl) rfl ?_
  refine xbx (ms rfl rfl (dff cc3)) (fun h_ H_=>xaz xoj rfl (a':=⟨b2,0,none⟩) rfl) rfl ?_
  refine xbx (ms rfl rfl (dff cc3)) (fun h_ H_=>xaj H_ tA3 rfl (i:=0) rfl (v:=.int .i64 (c)) rfl) (tm':=zq1 (zq2 (zq4 (zq8 _)))) rfl ?_
  refine xbx (ms rfl rfl (dff cc3)) (fun h_ H_=>xkw rfl rfl) rfl ?_
  refine xbx (ms rfl rfl (dff cc3)) (fun h_ H_=>xaq (v:=.bool (decide (a=c))) rfl) rfl ?_
  by_cases cc4:a=c
  ·
   refine xbx (ms rfl rfl (dtt cc4)) (fun h_ H_=>xaz xqv rfl (a':=⟨b1,1,none⟩) rfl) (tm':=zq8 (zq16 [])) rfl ?_
   refine xbx (ms rfl rfl (dtt cc4)) (fun h_ H_=>xaj H_ tA3 rfl (i:=1) rfl (v:=.int .i64 (b)) rfl) rfl ?_
   refine xbx (ms rfl rfl (dtt cc4)) (fun h_ H_=>xaz xqv rfl (a':=⟨b2,1,none⟩) rfl) rfl ?_
   refine xbx (ms rfl rfl (dtt cc4)) (fun h_ H_=>xaj H_ tA3 rfl (i:=0) rfl (v:=.int .i64 (d)) rfl) (tm':=zq8 (zq16 [])) rfl ?_
   refine xbx (ms rfl rfl (dtt cc4)) (fun h_ H_=>xgj rfl rfl) rfl ?_
   refine xbx (ms rfl rfl (dff cc3)) (fun h_ H_=>xdz rfl (dtt cc4) (v:=.bool (decide (b<d))) rfl) rfl ?_
   refine rt (xej rfl (dff cc3) (v:=.bool (decide (b<d))) rfl) (tm':=zq8 (zq16 [])) rfl <| ro (xax (v:=.bool (decide (b<d))) rfl) <| xak ?_
   refine xdv Tryd.func77 rfl (vs:=[.bool (decide (b<d))]) (fun h_ H_=>⟨.bool (decide (b<d)),_,rfl,rfl,rfl⟩) (v:=.bool (decide (b<d))) rfl ?_
   exact fun h_ H_=>K _ _ ⟨by unfold Bf;first | rfl | (congr 1;simp [*]) | simp [*],H_.kept⟩
  ·
   refine rp (mo rfl rfl (dff cc4)) <| xfx (mo rfl rfl (dff cc4)) (tm':=zq8 (zq16 [])) rfl <| rp (mo rfl rfl (dff cc4)) <| rp (mo rfl rfl (dff cc4)) <| xfx (mo rfl rfl (dff cc4)) (tm':=zq8 (zq16 [])) rfl ?_
   refine xbx (ms rfl rfl (dff cc3)) (fun h_ H_=>xej rfl (dff cc4) (v:=.bool (false)) rfl) rfl ?_
   refine ro (xej rfl (dff cc3) (v:=.bool (false)) rfl) <| rt (xax (v:=.bool (false)) rfl) (tm':=zq1 (zq4 _)) rfl <| xak ?_
   refine xdv Tryd.func77 rfl (vs:=[.bool (false)]) (fun h_ H_=>⟨.bool (false),_,rfl,rfl,rfl⟩) (v:=.bool (false)) rfl ?_
   exact fun h_ H_=>K _ _ ⟨by unfold Bf;first | rfl | (congr 1;simp [*]) | simp [*],H_.kept⟩
theorem c110 (md:Md) (h:Heap) (x:Int):CallsX Tryd.prog md 110 #[.int .i64 (x)] h fun v h'=>v= .bool false∧Keep h h':=by
 refine xcx (Φ:=fun h_=>St h [] (fun _=>none) h_ []) Tryd.func110 rfl (tm:=zq2 (zq4 [])) rfl ?_ (St.start h _ (fun _ _ e=>by cases e))
 intro c₀ cs Stop K
 refine fsr <| ro (xax (v:=.bool (false)) rfl) <| ren <| xbq <| ro (xaq (v:=.int .i64 (x)) rfl) <| rt (xaq (v:=.int .i64 (x)) rfl) (tm':=zq2 (zq4 [])) rfl ?_
 refine ro (xmk rfl rfl) <| ro (xax (v:=.bool (decide (x≠x))) rfl) <| xak ?_
 refine xdv Tryd.func110 rfl (vs:=[.bool (decide (x≠x))]) (fun h_ H_=>⟨.bool (decide (x≠x)),_,rfl,rfl,rfl⟩) (v:=.bool (decide (x≠x))) rfl ?_
 exact fun h_ H_=>K _ _ ⟨by simp,H_.kept⟩
theorem c101 (md:Md) (h:Heap) (x y:Int):CallsX Tryd.prog md 101 #[.int .i64 (x),.int .i64 (y)] h fun v h'=>v= .int .i64 (cmpI x y)∧Keep h h':=by
 refine xcx (Φ:=fun h_=>St h [] (fun _=>none) h_ []) Tryd.func101 rfl (tm:=zq4 (zq16 [])) rfl ?_ (St.start h _ (fun _ _ e=>by cases e))
 intro c₀ cs Stop K
 refine fsr <| rt (xax (v:=.int .i64 0) rfl) (tm':=zq1 (zq4 _)) rfl <| ren <| xbq <| ro (xaq (v:=.int .i64 (x)) rfl) ?_
 refine xeq mn (first:=[]) (cap:=[]) rfl rfl vhz (fun h_ H_=>c110 md _ (x)) rfl ?_
 refine rt (xax (v:=.bool (false)) rfl) (tm':=zq2 (zq4 _)) rfl <| ren <| xbq <| ro (xaq (v:=.int .i64 (y)) rfl) ?_
 refine xeq mn (first:=[]) (cap:=[]) rfl rfl vhz (fun h_ H_=>c110 md _ (y)) rfl ?_
 refine rt (xax (v:=.bool (false)) rfl) (tm':=zq1 (zq2 (zq4 _))) rfl <| ren <| fsr <| ro (xaq (v:=.bool (false)) rfl) <| xak <| xck rfl rfl ?_
 refine xcv <| xez <| fsr <| ro (xaq (v:=.bool (false)) rfl) <| xak <| xck rfl rfl ?_
 refine xcv <| xez <| fsr <| rt (xaq (v:=.int .i64 (x)) rfl) (tm':=zq4 (zq16 [])) rfl <| ro (xaq (v:=.int .i64 (y)) rfl) <| ro (xgj rfl rfl) ?_
 refine xak ?_
 by_cases cc1:x<y
 ·
  refine xdx rfl (dtt cc1) <| fsr <| rt (xax (v:=.int .i64 (-1)) rfl) (tm':=zq1 (zq4 _)) rfl <| xak ?_
  refine xdv Tryd.func101 rfl (vs:=[.int .i64 (-1)]) (fun h_ H_=>⟨.int .i64 (-1),_,rfl,rfl,rfl⟩) (v:=.int .i64 (-1)) rfl ?_
  exact fun h_ H_=>K _ _ ⟨by unfold cmpI;first | rw [if_pos (by omega)] | rw [if_neg (by omega),if_pos (by omega)] | rw [if_neg (by omega),if_neg (by omega)],H_.kept⟩
 ·
  refine xck rfl (dff cc1) <| xcv <| xez <| fsr <| ro (xaq (v:=.int .i64 (x)) rfl) <| ro (xaq (v:=.int .i64 (y)) rfl) ?_
  refine rt (xkq rfl rfl) (tm':=zq4 (zq16 [])) rfl <| xak ?_
  by_cases cc2:y<x
  ·
   refine xdx rfl (dtt cc2) <| fsr <| ro (xax (v:=.int .i64 1) rfl) <| xak ?_
   refine xdv Tryd.func101 rfl (vs:=[.int .i64 1]) (fun h_ H_=>⟨.int .i64 1,_,rfl,rfl,rfl⟩) (v:=.int .i64 1) rfl ?_
   exact fun h_ H_=>K _ _ ⟨by unfold cmpI;first | rw [if_pos (by omega)] | rw [if_neg (by omega),if_pos (by omega)] | rw [if_neg (by omega),if_neg (by omega)],H_.kept⟩
  ·
   refine xck rfl (dff cc2) <| xcv <| fsr <| ro (xax (v:=.int .i64 0) rfl) <| xak ?_
   refine xdv Tryd.func101 rfl (vs:=[.int .i64 0]) (fun h_ H_=>⟨.int .i64 0,_,rfl,rfl,rfl⟩) (v:=.int .i64 0) rfl ?_
   exact fun h_ H_=>K _ _ ⟨by unfold cmpI;first | rw [if_pos (by omega)] | rw [if_neg (by omega),if_pos (by omega)] | rw [if_neg (by omega),if_neg (by omega)],H_.kept⟩
theorem c46 (md:Md) (h:Heap) (p:PHeap) (hp:Per p h) (a1:Option Addr) (n1 c1:Nat) (a2:Option Addr) (n2 c2:Nat) (a3:Option Addr) (n3 c3:Nat) (t:Tn) (T:TownP p a1 n1 a2 n2 a3 n3 t) (hn:n1≤2 ^ 40∧n2≤2 ^ 40∧n3≤2 ^ 40):CallsX Tryd.prog md 46 #[.agg #[.slice a1 n1 c1,.slice a2 n2 c2,.slice a3 n3 c3]] h fun v h'=>v= .bool (decide (40<t.nH∨40<t.nW∨40<t.m))∧Keep h h':=by
 refine xcx (Φ:=fun h_=>St h [] p h_ []) Tryd.func46 rfl (tm:=zq1 (zq2 (zq16 []))) rfl ?_ (St.start h _ hp)
 intro c₀ cs Stop K
 have eH:=T.nH
 have eW:=T.nW
 have eM:=T.m
 refine fsr ?_
 refine xij mn (v:=.agg #[.slice a1 n1 c1,.slice a2 n2 c2,.slice a3 n3 c3]) rfl fun b1=>xcq (L':=[(b1,.cells #[.slice a1 n1 c1,.slice a2 n2 c2,.slice a3 n3 c3] 25 (0,0))]) rfl ?_
 refine xfj (tm':=_::_::_) rfl ?_
 refine ro (xax (v:=.bool (false)) rfl) <| ren <| xbq <| ro (xaz xnx rfl (a':=⟨b1,0,none⟩) rfl) ?_
 refine xbx mn (fun h_ H_=>xaj H_ tA22 rfl (i:=0) rfl (v:=.slice a1 n1 c1) rfl) (tm':=zq1 (zq4 _)) rfl ?_
 refine ro (xfz Tryd.underlying22 rfl) <| ro (xkq rfl rfl) <| rt (xaq (v:=.bool (decide (40<((n1:Nat):Int)))) rfl) (tm':=zq8 _) rfl ?_
 by_cases cc2:40<((n1:Nat):Int)
 ·
  refine rp (mo rfl rfl (dtt cc2)) <| rp (mo rfl rfl (dtt cc2)) <| xfx (mo rfl rfl (dtt cc2)) (tm':=zq1 (zq2 (zq8 _))) rfl <| rp (mo rfl rfl (dtt cc2)) <| ro (xdz rfl (dtt cc2) (v:=.bool (true)) rfl) <| rt (xaq (v:=.bool (true)) rfl) (tm':=zq1 (zq2 (zq16 []))) rfl ?_
  refine rp (mo rfl rfl rfl) <| rp (mo rfl rfl rfl) <| xfx (mo rfl rfl rfl) (tm':=zq1 (zq2 (zq16 []))) rfl <| rp (mo rfl rfl rfl) <| ro (xdz rfl rfl (v:=.bool (true)) rfl) <| rt (xax (v:=.bool (true)) rfl) (tm':=_::_::_::_) rfl ?_
  refine xak ?_
  refine xdv Tryd.func46 rfl (vs:=[.bool (true)]) (fun h_ H_=>⟨.bool (true),_,rfl,rfl,rfl⟩) (v:=.bool (true)) rfl ?_
  exact fun h_ H_=>K _ _ ⟨by congr 1;rw [Bool.eq_iff_iff,decide_eq_true_eq];first | (simp;omega) | (simp [*];done) | (simp [*];omega),H_.kept⟩
 ·
  refine xbx (ms rfl rfl (dff cc2)) (fun h_ H_=>xaz xnk rfl (a':=⟨b1,1,none⟩) rfl) rfl ?_
  refine xbx (ms rfl rfl (dff cc2)) (fun h_ H_=>xaj H_ tA22 rfl (i:=0) rfl (v:=.slice a2 n2 c2) rfl) rfl ?_
  refine xbx (ms rfl rfl (dff cc2)) (fun h_ H_=>xfz Tryd.underlying22 rfl) (tm':=zq1 (zq2 (zq8 _))) rfl ?_
  refine xbx (ms rfl rfl (dff cc2)) (fun h_ H_=>xkq rfl rfl) rfl ?_
  refine ro (xej rfl (dff cc2) (v:=.bool (decide (40<((n2:Nat):Int)))) rfl) <| rt (xaq (v:=.bool (decide (40<((n2:Nat):Int)))) rfl) (tm':=zq1 (zq2 (zq16 []))) rfl ?_
  by_cases cc3:40<((n2:Nat):Int)
  ·
   refine rp (mo rfl rfl (dtt cc3)) <| rp (mo rfl rfl (dtt cc3)) <| xfx (mo rfl rfl (dtt cc3)) (tm':=zq1 (zq2 (zq16 []))) rfl <| rp (mo rfl rfl (dtt cc3)) <| ro (xdz rfl (dtt cc3) (v:=.bool (true)) rfl) <| rt (xax (v:=.bool (true)) rfl) (tm':=_::_::_::_) rfl ?_
   refine xak ?_
   refine xdv Tryd.func46 rfl (vs:=[.bool (true)]) (fun h_ H_=>⟨.bool (true),_,rfl,rfl,rfl⟩) (v:=.bool (true)) rfl ?_
   exact fun h_ H_=>K _ _ ⟨by congr 1;rw [Bool.eq_iff_iff,decide_eq_true_eq];first | (simp;omega) | (simp [*];done) | (simp [*];omega),H_.kept⟩
  ·
   refine xbx (ms rfl rfl (dff cc3)) (fun h_ H_=>xaz xhj rfl (a':=⟨b1,2,none⟩) rfl) rfl ?_
   refine xbx (ms rfl rfl (dff cc3)) (fun h_ H_=>xaj H_ tA23 rfl (i:=0) rfl (v:=.slice a3 n3 c3) rfl) rfl ?_
   refine xbx (ms rfl rfl (dff cc3)) (fun h_ H_=>xfz Tryd.underlying23 rfl) (tm':=zq1 (zq2 (zq16 []))) rfl ?_
   refine xbx (ms rfl rfl (dff cc3)) (fun h_ H_=>xkq rfl rfl) rfl ?_
   refine ro (xej rfl (dff cc3) (v:=.bool (decide (40<((n3:Nat):Int)))) rfl) <| rt (xax (v:=.bool (decide (40<((n3:Nat):Int)))) rfl) (tm':=_::_::_::_) rfl <| xak ?_
   refine xdv Tryd.func46 rfl (vs:=[.bool (decide (40<((n3:Nat):Int)))]) (fun h_ H_=>⟨.bool (decide (40<((n3:Nat):Int))),_,rfl,rfl,rfl⟩) (v:=.bool (decide (40<((n3:Nat):Int)))) rfl ?_
   exact fun h_ H_=>K _ _ ⟨by congr 1;rw [Bool.eq_iff_iff,decide_eq_true_eq];first | (simp;omega) | (simp [*];done) | (simp [*];omega),H_.kept⟩
theorem c35 (md:Md) (h:Heap) (p:PHeap) (hp:Per p h) (a:Option Addr) (n c:Nat) (xs:List Int) (A:Ints p a n xs) (hn:n≤2 ^ 40) (z:Int):CallsX Tryd.prog md 35 #[.slice a n c,.int .i64 (z)] h fun v h'=>v= .bool (decide (z∈xs))∧Keep h h':=by
 refine xcx (Φ:=fun h_=>St h [] p h_ []) Tryd.func35 rfl (tm:=zq2 (zq16 [])) rfl ?_ (St.start h _ hp)
 intro c₀ cs Stop K
 have hl:=A.len
 refine fsr <| ro (xax (v:=.bool (false)) rfl) <| ren <| fsr <| rt (xax (v:=.int .i64 0) rfl) (tm':=zq2 (zq4 _)) rfl <| xak ?_
 refine xdj ?_
 refine xhk (m₀:=n-0) (fun m_ tm_ h_=>∃ (k:Nat),m_=n-k∧(∃ y1:Nat→Value,tm_=[.slice a n c,.int .i64 (z),undef,undef,(y1 4),.int .i64 (((k:Nat):Int)),(y1 6),(y1 7),(y1 8),(y1 9),(y1 10),(y1 11),(y1 12),(y1 13),(y1 14),(y1 15),(y1 16),(y1 17)])∧(k≤n)∧(∀ i,i<k→xs.getD i 0≠z)∧St h [] p h_ ([])) (fun h_ H_=>⟨0,rfl,(y_of rfl),Nat.zero_le _,(fun i hi=>absurd hi (Nat.not_lt_zero i)),H_⟩) ?_
 intro m_ tm_ IH2
 refine xhq fun k=>xcz fun hm_=>xcz fun ht_=>xcz fun hk=>xcz fun hs=>?_
 subst hm_;obtain ⟨y1,ht_⟩:=ht_;subst ht_
 refine xez <| fsr <| ro (xaq (v:=.int .i64 (((k:Nat):Int))) rfl) <| ro (xaq (v:=.slice a n c) rfl) <| rt (xfz Tryd.underlying22 rfl) (tm':=zq1 (zq8 _)) rfl <| ro (xgj rfl rfl) ?_
 refine xak ?_
 by_cases cc3:((k:Nat):Int)<((n:Nat):Int)
 ·
  refine xdx rfl (dtt cc3) <| xcv <| xez <| xdj <| fsr <| ro (xaq (v:=.slice a n c) rfl) ?_
  refine rt (xaq (v:=.int .i64 (((k:Nat):Int))) rfl) (tm':=zq2 (zq16 [])) rfl ?_
  refine ro (xbw (i:=k) Tryd.underlying22 tS3 (xjq a n c (A.ne (by omega))) rfl (by omega)) ?_
  refine rd (fun h_ H_=>xbj H_ tA3 rfl (v:=.int .i64 (xs.getD k 0)) (A.get (by omega))) ?_
  refine rt (xaq (v:=.int .i64 (z)) rfl) (tm':=zq2 (zq16 [])) rfl <| ro (xkw rfl rfl) <| xak ?_
  by_cases cc4:xs.getD k 0=z
  ·
   refine xdx rfl (dtt cc4) <| fsr <| ro (xax (v:=.bool (true)) rfl) <| xak ?_
   refine xdv Tryd.func35 rfl (vs:=[.bool (true)]) (fun h_ H_=>⟨.bool (true),_,rfl,rfl,rfl⟩) (v:=.bool (true)) rfl ?_
   exact fun h_ H_=>K _ _ ⟨by first | (rw [decide_eq_true (zrw (k:=k) (by omega) ‹_›)]) | (rw [decide_eq_false (ylx (k:=k) (by omega) hs)]),H_.kept⟩
  ·
   refine xck rfl (dff cc4) <| xcv <| xdq <| xbq <| rt (xaq (v:=.int .i64 (((k:Nat):Int))) rfl) (tm':=zq1 (zq2 (zq8 _))) rfl ?_
   refine ro (xek rfl rfl (n:=((k+1:Nat):Int)) (wr (by omega))) ?_
   refine ro (xax (v:=.int .i64 (((k+1:Nat):Int))) rfl) <| xak ?_
   exact fun h_ H_=>IH2 _ _ (by omega) h_ ⟨k+1,rfl,(y_of rfl),(by omega),(wyq hs ‹_›),H_⟩
 ·
  refine xck rfl (dff cc3) <| xhz rfl <| fsr <| rt (xax (v:=.bool (false)) rfl) (tm':=zq1 (zq4 _)) rfl <| xak ?_
  refine xdv Tryd.func35 rfl (vs:=[.bool (false)]) (fun h_ H_=>⟨.bool (false),_,rfl,rfl,rfl⟩) (v:=.bool (false)) rfl ?_
  exact fun h_ H_=>K _ _ ⟨by first | (rw [decide_eq_true (zrw (k:=k) (by omega) ‹_›)]) | (rw [decide_eq_false (ylx (k:=k) (by omega) hs)]),H_.kept⟩
theorem c78 (md:Md) (h:Heap) (p:PHeap) (hp:Per p h) (a:Option Addr) (n c:Nat) (xs:List Int) (A:Ints p a n xs) (hn:n≤2 ^ 40) (hx: ∀ i,i<n→0≤xs.getD i 0∧xs.getD i 0≤1000) (hn2:n≤100):CallsX Tryd.prog md 78 #[.slice a n c] h fun v h'=>v= .int .i64 (sm n (dv xs))∧Keep h h':=by
 refine xcx (Φ:=fun h_=>St h [] p h_ []) Tryd.func78 rfl (tm:=zq1 (zq16 [])) rfl ?_ (St.start h _ hp)
 intro c₀ cs Stop K
 have hl:=A.len
 refine fsr <| ro (xax (v:=.int .i64 0) rfl) <| ren <| xbq <| rt (xax (v:=.int .i64 0) rfl) (tm':=zq4 _) rfl <| ren ?_
 refine fsr <| ro (xaq (v:=.slice a n c) rfl) <| ro (xfz Tryd.underlying22 rfl) <| rt (xaq (v:=.int .i64 0) rfl) (tm':=zq1 (zq8 _)) rfl <| xak <| xdj ?_
 refine xhk (m₀:=n-0) (fun m_ tm_ h_=>∃ (k:Nat),m_=n-k∧(∃ y1:Nat→Value,tm_=[.slice a n c,undef,.int .i64 0,.int .i64 (sm k (dv xs)),undef,(y1 5),.slice a n c,.int .i64 (((n:Nat):Int)),.int .i64 (((k:Nat):Int)),(y1 9),(y1 10),(y1 11),(y1 12),(y1 13),(y1 14),(y1 15),undef])∧(k≤n)∧(0≤sm k (dv xs)∧sm k (dv xs)≤1000*k)∧St h [] p h_ ([])) (fun h_ H_=>⟨0,rfl,(y_of rfl),Nat.zero_le _,⟨Int.le_refl _,Int.le_refl _⟩,H_⟩) ?_
 intro m_ tm_ IH2
 refine xhq fun k=>xcz fun hm_=>xcz fun ht_=>xcz fun hk=>xcz fun hs=>?_
 subst hm_;obtain ⟨y1,ht_⟩:=ht_;subst ht_
 refine fsr <| ro (xgj rfl rfl) <| ren ?_
 by_cases cc3:((k:Nat):Int)<((n:Nat):Int)
 ·
  refine xdx rfl (dtt cc3) <| xcv <| xez <| xdj <| fsr ?_
  refine ro (xbw (i:=k) Tryd.underlying22 tS3 (xjq a n c (A.ne (by omega))) rfl (by omega)) ?_
  refine xbx mn (fun h_ H_=>xbj H_ tA3 rfl (v:=.int .i64 (xs.getD k 0)) (A.get (by omega))) (tm':=zq1 (zq16 [])) rfl ?_
  refine ro (xax (v:=.int .i64 (xs.getD k 0)) rfl) <| xak <| xbq <| ro (xaq (v:=.int .i64 (sm k (dv xs))) rfl) <| rt (xaq (v:=.int .i64 (xs.getD k 0)) rfl) (tm':=zq1 (zq16 [])) rfl ?_
  refine ro (xek rfl rfl (wr (by have:=hx k (by omega);omega))) ?_
  refine ro (xax (v:=.int .i64 ((sm k (dv xs))+(xs.getD k 0))) rfl) <| xak <| xdq <| xbq ?_
  refine rt (xek rfl rfl (n:=((k+1:Nat):Int)) (wr (by omega))) (tm':=zq1 (zq16 [])) rfl ?_
  refine ro (xaq (v:=.int .i64 (((k+1:Nat):Int))) rfl) <| xak ?_
  exact fun h_ H_=>IH2 _ _ (by omega) h_ ⟨k+1,rfl,(y_of rfl),(by omega),(by have:=hx k (by omega);simp only [sm,dv] at hs ⊢;omega),H_⟩
 ·
  refine xck rfl (dff cc3) <| xhz rfl <| fsr <| ro (xaq (v:=.int .i64 (sm k (dv xs))) rfl) <| rt (xax (v:=.int .i64 (sm k (dv xs))) rfl) (tm':=_::_::_::_) rfl <| xak ?_
  refine xdv Tryd.func78 rfl (vs:=[.int .i64 (sm k (dv xs))]) (fun h_ H_=>⟨.int .i64 (sm k (dv xs)),_,rfl,rfl,rfl⟩) (v:=.int .i64 (sm k (dv xs))) rfl ?_
  exact fun h_ H_=>K _ _ ⟨(by cases (show k=n from (by omega));rfl),H_.kept⟩
theorem c27 (md:Md) (h:Heap) (p:PHeap) (hp:Per p h) (a b:Option Addr) (m n c d:Nat) (xs ys:List Int) (A:Ints p a m xs) (B:Ints p b n ys) (hm:m≤2 ^ 40):CallsX Tryd.prog md 27 #[.slice a m c,.slice b n d] h fun v h'=>v= .bool (decide (xs=ys))∧Keep h h':=by
 refine xcx (Φ:=fun h_=>St h [] p h_ []) Tryd.func27 rfl (tm:=zq2 (zq8 (zq16 []))) rfl ?_ (St.start h _ hp)
 intro c₀ cs Stop K
 refine fsr <| ro (xax (v:=.bool (false)) rfl) <| ren <| fsr <| ro (xaq (v:=.slice a m c) rfl) <| rt (xfz Tryd.underlying22 rfl) (tm':=zq8 _) rfl ?_
 refine ro (xaq (v:=.slice b n d) rfl) <| ro (xfz Tryd.underlying22 rfl) <| rt (xmk rfl rfl) (tm':=zq1 (zq2 (zq8 _))) rfl <| xak ?_
 by_cases cc1:((m:Nat):Int)≠((n:Nat):Int)
 ·
  refine xdx rfl (dtt cc1) <| fsr <| ro (xax (v:=.bool (false)) rfl) <| xak ?_
  refine xdv Tryd.func27 rfl (vs:=[.bool (false)]) (fun h_ H_=>⟨.bool (false),_,rfl,rfl,rfl⟩) (v:=.bool (false)) rfl ?_
  exact fun h_ H_=>K _ _ ⟨by first | exact xzx A.len B.len (by omega) | exact yxz ‹_› | exact xuw A.len B.len (by omega) (by omega) hs,H_.kept⟩
 ·
  refine xck rfl (dff cc1) <| xcv <| xez <| fsr <| ro (xax (v:=.int .i64 0) rfl) <| xak ?_
  refine xdj ?_
  refine xhk (m₀:=m-0) (fun m_ tm_ h_=>∃ (k:Nat),m_=m-k∧(∃ y2:Nat→Value,tm_=[.slice a m c,.slice b n d,undef,undef,(y2 4),.int .i64 (((k:Nat):Int)),.slice a m c,.int .i64 (((m:Nat):Int)),.slice b n d,.int .i64 (((n:Nat):Int)),.bool (decide (((m:Nat):Int)≠((n:Nat):Int))),(y2 11),(y2 12),(y2 13),(y2 14),(y2 15),(y2 16),(y2 17),(y2 18),(y2 19),(y2 20),(y2 21),(y2 22),(y2 23),(y2 24),(y2 25)])∧(k≤m)∧(∀ i,i<k→xs.getD i 0=ys.getD i 0)∧St h [] p h_ ([])) (fun h_ H_=>⟨0,rfl,(y_of rfl),Nat.zero_le _,(fun i hi=>absurd hi (Nat.not_lt_zero i)),H_⟩) ?_
  intro m_ tm_ IH3
  refine xhq fun k=>xcz fun hm_=>xcz fun ht_=>xcz fun hk=>xcz fun hs=>?_
  subst hm_;obtain ⟨y2,ht_⟩:=ht_;subst ht_
  refine xez <| fsr <| rt (xaq (v:=.int .i64 (((k:Nat):Int))) rfl) (tm':=zq4 (zq8 _)) rfl <| ro (xaq (v:=.slice a m c) rfl) <| ro (xfz Tryd.underlying22 rfl) <| rt (xgj rfl rfl) (tm':=zq1 (zq2 (zq4 (zq8 _)))) rfl ?_
  refine xak ?_
  by_cases cc4:((k:Nat):Int)<((m:Nat):Int)
  ·
   refine xdx rfl (dtt cc4) <| xcv <| xez <| xdj <| xez ?_
   refine xgx 8 [[],[],[0,1],[0,1,2],[],[],[4,5],[4,5,6],[]] xkk (by kernel_rfl) (Nat.le_of_ble_eq_true rfl) ?_
   refine wo (xaq (v:=.slice a m c) rfl) <| wt (xaq (v:=.int .i64 (((k:Nat):Int))) rfl) (tm':=zq2 (zq8 (zq16 []))) rfl ?_
   refine wo (xbw (i:=k) Tryd.underlying22 tS3 (xjq a m c (A.ne (by omega))) rfl (by omega)) ?_
   refine xbk mn (fun h_ H_=>xbj H_ tA3 rfl (v:=.int .i64 (xs.getD k 0)) (A.get (by omega))) (tm':=zq2 (zq8 (zq16 []))) rfl ?_
   refine wo (xaq (v:=.slice b n d) rfl) <| wt (xaq (v:=.int .i64 (((k:Nat):Int))) rfl) (tm':=zq2 (zq8 (zq16 []))) rfl ?_
   refine wo (xbw (i:=k) Tryd.underlying22 tS3 (xjq b n d (B.ne (by omega))) rfl (by omega)) ?_
   refine xbk mn (fun h_ H_=>xbj H_ tA3 rfl (v:=.int .i64 (ys.getD k 0)) (B.get (by omega))) (tm':=zq2 (zq8 (zq16 []))) rfl ?_
   refine xiz rfl ?_
   refine rt (xmk rfl rfl) (tm':=zq2 (zq8 (zq16 []))) rfl <| xak ?_
   by_cases cc5:xs.getD k 0≠ys.getD k 0
   ·
    refine xdx rfl (dtt cc5) <| fsr <| ro (xax (v:=.bool (false)) rfl) <| xak ?_
    refine xdv Tryd.func27 rfl (vs:=[.bool (false)]) (fun h_ H_=>⟨.bool (false),_,rfl,rfl,rfl⟩) (v:=.bool (false)) rfl ?_
    exact fun h_ H_=>K _ _ ⟨by first | exact xzx A.len B.len (by omega) | exact yxz ‹_› | exact xuw A.len B.len (by omega) (by omega) hs,H_.kept⟩
   ·
    refine xck rfl (dff cc5) <| xcv <| xdq <| xbq <| ro (xaq (v:=.int .i64 (((k:Nat):Int))) rfl) ?_
    refine rt (xek rfl rfl (n:=((k+1:Nat):Int)) (wr (by omega))) (tm':=zq1 (zq16 _)) rfl ?_
    refine ro (xax (v:=.int .i64 (((k+1:Nat):Int))) rfl) <| xak ?_
    exact fun h_ H_=>IH3 _ _ (by omega) h_ ⟨k+1,rfl,(y_of rfl),(by omega),(zdv hs (by omega)),H_⟩
  ·
   refine xck rfl (dff cc4) <| xhz rfl <| fsr <| ro (xax (v:=.bool (true)) rfl) <| xak ?_
   refine xdv Tryd.func27 rfl (vs:=[.bool (true)]) (fun h_ H_=>⟨.bool (true),_,rfl,rfl,rfl⟩) (v:=.bool (true)) rfl ?_
   exact fun h_ H_=>K _ _ ⟨by first | exact xzx A.len B.len (by omega) | exact yxz ‹_› | exact xuw A.len B.len (by omega) (by omega) hs,H_.kept⟩
theorem c59 (md:Md) (h:Heap) (p:PHeap) (hp:Per p h) (a b:Option Addr) (m n c d:Nat) (xs ys:List Int) (A:Ints p a m xs) (B:Ints p b n ys) (hm:m≤2 ^ 40):CallsX Tryd.prog md 59 #[.slice a m c,.slice b n d] h fun v h'=>v= .bool (earlier xs ys)∧Keep h h':=by
 refine xcx (Φ:=fun h_=>St h [] p h_ []) Tryd.func59 rfl (tm:=zq4 (zq32 [])) rfl ?_ (St.start h _ hp)
 intro c₀ cs Stop K
 have hA:=A.len
 have hB:=B.len
 refine fsr <| rt (xax (v:=.bool (false)) rfl) (tm':=zq1 (zq4 _)) rfl <| ren <| fsr <| ro (xax (v:=.int .i64 0) rfl) <| xak ?_
 refine xdj ?_
 refine xhk (m₀:=m-0) (fun m_ tm_ h_=>∃ (k:Nat),m_=m-k∧(∃ y1:Nat→Value,tm_=[.slice a m c,.slice b n d,undef,undef,(y1 4),.int .i64 (((k:Nat):Int)),(y1 6),(y1 7),(y1 8),(y1 9),(y1 10),(y1 11),(y1 12),(y1 13),(y1 14),(y1 15),(y1 16),(y1 17),(y1 18),(y1 19),(y1 20),(y1 21),(y1 22),(y1 23),(y1 24),(y1 25),(y1 26),(y1 27),(y1 28),(y1 29),(y1 30),(y1 31),(y1 32),(y1 33),(y1 34),(y1 35)])∧(k≤m∧k≤n)∧(∀ i,i<k→xs.getD i 0=ys.getD i 0)∧St h [] p h_ ([])) (fun h_ H_=>⟨0,rfl,(y_of rfl),⟨Nat.zero_le _,Nat.zero_le _⟩,(fun i hi=>absurd hi (Nat.not_lt_zero i)),H_⟩) ?_
 intro m_ tm_ IH2
 refine xhq fun k=>xcz fun hm_=>xcz fun ht_=>xcz fun hk=>xcz fun hs=>?_
 subst hm_;obtain ⟨y1,ht_⟩:=ht_;subst ht_
 refine xez <| fsr <| ro (xaq (v:=.int .i64 (((k:Nat):Int))) rfl) <| rt (xaq (v:=.slice a m c) rfl) (tm':=zq8 _) rfl <| ro (xfz Tryd.underlying22 rfl) <| ro (xgj rfl rfl) ?_
 refine rt (xaq (v:=.bool (decide (((k:Nat):Int)<((m:Nat):Int)))) rfl) (tm':=zq1 (zq2 (zq8 _))) rfl ?_
 by_cases cc3:((k:Nat):Int)<((m:Nat):Int)
 ·
  refine xbx (ms rfl rfl (dtt cc3)) (fun h_ H_=>xaq (v:=.int .i64 (((k:Nat):Int))) rfl) rfl ?_
  refine xbx (ms rfl rfl (dtt cc3)) (fun h_ H_=>xaq (v:=.slice b n d) rfl) rfl ?_
  refine xbx (ms rfl rfl (dtt cc3)) (fun h_ H_=>xfz Tryd.underlying22 rfl) (tm':=zq2 (zq4 (zq8 _))) rfl ?_
  refine xbx (ms rfl rfl (dtt cc3)) (fun h_ H_=>xgj rfl rfl) rfl ?_
  refine ro (xdz rfl (dtt cc3) (v:=.bool (decide (((k:Nat):Int)<((n:Nat):Int)))) rfl) <| xak ?_
  by_cases cc4:((k:Nat):Int)<((n:Nat):Int)
  ·
   refine xdx rfl (dtt cc4) <| xcv <| xez <| xdj <| xez ?_
   refine xgx 8 [[],[],[0,1],[0,1,2],[],[],[4,5],[4,5,6],[]] xkk (by kernel_rfl) (Nat.le_of_ble_eq_true rfl) ?_
   refine wo (xaq (v:=.slice a m c) rfl) <| wt (xaq (v:=.int .i64 (((k:Nat):Int))) rfl) (tm':=zq4 (zq16 _)) rfl ?_
   refine wo (xbw (i:=k) Tryd.underlying22 tS3 (xjq a m c (A.ne (by omega))) rfl (by omega)) ?_
   refine xbk mn (fun h_ H_=>xbj H_ tA3 rfl (v:=.int .i64 (xs.getD k 0)) (A.get (by omega))) (tm':=zq2 (zq4 (zq16 _))) rfl ?_
   refine wo (xaq (v:=.slice b n d) rfl) <| wt (xaq (v:=.int .i64 (((k:Nat):Int))) rfl) (tm':=zq8 (zq16 _)) rfl ?_
   refine wo (xbw (i:=k) Tryd.underlying22 tS3 (xjq b n d (B.ne (by omega))) rfl (by omega)) ?_
   refine xbk mn (fun h_ H_=>xbj H_ tA3 rfl (v:=.int .i64 (ys.getD k 0)) (B.get (by omega))) (tm':=zq4 (zq32 [])) rfl ?_
   refine xiz rfl ?_
   refine ro (xmk rfl rfl) <| xak ?_
   by_cases cc5:xs.getD k 0≠ys.getD k 0
   ·
    refine xdx rfl (dtt cc5) <| xez ?_
    refine xgx 8 [[],[],[0,1],[0,1,2],[],[],[4,5],[4,5,6],[],[]] xkk (by kernel_rfl) (Nat.le_of_ble_eq_true rfl) ?_
    refine wt (xaq (v:=.slice a m c) rfl) (tm':=zq4 (zq32 [])) rfl <| wo (xaq (v:=.int .i64 (((k:Nat):Int))) rfl) ?_
    refine wt (xbw (i:=k) Tryd.underlying22 tS3 (xjq a m c (A.ne (by omega))) rfl (by omega)) (tm':=zq4 (zq32 [])) rfl ?_
    refine wd (fun h_ H_=>xbj H_ tA3 rfl (v:=.int .i64 (xs.getD k 0)) (A.get (by omega))) ?_
    refine wt (xaq (v:=.slice b n d) rfl) (tm':=zq4 (zq32 [])) rfl <| wo (xaq (v:=.int .i64 (((k:Nat):Int))) rfl) ?_
    refine wt (xbw (i:=k) Tryd.underlying22 tS3 (xjq b n d (B.ne (by omega))) rfl (by omega)) (tm':=zq4 (zq32 [])) rfl ?_
    refine wd (fun h_ H_=>xbj H_ tA3 rfl (v:=.int .i64 (ys.getD k 0)) (B.get (by omega))) ?_
    refine xiz rfl ?_
    refine ro (xgj rfl rfl) <| rt (xax (v:=.bool (decide (xs.getD k 0<ys.getD k 0))) rfl) (tm':=zq1 (zq4 _)) rfl <| xak ?_
    refine xdv Tryd.func59 rfl (vs:=[.bool (decide (xs.getD k 0<ys.getD k 0))]) (fun h_ H_=>⟨.bool (decide (xs.getD k 0<ys.getD k 0)),_,rfl,rfl,rfl⟩) (v:=.bool (decide (xs.getD k 0<ys.getD k 0))) rfl ?_
    exact fun h_ H_=>K _ _ ⟨by first | (rw [ycz (k:=k) (by omega) (by omega) hs ‹_›]) | (rw [yaq (k:=k) (by omega) (by omega) (by omega) hs]),H_.kept⟩
   ·
    refine xck rfl (dff cc5) <| xcv <| xdq <| xbq <| ro (xaq (v:=.int .i64 (((k:Nat):Int))) rfl) ?_
    refine ro (xek rfl rfl (n:=((k+1:Nat):Int)) (wr (by omega))) ?_
    refine rt (xax (v:=.int .i64 (((k+1:Nat):Int))) rfl) (tm':=zq2 (zq4 _)) rfl <| xak ?_
    exact fun h_ H_=>IH2 _ _ (by omega) h_ ⟨k+1,rfl,(y_of rfl),(by omega),(zdv hs (by omega)),H_⟩
  ·
   refine xck rfl (dff cc4) <| xhz rfl <| fsr <| ro (xax (v:=.bool (false)) rfl) <| xak ?_
   refine xdv Tryd.func59 rfl (vs:=[.bool (false)]) (fun h_ H_=>⟨.bool (false),_,rfl,rfl,rfl⟩) (v:=.bool (false)) rfl ?_
   exact fun h_ H_=>K _ _ ⟨by first | (rw [ycz (k:=k) (by omega) (by omega) hs ‹_›]) | (rw [yaq (k:=k) (by omega) (by omega) (by omega) hs]),H_.kept⟩
 ·
  refine rp (mo rfl rfl (dff cc3)) <| xfx (mo rfl rfl (dff cc3)) (tm':=zq1 (zq4 (zq8 _))) rfl <| rp (mo rfl rfl (dff cc3)) <| rp (mo rfl rfl (dff cc3)) <| rt (xej rfl (dff cc3) (v:=.bool (false)) rfl) (tm':=zq16 _) rfl <| xak ?_
  refine xck rfl rfl <| xhz rfl <| fsr <| ro (xax (v:=.bool (false)) rfl) <| xak ?_
  refine xdv Tryd.func59 rfl (vs:=[.bool (false)]) (fun h_ H_=>⟨.bool (false),_,rfl,rfl,rfl⟩) (v:=.bool (false)) rfl ?_
  exact fun h_ H_=>K _ _ ⟨by first | (rw [ycz (k:=k) (by omega) (by omega) hs ‹_›]) | (rw [yaq (k:=k) (by omega) (by omega) (by omega) hs]),H_.kept⟩
end Go.Proofs.YtalfgojocdonhaaDoor
namespace Go.X
open Go.Conc

def tkV (v:Value) (k:Nat):Value:=match v with
  | .slice a _ c=>.slice a k c
  | v=>v
theorem OwnS.take {T:TypeId} {w:Nat} {v:Value} {es:List (List Value)} {X:Pcs} (o:OwnS T w v es X) {k:Nat} (hk:k≤es.length):OwnS T w (tkV v k) (es.take k) X:=by
  obtain ⟨h1,⟨rfl,rfl,rfl⟩ | ⟨b,cs,cap,rest,rfl,rfl,hcs,hlen,hcap⟩⟩:=o
  · obtain rfl:k=0:=by simpa using hk
    exact ⟨by simp,.inl ⟨rfl,rfl,rfl⟩⟩
  · refine ⟨fun e he=>h1 e (List.mem_of_mem_take he),.inr ⟨b,cs,cap,(es.drop k).flatten++rest,?_,rfl,?_,hlen,hcap⟩⟩
    · simp [tkV,Nat.min_eq_left hk]
    · rw [hcs,← List.append_assoc,← List.flatten_append,List.take_append_drop]
section
variable {P:Program} {h:Heap} {tm:List Value} {d:Option Tmp} {ty:TypeId} {pos:String} {aft:Array Edge} {gd:Option (Nat × Bool)}
end
end Go.X
namespace Go.Proofs.YtalfgojocdonhaaDoor
open Go.X Go.X.Flow Go.Conc
set_option maxRecDepth 10000
set_option synthInstance.maxSize 2000

theorem c84 (md:Md) (h:Heap) (n:Int):CallsX Tryd.prog md 84 #[.int .i64 (n)] h fun v h'=>v= .bool (badN 9 n)∧Keep h h':=by
 refine xcx (Φ:=fun h_=>St h [] (fun _=>none) h_ []) Tryd.func84 rfl (tm:=zq2 (zq4 [])) rfl ?_ (St.start h _ (fun _ _ e=>by cases e))
 intro c₀ cs Stop K
 refine fsr <| ro (xax (v:=.bool (false)) rfl) <| ren <| xbq <| ro (xaq (v:=.int .i64 (n)) rfl) ?_
 refine xeq mn (first:=[]) (cap:=[]) rfl rfl fC85 (fun h_ H_=>c85 md _ (n) (0) (9)) (tm':=zq2 (zq4 [])) rfl ?_
 refine ro (xjw rfl) <| ro (xax (v:=.bool (!(decide (0≤n∧n≤9)))) rfl) <| xak ?_
 refine xdv Tryd.func84 rfl (vs:=[.bool (!(decide (0≤n∧n≤9)))]) (fun h_ H_=>⟨.bool (!(decide (0≤n∧n≤9))),_,rfl,rfl,rfl⟩) (v:=.bool (!(decide (0≤n∧n≤9)))) rfl ?_
 exact fun h_ H_=>K _ _ ⟨by unfold badN;first | rfl | simp [*],H_.kept⟩
theorem c86 (md:Md) (h:Heap) (n:Int):CallsX Tryd.prog md 86 #[.int .i64 (n)] h fun v h'=>v= .bool (badN 20 n)∧Keep h h':=by
 refine xcx (Φ:=fun h_=>St h [] (fun _=>none) h_ []) Tryd.func86 rfl (tm:=zq2 (zq4 [])) rfl ?_ (St.start h _ (fun _ _ e=>by cases e))
 intro c₀ cs Stop K
 refine fsr <| rt (xax (v:=.bool (false)) rfl) (tm':=_::_::_::_) rfl <| ren <| xbq <| ro (xaq (v:=.int .i64 (n)) rfl) ?_
 refine xeq mn (first:=[]) (cap:=[]) rfl rfl fC85 (fun h_ H_=>c85 md _ (n) (0) (20)) rfl ?_
 refine rt (xjw rfl) (tm':=zq2 (zq4 [])) rfl <| ro (xax (v:=.bool (!(decide (0≤n∧n≤20)))) rfl) <| xak ?_
 refine xdv Tryd.func86 rfl (vs:=[.bool (!(decide (0≤n∧n≤20)))]) (fun h_ H_=>⟨.bool (!(decide (0≤n∧n≤20))),_,rfl,rfl,rfl⟩) (v:=.bool (!(decide (0≤n∧n≤20)))) rfl ?_
 exact fun h_ H_=>K _ _ ⟨by unfold badN;first | rfl | simp [*],H_.kept⟩
theorem c102 (md:Md) (h:Heap) (p:PHeap) (hp:Per p h) (fv:Value) (a:Option Addr) (n c:Nat) (xs:List Int) (A:Ints p a n xs) (hn:n≤2 ^ 40) (q:Int→Bool) (hf: ∀ h,Per p h→ ∀ i,i<n→CallV Tryd.prog md fv [.int .i64 (xs.getD i 0)] h fun v h'=>v= .bool (q (xs.getD i 0))∧Keep h h'):CallsX Tryd.prog md 102 #[.slice a n c,fv] h fun v h'=>v= .int .i64 (idxA q xs)∧Keep h h':=by
 refine xcx (Φ:=fun h_=>St h [] p h_ []) Tryd.func102 rfl (tm:=zq1 (zq2 (zq16 []))) rfl ?_ (St.start h _ hp)
 intro c₀ cs Stop K
 refine fsr <| ro (xax (v:=.int .i64 0) rfl) <| ren <| fsr <| rt (xaq (v:=.slice a n c) rfl) (tm':=zq1 (zq2 (zq4 _))) rfl <| ro (xfz Tryd.underlying22 rfl) ?_
 refine ro (xaq (v:=.int .i64 0) rfl) <| xak <| xdj ?_
 refine xhk (m₀:=n-0) (fun m_ tm_ h_=>∃ (k:Nat),m_=n-k∧(∃ y1:Nat→Value,tm_=[.slice a n c,fv,undef,undef,(y1 4),(y1 5),.slice a n c,.int .i64 (((n:Nat):Int)),.int .i64 (((k:Nat):Int)),(y1 9),(y1 10),(y1 11),(y1 12),(y1 13),(y1 14),(y1 15),(y1 16),(y1 17),(y1 18)])∧(k≤n)∧(∀ i,i<k→q (xs.getD i 0)=false)∧St h [] p h_ ([])) (fun h_ H_=>⟨0,rfl,(y_of rfl),Nat.zero_le _,(fun i hi=>absurd hi (Nat.not_lt_zero i)),H_⟩) ?_
 intro m_ tm_ IH2
 refine xhq fun k=>xcz fun hm_=>xcz fun ht_=>xcz fun hk=>xcz fun hs=>?_
 subst hm_;obtain ⟨y1,ht_⟩:=ht_;subst ht_
 refine fsr <| rt (xgj rfl rfl) (tm':=zq2 (zq8 _)) rfl <| ren ?_
 by_cases cc3:((k:Nat):Int)<((n:Nat):Int)
 ·
  refine xdx rfl (dtt cc3) <| xcv <| xez <| xdj <| fsr <| ro (xaq (v:=.int .i64 (((k:Nat):Int))) rfl) ?_
  refine ro (xax (v:=.int .i64 (((k:Nat):Int))) rfl) <| ren <| xbq <| rt (xaq (v:=fv) rfl) (tm':=zq4 (zq8 _)) rfl <| ro (xaq (v:=.slice a n c) rfl) <| ro (xaq (v:=.int .i64 (((k:Nat):Int))) rfl) ?_
  refine rt (xbw (i:=k) Tryd.underlying22 tS3 (xjq a n c (A.ne (by omega))) rfl (by omega)) (tm':=zq1 (zq2 (zq16 []))) rfl ?_
  refine rd (fun h_ H_=>xbj H_ tA3 rfl (v:=.int .i64 (xs.getD k 0)) (A.get (by omega))) ?_
  refine ypk mn rfl (vs:=[.int .i64 (xs.getD k 0)]) rfl (fun h_ H_=>hf h_ H_.per k (show k<n by omega)) rfl ?_
  refine xak ?_
  rcases ybj ((q (xs.getD k 0))) with cc4 | cc4
  ·
   refine xdx rfl cc4 <| fsr <| rt (xaq (v:=.int .i64 (((k:Nat):Int))) rfl) (tm':=zq1 (zq2 (zq16 []))) rfl <| ro (xax (v:=.int .i64 (((k:Nat):Int))) rfl) <| xak ?_
   refine xdv Tryd.func102 rfl (vs:=[.int .i64 (((k:Nat):Int))]) (fun h_ H_=>⟨.int .i64 (((k:Nat):Int)),_,rfl,rfl,rfl⟩) (v:=.int .i64 (((k:Nat):Int))) rfl ?_
   have hl:=A.len
   exact fun h_ H_=>K _ _ ⟨by first | (rw [xwx (z:=0) (k:=k) (by omega) ‹_› hs]) | (rw [xwz (z:=0) (fun i hi=>hs i (by omega))]),H_.kept⟩
  ·
   refine xck rfl cc4 <| xcv <| xdq <| xbq ?_
   refine ro (xek rfl rfl (n:=((k+1:Nat):Int)) (wr (by omega))) ?_
   refine rt (xaq (v:=.int .i64 (((k+1:Nat):Int))) rfl) (tm':=zq1 (zq8 _)) rfl <| xak ?_
   exact fun h_ H_=>IH2 _ _ (by omega) h_ ⟨k+1,rfl,(y_of rfl),(by omega),(xrw (q:=fun i=>q (xs.getD i 0)=false) hs ‹_›),H_⟩
 ·
  refine xck rfl (dff cc3) <| xhz rfl <| fsr <| ro (xax (v:=.int .i64 (-1)) rfl) <| xak ?_
  refine xdv Tryd.func102 rfl (vs:=[.int .i64 (-1)]) (fun h_ H_=>⟨.int .i64 (-1),_,rfl,rfl,rfl⟩) (v:=.int .i64 (-1)) rfl ?_
  have hl:=A.len
  exact fun h_ H_=>K _ _ ⟨by first | (rw [xwx (z:=0) (k:=k) (by omega) ‹_› hs]) | (rw [xwz (z:=0) (fun i hi=>hs i (by omega))]),H_.kept⟩
theorem c83 (md:Md) (h:Heap) (p:PHeap) (hp:Per p h) (fv:Value) (a:Option Addr) (n c:Nat) (xs:List Int) (A:Ints p a n xs) (hn:n≤2 ^ 40) (q:Int→Bool) (hf: ∀ h,Per p h→ ∀ i,i<n→CallV Tryd.prog md fv [.int .i64 (xs.getD i 0)] h fun v h'=>v= .bool (q (xs.getD i 0))∧Keep h h'):CallsX Tryd.prog md 83 #[.slice a n c,fv] h fun v h'=>v= .bool (decide (0≤idxA q xs))∧Keep h h':=by
 refine xcx (Φ:=fun h_=>St h [] p h_ []) Tryd.func83 rfl (tm:=zq1 (zq8 [])) rfl ?_ (St.start h _ hp)
 intro c₀ cs Stop K
 refine fsr <| ro (xax (v:=.bool (false)) rfl) <| ren <| xbq <| rt (xaq (v:=.slice a n c) rfl) (tm':=zq2 (zq4 _)) rfl <| ro (xaq (v:=fv) rfl) ?_
 refine xeq mn (first:=[]) (cap:=[]) rfl rfl fC102 (fun h_ H_=>c102 md _ _ H_.pe fv _ _ _ _ A (by omega) q hf) rfl ?_
 refine rt (xwk rfl rfl) (tm':=zq1 (zq8 [])) rfl <| ro (xax (v:=.bool (decide (0≤idxA q xs))) rfl) <| xak ?_
 refine xdv Tryd.func83 rfl (vs:=[.bool (decide (0≤idxA q xs))]) (fun h_ H_=>⟨.bool (decide (0≤idxA q xs)),_,rfl,rfl,rfl⟩) (v:=.bool (decide (0≤idxA q xs))) rfl ?_
 exact fun h_ H_=>K _ _ ⟨rfl,H_.kept⟩
theorem c75 (md:Md) (h:Heap) (p:PHeap) (hp:Per p h) (a:Option Addr) (n c:Nat) (xs:List Int) (A:Ints p a n xs) (hn:n≤2 ^ 40):CallsX Tryd.prog md 75 #[.slice a n c] h fun v h'=>v= .int .i64 (orI xs)∧Keep h h':=by
 refine xcx (Φ:=fun h_=>St h [] p h_ []) Tryd.func75 rfl (tm:=zq2 (zq16 [])) rfl ?_ (St.start h _ hp)
 intro c₀ cs Stop K
 refine fsr <| ro (xax (v:=.int .i64 0) rfl) <| ren <| xbq <| rt (xax (v:=.int .i64 0) rfl) (tm':=zq4 _) rfl <| ren ?_
 refine fsr <| ro (xaq (v:=.slice a n c) rfl) <| ro (xfz Tryd.underlying22 rfl) <| rt (xaq (v:=.int .i64 0) rfl) (tm':=zq1 (zq8 _)) rfl <| xak <| xdj ?_
 refine xhk (m₀:=n-0) (fun m_ tm_ h_=>∃ (k:Nat),m_=n-k∧(∃ y1:Nat→Value,tm_=[.slice a n c,undef,(y1 2),.int .i64 0,undef,(y1 5),.slice a n c,.int .i64 (((n:Nat):Int)),.int .i64 (((k:Nat):Int)),(y1 9),(y1 10),(y1 11),(y1 12),(y1 13),(y1 14),(y1 15),(y1 16),undef])∧(k≤n)∧(∀ i,i<k→xs.getD i 0=0)∧St h [] p h_ ([])) (fun h_ H_=>⟨0,rfl,(y_of rfl),Nat.zero_le _,(fun i hi=>absurd hi (Nat.not_lt_zero i)),H_⟩) ?_
 intro m_ tm_ IH2
 refine xhq fun k=>xcz fun hm_=>xcz fun ht_=>xcz fun hk=>xcz fun hs=>?_
 subst hm_;obtain ⟨y1,ht_⟩:=ht_;subst ht_
 refine fsr <| ro (xgj rfl rfl) <| ren ?_
 by_cases cc3:((k:Nat):Int)<((n:Nat):Int)
 ·
  refine xdx rfl (dtt cc3) <| xcv <| xez <| xdj <| fsr ?_
  refine ro (xbw (i:=k) Tryd.underlying22 tS3 (xjq a n c (A.ne (by omega))) rfl (by omega)) ?_
  refine xbx mn (fun h_ H_=>xbj H_ tA3 rfl (v:=.int .i64 (xs.getD k 0)) (A.get (by omega))) (tm':=zq4 (zq8 _)) rfl ?_
  refine ro (xax (v:=.int .i64 (xs.getD k 0)) rfl) <| ren <| xbq <| ro (xaq (v:=.int .i64 (xs.getD k 0)) rfl) <| rt (xaq (v:=.int .i64 0) rfl) (tm':=zq2 (zq16 [])) rfl <| ro (xmk rfl rfl) ?_
  refine xak ?_
  by_cases cc4:xs.getD k 0≠0
  ·
   refine xdx rfl (dtt cc4) <| fsr <| ro (xaq (v:=.int .i64 (xs.getD k 0)) rfl) <| rt (xax (v:=.int .i64 (xs.getD k 0)) rfl) (tm':=_::_::_::_) rfl <| xak ?_
   refine xdv Tryd.func75 rfl (vs:=[.int .i64 (xs.getD k 0)]) (fun h_ H_=>⟨.int .i64 (xs.getD k 0),_,rfl,rfl,rfl⟩) (v:=.int .i64 (xs.getD k 0)) rfl ?_
   have hl:=A.len
   exact fun h_ H_=>K _ _ ⟨by first | (rw [wfq (k:=k) (by omega) hs ‹_›]) | (rw [zkv (fun i hi=>hs i (by omega))]),H_.kept⟩
  ·
   refine xck rfl (dff cc4) <| xcv <| xdq <| xbq ?_
   refine ro (xek rfl rfl (n:=((k+1:Nat):Int)) (wr (by omega))) ?_
   refine ro (xaq (v:=.int .i64 (((k+1:Nat):Int))) rfl) <| xak ?_
   exact fun h_ H_=>IH2 _ _ (by omega) h_ ⟨k+1,rfl,(y_of rfl),(by omega),(xrw hs (by omega)),H_⟩
 ·
  refine xck rfl (dff cc3) <| xhz rfl <| fsr <| rt (xaq (v:=.int .i64 0) rfl) (tm':=zq2 (zq16 [])) rfl <| ro (xax (v:=.int .i64 0) rfl) <| xak ?_
  refine xdv Tryd.func75 rfl (vs:=[.int .i64 0]) (fun h_ H_=>⟨.int .i64 0,_,rfl,rfl,rfl⟩) (v:=.int .i64 0) rfl ?_
  have hl:=A.len
  exact fun h_ H_=>K _ _ ⟨by first | (rw [wfq (k:=k) (by omega) hs ‹_›]) | (rw [zkv (fun i hi=>hs i (by omega))]),H_.kept⟩
theorem c87 (md:Md) (h:Heap) (a b c d:Int):CallsX Tryd.prog md 87 #[.agg #[.int .i64 (a),.int .i64 (b)],.agg #[.int .i64 (c),.int .i64 (d)]] h fun v h'=>v= .int .i64 (ordW a b c d)∧Keep h h':=by
 refine xcx (Φ:=fun h_=>St h [] (fun _=>none) h_ []) Tryd.func87 rfl (tm:=zq1 (zq16 [])) rfl ?_ (St.start h _ (fun _ _ e=>by cases e))
 intro c₀ cs Stop K
 refine fsr ?_
 refine xij mn (v:=.agg #[.int .i64 (a),.int .i64 (b)]) rfl fun b1=>xcq (L':=[(b1,.cells #[.int .i64 (a),.int .i64 (b)] 43 (0,0))]) rfl ?_
 refine xij mn (v:=.agg #[.int .i64 (c),.int .i64 (d)]) rfl fun b2=>xcq (L':=[(b2,.cells #[.int .i64 (c),.int .i64 (d)] 43 (0,0)),(b1,.cells #[.int .i64 (a),.int .i64 (b)] 43 (0,0))]) rfl ?_
 refine xfj (tm':=zq4 _) rfl ?_
 refine ro (xax (v:=.int .i64 0) rfl) <| ren ?_
 refine xgx 9 [[],[0],[],[2],[0,1,2,3],[],[5],[],[7],[0,1,2,3,5,6,7,8],[0,1,2,3,4,5,6,7,8],[],[]] xkk (by kernel_rfl) (Nat.le_of_ble_eq_true rfl) ?_
 refine wo (xaz xoj rfl (a':=⟨b1,0,none⟩) rfl) ?_
 refine xbk mn (fun h_ H_=>xaj H_ tA3 rfl (i:=1) rfl (v:=.int .i64 (a)) rfl) (tm':=zq1 (zq2 (zq4 _))) rfl ?_
 refine wo (xaz xoj rfl (a':=⟨b2,0,none⟩) rfl) ?_
 refine xbk mn (fun h_ H_=>xaj H_ tA3 rfl (i:=0) rfl (v:=.int .i64 (c)) rfl) (tm':=zq1 (zq8 _)) rfl ?_
 refine xiv mn (first:=[]) (cap:=[]) rfl rfl wsz (fun h_ H_=>(c101 md _ (a) (c)).mono fun v_ h2_ ⟨e_,k_⟩=>⟨e_,H_.call k_⟩) rfl ?_
 refine wt (xaz xqv rfl (a':=⟨b1,1,none⟩) rfl) (tm':=zq1 (zq2 (zq8 _))) rfl <| wd (fun h_ H_=>xaj H_ tA3 rfl (i:=1) rfl (v:=.int .i64 (b)) rfl) <| wt (xaz xqv rfl (a':=⟨b2,1,none⟩) rfl) (tm':=zq1 (zq16 [])) rfl <| wd (fun h_ H_=>xaj H_ tA3 rfl (i:=0) rfl (v:=.int .i64 (d)) rfl) ?_
 refine xiz rfl ?_
 refine xeq mn (first:=[]) (cap:=[]) rfl rfl wsz (fun h_ H_=>c101 md _ (b) (d)) rfl ?_
 refine xcq (L':=([(b2,.cells #[.int .i64 (c),.int .i64 (d)] 43 (0,0)),(b1,.cells #[.int .i64 (a),.int .i64 (b)] 43 (0,0))]:Pcs)++[]) rfl ?_
 refine xjz ([(b2,.cells #[.int .i64 (c),.int .i64 (d)] 43 (0,0)),(b1,.cells #[.int .i64 (a),.int .i64 (b)] 43 (0,0))]:Pcs) mn Tryd.underlying22 tS3 tZ3 (Nat.le_of_ble_eq_true rfl) (vs:=[(0,.int .i64 (cmpI (a) (c))),(1,.int .i64 (cmpI (b) (d)))]) rfl rfl (es:=[[.int .i64 (cmpI (a) (c))],[.int .i64 (cmpI (b) (d))]]) rfl rfl rfl fun v3 X4 o5=>?_
 refine xfj (tm':=zq1 (zq16 [])) rfl ?_
 refine xeq mn (first:=[]) (cap:=[]) rfl rfl fC75 (fun h_ H_=>yzq (n:=2) o5 rfl H_ (fun x_ h_=>by simp [h_]) fun p_ a_ c_ hp_ _ hv_ D_=>by rw [hv_];exact c75 md _ _ hp_ _ _ _ ([cmpI (a) (c),cmpI (b) (d)]) (show Ints _ _ _ [cmpI (a) (c),cmpI (b) (d)] from D_) (by omega)) rfl ?_
 refine ro (xax (v:=.int .i64 (orI ([cmpI (a) (c),cmpI (b) (d)]))) rfl) <| xak ?_
 refine xdv Tryd.func87 rfl (vs:=[.int .i64 (orI ([cmpI (a) (c),cmpI (b) (d)]))]) (fun h_ H_=>⟨.int .i64 (orI ([cmpI (a) (c),cmpI (b) (d)])),_,rfl,rfl,rfl⟩) (v:=.int .i64 (orI ([cmpI (a) (c),cmpI (b) (d)]))) rfl ?_
 exact fun h_ H_=>K _ _ ⟨rfl,H_.kept⟩
end Go.Proofs.YtalfgojocdonhaaDoor
namespace Go.Proofs.YtalfgojocdonhaaDoor
open Go.X Go.X.Flow Go.Conc
set_option maxRecDepth 10000
set_option synthInstance.maxSize 2000

set_option maxHeartbeats 2000000
theorem c88 (md:Md) (h:Heap) (p:PHeap) (hp:Per p h) (a1:Option Addr) (n1 c1:Nat) (a2:Option Addr) (n2 c2:Nat) (a3:Option Addr) (n3 c3:Nat) (t:Tn) (T:TownP p a1 n1 a2 n2 a3 n3 t) (hn:n1≤40∧n2≤40∧n3≤41):CallsX Tryd.prog md 88 #[.agg #[.slice a1 n1 c1,.slice a2 n2 c2,.slice a3 n3 c3]] h fun v h'=>v= .bool (decide (Vd t))∧Keep h h':=by
 refine xcx (Φ:=fun h_=>St h [] p h_ []) Tryd.func88 rfl (tm:=zq4 (zq16 (zq32 (zq32 [])))) rfl ?_ (St.start h _ hp)
 intro c₀ cs Stop K
 have eH:=T.nH
 have eW:=T.nW
 have eM:=T.m
 refine fsr ?_
 refine xij mn (v:=.agg #[.slice a1 n1 c1,.slice a2 n2 c2,.slice a3 n3 c3]) rfl fun b1=>xcq (L':=[(b1,.cells #[.slice a1 n1 c1,.slice a2 n2 c2,.slice a3 n3 c3] 25 (0,0))]) rfl ?_
 refine ro (xax (v:=.bool (false)) rfl) <| ren <| fsr <| rt (xaz xnx rfl (a':=⟨b1,0,none⟩) rfl) (tm':=zq8 _) rfl <| rd (fun h_ H_=>xaj H_ tA22 rfl (i:=0) rfl (v:=.slice a1 n1 c1) rfl) <| ro (xfz Tryd.underlying22 rfl) ?_
 refine rt (xkq rfl rfl) (tm':=zq1 (zq2 (zq8 _))) rfl <| ro (xaq (v:=.bool (decide (6<((n1:Nat):Int)))) rfl) ?_
 by_cases cc2:6<((n1:Nat):Int)
 ·
  refine rp (mo rfl rfl (dtt cc2)) <| xfx (mo rfl rfl (dtt cc2)) (tm':=zq2 (zq4 (zq8 _))) rfl <| rp (mo rfl rfl (dtt cc2)) <| rp (mo rfl rfl (dtt cc2)) <| rt (xdz rfl (dtt cc2) (v:=.bool (true)) rfl) (tm':=zq1 (zq16 _)) rfl <| xak ?_
  refine xdx rfl rfl <| fsr <| ro (xax (v:=.bool (false)) rfl) <| xak ?_
  refine xdv Tryd.func88 rfl (vs:=[.bool (false)]) (fun h_ H_=>⟨.bool (false),_,rfl,rfl,rfl⟩) (v:=.bool (false)) rfl ?_
  exact fun h_ H_=>K _ _ ⟨by first | (rw [decide_eq_true (p:=Vd t) ⟨by omega,by omega,fun i hi=>h1 i (by omega),fun i hi=>h2 i (by omega),fun i hi=>h3 i (by omega)⟩]) | (rw [decide_eq_false (p:=Vd t) (fun z=>by have z1:=z.nh;have z2:=z.nw;first | omega | (have z3:=z.h k (by omega);omega) | (have z3:=z.w l (by omega);omega) | (rcases z.y r (by omega) with ⟨z3,z4,z5⟩;first | omega | exact absurd (z5 (by omega)) ‹_›))]),H_.kept⟩
 ·
  refine xbx (ms rfl rfl (dff cc2)) (fun h_ H_=>xaz xnk rfl (a':=⟨b1,1,none⟩) rfl) rfl ?_
  refine xbx (ms rfl rfl (dff cc2)) (fun h_ H_=>xaj H_ tA22 rfl (i:=0) rfl (v:=.slice a2 n2 c2) rfl) (tm':=zq2 (zq4 (zq8 _))) rfl ?_
  refine xbx (ms rfl rfl (dff cc2)) (fun h_ H_=>xfz Tryd.underlying22 rfl) rfl ?_
  refine xbx (ms rfl rfl (dff cc2)) (fun h_ H_=>xkq rfl rfl) rfl ?_
  refine rt (xej rfl (dff cc2) (v:=.bool (decide (5<((n2:Nat):Int)))) rfl) (tm':=zq1 (zq16 _)) rfl <| xak ?_
  by_cases cc3:5<((n2:Nat):Int)
  ·
   refine xdx rfl (dtt cc3) <| fsr <| ro (xax (v:=.bool (false)) rfl) <| xak ?_
   refine xdv Tryd.func88 rfl (vs:=[.bool (false)]) (fun h_ H_=>⟨.bool (false),_,rfl,rfl,rfl⟩) (v:=.bool (false)) rfl ?_
   exact fun h_ H_=>K _ _ ⟨by first | (rw [decide_eq_true (p:=Vd t) ⟨by omega,by omega,fun i hi=>h1 i (by omega),fun i hi=>h2 i (by omega),fun i hi=>h3 i (by omega)⟩]) | (rw [decide_eq_false (p:=Vd t) (fun z=>by have z1:=z.nh;have z2:=z.nw;first | omega | (have z3:=z.h k (by omega);omega) | (have z3:=z.w l (by omega);omega) | (rcases z.y r (by omega) with ⟨z3,z4,z5⟩;first | omega | exact absurd (z5 (by omega)) ‹_›))]),H_.kept⟩
  ·
   refine xck rfl (dff cc3) <| xcv <| xez <| fsr <| ro (xax (v:=.int .i64 0) rfl) <| xak ?_
   refine xdj ?_
   refine xhk (m₀:=n1-0) (fun m_ tm_ h_=>∃ (k:Nat),m_=n1-k∧(∃ y4:Nat→Value,tm_=(.agg #[.slice a1 n1 c1,.slice a2 n2 c2,.slice a3 n3 c3]::.pointer (some ⟨b1,0,none⟩)::(y4 2)::.int .i64 (((k:Nat):Int))::undef::undef::undef::.pointer (some ⟨b1,0,none⟩)::.slice a1 n1 c1::.int .i64 (((n1:Nat):Int))::.bool (decide (6<((n1:Nat):Int)))::.bool (decide (6<((n1:Nat):Int)))::.pointer (some ⟨b1,1,none⟩)::.slice a2 n2 c2::.int .i64 (((n2:Nat):Int))::.bool (decide (5<((n2:Nat):Int)))::.bool (decide (5<((n2:Nat):Int)))::(y4 17)::(y4 18)::(y4 19)::(y4 20)::(y4 21)::(y4 22)::(y4 23)::(y4 24)::(y4 25)::(y4 26)::(y4 27)::(y4 28)::(y4 29)::(y4 30)::undef::zu4 (zu16 (zu16 (zu16 [])))))∧(k≤n1)∧(∀ i,i<k→0≤t.hs.getD i 0∧t.hs.getD i 0≤9)∧St h [] p h_ ([(b1,.cells #[.slice a1 n1 c1,.slice a2 n2 c2,.slice a3 n3 c3] 25 (0,0))])) (fun h_ H_=>⟨0,rfl,(y_of rfl),Nat.zero_le _,(fun i hi=>absurd hi (Nat.not_lt_zero i)),H_⟩) ?_
   intro m_ tm_ IH5
   refine xhq fun k=>xcz fun hm_=>xcz fun ht_=>xcz fun hkk=>xcz fun h1=>?_
   subst hm_;obtain ⟨y4,ht_⟩:=ht_;subst ht_
   refine xez <| fsr <| rt (xaq (v:=.int .i64 (((k:Nat):Int))) rfl) (tm':=zq2 (zq16 _)) rfl <| ro (xaz xnx rfl (a':=⟨b1,0,none⟩) rfl) <| rd (fun h_ H_=>xaj H_ tA22 rfl (i:=0) rfl (v:=.slice a1 n1 c1) rfl) <| rt (xfz Tryd.underlying22 rfl) (tm':=zq1 (zq4 (zq16 _))) rfl ?_
   refine ro (xgj rfl rfl) <| xak ?_
   by_cases cc6:((k:Nat):Int)<((n1:Nat):Int)
   ·
    refine xdx rfl (dtt cc6) <| xcv <| xez <| xdj <| fsr <| ro (xaz xnx rfl (a':=⟨b1,0,none⟩) rfl) ?_
    refine xbx mn (fun h_ H_=>xaj H_ tA22 rfl (i:=0) rfl (v:=.slice a1 n1 c1) rfl) (tm':=zq2 (zq8 (zq16 _))) rfl ?_
    refine ro (xaq (v:=.int .i64 (((k:Nat):Int))) rfl) ?_
    refine ro (xbw (i:=k) Tryd.underlying22 tS3 (xjq a1 n1 c1 (T.h.ne (by omega))) rfl (by omega)) ?_
    refine xbx mn (fun h_ H_=>xbj H_ tA3 rfl (v:=.int .i64 (t.hs.getD k 0)) (T.h.get (by omega))) (tm':=zq1 (zq4 (zq8 (zq16 _)))) rfl ?_
    refine xeq mn (first:=[]) (cap:=[]) rfl rfl fC79 (fun h_ H_=>c79 md _ (t.hs.getD k 0) (0) (9)) rfl ?_
    refine ro (xjw rfl) <| xak ?_
    by_cases cc7:0≤t.hs.getD k 0∧t.hs.getD k 0≤9
    ·
     refine xck rfl (xfw (dtt cc7)) <| xcv <| xdq <| xbq <| rt (xaq (v:=.int .i64 (((k:Nat):Int))) rfl) (tm':=zq1 (zq2 (zq4 (zq16 _)))) rfl ?_
     refine ro (xek rfl rfl (n:=((k+1:Nat):Int)) (wr (by omega))) ?_
     refine ro (xax (v:=.int .i64 (((k+1:Nat):Int))) rfl) <| xak ?_
     exact fun h_ H_=>IH5 _ _ (by omega) h_ ⟨k+1,rfl,(y_of rfl),(by omega),(xrw h1 (by omega)),H_⟩
    ·
     refine xdx rfl (xmz (dff cc7)) <| fsr <| rt (xax (v:=.bool (false)) rfl) (tm':=_::_::_::_) rfl <| xak ?_
     refine xdv Tryd.func88 rfl (vs:=[.bool (false)]) (fun h_ H_=>⟨.bool (false),_,rfl,rfl,rfl⟩) (v:=.bool (false)) rfl ?_
     exact fun h_ H_=>K _ _ ⟨by first | (rw [decide_eq_true (p:=Vd t) ⟨by omega,by omega,fun i hi=>h1 i (by omega),fun i hi=>h2 i (by omega),fun i hi=>h3 i (by omega)⟩]) | (rw [decide_eq_false (p:=Vd t) (fun z=>by have z1:=z.nh;have z2:=z.nw;first | omega | (have z3:=z.h k (by omega);omega) | (have z3:=z.w l (by omega);omega) | (rcases z.y r (by omega) with ⟨z3,z4,z5⟩;first | omega | exact absurd (z5 (by omega)) ‹_›))]),H_.kept⟩
   ·
    refine xck rfl (dff cc6) <| xhz rfl <| xez <| fsr <| ro (xax (v:=.int .i64 0) rfl) <| xak ?_
    refine xdj ?_
    refine xhk (m₀:=n2-0) (fun m_ tm_ h_=>∃ (l:Nat),m_=n2-l∧(∃ y8:Nat→Value,tm_=(.agg #[.slice a1 n1 c1,.slice a2 n2 c2,.slice a3 n3 c3]::.pointer (some ⟨b1,0,none⟩)::(y8 2)::.int .i64 (((k:Nat):Int))::.int .i64 (((l:Nat):Int))::undef::undef::.pointer (some ⟨b1,0,none⟩)::.slice a1 n1 c1::.int .i64 (((n1:Nat):Int))::.bool (decide (6<((n1:Nat):Int)))::.bool (decide (6<((n1:Nat):Int)))::.pointer (some ⟨b1,1,none⟩)::.slice a2 n2 c2::.int .i64 (((n2:Nat):Int))::.bool (decide (5<((n2:Nat):Int)))::.bool (decide (5<((n2:Nat):Int)))::.int .i64 (((k:Nat):Int))::.pointer (some ⟨b1,0,none⟩)::.slice a1 n1 c1::.int .i64 (((n1:Nat):Int))::.bool (decide (((k:Nat):Int)<((n1:Nat):Int)))::(y4 22)::(y4 23)::(y4 24)::(y4 25)::(y4 26)::(y4 27)::(y4 28)::(y4 29)::(y4 30)::(y8 31)::(y8 32)::(y8 33)::(y8 34)::(y8 35)::(y8 36)::(y8 37)::(y8 38)::(y8 39)::(y8 40)::(y8 41)::(y8 42)::(y8 43)::(y8 44)::undef::undef::undef::zu4 (zu16 (zu16 []))))∧(l≤n2)∧(∀ i,i<l→0≤t.ws.getD i 0∧t.ws.getD i 0≤20)∧St h [] p h_ ([(b1,.cells #[.slice a1 n1 c1,.slice a2 n2 c2,.slice a3 n3 c3] 25 (0,0))])) (fun h_ H_=>⟨0,rfl,(y_of rfl),Nat.zero_le _,(fun i hi=>absurd hi (Nat.not_lt_zero i)),H_⟩) ?_
    intro m_ tm_ IH9
    refine xhq fun l=>xcz fun hm_=>xcz fun ht_=>xcz fun hkl=>xcz fun h2=>?_
    subst hm_;obtain ⟨y8,ht_⟩:=ht_;subst ht_
    refine xez <| fsr <| ro (xaq (v:=.int .i64 (((l:Nat):Int))) rfl) <| rt (xaz xnk rfl (a':=⟨b1,1,none⟩) rfl) (tm':=zq1 (zq32 _)) rfl <| rd (fun h_ H_=>xaj H_ tA22 rfl (i:=0) rfl (v:=.slice a2 n2 c2) rfl) <| ro (xfz Tryd.underlying22 rfl) ?_
    refine rt (xgj rfl rfl) (tm':=zq4 (zq32 _)) rfl <| xak ?_
    by_cases cc10:((l:Nat):Int)<((n2:Nat):Int)
    ·
     refine xdx rfl (dtt cc10) <| xcv <| xez <| xdj <| fsr <| ro (xaz xnk rfl (a':=⟨b1,1,none⟩) rfl) ?_
     refine rd (fun h_ H_=>xaj H_ tA22 rfl (i:=0) rfl (v:=.slice a2 n2 c2) rfl) <| rt (xaq (v:=.int .i64 (((l:Nat):Int))) rfl) (tm':=zq1 (zq8 (zq32 _))) rfl ?_
     refine ro (xbw (i:=l) Tryd.underlying22 tS3 (xjq a2 n2 c2 (T.w.ne (by omega))) rfl (by omega)) ?_
     refine rd (fun h_ H_=>xbj H_ tA3 rfl (v:=.int .i64 (t.ws.getD l 0)) (T.w.get (by omega))) ?_
     refine xeq mn (first:=[]) (cap:=[]) rfl rfl fC79 (fun h_ H_=>c79 md _ (t.ws.getD l 0) (0) (20)) (tm':=zq4 (zq8 (zq32 _))) rfl ?_
     refine ro (xjw rfl) <| xak ?_
     by_cases cc11:0≤t.ws.getD l 0∧t.ws.getD l 0≤20
     ·
      refine xck rfl (xfw (dtt cc11)) <| xcv <| xdq <| xbq <| ro (xaq (v:=.int .i64 (((l:Nat):Int))) rfl) ?_
      refine rt (xek rfl rfl (n:=((l+1:Nat):Int)) (wr (by omega))) (tm':=zq2 (zq4 (zq32 _))) rfl ?_
      refine ro (xax (v:=.int .i64 (((l+1:Nat):Int))) rfl) <| xak ?_
      exact fun h_ H_=>IH9 _ _ (by omega) h_ ⟨l+1,rfl,(y_of rfl),(by omega),(xrw h2 (by omega)),H_⟩
     ·
      refine xdx rfl (xmz (dff cc11)) <| fsr <| ro (xax (v:=.bool (false)) rfl) <| xak ?_
      refine xdv Tryd.func88 rfl (vs:=[.bool (false)]) (fun h_ H_=>⟨.bool (false),_,rfl,rfl,rfl⟩) (v:=.bool (false)) rfl ?_
      exact fun h_ H_=>K _ _ ⟨by first | (rw [decide_eq_true (p:=Vd t) ⟨by omega,by omega,fun i hi=>h1 i (by omega),fun i hi=>h2 i (by omega),fun i hi=>h3 i (by omega)⟩]) | (rw [decide_eq_false (p:=Vd t) (fun z=>by have z1:=z.nh;have z2:=z.nw;first | omega | (have z3:=z.h k (by omega);omega) | (have z3:=z.w l (by omega);omega) | (rcases z.y r (by omega) with ⟨z3,z4,z5⟩;first | omega | exact absurd (z5 (by omega)) ‹_›))]),H_.kept⟩
    ·
     refine xck rfl (dff cc10) <| xhz rfl <| xez <| fsr <| rt (xax (v:=.int .i64 0) rfl) (tm':=zq2 (zq4 _)) rfl <| xak ?_
     refine xdj ?_
     refine xhk (m₀:=n3-0) (fun m_ tm_ h_=>∃ (r:Nat),m_=n3-r∧(∃ y12:Nat→Value,tm_=[.agg #[.slice a1 n1 c1,.slice a2 n2 c2,.slice a3 n3 c3],.pointer (some ⟨b1,0,none⟩),(y12 2),.int .i64 (((k:Nat):Int)),.int .i64 (((l:Nat):Int)),.int .i64 (((r:Nat):Int)),(y12 6),.pointer (some ⟨b1,0,none⟩),.slice a1 n1 c1,.int .i64 (((n1:Nat):Int)),.bool (decide (6<((n1:Nat):Int))),.bool (decide (6<((n1:Nat):Int))),.pointer (some ⟨b1,1,none⟩),.slice a2 n2 c2,.int .i64 (((n2:Nat):Int)),.bool (decide (5<((n2:Nat):Int))),.bool (decide (5<((n2:Nat):Int))),.int .i64 (((k:Nat):Int)),.pointer (some ⟨b1,0,none⟩),.slice a1 n1 c1,.int .i64 (((n1:Nat):Int)),.bool (decide (((k:Nat):Int)<((n1:Nat):Int))),(y4 22),(y4 23),(y4 24),(y4 25),(y4 26),(y4 27),(y4 28),(y4 29),(y4 30),.int .i64 (((l:Nat):Int)),.pointer (some ⟨b1,1,none⟩),.slice a2 n2 c2,.int .i64 (((n2:Nat):Int)),.bool (decide (((l:Nat):Int)<((n2:Nat):Int))),(y8 36),(y8 37),(y8 38),(y8 39),(y8 40),(y8 41),(y8 42),(y8 43),(y8 44),(y12 45),(y12 46),(y12 47),(y12 48),(y12 49),(y12 50),(y12 51),(y12 52),(y12 53),(y12 54),(y12 55),(y12 56),(y12 57),(y12 58),(y12 59),(y12 60),(y12 61),(y12 62),(y12 63),(y12 64),(y12 65),(y12 66),(y12 67),(y12 68),(y12 69),(y12 70),(y12 71),(y12 72),(y12 73),(y12 74),(y12 75),(y12 76),(y12 77),(y12 78),(y12 79),(y12 80),(y12 81),(y12 82),(y12 83)])∧(r≤n3)∧(∀ i,i<r→YOk t i)∧St h [] p h_ ([(b1,.cells #[.slice a1 n1 c1,.slice a2 n2 c2,.slice a3 n3 c3] 25 (0,0))])) (fun h_ H_=>⟨0,rfl,(y_of rfl),Nat.zero_le _,(fun i hi=>absurd hi (Nat.not_lt_zero i)),H_⟩) ?_
     intro m_ tm_ IH13
     refine xhq fun r=>xcz fun hm_=>xcz fun ht_=>xcz fun hkr=>xcz fun h3=>?_
     subst hm_;obtain ⟨y12,ht_⟩:=ht_;subst ht_
     refine xez <| fsr <| ro (xaq (v:=.int .i64 (((r:Nat):Int))) rfl) <| ro (xaz xhj rfl (a':=⟨b1,2,none⟩) rfl) ?_
     refine xbx mn (fun h_ H_=>xaj H_ tA23 rfl (i:=0) rfl (v:=.slice a3 n3 c3) rfl) (tm':=zq16 (zq32 _)) rfl ?_
     refine ro (xfz Tryd.underlying23 rfl) <| ro (xgj rfl rfl) <| xak ?_
     by_cases cc14:((r:Nat):Int)<((n3:Nat):Int)
     ·
      refine xdx rfl (dtt cc14) <| xcv <| xez <| xdj <| fsr <| rt (xaz xhj rfl (a':=⟨b1,2,none⟩) rfl) (tm':=zq1 (zq4 (zq16 (zq32 _)))) rfl ?_
      refine rd (fun h_ H_=>xaj H_ tA23 rfl (i:=0) rfl (v:=.slice a3 n3 c3) rfl) <| ro (xaq (v:=.int .i64 (((r:Nat):Int))) rfl) ?_
      refine rt (xbw (i:=r) Tryd.underlying23 tS43 (xjq a3 n3 c3 (T.y.ne (by omega))) rfl (by omega)) (tm':=zq8 (zq16 (zq32 _))) rfl ?_
      refine rd (fun h_ H_=>xgw H_ tA43 tS43 rfl (vs:=[.int .i64 ((t.wy.getD r wz).1),.int .i64 ((t.wy.getD r wz).2)]) rfl (T.y.all (by omega))) ?_
      refine xkx mn tZ43 rfl fun b15=>xcq (L':=[(b15,.cells #[.int .i64 0,.int .i64 0] 43 (0,0)),(b1,.cells #[.slice a1 n1 c1,.slice a2 n2 c2,.slice a3 n3 c3] 25 (0,0))]) rfl ?_
      refine xik mn tS43 rfl (v:=.agg #[.int .i64 ((t.wy.getD r wz).1),.int .i64 ((t.wy.getD r wz).2)]) rfl (i:=0) rfl rfl rfl (Nat.le_of_ble_eq_true rfl) (cs2:=[.int .i64 ((t.wy.getD r wz).1),.int .i64 ((t.wy.getD r wz).2)]) rfl (xcq (L':=[(b15,.cells #[.int .i64 ((t.wy.getD r wz).1),.int .i64 ((t.wy.getD r wz).2)] 43 (0,0)),(b1,.cells #[.slice a1 n1 c1,.slice a2 n2 c2,.slice a3 n3 c3] 25 (0,0))]) rfl ?_)
      refine ren ?_
      by_cases cc16:0≤(t.wy.getD r wz).1∧(t.wy.getD r wz).1≤(t.nH:Int)-1
      ·
       by_cases cc17:0≤(t.wy.getD r wz).2∧(t.wy.getD r wz).2≤(t.nW:Int)-1
       ·
        by_cases cc18:0<((r:Nat):Int)
        ·
         refine xgx 23 [[],[],[1],[0,1,2],[0,1,2],[0,1,2,3,4],[],[0,1,2,3,4],[0,1,2,3,4,7],[0,1,2,3,4,6,7,8],[0,1,2,3,4,6,7,8],[0,1,2,3,4,5,6,7,8,10],[0,1,2,3,4,5,6,7,8,9,10,11],[0,1,2,3,4,5,6,7,8,9,10,11],[0,1,2,3,4,5,6,7,8,9,10,11,13],[0,1,2,3,4,5,6,7,8,9,10,11,12,13,14],[],[16],[],[18],[16,17,18,19],[16,17,18,19,20],[0,1,2,3,4,5,6,7,8,9,10,11,12,13,14],[0,1,2,3,4,5,6,7,8,9,10,11,12,13,14,16,17,18,19,20,21,22],[0,1,2,3,4,5,6,7,8,9,10,11,13,14,16,17,18,19,20,21,22,23],[0,1,2,3,4,5,6,7,8,9,10,11,13,14,15,16,17,18,19,20,21,22,23,24],[]] xkk (by kernel_rfl) (Nat.le_of_ble_eq_true rfl) ?_
         refine wd (fun h_ H_=>xav H_ tA25 tS25 rfl (i:=1) rfl (vs:=[.slice a1 n1 c1,.slice a2 n2 c2,.slice a3 n3 c3]) rfl rfl) <| wt (xaz xoj rfl (a':=⟨b15,0,none⟩) rfl) (tm':=zq4 (zq16 (zq32 (zq32 [])))) rfl <| wd (fun h_ H_=>xaj H_ tA3 rfl (i:=0) rfl (v:=.int .i64 ((t.wy.getD r wz).1)) rfl) ?_
         refine xiv mn (first:=[]) (cap:=[]) rfl rfl fC33 (fun h_ H_=>(c33 md _ _ H_.pe _ _ _ _ _ _ _ _ _ t (show TownP _ _ _ _ _ _ _ t from ⟨T.h,T.w,T.y⟩) (by omega) ((t.wy.getD r wz).1)).mono fun v_ h2_ ⟨e_,k_⟩=>⟨e_,H_.call k_⟩) (tm':=zq4 (zq16 (zq32 (zq32 [])))) rfl ?_
         refine wo (xjw rfl) <| wt (xaq (v:=.bool (!(decide (0≤(t.wy.getD r wz).1∧(t.wy.getD r wz).1≤(t.nH:Int)-1)))) rfl) (tm':=zq4 (zq16 (zq32 (zq32 [])))) rfl ?_
         refine xbk (ms rfl rfl (xfw (dtt cc16))) (fun h_ H_=>xav H_ tA25 tS25 rfl (i:=1) rfl (vs:=[.slice a1 n1 c1,.slice a2 n2 c2,.slice a3 n3 c3]) rfl rfl) rfl ?_
         refine xbk (ms rfl rfl (xfw (dtt cc16))) (fun h_ H_=>xaz xqv rfl (a':=⟨b15,1,none⟩) rfl) (tm':=zq4 (zq16 (zq32 (zq32 [])))) rfl ?_
         refine xbk (ms rfl rfl (xfw (dtt cc16))) (fun h_ H_=>xaj H_ tA3 rfl (i:=0) rfl (v:=.int .i64 ((t.wy.getD r wz).2)) rfl) rfl ?_
         refine xiv (ms rfl rfl (xfw (dtt cc16))) (first:=[]) (cap:=[]) rfl rfl fC57 (fun h_ H_=>(c57 md _ _ H_.pe _ _ _ _ _ _ _ _ _ t (show TownP _ _ _ _ _ _ _ t from ⟨T.h,T.w,T.y⟩) (by omega) ((t.wy.getD r wz).2)).mono fun v_ h2_ ⟨e_,k_⟩=>⟨e_,H_.call k_⟩) (tm':=zq4 (zq16 (zq32 (zq32 [])))) rfl ?_
         refine xbk (ms rfl rfl (xfw (dtt cc16))) (fun h_ H_=>xjw rfl) rfl ?_
         refine wt (xej rfl (xfw (dtt cc16)) (v:=.bool (!(decide (0≤(t.wy.getD r wz).2∧(t.wy.getD r wz).2≤(t.nW:Int)-1)))) rfl) (tm':=zq4 (zq16 (zq32 (zq32 [])))) rfl <| wo (xaq (v:=.bool (!(decide (0≤(t.wy.getD r wz).2∧(t.wy.getD r wz).2≤(t.nW:Int)-1)))) rfl) ?_
         refine xbk (ms rfl rfl (xfw (dtt cc17))) (fun h_ H_=>xaq (v:=.int .i64 (((r:Nat):Int))) rfl) (tm':=zq4 (zq16 (zq32 (zq32 [])))) rfl ?_
         refine xbk (ms rfl rfl (xfw (dtt cc17))) (fun h_ H_=>xkq rfl rfl) rfl ?_
         refine xbk (ms rfl rfl (xfw (dtt cc17))) (fun h_ H_=>xaq (v:=.bool (decide (0<((r:Nat):Int)))) rfl) (tm':=zq4 (zq16 (zq32 (zq32 [])))) rfl ?_
         refine xbk (ms rfl rfl (dtt cc18)) (fun h_ H_=>xaz xhj rfl (a':=⟨b1,2,none⟩) rfl) rfl ?_
         refine xbk (ms rfl rfl (dtt cc18)) (fun h_ H_=>xaj H_ tA23 rfl (i:=1) rfl (v:=.slice a3 n3 c3) rfl) (tm':=zq4 (zq16 (zq32 (zq32 [])))) rfl ?_
         refine xbk (ms rfl rfl (dtt cc18)) (fun h_ H_=>xaq (v:=.int .i64 (((r:Nat):Int))) rfl) rfl ?_
         refine xbk (ms rfl rfl (dtt cc18)) (fun h_ H_=>xkj rfl rfl (wr (by omega))) (tm':=zq4 (zq16 (zq32 (zq32 [])))) rfl ?_
         refine xbk (ms rfl rfl (dtt cc18)) (fun h_ H_=>xkz Tryd.underlying23 tS43 (xjq a3 n3 c3 (T.y.ne (by omega))) rfl (by omega) (by omega) (a':=(adr a3).add ((((((r:Nat):Int)-1)).toNat)*2)) rfl) rfl ?_
         refine xbk (ms rfl rfl (dtt cc18)) (fun h_ H_=>xgw H_ tA43 tS43 rfl (vs:=[.int .i64 ((t.wy.getD (((((r:Nat):Int)-1)).toNat) wz).1),.int .i64 ((t.wy.getD (((((r:Nat):Int)-1)).toNat) wz).2)]) rfl (T.y.all (by omega))) (tm':=zq4 (zq16 (zq32 (zq32 [])))) rfl ?_
         refine xbk (ms rfl rfl (dtt cc18)) (fun h_ H_=>xav H_ tA43 tS43 rfl (i:=0) rfl (vs:=[.int .i64 ((t.wy.getD r wz).1),.int .i64 ((t.wy.getD r wz).2)]) rfl rfl) rfl ?_
         refine xiz rfl ?_
         refine xeq (ms rfl rfl (dtt cc18)) (first:=[]) (cap:=[]) rfl rfl fC77 (fun h_ H_=>c77 md _ ((t.wy.getD (((((r:Nat):Int)-1)).toNat) wz).1) ((t.wy.getD (((((r:Nat):Int)-1)).toNat) wz).2) ((t.wy.getD r wz).1) ((t.wy.getD r wz).2)) rfl ?_
         refine xbx (ms rfl rfl (dtt cc18)) (fun h_ H_=>xjw rfl) rfl ?_
         refine xbx (ms rfl rfl (xfw (dtt cc17))) (fun h_ H_=>xdz rfl (dtt cc18) (v:=.bool (!(decide (Bf (((t.wy.getD (((((r:Nat):Int)-1)).toNat) wz).1,(t.wy.getD (((((r:Nat):Int)-1)).toNat) wz).2):FWay) (((t.wy.getD r wz).1,(t.wy.getD r wz).2):FWay))))) rfl) (tm':=zq4 (zq16 (zq32 (zq32 [])))) rfl ?_
         refine ro (xej rfl (xfw (dtt cc17)) (v:=.bool (!(decide (Bf (((t.wy.getD (((((r:Nat):Int)-1)).toNat) wz).1,(t.wy.getD (((((r:Nat):Int)-1)).toNat) wz).2):FWay) (((t.wy.getD r wz).1,(t.wy.getD r wz).2):FWay))))) rfl) <| xak ?_
         by_cases cc19:Bf (((t.wy.getD (((((r:Nat):Int)-1)).toNat) wz).1,(t.wy.getD (((((r:Nat):Int)-1)).toNat) wz).2):FWay) (((t.wy.getD r wz).1,(t.wy.getD r wz).2):FWay)
         ·
          refine xck rfl (xfw (dtt cc19)) <| xcv <| xdq <| xbq <| ro (xaq (v:=.int .i64 (((r:Nat):Int))) rfl) ?_
          refine rt (xek rfl rfl (n:=((r+1:Nat):Int)) (wr (by omega))) (tm':=zq4 (zq16 (zq32 _))) rfl ?_
          refine ro (xax (v:=.int .i64 (((r+1:Nat):Int))) rfl) <| xak ?_
          exact fun h_ H_=>IH13 _ _ (by omega) h_ ⟨r+1,rfl,(y_of rfl),(by omega),(xrw h3 ⟨by omega,by omega,fun _=>by first | assumption | omega⟩),H_.drop⟩
         ·
          refine xdx rfl (xmz (dff cc19)) <| fsr <| ro (xax (v:=.bool (false)) rfl) <| xak ?_
          refine xdv Tryd.func88 rfl (vs:=[.bool (false)]) (fun h_ H_=>⟨.bool (false),_,rfl,rfl,rfl⟩) (v:=.bool (false)) rfl ?_
          exact fun h_ H_=>K _ _ ⟨by first | (rw [decide_eq_true (p:=Vd t) ⟨by omega,by omega,fun i hi=>h1 i (by omega),fun i hi=>h2 i (by omega),fun i hi=>h3 i (by omega)⟩]) | (rw [decide_eq_false (p:=Vd t) (fun z=>by have z1:=z.nh;have z2:=z.nw;first | omega | (have z3:=z.h k (by omega);omega) | (have z3:=z.w l (by omega);omega) | (rcases z.y r (by omega) with ⟨z3,z4,z5⟩;first | omega | exact absurd (z5 (by omega)) ‹_›))]),H_.kept⟩
        ·
         refine xgx 23 [[],[],[1],[0,1,2],[0,1,2],[0,1,2,3,4],[],[0,1,2,3,4],[0,1,2,3,4,7],[0,1,2,3,4,6,7,8],[0,1,2,3,4,6,7,8],[0,1,2,3,4,5,6,7,8,10],[0,1,2,3,4,5,6,7,8,9,10,11],[0,1,2,3,4,5,6,7,8,9,10,11],[0,1,2,3,4,5,6,7,8,9,10,11,13],[0,1,2,3,4,5,6,7,8,9,10,11,12,13,14],[],[16],[],[18],[16,17,18,19],[16,17,18,19,20],[0,1,2,3,4,5,6,7,8,9,10,11,12,13,14],[0,1,2,3,4,5,6,7,8,9,10,11,12,13,14,16,17,18,19,20,21,22],[0,1,2,3,4,5,6,7,8,9,10,11,13,14,16,17,18,19,20,21,22,23],[0,1,2,3,4,5,6,7,8,9,10,11,13,14,15,16,17,18,19,20,21,22,23,24],[]] xkk (by kernel_rfl) (Nat.le_of_ble_eq_true rfl) ?_
         refine xbk mn (fun h_ H_=>xav H_ tA25 tS25 rfl (i:=1) rfl (vs:=[.slice a1 n1 c1,.slice a2 n2 c2,.slice a3 n3 c3]) rfl rfl) (tm':=zq4 (zq16 (zq32 (zq32 [])))) rfl ?_
         refine wo (xaz xoj rfl (a':=⟨b15,0,none⟩) rfl) ?_
         refine xbk mn (fun h_ H_=>xaj H_ tA3 rfl (i:=0) rfl (v:=.int .i64 ((t.wy.getD r wz).1)) rfl) (tm':=zq4 (zq16 (zq32 (zq32 [])))) rfl ?_
         refine xiv mn (first:=[]) (cap:=[]) rfl rfl fC33 (fun h_ H_=>(c33 md _ _ H_.pe _ _ _ _ _ _ _ _ _ t (show TownP _ _ _ _ _ _ _ t from ⟨T.h,T.w,T.y⟩) (by omega) ((t.wy.getD r wz).1)).mono fun v_ h2_ ⟨e_,k_⟩=>⟨e_,H_.call k_⟩) rfl ?_
         refine wt (xjw rfl) (tm':=zq4 (zq16 (zq32 (zq32 [])))) rfl <| wo (xaq (v:=.bool (!(decide (0≤(t.wy.getD r wz).1∧(t.wy.getD r wz).1≤(t.nH:Int)-1)))) rfl) ?_
         refine xbk (ms rfl rfl (xfw (dtt cc16))) (fun h_ H_=>xav H_ tA25 tS25 rfl (i:=1) rfl (vs:=[.slice a1 n1 c1,.slice a2 n2 c2,.slice a3 n3 c3]) rfl rfl) (tm':=zq4 (zq16 (zq32 (zq32 [])))) rfl ?_
         refine xbk (ms rfl rfl (xfw (dtt cc16))) (fun h_ H_=>xaz xqv rfl (a':=⟨b15,1,none⟩) rfl) rfl ?_
         refine xbk (ms rfl rfl (xfw (dtt cc16))) (fun h_ H_=>xaj H_ tA3 rfl (i:=0) rfl (v:=.int .i64 ((t.wy.getD r wz).2)) rfl) (tm':=zq4 (zq16 (zq32 (zq32 [])))) rfl ?_
         refine xiv (ms rfl rfl (xfw (dtt cc16))) (first:=[]) (cap:=[]) rfl rfl fC57 (fun h_ H_=>(c57 md _ _ H_.pe _ _ _ _ _ _ _ _ _ t (show TownP _ _ _ _ _ _ _ t from ⟨T.h,T.w,T.y⟩) (by omega) ((t.wy.getD r wz).2)).mono fun v_ h2_ ⟨e_,k_⟩=>⟨e_,H_.call k_⟩) rfl ?_
         refine xbk (ms rfl rfl (xfw (dtt cc16))) (fun h_ H_=>xjw rfl) (tm':=zq4 (zq16 (zq32 (zq32 [])))) rfl ?_
         refine wo (xej rfl (xfw (dtt cc16)) (v:=.bool (!(decide (0≤(t.wy.getD r wz).2∧(t.wy.getD r wz).2≤(t.nW:Int)-1)))) rfl) <| wt (xaq (v:=.bool (!(decide (0≤(t.wy.getD r wz).2∧(t.wy.getD r wz).2≤(t.nW:Int)-1)))) rfl) (tm':=zq4 (zq16 (zq32 (zq32 [])))) rfl ?_
         refine xbk (ms rfl rfl (xfw (dtt cc17))) (fun h_ H_=>xaq (v:=.int .i64 (((r:Nat):Int))) rfl) rfl ?_
         refine xbk (ms rfl rfl (xfw (dtt cc17))) (fun h_ H_=>xkq rfl rfl) (tm':=zq4 (zq16 (zq32 (zq32 [])))) rfl ?_
         refine xbk (ms rfl rfl (xfw (dtt cc17))) (fun h_ H_=>xaq (v:=.bool (decide (0<((r:Nat):Int)))) rfl) rfl ?_
         refine xex (mo rfl rfl (dff cc18)) (tm':=zq4 (zq16 (zq32 (zq32 [])))) rfl <| wp (mo rfl rfl (dff cc18)) <| xex (mo rfl rfl (dff cc18)) (tm':=zq4 (zq16 (zq32 (zq32 [])))) rfl <| wp (mo rfl rfl (dff cc18)) <| xex (mo rfl rfl (dff cc18)) (tm':=zq4 (zq16 (zq32 (zq32 [])))) rfl <| wp (mo rfl rfl (dff cc18)) ?_
         refine xex (mo rfl rfl (dff cc18)) (tm':=zq4 (zq16 (zq32 (zq32 [])))) rfl ?_
         refine xiz rfl ?_
         refine rp (mo rfl rfl (dff cc18)) <| xfx (mo rfl rfl (dff cc18)) (tm':=zq4 (zq16 (zq32 (zq32 [])))) rfl ?_
         refine xbx (ms rfl rfl (xfw (dtt cc17))) (fun h_ H_=>xej rfl (dff cc18) (v:=.bool (false)) rfl) rfl ?_
         refine ro (xej rfl (xfw (dtt cc17)) (v:=.bool (false)) rfl) <| xak <| xck rfl rfl <| xcv <| xdq <| xbq ?_
         refine rt (xaq (v:=.int .i64 (((r:Nat):Int))) rfl) (tm':=zq1 (zq2 (zq16 (zq32 _)))) rfl ?_
         refine ro (xek rfl rfl (n:=((r+1:Nat):Int)) (wr (by omega))) ?_
         refine ro (xax (v:=.int .i64 (((r+1:Nat):Int))) rfl) <| xak ?_
         exact fun h_ H_=>IH13 _ _ (by omega) h_ ⟨r+1,rfl,(y_of rfl),(by omega),(xrw h3 ⟨by omega,by omega,fun _=>by first | assumption | omega⟩),H_.drop⟩
       ·
        refine xgx 23 [[],[],[1],[0,1,2],[0,1,2],[0,1,2,3,4],[],[0,1,2,3,4],[0,1,2,3,4,7],[0,1,2,3,4,6,7,8],[0,1,2,3,4,6,7,8],[0,1,2,3,4,5,6,7,8,10],[0,1,2,3,4,5,6,7,8,9,10,11],[0,1,2,3,4,5,6,7,8,9,10,11],[0,1,2,3,4,5,6,7,8,9,10,11,13],[0,1,2,3,4,5,6,7,8,9,10,11,12,13,14],[],[16],[],[18],[16,17,18,19],[16,17,18,19,20],[0,1,2,3,4,5,6,7,8,9,10,11,12,13,14],[0,1,2,3,4,5,6,7,8,9,10,11,12,13,14,16,17,18,19,20,21,22],[0,1,2,3,4,5,6,7,8,9,10,11,13,14,16,17,18,19,20,21,22,23],[0,1,2,3,4,5,6,7,8,9,10,11,13,14,15,16,17,18,19,20,21,22,23,24],[]] xkk (by kernel_rfl) (Nat.le_of_ble_eq_true rfl) ?_
        refine xbk mn (fun h_ H_=>xav H_ tA25 tS25 rfl (i:=1) rfl (vs:=[.slice a1 n1 c1,.slice a2 n2 c2,.slice a3 n3 c3]) rfl rfl) (tm':=zq4 (zq16 (zq32 (zq32 [])))) rfl ?_
        refine wo (xaz xoj rfl (a':=⟨b15,0,none⟩) rfl) ?_
        refine xbk mn (fun h_ H_=>xaj H_ tA3 rfl (i:=0) rfl (v:=.int .i64 ((t.wy.getD r wz).1)) rfl) (tm':=zq4 (zq16 (zq32 (zq32 [])))) rfl ?_
        refine xiv mn (first:=[]) (cap:=[]) rfl rfl fC33 (fun h_ H_=>(c33 md _ _ H_.pe _ _ _ _ _ _ _ _ _ t (show TownP _ _ _ _ _ _ _ t from ⟨T.h,T.w,T.y⟩) (by omega) ((t.wy.getD r wz).1)).mono fun v_ h2_ ⟨e_,k_⟩=>⟨e_,H_.call k_⟩) rfl ?_
        refine wt (xjw rfl) (tm':=zq4 (zq16 (zq32 (zq32 [])))) rfl <| wo (xaq (v:=.bool (!(decide (0≤(t.wy.getD r wz).1∧(t.wy.getD r wz).1≤(t.nH:Int)-1)))) rfl) ?_
        refine xbk (ms rfl rfl (xfw (dtt cc16))) (fun h_ H_=>xav H_ tA25 tS25 rfl (i:=1) rfl (vs:=[.slice a1 n1 c1,.slice a2 n2 c2,.slice a3 n3 c3]) rfl rfl) (tm':=zq4 (zq16 (zq32 (zq32 [])))) rfl ?_
        refine xbk (ms rfl rfl (xfw (dtt cc16))) (fun h_ H_=>xaz xqv rfl (a':=⟨b15,1,none⟩) rfl) rfl ?_
        refine xbk (ms rfl rfl (xfw (dtt cc16))) (fun h_ H_=>xaj H_ tA3 rfl (i:=0) rfl (v:=.int .i64 ((t.wy.getD r wz).2)) rfl) (tm':=zq4 (zq16 (zq32 (zq32 [])))) rfl ?_
        refine xiv (ms rfl rfl (xfw (dtt cc16))) (first:=[]) (cap:=[]) rfl rfl fC57 (fun h_ H_=>(c57 md _ _ H_.pe _ _ _ _ _ _ _ _ _ t (show TownP _ _ _ _ _ _ _ t from ⟨T.h,T.w,T.y⟩) (by omega) ((t.wy.getD r wz).2)).mono fun v_ h2_ ⟨e_,k_⟩=>⟨e_,H_.call k_⟩) rfl ?_
        refine xbk (ms rfl rfl (xfw (dtt cc16))) (fun h_ H_=>xjw rfl) (tm':=zq4 (zq16 (zq32 (zq32 [])))) rfl ?_
        refine wo (xej rfl (xfw (dtt cc16)) (v:=.bool (!(decide (0≤(t.wy.getD r wz).2∧(t.wy.getD r wz).2≤(t.nW:Int)-1)))) rfl) <| wt (xaq (v:=.bool (!(decide (0≤(t.wy.getD r wz).2∧(t.wy.getD r wz).2≤(t.nW:Int)-1)))) rfl) (tm':=zq4 (zq16 (zq32 (zq32 [])))) rfl <| wp (mo rfl rfl (xmz (dff cc17))) <| xex (mo rfl rfl (xmz (dff cc17))) (tm':=zq4 (zq16 (zq32 (zq32 [])))) rfl <| wp (mo rfl rfl (xmz (dff cc17))) <| xex (xew rfl rfl) (tm':=zq4 (zq16 (zq32 (zq32 [])))) rfl ?_
        refine wp (xew rfl rfl) <| xex (xew rfl rfl) (tm':=zq4 (zq16 (zq32 (zq32 [])))) rfl <| wp (xew rfl rfl) <| xex (xew rfl rfl) (tm':=zq4 (zq16 (zq32 (zq32 [])))) rfl <| wp (xew rfl rfl) <| xex (xew rfl rfl) (tm':=zq4 (zq16 (zq32 (zq32 [])))) rfl ?_
        refine xiz rfl ?_
        refine rp (xew rfl rfl) <| xfx (xew rfl rfl) (tm':=zq4 (zq16 (zq32 (zq32 [])))) rfl <| rp (mo rfl rfl (xmz (dff cc17))) <| ro (xdz rfl (xmz (dff cc17)) (v:=.bool (true)) rfl) <| xak <| xdx rfl rfl ?_
        refine fsr <| rt (xax (v:=.bool (false)) rfl) (tm':=_::_::_::_) rfl <| xak ?_
        refine xdv Tryd.func88 rfl (vs:=[.bool (false)]) (fun h_ H_=>⟨.bool (false),_,rfl,rfl,rfl⟩) (v:=.bool (false)) rfl ?_
        exact fun h_ H_=>K _ _ ⟨by first | (rw [decide_eq_true (p:=Vd t) ⟨by omega,by omega,fun i hi=>h1 i (by omega),fun i hi=>h2 i (by omega),fun i hi=>h3 i (by omega)⟩]) | (rw [decide_eq_false (p:=Vd t) (fun z=>by have z1:=z.nh;have z2:=z.nw;first | omega | (have z3:=z.h k (by omega);omega) | (have z3:=z.w l (by omega);omega) | (rcases z.y r (by omega) with ⟨z3,z4,z5⟩;first | omega | exact absurd (z5 (by omega)) ‹_›))]),H_.kept⟩
      ·
       refine xgx 23 [[],[],[1],[0,1,2],[0,1,2],[0,1,2,3,4],[],[0,1,2,3,4],[0,1,2,3,4,7],[0,1,2,3,4,6,7,8],[0,1,2,3,4,6,7,8],[0,1,2,3,4,5,6,7,8,10],[0,1,2,3,4,5,6,7,8,9,10,11],[0,1,2,3,4,5,6,7,8,9,10,11],[0,1,2,3,4,5,6,7,8,9,10,11,13],[0,1,2,3,4,5,6,7,8,9,10,11,12,13,14],[],[16],[],[18],[16,17,18,19],[16,17,18,19,20],[0,1,2,3,4,5,6,7,8,9,10,11,12,13,14],[0,1,2,3,4,5,6,7,8,9,10,11,12,13,14,16,17,18,19,20,21,22],[0,1,2,3,4,5,6,7,8,9,10,11,13,14,16,17,18,19,20,21,22,23],[0,1,2,3,4,5,6,7,8,9,10,11,13,14,15,16,17,18,19,20,21,22,23,24],[]] xkk (by kernel_rfl) (Nat.le_of_ble_eq_true rfl) ?_
       refine xbk mn (fun h_ H_=>xav H_ tA25 tS25 rfl (i:=1) rfl (vs:=[.slice a1 n1 c1,.slice a2 n2 c2,.slice a3 n3 c3]) rfl rfl) (tm':=zq4 (zq16 (zq32 (zq32 [])))) rfl ?_
       refine wo (xaz xoj rfl (a':=⟨b15,0,none⟩) rfl) ?_
       refine xbk mn (fun h_ H_=>xaj H_ tA3 rfl (i:=0) rfl (v:=.int .i64 ((t.wy.getD r wz).1)) rfl) (tm':=zq4 (zq16 (zq32 (zq32 [])))) rfl ?_
       refine xiv mn (first:=[]) (cap:=[]) rfl rfl fC33 (fun h_ H_=>(c33 md _ _ H_.pe _ _ _ _ _ _ _ _ _ t (show TownP _ _ _ _ _ _ _ t from ⟨T.h,T.w,T.y⟩) (by omega) ((t.wy.getD r wz).1)).mono fun v_ h2_ ⟨e_,k_⟩=>⟨e_,H_.call k_⟩) rfl ?_
       refine wt (xjw rfl) (tm':=zq4 (zq16 (zq32 (zq32 [])))) rfl <| wo (xaq (v:=.bool (!(decide (0≤(t.wy.getD r wz).1∧(t.wy.getD r wz).1≤(t.nH:Int)-1)))) rfl) <| xex (mo rfl rfl (xmz (dff cc16))) (tm':=zq4 (zq16 (zq32 (zq32 [])))) rfl <| wp (mo rfl rfl (xmz (dff cc16))) <| xex (mo rfl rfl (xmz (dff cc16))) (tm':=zq4 (zq16 (zq32 (zq32 [])))) rfl <| wp (mo rfl rfl (xmz (dff cc16))) ?_
       refine xex (mo rfl rfl (xmz (dff cc16))) (tm':=zq4 (zq16 (zq32 (zq32 [])))) rfl <| wo (xdz rfl (xmz (dff cc16)) (v:=.bool (true)) rfl) <| wt (xaq (v:=.bool (true)) rfl) (tm':=zq4 (zq16 (zq32 (zq32 [])))) rfl <| wp (mo rfl rfl rfl) <| xex (mo rfl rfl rfl) (tm':=zq4 (zq16 (zq32 (zq32 [])))) rfl <| wp (mo rfl rfl rfl) ?_
       refine xex (xew rfl rfl) (tm':=zq4 (zq16 (zq32 (zq32 [])))) rfl <| wp (xew rfl rfl) <| xex (xew rfl rfl) (tm':=zq4 (zq16 (zq32 (zq32 [])))) rfl <| wp (xew rfl rfl) <| xex (xew rfl rfl) (tm':=zq4 (zq16 (zq32 (zq32 [])))) rfl <| wp (xew rfl rfl) ?_
       refine xex (xew rfl rfl) (tm':=zq4 (zq16 (zq32 (zq32 [])))) rfl ?_
       refine xiz rfl ?_
       refine xfx (xew rfl rfl) (tm':=zq4 (zq16 (zq32 (zq32 [])))) rfl <| rp (xew rfl rfl) <| rp (mo rfl rfl rfl) <| rt (xdz rfl rfl (v:=.bool (true)) rfl) (tm':=zq4 (zq16 (zq32 (zq32 [])))) rfl <| xak <| xdx rfl rfl ?_
       refine fsr <| ro (xax (v:=.bool (false)) rfl) <| xak ?_
       refine xdv Tryd.func88 rfl (vs:=[.bool (false)]) (fun h_ H_=>⟨.bool (false),_,rfl,rfl,rfl⟩) (v:=.bool (false)) rfl ?_
       exact fun h_ H_=>K _ _ ⟨by first | (rw [decide_eq_true (p:=Vd t) ⟨by omega,by omega,fun i hi=>h1 i (by omega),fun i hi=>h2 i (by omega),fun i hi=>h3 i (by omega)⟩]) | (rw [decide_eq_false (p:=Vd t) (fun z=>by have z1:=z.nh;have z2:=z.nw;first | omega | (have z3:=z.h k (by omega);omega) | (have z3:=z.w l (by omega);omega) | (rcases z.y r (by omega) with ⟨z3,z4,z5⟩;first | omega | exact absurd (z5 (by omega)) ‹_›))]),H_.kept⟩
     ·
      refine xck rfl (dff cc14) <| xhz rfl <| fsr <| ro (xax (v:=.bool (true)) rfl) <| xak ?_
      refine xdv Tryd.func88 rfl (vs:=[.bool (true)]) (fun h_ H_=>⟨.bool (true),_,rfl,rfl,rfl⟩) (v:=.bool (true)) rfl ?_
      exact fun h_ H_=>K _ _ ⟨by first | (rw [decide_eq_true (p:=Vd t) ⟨by omega,by omega,fun i hi=>h1 i (by omega),fun i hi=>h2 i (by omega),fun i hi=>h3 i (by omega)⟩]) | (rw [decide_eq_false (p:=Vd t) (fun z=>by have z1:=z.nh;have z2:=z.nw;first | omega | (have z3:=z.h k (by omega);omega) | (have z3:=z.w l (by omega);omega) | (rcases z.y r (by omega) with ⟨z3,z4,z5⟩;first | omega | exact absurd (z5 (by omega)) ‹_›))]),H_.kept⟩
theorem c48 (md:Md) (h:Heap) (p:PHeap) (hp:Per p h) (a1:Option Addr) (n1 c1:Nat) (a2:Option Addr) (n2 c2:Nat) (a3:Option Addr) (n3 c3:Nat) (t:Tn) (T:TownP p a1 n1 a2 n2 a3 n3 t) (hn:n1≤40∧n2≤40∧n3≤41):CallsX Tryd.prog md 48 #[.agg #[.slice a1 n1 c1,.slice a2 n2 c2,.slice a3 n3 c3]] h fun v h'=>v= .int .i64 (chkB t)∧Keep h h':=by
 refine xcx (Φ:=fun h_=>St h [] p h_ []) Tryd.func48 rfl (tm:=zq4 (zq8 [])) rfl ?_ (St.start h _ hp)
 intro c₀ cs Stop K
 have eH:=T.nH
 have eW:=T.nW
 have eM:=T.m
 refine fsr ?_
 refine xij mn (v:=.agg #[.slice a1 n1 c1,.slice a2 n2 c2,.slice a3 n3 c3]) rfl fun b1=>xcq (L':=[(b1,.cells #[.slice a1 n1 c1,.slice a2 n2 c2,.slice a3 n3 c3] 25 (0,0))]) rfl ?_
 refine xfj (tm':=_::_::_) rfl ?_
 refine ro (xax (v:=.int .i64 0) rfl) <| ren <| fsr <| ro (xaz xhj rfl (a':=⟨b1,2,none⟩) rfl) ?_
 refine xbx mn (fun h_ H_=>xaj H_ tA23 rfl (i:=0) rfl (v:=.slice a3 n3 c3) rfl) (tm':=zq1 (zq4 _)) rfl ?_
 refine ro (xfz Tryd.underlying23 rfl) <| ro (xkq rfl rfl) <| rt (xaq (v:=.bool (decide (12<((n3:Nat):Int)))) rfl) (tm':=zq8 _) rfl ?_
 by_cases cc2:12<((n3:Nat):Int)
 ·
  refine rp (mo rfl rfl (dtt cc2)) <| rp (mo rfl rfl (dtt cc2)) <| xfx (mo rfl rfl (dtt cc2)) (tm':=zq4 (zq8 [])) rfl <| ro (xdz rfl (dtt cc2) (v:=.bool (true)) rfl) <| xak <| xdx rfl rfl ?_
  refine fsr <| ro (xax (v:=.int .i64 30) rfl) <| xak ?_
  refine xdv Tryd.func48 rfl (vs:=[.int .i64 30]) (fun h_ H_=>⟨.int .i64 30,_,rfl,rfl,rfl⟩) (v:=.int .i64 30) rfl ?_
  exact fun h_ H_=>K _ _ ⟨by first | (rw [xrx (fun z=>by omega)]) | (rw [xrx (fun z=>absurd z.2 ‹_›)]) | (rw [xow (by omega) ‹_›]),H_.kept⟩
 ·
  refine xbx (ms rfl rfl (dff cc2)) (fun h_ H_=>xav H_ tA25 tS25 rfl (i:=0) rfl (vs:=[.slice a1 n1 c1,.slice a2 n2 c2,.slice a3 n3 c3]) rfl rfl) (tm':=zq4 (zq8 [])) rfl ?_
  refine xeq (ms rfl rfl (dff cc2)) (first:=[]) (cap:=[]) rfl rfl fC88 (fun h_ H_=>c88 md _ _ H_.pe _ _ _ _ _ _ _ _ _ t (show TownP _ _ _ _ _ _ _ t from ⟨T.h,T.w,T.y⟩) (by omega)) rfl ?_
  refine xbx (ms rfl rfl (dff cc2)) (fun h_ H_=>xjw rfl) rfl ?_
  refine rt (xej rfl (dff cc2) (v:=.bool (!(decide (Vd t)))) rfl) (tm':=zq4 (zq8 [])) rfl <| xak ?_
  by_cases cc3:Vd t
  ·
   refine xck rfl (xfw (dtt cc3)) <| xcv <| fsr <| ro (xax (v:=.int .i64 0) rfl) <| xak ?_
   refine xdv Tryd.func48 rfl (vs:=[.int .i64 0]) (fun h_ H_=>⟨.int .i64 0,_,rfl,rfl,rfl⟩) (v:=.int .i64 0) rfl ?_
   exact fun h_ H_=>K _ _ ⟨by first | (rw [xrx (fun z=>by omega)]) | (rw [xrx (fun z=>absurd z.2 ‹_›)]) | (rw [xow (by omega) ‹_›]),H_.kept⟩
  ·
   refine xdx rfl (xmz (dff cc3)) <| fsr <| ro (xax (v:=.int .i64 30) rfl) <| xak ?_
   refine xdv Tryd.func48 rfl (vs:=[.int .i64 30]) (fun h_ H_=>⟨.int .i64 30,_,rfl,rfl,rfl⟩) (v:=.int .i64 30) rfl ?_
   exact fun h_ H_=>K _ _ ⟨by first | (rw [xrx (fun z=>by omega)]) | (rw [xrx (fun z=>absurd z.2 ‹_›)]) | (rw [xow (by omega) ‹_›]),H_.kept⟩
theorem c47 (md:Md) (h:Heap) (p:PHeap) (hp:Per p h) (a1:Option Addr) (n1 c1:Nat) (a2:Option Addr) (n2 c2:Nat) (a3:Option Addr) (n3 c3:Nat) (t:Tn) (T:TownP p a1 n1 a2 n2 a3 n3 t) (hn:n1≤40∧n2≤40∧n3≤41):CallsX Tryd.prog md 47 #[.agg #[.slice a1 n1 c1,.slice a2 n2 c2,.slice a3 n3 c3]] h fun v h'=>v= .int .i64 (chkB t)∧Keep h h':=by
 refine xcx (Φ:=fun h_=>St h [] p h_ []) Tryd.func47 rfl (tm:=zq1 (zq32 (zq32 []))) rfl ?_ (St.start h _ hp)
 intro c₀ cs Stop K
 have eH:=T.nH
 have eW:=T.nW
 have eM:=T.m
 refine fsr ?_
 refine xij mn (v:=.agg #[.slice a1 n1 c1,.slice a2 n2 c2,.slice a3 n3 c3]) rfl fun b1=>xcq (L':=[(b1,.cells #[.slice a1 n1 c1,.slice a2 n2 c2,.slice a3 n3 c3] 25 (0,0))]) rfl ?_
 refine xfj (tm':=_::_::_) rfl ?_
 refine ro (xax (v:=.int .i64 0) rfl) <| ren <| fsr <| ro (xaz xnx rfl (a':=⟨b1,0,none⟩) rfl) ?_
 refine xbx mn (fun h_ H_=>xaj H_ tA22 rfl (i:=0) rfl (v:=.slice a1 n1 c1) rfl) (tm':=zq1 (zq2 (zq4 _))) rfl ?_
 refine ro (xfz Tryd.underlying22 rfl) <| ro (xkq rfl rfl) <| rt (xaq (v:=.bool (decide (6<((n1:Nat):Int)))) rfl) (tm':=zq2 (zq8 _)) rfl ?_
 by_cases cc2:6<((n1:Nat):Int)
 ·
  refine rp (mo rfl rfl (dtt cc2)) <| rp (mo rfl rfl (dtt cc2)) <| xfx (mo rfl rfl (dtt cc2)) (tm':=zq1 (zq4 (zq8 _))) rfl <| rp (mo rfl rfl (dtt cc2)) <| ro (xdz rfl (dtt cc2) (v:=.bool (true)) rfl) <| rt (xaq (v:=.bool (true)) rfl) (tm':=zq16 _) rfl ?_
  refine rp (mo rfl rfl rfl) <| rp (mo rfl rfl rfl) <| xfx (mo rfl rfl rfl) (tm':=zq1 (zq2 (zq16 _))) rfl <| rp (mo rfl rfl rfl) <| ro (xdz rfl rfl (v:=.bool (true)) rfl) <| xak ?_
  refine xdx rfl rfl <| fsr <| rt (xax (v:=.int .i64 30) rfl) (tm':=_::_::_::_) rfl <| xak ?_
  refine xdv Tryd.func47 rfl (vs:=[.int .i64 30]) (fun h_ H_=>⟨.int .i64 30,_,rfl,rfl,rfl⟩) (v:=.int .i64 30) rfl ?_
  exact fun h_ H_=>K _ _ ⟨by first | (rw [xow (by omega) ⟨by omega,by omega,xnw ‹_›,xnw ‹_›,fun i hi=>h3 i (by omega)⟩]) | (rw [xrx (fun z=>by have z1:=z.2.nh;have z2:=z.2.nw;first | omega | exact xqq ‹_› (fun i hi=>z.2.h i hi) | exact xqq ‹_› (fun i hi=>z.2.w i hi) | (rcases z.2.y r (by omega) with ⟨z3,z4,z5⟩;first | omega | exact absurd (z5 (by omega)) (xsw.1 (by omega))))]),H_.kept⟩
 ·
  refine xbx (ms rfl rfl (dff cc2)) (fun h_ H_=>xaz xnk rfl (a':=⟨b1,1,none⟩) rfl) rfl ?_
  refine xbx (ms rfl rfl (dff cc2)) (fun h_ H_=>xaj H_ tA22 rfl (i:=0) rfl (v:=.slice a2 n2 c2) rfl) rfl ?_
  refine xbx (ms rfl rfl (dff cc2)) (fun h_ H_=>xfz Tryd.underlying22 rfl) (tm':=zq1 (zq4 (zq8 _))) rfl ?_
  refine xbx (ms rfl rfl (dff cc2)) (fun h_ H_=>xkq rfl rfl) rfl ?_
  refine ro (xej rfl (dff cc2) (v:=.bool (decide (5<((n2:Nat):Int)))) rfl) <| rt (xaq (v:=.bool (decide (5<((n2:Nat):Int)))) rfl) (tm':=zq16 _) rfl ?_
  by_cases cc3:5<((n2:Nat):Int)
  ·
   refine rp (mo rfl rfl (dtt cc3)) <| rp (mo rfl rfl (dtt cc3)) <| xfx (mo rfl rfl (dtt cc3)) (tm':=zq1 (zq2 (zq16 _))) rfl <| rp (mo rfl rfl (dtt cc3)) <| ro (xdz rfl (dtt cc3) (v:=.bool (true)) rfl) <| xak ?_
   refine xdx rfl rfl <| fsr <| rt (xax (v:=.int .i64 30) rfl) (tm':=_::_::_::_) rfl <| xak ?_
   refine xdv Tryd.func47 rfl (vs:=[.int .i64 30]) (fun h_ H_=>⟨.int .i64 30,_,rfl,rfl,rfl⟩) (v:=.int .i64 30) rfl ?_
   exact fun h_ H_=>K _ _ ⟨by first | (rw [xow (by omega) ⟨by omega,by omega,xnw ‹_›,xnw ‹_›,fun i hi=>h3 i (by omega)⟩]) | (rw [xrx (fun z=>by have z1:=z.2.nh;have z2:=z.2.nw;first | omega | exact xqq ‹_› (fun i hi=>z.2.h i hi) | exact xqq ‹_› (fun i hi=>z.2.w i hi) | (rcases z.2.y r (by omega) with ⟨z3,z4,z5⟩;first | omega | exact absurd (z5 (by omega)) (xsw.1 (by omega))))]),H_.kept⟩
  ·
   refine xbx (ms rfl rfl (dff cc3)) (fun h_ H_=>xaz xhj rfl (a':=⟨b1,2,none⟩) rfl) rfl ?_
   refine xbx (ms rfl rfl (dff cc3)) (fun h_ H_=>xaj H_ tA23 rfl (i:=0) rfl (v:=.slice a3 n3 c3) rfl) rfl ?_
   refine xbx (ms rfl rfl (dff cc3)) (fun h_ H_=>xfz Tryd.underlying23 rfl) (tm':=zq1 (zq2 (zq16 _))) rfl ?_
   refine xbx (ms rfl rfl (dff cc3)) (fun h_ H_=>xkq rfl rfl) rfl ?_
   refine ro (xej rfl (dff cc3) (v:=.bool (decide (12<((n3:Nat):Int)))) rfl) <| xak ?_
   by_cases cc4:12<((n3:Nat):Int)
   ·
    refine xdx rfl (dtt cc4) <| fsr <| rt (xax (v:=.int .i64 30) rfl) (tm':=_::_::_::_) rfl <| xak ?_
    refine xdv Tryd.func47 rfl (vs:=[.int .i64 30]) (fun h_ H_=>⟨.int .i64 30,_,rfl,rfl,rfl⟩) (v:=.int .i64 30) rfl ?_
    exact fun h_ H_=>K _ _ ⟨by first | (rw [xow (by omega) ⟨by omega,by omega,xnw ‹_›,xnw ‹_›,fun i hi=>h3 i (by omega)⟩]) | (rw [xrx (fun z=>by have z1:=z.2.nh;have z2:=z.2.nw;first | omega | exact xqq ‹_› (fun i hi=>z.2.h i hi) | exact xqq ‹_› (fun i hi=>z.2.w i hi) | (rcases z.2.y r (by omega) with ⟨z3,z4,z5⟩;first | omega | exact absurd (z5 (by omega)) (xsw.1 (by omega))))]),H_.kept⟩
   ·
    refine xck rfl (dff cc4) <| xcv <| xez <| fsr <| ro (xaz xnx rfl (a':=⟨b1,0,none⟩) rfl) <| rd (fun h_ H_=>xaj H_ tA22 rfl (i:=0) rfl (v:=.slice a1 n1 c1) rfl) ?_
    refine xeq mn (first:=[]) (cap:=[]) rfl rfl fC83 (fun h_ H_=>c83 md _ _ H_.pe (.func (.func 84) #[] #[]) _ _ _ _ T.h (by omega) (badN 9) (fun h_ hp_ i_ hi_=>yiq fC84 (c84 md _ _))) (tm':=zq8 (zq16 _)) rfl ?_
    refine ro (xaq (v:=.bool (decide (0≤idxA (badN 9) t.hs))) rfl) ?_
    by_cases cc5:0≤idxA (badN 9) t.hs
    ·
     refine rp (mo rfl rfl (dtt cc5)) <| xfx (mo rfl rfl (dtt cc5)) (tm':=zq1 (zq2 (zq8 (zq16 _)))) rfl <| rp (mo rfl rfl (dtt cc5)) <| ro (xdz rfl (dtt cc5) (v:=.bool (true)) rfl) <| xak <| xdx rfl rfl ?_
     refine fsr <| rt (xax (v:=.int .i64 30) rfl) (tm':=_::_::_::_) rfl <| xak ?_
     refine xdv Tryd.func47 rfl (vs:=[.int .i64 30]) (fun h_ H_=>⟨.int .i64 30,_,rfl,rfl,rfl⟩) (v:=.int .i64 30) rfl ?_
     exact fun h_ H_=>K _ _ ⟨by first | (rw [xow (by omega) ⟨by omega,by omega,xnw ‹_›,xnw ‹_›,fun i hi=>h3 i (by omega)⟩]) | (rw [xrx (fun z=>by have z1:=z.2.nh;have z2:=z.2.nw;first | omega | exact xqq ‹_› (fun i hi=>z.2.h i hi) | exact xqq ‹_› (fun i hi=>z.2.w i hi) | (rcases z.2.y r (by omega) with ⟨z3,z4,z5⟩;first | omega | exact absurd (z5 (by omega)) (xsw.1 (by omega))))]),H_.kept⟩
    ·
     refine xbx (ms rfl rfl (dff cc5)) (fun h_ H_=>xaz xnk rfl (a':=⟨b1,1,none⟩) rfl) rfl ?_
     refine xbx (ms rfl rfl (dff cc5)) (fun h_ H_=>xaj H_ tA22 rfl (i:=0) rfl (v:=.slice a2 n2 c2) rfl) rfl ?_
     refine xeq (ms rfl rfl (dff cc5)) (first:=[]) (cap:=[]) rfl rfl fC83 (fun h_ H_=>c83 md _ _ H_.pe (.func (.func 86) #[] #[]) _ _ _ _ T.w (by omega) (badN 20) (fun h_ hp_ i_ hi_=>yiq fC86 (c86 md _ _))) (tm':=zq4 (zq8 (zq16 _))) rfl ?_
     refine ro (xej rfl (dff cc5) (v:=.bool (decide (0≤idxA (badN 20) t.ws))) rfl) <| xak ?_
     by_cases cc6:0≤idxA (badN 20) t.ws
     ·
      refine xdx rfl (dtt cc6) <| fsr <| ro (xax (v:=.int .i64 30) rfl) <| xak ?_
      refine xdv Tryd.func47 rfl (vs:=[.int .i64 30]) (fun h_ H_=>⟨.int .i64 30,_,rfl,rfl,rfl⟩) (v:=.int .i64 30) rfl ?_
      exact fun h_ H_=>K _ _ ⟨by first | (rw [xow (by omega) ⟨by omega,by omega,xnw ‹_›,xnw ‹_›,fun i hi=>h3 i (by omega)⟩]) | (rw [xrx (fun z=>by have z1:=z.2.nh;have z2:=z.2.nw;first | omega | exact xqq ‹_› (fun i hi=>z.2.h i hi) | exact xqq ‹_› (fun i hi=>z.2.w i hi) | (rcases z.2.y r (by omega) with ⟨z3,z4,z5⟩;first | omega | exact absurd (z5 (by omega)) (xsw.1 (by omega))))]),H_.kept⟩
     ·
      refine xck rfl (dff cc6) <| xcv <| xez <| fsr <| rt (xaz xhj rfl (a':=⟨b1,2,none⟩) rfl) (tm':=zq2 (zq4 (zq8 (zq16 _)))) rfl <| rd (fun h_ H_=>xaj H_ tA23 rfl (i:=0) rfl (v:=.slice a3 n3 c3) rfl) ?_
      refine ro (xfz Tryd.underlying23 rfl) <| rt (xaq (v:=.int .i64 0) rfl) (tm':=zq1 (zq32 _)) rfl <| xak <| xdj ?_
      refine xhk (m₀:=n3-0) (fun m_ tm_ h_=>∃ (r:Nat),m_=n3-r∧(∃ y7:Nat→Value,tm_=[.agg #[.slice a1 n1 c1,.slice a2 n2 c2,.slice a3 n3 c3],.pointer (some ⟨b1,0,none⟩),(y7 2),(y7 3),(y7 4),.pointer (some ⟨b1,0,none⟩),.slice a1 n1 c1,.int .i64 (((n1:Nat):Int)),.bool (decide (6<((n1:Nat):Int))),.bool (decide (6<((n1:Nat):Int))),.pointer (some ⟨b1,1,none⟩),.slice a2 n2 c2,.int .i64 (((n2:Nat):Int)),.bool (decide (5<((n2:Nat):Int))),.bool (decide (5<((n2:Nat):Int))),.bool (decide (5<((n2:Nat):Int))),.pointer (some ⟨b1,2,none⟩),.slice a3 n3 c3,.int .i64 (((n3:Nat):Int)),.bool (decide (12<((n3:Nat):Int))),.bool (decide (12<((n3:Nat):Int))),.pointer (some ⟨b1,0,none⟩),.slice a1 n1 c1,.bool (decide (0≤idxA (badN 9) t.hs)),.bool (decide (0≤idxA (badN 9) t.hs)),.pointer (some ⟨b1,1,none⟩),.slice a2 n2 c2,.bool (decide (0≤idxA (badN 20) t.ws)),.bool (decide (0≤idxA (badN 20) t.ws)),.pointer (some ⟨b1,2,none⟩),.slice a3 n3 c3,.int .i64 (((n3:Nat):Int)),.int .i64 (((r:Nat):Int)),(y7 33),(y7 34),(y7 35),(y7 36),(y7 37),(y7 38),(y7 39),(y7 40),(y7 41),(y7 42),(y7 43),(y7 44),(y7 45),(y7 46),(y7 47),(y7 48),(y7 49),(y7 50),(y7 51),(y7 52),(y7 53),(y7 54),(y7 55),(y7 56),(y7 57),(y7 58),(y7 59),(y7 60),(y7 61),(y7 62),(y7 63),(y7 64)])∧(r≤n3)∧(∀ i,i<r→YOk t i)∧St h [] p h_ ([(b1,.cells #[.slice a1 n1 c1,.slice a2 n2 c2,.slice a3 n3 c3] 25 (0,0))])) (fun h_ H_=>⟨0,rfl,(y_of rfl),Nat.zero_le _,(fun i hi=>absurd hi (Nat.not_lt_zero i)),H_⟩) ?_
      intro m_ tm_ IH8
      refine xhq fun r=>xcz fun hm_=>xcz fun ht_=>xcz fun hkr=>xcz fun h3=>?_
      subst hm_;obtain ⟨y7,ht_⟩:=ht_;subst ht_
      refine fsr <| ro (xgj rfl rfl) <| ren ?_
      by_cases cc9:((r:Nat):Int)<((n3:Nat):Int)
      ·
       refine xdx rfl (dtt cc9) <| xcv <| xez <| xdj <| fsr <| ro (xaq (v:=.int .i64 (((r:Nat):Int))) rfl) ?_
       refine rt (xbw (i:=r) Tryd.underlying23 tS43 (xjq a3 n3 c3 (T.y.ne (by omega))) rfl (by omega)) (tm':=zq4 (zq32 _)) rfl ?_
       refine rd (fun h_ H_=>xgw H_ tA43 tS43 rfl (vs:=[.int .i64 ((t.wy.getD r wz).1),.int .i64 ((t.wy.getD r wz).2)]) rfl (T.y.all (by omega))) ?_
       refine xkx mn tZ43 rfl fun b10=>xcq (L':=[(b10,.cells #[.int .i64 0,.int .i64 0] 43 (0,0)),(b1,.cells #[.slice a1 n1 c1,.slice a2 n2 c2,.slice a3 n3 c3] 25 (0,0))]) rfl ?_
       refine rt (xax (v:=.int .i64 (((r:Nat):Int))) rfl) (tm':=zq4 _) rfl ?_
       refine xik mn tS43 rfl (v:=.agg #[.int .i64 ((t.wy.getD r wz).1),.int .i64 ((t.wy.getD r wz).2)]) rfl (i:=0) rfl rfl rfl (Nat.le_of_ble_eq_true rfl) (cs2:=[.int .i64 ((t.wy.getD r wz).1),.int .i64 ((t.wy.getD r wz).2)]) rfl (xcq (L':=[(b10,.cells #[.int .i64 ((t.wy.getD r wz).1),.int .i64 ((t.wy.getD r wz).2)] 43 (0,0)),(b1,.cells #[.slice a1 n1 c1,.slice a2 n2 c2,.slice a3 n3 c3] 25 (0,0))]) rfl ?_)
       refine ren ?_
       by_cases cc11:0≤(t.wy.getD r wz).1∧(t.wy.getD r wz).1≤(t.nH:Int)-1
       ·
        by_cases cc12:0≤(t.wy.getD r wz).2∧(t.wy.getD r wz).2≤(t.nW:Int)-1
        ·
         by_cases cc13:0<((r:Nat):Int)
         ·
          refine xgx 23 [[],[],[1],[0,1,2],[0,1,2],[0,1,2,3,4],[],[0,1,2,3,4],[0,1,2,3,4,7],[0,1,2,3,4,6,7,8],[0,1,2,3,4,6,7,8],[0,1,2,3,4,5,6,7,8,10],[0,1,2,3,4,5,6,7,8,9,10,11],[0,1,2,3,4,5,6,7,8,9,10,11],[0,1,2,3,4,5,6,7,8,9,10,11,13],[0,1,2,3,4,5,6,7,8,9,10,11,12,13,14],[],[16],[],[18],[16,17,18,19],[16,17,18,19,20],[0,1,2,3,4,5,6,7,8,9,10,11,12,13,14],[0,1,2,3,4,5,6,7,8,9,10,11,12,13,14,16,17,18,19,20,21,22],[0,1,2,3,4,5,6,7,8,9,10,11,13,14,16,17,18,19,20,21,22,23],[0,1,2,3,4,5,6,7,8,9,10,11,13,14,15,16,17,18,19,20,21,22,23,24],[]] xkk (by kernel_rfl) (Nat.le_of_ble_eq_true rfl) ?_
          refine wd (fun h_ H_=>xav H_ tA25 tS25 rfl (i:=1) rfl (vs:=[.slice a1 n1 c1,.slice a2 n2 c2,.slice a3 n3 c3]) rfl rfl) <| wt (xaz xoj rfl (a':=⟨b10,0,none⟩) rfl) (tm':=zq1 (zq2 (zq4 (zq32 _)))) rfl <| wd (fun h_ H_=>xaj H_ tA3 rfl (i:=0) rfl (v:=.int .i64 ((t.wy.getD r wz).1)) rfl) ?_
          refine xiv mn (first:=[]) (cap:=[]) rfl rfl fC65 (fun h_ H_=>(c65 md _ _ H_.pe _ _ _ _ _ _ _ _ _ t (show TownP _ _ _ _ _ _ _ t from ⟨T.h,T.w,T.y⟩) (by omega) ((t.wy.getD r wz).1)).mono fun v_ h2_ ⟨e_,k_⟩=>⟨e_,H_.call k_⟩) (tm':=zq1 (zq8 (zq32 _))) rfl ?_
          refine wo (xjw rfl) <| wt (xaq (v:=.bool (!(decide (0≤(t.wy.getD r wz).1∧(t.wy.getD r wz).1≤(t.nH:Int)-1)))) rfl) (tm':=zq1 (zq2 (zq8 (zq32 _)))) rfl ?_
          refine xbk (ms rfl rfl (xfw (dtt cc11))) (fun h_ H_=>xav H_ tA25 tS25 rfl (i:=1) rfl (vs:=[.slice a1 n1 c1,.slice a2 n2 c2,.slice a3 n3 c3]) rfl rfl) rfl ?_
          refine xbk (ms rfl rfl (xfw (dtt cc11))) (fun h_ H_=>xaz xqv rfl (a':=⟨b10,1,none⟩) rfl) (tm':=zq1 (zq32 (zq32 []))) rfl ?_
          refine xbk (ms rfl rfl (xfw (dtt cc11))) (fun h_ H_=>xaj H_ tA3 rfl (i:=0) rfl (v:=.int .i64 ((t.wy.getD r wz).2)) rfl) rfl ?_
          refine xiv (ms rfl rfl (xfw (dtt cc11))) (first:=[]) (cap:=[]) rfl rfl fC70 (fun h_ H_=>(c70 md _ _ H_.pe _ _ _ _ _ _ _ _ _ t (show TownP _ _ _ _ _ _ _ t from ⟨T.h,T.w,T.y⟩) (by omega) ((t.wy.getD r wz).2)).mono fun v_ h2_ ⟨e_,k_⟩=>⟨e_,H_.call k_⟩) (tm':=zq1 (zq32 (zq32 []))) rfl ?_
          refine xbk (ms rfl rfl (xfw (dtt cc11))) (fun h_ H_=>xjw rfl) rfl ?_
          refine wt (xej rfl (xfw (dtt cc11)) (v:=.bool (!(decide (0≤(t.wy.getD r wz).2∧(t.wy.getD r wz).2≤(t.nW:Int)-1)))) rfl) (tm':=zq1 (zq32 (zq32 []))) rfl <| wo (xaq (v:=.bool (!(decide (0≤(t.wy.getD r wz).2∧(t.wy.getD r wz).2≤(t.nW:Int)-1)))) rfl) ?_
          refine xbk (ms rfl rfl (xfw (dtt cc12))) (fun h_ H_=>xaq (v:=.int .i64 (((r:Nat):Int))) rfl) (tm':=zq1 (zq32 (zq32 []))) rfl ?_
          refine xbk (ms rfl rfl (xfw (dtt cc12))) (fun h_ H_=>xkq rfl rfl) rfl ?_
          refine xbk (ms rfl rfl (xfw (dtt cc12))) (fun h_ H_=>xaq (v:=.bool (decide (0<((r:Nat):Int)))) rfl) (tm':=zq1 (zq32 (zq32 []))) rfl ?_
          refine xbk (ms rfl rfl (dtt cc13)) (fun h_ H_=>xaz xhj rfl (a':=⟨b1,2,none⟩) rfl) rfl ?_
          refine xbk (ms rfl rfl (dtt cc13)) (fun h_ H_=>xaj H_ tA23 rfl (i:=1) rfl (v:=.slice a3 n3 c3) rfl) (tm':=zq1 (zq32 (zq32 []))) rfl ?_
          refine xbk (ms rfl rfl (dtt cc13)) (fun h_ H_=>xaq (v:=.int .i64 (((r:Nat):Int))) rfl) rfl ?_
          refine xbk (ms rfl rfl (dtt cc13)) (fun h_ H_=>xkj rfl rfl (wr (by omega))) (tm':=zq1 (zq32 (zq32 []))) rfl ?_
          refine xbk (ms rfl rfl (dtt cc13)) (fun h_ H_=>xkz Tryd.underlying23 tS43 (xjq a3 n3 c3 (T.y.ne (by omega))) rfl (by omega) (by omega) (a':=(adr a3).add ((((((r:Nat):Int)-1)).toNat)*2)) rfl) rfl ?_
          refine xbk (ms rfl rfl (dtt cc13)) (fun h_ H_=>xgw H_ tA43 tS43 rfl (vs:=[.int .i64 ((t.wy.getD (((((r:Nat):Int)-1)).toNat) wz).1),.int .i64 ((t.wy.getD (((((r:Nat):Int)-1)).toNat) wz).2)]) rfl (T.y.all (by omega))) (tm':=zq1 (zq32 (zq32 []))) rfl ?_
          refine xbk (ms rfl rfl (dtt cc13)) (fun h_ H_=>xav H_ tA43 tS43 rfl (i:=0) rfl (vs:=[.int .i64 ((t.wy.getD r wz).1),.int .i64 ((t.wy.getD r wz).2)]) rfl rfl) rfl ?_
          refine xiz rfl ?_
          refine xeq (ms rfl rfl (dtt cc13)) (first:=[]) (cap:=[]) rfl rfl fC87 (fun h_ H_=>c87 md _ ((t.wy.getD (((((r:Nat):Int)-1)).toNat) wz).1) ((t.wy.getD (((((r:Nat):Int)-1)).toNat) wz).2) ((t.wy.getD r wz).1) ((t.wy.getD r wz).2)) rfl ?_
          refine xbx (ms rfl rfl (dtt cc13)) (fun h_ H_=>xwk rfl rfl) (tm':=zq1 (zq32 (zq32 []))) rfl ?_
          refine xbx (ms rfl rfl (xfw (dtt cc12))) (fun h_ H_=>xdz rfl (dtt cc13) (v:=.bool (decide (0≤ordW ((t.wy.getD (((((r:Nat):Int)-1)).toNat) wz).1) ((t.wy.getD (((((r:Nat):Int)-1)).toNat) wz).2) ((t.wy.getD r wz).1) ((t.wy.getD r wz).2)))) rfl) rfl ?_
          refine ro (xej rfl (xfw (dtt cc12)) (v:=.bool (decide (0≤ordW ((t.wy.getD (((((r:Nat):Int)-1)).toNat) wz).1) ((t.wy.getD (((((r:Nat):Int)-1)).toNat) wz).2) ((t.wy.getD r wz).1) ((t.wy.getD r wz).2)))) rfl) <| xak ?_
          by_cases cc14:0≤ordW ((t.wy.getD (((((r:Nat):Int)-1)).toNat) wz).1) ((t.wy.getD (((((r:Nat):Int)-1)).toNat) wz).2) ((t.wy.getD r wz).1) ((t.wy.getD r wz).2)
          ·
           refine xdx rfl (dtt cc14) <| fsr <| rt (xax (v:=.int .i64 30) rfl) (tm':=_::_::_::_) rfl <| xak ?_
           refine xdv Tryd.func47 rfl (vs:=[.int .i64 30]) (fun h_ H_=>⟨.int .i64 30,_,rfl,rfl,rfl⟩) (v:=.int .i64 30) rfl ?_
           exact fun h_ H_=>K _ _ ⟨by first | (rw [xow (by omega) ⟨by omega,by omega,xnw ‹_›,xnw ‹_›,fun i hi=>h3 i (by omega)⟩]) | (rw [xrx (fun z=>by have z1:=z.2.nh;have z2:=z.2.nw;first | omega | exact xqq ‹_› (fun i hi=>z.2.h i hi) | exact xqq ‹_› (fun i hi=>z.2.w i hi) | (rcases z.2.y r (by omega) with ⟨z3,z4,z5⟩;first | omega | exact absurd (z5 (by omega)) (xsw.1 (by omega))))]),H_.kept⟩
          ·
           refine xck rfl (dff cc14) <| xcv <| xdq <| xbq ?_
           refine ro (xek rfl rfl (n:=((r+1:Nat):Int)) (wr (by omega))) ?_
           refine ro (xaq (v:=.int .i64 (((r+1:Nat):Int))) rfl) <| xak ?_
           exact fun h_ H_=>IH8 _ _ (by omega) h_ ⟨r+1,rfl,(y_of rfl),(by omega),(xrw h3 ⟨by omega,by omega,fun _=>Classical.not_not.1 fun z_=>absurd (xsw.2 z_) (by omega)⟩),H_.drop⟩
         ·
          refine xgx 23 [[],[],[1],[0,1,2],[0,1,2],[0,1,2,3,4],[],[0,1,2,3,4],[0,1,2,3,4,7],[0,1,2,3,4,6,7,8],[0,1,2,3,4,6,7,8],[0,1,2,3,4,5,6,7,8,10],[0,1,2,3,4,5,6,7,8,9,10,11],[0,1,2,3,4,5,6,7,8,9,10,11],[0,1,2,3,4,5,6,7,8,9,10,11,13],[0,1,2,3,4,5,6,7,8,9,10,11,12,13,14],[],[16],[],[18],[16,17,18,19],[16,17,18,19,20],[0,1,2,3,4,5,6,7,8,9,10,11,12,13,14],[0,1,2,3,4,5,6,7,8,9,10,11,12,13,14,16,17,18,19,20,21,22],[0,1,2,3,4,5,6,7,8,9,10,11,13,14,16,17,18,19,20,21,22,23],[0,1,2,3,4,5,6,7,8,9,10,11,13,14,15,16,17,18,19,20,21,22,23,24],[]] xkk (by kernel_rfl) (Nat.le_of_ble_eq_true rfl) ?_
          refine wd (fun h_ H_=>xav H_ tA25 tS25 rfl (i:=1) rfl (vs:=[.slice a1 n1 c1,.slice a2 n2 c2,.slice a3 n3 c3]) rfl rfl) <| wt (xaz xoj rfl (a':=⟨b10,0,none⟩) rfl) (tm':=zq1 (zq2 (zq4 (zq32 _)))) rfl <| wd (fun h_ H_=>xaj H_ tA3 rfl (i:=0) rfl (v:=.int .i64 ((t.wy.getD r wz).1)) rfl) ?_
          refine xiv mn (first:=[]) (cap:=[]) rfl rfl fC65 (fun h_ H_=>(c65 md _ _ H_.pe _ _ _ _ _ _ _ _ _ t (show TownP _ _ _ _ _ _ _ t from ⟨T.h,T.w,T.y⟩) (by omega) ((t.wy.getD r wz).1)).mono fun v_ h2_ ⟨e_,k_⟩=>⟨e_,H_.call k_⟩) (tm':=zq1 (zq8 (zq32 _))) rfl ?_
          refine wo (xjw rfl) <| wt (xaq (v:=.bool (!(decide (0≤(t.wy.getD r wz).1∧(t.wy.getD r wz).1≤(t.nH:Int)-1)))) rfl) (tm':=zq1 (zq2 (zq8 (zq32 _)))) rfl ?_
          refine xbk (ms rfl rfl (xfw (dtt cc11))) (fun h_ H_=>xav H_ tA25 tS25 rfl (i:=1) rfl (vs:=[.slice a1 n1 c1,.slice a2 n2 c2,.slice a3 n3 c3]) rfl rfl) rfl ?_
          refine xbk (ms rfl rfl (xfw (dtt cc11))) (fun h_ H_=>xaz xqv rfl (a':=⟨b10,1,none⟩) rfl) (tm':=zq1 (zq32 (zq32 []))) rfl ?_
          refine xbk (ms rfl rfl (xfw (dtt cc11))) (fun h_ H_=>xaj H_ tA3 rfl (i:=0) rfl (v:=.int .i64 ((t.wy.getD r wz).2)) rfl) rfl ?_
          refine xiv (ms rfl rfl (xfw (dtt cc11))) (first:=[]) (cap:=[]) rfl rfl fC70 (fun h_ H_=>(c70 md _ _ H_.pe _ _ _ _ _ _ _ _ _ t (show TownP _ _ _ _ _ _ _ t from ⟨T.h,T.w,T.y⟩) (by omega) ((t.wy.getD r wz).2)).mono fun v_ h2_ ⟨e_,k_⟩=>⟨e_,H_.call k_⟩) (tm':=zq1 (zq32 (zq32 []))) rfl ?_
          refine xbk (ms rfl rfl (xfw (dtt cc11))) (fun h_ H_=>xjw rfl) rfl ?_
          refine wt (xej rfl (xfw (dtt cc11)) (v:=.bool (!(decide (0≤(t.wy.getD r wz).2∧(t.wy.getD r wz).2≤(t.nW:Int)-1)))) rfl) (tm':=zq1 (zq32 (zq32 []))) rfl <| wo (xaq (v:=.bool (!(decide (0≤(t.wy.getD r wz).2∧(t.wy.getD r wz).2≤(t.nW:Int)-1)))) rfl) ?_
          refine xbk (ms rfl rfl (xfw (dtt cc12))) (fun h_ H_=>xaq (v:=.int .i64 (((r:Nat):Int))) rfl) (tm':=zq1 (zq32 (zq32 []))) rfl ?_
          refine xbk (ms rfl rfl (xfw (dtt cc12))) (fun h_ H_=>xkq rfl rfl) rfl ?_
          refine xbk (ms rfl rfl (xfw (dtt cc12))) (fun h_ H_=>xaq (v:=.bool (decide (0<((r:Nat):Int)))) rfl) (tm':=zq1 (zq32 (zq32 []))) rfl ?_
          refine wp (mo rfl rfl (dff cc13)) <| xex (mo rfl rfl (dff cc13)) (tm':=zq1 (zq32 (zq32 []))) rfl <| wp (mo rfl rfl (dff cc13)) <| xex (mo rfl rfl (dff cc13)) (tm':=zq1 (zq32 (zq32 []))) rfl <| wp (mo rfl rfl (dff cc13)) <| xex (mo rfl rfl (dff cc13)) (tm':=zq1 (zq32 (zq32 []))) rfl ?_
          refine wp (mo rfl rfl (dff cc13)) ?_
          refine xiz rfl ?_
          refine rp (mo rfl rfl (dff cc13)) <| xfx (mo rfl rfl (dff cc13)) (tm':=zq1 (zq32 (zq32 []))) rfl ?_
          refine xbx (ms rfl rfl (xfw (dtt cc12))) (fun h_ H_=>xej rfl (dff cc13) (v:=.bool (false)) rfl) rfl ?_
          refine ro (xej rfl (xfw (dtt cc12)) (v:=.bool (false)) rfl) <| xak <| xck rfl rfl <| xcv <| xdq <| xbq ?_
          refine rt (xek rfl rfl (n:=((r+1:Nat):Int)) (wr (by omega))) (tm':=zq1 (zq32 (zq32 []))) rfl ?_
          refine ro (xaq (v:=.int .i64 (((r+1:Nat):Int))) rfl) <| xak ?_
          exact fun h_ H_=>IH8 _ _ (by omega) h_ ⟨r+1,rfl,(y_of rfl),(by omega),(xrw h3 ⟨by omega,by omega,fun _=>Classical.not_not.1 fun z_=>absurd (xsw.2 z_) (by omega)⟩),H_.drop⟩
        ·
         refine xgx 23 [[],[],[1],[0,1,2],[0,1,2],[0,1,2,3,4],[],[0,1,2,3,4],[0,1,2,3,4,7],[0,1,2,3,4,6,7,8],[0,1,2,3,4,6,7,8],[0,1,2,3,4,5,6,7,8,10],[0,1,2,3,4,5,6,7,8,9,10,11],[0,1,2,3,4,5,6,7,8,9,10,11],[0,1,2,3,4,5,6,7,8,9,10,11,13],[0,1,2,3,4,5,6,7,8,9,10,11,12,13,14],[],[16],[],[18],[16,17,18,19],[16,17,18,19,20],[0,1,2,3,4,5,6,7,8,9,10,11,12,13,14],[0,1,2,3,4,5,6,7,8,9,10,11,12,13,14,16,17,18,19,20,21,22],[0,1,2,3,4,5,6,7,8,9,10,11,13,14,16,17,18,19,20,21,22,23],[0,1,2,3,4,5,6,7,8,9,10,11,13,14,15,16,17,18,19,20,21,22,23,24],[]] xkk (by kernel_rfl) (Nat.le_of_ble_eq_true rfl) ?_
         refine xbk mn (fun h_ H_=>xav H_ tA25 tS25 rfl (i:=1) rfl (vs:=[.slice a1 n1 c1,.slice a2 n2 c2,.slice a3 n3 c3]) rfl rfl) (tm':=zq2 (zq4 (zq32 _))) rfl ?_
         refine wo (xaz xoj rfl (a':=⟨b10,0,none⟩) rfl) ?_
         refine xbk mn (fun h_ H_=>xaj H_ tA3 rfl (i:=0) rfl (v:=.int .i64 ((t.wy.getD r wz).1)) rfl) (tm':=zq8 (zq32 _)) rfl ?_
         refine xiv mn (first:=[]) (cap:=[]) rfl rfl fC65 (fun h_ H_=>(c65 md _ _ H_.pe _ _ _ _ _ _ _ _ _ t (show TownP _ _ _ _ _ _ _ t from ⟨T.h,T.w,T.y⟩) (by omega) ((t.wy.getD r wz).1)).mono fun v_ h2_ ⟨e_,k_⟩=>⟨e_,H_.call k_⟩) rfl ?_
         refine wt (xjw rfl) (tm':=zq2 (zq8 (zq32 _))) rfl <| wo (xaq (v:=.bool (!(decide (0≤(t.wy.getD r wz).1∧(t.wy.getD r wz).1≤(t.nH:Int)-1)))) rfl) ?_
         refine xbk (ms rfl rfl (xfw (dtt cc11))) (fun h_ H_=>xav H_ tA25 tS25 rfl (i:=1) rfl (vs:=[.slice a1 n1 c1,.slice a2 n2 c2,.slice a3 n3 c3]) rfl rfl) (tm':=zq1 (zq32 (zq32 []))) rfl ?_
         refine xbk (ms rfl rfl (xfw (dtt cc11))) (fun h_ H_=>xaz xqv rfl (a':=⟨b10,1,none⟩) rfl) rfl ?_
         refine xbk (ms rfl rfl (xfw (dtt cc11))) (fun h_ H_=>xaj H_ tA3 rfl (i:=0) rfl (v:=.int .i64 ((t.wy.getD r wz).2)) rfl) (tm':=zq1 (zq32 (zq32 []))) rfl ?_
         refine xiv (ms rfl rfl (xfw (dtt cc11))) (first:=[]) (cap:=[]) rfl rfl fC70 (fun h_ H_=>(c70 md _ _ H_.pe _ _ _ _ _ _ _ _ _ t (show TownP _ _ _ _ _ _ _ t from ⟨T.h,T.w,T.y⟩) (by omega) ((t.wy.getD r wz).2)).mono fun v_ h2_ ⟨e_,k_⟩=>⟨e_,H_.call k_⟩) rfl ?_
         refine xbk (ms rfl rfl (xfw (dtt cc11))) (fun h_ H_=>xjw rfl) (tm':=zq1 (zq32 (zq32 []))) rfl ?_
         refine wo (xej rfl (xfw (dtt cc11)) (v:=.bool (!(decide (0≤(t.wy.getD r wz).2∧(t.wy.getD r wz).2≤(t.nW:Int)-1)))) rfl) <| wt (xaq (v:=.bool (!(decide (0≤(t.wy.getD r wz).2∧(t.wy.getD r wz).2≤(t.nW:Int)-1)))) rfl) (tm':=zq1 (zq32 (zq32 []))) rfl <| wp (mo rfl rfl (xmz (dff cc12))) <| xex (mo rfl rfl (xmz (dff cc12))) (tm':=zq1 (zq32 (zq32 []))) rfl <| wp (mo rfl rfl (xmz (dff cc12))) <| xex (xew rfl rfl) (tm':=zq1 (zq32 (zq32 []))) rfl ?_
         refine wp (xew rfl rfl) <| xex (xew rfl rfl) (tm':=zq1 (zq32 (zq32 []))) rfl <| wp (xew rfl rfl) <| xex (xew rfl rfl) (tm':=zq1 (zq32 (zq32 []))) rfl <| wp (xew rfl rfl) <| xex (xew rfl rfl) (tm':=zq1 (zq32 (zq32 []))) rfl ?_
         refine xiz rfl ?_
         refine rp (xew rfl rfl) <| rp (xew rfl rfl) <| xfx (mo rfl rfl (xmz (dff cc12))) (tm':=zq1 (zq32 (zq32 []))) rfl <| ro (xdz rfl (xmz (dff cc12)) (v:=.bool (true)) rfl) <| xak <| xdx rfl rfl ?_
         refine fsr <| ro (xax (v:=.int .i64 30) rfl) <| xak ?_
         refine xdv Tryd.func47 rfl (vs:=[.int .i64 30]) (fun h_ H_=>⟨.int .i64 30,_,rfl,rfl,rfl⟩) (v:=.int .i64 30) rfl ?_
         exact fun h_ H_=>K _ _ ⟨by first | (rw [xow (by omega) ⟨by omega,by omega,xnw ‹_›,xnw ‹_›,fun i hi=>h3 i (by omega)⟩]) | (rw [xrx (fun z=>by have z1:=z.2.nh;have z2:=z.2.nw;first | omega | exact xqq ‹_› (fun i hi=>z.2.h i hi) | exact xqq ‹_› (fun i hi=>z.2.w i hi) | (rcases z.2.y r (by omega) with ⟨z3,z4,z5⟩;first | omega | exact absurd (z5 (by omega)) (xsw.1 (by omega))))]),H_.kept⟩
       ·
        refine xgx 23 [[],[],[1],[0,1,2],[0,1,2],[0,1,2,3,4],[],[0,1,2,3,4],[0,1,2,3,4,7],[0,1,2,3,4,6,7,8],[0,1,2,3,4,6,7,8],[0,1,2,3,4,5,6,7,8,10],[0,1,2,3,4,5,6,7,8,9,10,11],[0,1,2,3,4,5,6,7,8,9,10,11],[0,1,2,3,4,5,6,7,8,9,10,11,13],[0,1,2,3,4,5,6,7,8,9,10,11,12,13,14],[],[16],[],[18],[16,17,18,19],[16,17,18,19,20],[0,1,2,3,4,5,6,7,8,9,10,11,12,13,14],[0,1,2,3,4,5,6,7,8,9,10,11,12,13,14,16,17,18,19,20,21,22],[0,1,2,3,4,5,6,7,8,9,10,11,13,14,16,17,18,19,20,21,22,23],[0,1,2,3,4,5,6,7,8,9,10,11,13,14,15,16,17,18,19,20,21,22,23,24],[]] xkk (by kernel_rfl) (Nat.le_of_ble_eq_true rfl) ?_
        refine xbk mn (fun h_ H_=>xav H_ tA25 tS25 rfl (i:=1) rfl (vs:=[.slice a1 n1 c1,.slice a2 n2 c2,.slice a3 n3 c3]) rfl rfl) (tm':=zq2 (zq4 (zq32 _))) rfl ?_
        refine wo (xaz xoj rfl (a':=⟨b10,0,none⟩) rfl) ?_
        refine xbk mn (fun h_ H_=>xaj H_ tA3 rfl (i:=0) rfl (v:=.int .i64 ((t.wy.getD r wz).1)) rfl) (tm':=zq8 (zq32 _)) rfl ?_
        refine xiv mn (first:=[]) (cap:=[]) rfl rfl fC65 (fun h_ H_=>(c65 md _ _ H_.pe _ _ _ _ _ _ _ _ _ t (show TownP _ _ _ _ _ _ _ t from ⟨T.h,T.w,T.y⟩) (by omega) ((t.wy.getD r wz).1)).mono fun v_ h2_ ⟨e_,k_⟩=>⟨e_,H_.call k_⟩) rfl ?_
        refine wt (xjw rfl) (tm':=zq2 (zq8 (zq32 _))) rfl <| wo (xaq (v:=.bool (!(decide (0≤(t.wy.getD r wz).1∧(t.wy.getD r wz).1≤(t.nH:Int)-1)))) rfl) <| xex (mo rfl rfl (xmz (dff cc11))) (tm':=zq1 (zq32 (zq32 []))) rfl <| wp (mo rfl rfl (xmz (dff cc11))) <| xex (mo rfl rfl (xmz (dff cc11))) (tm':=zq1 (zq32 (zq32 []))) rfl <| wp (mo rfl rfl (xmz (dff cc11))) ?_
        refine xex (mo rfl rfl (xmz (dff cc11))) (tm':=zq1 (zq32 (zq32 []))) rfl <| wo (xdz rfl (xmz (dff cc11)) (v:=.bool (true)) rfl) <| wt (xaq (v:=.bool (true)) rfl) (tm':=zq1 (zq32 (zq32 []))) rfl <| wp (mo rfl rfl rfl) <| xex (mo rfl rfl rfl) (tm':=zq1 (zq32 (zq32 []))) rfl <| wp (mo rfl rfl rfl) ?_
        refine xex (xew rfl rfl) (tm':=zq1 (zq32 (zq32 []))) rfl <| wp (xew rfl rfl) <| xex (xew rfl rfl) (tm':=zq1 (zq32 (zq32 []))) rfl <| wp (xew rfl rfl) <| xex (xew rfl rfl) (tm':=zq1 (zq32 (zq32 []))) rfl <| wp (xew rfl rfl) ?_
        refine xex (xew rfl rfl) (tm':=zq1 (zq32 (zq32 []))) rfl ?_
        refine xiz rfl ?_
        refine rp (xew rfl rfl) <| xfx (xew rfl rfl) (tm':=zq1 (zq32 (zq32 []))) rfl <| rp (mo rfl rfl rfl) <| ro (xdz rfl rfl (v:=.bool (true)) rfl) <| xak <| xdx rfl rfl ?_
        refine fsr <| rt (xax (v:=.int .i64 30) rfl) (tm':=_::_::_::_) rfl <| xak ?_
        refine xdv Tryd.func47 rfl (vs:=[.int .i64 30]) (fun h_ H_=>⟨.int .i64 30,_,rfl,rfl,rfl⟩) (v:=.int .i64 30) rfl ?_
        exact fun h_ H_=>K _ _ ⟨by first | (rw [xow (by omega) ⟨by omega,by omega,xnw ‹_›,xnw ‹_›,fun i hi=>h3 i (by omega)⟩]) | (rw [xrx (fun z=>by have z1:=z.2.nh;have z2:=z.2.nw;first | omega | exact xqq ‹_› (fun i hi=>z.2.h i hi) | exact xqq ‹_› (fun i hi=>z.2.w i hi) | (rcases z.2.y r (by omega) with ⟨z3,z4,z5⟩;first | omega | exact absurd (z5 (by omega)) (xsw.1 (by omega))))]),H_.kept⟩
      ·
       refine xck rfl (dff cc9) <| xhz rfl <| fsr <| ro (xax (v:=.int .i64 0) rfl) <| xak ?_
       refine xdv Tryd.func47 rfl (vs:=[.int .i64 0]) (fun h_ H_=>⟨.int .i64 0,_,rfl,rfl,rfl⟩) (v:=.int .i64 0) rfl ?_
       exact fun h_ H_=>K _ _ ⟨by first | (rw [xow (by omega) ⟨by omega,by omega,xnw ‹_›,xnw ‹_›,fun i hi=>h3 i (by omega)⟩]) | (rw [xrx (fun z=>by have z1:=z.2.nh;have z2:=z.2.nw;first | omega | exact xqq ‹_› (fun i hi=>z.2.h i hi) | exact xqq ‹_› (fun i hi=>z.2.w i hi) | (rcases z.2.y r (by omega) with ⟨z3,z4,z5⟩;first | omega | exact absurd (z5 (by omega)) (xsw.1 (by omega))))]),H_.kept⟩
theorem c96 (md:Md) (h:Heap) (p:PHeap) (hp:Per p h) (a1:Option Addr) (n1 c1:Nat) (a2:Option Addr) (n2 c2:Nat) (a3:Option Addr) (n3 c3:Nat) (t:Tn) (T:TownP p a1 n1 a2 n2 a3 n3 t) (hn:n1≤40∧n2≤40∧n3≤41) (b:Bool):CallsX Tryd.prog md 96 #[.agg #[.slice a1 n1 c1,.slice a2 n2 c2,.slice a3 n3 c3],.bool (b)] h fun v h'=>v= .int .i64 (askB t b)∧Keep h h':=by
 refine xcx (Φ:=fun h_=>St h [] p h_ []) Tryd.func96 rfl (tm:=zq1 (zq4 (zq8 []))) rfl ?_ (St.start h _ hp)
 intro c₀ cs Stop K
 have eH:=T.nH
 have eW:=T.nW
 have eM:=T.m
 refine fsr ?_
 refine xij mn (v:=.agg #[.slice a1 n1 c1,.slice a2 n2 c2,.slice a3 n3 c3]) rfl fun b1=>xcq (L':=[(b1,.cells #[.slice a1 n1 c1,.slice a2 n2 c2,.slice a3 n3 c3] 25 (0,0))]) rfl ?_
 refine rt (xax (v:=.int .i64 0) rfl) (tm':=zq1 (zq4 _)) rfl <| ren <| fsr <| rd (fun h_ H_=>xav H_ tA25 tS25 rfl (i:=0) rfl (vs:=[.slice a1 n1 c1,.slice a2 n2 c2,.slice a3 n3 c3]) rfl rfl) ?_
 refine xeq mn (first:=[]) (cap:=[]) rfl rfl fC48 (fun h_ H_=>c48 md _ _ H_.pe _ _ _ _ _ _ _ _ _ t (show TownP _ _ _ _ _ _ _ t from ⟨T.h,T.w,T.y⟩) (by omega)) rfl ?_
 refine rt (xax (v:=.int .i64 (chkB t)) rfl) (tm':=zq2 (zq4 _)) rfl <| ren <| xbq <| ro (xaq (v:=.int .i64 (chkB t)) rfl) <| ro (xmk rfl rfl) <| xak ?_
 by_cases cc2:chkB t≠0
 ·
  refine xdx rfl (dtt cc2) <| fsr <| rt (xaq (v:=.int .i64 (chkB t)) rfl) (tm':=zq1 (zq4 (zq8 []))) rfl <| ro (xax (v:=.int .i64 (chkB t)) rfl) <| xak ?_
  refine xdv Tryd.func96 rfl (vs:=[.int .i64 (chkB t)]) (fun h_ H_=>⟨.int .i64 (chkB t),_,rfl,rfl,rfl⟩) (v:=.int .i64 (chkB t)) rfl ?_
  exact fun h_ H_=>K _ _ ⟨by rw [ykj];first | (rw [if_neg ‹_›]) | (rw [if_pos (by omega)];simp [*]),H_.kept⟩
 ·
  refine xck rfl (dff cc2) <| xcv <| xez <| fsr <| ro (xaq (v:=.bool (b)) rfl) <| rt (xjw rfl) (tm':=zq1 (zq4 (zq8 []))) rfl ?_
  refine xak ?_
  rcases ybj (b) with cc3 | cc3
  ·
   refine xck rfl (xfw cc3) <| xcv <| fsr <| ro (xax (v:=.int .i64 0) rfl) <| xak ?_
   refine xdv Tryd.func96 rfl (vs:=[.int .i64 0]) (fun h_ H_=>⟨.int .i64 0,_,rfl,rfl,rfl⟩) (v:=.int .i64 0) rfl ?_
   exact fun h_ H_=>K _ _ ⟨by rw [ykj];first | (rw [if_neg ‹_›]) | (rw [if_pos (by omega)];simp [*]),H_.kept⟩
  ·
   refine xdx rfl (xmz cc3) <| fsr <| ro (xax (v:=.int .i64 1) rfl) <| xak ?_
   refine xdv Tryd.func96 rfl (vs:=[.int .i64 1]) (fun h_ H_=>⟨.int .i64 1,_,rfl,rfl,rfl⟩) (v:=.int .i64 1) rfl ?_
   exact fun h_ H_=>K _ _ ⟨by rw [ykj];first | (rw [if_neg ‹_›]) | (rw [if_pos (by omega)];simp [*]),H_.kept⟩
theorem c64 (md:Md) (h:Heap) (p:PHeap) (hp:Per p h) (a1:Option Addr) (n1 c1:Nat) (a2:Option Addr) (n2 c2:Nat) (a3:Option Addr) (n3 c3:Nat) (t:Tn) (T:TownP p a1 n1 a2 n2 a3 n3 t) (hn:n1≤40∧n2≤40∧n3≤41) (b:Bool):CallsX Tryd.prog md 64 #[.agg #[.slice a1 n1 c1,.slice a2 n2 c2,.slice a3 n3 c3],.bool (b)] h fun v h'=>v= .int .i64 (askB t b)∧Keep h h':=by
 refine xcx (Φ:=fun h_=>St h [] p h_ []) Tryd.func64 rfl (tm:=zq1 (zq4 (zq8 []))) rfl ?_ (St.start h _ hp)
 intro c₀ cs Stop K
 have eH:=T.nH
 have eW:=T.nW
 have eM:=T.m
 refine fsr ?_
 refine xij mn (v:=.agg #[.slice a1 n1 c1,.slice a2 n2 c2,.slice a3 n3 c3]) rfl fun b1=>xcq (L':=[(b1,.cells #[.slice a1 n1 c1,.slice a2 n2 c2,.slice a3 n3 c3] 25 (0,0))]) rfl ?_
 refine xfj (tm':=_::_::_::_) rfl ?_
 refine ro (xax (v:=.int .i64 0) rfl) <| ren <| fsr <| rd (fun h_ H_=>xav H_ tA25 tS25 rfl (i:=0) rfl (vs:=[.slice a1 n1 c1,.slice a2 n2 c2,.slice a3 n3 c3]) rfl rfl) ?_
 refine xeq mn (first:=[]) (cap:=[]) rfl rfl fC47 (fun h_ H_=>c47 md _ _ H_.pe _ _ _ _ _ _ _ _ _ t (show TownP _ _ _ _ _ _ _ t from ⟨T.h,T.w,T.y⟩) (by omega)) (tm':=zq8 _) rfl ?_
 refine ro (xax (v:=.int .i64 (chkB t)) rfl) <| ren <| xbq <| ro (xaq (v:=.int .i64 (chkB t)) rfl) <| rt (xmk rfl rfl) (tm':=zq1 (zq4 (zq8 []))) rfl <| xak ?_
 by_cases cc2:chkB t≠0
 ·
  refine xdx rfl (dtt cc2) <| fsr <| ro (xaq (v:=.int .i64 (chkB t)) rfl) <| ro (xax (v:=.int .i64 (chkB t)) rfl) <| xak ?_
  refine xdv Tryd.func64 rfl (vs:=[.int .i64 (chkB t)]) (fun h_ H_=>⟨.int .i64 (chkB t),_,rfl,rfl,rfl⟩) (v:=.int .i64 (chkB t)) rfl ?_
  exact fun h_ H_=>K _ _ ⟨by rw [ykj];first | (rw [if_neg ‹_›]) | (rw [if_pos (by omega)];simp [*]),H_.kept⟩
 ·
  refine xck rfl (dff cc2) <| xcv <| xez <| fsr <| rt (xaq (v:=.bool (b)) rfl) (tm':=zq1 (zq4 (zq8 []))) rfl <| ro (xjw rfl) ?_
  refine xak ?_
  rcases ybj (b) with cc3 | cc3
  ·
   refine xck rfl (xfw cc3) <| xcv <| fsr <| ro (xax (v:=.int .i64 0) rfl) <| xak ?_
   refine xdv Tryd.func64 rfl (vs:=[.int .i64 0]) (fun h_ H_=>⟨.int .i64 0,_,rfl,rfl,rfl⟩) (v:=.int .i64 0) rfl ?_
   exact fun h_ H_=>K _ _ ⟨by rw [ykj];first | (rw [if_neg ‹_›]) | (rw [if_pos (by omega)];simp [*]),H_.kept⟩
  ·
   refine xdx rfl (xmz cc3) <| fsr <| rt (xax (v:=.int .i64 1) rfl) (tm':=zq1 (zq4 _)) rfl <| xak ?_
   refine xdv Tryd.func64 rfl (vs:=[.int .i64 1]) (fun h_ H_=>⟨.int .i64 1,_,rfl,rfl,rfl⟩) (v:=.int .i64 1) rfl ?_
   exact fun h_ H_=>K _ _ ⟨by rw [ykj];first | (rw [if_neg ‹_›]) | (rw [if_pos (by omega)];simp [*]),H_.kept⟩
theorem c60 (md:Md) (h:Heap) (p:PHeap) (hp:Per p h) (a1:Option Addr) (n1 c1:Nat) (a2:Option Addr) (n2 c2:Nat) (a3:Option Addr) (n3 c3:Nat) (t:Tn) (T:TownP p a1 n1 a2 n2 a3 n3 t) (hn:n1≤40∧n2≤40∧n3≤41) (x y:Int):CallsX Tryd.prog md 60 #[.agg #[.slice a1 n1 c1,.slice a2 n2 c2,.slice a3 n3 c3],.agg #[.int .i64 (x),.int .i64 (y)]] h fun v h'=>v= .bool (decide (((x,y):FWay)∈t.wy))∧Keep h h':=by
 refine xcx (Φ:=fun h_=>St h [] p h_ []) Tryd.func60 rfl (tm:=zq4 (zq16 [])) rfl ?_ (St.start h _ hp)
 intro c₀ cs Stop K
 have eH:=T.nH
 have eW:=T.nW
 have eM:=T.m
 refine fsr ?_
 refine xij mn (v:=.agg #[.slice a1 n1 c1,.slice a2 n2 c2,.slice a3 n3 c3]) rfl fun b1=>xcq (L':=[(b1,.cells #[.slice a1 n1 c1,.slice a2 n2 c2,.slice a3 n3 c3] 25 (0,0))]) rfl ?_
 refine xij mn (v:=.agg #[.int .i64 (x),.int .i64 (y)]) rfl fun b2=>xcq (L':=[(b2,.cells #[.int .i64 (x),.int .i64 (y)] 43 (0,0)),(b1,.cells #[.slice a1 n1 c1,.slice a2 n2 c2,.slice a3 n3 c3] 25 (0,0))]) rfl ?_
 refine rt (xax (v:=.bool (false)) rfl) (tm':=zq1 (zq4 _)) rfl <| ren <| fsr <| ro (xax (v:=.int .i64 0) rfl) <| xak <| xdj ?_
 refine xhk (m₀:=n3-0) (fun m_ tm_ h_=>∃ (k:Nat),m_=n3-k∧(∃ y3:Nat→Value,tm_=[.agg #[.slice a1 n1 c1,.slice a2 n2 c2,.slice a3 n3 c3],.agg #[.int .i64 (x),.int .i64 (y)],.pointer (some ⟨b1,0,none⟩),.pointer (some ⟨b2,0,none⟩),(y3 4),.int .i64 (((k:Nat):Int)),(y3 6),(y3 7),(y3 8),(y3 9),(y3 10),(y3 11),(y3 12),(y3 13),(y3 14),(y3 15),(y3 16),(y3 17),(y3 18),(y3 19)])∧(k≤n3)∧(∀ i,i<k→ ¬ t.wy.getD i wz=(x,y))∧St h [] p h_ ([(b2,.cells #[.int .i64 (x),.int .i64 (y)] 43 (0,0)),(b1,.cells #[.slice a1 n1 c1,.slice a2 n2 c2,.slice a3 n3 c3] 25 (0,0))])) (fun h_ H_=>⟨0,rfl,(y_of rfl),Nat.zero_le _,(fun i hi=>absurd hi (Nat.not_lt_zero i)),H_⟩) ?_
 intro m_ tm_ IH4
 refine xhq fun k=>xcz fun hm_=>xcz fun ht_=>xcz fun hkk=>xcz fun hs=>?_
 subst hm_;obtain ⟨y3,ht_⟩:=ht_;subst ht_
 refine xez <| fsr <| ro (xaq (v:=.int .i64 (((k:Nat):Int))) rfl) <| rt (xaz xhj rfl (a':=⟨b1,2,none⟩) rfl) (tm':=zq8 _) rfl <| rd (fun h_ H_=>xaj H_ tA23 rfl (i:=1) rfl (v:=.slice a3 n3 c3) rfl) <| ro (xfz Tryd.underlying23 rfl) ?_
 refine rt (xgj rfl rfl) (tm':=zq1 (zq2 (zq8 _))) rfl <| xak ?_
 by_cases cc5:((k:Nat):Int)<((n3:Nat):Int)
 ·
  refine xdx rfl (dtt cc5) <| xcv <| xez <| xdj <| xez ?_
  refine xgx 6 [[],[0],[],[0,1,2],[0,1,2,3],[],[]] xkk (by kernel_rfl) (Nat.le_of_ble_eq_true rfl) ?_
  refine wt (xaz xhj rfl (a':=⟨b1,2,none⟩) rfl) (tm':=zq4 (zq16 [])) rfl <| wd (fun h_ H_=>xaj H_ tA23 rfl (i:=1) rfl (v:=.slice a3 n3 c3) rfl) <| wt (xaq (v:=.int .i64 (((k:Nat):Int))) rfl) (tm':=zq4 (zq16 [])) rfl ?_
  refine wo (xbw (i:=k) Tryd.underlying23 tS43 (xjq a3 n3 c3 (T.y.ne (by omega))) rfl (by omega)) ?_
  refine xbk mn (fun h_ H_=>xgw H_ tA43 tS43 rfl (vs:=[.int .i64 ((t.wy.getD k wz).1),.int .i64 ((t.wy.getD k wz).2)]) rfl (T.y.all (by omega))) (tm':=zq4 (zq16 [])) rfl ?_
  refine wd (fun h_ H_=>xav H_ tA43 tS43 rfl (i:=0) rfl (vs:=[.int .i64 (x),.int .i64 (y)]) rfl rfl) ?_
  refine xiz rfl ?_
  refine ro (yrw gT43 (wxw 9998 _ _ _ _) rfl rfl) <| xak ?_
  by_cases cc6:(t.wy.getD k wz).1=x∧(t.wy.getD k wz).2=y
  ·
   refine xdx rfl (dtt cc6) <| fsr <| ro (xax (v:=.bool (true)) rfl) <| xak ?_
   refine xdv Tryd.func60 rfl (vs:=[.bool (true)]) (fun h_ H_=>⟨.bool (true),_,rfl,rfl,rfl⟩) (v:=.bool (true)) rfl ?_
   exact fun h_ H_=>K _ _ ⟨by first | (rw [decide_eq_true (waj (k:=k) (by have z_:=T.y.len;omega) (zlq.1 ‹_›))]) | (rw [decide_eq_false (waz (k:=k) (by have z_:=T.y.len;omega) hs)]),H_.kept⟩
  ·
   refine xck rfl (dff cc6) <| xcv <| xdq <| xbq <| rt (xaq (v:=.int .i64 (((k:Nat):Int))) rfl) (tm':=zq4 (zq8 _)) rfl ?_
   refine ro (xek rfl rfl (n:=((k+1:Nat):Int)) (wr (by omega))) ?_
   refine ro (xax (v:=.int .i64 (((k+1:Nat):Int))) rfl) <| xak ?_
   exact fun h_ H_=>IH4 _ _ (by omega) h_ ⟨k+1,rfl,(y_of rfl),(by omega),(xrw hs (fun e_=>absurd (zlq.2 e_) ‹_›)),H_⟩
 ·
  refine xck rfl (dff cc5) <| xhz rfl <| fsr <| rt (xax (v:=.bool (false)) rfl) (tm':=zq1 (zq4 _)) rfl <| xak ?_
  refine xdv Tryd.func60 rfl (vs:=[.bool (false)]) (fun h_ H_=>⟨.bool (false),_,rfl,rfl,rfl⟩) (v:=.bool (false)) rfl ?_
  exact fun h_ H_=>K _ _ ⟨by first | (rw [decide_eq_true (waj (k:=k) (by have z_:=T.y.len;omega) (zlq.1 ‹_›))]) | (rw [decide_eq_false (waz (k:=k) (by have z_:=T.y.len;omega) hs)]),H_.kept⟩
end Go.Proofs.YtalfgojocdonhaaDoor
