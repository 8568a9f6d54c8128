/-
  Part of proofs about a town's master: a calculus for Bc beside goroutines that are only leaving, and the Bc. No condition.
-/
import Derived.Test.YtofhlcococeifaaGreatDoorYP
import Derived.Test.YtofhlcococeifaaGreatDoorYE
namespace Go.X.Flow
open Go.X
variable{z:Int}{d vs xs ys:List Int}{g h i j n:Nat}{p':Ab}{v:Value}
section
variable{p:Ab}{a:Option Addr}{c k l r:Nat}
abbrev Cl:=Int×Int
def Cl.cells(x:Cl):List Value:=[.J x.1,.J x.2]
def wcs(xs:List Cl):List (List Value):=xs.map Cl.cells
def Wys(p:Ab)(a:Option Addr)(n:Nat)(xs:List Cl):Prop:=Sl p a n 2 (wcs xs)
def wz:Cl:=(0,0)
variable{xs:List Cl}
theorem Ar(xs:List Cl):(wcs xs).length=xs.length:=by simp[wcs]
theorem Wys.len(s:Wys p a n xs):xs.length=n:=by have:=Sl.len s;simpa[wcs]using this
theorem Wys.mono(H:PLe p p')(s:Wys p a n xs):Wys p' a n xs:=Sl.mono H s
theorem Wys.ne(s:Wys p a n xs)(H:0<n):a=some (adr a):=Sl.ne s H
theorem Wys.at(s:Wys p a n xs)(M:k<n){j:Nat}{v:Value}(hv:(xs.getD k wz).cells[j]?=some v):Aw p (((adr a).add (k*2)).add j)=some v:=by
 have H:=s.len;exact Sl.get s k (xs.getD k wz).cells (by rw[wcs,List.getElem?_map,List.getD_eq_getElem?_getD,List.getElem?_eq_getElem om];rfl) j v hv
theorem Wys.ho(s:Wys p a n xs)(H:k<n):Aw p ((adr a).add (k*2))=some (.J (xs.getD k wz).1):=s.at H (j:=0) rfl
theorem Wys.we(s:Wys p a n xs)(H:k<n):Aw p (((adr a).add (k*2)).add 1)=some (.J (xs.getD k wz).2):=s.at H (j:=1) rfl
theorem Wys.all(s:Wys p a n xs)(H:k<n):∀j v,[Value.J (xs.getD k wz).1,.J (xs.getD k wz).2][j]?=some v->Aw p (((adr a).add (k*2)).add j)=some v:=fun _ _ hv=>s.at H hv
end
structure Al(p:Ab)(a1:Option Addr)(n1:Nat)(a2:Option Addr)(n2:Nat)(a3:Option Addr)(n3:Nat)(t:Tn):Prop where
 h:Ax p a1 n1 t.hs
 w:Ax p a2 n2 t.ws
 y:Wys p a3 n3 t.wy
theorem Al.nH{p a1 n1 a2 n2 a3 n3 t}(T:Al p a1 n1 a2 n2 a3 n3 t):t.nH=n1:=T.h.len
theorem Al.nW{p a1 n1 a2 n2 a3 n3 t}(T:Al p a1 n1 a2 n2 a3 n3 t):t.nW=n2:=T.w.len
theorem Al.m{p a1 n1 a2 n2 a3 n3 t}(T:Al p a1 n1 a2 n2 a3 n3 t):t.m=n3:=T.y.len
def Bf(x y:Cl):Prop:=x.1<y.1\/x.1=y.1/\x.2<y.2
instance(x y:Cl):Decidable (Bf x y):=by unfold Bf;infer_instance
def YOk(t:Tn)(i:Nat):Prop:=(0<=(t.wy.getD i wz).1/\(t.wy.getD i wz).1<=(t.nH:Int)-1)/\(0<=(t.wy.getD i wz).2/\(t.wy.getD i wz).2<=(t.nW:Int)-1)/\(0<i->Bf (t.wy.getD ((i:Int)-1).toNat wz) (t.wy.getD i wz))
structure Vd(t:Tn):Prop where
 nh:t.nH<=6
 nw:t.nW<=5
 h:∀h,h<t.nH->0<=t.hs.getD h 0/\t.hs.getD h 0<=9
 w:∀w,w<t.nW->0<=t.ws.getD w 0/\t.ws.getD w 0<=20
 y:∀i,i<t.m->YOk t i
open Classical in
noncomputable def Et(t:Tn):Int:=if t.m<=12/\Vd t then 0 else 30
theorem Cw{t}(h:t.m<=12)(v:Vd t):Et t=0:=if_pos ⟨h,v⟩
theorem Fq{t}(h:¬ (t.m<=12/\Vd t)):Et t=30:=if_neg h
theorem xkh(t):Et t=0/\t.m<=12/\Vd t\/Et t=30/\ ¬ (t.m<=12/\Vd t):=by
 by_cases h:t.m<=12/\Vd t
 ·exact .inl ⟨Cw h.1 h.2,h⟩
 ·exact .inr ⟨Fq h,h⟩
noncomputable def Lq(t:Tn)(b:Bool):Int:=if Et t=0 then(if b then 0 else 1)else 30
theorem Vd.ok{t}(v:Vd t)(M:t.m<=13):Ok t:=
 ⟨v.nh,v.nw,M,v.h,fun x H=>by have:=v.w x H;unfold Tn.wv;omega,fun i hi=>by
  have:=v.y i hi;have O:=this.1;have V:=this.2.1
  unfold Tn.wh Tn.ww;have e:t.wy.getD i (0,0)=t.wy.getD i wz:=rfl;rw[e];omega⟩
def G4(x y:Int):Int:=if x<y then -1 else if y<x then 1 else 0
theorem Dt{q:Nat->Prop}{k:Nat}(hs:∀i,i<k->q i)(h:q k):∀i,i<k+1->q i:=fun i hi=>by
 by_cases e:i=k
 ·subst e;exact h
 ·exact hs i om
theorem Au{α:Type}{l:List α}{d:α}(h:i<l.length):l.getD i d=l[i]:=by
 rw[List.getD_eq_getElem?_getD,List.getElem?_eq_getElem h];rfl
def Dn{α:Type}(q:α->Bool):List α->Int
 |[]=>-1
 |d::ds=>if q d=true then 0 else if Dn q ds<0 then -1 else Dn q ds+1
theorem De{α:Type}{q:α->Bool}{z:α}:∀{ds:List α},(∀i,i<ds.length->q (ds.getD i z)=false)->Dn q ds= -1
 |[],_=>rfl
 |d::ds,h=>by
   have H:q d=false:=h 0 s_;have:=De (ds:=ds) fun i hi=>h (i+1) (by simp;omega);simp only[Dn,H,this];simp
theorem Df{α:Type}{q:α->Bool}{z:α}:∀{ds:List α}{k:Nat},k<ds.length->q (ds.getD k z)=true->(∀i,i<k->q (ds.getD i z)=false)->Dn q ds=k
 |[],_,h,_,_=>by simp at h
 |d::ds,0,_,h,_=>by
   have H:q d=true:=h;simp[Dn,H]
 |d::ds,k+1,hk,h,hs=>by
   have H:q d=false:=hs 0 om;have:=Df (ds:=ds) (k:=k) (by simp at hk;omega) h fun i hi=>hs (i+1) om;simp only[Dn,H,this];rw[if_neg s_,if_neg om];omega
theorem Ea{α:Type}{q:α->Bool}:∀{ds:List α},0<=Dn q ds<-> ∃t∈ds,q t=true
 |[]=>by simp[Dn]
 |d::ds=>by
   have O:=Ea (q:=q) (ds:=ds);rw[Dn];by_cases h:q d=true
   ·rw[if_pos h];exact⟨fun _=>⟨d,List.mem_cons_self ..,h⟩,fun _=>Int.le_refl _⟩
   ·rw[if_neg h];by_cases c:Dn q ds<0
    ·rw[if_pos c];refine⟨fun z=>absurd z om,fun⟨t,H,M⟩=>?_⟩;rcases List.mem_cons.1 H with rfl|H
     ·exact absurd M h
     ·have:=O.2 ⟨t,H,M⟩;omega
    ·rw[if_neg c];refine⟨fun _=>?_,fun _=>om⟩;obtain⟨t,H,M⟩:=O.1 om;exact⟨t,List.mem_cons_of_mem _ H,M⟩
def orI:List Int->Int
 |[]=>0
 |x::l=>if x=0 then orI l else x
theorem yth:∀{k:Nat}{xs:List Int},k<xs.length->(∀i,i<k->xs.getD i 0=0)-> ¬ xs.getD k 0=0->orI xs=xs.getD k 0
 |_,[],h,_,_=>by simp at h
 |0,x::xs,_,_,n=>by
   have n:¬ x=0:=n;rw[orI,if_neg n];rfl
 |k+1,x::xs,h,hs,n=>by
   have e:x=0:=hs 0 om;rw[orI,if_pos e];exact yth (k:=k) (by simp at h;omega) (fun i hi=>hs (i+1) om) n
theorem ysj:∀{xs:List Int},(∀i,i<xs.length->xs.getD i 0=0)->orI xs=0
 |[],_=>rfl
 |x::xs,hs=>by
   have e:x=0:=hs 0 s_;rw[orI,if_pos e];exact ysj fun i hi=>hs (i+1) (by simp;omega)
def Pq(a b c d:Int):Int:=orI [G4 a c,G4 b d]
theorem yfd{x y:Cl}:0<=Pq x.1 x.2 y.1 y.2<-> ¬ Bf x y:=by
 unfold Pq Bf;simp only[orI,G4]
 (repeat' split)<;>omega
def Nr(hi:Int)(n:Int):Bool:=! decide (0<=n/\n<=hi)
theorem xm8{hi:Int}(h:¬ 0<=Dn (Nr hi) xs):∀i,i<xs.length->0<=xs.getD i 0/\xs.getD i 0<=hi:=fun i H=>by
 have:=fun z=>h (Ea.2 ⟨xs.getD i 0,by rw[Au H];exact List.getElem_mem H,z⟩);by_cases c:0<=xs.getD i 0/\xs.getD i 0<=hi
 ·exact c
 ·exact absurd (by unfold Nr;rw[decide_eq_false c];rfl) this
theorem yww{hi:Int}(h:0<=Dn (Nr hi) xs):¬ ∀i,i<xs.length->0<=xs.getD i 0/\xs.getD i 0<=hi:=fun z=>by
 obtain⟨t,O,M⟩:=Ea.1 h;obtain⟨i,H,e⟩:=List.mem_iff_getElem.1 O;have:=z i H;rw[Au H,e]at this;unfold Nr at M;simp only[Bool.not_eq_true',decide_eq_false_iff_not]at M;omega
noncomputable instance(t:Tn):Decidable (Vd t):=Classical.propDecidable _
def ics(xs:List Int):List (List Value):=xs.map fun x=>[.J x]
theorem Ae(xs:List Int):(ics xs).length=xs.length:=by simp[ics]
theorem Cm(h:j<xs.length):(ics xs)[j]?=some [.J (xs.getD j 0)]:=by
 rw[ics,List.getElem?_map,List.getD_eq_getElem?_getD,List.getElem?_eq_getElem h];rfl
theorem Co:(ics xs).set j [.J z]=ics (xs.set j z):=by
 simp[ics,List.map_set]
theorem yyd:ics xs++[[.J z]]=ics (xs++[z]):=by simp[ics]
def D8(vs:List Int)(g:Nat->Nat)(d:List Int)(k:Nat):List Int:=(List.range vs.length).map fun h=>vs.getD h 0-sm k fun i=>if g i=h then dv d i else 0
theorem xvx{vs g d k}:(D8 vs g d k).length=vs.length:=by simp[D8]
theorem xkv{vs g d k h}(H:h<vs.length):(D8 vs g d k).getD h 0=vs.getD h 0-sm k fun i=>if g i=h then dv d i else 0:=by
 rw[D8,List.getD_eq_getElem?_getD,List.getElem?_map,List.getElem?_range H];rfl
theorem xjg{a b:List Int}(M:a.length=b.length)(h:∀i,i<a.length->a.getD i 0=b.getD i 0):a=b:=by
 refine List.ext_getElem M fun i H O=>?_;have:=h i H;rwa[Au H,Au O]at this
theorem xnr{vs g d}:D8 vs g d 0=vs:=xjg xvx fun i hi=>by
 rw[xvx]at hi;rw[xkv hi];simp[sm]
theorem xit(hi:i<xs.length):(xs.set i z).getD j 0=if i=j then z else xs.getD j 0:=ydl hi j
theorem xw9{g:Nat->Nat}{k:Nat}(H:g k<vs.length):(D8 vs g d k).set (g k) ((D8 vs g d k).getD (g k) 0-dv d k)=D8 vs g d (k+1):=by
 refine xjg (by rw[List.length_set,xvx,xvx]) fun i hi=>?_;rw[List.length_set,xvx]at hi;rw[xit (by rw[xvx];exact H),xkv hi,xkv hi,xkv H];simp only[sm];by_cases e:g k=i
 ·rw[if_pos e,if_pos e,e];omega
 ·rw[if_neg e,if_neg e];omega
theorem xln{g:Nat->Nat}{k:Nat}(H:∀i,i<k->0<=dv d i/\dv d i<=20):0<=(sm k fun i=>if g i=h then dv d i else 0)/\(sm k fun i=>if g i=h then dv d i else 0)<=20*k:=by
 induction k with
 |zero=>exact⟨Int.le_refl _,Int.le_refl _⟩
 |succ k ih=>
   have:=ih fun i hi=>H i om;have:=H k om;simp only[sm];split<;>omega
def N4(t:Tn)(d:List Int):List Int:=(List.range t.nW).map (has t d)
open Go.X Go.X.Bf
variable{x:Arc}{s:Lab}{E l out p:List Arc}{t:Tn}{w:Wi}
def Mw(x:Arc):List Value:=[.J ((x.fr:Nat):Int),.J ((x.to:Nat):Int),.J x.cost,.J x.way,.J x.more]
def N3(x:Arc):Value:=.agg (Mw x).toArray
theorem xph{a b c w m:Int}(O:a=x.fr)(V:b=x.to)(H:c=x.cost)(M:w=x.way)(h5:m=x.more):
 Value.agg #[.J a,.J b,.J c,.J w,.J m]=N3 x:=by subst O;subst V;subst H;subst M;subst h5;rfl
def acs(l:List Arc):List (List Value):=l.map Mw
theorem xmv(l:List Arc):(acs l).length=l.length:=by simp[acs]
theorem yzg(l:List Arc)(x:Arc):acs l++[Mw x]=acs (l++[x]):=by simp[acs]
theorem yxr:(acs l).set i (Mw x)=acs (l.set i x):=by simp[acs,List.map_set]
theorem yll(h:i<l.length):(acs l)[i]?=some (Mw (l.getD i a0)):=by
 rw[acs,List.getElem?_map,List.getD_eq_getElem?_getD,List.getElem?_eq_getElem h];rfl
section
variable{p:Ab}{a:Option Addr}{k:Nat}
def Mv(p:Ab)(a:Option Addr)(n:Nat)(l:List Arc):Prop:=Sl p a n 5 (acs l)
theorem Mv.len(s:Mv p a n l):l.length=n:=by have:=Sl.len s;simpa[acs]using this
theorem Mv.mono(H:PLe p p')(s:Mv p a n l):Mv p' a n l:=Sl.mono H s
theorem Mv.at(s:Mv p a n l)(M:k<n){j:Nat}{v:Value}(hv:(Mw (l.getD k a0))[j]?=some v):Aw p (((adr a).add (k*5)).add j)=some v:=by
 have H:=s.len;exact Sl.get s k (Mw (l.getD k a0)) (yll om) j v hv
theorem Mv.all(s:Mv p a n l)(H:k<n):∀j v,(Mw (l.getD k a0))[j]?=some v->Aw p (((adr a).add (k*5)).add j)=some v:=fun _ _ hv=>s.at H hv
end
structure OkT(t:Tn):Prop extends Ok t where
 yp:∀i,i<t.m->0<=(t.wy.getD i wz).1/\0<=(t.wy.getD i wz).2
section
variable{p:Ab}{a:Option Addr}{k:Nat}
theorem Wys.Qg(s:Wys p a n t.wy)(M:k<n)(H:0<=(t.wy.getD k wz).1/\0<=(t.wy.getD k wz).2):∀j v,[Value.J ((t.wh k:Nat):Int),.J ((t.ww k:Nat):Int)][j]?=some v->Aw p (((adr a).add (k*2)).add j)=some v:=fun j v hv=>by
 rw[show((t.wh k:Nat):Int)=(t.wy.getD k wz).1 from Int.toNat_of_nonneg H.1,show((t.ww k:Nat):Int)=(t.wy.getD k wz).2 from Int.toNat_of_nonneg H.2]at hv;exact s.all M j v hv
theorem yvd(H:h<t.nH):(G0 t d).getD h 0=As t d h:=by rw[G0,List.getD_eq_getElem?_getD];simp[H]
theorem ysn{x:Nat}(H:x<t.nW):(N4 t d).getD x 0=has t d x:=by rw[N4,List.getD_eq_getElem?_getD];simp[H]
theorem xac:(G0 t d).length=t.nH:=by simp[G0]
theorem xzl:(N4 t d).length=t.nW:=by simp[N4]
end
theorem xf7(H:h<t.nH):(ics (G0 t d))[h]?=some [.J (As t d h)]:=by
 rw[Cm (by rw[xac];exact H),yvd H]
theorem yvk{x:Nat}(H:x<t.nW):(ics (N4 t d))[x]?=some [.J (has t d x)]:=by
 rw[Cm (by rw[xzl];exact H),ysn H]
section
variable(t:Tn)(w:Wi)(d:List Int)
def Fr(k:Nat):List Arc:=(List.range k).flatMap (E7 t w d)
def Ff(k:Nat):List Arc:=Fr t w d t.nW++(List.range k).flatMap (Ez t w d)
def Hc(k:Nat):List Arc:=Ff t w d t.nH++(List.range k).flatMap (Fg t d)
end
section
variable{k:Nat}
theorem xwv:Fr t w d (k+1)=Fr t w d k++E7 t w d k:=by simp[Fr,List.range_succ]
theorem xxv:Ff t w d (k+1)=Ff t w d k++Ez t w d k:=by simp[Ff,List.range_succ]
theorem xof:Hc t w d (k+1)=Hc t w d k++Fg t d k:=by simp[Hc,List.range_succ]
theorem yqj:Ff t w d 0=Fr t w d t.nW:=by simp[Ff]
theorem ypj:Hc t w d 0=Ff t w d t.nH:=by simp[Hc]
theorem ykn:Hc t w d t.m=Bh t w d:=by simp[Hc,Ff,Fr,Bh]
variable{y:Arc}
theorem Qk(M:0<has t d k)(H:has t d k<t.wv k):(Fr t w d k++[⟨t.sp,k,-bw w k,-1,0⟩])++[⟨k,t.sp,bw w k,-1,0⟩]=Fr t w d (k+1):=by rw[xwv,E7,if_pos M,if_pos H,List.append_assoc]
theorem Q0(M:0<has t d k)(H:¬ has t d k<t.wv k):Fr t w d k++[⟨t.sp,k,-bw w k,-1,0⟩]=Fr t w d (k+1):=by rw[xwv,E7,if_pos M,if_neg H,List.append_nil]
theorem Qe(M:¬ 0<has t d k)(H:has t d k<t.wv k):Fr t w d k++[⟨k,t.sp,bw w k,-1,0⟩]=Fr t w d (k+1):=by rw[xwv,E7,if_neg M,if_pos H,List.nil_append]
theorem Qw(M:¬ 0<has t d k)(H:¬ has t d k<t.wv k):Fr t w d k=Fr t w d (k+1):=by rw[xwv,E7,if_neg M,if_neg H];simp
theorem Qv(M:0<As t d k)(H:As t d k<t.hv k):(Ff t w d k++[⟨t.nW+k,t.si,Bi ((As t d k).toNat-1)-Bi (As t d k).toNat-bh w k,-1,0⟩])++[⟨t.si,t.nW+k,Bi ((As t d k).toNat+1)-Bi (As t d k).toNat+bh w k,-1,0⟩]=Ff t w d (k+1):=by
 rw[xxv,Ez,if_pos M,if_pos H,List.append_assoc]
theorem Q3(M:0<As t d k)(H:¬ As t d k<t.hv k):Ff t w d k++[⟨t.nW+k,t.si,Bi ((As t d k).toNat-1)-Bi (As t d k).toNat-bh w k,-1,0⟩]=Ff t w d (k+1):=by rw[xxv,Ez,if_pos M,if_neg H,List.append_nil]
theorem Qt(M:¬ 0<As t d k)(H:As t d k<t.hv k):Ff t w d k++[⟨t.si,t.nW+k,Bi ((As t d k).toNat+1)-Bi (As t d k).toNat+bh w k,-1,0⟩]=Ff t w d (k+1):=by rw[xxv,Ez,if_neg M,if_pos H,List.nil_append]
theorem Q1(M:¬ 0<As t d k)(H:¬ As t d k<t.hv k):Ff t w d k=Ff t w d (k+1):=by rw[xxv,Ez,if_neg M,if_neg H];simp
theorem Y_t(c:0<dv d k):(Hc t w d k++[⟨t.ww k,t.nW+t.wh k,0,k,1⟩])++[⟨t.nW+t.wh k,t.ww k,0,k,-1⟩]=Hc t w d (k+1):=by rw[xof,Fg,if_pos c,List.append_assoc];rfl
theorem Y_f(c:¬ 0<dv d k):Hc t w d k++[⟨t.ww k,t.nW+t.wh k,0,k,1⟩]=Hc t w d (k+1):=by rw[xof,Fg,if_neg c]
end
theorem xmt(f:Nat->List Arc){k:Nat}(h:k<=n):(List.range k).flatMap f <+: (List.range n).flatMap f:=by
 obtain⟨j,rfl⟩:=Nat.exists_eq_add_of_le h;rw[List.range_add,List.flatMap_append];exact⟨_,rfl⟩
section
variable{k:Nat}
theorem xxs(h:k<=t.nW):Fr t w d k <+: Bh t w d:=(xmt _ h).trans ⟨_,rfl⟩
theorem xys(h:k<=t.nH):Ff t w d k <+: Bh t w d:=by
 rw[Bh,Ff,Fr,<- List.append_assoc];obtain⟨z,H⟩:=xmt (Ez t w d) h;exact⟨z++(List.range t.m).flatMap (Fg t d),by rw[<- H];simp only[List.append_assoc]⟩
theorem xn6(h:k<=t.m):Hc t w d k <+: Bh t w d:=by
 rw[Bh,Hc,Ff,Fr,<- List.append_assoc];obtain⟨z,H⟩:=xmt (Fg t d) h;exact⟨z,by rw[<- H];simp only[List.append_assoc]⟩
theorem xjw{o:List Arc}{r:List Arc}(h:o++(l++x::r) <+: E):(o++l)++[x] <+: E:=by
 refine List.IsPrefix.trans ⟨r,?_⟩ h;simp only[List.append_assoc,List.singleton_append]
theorem yvt(h:k<t.nW)(H:0<has t d k):Fr t w d k++[⟨t.sp,k,-bw w k,-1,0⟩] <+: Bh t w d:=by
 have:=xxs (w:=w) (d:=d) (show k+1<=t.nW from h);rw[xwv,E7,if_pos H]at this;exact List.append_nil (Fr t w d k) ▸ xjw (l:=[]) this
theorem yut(h:k<t.nW)(M:0<has t d k)(H:has t d k<t.wv k):(Fr t w d k++[⟨t.sp,k,-bw w k,-1,0⟩])++[⟨k,t.sp,bw w k,-1,0⟩] <+: Bh t w d:=by
 have:=xxs (w:=w) (d:=d) (show k+1<=t.nW from h);rw[xwv,E7,if_pos M,if_pos H]at this;exact xjw this
theorem ytt(h:k<t.nW)(M:¬ 0<has t d k)(H:has t d k<t.wv k):Fr t w d k++[⟨k,t.sp,bw w k,-1,0⟩] <+: Bh t w d:=by
 have:=xxs (w:=w) (d:=d) (show k+1<=t.nW from h);rw[xwv,E7,if_neg M,if_pos H]at this;exact List.append_nil (Fr t w d k) ▸ xjw (l:=[]) this
theorem yyt(h:k<t.nH)(H:0<As t d k):Ff t w d k++[⟨t.nW+k,t.si,Bi ((As t d k).toNat-1)-Bi (As t d k).toNat-bh w k,-1,0⟩] <+: Bh t w d:=by
 have:=xys (w:=w) (d:=d) (show k+1<=t.nH from h);rw[xxv,Ez,if_pos H]at this;exact List.append_nil (Ff t w d k) ▸ xjw (l:=[]) this
theorem yxt(h:k<t.nH)(M:0<As t d k)(H:As t d k<t.hv k):(Ff t w d k++[⟨t.nW+k,t.si,Bi ((As t d k).toNat-1)-Bi (As t d k).toNat-bh w k,-1,0⟩])++[⟨t.si,t.nW+k,Bi ((As t d k).toNat+1)-Bi (As t d k).toNat+bh w k,-1,0⟩] <+: Bh t w d:=by
 have:=xys (w:=w) (d:=d) (show k+1<=t.nH from h);rw[xxv,Ez,if_pos M,if_pos H]at this;exact xjw this
theorem ywt(h:k<t.nH)(M:¬ 0<As t d k)(H:As t d k<t.hv k):Ff t w d k++[⟨t.si,t.nW+k,Bi ((As t d k).toNat+1)-Bi (As t d k).toNat+bh w k,-1,0⟩] <+: Bh t w d:=by
 have:=xys (w:=w) (d:=d) (show k+1<=t.nH from h);rw[xxv,Ez,if_neg M,if_pos H]at this;exact List.append_nil (Ff t w d k) ▸ xjw (l:=[]) this
theorem yst(h:k<t.m):Hc t w d k++[⟨t.ww k,t.nW+t.wh k,0,k,1⟩] <+: Bh t w d:=by
 have:=xn6 (w:=w) (d:=d) (show k+1<=t.m from h);rw[xof,Fg]at this;exact List.append_nil (Hc t w d k) ▸ xjw (l:=[]) this
theorem yrt(h:k<t.m)(c:0<dv d k):(Hc t w d k++[⟨t.ww k,t.nW+t.wh k,0,k,1⟩])++[⟨t.nW+t.wh k,t.ww k,0,k,-1⟩] <+: Bh t w d:=by
 have:=xn6 (w:=w) (d:=d) (show k+1<=t.m from h);rw[xof,Fg,if_pos c]at this;exact xjw (l:=[_]) this
end
theorem xrt{x:Nat}(h:x<=10):0<=Bi x/\Bi x<=282475249000:=by
 have M:=xsz x;have O:=xav h;have H:Bi 10=282475249000:=by decide
 omega
theorem xig:far=1152921504606846976:=by decide
theorem yz2(h:i<s.c.length):s.c.getD i 0=L s i:=by
 rw[L,List.getD_eq_getElem?_getD,List.getD_eq_getElem?_getD,List.getElem?_eq_getElem h];rfl
theorem xcl(h:i<s.c.length):(ics s.c)[i]?=some [.J (L s i)]:=by rw[Cm h,yz2 h]
theorem xp4(h:i<s.b.length):(acs s.b)[i]?=some (Mw (Bf.B s i)):=yll h
section
variable{N sp:Nat}
theorem Q2:((out.foldl rel (Bu E j (Fa N sp))).c).length=N:=by rw[xeg.1,(xck j).1];simp[Fa]
theorem Qp:((out.foldl rel (Bu E j (Fa N sp))).b).length=N:=by rw[xeg.2,(xck j).2];simp[Fa]
theorem ya4:((Bu E j (Fa N sp)).c).length=N:=by rw[(xck j).1];simp[Fa]
theorem yb4:((Bu E j (Fa N sp)).b).length=N:=by rw[(xck j).2];simp[Fa]
end
theorem yyz{a:Arc}(H:L s a.fr<1152921504606846976)(M:L s a.fr+a.cost<L s a.to):rel s a=⟨s.c.set a.to (L s a.fr+a.cost),s.b.set a.to a⟩:=by
 rw[rel,if_pos ⟨by rw[xig];exact H,M⟩]
theorem yym{a:Arc}(H:¬ L s a.fr<1152921504606846976):rel s a=s:=by rw[rel,if_neg (fun e=>H (by have:=e.1;rw[xig]at this;exact this))]
theorem yxm{a:Arc}(H:¬ L s a.fr+a.cost<L s a.to):rel s a=s:=by rw[rel,if_neg (fun e=>H e.2)]
theorem ydv:(out++[x]).foldl rel s=rel (out.foldl rel s) x:=by simp
theorem yxz(n:Nat):List.replicate n [Value.J 0]=ics (List.replicate n 0):=by simp[ics]
theorem ywm(n:Nat):List.replicate n [Value.J 0,.J 0,.J 0,.J 0,.J 0]=acs (List.replicate n a0):=by simp[acs,Mw,a0]
def F8(k n:Nat):List Int:=List.replicate k far++List.replicate (n-k) 0
theorem xhg{k:Nat}(h:k<=n):(F8 k n).length=n:=by simp[F8];omega
theorem yfq{k:Nat}(h:k<n):(F8 k n).set k 1152921504606846976=F8 (k+1) n:=by
 unfold F8;rw[List.set_append_right _ _ s_,List.length_replicate,Nat.sub_self];obtain⟨j,H⟩:∃j,n-k=j+1:=⟨n-k-1,om⟩
 rw[H,List.replicate_succ,List.set_cons_zero,show n-(k+1)=j from by omega,List.replicate_succ',List.append_assoc,xig];rfl
theorem yhv(n:Nat):F8 n n=List.replicate n far:=by simp[F8]
def Ld(s:Lab)(k:Nat):Prop:=∀v,L s v<1152921504606846976-> -(40353607001*(k:Int))<=L s v/\L s v<=40353607001*(k:Int)
theorem Ld.mono{s k k'}(h:Ld s k)(H:k<=k'):Ld s k':=fun v hv=>by have:=h v hv;omega
theorem Ld.step{s:Lab}{a:Arc}{k}(h:Ld s k)(H:a.to<s.c.length)(hc: -cC<=a.cost/\a.cost<=cC):Ld (rel s a) (k+1):=fun v hv=>by
 have e:cC=40353607001:=by decide
 have:=yzz (s:=s) (a:=a) (K:=40353607001*(k:Int)) (C:=cC) H hc (fun v hv=>h v (by rw[xig]at hv;exact hv)) v (by rw[xig];exact hv);rw[e]at this;omega
theorem Ld.start{N sp:Nat}:Ld (Fa N sp) 0:=fun v hv=>by
 unfold L Fa at hv⊢;simp only[List.getD_eq_getElem?_getD,List.getElem?_set,List.getElem?_replicate]at hv⊢;have hf:=xig;by_cases e:sp=v
 ·subst e;by_cases h:sp<N
  ·simp[h]
  ·simp only[List.length_replicate,h,if_true,if_false,Option.getD_none]at hv;omega
 ·simp only[e,if_false]at hv;by_cases h:v<N
  ·simp only[h,if_true,Option.getD_some]at hv;omega
  ·simp only[h,if_false,Option.getD_none]at hv;omega
theorem xfg{f:Nat->List Arc}(h:∀i,(f i).length<=2):∀n,((List.range n).flatMap f).length<=2*n
 |0=>by simp
 |n+1=>by
   rw[List.range_succ,List.flatMap_append,List.length_append,List.flatMap_singleton];have:=xfg h n;have:=h n;omega
theorem xo8{w d}(O:Ok t):(Bh t w d).length<=48:=by
 have M:=xfg (f:=E7 t w d) (fun i=>by unfold E7;split<;>split<;>simp) t.nW;have V:=xfg (f:=Ez t w d) (fun i=>by unfold Ez;split<;>split<;>simp) t.nH;have H:=xfg (f:=Fg t d) (fun i=>by unfold Fg;split<;>simp) t.m;have:=O.nh;have:=O.nw;have:=O.nm
 rw[Bh,List.length_append,List.length_append];omega
theorem E0.Oy{s:Lab}{sp v:Nat}{r:List Arc}(C:E0 s sp v r)(h:v≠sp):∃H,r=Bf.B s v::H/\E0 s sp (Bf.B s v).fr H:=by
 cases C with
 |nil=>exact absurd rfl h
 |cons _ C=>exact⟨_,rfl,C⟩
theorem E0.Ql{s:Lab}{sp v:Nat}{r:List Arc}(C:E0 s sp v r)(h:v=sp):r=[]:=by
 cases C with
 |nil=>rfl
 |cons ne _=>exact absurd h ne
theorem yrr:((bf t w d).c).length=t.nW+t.nH+2:=ya4
theorem ysr:((bf t w d).b).length=t.nW+t.nH+2:=yb4
theorem xl6(O:Ok t)(S:Sg w)(G:Good t w d):(Br t w d).length<=13:=by
 by_cases h:D6 t w d<far
 ·obtain⟨h1,_,M,V⟩:=(G.find O S).way h;have:=xpf (N:=nN t) M (fun x H=>by
   rcases List.mem_cons.1 H with rfl|H
   ·simp only[Tn.sp,nN];omega
   ·obtain⟨a,ha,rfl⟩:=List.mem_map.1 H;exact(xxc O.y a (V a ha).1).2)
  have:=O.nh;have:=O.nw
  simp only[List.length_cons,List.length_map,nN]at *;omega
 ·rw[Br,if_neg h];simp
theorem ybb{a:Arc}(h:a∈Bh t w d):a.way<(t.m:Int)/\ -1<=a.more/\a.more<=1:=by
 cases xyj.1 h with
 |k1=>simp;omega
 |k2=>simp;omega
 |k3=>simp;omega
 |k4=>simp;omega
 |k5 hi=>simp;omega
 |k6 hi _=>simp;omega
def G5(d:List Int)(p:List Arc)(k:Nat):List Int:=aug d (p.take k)
theorem Nf{d p k}:(G5 d p k).length=d.length:=Ht
theorem xo2{d p}:G5 d p 0=d:=by simp[G5,aug]
theorem yxg{k:Nat}(h:k=p.length):G5 d p k=aug d p:=by rw[G5,h,List.take_length]
theorem xdp{k:Nat}(h:k<p.length):G5 d p (k+1)=if 0<=(p.getD k a0).way then(G5 d p k).set (p.getD k a0).way.toNat (dv (G5 d p k) (p.getD k a0).way.toNat+(p.getD k a0).more)else G5 d p k:=by
 have e:p.getD k a0=p[k]:=by rw[List.getD_eq_getElem?_getD,List.getElem?_eq_getElem h];rfl
 rw[G5,List.take_succ_eq_append_getElem h,aug,List.foldl_append,e];rfl
theorem ywg{k:Nat}(h:k<p.length)(c:0<=(p.getD k a0).way):(G5 d p k).set (p.getD k a0).way.toNat ((G5 d p k).getD (p.getD k a0).way.toNat 0+(p.getD k a0).more)=G5 d p (k+1):=by
 rw[xdp h,if_pos c];rfl
theorem yur{k:Nat}(h:k<p.length)(c:¬ 0<=(p.getD k a0).way):G5 d p k=G5 d p (k+1):=by rw[xdp h,if_neg c]
theorem xjt{k:Nat}(h:k<p.length):p.getD k a0∈p:=by
 rw[List.getD_eq_getElem?_getD,List.getElem?_eq_getElem h];exact List.getElem_mem h
theorem yyw{d:List Int}{p:List Arc}(O:∀a∈p,-1<=a.more/\a.more<=1)(M:∀i,0<=dv d i/\dv d i<=9):∀k,k<=p.length-> ∀i,-(k:Int)<=(G5 d p k).getD i 0/\(G5 d p k).getD i 0<=9+k
 |0,_,i=>by rw[xo2];have:=M i;unfold dv at this;omega
 |k+1,hk,i=>by
   have H:=yyw O M k om;have hm:=O _ (xjt (show k<p.length by omega));rw[xdp om];split
   ·rw[List.getD_eq_getElem?_getD,List.getElem?_set];split
    ·rename_i e;split
     ·rename_i h2;have V:=H (p.getD k a0).way.toNat;simp only[Option.getD_some];unfold dv;omega
     ·simp;omega
    ·have:=H i;rw[List.getD_eq_getElem?_getD]at this;omega
   ·have:=H i;omega
theorem yb1(D:Div t d)(h:∀i,i<t.m->0<=dv d i/\dv d i<=9)(i:Nat):0<=dv d i/\dv d i<=9:=by
 by_cases c:i<t.m
 ·exact h i c
 ·have:=D.len;unfold dv;rw[List.getD_eq_getElem?_getD,List.getElem?_eq_none om];simp
theorem yhq{t w n d}(h:0<=D6 t w d):Fi t w (n+1) d=d:=by rw[Fi,if_pos h]
theorem yif{t w n d}(h:¬ 0<=D6 t w d):Fi t w (n+1) d=Fi t w n (aug d (Br t w d)):=by rw[Fi,if_neg h]
theorem yjv(O:Ok t)(S:Sg w)(G:Good t w d)(h:¬ 0<=D6 t w d)(hn:sm t.nH t.hv-tot t d<(n:Int)+1)(M:Fi t w (n+1) d=C6 t w):
 ∃n',n=n'+1/\Good t w (aug d (Br t w d))/\sm t.nH t.hv-tot t (aug d (Br t w d))<(n':Int)+1/\Fi t w (n'+1) (aug d (Br t w d))=C6 t w:=by
 obtain⟨H,lt⟩:=G.next O S om;have:=yih O H.div;obtain⟨n',rfl⟩:∃n',n=n'+1:=⟨n-1,om⟩
 refine⟨n',rfl,H,om,?_⟩;rw[<- M,yif h]
theorem ygq(O:Ok t):sm t.nH t.hv-tot t (List.replicate t.m 0)<((sm t.nH t.hv).toNat:Int)+1:=by
 have H:tot t (List.replicate t.m 0)=0:=by
  unfold tot;refine(xux (g:=fun _=>0) fun i hi=>?_).trans (xbv t.m);unfold dv;rw[List.getD_eq_getElem?_getD,List.getElem?_replicate,if_pos hi];rfl
 have M:0<=sm t.nH t.hv:=xqb fun i hi=>(O.h i hi).1;rw[H];omega
theorem Al.mono{p p':Ab}{a1 O V:Option Addr}{n1 n2 M:Nat}{t:Tn}(T:Al p a1 n1 O n2 V M t)(H:PLe p p'):Al p' a1 n1 O n2 V M t:=⟨T.h.mono H,T.w.mono H,T.y.mono H⟩
theorem ykv(t:Tn)(H:Wi):(C6 t H).length=t.m:=by
 have:∀n d,(Fi t H n d).length=d.length:=by
  intro n
  induction n with
  |zero=>intro d;rfl
  |succ n ih=>
    intro d;rw[Fi];split
    ·rfl
    ·rw[ih,Ht]
 rw[C6,this];simp
def Cb(t:Tn)(d:List Int)(k:Nat)(x:Int):Int:=sm k fun i=>if(t.wy.getD i wz).1=x then dv d i else 0
def Dk(t:Tn)(d:List Int)(k:Nat)(x:Int):Int:=sm k fun i=>if(t.wy.getD i wz).2=x then dv d i else 0
theorem B3{c:Nat->Prop}[DecidablePred c]{k:Nat}(H:∀i,i<k->0<=dv d i/\dv d i<=1000):0<=(sm k fun i=>if c i then dv d i else 0)/\(sm k fun i=>if c i then dv d i else 0)<=1000*k:=by
 induction k with
 |zero=>exact⟨Int.le_refl _,Int.le_refl _⟩
 |succ k ih=>
   have:=ih fun i hi=>H i om;have:=H k om;simp only[sm];split<;>omega
theorem Kf{t d k x}(h:(t.wy.getD k wz).1=x):Cb t d k x+d.getD k 0=Cb t d (k+1) x:=by
 simp only[Cb,sm];rw[if_pos h];rfl
theorem Le{t d k x}(h:¬ (t.wy.getD k wz).1=x):Cb t d k x=Cb t d (k+1) x:=by
 simp only[Cb,sm];rw[if_neg h];omega
theorem Kl{t d k x}(h:(t.wy.getD k wz).2=x):Dk t d k x+d.getD k 0=Dk t d (k+1) x:=by
 simp only[Dk,sm];rw[if_pos h];rfl
theorem K6{t d k x}(h:¬ (t.wy.getD k wz).2=x):Dk t d k x=Dk t d (k+1) x:=by
 simp only[Dk,sm];rw[if_neg h];omega
def WOk(t:Tn):Prop:=∀i,i<t.m->(0<=(t.wy.getD i wz).1/\(t.wy.getD i wz).1.toNat<t.nH)/\0<=(t.wy.getD i wz).2/\(t.wy.getD i wz).2.toNat<t.nW
theorem Vd.wok{t}(v:Vd t):WOk t:=fun i hi=>by have:=v.y i hi;have H:=this.1;have M:=this.2.1;omega
section
variable{p:Ab}{a:Option Addr}{c l r:Nat}
theorem _root_.Go.X.Ax.pre(D:Ax p a n xs)(hc:n<=c)(h:r<=n):Ax p (Cf a c 0 1) r (xs.take r):=by
 have:=Sl.part D hc (Nat.zero_le r) h;unfold Ax;rw[List.map_take];simpa using this
theorem _root_.Go.X.Ax.suf(D:Ax p a n xs)(hc:n<=c)(h:l<=n):Ax p (Cf a c l 1) (n-l) (xs.drop l):=by
 have H:=D.len;have:=Sl.part D hc h (Nat.le_refl n);unfold Ax;rw[List.map_drop];rw[List.take_of_length_le (by rw[List.length_drop,List.length_map];omega)]at this;exact this
end
theorem Ma:∀{k:Nat}{xs:List Int}{z:Int},k<=xs.length->(∀i,i<k->z<=xs.getD i 0)->(xs.length<=k\/ ¬ z<=xs.getD k 0)->put xs z=xs.take k++z::xs.drop k
 |0,[],_,_,_,_=>rfl
 |0,x::xs,z,_,_,h=>by
   have h:¬ z<=x:=by
    rcases h with h|h
    ·simp at h
    ·exact h
   rw[put,if_neg h];rfl
 |k+1,[],_,h,_,_=>by simp at h
 |k+1,x::xs,z,hk,hs,h=>by
   have e:z<=x:=hs 0 om;have H:=Ma (k:=k) (xs:=xs) (z:=z) (by simp at hk;omega) (fun i hi=>hs (i+1) om) (by
    rcases h with h|h
    ·left;simp at h;omega
    ·right;exact h)
   rw[put,if_pos e,H];rfl
theorem Fw(xs:List Int)(z:Int):(put xs z).length=xs.length+1:=by rw[(xkf z xs).length_eq];rfl
open Go.X Go.X.Bf Go.Conc
theorem Vd.okT{t:Tn}(v:Vd t)(hm:t.m<=13):OkT t:={v.ok hm with yp:=fun i hi=>⟨(v.y i hi).1.1,(v.y i hi).2.1.1⟩}
theorem xkr(h:Et t=0):OkT t:=by
 rcases xkh t with⟨_,H,v⟩|⟨M,_⟩
 ·exact v.okT om
 ·omega
theorem M7(h:Et t=0):t.m<=12/\Vd t:=by
 rcases xkh t with⟨_,H,v⟩|⟨M,_⟩
 ·exact⟨H,v⟩
 ·omega
def NoneP(p:Ab):Prop:=∃t z,p 0=some (.cells #[.J (-1),.J (-1),.J 0] t z)
theorem NoneP.mono{p p':Ab}(N:NoneP p)(H:PLe p p'):NoneP p':=by obtain⟨t,z,h⟩:=N;exact⟨t,z,H _ _ h⟩
theorem xcm(O:OkT t)(S:Sg w):∀i,i<t.m->0<=(C6 t w).getD i 0/\(C6 t w).getD i 0<=9:=fun i hi=>by
 have D:=(xsw O.toOk S).div;have H:=O.y i hi;have h2:dv (C6 t w) i<=draw t (C6 t w) (t.wh i):=by
  have:=yaz (f:=fun k=>if t.wh k=t.wh i then dv (C6 t w) k else 0) (k:=t.m) (fun k M=>by have:=D.pos k M;split<;>omega) hi;simpa[draw]using this
 have V:=D.hs _ H.1;have h4:=O.h _ H.1;have h5:=D.pos i hi
 unfold dv at *;omega
def O7(t:Tn):Int:=tot t (C6 t H0)
theorem ya3(t:Tn):(LK t).length=t.nH:=ypk _ _
def Lw(t:Tn)(h:Int)(s:Int):Int:=draw t (C6 t ⟨h,-1,s⟩) h.toNat
def Oj(t:Tn)(x:Int)(s:Int):Int:=has t (C6 t ⟨-1,x,s⟩) x.toNat
def Pd(t:Tn)(x:Int):Int:=if Oj t x (-1)=0 then 1 else if 0<Oj t x 1 then 2 else 3
noncomputable def Eg(t:Tn)(z:Int)(s:Int):Int:=if Lq t (decide (0<=z/\z<=(t.nH:Int)-1))=0 then Lw t z s else 0
noncomputable def Nb(t:Tn)(z:Int):Int:=if Lq t (decide (0<=z/\z<=(t.nW:Int)-1))=0 then Pd t z else 0
noncomputable def LKc(t:Tn):List Int:=if Et t=0 then LK t else []
noncomputable def Gk(t:Tn):Int:=if Et t=0 then O7 t else 0
theorem Mq{t}(h:Et t=0):LKc t=LK t:=if_pos h
theorem xvr{b:Bool}(h:Lq t b=0):Et t=0/\b=true:=by
 unfold Lq at h;split at h
 ·rename_i H;refine⟨H,?_⟩;cases b<;>simp_all
 ·omega
def Dy:List Nat:=[0,1,56,2,57,49,28,3,61,58,42,50,38,29,17,4,62,47,59,36,45,43,51,22,53,39,33,30,24,18,12,5,63,55,48,27,60,41,37,16,46,35,44,21,52,32,23,11,54,26,40,15,34,20,31,10,25,14,19,9,13,8,7,6]
def tzF(x:Nat):Nat:=(x &&& (18446744073709551616-x))*285870213051353865%18446744073709551616 / 2^58
def tzN(x:Nat):Nat:=Dy.getD (tzF x) 0
theorem yhh(x:Nat):tzF x<64:=by unfold tzF;omega
theorem yub(i:Nat):Dy.getD i 0<=63:=by
 by_cases h:i<64
 ·exact(show ∀i,i<64->Dy.getD i 0<=63 by decide) i h
 ·have H:Dy.length=64:=by decide
  rw[List.getD_eq_getElem?_getD,List.getElem?_eq_none om];simp
def TabP(p:Ab):Prop:=∃t z,p 2=some (.cells (Dy.map fun n=>Value.int .u8 ((n:Nat):Int)).toArray t z)
theorem TabP.mono{p p':Ab}(N:TabP p)(H:PLe p p'):TabP p':=by obtain⟨t,z,h⟩:=N;exact⟨t,z,H _ _ h⟩
theorem TabP.at{p:Ab}(N:TabP p){i:Nat}(h:i<64):Aw p ((⟨2,0,none⟩:Addr).add (i*1))=some (.int .u8 ((Dy.getD i 0:Nat):Int)):=by
 have H:Dy.length=64:=by decide
 obtain⟨t,z,N⟩:=N;unfold Aw;rw[xox,N];simp only[Option.isSome_none,Bool.false_eq_true,if_false,Nat.zero_add,Nat.mul_one,List.getElem?_toArray,List.getElem?_map];rw[List.getD_eq_getElem?_getD,List.getElem?_eq_getElem om];rfl
def Kv:Nat->Nat->List Int
 |0,_=>[]
 |n+1,g=>if g=0 then []else((tzN g:Nat):Int)::Kv n (g &&& (g-1))
def LG(g:Nat):List Int:=Kv 6 g
theorem xt9:Kv n 0=[]:=by cases n<;>rfl
theorem xu9(h:g≠0):Kv (n+1) g=((tzN g:Nat):Int)::Kv n (g &&& (g-1)):=by rw[Kv,if_neg h]
def Np:Nat->Nat->Bool
 |0,g=>g==0
 |n+1,g=>g==0||Np n (g &&& (g-1))
theorem Qx:∀g,g<64->Np 6 g=true:=by decide +kernel
theorem ykj(h:Np (n+1) g=true)(H:g≠0):Np n (g &&& (g-1))=true:=by
 simp only[Np,Bool.or_eq_true,beq_iff_eq]at h;exact h.resolve_left H
theorem yjj(h:Np 0 g=true):g=0:=by simpa[Np]using h
theorem yb3:∀k:Nat,k<=6-> ∀g:Nat,g<2^k->((LG g).all fun z=>decide (0<=z/\z<(k:Int)))=true:=by decide +kernel
theorem yyr{k:Nat}(M:k<=6)(H:g<2^k):∀i,i<(LG g).length->0<=(LG g).getD i 0/\(LG g).getD i 0<k:=fun i hi=>by
 have:=List.all_eq_true.1 (yb3 k M g H) ((LG g).getD i 0) (by rw[List.getD_eq_getElem?_getD,List.getElem?_eq_getElem hi];exact List.getElem_mem hi);simpa using this
theorem xr2:∀g,g<64->(LG g).length<=6:=by decide +kernel
def cmpL:List Int->List Int->Int
 |[],[]=>0
 |[],_::_=>-1
 |_::_,[]=>1
 |x::xs,y::ys=>if G4 x y=0 then cmpL xs ys else G4 x y
theorem xk2{k:Nat}(H:k<xs.length)(M:k<ys.length):cmpL (xs.drop k) (ys.drop k)=if G4 (xs.getD k 0) (ys.getD k 0)=0 then cmpL (xs.drop (k+1)) (ys.drop (k+1))else G4 (xs.getD k 0) (ys.getD k 0):=by
 rw[List.drop_eq_getElem_cons H,List.drop_eq_getElem_cons M,cmpL,List.getD_eq_getElem?_getD,List.getD_eq_getElem?_getD,List.getElem?_eq_getElem H,List.getElem?_eq_getElem M];rfl
theorem yow{k:Nat}(M:k=xs.length)(H:k<ys.length):cmpL (xs.drop k) (ys.drop k)= -1:=by
 rw[List.drop_eq_nil_of_le om,List.drop_eq_getElem_cons H,cmpL]
theorem ynw{k:Nat}(H:k<xs.length)(M:k=ys.length):cmpL (xs.drop k) (ys.drop k)=1:=by
 rw[List.drop_eq_nil_of_le (show ys.length<=k by omega),List.drop_eq_getElem_cons H,cmpL]
theorem yhg{k:Nat}(H:k=xs.length)(M:k=ys.length):cmpL (xs.drop k) (ys.drop k)=0:=by
 rw[List.drop_eq_nil_of_le (show xs.length<=k by omega),List.drop_eq_nil_of_le (show ys.length<=k by omega),cmpL]
structure Pre(t:Tn)(d:List Int):Prop where
 len:d.length<=t.m
 pos:∀i,i<t.m->0<=dv d i
 hs:∀h,h<t.nH->draw t d h<=t.hv h
 ws:∀w,w<t.nW->give t d w<=t.wv w
theorem xe2(h:d.length<=i):dv d i=0:=by
 unfold dv;rw[List.getD_eq_getElem?_getD,List.getElem?_eq_none h];rfl
theorem xc8{n:Int}:dv (d++[n]) i=dv d i+if d.length=i then n else 0:=by
 unfold dv;rw[List.getD_eq_getElem?_getD,List.getD_eq_getElem?_getD];by_cases c:i<d.length
 ·rw[List.getElem?_append_left c,if_neg om];omega
 ·rw[List.getElem?_append_right om,List.getElem?_eq_none (l:=d) om];by_cases e:d.length=i
  ·rw[if_pos e];subst e;simp
  ·rw[if_neg e,List.getElem?_eq_none (by simp;omega)];rfl
theorem xd8{n:Int}(h:d.length<t.m)(x:Nat):draw t (d++[n]) x=draw t d x+if t.wh d.length=x then n else 0:=by
 unfold draw;rw[xux (g:=fun i=>(if t.wh i=x then dv d i else 0)+if d.length=i then(if t.wh i=x then n else 0)else 0) fun i _=>by
  rw[xc8];(repeat' split)<;>omega,xrb,xm5 (fun i=>if t.wh i=x then n else 0) h]
theorem xl7{n:Int}(h:d.length<t.m)(x:Nat):give t (d++[n]) x=give t d x+if t.ww d.length=x then n else 0:=by
 unfold give;rw[xux (g:=fun i=>(if t.ww i=x then dv d i else 0)+if d.length=i then(if t.ww i=x then n else 0)else 0) fun i _=>by
  rw[xc8];(repeat' split)<;>omega,xrb,xm5 (fun i=>if t.ww i=x then n else 0) h]
def Fh(t:Tn)(d:List Int):Int:=min (t.hv (t.wh d.length)-draw t d (t.wh d.length)) (t.wv (t.ww d.length)-give t d (t.ww d.length))
theorem Pre.back{t:Tn}{d:List Int}{n:Int}(O:Ok t)(h:d.length<t.m)(D:Pre t (d++[n])):Pre t d/\0<=n/\n<=Fh t d:=by
 have hn:0<=n:=by
  have:=D.pos d.length h;rw[xc8,if_pos rfl,xe2 (Nat.le_refl _)]at this;omega
 have M:=O.y d.length h;refine⟨⟨om,fun i hi=>?_,fun x H=>?_,fun x H=>?_⟩,hn,?_⟩
 ·by_cases c:d.length<=i
  ·rw[xe2 c];exact Int.le_refl _
  ·have:=D.pos i hi;rw[xc8,if_neg om]at this;omega
 ·have:=D.hs x H;rw[xd8 h]at this;split at this<;>omega
 ·have:=D.ws x H;rw[xl7 h]at this;split at this<;>omega
 ·have a:=D.hs _ M.1;have b:=D.ws _ M.2;rw[xd8 h,if_pos rfl]at a;rw[xl7 h,if_pos rfl]at b;unfold Fh;omega
theorem Pre.nil{t:Tn}(O:Ok t):Pre t []:=by
 have dr:∀h,draw t [] h=0:=fun h=>(xux (g:=fun _=>0) fun i _=>by rw[xe2 (Nat.zero_le _)];split<;>rfl).trans (xbv _);have V:∀h,give t [] h=0:=fun h=>(xux (g:=fun _=>0) fun i _=>by rw[xe2 (Nat.zero_le _)];split<;>rfl).trans (xbv _);exact⟨Nat.zero_le _,fun i _=>by rw[xe2 (Nat.zero_le _)];exact Int.le_refl _,fun h H=>by rw[dr];exact(O.h h H).1,fun x M=>by rw[V];exact(O.w x M).1⟩
def inc(b:Bool):Int:=if b then 1 else 0
def touch(t:Tn)(X:Nat->Bool)(x:Nat):Bool:=(List.range t.m).any fun i=>t.ww i==x&&X (t.wh i)
def only(t:Tn)(X:Nat->Bool):Tn:=⟨(List.range t.nH).map fun h=>t.hv h*inc (X h),t.ws,t.wy⟩
def shq(g w:Nat)(x:Cl):Bool:=decide (x.2.toNat=w/\g / 2^x.1.toNat &&& 1=1)
def Gw(t:Tn)(g k:Nat):Int:=sm k fun i=>t.hv ((LG g).getD i 0).toNat
def C4(t:Tn)(g k:Nat):Int:=sm k fun w=>if 0<=Dn (shq g w) t.wy then t.wv w else 0
def Gr(t:Tn)(g:Nat):Int:=Gw t g (LG g).length-C4 t g t.nW
abbrev prec(l b:List Int):Prop:=orI [(l.length:Int)-(b.length:Int),cmpL l b]<0
def Bb(t:Tn):Nat->List Int
 |0=>[]
 |k+1=>if 0<Gr t k/\(Bb t k=[]\/prec (LG k) (Bb t k))then LG k else Bb t k
def Ga(t:Tn):List Int:=Bb t (2^t.nH)
noncomputable def Gp(t:Tn):List Int:=if Et t=0 then Ga t else []
noncomputable def F5(t:Tn):Int:=if Et t=0 then(if Ga t=[]then 3 else 0)else Et t
theorem xxg{t}(h:Et t=0):Gp t=Ga t:=if_pos h
theorem ydz{t}(h:¬ Et t=0):Gp t=[]:=if_neg h
theorem ycz{t}(h:¬ Et t=0):F5 t=Et t:=if_neg h
theorem ydc{t}(h:Et t=0)(H:Ga t=[]):F5 t=3:=by rw[F5,if_pos h,if_pos H]
theorem yec{t}(h:Et t=0)(H:¬ Ga t=[]):F5 t=0:=by rw[F5,if_pos h,if_neg H]
theorem xoc{t k}(h:0<Gr t k)(H:Bb t k=[]\/prec (LG k) (Bb t k)):Bb t (k+1)=LG k:=if_pos ⟨h,H⟩
theorem xcr{t k}(h:¬ 0<Gr t k):Bb t (k+1)=Bb t k:=if_neg fun e=>h e.1
theorem xbr{t k}(h:¬ Bb t k=[])(H:¬ prec (LG k) (Bb t k)):Bb t (k+1)=Bb t k:=if_neg fun e=>e.2.elim h H
theorem yhb(O:Ok t)(M:g<2^t.nH){k:Nat}(hk:k<=(LG g).length):0<=Gw t g k/\Gw t g k<=9*k:=by
 induction k with
 |zero=>simp[Gw,sm]
 |succ k H=>
   have H:=H om;have V:=yyr O.nh M k om;have:=O.h ((LG g).getD k 0).toNat om;have e:Gw t g (k+1)=Gw t g k+t.hv ((LG g).getD k 0).toNat:=rfl;rw[e];omega
theorem xf1(O:Ok t){k:Nat}(M:k<=t.nW):0<=C4 t g k/\C4 t g k<=21*k:=by
 induction k with
 |zero=>simp[C4,sm]
 |succ k H=>
   have H:=H om;have:=O.w k om;have e:C4 t g (k+1)=C4 t g k+(if 0<=Dn (shq g k) t.wy then t.wv k else 0):=rfl;rw[e];split<;>omega
theorem xk9{t g k}(h:0<=Dn (shq g k) t.wy):C4 t g (k+1)=C4 t g k+t.wv k:=by
 have e:C4 t g (k+1)=C4 t g k+(if 0<=Dn (shq g k) t.wy then t.wv k else 0):=rfl;rw[e,if_pos h]
theorem ybj{t g k}(h:¬ 0<=Dn (shq g k) t.wy):C4 t g (k+1)=C4 t g k:=by
 have e:C4 t g (k+1)=C4 t g k+(if 0<=Dn (shq g k) t.wy then t.wv k else 0):=rfl;rw[e,if_neg h];omega
theorem xp0(O:Ok t)(h:0<Gr t g):LG g≠[]:=fun e=>by
 have H:Gw t g (LG g).length=0:=by rw[e];rfl
 have M:=(xf1 O (g:=g) (Nat.le_refl t.nW)).1;unfold Gr at h;omega
theorem ysh(O:Ok t):2^t.nH<=64:=by
 have h:t.nH<=6:=O.nh;have:=Nat.pow_le_pow_right (show 0<2 by decide) h;simpa using this
theorem yn3(O:OkT t)(hi:i<t.m):0<=(t.wy.getD i wz).1/\(t.wy.getD i wz).1<=63/\0<=(t.wy.getD i wz).2:=by
 have H:=O.yp i hi;have V:=O.y i hi;have M:=O.nh
 have e:t.wh i=(t.wy.getD i wz).1.toNat:=rfl;exact⟨H.1,om,H.2⟩
def swp(ys:List Int)(j:Nat):List Int:=(ys.set j (ys.getD (j-1) 0)).set (j-1) (ys.getD j 0)
theorem xf5:∀{j:Nat}{ys:List Int},0<j->j<ys.length->(swp ys j).Perm ys
 |0,_,h,_=>absurd h om
 |1,[],_,h=>by simp at h
 |1,[_],_,h=>by simp at h
 |1,a::b::l,_,_=>by
   have:swp (a::b::l) 1=b::a::l:=rfl;rw[this];exact .swap ..
 |j+2,[],_,h=>by simp at h
 |j+2,a::l,_,h=>by
   have e:swp (a::l) (j+2)=a::swp l (j+1):=rfl;rw[e];exact(xf5 (j:=j+1) om (by simp at h;omega)).cons a
theorem xg5{q:Nat}(M:0<j)(h:j<ys.length):(swp ys j).getD q 0=if q=j-1 then ys.getD j 0 else if q=j then ys.getD (j-1) 0 else ys.getD q 0:=by
 unfold swp;rw[xit (by rw[List.length_set];omega),xit h];by_cases c:q=j-1
 ·rw[if_pos c.symm,if_pos c]
 ·rw[if_neg (Ne.symm c),if_neg c];by_cases H:q=j
  ·rw[if_pos H.symm,if_pos H]
  ·rw[if_neg (Ne.symm H),if_neg H]
def Float(ys:List Int)(i j:Nat):Prop:=∀p q,p<q->q<=i->q≠j->ys.getD q 0<=ys.getD p 0
def Lg(ys:List Int)(i:Nat):Prop:=∀p q,p<q->q<i->ys.getD q 0<=ys.getD p 0
theorem xz3{ys i}(h:Lg ys i):Float ys i i:=fun p q a b c=>h p q a om
theorem ybq(h:Float ys i j)(H:0<j)(hi:j<=i)(O:i<ys.length)(lt:ys.getD (j-1) 0<ys.getD j 0):Float (swp ys j) i (j-1):=fun p q a b c=>by
 rw[xg5 H om,xg5 H om,if_neg c];by_cases e:q=j
 ·rw[if_pos e];by_cases f:p=j-1
  ·rw[if_pos f];omega
  ·rw[if_neg f,if_neg om];exact h p (j-1) om om om
 ·rw[if_neg e];by_cases f:p=j-1
  ·rw[if_pos f];exact h j q om b e
  ·rw[if_neg f];by_cases M:p=j
   ·rw[if_pos M];exact h (j-1) q om b e
   ·rw[if_neg M];exact h p q a b e
theorem yev(h:Float ys i j)(hi:j<=i)(e:j=0\/ys.getD j 0<=ys.getD (j-1) 0):Lg ys (i+1):=fun p q a b=>by
 by_cases c:q=j
 ·subst c;by_cases f:p=q-1
  ·subst f;omega
  ·have:=h p (q-1) om om om;omega
 ·exact h p q a om c
theorem yzb(h:Lg ys i)(hi:ys.length<=i)(p:ys.Perm xs):ys=srt xs:=by
 refine(yms (List.pairwise_iff_getElem.2 fun a b M O H=>?_) p).symm;have:=h a b H om;rwa[Au O,Au M]at this
theorem ybm{k:Nat}(H:k=j-1):((ics ys).set j [.J (ys.getD k 0)]).set k [.J (ys.getD j 0)]=ics (swp ys j):=by
 subst H;rw[Co,Co];rfl
theorem ymw{x y:Int}:G4 y x<0<->y<x:=by unfold G4;(repeat' split)<;>omega
end Go.X.Flow
