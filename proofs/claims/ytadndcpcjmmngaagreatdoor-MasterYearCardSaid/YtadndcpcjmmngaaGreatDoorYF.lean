/-
  Part of proofs about a town's master: a calculus for Bj beside goroutines that are only leaving, and the Bj. No condition.
-/
import Derived.Test.YtadndcpcjmmngaaGreatDoorYP
import Derived.Test.YtadndcpcjmmngaaGreatDoorYE
namespace Go.X.Flow
open Go.X
variable{z:Int}{d vs xs ys:List Int}{g h i j n:Nat}{p':Aa}{v:Value}
section
variable{p:Aa}{a:Option Addr}{c k l r:Nat}
abbrev Ch:=Int×Int
def Ch.cells(x:Ch):List Value:=[.J x.1,.J x.2]
def wcs(xs:List Ch):List (List Value):=xs.map Ch.cells
def Wys(p:Aa)(a:Option Addr)(n:Nat)(xs:List Ch):Prop:=Sl p a n 2 (wcs xs)
def wz:Ch:=(0,0)
variable{xs:List Ch}
theorem Ap(xs:List Ch):(wcs xs).length=xs.length:=by simp[wcs]
theorem Wys.len(s:Wys p a n xs):xs.length=n:=by have:=Sl.len s;simpa[wcs]using this
theorem Wys.mono(H:PLe p p')(s:Wys p a n xs):Wys p' a n xs:=Sl.mono H s
theorem Wys.ne(s:Wys p a n xs)(H:0<n):a=some (adr a):=Sl.ne s H
theorem Wys.at(s:Wys p a n xs)(H:k<n){j:Nat}{v:Value}(hv:(xs.getD k wz).cells[j]?=some v):Au p (((adr a).add (k*2)).add j)=some v:=by
 have M:=s.len;exact Sl.get s k (xs.getD k wz).cells (by rw[wcs,List.getElem?_map,List.getD_eq_getElem?_getD,List.getElem?_eq_getElem om];rfl) j v hv
theorem Wys.ho(s:Wys p a n xs)(H:k<n):Au p ((adr a).add (k*2))=some (.J (xs.getD k wz).1):=s.at H (j:=0) rfl
theorem Wys.we(s:Wys p a n xs)(H:k<n):Au p (((adr a).add (k*2)).add 1)=some (.J (xs.getD k wz).2):=s.at H (j:=1) rfl
theorem Wys.all(s:Wys p a n xs)(H:k<n):∀j v,[Value.J (xs.getD k wz).1,.J (xs.getD k wz).2][j]?=some v->Au p (((adr a).add (k*2)).add j)=some v:=fun _ _ hv=>s.at H hv
end
structure Am(p:Aa)(a1:Option Addr)(n1:Nat)(a2:Option Addr)(n2:Nat)(a3:Option Addr)(n3:Nat)(t:Tn):Prop where
 h:Ar p a1 n1 t.hs
 w:Ar p a2 n2 t.ws
 y:Wys p a3 n3 t.wy
theorem Am.nH{p a1 n1 a2 n2 a3 n3 t}(T:Am p a1 n1 a2 n2 a3 n3 t):t.nH=n1:=T.h.len
theorem Am.nW{p a1 n1 a2 n2 a3 n3 t}(T:Am p a1 n1 a2 n2 a3 n3 t):t.nW=n2:=T.w.len
theorem Am.m{p a1 n1 a2 n2 a3 n3 t}(T:Am p a1 n1 a2 n2 a3 n3 t):t.m=n3:=T.y.len
def Bf(x y:Ch):Prop:=x.1<y.1\/x.1=y.1/\x.2<y.2
instance(x y:Ch):Decidable (Bf x y):=by unfold Bf;infer_instance
def YOk(t:Tn)(i:Nat):Prop:=(0<=(t.wy.getD i wz).1/\(t.wy.getD i wz).1<=(t.nH:Int)-1)/\(0<=(t.wy.getD i wz).2/\(t.wy.getD i wz).2<=(t.nW:Int)-1)/\(0<i->Bf (t.wy.getD ((i:Int)-1).toNat wz) (t.wy.getD i wz))
structure Vd(t:Tn):Prop where
 nh:t.nH<=6
 nw:t.nW<=5
 h:∀h,h<t.nH->0<=t.hs.getD h 0/\t.hs.getD h 0<=9
 w:∀w,w<t.nW->0<=t.ws.getD w 0/\t.ws.getD w 0<=20
 y:∀i,i<t.m->YOk t i
open Classical in
noncomputable def C6(t:Tn):Int:=if t.m<=12/\Vd t then 0 else 30
theorem Cf{t}(h:t.m<=12)(v:Vd t):C6 t=0:=if_pos ⟨h,v⟩
theorem Fr{t}(h:¬ (t.m<=12/\Vd t)):C6 t=30:=if_neg h
theorem xog(t):C6 t=0/\t.m<=12/\Vd t\/C6 t=30/\ ¬ (t.m<=12/\Vd t):=by
 by_cases h:t.m<=12/\Vd t
 ·exact .inl ⟨Cf h.1 h.2,h⟩
 ·exact .inr ⟨Fr h,h⟩
noncomputable def Ht(t:Tn)(b:Bool):Int:=if C6 t=0 then(if b then 0 else 1)else 30
theorem Vd.ok{t}(v:Vd t)(H:t.m<=13):Ok t:=
 ⟨v.nh,v.nw,H,v.h,fun x M=>by have:=v.w x M;unfold Tn.wv;omega,fun i hi=>by
  have:=v.y i hi;have V:=this.1;have O:=this.2.1
  unfold Tn.wh Tn.ww;have e:t.wy.getD i (0,0)=t.wy.getD i wz:=rfl;rw[e];omega⟩
def Gt(x y:Int):Int:=if x<y then -1 else if y<x then 1 else 0
theorem Dr{q:Nat->Prop}{k:Nat}(hs:∀i,i<k->q i)(h:q k):∀i,i<k+1->q i:=fun i hi=>by
 by_cases e:i=k
 ·subst e;exact h
 ·exact hs i om
theorem A8{α:Type}{l:List α}{d:α}(h:i<l.length):l.getD i d=l[i]:=by
 rw[List.getD_eq_getElem?_getD,List.getElem?_eq_getElem h];rfl
def Cp{α:Type}(q:α->Bool):List α->Int
 |[]=>-1
 |d::ds=>if q d=true then 0 else if Cp q ds<0 then -1 else Cp q ds+1
theorem Da{α:Type}{q:α->Bool}{z:α}:∀{ds:List α},(∀i,i<ds.length->q (ds.getD i z)=false)->Cp q ds= -1
 |[],_=>rfl
 |d::ds,h=>by
   have H:q d=false:=h 0 s_;have:=Da (ds:=ds) fun i hi=>h (i+1) (by simp;omega);simp only[Cp,H,this];simp
theorem Df{α:Type}{q:α->Bool}{z:α}:∀{ds:List α}{k:Nat},k<ds.length->q (ds.getD k z)=true->(∀i,i<k->q (ds.getD i z)=false)->Cp q ds=k
 |[],_,h,_,_=>by simp at h
 |d::ds,0,_,h,_=>by
   have H:q d=true:=h;simp[Cp,H]
 |d::ds,k+1,hk,h,hs=>by
   have H:q d=false:=hs 0 om;have:=Df (ds:=ds) (k:=k) (by simp at hk;omega) h fun i hi=>hs (i+1) om;simp only[Cp,H,this];rw[if_neg s_,if_neg om];omega
theorem Dl{α:Type}{q:α->Bool}:∀{ds:List α},0<=Cp q ds<-> ∃t∈ds,q t=true
 |[]=>by simp[Cp]
 |d::ds=>by
   have O:=Dl (q:=q) (ds:=ds);rw[Cp];by_cases h:q d=true
   ·rw[if_pos h];exact⟨fun _=>⟨d,List.mem_cons_self ..,h⟩,fun _=>Int.le_refl _⟩
   ·rw[if_neg h];by_cases c:Cp q ds<0
    ·rw[if_pos c];refine⟨fun z=>absurd z om,fun⟨t,H,M⟩=>?_⟩;rcases List.mem_cons.1 H with rfl|H
     ·exact absurd M h
     ·have:=O.2 ⟨t,H,M⟩;omega
    ·rw[if_neg c];refine⟨fun _=>?_,fun _=>om⟩;obtain⟨t,H,M⟩:=O.1 om;exact⟨t,List.mem_cons_of_mem _ H,M⟩
def orI:List Int->Int
 |[]=>0
 |x::l=>if x=0 then orI l else x
theorem yhg:∀{k:Nat}{xs:List Int},k<xs.length->(∀i,i<k->xs.getD i 0=0)-> ¬ xs.getD k 0=0->orI xs=xs.getD k 0
 |_,[],h,_,_=>by simp at h
 |0,x::xs,_,_,n=>by
   have n:¬ x=0:=n;rw[orI,if_neg n];rfl
 |k+1,x::xs,h,hs,n=>by
   have e:x=0:=hs 0 om;rw[orI,if_pos e];exact yhg (k:=k) (by simp at h;omega) (fun i hi=>hs (i+1) om) n
theorem ynz:∀{xs:List Int},(∀i,i<xs.length->xs.getD i 0=0)->orI xs=0
 |[],_=>rfl
 |x::xs,hs=>by
   have e:x=0:=hs 0 s_;rw[orI,if_pos e];exact ynz fun i hi=>hs (i+1) (by simp;omega)
def O1(a b c d:Int):Int:=orI [Gt a c,Gt b d]
theorem yrb{x y:Ch}:0<=O1 x.1 x.2 y.1 y.2<-> ¬ Bf x y:=by
 unfold O1 Bf;simp only[orI,Gt]
 (repeat' split)<;>omega
def Ng(hi:Int)(n:Int):Bool:=! decide (0<=n/\n<=hi)
theorem xi7{hi:Int}(h:¬ 0<=Cp (Ng hi) xs):∀i,i<xs.length->0<=xs.getD i 0/\xs.getD i 0<=hi:=fun i H=>by
 have:=fun z=>h (Dl.2 ⟨xs.getD i 0,by rw[A8 H];exact List.getElem_mem H,z⟩);by_cases c:0<=xs.getD i 0/\xs.getD i 0<=hi
 ·exact c
 ·exact absurd (by unfold Ng;rw[decide_eq_false c];rfl) this
theorem ymv{hi:Int}(h:0<=Cp (Ng hi) xs):¬ ∀i,i<xs.length->0<=xs.getD i 0/\xs.getD i 0<=hi:=fun z=>by
 obtain⟨t,O,M⟩:=Dl.1 h;obtain⟨i,H,e⟩:=List.mem_iff_getElem.1 O;have:=z i H;rw[A8 H,e]at this;unfold Ng at M;simp only[Bool.not_eq_true',decide_eq_false_iff_not]at M;omega
noncomputable instance(t:Tn):Decidable (Vd t):=Classical.propDecidable _
def ics(xs:List Int):List (List Value):=xs.map fun x=>[.J x]
theorem Ae(xs:List Int):(ics xs).length=xs.length:=by simp[ics]
theorem Co(h:j<xs.length):(ics xs)[j]?=some [.J (xs.getD j 0)]:=by
 rw[ics,List.getElem?_map,List.getD_eq_getElem?_getD,List.getElem?_eq_getElem h];rfl
theorem Ck:(ics xs).set j [.J z]=ics (xs.set j z):=by
 simp[ics,List.map_set]
theorem ykc:ics xs++[[.J z]]=ics (xs++[z]):=by simp[ics]
def Dw(vs:List Int)(g:Nat->Nat)(d:List Int)(k:Nat):List Int:=(List.range vs.length).map fun h=>vs.getD h 0-sm k fun i=>if g i=h then dv d i else 0
theorem xux{vs g d k}:(Dw vs g d k).length=vs.length:=by simp[Dw]
theorem xfv{vs g d k h}(H:h<vs.length):(Dw vs g d k).getD h 0=vs.getD h 0-sm k fun i=>if g i=h then dv d i else 0:=by
 rw[Dw,List.getD_eq_getElem?_getD,List.getElem?_map,List.getElem?_range H];rfl
theorem xdc{a b:List Int}(O:a.length=b.length)(h:∀i,i<a.length->a.getD i 0=b.getD i 0):a=b:=by
 refine List.ext_getElem O fun i H M=>?_;have:=h i H;rwa[A8 H,A8 M]at this
theorem xup{vs g d}:Dw vs g d 0=vs:=xdc xux fun i hi=>by
 rw[xux]at hi;rw[xfv hi];simp[sm]
theorem getD_set(hi:i<xs.length):(xs.set i z).getD j 0=if i=j then z else xs.getD j 0:=xw6 hi j
theorem xm8{g:Nat->Nat}{k:Nat}(H:g k<vs.length):(Dw vs g d k).set (g k) ((Dw vs g d k).getD (g k) 0-dv d k)=Dw vs g d (k+1):=by
 refine xdc (by rw[List.length_set,xux,xux]) fun i hi=>?_;rw[List.length_set,xux]at hi;rw[getD_set (by rw[xux];exact H),xfv hi,xfv hi,xfv H];simp only[sm];by_cases e:g k=i
 ·rw[if_pos e,if_pos e,e];omega
 ·rw[if_neg e,if_neg e];omega
theorem xlm{g:Nat->Nat}{k:Nat}(H:∀i,i<k->0<=dv d i/\dv d i<=20):0<=(sm k fun i=>if g i=h then dv d i else 0)/\(sm k fun i=>if g i=h then dv d i else 0)<=20*k:=by
 induction k with
 |zero=>exact⟨Int.le_refl _,Int.le_refl _⟩
 |succ k ih=>
   have:=ih fun i hi=>H i om;have:=H k om;simp only[sm];split<;>omega
def Nq(t:Tn)(d:List Int):List Int:=(List.range t.nW).map (has t d)
open Go.X Go.X.Bf
variable{x:Arc}{s:Lab}{E l out p:List Arc}{t:Tn}{w:Wi}
def Mg(x:Arc):List Value:=[.J ((x.fr:Nat):Int),.J ((x.to:Nat):Int),.J x.cost,.J x.way,.J x.more]
def Nm(x:Arc):Value:=.agg (Mg x).toArray
theorem xsg{a b c w m:Int}(V:a=x.fr)(h2:b=x.to)(M:c=x.cost)(H:w=x.way)(O:m=x.more):
 Value.agg #[.J a,.J b,.J c,.J w,.J m]=Nm x:=by subst V;subst h2;subst M;subst H;subst O;rfl
def acs(l:List Arc):List (List Value):=l.map Mg
theorem xgv(l:List Arc):(acs l).length=l.length:=by simp[acs]
theorem ymf(l:List Arc)(x:Arc):acs l++[Mg x]=acs (l++[x]):=by simp[acs]
theorem yep:(acs l).set i (Mg x)=acs (l.set i x):=by simp[acs,List.map_set]
theorem yah(h:i<l.length):(acs l)[i]?=some (Mg (l.getD i a0)):=by
 rw[acs,List.getElem?_map,List.getD_eq_getElem?_getD,List.getElem?_eq_getElem h];rfl
section
variable{p:Aa}{a:Option Addr}{k:Nat}
def Mf(p:Aa)(a:Option Addr)(n:Nat)(l:List Arc):Prop:=Sl p a n 5 (acs l)
theorem Mf.len(s:Mf p a n l):l.length=n:=by have:=Sl.len s;simpa[acs]using this
theorem Mf.mono(H:PLe p p')(s:Mf p a n l):Mf p' a n l:=Sl.mono H s
theorem Mf.at(s:Mf p a n l)(H:k<n){j:Nat}{v:Value}(hv:(Mg (l.getD k a0))[j]?=some v):Au p (((adr a).add (k*5)).add j)=some v:=by
 have M:=s.len;exact Sl.get s k (Mg (l.getD k a0)) (yah om) j v hv
theorem Mf.all(s:Mf p a n l)(H:k<n):∀j v,(Mg (l.getD k a0))[j]?=some v->Au p (((adr a).add (k*5)).add j)=some v:=fun _ _ hv=>s.at H hv
end
structure OkT(t:Tn):Prop extends Ok t where
 yp:∀i,i<t.m->0<=(t.wy.getD i wz).1/\0<=(t.wy.getD i wz).2
section
variable{p:Aa}{a:Option Addr}{k:Nat}
theorem Wys.Qe(s:Wys p a n t.wy)(M:k<n)(H:0<=(t.wy.getD k wz).1/\0<=(t.wy.getD k wz).2):∀j v,[Value.J ((t.wh k:Nat):Int),.J ((t.ww k:Nat):Int)][j]?=some v->Au p (((adr a).add (k*2)).add j)=some v:=fun j v hv=>by
 rw[show((t.wh k:Nat):Int)=(t.wy.getD k wz).1 from Int.toNat_of_nonneg H.1,show((t.ww k:Nat):Int)=(t.wy.getD k wz).2 from Int.toNat_of_nonneg H.2]at hv;exact s.all M j v hv
theorem yhc(H:h<t.nH):(Gd t d).getD h 0=Al t d h:=by rw[Gd,List.getD_eq_getElem?_getD];simp[H]
theorem ycm{x:Nat}(H:x<t.nW):(Nq t d).getD x 0=has t d x:=by rw[Nq,List.getD_eq_getElem?_getD];simp[H]
theorem xqb:(Gd t d).length=t.nH:=by simp[Gd]
theorem xdl:(Nq t d).length=t.nW:=by simp[Nq]
end
theorem xb6(H:h<t.nH):(ics (Gd t d))[h]?=some [.J (Al t d h)]:=by
 rw[Co (by rw[xqb];exact H),yhc H]
theorem ymj{x:Nat}(H:x<t.nW):(ics (Nq t d))[x]?=some [.J (has t d x)]:=by
 rw[Co (by rw[xdl];exact H),ycm H]
section
variable(t:Tn)(w:Wi)(d:List Int)
def Fv(k:Nat):List Arc:=(List.range k).flatMap (E5 t w d)
def E9(k:Nat):List Arc:=Fv t w d t.nW++(List.range k).flatMap (Eu t w d)
def G3(k:Nat):List Arc:=E9 t w d t.nH++(List.range k).flatMap (Fa t d)
end
section
variable{k:Nat}
theorem xrv:Fv t w d (k+1)=Fv t w d k++E5 t w d k:=by simp[Fv,List.range_succ]
theorem xsv:E9 t w d (k+1)=E9 t w d k++Eu t w d k:=by simp[E9,List.range_succ]
theorem xud:G3 t w d (k+1)=G3 t w d k++Fa t d k:=by simp[G3,List.range_succ]
theorem ymz:E9 t w d 0=Fv t w d t.nW:=by simp[E9]
theorem ylz:G3 t w d 0=E9 t w d t.nH:=by simp[G3]
theorem yul:G3 t w d t.m=Az t w d:=by simp[G3,E9,Fv,Az]
variable{y:Arc}
theorem P0(M:0<has t d k)(H:has t d k<t.wv k):(Fv t w d k++[⟨t.sp,k,-bw w k,-1,0⟩])++[⟨k,t.sp,bw w k,-1,0⟩]=Fv t w d (k+1):=by rw[xrv,E5,if_pos M,if_pos H,List.append_assoc]
theorem Pv(M:0<has t d k)(H:¬ has t d k<t.wv k):Fv t w d k++[⟨t.sp,k,-bw w k,-1,0⟩]=Fv t w d (k+1):=by rw[xrv,E5,if_pos M,if_neg H,List.append_nil]
theorem Qb(M:¬ 0<has t d k)(H:has t d k<t.wv k):Fv t w d k++[⟨k,t.sp,bw w k,-1,0⟩]=Fv t w d (k+1):=by rw[xrv,E5,if_neg M,if_pos H,List.nil_append]
theorem Pz(M:¬ 0<has t d k)(H:¬ has t d k<t.wv k):Fv t w d k=Fv t w d (k+1):=by rw[xrv,E5,if_neg M,if_neg H];simp
theorem Qh(M:0<Al t d k)(H:Al t d k<t.hv k):(E9 t w d k++[⟨t.nW+k,t.si,A0 ((Al t d k).toNat-1)-A0 (Al t d k).toNat-bh w k,-1,0⟩])++[⟨t.si,t.nW+k,A0 ((Al t d k).toNat+1)-A0 (Al t d k).toNat+bh w k,-1,0⟩]=E9 t w d (k+1):=by
 rw[xsv,Eu,if_pos M,if_pos H,List.append_assoc]
theorem Qa(M:0<Al t d k)(H:¬ Al t d k<t.hv k):E9 t w d k++[⟨t.nW+k,t.si,A0 ((Al t d k).toNat-1)-A0 (Al t d k).toNat-bh w k,-1,0⟩]=E9 t w d (k+1):=by rw[xsv,Eu,if_pos M,if_neg H,List.append_nil]
theorem P5(M:¬ 0<Al t d k)(H:Al t d k<t.hv k):E9 t w d k++[⟨t.si,t.nW+k,A0 ((Al t d k).toNat+1)-A0 (Al t d k).toNat+bh w k,-1,0⟩]=E9 t w d (k+1):=by rw[xsv,Eu,if_neg M,if_pos H,List.nil_append]
theorem Px(M:¬ 0<Al t d k)(H:¬ Al t d k<t.hv k):E9 t w d k=E9 t w d (k+1):=by rw[xsv,Eu,if_neg M,if_neg H];simp
theorem Y_t(c:0<dv d k):(G3 t w d k++[⟨t.ww k,t.nW+t.wh k,0,k,1⟩])++[⟨t.nW+t.wh k,t.ww k,0,k,-1⟩]=G3 t w d (k+1):=by rw[xud,Fa,if_pos c,List.append_assoc];rfl
theorem Y_f(c:¬ 0<dv d k):G3 t w d k++[⟨t.ww k,t.nW+t.wh k,0,k,1⟩]=G3 t w d (k+1):=by rw[xud,Fa,if_neg c]
end
theorem xks(f:Nat->List Arc){k:Nat}(h:k<=n):(List.range k).flatMap f <+: (List.range n).flatMap f:=by
 obtain⟨j,rfl⟩:=Nat.exists_eq_add_of_le h;rw[List.range_add,List.flatMap_append];exact⟨_,rfl⟩
section
variable{k:Nat}
theorem xvr(h:k<=t.nW):Fv t w d k <+: Az t w d:=(xks _ h).trans ⟨_,rfl⟩
theorem xwr(h:k<=t.nH):E9 t w d k <+: Az t w d:=by
 rw[Az,E9,Fv,<- List.append_assoc];obtain⟨z,H⟩:=xks (Eu t w d) h;exact⟨z++(List.range t.m).flatMap (Fa t d),by rw[<- H];simp only[List.append_assoc]⟩
theorem xk5(h:k<=t.m):G3 t w d k <+: Az t w d:=by
 rw[Az,G3,E9,Fv,<- List.append_assoc];obtain⟨z,H⟩:=xks (Fa t d) h;exact⟨z,by rw[<- H];simp only[List.append_assoc]⟩
theorem xbw{o:List Arc}{r:List Arc}(h:o++(l++x::r) <+: E):(o++l)++[x] <+: E:=by
 refine List.IsPrefix.trans ⟨r,?_⟩ h;simp only[List.append_assoc,List.singleton_append]
theorem yhs(h:k<t.nW)(H:0<has t d k):Fv t w d k++[⟨t.sp,k,-bw w k,-1,0⟩] <+: Az t w d:=by
 have:=xvr (w:=w) (d:=d) (show k+1<=t.nW from h);rw[xrv,E5,if_pos H]at this;exact List.append_nil (Fv t w d k) ▸ xbw (l:=[]) this
theorem ygs(h:k<t.nW)(M:0<has t d k)(H:has t d k<t.wv k):(Fv t w d k++[⟨t.sp,k,-bw w k,-1,0⟩])++[⟨k,t.sp,bw w k,-1,0⟩] <+: Az t w d:=by
 have:=xvr (w:=w) (d:=d) (show k+1<=t.nW from h);rw[xrv,E5,if_pos M,if_pos H]at this;exact xbw this
theorem yfs(h:k<t.nW)(M:¬ 0<has t d k)(H:has t d k<t.wv k):Fv t w d k++[⟨k,t.sp,bw w k,-1,0⟩] <+: Az t w d:=by
 have:=xvr (w:=w) (d:=d) (show k+1<=t.nW from h);rw[xrv,E5,if_neg M,if_pos H]at this;exact List.append_nil (Fv t w d k) ▸ xbw (l:=[]) this
theorem yks(h:k<t.nH)(H:0<Al t d k):E9 t w d k++[⟨t.nW+k,t.si,A0 ((Al t d k).toNat-1)-A0 (Al t d k).toNat-bh w k,-1,0⟩] <+: Az t w d:=by
 have:=xwr (w:=w) (d:=d) (show k+1<=t.nH from h);rw[xsv,Eu,if_pos H]at this;exact List.append_nil (E9 t w d k) ▸ xbw (l:=[]) this
theorem yjs(h:k<t.nH)(M:0<Al t d k)(H:Al t d k<t.hv k):(E9 t w d k++[⟨t.nW+k,t.si,A0 ((Al t d k).toNat-1)-A0 (Al t d k).toNat-bh w k,-1,0⟩])++[⟨t.si,t.nW+k,A0 ((Al t d k).toNat+1)-A0 (Al t d k).toNat+bh w k,-1,0⟩] <+: Az t w d:=by
 have:=xwr (w:=w) (d:=d) (show k+1<=t.nH from h);rw[xsv,Eu,if_pos M,if_pos H]at this;exact xbw this
theorem yis(h:k<t.nH)(M:¬ 0<Al t d k)(H:Al t d k<t.hv k):E9 t w d k++[⟨t.si,t.nW+k,A0 ((Al t d k).toNat+1)-A0 (Al t d k).toNat+bh w k,-1,0⟩] <+: Az t w d:=by
 have:=xwr (w:=w) (d:=d) (show k+1<=t.nH from h);rw[xsv,Eu,if_neg M,if_pos H]at this;exact List.append_nil (E9 t w d k) ▸ xbw (l:=[]) this
theorem yes(h:k<t.m):G3 t w d k++[⟨t.ww k,t.nW+t.wh k,0,k,1⟩] <+: Az t w d:=by
 have:=xk5 (w:=w) (d:=d) (show k+1<=t.m from h);rw[xud,Fa]at this;exact List.append_nil (G3 t w d k) ▸ xbw (l:=[]) this
theorem yds(h:k<t.m)(c:0<dv d k):(G3 t w d k++[⟨t.ww k,t.nW+t.wh k,0,k,1⟩])++[⟨t.nW+t.wh k,t.ww k,0,k,-1⟩] <+: Az t w d:=by
 have:=xk5 (w:=w) (d:=d) (show k+1<=t.m from h);rw[xud,Fa,if_pos c]at this;exact xbw (l:=[_]) this
end
theorem xrs{x:Nat}(h:x<=10):0<=A0 x/\A0 x<=282475249000:=by
 have M:=xcz x;have O:=xpj h;have H:A0 10=282475249000:=by decide
 omega
theorem xhf:far=1152921504606846976:=by decide
theorem yk1(h:i<s.c.length):s.c.getD i 0=L s i:=by
 rw[L,List.getD_eq_getElem?_getD,List.getD_eq_getElem?_getD,List.getElem?_eq_getElem h];rfl
theorem xeh(h:i<s.c.length):(ics s.c)[i]?=some [.J (L s i)]:=by rw[Co h,yk1 h]
theorem xo3(h:i<s.b.length):(acs s.b)[i]?=some (Mg (Bf.B s i)):=yah h
section
variable{N sp:Nat}
theorem Py:((out.foldl rel (Bo E j (E8 N sp))).c).length=N:=by rw[xef.1,(xwj j).1];simp[E8]
theorem P4:((out.foldl rel (Bo E j (E8 N sp))).b).length=N:=by rw[xef.2,(xwj j).2];simp[E8]
theorem yq2:((Bo E j (E8 N sp)).c).length=N:=by rw[(xwj j).1];simp[E8]
theorem yr2:((Bo E j (E8 N sp)).b).length=N:=by rw[(xwj j).2];simp[E8]
end
theorem yux{a:Arc}(H:L s a.fr<1152921504606846976)(M:L s a.fr+a.cost<L s a.to):rel s a=⟨s.c.set a.to (L s a.fr+a.cost),s.b.set a.to a⟩:=by
 rw[rel,if_pos ⟨by rw[xhf];exact H,M⟩]
theorem yll{a:Arc}(H:¬ L s a.fr<1152921504606846976):rel s a=s:=by rw[rel,if_neg (fun e=>H (by have:=e.1;rw[xhf]at this;exact this))]
theorem ykl{a:Arc}(H:¬ L s a.fr+a.cost<L s a.to):rel s a=s:=by rw[rel,if_neg (fun e=>H e.2)]
theorem yqj:(out++[x]).foldl rel s=rel (out.foldl rel s) x:=by simp
theorem ytx(n:Nat):List.replicate n [Value.J 0]=ics (List.replicate n 0):=by simp[ics]
theorem yjl(n:Nat):List.replicate n [Value.J 0,.J 0,.J 0,.J 0,.J 0]=acs (List.replicate n a0):=by simp[acs,Mg,a0]
def Fz(k n:Nat):List Int:=List.replicate k far++List.replicate (n-k) 0
theorem xgf{k:Nat}(h:k<=n):(Fz k n).length=n:=by simp[Fz];omega
theorem xv8{k:Nat}(h:k<n):(Fz k n).set k 1152921504606846976=Fz (k+1) n:=by
 unfold Fz;rw[List.set_append_right _ _ s_,List.length_replicate,Nat.sub_self];obtain⟨j,H⟩:∃j,n-k=j+1:=⟨n-k-1,om⟩
 rw[H,List.replicate_succ,List.set_cons_zero,show n-(k+1)=j from by omega,List.replicate_succ',List.append_assoc,xhf];rfl
theorem ytj(n:Nat):Fz n n=List.replicate n far:=by simp[Fz]
def K0(s:Lab)(k:Nat):Prop:=∀v,L s v<1152921504606846976-> -(40353607001*(k:Int))<=L s v/\L s v<=40353607001*(k:Int)
theorem K0.mono{s k k'}(h:K0 s k)(H:k<=k'):K0 s k':=fun v hv=>by have:=h v hv;omega
theorem K0.step{s:Lab}{a:Arc}{k}(h:K0 s k)(H:a.to<s.c.length)(hc: -cC<=a.cost/\a.cost<=cC):K0 (rel s a) (k+1):=fun v hv=>by
 have e:cC=40353607001:=by decide
 have:=yvx (s:=s) (a:=a) (K:=40353607001*(k:Int)) (C:=cC) H hc (fun v hv=>h v (by rw[xhf]at hv;exact hv)) v (by rw[xhf];exact hv);rw[e]at this;omega
theorem K0.start{N sp:Nat}:K0 (E8 N sp) 0:=fun v hv=>by
 unfold L E8 at hv⊢;simp only[List.getD_eq_getElem?_getD,List.getElem?_set,List.getElem?_replicate]at hv⊢;have hf:=xhf;by_cases e:sp=v
 ·subst e;by_cases h:sp<N
  ·simp[h]
  ·simp only[List.length_replicate,h,if_true,if_false,Option.getD_none]at hv;omega
 ·simp only[e,if_false]at hv;by_cases h:v<N
  ·simp only[h,if_true,Option.getD_some]at hv;omega
  ·simp only[h,if_false,Option.getD_none]at hv;omega
theorem xff{f:Nat->List Arc}(h:∀i,(f i).length<=2):∀n,((List.range n).flatMap f).length<=2*n
 |0=>by simp
 |n+1=>by
   rw[List.range_succ,List.flatMap_append,List.length_append,List.flatMap_singleton];have:=xff h n;have:=h n;omega
theorem xl7{w d}(O:Ok t):(Az t w d).length<=48:=by
 have M:=xff (f:=E5 t w d) (fun i=>by unfold E5;split<;>split<;>simp) t.nW;have V:=xff (f:=Eu t w d) (fun i=>by unfold Eu;split<;>split<;>simp) t.nH;have H:=xff (f:=Fa t d) (fun i=>by unfold Fa;split<;>simp) t.m;have:=O.nh;have:=O.nw;have:=O.nm
 rw[Az,List.length_append,List.length_append];omega
theorem En.Ou{s:Lab}{sp v:Nat}{r:List Arc}(C:En s sp v r)(h:v≠sp):∃H,r=Bf.B s v::H/\En s sp (Bf.B s v).fr H:=by
 cases C with
 |nil=>exact absurd rfl h
 |cons _ C=>exact⟨_,rfl,C⟩
theorem En.Qc{s:Lab}{sp v:Nat}{r:List Arc}(C:En s sp v r)(h:v=sp):r=[]:=by
 cases C with
 |nil=>rfl
 |cons ne _=>exact absurd h ne
theorem yzn:((bf t w d).c).length=t.nW+t.nH+2:=yq2
theorem yap:((bf t w d).b).length=t.nW+t.nH+2:=yr2
theorem xi5(O:Ok t)(S:Sg w)(G:Good t w d):(Bh t w d).length<=13:=by
 by_cases h:Du t w d<far
 ·obtain⟨h1,_,V,M⟩:=(G.find O S).way h;have:=xvd (N:=nN t) V (fun x H=>by
   rcases List.mem_cons.1 H with rfl|H
   ·simp only[Tn.sp,nN];omega
   ·obtain⟨a,ha,rfl⟩:=List.mem_map.1 H;exact(xhc O.y a (M a ha).1).2)
  have:=O.nh;have:=O.nw
  simp only[List.length_cons,List.length_map,nN]at *;omega
 ·rw[Bh,if_neg h];simp
theorem yrv{a:Arc}(h:a∈Az t w d):a.way<(t.m:Int)/\ -1<=a.more/\a.more<=1:=by
 cases xrz.1 h with
 |k1=>simp;omega
 |k2=>simp;omega
 |k3=>simp;omega
 |k4=>simp;omega
 |k5 hi=>simp;omega
 |k6 hi _=>simp;omega
def Gw(d:List Int)(p:List Arc)(k:Nat):List Int:=aug d (p.take k)
theorem Mr{d p k}:(Gw d p k).length=d.length:=G4
theorem xl1{d p}:Gw d p 0=d:=by simp[Gw,aug]
theorem ylf{k:Nat}(h:k=p.length):Gw d p k=aug d p:=by rw[Gw,h,List.take_length]
theorem xkn{k:Nat}(h:k<p.length):Gw d p (k+1)=if 0<=(p.getD k a0).way then(Gw d p k).set (p.getD k a0).way.toNat (dv (Gw d p k) (p.getD k a0).way.toNat+(p.getD k a0).more)else Gw d p k:=by
 have e:p.getD k a0=p[k]:=by rw[List.getD_eq_getElem?_getD,List.getElem?_eq_getElem h];rfl
 rw[Gw,List.take_succ_eq_append_getElem h,aug,List.foldl_append,e];rfl
theorem ykf{k:Nat}(h:k<p.length)(c:0<=(p.getD k a0).way):(Gw d p k).set (p.getD k a0).way.toNat ((Gw d p k).getD (p.getD k a0).way.toNat 0+(p.getD k a0).more)=Gw d p (k+1):=by
 rw[xkn h,if_pos c];rfl
theorem ycp{k:Nat}(h:k<p.length)(c:¬ 0<=(p.getD k a0).way):Gw d p k=Gw d p (k+1):=by rw[xkn h,if_neg c]
theorem xhs{k:Nat}(h:k<p.length):p.getD k a0∈p:=by
 rw[List.getD_eq_getElem?_getD,List.getElem?_eq_getElem h];exact List.getElem_mem h
theorem yov{d:List Int}{p:List Arc}(O:∀a∈p,-1<=a.more/\a.more<=1)(M:∀i,0<=dv d i/\dv d i<=9):∀k,k<=p.length-> ∀i,-(k:Int)<=(Gw d p k).getD i 0/\(Gw d p k).getD i 0<=9+k
 |0,_,i=>by rw[xl1];have:=M i;unfold dv at this;omega
 |k+1,hk,i=>by
   have H:=yov O M k om;have hm:=O _ (xhs (show k<p.length by omega));rw[xkn om];split
   ·rw[List.getD_eq_getElem?_getD,List.getElem?_set];split
    ·rename_i e;split
     ·rename_i V;have h3:=H (p.getD k a0).way.toNat;simp only[Option.getD_some];unfold dv;omega
     ·simp;omega
    ·have:=H i;rw[List.getD_eq_getElem?_getD]at this;omega
   ·have:=H i;omega
theorem yot(D:Div t d)(h:∀i,i<t.m->0<=dv d i/\dv d i<=9)(i:Nat):0<=dv d i/\dv d i<=9:=by
 by_cases c:i<t.m
 ·exact h i c
 ·have:=D.len;unfold dv;rw[List.getD_eq_getElem?_getD,List.getElem?_eq_none om];simp
theorem xx8{t w n d}(h:0<=Du t w d):Fi t w (n+1) d=d:=by rw[Fi,if_pos h]
theorem yuc{t w n d}(h:¬ 0<=Du t w d):Fi t w (n+1) d=Fi t w n (aug d (Bh t w d)):=by rw[Fi,if_neg h]
theorem yvj(O:Ok t)(S:Sg w)(G:Good t w d)(h:¬ 0<=Du t w d)(hn:sm t.nH t.hv-tot t d<(n:Int)+1)(M:Fi t w (n+1) d=Bz t w):
 ∃n',n=n'+1/\Good t w (aug d (Bh t w d))/\sm t.nH t.hv-tot t (aug d (Bh t w d))<(n':Int)+1/\Fi t w (n'+1) (aug d (Bh t w d))=Bz t w:=by
 obtain⟨H,lt⟩:=G.next O S om;have:=ywf O H.div;obtain⟨n',rfl⟩:∃n',n=n'+1:=⟨n-1,om⟩
 refine⟨n',rfl,H,om,?_⟩;rw[<- M,yuc h]
theorem xw8(O:Ok t):sm t.nH t.hv-tot t (List.replicate t.m 0)<((sm t.nH t.hv).toNat:Int)+1:=by
 have H:tot t (List.replicate t.m 0)=0:=by
  unfold tot;refine(xkx (g:=fun _=>0) fun i hi=>?_).trans (xzk t.m);unfold dv;rw[List.getD_eq_getElem?_getD,List.getElem?_replicate,if_pos hi];rfl
 have M:0<=sm t.nH t.hv:=xjw fun i hi=>(O.h i hi).1;rw[H];omega
theorem Am.mono{p p':Aa}{a1 a2 V:Option Addr}{M n2 O:Nat}{t:Tn}(T:Am p a1 M a2 n2 V O t)(H:PLe p p'):Am p' a1 M a2 n2 V O t:=⟨T.h.mono H,T.w.mono H,T.y.mono H⟩
theorem ywj(t:Tn)(H:Wi):(Bz t H).length=t.m:=by
 have:∀n d,(Fi t H n d).length=d.length:=by
  intro n
  induction n with
  |zero=>intro d;rfl
  |succ n ih=>
    intro d;rw[Fi];split
    ·rfl
    ·rw[ih,G4]
 rw[Bz,this];simp
def B9(t:Tn)(d:List Int)(k:Nat)(x:Int):Int:=sm k fun i=>if(t.wy.getD i wz).1=x then dv d i else 0
def Dh(t:Tn)(d:List Int)(k:Nat)(x:Int):Int:=sm k fun i=>if(t.wy.getD i wz).2=x then dv d i else 0
theorem B0{c:Nat->Prop}[DecidablePred c]{k:Nat}(H:∀i,i<k->0<=dv d i/\dv d i<=1000):0<=(sm k fun i=>if c i then dv d i else 0)/\(sm k fun i=>if c i then dv d i else 0)<=1000*k:=by
 induction k with
 |zero=>exact⟨Int.le_refl _,Int.le_refl _⟩
 |succ k ih=>
   have:=ih fun i hi=>H i om;have:=H k om;simp only[sm];split<;>omega
theorem Hq{t d k x}(h:(t.wy.getD k wz).1=x):B9 t d k x+d.getD k 0=B9 t d (k+1) x:=by
 simp only[B9,sm];rw[if_pos h];rfl
theorem K3{t d k x}(h:¬ (t.wy.getD k wz).1=x):B9 t d k x=B9 t d (k+1) x:=by
 simp only[B9,sm];rw[if_neg h];omega
theorem H2{t d k x}(h:(t.wy.getD k wz).2=x):Dh t d k x+d.getD k 0=Dh t d (k+1) x:=by
 simp only[Dh,sm];rw[if_pos h];rfl
theorem Ky{t d k x}(h:¬ (t.wy.getD k wz).2=x):Dh t d k x=Dh t d (k+1) x:=by
 simp only[Dh,sm];rw[if_neg h];omega
def WOk(t:Tn):Prop:=∀i,i<t.m->(0<=(t.wy.getD i wz).1/\(t.wy.getD i wz).1.toNat<t.nH)/\0<=(t.wy.getD i wz).2/\(t.wy.getD i wz).2.toNat<t.nW
theorem Vd.wok{t}(v:Vd t):WOk t:=fun i hi=>by have:=v.y i hi;have H:=this.1;have M:=this.2.1;omega
section
variable{p:Aa}{a:Option Addr}{c l r:Nat}
theorem _root_.Go.X.Ar.pre(D:Ar p a n xs)(hc:n<=c)(h:r<=n):Ar p (Ga a c 0 1) r (xs.take r):=by
 have:=Sl.part D hc (Nat.zero_le r) h;unfold Ar;rw[List.map_take];simpa using this
theorem _root_.Go.X.Ar.suf(D:Ar p a n xs)(hc:n<=c)(h:l<=n):Ar p (Ga a c l 1) (n-l) (xs.drop l):=by
 have H:=D.len;have:=Sl.part D hc h (Nat.le_refl n);unfold Ar;rw[List.map_drop];rw[List.take_of_length_le (by rw[List.length_drop,List.length_map];omega)]at this;exact this
end
theorem Li:∀{k:Nat}{xs:List Int}{z:Int},k<=xs.length->(∀i,i<k->z<=xs.getD i 0)->(xs.length<=k\/ ¬ z<=xs.getD k 0)->put xs z=xs.take k++z::xs.drop k
 |0,[],_,_,_,_=>rfl
 |0,x::xs,z,_,_,h=>by
   have h:¬ z<=x:=by
    rcases h with h|h
    ·simp at h
    ·exact h
   rw[put,if_neg h];rfl
 |k+1,[],_,h,_,_=>by simp at h
 |k+1,x::xs,z,hk,hs,h=>by
   have e:z<=x:=hs 0 om;have H:=Li (k:=k) (xs:=xs) (z:=z) (by simp at hk;omega) (fun i hi=>hs (i+1) om) (by
    rcases h with h|h
    ·left;simp at h;omega
    ·right;exact h)
   rw[put,if_pos e,H];rfl
theorem Fo(xs:List Int)(z:Int):(put xs z).length=xs.length+1:=by rw[(xsd z xs).length_eq];rfl
open Go.X Go.X.Bf Go.Conc
theorem Vd.okT{t:Tn}(v:Vd t)(hm:t.m<=13):OkT t:={v.ok hm with yp:=fun i hi=>⟨(v.y i hi).1.1,(v.y i hi).2.1.1⟩}
theorem xfm(h:C6 t=0):OkT t:=by
 rcases xog t with⟨_,H,v⟩|⟨M,_⟩
 ·exact v.okT om
 ·omega
theorem Em(h:C6 t=0):t.m<=12/\Vd t:=by
 rcases xog t with⟨_,H,v⟩|⟨M,_⟩
 ·exact⟨H,v⟩
 ·omega
def NoneP(p:Aa):Prop:=∃t z,p 0=some (.cells #[.J (-1),.J (-1),.J 0] t z)
theorem NoneP.mono{p p':Aa}(N:NoneP p)(H:PLe p p'):NoneP p':=by obtain⟨t,z,h⟩:=N;exact⟨t,z,H _ _ h⟩
theorem xif(O:OkT t)(S:Sg w):∀i,i<t.m->0<=(Bz t w).getD i 0/\(Bz t w).getD i 0<=9:=fun i hi=>by
 have D:=(xyz O.toOk S).div;have H:=O.y i hi;have h2:dv (Bz t w) i<=draw t (Bz t w) (t.wh i):=by
  have:=yvq (f:=fun k=>if t.wh k=t.wh i then dv (Bz t w) k else 0) (k:=t.m) (fun k M=>by have:=D.pos k M;split<;>omega) hi;simpa[draw]using this
 have h3:=D.hs _ H.1;have V:=O.h _ H.1;have h5:=D.pos i hi
 unfold dv at *;omega
def Oq(t:Tn):Int:=tot t (Bz t Dm)
theorem yl1(t:Tn):(LK t).length=t.nH:=xaf _ _
def L8(t:Tn)(h:Int)(s:Int):Int:=draw t (Bz t ⟨h,-1,s⟩) h.toNat
def Nt(t:Tn)(x:Int)(s:Int):Int:=has t (Bz t ⟨-1,x,s⟩) x.toNat
def On(t:Tn)(x:Int):Int:=if Nt t x (-1)=0 then 1 else if 0<Nt t x 1 then 2 else 3
noncomputable def C2(t:Tn)(z:Int)(s:Int):Int:=if Ht t (decide (0<=z/\z<=(t.nH:Int)-1))=0 then L8 t z s else 0
noncomputable def Ls(t:Tn)(z:Int):Int:=if Ht t (decide (0<=z/\z<=(t.nW:Int)-1))=0 then On t z else 0
noncomputable def LKc(t:Tn):List Int:=if C6 t=0 then LK t else []
noncomputable def Cc(t:Tn):Int:=if C6 t=0 then Oq t else 0
theorem Lv{t}(h:C6 t=0):LKc t=LK t:=if_pos h
theorem xcr{b:Bool}(h:Ht t b=0):C6 t=0/\b=true:=by
 unfold Ht at h;split at h
 ·rename_i H;refine⟨H,?_⟩;cases b<;>simp_all
 ·omega
def Dz:List Nat:=[0,1,56,2,57,49,28,3,61,58,42,50,38,29,17,4,62,47,59,36,45,43,51,22,53,39,33,30,24,18,12,5,63,55,48,27,60,41,37,16,46,35,44,21,52,32,23,11,54,26,40,15,34,20,31,10,25,14,19,9,13,8,7,6]
def tzF(x:Nat):Nat:=(x &&& (18446744073709551616-x))*285870213051353865%18446744073709551616 / 2^58
def tzN(x:Nat):Nat:=Dz.getD (tzF x) 0
theorem yvf(x:Nat):tzF x<64:=by unfold tzF;omega
theorem yhw(i:Nat):Dz.getD i 0<=63:=by
 by_cases h:i<64
 ·exact(show ∀i,i<64->Dz.getD i 0<=63 by decide) i h
 ·have H:Dz.length=64:=by decide
  rw[List.getD_eq_getElem?_getD,List.getElem?_eq_none om];simp
def TabP(p:Aa):Prop:=∃t z,p 2=some (.cells (Dz.map fun n=>Value.int .u8 ((n:Nat):Int)).toArray t z)
theorem TabP.mono{p p':Aa}(N:TabP p)(H:PLe p p'):TabP p':=by obtain⟨t,z,h⟩:=N;exact⟨t,z,H _ _ h⟩
theorem TabP.at{p:Aa}(N:TabP p){i:Nat}(h:i<64):Au p ((⟨2,0,none⟩:Addr).add (i*1))=some (.int .u8 ((Dz.getD i 0:Nat):Int)):=by
 have H:Dz.length=64:=by decide
 obtain⟨t,z,N⟩:=N;unfold Au;rw[xnx,N];simp only[Option.isSome_none,Bool.false_eq_true,if_false,Nat.zero_add,Nat.mul_one,List.getElem?_toArray,List.getElem?_map];rw[List.getD_eq_getElem?_getD,List.getElem?_eq_getElem om];rfl
def Kk:Nat->Nat->List Int
 |0,_=>[]
 |n+1,g=>if g=0 then []else((tzN g:Nat):Int)::Kk n (g &&& (g-1))
def LG(g:Nat):List Int:=Kk 6 g
theorem xj8:Kk n 0=[]:=by cases n<;>rfl
theorem xk8(h:g≠0):Kk (n+1) g=((tzN g:Nat):Int)::Kk n (g &&& (g-1)):=by rw[Kk,if_neg h]
def Nd:Nat->Nat->Bool
 |0,g=>g==0
 |n+1,g=>g==0||Nd n (g &&& (g-1))
theorem Pw:∀g,g<64->Nd 6 g=true:=by decide +kernel
theorem ygz(h:Nd (n+1) g=true)(H:g≠0):Nd n (g &&& (g-1))=true:=by
 simp only[Nd,Bool.or_eq_true,beq_iff_eq]at h;exact h.resolve_left H
theorem yfz(h:Nd 0 g=true):g=0:=by simpa[Nd]using h
theorem ym1:∀k:Nat,k<=6-> ∀g:Nat,g<2^k->((LG g).all fun z=>decide (0<=z/\z<(k:Int)))=true:=by decide +kernel
theorem yfp{k:Nat}(H:k<=6)(M:g<2^k):∀i,i<(LG g).length->0<=(LG g).getD i 0/\(LG g).getD i 0<k:=fun i hi=>by
 have:=List.all_eq_true.1 (ym1 k H g M) ((LG g).getD i 0) (by rw[List.getD_eq_getElem?_getD,List.getElem?_eq_getElem hi];exact List.getElem_mem hi);simpa using this
theorem xn1:∀g,g<64->(LG g).length<=6:=by decide +kernel
def cmpL:List Int->List Int->Int
 |[],[]=>0
 |[],_::_=>-1
 |_::_,[]=>1
 |x::xs,y::ys=>if Gt x y=0 then cmpL xs ys else Gt x y
theorem xh1{k:Nat}(H:k<xs.length)(M:k<ys.length):cmpL (xs.drop k) (ys.drop k)=if Gt (xs.getD k 0) (ys.getD k 0)=0 then cmpL (xs.drop (k+1)) (ys.drop (k+1))else Gt (xs.getD k 0) (ys.getD k 0):=by
 rw[List.drop_eq_getElem_cons H,List.drop_eq_getElem_cons M,cmpL,List.getD_eq_getElem?_getD,List.getD_eq_getElem?_getD,List.getElem?_eq_getElem H,List.getElem?_eq_getElem M];rfl
theorem yev{k:Nat}(M:k=xs.length)(H:k<ys.length):cmpL (xs.drop k) (ys.drop k)= -1:=by
 rw[List.drop_eq_nil_of_le om,List.drop_eq_getElem_cons H,cmpL]
theorem ydv{k:Nat}(H:k<xs.length)(M:k=ys.length):cmpL (xs.drop k) (ys.drop k)=1:=by
 rw[List.drop_eq_nil_of_le (show ys.length<=k by omega),List.drop_eq_getElem_cons H,cmpL]
theorem ywd{k:Nat}(H:k=xs.length)(M:k=ys.length):cmpL (xs.drop k) (ys.drop k)=0:=by
 rw[List.drop_eq_nil_of_le (show xs.length<=k by omega),List.drop_eq_nil_of_le (show ys.length<=k by omega),cmpL]
structure Pre(t:Tn)(d:List Int):Prop where
 len:d.length<=t.m
 pos:∀i,i<t.m->0<=dv d i
 hs:∀h,h<t.nH->draw t d h<=t.hv h
 ws:∀w,w<t.nW->give t d w<=t.wv w
theorem Pre.div{t d}(D:Pre t d)(h:d.length=t.m):Div t d:=⟨h,D.pos,D.hs,D.ws⟩
theorem yqk(h:d.length<=i):dv d i=0:=by
 unfold dv;rw[List.getD_eq_getElem?_getD,List.getElem?_eq_none h];rfl
def Ea(t:Tn)(d:List Int):Int:=min (t.hv (t.wh d.length)-draw t d (t.wh d.length)) (t.wv (t.ww d.length)-give t d (t.ww d.length))
theorem Pre.nil{t:Tn}(O:Ok t):Pre t []:=by
 have H:∀h,draw t [] h=0:=fun h=>(xkx (g:=fun _=>0) fun i _=>by rw[yqk (Nat.zero_le _)];split<;>rfl).trans (xzk _);have V:∀h,give t [] h=0:=fun h=>(xkx (g:=fun _=>0) fun i _=>by rw[yqk (Nat.zero_le _)];split<;>rfl).trans (xzk _);exact⟨Nat.zero_le _,fun i _=>by rw[yqk (Nat.zero_le _)];exact Int.le_refl _,fun h M=>by rw[H];exact(O.h h M).1,fun x hx=>by rw[V];exact(O.w x hx).1⟩
def inc(b:Bool):Int:=if b then 1 else 0
def touch(t:Tn)(X:Nat->Bool)(x:Nat):Bool:=(List.range t.m).any fun i=>t.ww i==x&&X (t.wh i)
theorem yxf{f:Nat->Int}:∀{k},0<sm k f-> ∃i,i<k/\0<f i
 |0,h=>absurd h (by simp[sm])
 |k+1,h=>by
   by_cases c:0<f k
   ·exact⟨k,om,c⟩
   ·obtain⟨i,hi,hf⟩:=yxf (f:=f) (k:=k) (by simp only[sm]at h;omega);exact⟨i,om,hf⟩
def only(t:Tn)(X:Nat->Bool):Tn:=⟨(List.range t.nH).map fun h=>t.hv h*inc (X h),t.ws,t.wy⟩
def pour(t:Tn)(x:Nat):Tn:=⟨t.hs,t.ws.set x (t.wv x+1),t.wy⟩
theorem xcm(t x):(pour t x).nW=t.nW:=by simp[pour,Tn.nW]
theorem xo2{t x y}(H:x<t.nW):(pour t x).wv y=if x=y then t.wv x+1 else t.wv y:=getD_set H
theorem ydz{t x}(O:Ok t)(M:x<t.nW)(V:t.wv x<=20):Ok (pour t x):=
 ⟨O.nh,by rw[xcm];exact O.nw,O.nm,O.h,fun y H=>by
  rw[xcm]at H;rw[xo2 M];have:=O.w y H;have:=O.w x M;split<;>omega,fun i hi=>by rw[xcm];exact O.y i hi⟩
theorem ynb{t x d}(M:x<t.nW)(D:Div t d):Div (pour t x) d:=
 ⟨D.len,D.pos,D.hs,fun y H=>by
  rw[xcm]at H;rw[xo2 M];have:=D.ws y H
  have e:give (pour t x) d y=give t d y:=rfl;rw[e];split
  ·next c=>subst c;omega
  ·exact this⟩
theorem xe5(t x d):tot (pour t x) d=tot t d:=rfl
theorem yez{t x}(O:Ok t)(V:x<t.nW)(H:t.wv x<=20):tot t (Bz t Dm)<=tot (pour t x) (Bz (pour t x) Dm):=by
 have M:=ydz O V H;have h:=Km.Ea M (xyz M xhk) (ynb V (xfh O xhk).div);rw[xe5 t x (Bz t Dm)]at h;exact h
theorem xbs{m:Nat}(hi:i<d.length)(H:i<m)(c:Nat->Prop)[DecidablePred c]:(sm m fun j=>if c j then dv (d.set i (dv d i-1)) j else 0)=(sm m fun j=>if c j then dv d j else 0)-if c i then 1 else 0:=by
 have e:=ytq (k:=m) (fun j=>if c j then(1:Int)else 0) H;rw[<- e,<- xiw];exact xkx fun j _=>by
  rw[xw6 hi];by_cases z:i=j
  ·subst z;rw[if_pos rfl,if_pos rfl];split<;>omega
  ·rw[if_neg z,if_neg z];omega
theorem ymb{t x}(O:Ok t)(hx:x<t.nW)(a2:t.wv x<=20):tot (pour t x) (Bz (pour t x) Dm)<=tot t (Bz t Dm)+1:=by
 have O':=ydz O hx a2;have H:=(xfh O' xhk).div;generalize Bz (pour t x) Dm=d at H;have B:=xyz O xhk;have M:∀y,y<t.nW->give t d y<=if x=y then t.wv x+1 else t.wv y:=fun y hy=>by
  have:=H.ws y (by rw[xcm];exact hy);rw[xo2 hx]at this;exact this
 rw[xe5];by_cases c:give t d x<=t.wv x
 ·have D:Div t d:=⟨H.len,H.pos,H.hs,fun y hy=>by
   have:=M y hy;split at this
   ·next e=>subst e;exact c
   ·exact this⟩
  have:=B.Ea O D;omega
 ·have hw:=O.w x hx;obtain⟨i,hi,hp⟩:=yxf (f:=fun i=>if t.ww i=x then dv d i else 0) (k:=t.m) (by have e:give t d x=sm t.m fun i=>if t.ww i=x then dv d i else 0:=rfl;omega);have V:t.ww i=x:=by
   by_cases z:t.ww i=x
   ·exact z
   ·rw[if_neg z]at hp;omega
  rw[if_pos V]at hp;have hl:i<d.length:=by have:=H.len;have e:(pour t x).m=t.m:=rfl;omega
  have g1:∀h,draw t (d.set i (dv d i-1)) h=draw t d h-if t.wh i=h then 1 else 0:=fun h=>xbs hl hi fun j=>t.wh j=h
  have g2:∀y,give t (d.set i (dv d i-1)) y=give t d y-if t.ww i=y then 1 else 0:=fun y=>xbs hl hi fun j=>t.ww j=y
  have g3:tot t (d.set i (dv d i-1))=tot t d-1:=by
   have:=xbs (m:=t.m) hl hi fun _=>True;simp only[if_true]at this;exact this
  have D:Div t (d.set i (dv d i-1)):=⟨by rw[List.length_set];exact H.len,fun j hj=>by
   rw[xw6 hl];have:=H.pos j hj;split<;>omega,fun h hh=>by
   rw[g1];have:=H.hs h hh;have e1:draw (pour t x) d h=draw t d h:=rfl;have e2:(pour t x).hv h=t.hv h:=rfl;split<;>omega,fun y hy=>by
   rw[g2,V];have:=M y hy;by_cases z:x=y
   ·subst z;rw[if_pos rfl]at this⊢;omega
   ·rw[if_neg z]at this⊢;omega⟩
  have:=B.Ea O D;omega
def shq(g w:Nat)(x:Ch):Bool:=decide (x.2.toNat=w/\g / 2^x.1.toNat &&& 1=1)
def Gu(t:Tn)(g k:Nat):Int:=sm k fun i=>t.hv ((LG g).getD i 0).toNat
def C1(t:Tn)(g k:Nat):Int:=sm k fun w=>if 0<=Cp (shq g w) t.wy then t.wv w else 0
def Gj(t:Tn)(g:Nat):Int:=Gu t g (LG g).length-C1 t g t.nW
abbrev prec(l b:List Int):Prop:=orI [(l.length:Int)-(b.length:Int),cmpL l b]<0
def Ax(t:Tn):Nat->List Int
 |0=>[]
 |k+1=>if 0<Gj t k/\(Ax t k=[]\/prec (LG k) (Ax t k))then LG k else Ax t k
def Gc(t:Tn):List Int:=Ax t (2^t.nH)
noncomputable def Fg(t:Tn):List Int:=if C6 t=0 then Gc t else []
noncomputable def Ev(t:Tn):Int:=if C6 t=0 then(if Gc t=[]then 3 else 0)else C6 t
theorem xcg{t}(h:C6 t=0):Fg t=Gc t:=if_pos h
theorem yzq{t}(h:¬ C6 t=0):Fg t=[]:=if_neg h
theorem yyq{t}(h:¬ C6 t=0):Ev t=C6 t:=if_neg h
theorem ynw{t}(h:C6 t=0)(H:Gc t=[]):Ev t=3:=by rw[Ev,if_pos h,if_pos H]
theorem yow{t}(h:C6 t=0)(H:¬ Gc t=[]):Ev t=0:=by rw[Ev,if_pos h,if_neg H]
theorem xac{t k}(h:0<Gj t k)(H:Ax t k=[]\/prec (LG k) (Ax t k)):Ax t (k+1)=LG k:=if_pos ⟨h,H⟩
theorem xlp{t k}(h:¬ 0<Gj t k):Ax t (k+1)=Ax t k:=if_neg fun e=>h e.1
theorem xkp{t k}(h:¬ Ax t k=[])(H:¬ prec (LG k) (Ax t k)):Ax t (k+1)=Ax t k:=if_neg fun e=>e.2.elim h H
theorem yxv(O:Ok t)(M:g<2^t.nH){k:Nat}(hk:k<=(LG g).length):0<=Gu t g k/\Gu t g k<=9*k:=by
 induction k with
 |zero=>simp[Gu,sm]
 |succ k H=>
   have H:=H om;have V:=yfp O.nh M k om;have:=O.h ((LG g).getD k 0).toNat om;have e:Gu t g (k+1)=Gu t g k+t.hv ((LG g).getD k 0).toNat:=rfl;rw[e];omega
theorem xf0(O:Ok t){k:Nat}(M:k<=t.nW):0<=C1 t g k/\C1 t g k<=21*k:=by
 induction k with
 |zero=>simp[C1,sm]
 |succ k H=>
   have H:=H om;have:=O.w k om;have e:C1 t g (k+1)=C1 t g k+(if 0<=Cp (shq g k) t.wy then t.wv k else 0):=rfl;rw[e];split<;>omega
theorem xd8{t g k}(h:0<=Cp (shq g k) t.wy):C1 t g (k+1)=C1 t g k+t.wv k:=by
 have e:C1 t g (k+1)=C1 t g k+(if 0<=Cp (shq g k) t.wy then t.wv k else 0):=rfl;rw[e,if_pos h]
theorem yxx{t g k}(h:¬ 0<=Cp (shq g k) t.wy):C1 t g (k+1)=C1 t g k:=by
 have e:C1 t g (k+1)=C1 t g k+(if 0<=Cp (shq g k) t.wy then t.wv k else 0):=rfl;rw[e,if_neg h];omega
theorem xot(O:Ok t)(h:0<Gj t g):LG g≠[]:=fun e=>by
 have M:Gu t g (LG g).length=0:=by rw[e];rfl
 have H:=(xf0 O (g:=g) (Nat.le_refl t.nW)).1;unfold Gj at h;omega
theorem ygg(O:Ok t):2^t.nH<=64:=by
 have h:t.nH<=6:=O.nh;have:=Nat.pow_le_pow_right (show 0<2 by decide) h;simpa using this
theorem ya2(O:OkT t)(hi:i<t.m):0<=(t.wy.getD i wz).1/\(t.wy.getD i wz).1<=63/\0<=(t.wy.getD i wz).2:=by
 have H:=O.yp i hi;have V:=O.y i hi;have M:=O.nh
 have e:t.wh i=(t.wy.getD i wz).1.toNat:=rfl;exact⟨H.1,om,H.2⟩
def swp(ys:List Int)(j:Nat):List Int:=(ys.set j (ys.getD (j-1) 0)).set (j-1) (ys.getD j 0)
theorem xd4:∀{j:Nat}{ys:List Int},0<j->j<ys.length->(swp ys j).Perm ys
 |0,_,h,_=>absurd h om
 |1,[],_,h=>by simp at h
 |1,[_],_,h=>by simp at h
 |1,a::b::l,_,_=>by
   have:swp (a::b::l) 1=b::a::l:=rfl;rw[this];exact .swap ..
 |j+2,[],_,h=>by simp at h
 |j+2,a::l,_,h=>by
   have e:swp (a::l) (j+2)=a::swp l (j+1):=rfl;rw[e];exact(xd4 (j:=j+1) om (by simp at h;omega)).cons a
theorem xe4{q:Nat}(M:0<j)(h:j<ys.length):(swp ys j).getD q 0=if q=j-1 then ys.getD j 0 else if q=j then ys.getD (j-1) 0 else ys.getD q 0:=by
 unfold swp;rw[getD_set (by rw[List.length_set];omega),getD_set h];by_cases c:q=j-1
 ·rw[if_pos c.symm,if_pos c]
 ·rw[if_neg (Ne.symm c),if_neg c];by_cases H:q=j
  ·rw[if_pos H.symm,if_pos H]
  ·rw[if_neg (Ne.symm H),if_neg H]
def Float(ys:List Int)(i j:Nat):Prop:=∀p q,p<q->q<=i->q≠j->ys.getD q 0<=ys.getD p 0
def Kw(ys:List Int)(i:Nat):Prop:=∀p q,p<q->q<i->ys.getD q 0<=ys.getD p 0
theorem xz2{ys i}(h:Kw ys i):Float ys i i:=fun p q a b c=>h p q a om
theorem xr8(h:Float ys i j)(H:0<j)(hi:j<=i)(O:i<ys.length)(lt:ys.getD (j-1) 0<ys.getD j 0):Float (swp ys j) i (j-1):=fun p q a b c=>by
 rw[xe4 H om,xe4 H om,if_neg c];by_cases e:q=j
 ·rw[if_pos e];by_cases f:p=j-1
  ·rw[if_pos f];omega
  ·rw[if_neg f,if_neg om];exact h p (j-1) om om om
 ·rw[if_neg e];by_cases f:p=j-1
  ·rw[if_pos f];exact h j q om b e
  ·rw[if_neg f];by_cases M:p=j
   ·rw[if_pos M];exact h (j-1) q om b e
   ·rw[if_neg M];exact h p q a b e
theorem yrj(h:Float ys i j)(hi:j<=i)(e:j=0\/ys.getD j 0<=ys.getD (j-1) 0):Kw ys (i+1):=fun p q a b=>by
 by_cases c:q=j
 ·subst c;by_cases f:p=q-1
  ·subst f;omega
  ·have:=h p (q-1) om om om;omega
 ·exact h p q a om c
theorem ykw(h:Kw ys i)(hi:ys.length<=i)(p:ys.Perm xs):ys=srt xs:=by
 refine(yvp (List.pairwise_iff_getElem.2 fun a b O M H=>?_) p).symm;have:=h a b H om;rwa[A8 M,A8 O]at this
theorem yoh{k:Nat}(H:k=j-1):((ics ys).set j [.J (ys.getD k 0)]).set k [.J (ys.getD j 0)]=ics (swp ys j):=by
 subst H;rw[Ck,Ck];rfl
theorem ycv{x y:Int}:Gt y x<0<->y<x:=by unfold Gt;(repeat' split)<;>omega
end Go.X.Flow
