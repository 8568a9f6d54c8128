/-
  Part of proofs about a town's master: a calculus for Be beside goroutines that are only leaving, and the Be. No condition.
-/
import Derived.Test.YtblcmdjhidhnjaaGreatDoorGP
import Derived.Test.YtblcmdjhidhnjaaGreatDoorGE
namespace Go.X.Flow
open Go.X
section
variable{p p':Ab}{a:Option Addr}{n c k l r:Nat}
abbrev Cc:=Int×Int
def Cc.cells(x:Cc):List Value:=[.J x.1,.J x.2]
def wcs(xs:List Cc):List (List Value):=xs.map Cc.cells
def Wys(p:Ab)(a:Option Addr)(n:Nat)(xs:List Cc):Prop:=Sl p a n 2 (wcs xs)
def wz:Cc:=(0,0)
variable{xs:List Cc}
theorem Ap(xs:List Cc):(wcs xs).length=xs.length:=by simp[wcs]
theorem Wys.len(s:Wys p a n xs):xs.length=n:=by have:=Sl.len s;simpa[wcs]using this
theorem Wys.mono(H:PLe p p')(s:Wys p a n xs):Wys p' a n xs:=Sl.mono H s
theorem Wys.ne(s:Wys p a n xs)(H:0<n):a=some (adr a):=Sl.ne s H
theorem Wys.at(s:Wys p a n xs)(H:k<n){j:Nat}{v:Value}(hv:(xs.getD k wz).cells[j]?=some v):At p (((adr a).add (k*2)).add j)=some v:=by
 have M:=s.len;exact Sl.get s k (xs.getD k wz).cells (by rw[wcs,List.getElem?_map,List.getD_eq_getElem?_getD,List.getElem?_eq_getElem om];rfl) j v hv
theorem Wys.ho(s:Wys p a n xs)(H:k<n):At p ((adr a).add (k*2))=some (.J (xs.getD k wz).1):=s.at H (j:=0) rfl
theorem Wys.we(s:Wys p a n xs)(H:k<n):At p (((adr a).add (k*2)).add 1)=some (.J (xs.getD k wz).2):=s.at H (j:=1) rfl
theorem Wys.all(s:Wys p a n xs)(H:k<n):∀j v,[Value.J (xs.getD k wz).1,.J (xs.getD k wz).2][j]?=some v->At p (((adr a).add (k*2)).add j)=some v:=fun _ _ hv=>s.at H hv
end
structure Ao(p:Ab)(a1:Option Addr)(n1:Nat)(a2:Option Addr)(n2:Nat)(a3:Option Addr)(n3:Nat)(t:Tn):Prop where
 h:As p a1 n1 t.hs
 w:As p a2 n2 t.ws
 y:Wys p a3 n3 t.wy
def Bf(x y:Cc):Prop:=x.1<y.1\/x.1=y.1/\x.2<y.2
instance(x y:Cc):Decidable (Bf x y):=by unfold Bf;infer_instance
def YOk(t:Tn)(i:Nat):Prop:=(0<=(t.wy.getD i wz).1/\(t.wy.getD i wz).1<=(t.nH:Int)-1)/\(0<=(t.wy.getD i wz).2/\(t.wy.getD i wz).2<=(t.nW:Int)-1)/\(0<i->Bf (t.wy.getD ((i:Int)-1).toNat wz) (t.wy.getD i wz))
structure Vd(t:Tn):Prop where
 nh:t.nH<=6
 nw:t.nW<=5
 h:∀h,h<t.nH->0<=t.hs.getD h 0/\t.hs.getD h 0<=9
 w:∀w,w<t.nW->0<=t.ws.getD w 0/\t.ws.getD w 0<=20
 y:∀i,i<t.m->YOk t i
open Classical in
noncomputable def D5(t:Tn):Int:=if t.m<=12/\Vd t then 0 else 30
theorem Cj{t}(h:t.m<=12)(v:Vd t):D5 t=0:=if_pos ⟨h,v⟩
theorem Fj{t}(h:¬ (t.m<=12/\Vd t)):D5 t=30:=if_neg h
theorem xcg(t):D5 t=0/\t.m<=12/\Vd t\/D5 t=30/\ ¬ (t.m<=12/\Vd t):=by
 by_cases h:t.m<=12/\Vd t
 ·exact .inl ⟨Cj h.1 h.2,h⟩
 ·exact .inr ⟨Fj h,h⟩
noncomputable def K0(t:Tn)(b:Bool):Int:=if D5 t=0 then(if b then 0 else 1)else 30
theorem Vd.ok{t}(v:Vd t)(H:t.m<=13):Ok t:=
 ⟨v.nh,v.nw,H,v.h,fun x M=>by have:=v.w x M;unfold Tn.wv;omega,fun i hi=>by
  have:=v.y i hi;have V:=this.1;have O:=this.2.1
  unfold Tn.wh Tn.ww;have e:t.wy.getD i (0,0)=t.wy.getD i wz:=rfl;rw[e];omega⟩
def Gj(x y:Int):Int:=if x<y then -1 else if y<x then 1 else 0
theorem C3{q:Nat->Prop}{k:Nat}(hs:∀i,i<k->q i)(h:q k):∀i,i<k+1->q i:=fun i hi=>by
 by_cases e:i=k
 ·subst e;exact h
 ·exact hs i om
theorem Bn{α:Type}{l:List α}{i:Nat}{d:α}(h:i<l.length):l.getD i d=l[i]:=by
 rw[List.getD_eq_getElem?_getD,List.getElem?_eq_getElem h];rfl
def C2{α:Type}(q:α->Bool):List α->Int
 |[]=>-1
 |d::ds=>if q d=true then 0 else if C2 q ds<0 then -1 else C2 q ds+1
theorem Cs{α:Type}{q:α->Bool}{z:α}:∀{ds:List α},(∀i,i<ds.length->q (ds.getD i z)=false)->C2 q ds= -1
 |[],_=>rfl
 |d::ds,h=>by
   have H:q d=false:=h 0 s_;have:=Cs (ds:=ds) fun i hi=>h (i+1) (by simp;omega);simp only[C2,H,this];simp
theorem Cu{α:Type}{q:α->Bool}{z:α}:∀{ds:List α}{k:Nat},k<ds.length->q (ds.getD k z)=true->(∀i,i<k->q (ds.getD i z)=false)->C2 q ds=k
 |[],_,h,_,_=>by simp at h
 |d::ds,0,_,h,_=>by
   have H:q d=true:=h;simp[C2,H]
 |d::ds,k+1,hk,h,hs=>by
   have H:q d=false:=hs 0 om;have:=Cu (ds:=ds) (k:=k) (by simp at hk;omega) h fun i hi=>hs (i+1) om;simp only[C2,H,this];rw[if_neg s_,if_neg om];omega
theorem Dn{α:Type}{q:α->Bool}:∀{ds:List α},0<=C2 q ds<-> ∃t∈ds,q t=true
 |[]=>by simp[C2]
 |d::ds=>by
   have O:=Dn (q:=q) (ds:=ds);rw[C2];by_cases h:q d=true
   ·rw[if_pos h];exact⟨fun _=>⟨d,List.mem_cons_self ..,h⟩,fun _=>Int.le_refl _⟩
   ·rw[if_neg h];by_cases c:C2 q ds<0
    ·rw[if_pos c];refine⟨fun z=>absurd z om,fun⟨t,H,M⟩=>?_⟩;rcases List.mem_cons.1 H with rfl|H
     ·exact absurd M h
     ·have:=O.2 ⟨t,H,M⟩;omega
    ·rw[if_neg c];refine⟨fun _=>?_,fun _=>om⟩;obtain⟨t,H,M⟩:=O.1 om;exact⟨t,List.mem_cons_of_mem _ H,M⟩
def orI:List Int->Int
 |[]=>0
 |x::l=>if x=0 then orI l else x
theorem yad:∀{k:Nat}{xs:List Int},k<xs.length->(∀i,i<k->xs.getD i 0=0)-> ¬ xs.getD k 0=0->orI xs=xs.getD k 0
 |_,[],h,_,_=>by simp at h
 |0,x::xs,_,_,n=>by
   have n:¬ x=0:=n;rw[orI,if_neg n];rfl
 |k+1,x::xs,h,hs,n=>by
   have e:x=0:=hs 0 om;rw[orI,if_pos e];exact yad (k:=k) (by simp at h;omega) (fun i hi=>hs (i+1) om) n
theorem yyq:∀{xs:List Int},(∀i,i<xs.length->xs.getD i 0=0)->orI xs=0
 |[],_=>rfl
 |x::xs,hs=>by
   have e:x=0:=hs 0 s_;rw[orI,if_pos e];exact yyq fun i hi=>hs (i+1) (by simp;omega)
def Pa(a b c d:Int):Int:=orI [Gj a c,Gj b d]
theorem yxv{x y:Cc}:0<=Pa x.1 x.2 y.1 y.2<-> ¬ Bf x y:=by
 unfold Pa Bf;simp only[orI,Gj]
 (repeat' split)<;>omega
def Nd(hi:Int)(n:Int):Bool:=! decide (0<=n/\n<=hi)
theorem xz5{hi:Int}{xs:List Int}(h:¬ 0<=C2 (Nd hi) xs):∀i,i<xs.length->0<=xs.getD i 0/\xs.getD i 0<=hi:=fun i H=>by
 have:=fun z=>h (Dn.2 ⟨xs.getD i 0,by rw[Bn H];exact List.getElem_mem H,z⟩);by_cases c:0<=xs.getD i 0/\xs.getD i 0<=hi
 ·exact c
 ·exact absurd (by unfold Nd;rw[decide_eq_false c];rfl) this
theorem yak{hi:Int}{xs:List Int}(h:0<=C2 (Nd hi) xs):¬ ∀i,i<xs.length->0<=xs.getD i 0/\xs.getD i 0<=hi:=fun z=>by
 obtain⟨t,O,M⟩:=Dn.1 h;obtain⟨i,H,e⟩:=List.mem_iff_getElem.1 O;have:=z i H;rw[Bn H,e]at this;unfold Nd at M;simp only[Bool.not_eq_true',decide_eq_false_iff_not]at M;omega
noncomputable instance(t:Tn):Decidable (Vd t):=Classical.propDecidable _
def ics(xs:List Int):List (List Value):=xs.map fun x=>[.J x]
theorem Ae(xs:List Int):(ics xs).length=xs.length:=by simp[ics]
theorem Cg{xs:List Int}{j:Nat}(h:j<xs.length):(ics xs)[j]?=some [.J (xs.getD j 0)]:=by
 rw[ics,List.getElem?_map,List.getD_eq_getElem?_getD,List.getElem?_eq_getElem h];rfl
theorem Ce{xs:List Int}{j:Nat}{z:Int}:(ics xs).set j [.J z]=ics (xs.set j z):=by
 simp[ics,List.map_set]
theorem ysw{xs:List Int}{z:Int}:ics xs++[[.J z]]=ics (xs++[z]):=by simp[ics]
def Di(vs:List Int)(g:Nat->Nat)(d:List Int)(k:Nat):List Int:=(List.range vs.length).map fun h=>vs.getD h 0-sm k fun i=>if g i=h then dv d i else 0
theorem xyx{vs g d k}:(Di vs g d k).length=vs.length:=by simp[Di]
theorem xiv{vs g d k h}(H:h<vs.length):(Di vs g d k).getD h 0=vs.getD h 0-sm k fun i=>if g i=h then dv d i else 0:=by
 rw[Di,List.getD_eq_getElem?_getD,List.getElem?_map,List.getElem?_range H];rfl
theorem xff{a b:List Int}(M:a.length=b.length)(h:∀i,i<a.length->a.getD i 0=b.getD i 0):a=b:=by
 refine List.ext_getElem M fun i H O=>?_;have:=h i H;rwa[Bn H,Bn O]at this
theorem xvn{vs g d}:Di vs g d 0=vs:=xff xyx fun i hi=>by
 rw[xyx]at hi;rw[xiv hi];simp[sm]
theorem xmr{xs:List Int}{i j:Nat}{z:Int}(hi:i<xs.length):(xs.set i z).getD j 0=if i=j then z else xs.getD j 0:=ykd hi j
theorem xa7{vs:List Int}{g:Nat->Nat}{d:List Int}{k:Nat}(H:g k<vs.length):(Di vs g d k).set (g k) ((Di vs g d k).getD (g k) 0-dv d k)=Di vs g d (k+1):=by
 refine xff (by rw[List.length_set,xyx,xyx]) fun i hi=>?_;rw[List.length_set,xyx]at hi;rw[xmr (by rw[xyx];exact H),xiv hi,xiv hi,xiv H];simp only[sm];by_cases e:g k=i
 ·rw[if_pos e,if_pos e,e];omega
 ·rw[if_neg e,if_neg e];omega
theorem xvl{g:Nat->Nat}{d:List Int}{k h:Nat}(H:∀i,i<k->0<=dv d i/\dv d i<=20):0<=(sm k fun i=>if g i=h then dv d i else 0)/\(sm k fun i=>if g i=h then dv d i else 0)<=20*k:=by
 induction k with
 |zero=>exact⟨Int.le_refl _,Int.le_refl _⟩
 |succ k ih=>
   have:=ih fun i hi=>H i om;have:=H k om;simp only[sm];split<;>omega
def Nn(t:Tn)(d:List Int):List Int:=(List.range t.nW).map (has t d)
open Go.X Go.X.Bf
def Mf(x:Arc):List Value:=[.J ((x.fr:Nat):Int),.J ((x.to:Nat):Int),.J x.cost,.J x.way,.J x.more]
def Nf(x:Arc):Value:=.agg (Mf x).toArray
theorem xgg{a b c w m:Int}{x:Arc}(V:a=x.fr)(M:b=x.to)(H:c=x.cost)(O:w=x.way)(h5:m=x.more):
 Value.agg #[.J a,.J b,.J c,.J w,.J m]=Nf x:=by subst V;subst M;subst H;subst O;subst h5;rfl
def acs(l:List Arc):List (List Value):=l.map Mf
theorem xjv(l:List Arc):(acs l).length=l.length:=by simp[acs]
theorem ygc(l:List Arc)(x:Arc):acs l++[Mf x]=acs (l++[x]):=by simp[acs]
theorem yem{l:List Arc}{i:Nat}{x:Arc}:(acs l).set i (Mf x)=acs (l.set i x):=by simp[acs,List.map_set]
theorem yxd{l:List Arc}{i:Nat}(h:i<l.length):(acs l)[i]?=some (Mf (l.getD i a0)):=by
 rw[acs,List.getElem?_map,List.getD_eq_getElem?_getD,List.getElem?_eq_getElem h];rfl
section
variable{p p':Ab}{a:Option Addr}{n k:Nat}{l:List Arc}
def Nl(p:Ab)(a:Option Addr)(n:Nat)(l:List Arc):Prop:=Sl p a n 5 (acs l)
theorem Nl.len(s:Nl p a n l):l.length=n:=by have:=Sl.len s;simpa[acs]using this
theorem Nl.at(s:Nl p a n l)(H:k<n){j:Nat}{v:Value}(hv:(Mf (l.getD k a0))[j]?=some v):At p (((adr a).add (k*5)).add j)=some v:=by
 have M:=s.len;exact Sl.get s k (Mf (l.getD k a0)) (yxd om) j v hv
theorem Nl.all(s:Nl p a n l)(H:k<n):∀j v,(Mf (l.getD k a0))[j]?=some v->At p (((adr a).add (k*5)).add j)=some v:=fun _ _ hv=>s.at H hv
end
structure OkT(t:Tn):Prop extends Ok t where
 yp:∀i,i<t.m->0<=(t.wy.getD i wz).1/\0<=(t.wy.getD i wz).2
section
variable{p:Ab}{a:Option Addr}{n k:Nat}{t:Tn}{d:List Int}
theorem Wys.Re(s:Wys p a n t.wy)(M:k<n)(H:0<=(t.wy.getD k wz).1/\0<=(t.wy.getD k wz).2):∀j v,[Value.J ((t.wh k:Nat):Int),.J ((t.ww k:Nat):Int)][j]?=some v->At p (((adr a).add (k*2)).add j)=some v:=fun j v hv=>by
 rw[show((t.wh k:Nat):Int)=(t.wy.getD k wz).1 from Int.toNat_of_nonneg H.1,show((t.ww k:Nat):Int)=(t.wy.getD k wz).2 from Int.toNat_of_nonneg H.2]at hv;exact s.all M j v hv
theorem ypw{h:Nat}(H:h<t.nH):(Gl t d).getD h 0=Au t d h:=by rw[Gl,List.getD_eq_getElem?_getD];simp[H]
theorem yhh{x:Nat}(H:x<t.nW):(Nn t d).getD x 0=has t d x:=by rw[Nn,List.getD_eq_getElem?_getD];simp[H]
theorem xtb:(Gl t d).length=t.nH:=by simp[Gl]
theorem xoh:(Nn t d).length=t.nW:=by simp[Nn]
end
theorem xs4{t:Tn}{d:List Int}{h:Nat}(H:h<t.nH):(ics (Gl t d))[h]?=some [.J (Au t d h)]:=by
 rw[Cg (by rw[xtb];exact H),ypw H]
theorem yyx{t:Tn}{d:List Int}{x:Nat}(H:x<t.nW):(ics (Nn t d))[x]?=some [.J (has t d x)]:=by
 rw[Cg (by rw[xoh];exact H),yhh H]
section
variable(t:Tn)(w:Wi)(d:List Int)
def Fh(k:Nat):List Arc:=(List.range k).flatMap (En t w d)
def Ez(k:Nat):List Arc:=Fh t w d t.nW++(List.range k).flatMap (Ee t w d)
def Gt(k:Nat):List Arc:=Ez t w d t.nH++(List.range k).flatMap (Ey t d)
end
section
variable{t:Tn}{w:Wi}{d:List Int}{k:Nat}
theorem xwv:Fh t w d (k+1)=Fh t w d k++En t w d k:=by simp[Fh,List.range_succ]
theorem xxv:Ez t w d (k+1)=Ez t w d k++Ee t w d k:=by simp[Ez,List.range_succ]
theorem xud:Gt t w d (k+1)=Gt t w d k++Ey t d k:=by simp[Gt,List.range_succ]
theorem yxq:Ez t w d 0=Fh t w d t.nW:=by simp[Ez]
theorem ywq:Gt t w d 0=Ez t w d t.nH:=by simp[Gt]
theorem yvg:Gt t w d t.m=A0 t w d:=by simp[Gt,Ez,Fh,A0]
variable{l:List Arc}{x y:Arc}
theorem V1(M:0<has t d k)(H:has t d k<t.wv k):(Fh t w d k++[⟨t.sp,k,-bw w k,-1,0⟩])++[⟨k,t.sp,bw w k,-1,0⟩]=Fh t w d (k+1):=by rw[xwv,En,if_pos M,if_pos H,List.append_assoc]
theorem Ud(M:0<has t d k)(H:¬ has t d k<t.wv k):Fh t w d k++[⟨t.sp,k,-bw w k,-1,0⟩]=Fh t w d (k+1):=by rw[xwv,En,if_pos M,if_neg H,List.append_nil]
theorem Rz(M:¬ 0<has t d k)(H:has t d k<t.wv k):Fh t w d k++[⟨k,t.sp,bw w k,-1,0⟩]=Fh t w d (k+1):=by rw[xwv,En,if_neg M,if_pos H,List.nil_append]
theorem R1(M:¬ 0<has t d k)(H:¬ has t d k<t.wv k):Fh t w d k=Fh t w d (k+1):=by rw[xwv,En,if_neg M,if_neg H];simp
theorem Tv(M:0<Au t d k)(H:Au t d k<t.hv k):(Ez t w d k++[⟨t.nW+k,t.si,B5 ((Au t d k).toNat-1)-B5 (Au t d k).toNat-bh w k,-1,0⟩])++[⟨t.si,t.nW+k,B5 ((Au t d k).toNat+1)-B5 (Au t d k).toNat+bh w k,-1,0⟩]=Ez t w d (k+1):=by
 rw[xxv,Ee,if_pos M,if_pos H,List.append_assoc]
theorem Ub(M:0<Au t d k)(H:¬ Au t d k<t.hv k):Ez t w d k++[⟨t.nW+k,t.si,B5 ((Au t d k).toNat-1)-B5 (Au t d k).toNat-bh w k,-1,0⟩]=Ez t w d (k+1):=by rw[xxv,Ee,if_pos M,if_neg H,List.append_nil]
theorem Tc(M:¬ 0<Au t d k)(H:Au t d k<t.hv k):Ez t w d k++[⟨t.si,t.nW+k,B5 ((Au t d k).toNat+1)-B5 (Au t d k).toNat+bh w k,-1,0⟩]=Ez t w d (k+1):=by rw[xxv,Ee,if_neg M,if_pos H,List.nil_append]
theorem Ri(M:¬ 0<Au t d k)(H:¬ Au t d k<t.hv k):Ez t w d k=Ez t w d (k+1):=by rw[xxv,Ee,if_neg M,if_neg H];simp
theorem Y_t(c:0<dv d k):(Gt t w d k++[⟨t.ww k,t.nW+t.wh k,0,k,1⟩])++[⟨t.nW+t.wh k,t.ww k,0,k,-1⟩]=Gt t w d (k+1):=by rw[xud,Ey,if_pos c,List.append_assoc];rfl
theorem Y_f(c:¬ 0<dv d k):Gt t w d k++[⟨t.ww k,t.nW+t.wh k,0,k,1⟩]=Gt t w d (k+1):=by rw[xud,Ey,if_neg c]
end
theorem xqr(f:Nat->List Arc){k n:Nat}(h:k<=n):(List.range k).flatMap f <+: (List.range n).flatMap f:=by
 obtain⟨j,rfl⟩:=Nat.exists_eq_add_of_le h;rw[List.range_add,List.flatMap_append];exact⟨_,rfl⟩
section
variable{t:Tn}{w:Wi}{d:List Int}{k:Nat}
theorem xdr(h:k<=t.nW):Fh t w d k <+: A0 t w d:=(xqr _ h).trans ⟨_,rfl⟩
theorem xer(h:k<=t.nH):Ez t w d k <+: A0 t w d:=by
 rw[A0,Ez,Fh,<- List.append_assoc];obtain⟨z,H⟩:=xqr (Ee t w d) h;exact⟨z++(List.range t.m).flatMap (Ey t d),by rw[<- H];simp only[List.append_assoc]⟩
theorem xe4(h:k<=t.m):Gt t w d k <+: A0 t w d:=by
 rw[A0,Gt,Ez,Fh,<- List.append_assoc];obtain⟨z,H⟩:=xqr (Ey t d) h;exact⟨z,by rw[<- H];simp only[List.append_assoc]⟩
theorem xgw{o l E:List Arc}{x:Arc}{r:List Arc}(h:o++(l++x::r) <+: E):(o++l)++[x] <+: E:=by
 refine List.IsPrefix.trans ⟨r,?_⟩ h;simp only[List.append_assoc,List.singleton_append]
theorem yzn(h:k<t.nW)(H:0<has t d k):Fh t w d k++[⟨t.sp,k,-bw w k,-1,0⟩] <+: A0 t w d:=by
 have:=xdr (w:=w) (d:=d) (show k+1<=t.nW from h);rw[xwv,En,if_pos H]at this;exact List.append_nil (Fh t w d k) ▸ xgw (l:=[]) this
theorem yyn(h:k<t.nW)(M:0<has t d k)(H:has t d k<t.wv k):(Fh t w d k++[⟨t.sp,k,-bw w k,-1,0⟩])++[⟨k,t.sp,bw w k,-1,0⟩] <+: A0 t w d:=by
 have:=xdr (w:=w) (d:=d) (show k+1<=t.nW from h);rw[xwv,En,if_pos M,if_pos H]at this;exact xgw this
theorem yxn(h:k<t.nW)(M:¬ 0<has t d k)(H:has t d k<t.wv k):Fh t w d k++[⟨k,t.sp,bw w k,-1,0⟩] <+: A0 t w d:=by
 have:=xdr (w:=w) (d:=d) (show k+1<=t.nW from h);rw[xwv,En,if_neg M,if_pos H]at this;exact List.append_nil (Fh t w d k) ▸ xgw (l:=[]) this
theorem ycp(h:k<t.nH)(H:0<Au t d k):Ez t w d k++[⟨t.nW+k,t.si,B5 ((Au t d k).toNat-1)-B5 (Au t d k).toNat-bh w k,-1,0⟩] <+: A0 t w d:=by
 have:=xer (w:=w) (d:=d) (show k+1<=t.nH from h);rw[xxv,Ee,if_pos H]at this;exact List.append_nil (Ez t w d k) ▸ xgw (l:=[]) this
theorem ybp(h:k<t.nH)(M:0<Au t d k)(H:Au t d k<t.hv k):(Ez t w d k++[⟨t.nW+k,t.si,B5 ((Au t d k).toNat-1)-B5 (Au t d k).toNat-bh w k,-1,0⟩])++[⟨t.si,t.nW+k,B5 ((Au t d k).toNat+1)-B5 (Au t d k).toNat+bh w k,-1,0⟩] <+: A0 t w d:=by
 have:=xer (w:=w) (d:=d) (show k+1<=t.nH from h);rw[xxv,Ee,if_pos M,if_pos H]at this;exact xgw this
theorem yap(h:k<t.nH)(M:¬ 0<Au t d k)(H:Au t d k<t.hv k):Ez t w d k++[⟨t.si,t.nW+k,B5 ((Au t d k).toNat+1)-B5 (Au t d k).toNat+bh w k,-1,0⟩] <+: A0 t w d:=by
 have:=xer (w:=w) (d:=d) (show k+1<=t.nH from h);rw[xxv,Ee,if_neg M,if_pos H]at this;exact List.append_nil (Ez t w d k) ▸ xgw (l:=[]) this
theorem ywn(h:k<t.m):Gt t w d k++[⟨t.ww k,t.nW+t.wh k,0,k,1⟩] <+: A0 t w d:=by
 have:=xe4 (w:=w) (d:=d) (show k+1<=t.m from h);rw[xud,Ey]at this;exact List.append_nil (Gt t w d k) ▸ xgw (l:=[]) this
theorem yvn(h:k<t.m)(c:0<dv d k):(Gt t w d k++[⟨t.ww k,t.nW+t.wh k,0,k,1⟩])++[⟨t.nW+t.wh k,t.ww k,0,k,-1⟩] <+: A0 t w d:=by
 have:=xe4 (w:=w) (d:=d) (show k+1<=t.m from h);rw[xud,Ey,if_pos c]at this;exact xgw (l:=[_]) this
end
theorem xwr{x:Nat}(h:x<=10):0<=B5 x/\B5 x<=282475249000:=by
 have O:=xaj x;have M:=xtw h;have H:B5 10=282475249000:=by decide
 omega
theorem xef:far=1152921504606846976:=by decide
theorem yor{s:Lab}{i:Nat}(h:i<s.c.length):s.c.getD i 0=L s i:=by
 rw[L,List.getD_eq_getElem?_getD,List.getD_eq_getElem?_getD,List.getElem?_eq_getElem h];rfl
theorem xsg{s:Lab}{i:Nat}(h:i<s.c.length):(ics s.c)[i]?=some [.J (L s i)]:=by rw[Cg h,yor h]
theorem xh2{s:Lab}{i:Nat}(h:i<s.b.length):(acs s.b)[i]?=some (Mf (Bf.B s i)):=yxd h
section
variable{E out:List Arc}{N sp j:Nat}
theorem Uw:((out.foldl rel (Bg E j (Et N sp))).c).length=N:=by rw[xbf.1,(xyj j).1];simp[Et]
theorem Ve:((out.foldl rel (Bg E j (Et N sp))).b).length=N:=by rw[xbf.2,(xyj j).2];simp[Et]
theorem yfs:((Bg E j (Et N sp)).c).length=N:=by rw[(xyj j).1];simp[Et]
theorem ygs:((Bg E j (Et N sp)).b).length=N:=by rw[(xyj j).2];simp[Et]
end
theorem yhq{s:Lab}{a:Arc}(H:L s a.fr<1152921504606846976)(M:L s a.fr+a.cost<L s a.to):rel s a=⟨s.c.set a.to (L s a.fr+a.cost),s.b.set a.to a⟩:=by
 rw[rel,if_pos ⟨by rw[xef];exact H,M⟩]
theorem ylg{s:Lab}{a:Arc}(H:¬ L s a.fr<1152921504606846976):rel s a=s:=by rw[rel,if_neg (fun e=>H (by have:=e.1;rw[xef]at this;exact this))]
theorem ykg{s:Lab}{a:Arc}(H:¬ L s a.fr+a.cost<L s a.to):rel s a=s:=by rw[rel,if_neg (fun e=>H e.2)]
theorem ycz{out:List Arc}{x:Arc}{s:Lab}:(out++[x]).foldl rel s=rel (out.foldl rel s) x:=by simp
theorem ygq(n:Nat):List.replicate n [Value.J 0]=ics (List.replicate n 0):=by simp[ics]
theorem yjg(n:Nat):List.replicate n [Value.J 0,.J 0,.J 0,.J 0,.J 0]=acs (List.replicate n a0):=by simp[acs,Mf,a0]
def Fs(k n:Nat):List Int:=List.replicate k far++List.replicate (n-k) 0
theorem xdf{k n:Nat}(h:k<=n):(Fs k n).length=n:=by simp[Fs];omega
theorem xj7{k n:Nat}(h:k<n):(Fs k n).set k 1152921504606846976=Fs (k+1) n:=by
 unfold Fs;rw[List.set_append_right _ _ s_,List.length_replicate,Nat.sub_self];obtain⟨j,H⟩:∃j,n-k=j+1:=⟨n-k-1,om⟩
 rw[H,List.replicate_succ,List.set_cons_zero,show n-(k+1)=j from by omega,List.replicate_succ',List.append_assoc,xef];rfl
theorem yfz(n:Nat):Fs n n=List.replicate n far:=by simp[Fs]
def Kp(s:Lab)(k:Nat):Prop:=∀v,L s v<1152921504606846976-> -(40353607001*(k:Int))<=L s v/\L s v<=40353607001*(k:Int)
theorem Kp.mono{s k k'}(h:Kp s k)(H:k<=k'):Kp s k':=fun v hv=>by have:=h v hv;omega
theorem Kp.step{s:Lab}{a:Arc}{k}(h:Kp s k)(H:a.to<s.c.length)(hc: -cC<=a.cost/\a.cost<=cC):Kp (rel s a) (k+1):=fun v hv=>by
 have e:cC=40353607001:=by decide
 have:=yiq (s:=s) (a:=a) (K:=40353607001*(k:Int)) (C:=cC) H hc (fun v hv=>h v (by rw[xef]at hv;exact hv)) v (by rw[xef];exact hv);rw[e]at this;omega
theorem Kp.start{N sp:Nat}:Kp (Et N sp) 0:=fun v hv=>by
 unfold L Et at hv⊢;simp only[List.getD_eq_getElem?_getD,List.getElem?_set,List.getElem?_replicate]at hv⊢;have hf:=xef;by_cases e:sp=v
 ·subst e;by_cases h:sp<N
  ·simp[h]
  ·simp only[List.length_replicate,h,if_true,if_false,Option.getD_none]at hv;omega
 ·simp only[e,if_false]at hv;by_cases h:v<N
  ·simp only[h,if_true,Option.getD_some]at hv;omega
  ·simp only[h,if_false,Option.getD_none]at hv;omega
theorem xcf{f:Nat->List Arc}(h:∀i,(f i).length<=2):∀n,((List.range n).flatMap f).length<=2*n
 |0=>by simp
 |n+1=>by
   rw[List.range_succ,List.flatMap_append,List.length_append,List.flatMap_singleton];have:=xcf h n;have:=h n;omega
theorem xb6{t:Tn}{w d}(O:Ok t):(A0 t w d).length<=48:=by
 have V:=xcf (f:=En t w d) (fun i=>by unfold En;split<;>split<;>simp) t.nW;have M:=xcf (f:=Ee t w d) (fun i=>by unfold Ee;split<;>split<;>simp) t.nH;have H:=xcf (f:=Ey t d) (fun i=>by unfold Ey;split<;>simp) t.m;have:=O.nh;have:=O.nw;have:=O.nm
 rw[A0,List.length_append,List.length_append];omega
theorem Ed.Ol{s:Lab}{sp v:Nat}{r:List Arc}(C:Ed s sp v r)(h:v≠sp):∃H,r=Bf.B s v::H/\Ed s sp (Bf.B s v).fr H:=by
 cases C with
 |nil=>exact absurd rfl h
 |cons _ C=>exact⟨_,rfl,C⟩
theorem Ed.Vb{s:Lab}{sp v:Nat}{r:List Arc}(C:Ed s sp v r)(h:v=sp):r=[]:=by
 cases C with
 |nil=>rfl
 |cons ne _=>exact absurd h ne
section
variable{t:Tn}{w:Wi}{d:List Int}
theorem yzl:((bf t w d).c).length=t.nW+t.nH+2:=yfs
theorem yam:((bf t w d).b).length=t.nW+t.nH+2:=ygs
theorem xb4(O:Ok t)(S:Sg w)(G:Good t w d):(A9 t w d).length<=13:=by
 by_cases h:Dg t w d<far
 ·obtain⟨h1,_,V,h4⟩:=(G.find O S).way h;have:=xvd (N:=nN t) V (fun x H=>by
   rcases List.mem_cons.1 H with rfl|H
   ·simp only[Tn.sp,nN];omega
   ·obtain⟨a,M,rfl⟩:=List.mem_map.1 H;exact(xlc O.y a (h4 a M).1).2)
  have:=O.nh;have:=O.nw
  simp only[List.length_cons,List.length_map,nN]at *;omega
 ·rw[A9,if_neg h];simp
end
theorem ydk{t:Tn}{w:Wi}{d:List Int}{a:Arc}(h:a∈A0 t w d):a.way<(t.m:Int)/\ -1<=a.more/\a.more<=1:=by
 cases xtj.1 h with
 |k1=>simp;omega
 |k2=>simp;omega
 |k3=>simp;omega
 |k4=>simp;omega
 |k5 hi=>simp;omega
 |k6 hi _=>simp;omega
def Gk(d:List Int)(p:List Arc)(k:Nat):List Int:=aug d (p.take k)
theorem Mr{d p k}:(Gk d p k).length=d.length:=Gx
theorem xf0{d p}:Gk d p 0=d:=by simp[Gk,aug]
theorem yec{d:List Int}{p:List Arc}{k:Nat}(h:k=p.length):Gk d p k=aug d p:=by rw[Gk,h,List.take_length]
theorem xmm{d:List Int}{p:List Arc}{k:Nat}(h:k<p.length):Gk d p (k+1)=if 0<=(p.getD k a0).way then(Gk d p k).set (p.getD k a0).way.toNat (dv (Gk d p k) (p.getD k a0).way.toNat+(p.getD k a0).more)else Gk d p k:=by
 have e:p.getD k a0=p[k]:=by rw[List.getD_eq_getElem?_getD,List.getElem?_eq_getElem h];rfl
 rw[Gk,List.take_succ_eq_append_getElem h,aug,List.foldl_append,e];rfl
theorem ydc{d:List Int}{p:List Arc}{k:Nat}(h:k<p.length)(c:0<=(p.getD k a0).way):(Gk d p k).set (p.getD k a0).way.toNat ((Gk d p k).getD (p.getD k a0).way.toNat 0+(p.getD k a0).more)=Gk d p (k+1):=by
 rw[xmm h,if_pos c];rfl
theorem ycm{d:List Int}{p:List Arc}{k:Nat}(h:k<p.length)(c:¬ 0<=(p.getD k a0).way):Gk d p k=Gk d p (k+1):=by rw[xmm h,if_neg c]
theorem xnr{p:List Arc}{k:Nat}(h:k<p.length):p.getD k a0∈p:=by
 rw[List.getD_eq_getElem?_getD,List.getElem?_eq_getElem h];exact List.getElem_mem h
theorem yck{d:List Int}{p:List Arc}(M:∀a∈p,-1<=a.more/\a.more<=1)(O:∀i,0<=dv d i/\dv d i<=9):∀k,k<=p.length-> ∀i,-(k:Int)<=(Gk d p k).getD i 0/\(Gk d p k).getD i 0<=9+k
 |0,_,i=>by rw[xf0];have:=O i;unfold dv at this;omega
 |k+1,hk,i=>by
   have H:=yck M O k om;have V:=M _ (xnr (show k<p.length by omega));rw[xmm om];split
   ·rw[List.getD_eq_getElem?_getD,List.getElem?_set];split
    ·rename_i e;split
     ·rename_i h2;have h3:=H (p.getD k a0).way.toNat;simp only[Option.getD_some];unfold dv;omega
     ·simp;omega
    ·have:=H i;rw[List.getD_eq_getElem?_getD]at this;omega
   ·have:=H i;omega
theorem yzp{t:Tn}{d:List Int}(D:Div t d)(h:∀i,i<t.m->0<=dv d i/\dv d i<=9)(i:Nat):0<=dv d i/\dv d i<=9:=by
 by_cases c:i<t.m
 ·exact h i c
 ·have:=D.len;unfold dv;rw[List.getD_eq_getElem?_getD,List.getElem?_eq_none om];simp
theorem xl7{t w n d}(h:0<=Dg t w d):E4 t w (n+1) d=d:=by rw[E4,if_pos h]
theorem ycb{t w n d}(h:¬ 0<=Dg t w d):E4 t w (n+1) d=E4 t w n (aug d (A9 t w d)):=by rw[E4,if_neg h]
theorem yhz{t:Tn}{w:Wi}{d:List Int}{n:Nat}(O:Ok t)(S:Sg w)(G:Good t w d)(h:¬ 0<=Dg t w d)(hn:sm t.nH t.hv-tot t d<(n:Int)+1)(M:E4 t w (n+1) d=Cr t w):
 ∃n',n=n'+1/\Good t w (aug d (A9 t w d))/\sm t.nH t.hv-tot t (aug d (A9 t w d))<(n':Int)+1/\E4 t w (n'+1) (aug d (A9 t w d))=Cr t w:=by
 obtain⟨H,lt⟩:=G.next O S om;have:=ykc O H.div;obtain⟨n',rfl⟩:∃n',n=n'+1:=⟨n-1,om⟩
 refine⟨n',rfl,H,om,?_⟩;rw[<- M,ycb h]
theorem xk7{t:Tn}(O:Ok t):sm t.nH t.hv-tot t (List.replicate t.m 0)<((sm t.nH t.hv).toNat:Int)+1:=by
 have H:tot t (List.replicate t.m 0)=0:=by
  unfold tot;refine(xxz (g:=fun _=>0) fun i hi=>?_).trans (xyw t.m);unfold dv;rw[List.getD_eq_getElem?_getD,List.getElem?_replicate,if_pos hi];rfl
 have M:0<=sm t.nH t.hv:=xnb fun i hi=>(O.h i hi).1;rw[H];omega
theorem Ao.mono{p p':Ab}{a1 M a3:Option Addr}{V n2 O:Nat}{t:Tn}(T:Ao p a1 V M n2 a3 O t)(H:PLe p p'):Ao p' a1 V M n2 a3 O t:=⟨T.h.mono H,T.w.mono H,T.y.mono H⟩
theorem yiz(t:Tn)(H:Wi):(Cr t H).length=t.m:=by
 have:∀n d,(E4 t H n d).length=d.length:=by
  intro n
  induction n with
  |zero=>intro d;rfl
  |succ n ih=>
    intro d;rw[E4];split
    ·rfl
    ·rw[ih,Gx]
 rw[Cr,this];simp
def B3(t:Tn)(d:List Int)(k:Nat)(x:Int):Int:=sm k fun i=>if(t.wy.getD i wz).1=x then dv d i else 0
def C1(t:Tn)(d:List Int)(k:Nat)(x:Int):Int:=sm k fun i=>if(t.wy.getD i wz).2=x then dv d i else 0
theorem Br{d:List Int}{c:Nat->Prop}[DecidablePred c]{k:Nat}(H:∀i,i<k->0<=dv d i/\dv d i<=1000):0<=(sm k fun i=>if c i then dv d i else 0)/\(sm k fun i=>if c i then dv d i else 0)<=1000*k:=by
 induction k with
 |zero=>exact⟨Int.le_refl _,Int.le_refl _⟩
 |succ k ih=>
   have:=ih fun i hi=>H i om;have:=H k om;simp only[sm];split<;>omega
theorem Hq{t d k x}(h:(t.wy.getD k wz).1=x):B3 t d k x+d.getD k 0=B3 t d (k+1) x:=by
 simp only[B3,sm];rw[if_pos h];rfl
theorem Kq{t d k x}(h:¬ (t.wy.getD k wz).1=x):B3 t d k x=B3 t d (k+1) x:=by
 simp only[B3,sm];rw[if_neg h];omega
theorem Hh{t d k x}(h:(t.wy.getD k wz).2=x):C1 t d k x+d.getD k 0=C1 t d (k+1) x:=by
 simp only[C1,sm];rw[if_pos h];rfl
theorem Km{t d k x}(h:¬ (t.wy.getD k wz).2=x):C1 t d k x=C1 t d (k+1) x:=by
 simp only[C1,sm];rw[if_neg h];omega
def WOk(t:Tn):Prop:=∀i,i<t.m->(0<=(t.wy.getD i wz).1/\(t.wy.getD i wz).1.toNat<t.nH)/\0<=(t.wy.getD i wz).2/\(t.wy.getD i wz).2.toNat<t.nW
theorem Vd.wok{t}(v:Vd t):WOk t:=fun i hi=>by have:=v.y i hi;have M:=this.1;have H:=this.2.1;omega
section
variable{p:Ab}{a:Option Addr}{n c l r:Nat}{xs:List Int}
theorem _root_.Go.X.As.pre(D:As p a n xs)(hc:n<=c)(h:r<=n):As p (Ft a c 0 1) r (xs.take r):=by
 have:=Sl.part D hc (Nat.zero_le r) h;unfold As;rw[List.map_take];simpa using this
theorem _root_.Go.X.As.suf(D:As p a n xs)(hc:n<=c)(h:l<=n):As p (Ft a c l 1) (n-l) (xs.drop l):=by
 have H:=D.len;have:=Sl.part D hc h (Nat.le_refl n);unfold As;rw[List.map_drop];rw[List.take_of_length_le (by rw[List.length_drop,List.length_map];omega)]at this;exact this
end
theorem Le:∀{k:Nat}{xs:List Int}{z:Int},k<=xs.length->(∀i,i<k->z<=xs.getD i 0)->(xs.length<=k\/ ¬ z<=xs.getD k 0)->put xs z=xs.take k++z::xs.drop k
 |0,[],_,_,_,_=>rfl
 |0,x::xs,z,_,_,h=>by
   have h:¬ z<=x:=by
    rcases h with h|h
    ·simp at h
    ·exact h
   rw[put,if_neg h];rfl
 |k+1,[],_,h,_,_=>by simp at h
 |k+1,x::xs,z,hk,hs,h=>by
   have e:z<=x:=hs 0 om;have H:=Le (k:=k) (xs:=xs) (z:=z) (by simp at hk;omega) (fun i hi=>hs (i+1) om) (by
    rcases h with h|h
    ·left;simp at h;omega
    ·right;exact h)
   rw[put,if_pos e,H];rfl
theorem Fb(xs:List Int)(z:Int):(put xs z).length=xs.length+1:=by rw[(xrd z xs).length_eq];rfl
open Go.X Go.X.Bf Go.Conc
theorem Vd.okT{t:Tn}(v:Vd t)(hm:t.m<=13):OkT t:={v.ok hm with yp:=fun i hi=>⟨(v.y i hi).1.1,(v.y i hi).2.1.1⟩}
theorem xtn{t:Tn}(h:D5 t=0):OkT t:=by
 rcases xcg t with⟨_,H,v⟩|⟨M,_⟩
 ·exact v.okT om
 ·omega
theorem Mk{t:Tn}(h:D5 t=0):t.m<=12/\Vd t:=by
 rcases xcg t with⟨_,H,v⟩|⟨M,_⟩
 ·exact⟨H,v⟩
 ·omega
theorem xph{t:Tn}{w:Wi}(O:OkT t)(S:Sg w):∀i,i<t.m->0<=(Cr t w).getD i 0/\(Cr t w).getD i 0<=9:=fun i hi=>by
 have D:=(xrw O.toOk S).div;have H:=O.y i hi;have h2:dv (Cr t w) i<=draw t (Cr t w) (t.wh i):=by
  have:=xv8 (f:=fun k=>if t.wh k=t.wh i then dv (Cr t w) k else 0) (k:=t.m) (fun k M=>by have:=D.pos k M;split<;>omega) hi;simpa[draw]using this
 have V:=D.hs _ H.1;have h4:=O.h _ H.1;have h5:=D.pos i hi
 unfold dv at *;omega
def Ow(t:Tn):Int:=tot t (Cr t Hw)
theorem ypr(t:Tn):(LK t).length=t.nH:=ytx _ _
def Ly(t:Tn)(h:Int)(s:Int):Int:=draw t (Cr t ⟨h,-1,s⟩) h.toNat
def Ni(t:Tn)(x:Int)(s:Int):Int:=has t (Cr t ⟨-1,x,s⟩) x.toNat
def Oj(t:Tn)(x:Int):Int:=if Ni t x (-1)=0 then 1 else if 0<Ni t x 1 then 2 else 3
noncomputable def Do(t:Tn)(z:Int)(s:Int):Int:=if K0 t (decide (0<=z/\z<=(t.nH:Int)-1))=0 then Ly t z s else 0
noncomputable def M2(t:Tn)(z:Int):Int:=if K0 t (decide (0<=z/\z<=(t.nW:Int)-1))=0 then Oj t z else 0
noncomputable def LKc(t:Tn):List Int:=if D5 t=0 then LK t else []
noncomputable def Fx(t:Tn):Int:=if D5 t=0 then Ow t else 0
theorem Ll{t}(h:D5 t=0):LKc t=LK t:=if_pos h
theorem xfp{t:Tn}{b:Bool}(h:K0 t b=0):D5 t=0/\b=true:=by
 unfold K0 at h;split at h
 ·rename_i H;refine⟨H,?_⟩;cases b<;>simp_all
 ·omega
section
variable{ys:List Int}{k:Nat}
def Dz:List Nat:=[0,1,56,2,57,49,28,3,61,58,42,50,38,29,17,4,62,47,59,36,45,43,51,22,53,39,33,30,24,18,12,5,63,55,48,27,60,41,37,16,46,35,44,21,52,32,23,11,54,26,40,15,34,20,31,10,25,14,19,9,13,8,7,6]
def tzF(x:Nat):Nat:=(x &&& (18446744073709551616-x))*285870213051353865%18446744073709551616 / 2^58
def tzN(x:Nat):Nat:=Dz.getD (tzF x) 0
theorem yjc(x:Nat):tzF x<64:=by unfold tzF;omega
theorem ypk(i:Nat):Dz.getD i 0<=63:=by
 by_cases h:i<64
 ·exact(show ∀i,i<64->Dz.getD i 0<=63 by decide) i h
 ·have H:Dz.length=64:=by decide
  rw[List.getD_eq_getElem?_getD,List.getElem?_eq_none om];simp
def H4:Nat->Nat->List Int
 |0,_=>[]
 |n+1,g=>if g=0 then []else((tzN g:Nat):Int)::H4 n (g &&& (g-1))
def LG(g:Nat):List Int:=H4 6 g
theorem xx6{n:Nat}:H4 n 0=[]:=by cases n<;>rfl
theorem xy6{n g:Nat}(h:g≠0):H4 (n+1) g=((tzN g:Nat):Int)::H4 n (g &&& (g-1)):=by rw[H4,if_neg h]
def M7:Nat->Nat->Bool
 |0,g=>g==0
 |n+1,g=>g==0||M7 n (g &&& (g-1))
theorem U1:∀g,g<64->M7 6 g=true:=by decide +kernel
theorem yrq{n g:Nat}(h:M7 (n+1) g=true)(H:g≠0):M7 n (g &&& (g-1))=true:=by
 simp only[M7,Bool.or_eq_true,beq_iff_eq]at h;exact h.resolve_left H
theorem yqq{g:Nat}(h:M7 0 g=true):g=0:=by simpa[M7]using h
theorem yqr:∀k:Nat,k<=6-> ∀g:Nat,g<2^k->((LG g).all fun z=>decide (0<=z/\z<(k:Int)))=true:=by decide +kernel
theorem yfm{g:Nat}(H:k<=6)(M:g<2^k):∀i,i<(LG g).length->0<=(LG g).getD i 0/\(LG g).getD i 0<k:=fun i hi=>by
 have:=List.all_eq_true.1 (yqr k H g M) ((LG g).getD i 0) (by rw[List.getD_eq_getElem?_getD,List.getElem?_eq_getElem hi];exact List.getElem_mem hi);simpa using this
theorem xh0:∀g,g<64->(LG g).length<=6:=by decide +kernel
def cmpL:List Int->List Int->Int
 |[],[]=>0
 |[],_::_=>-1
 |_::_,[]=>1
 |x::xs,y::ys=>if Gj x y=0 then cmpL xs ys else Gj x y
theorem xb0{xs:List Int}(H:k<xs.length)(M:k<ys.length):cmpL (xs.drop k) (ys.drop k)=if Gj (xs.getD k 0) (ys.getD k 0)=0 then cmpL (xs.drop (k+1)) (ys.drop (k+1))else Gj (xs.getD k 0) (ys.getD k 0):=by
 rw[List.drop_eq_getElem_cons H,List.drop_eq_getElem_cons M,cmpL,List.getD_eq_getElem?_getD,List.getD_eq_getElem?_getD,List.getElem?_eq_getElem H,List.getElem?_eq_getElem M];rfl
theorem yrj{xs:List Int}(M:k=xs.length)(H:k<ys.length):cmpL (xs.drop k) (ys.drop k)= -1:=by
 rw[List.drop_eq_nil_of_le om,List.drop_eq_getElem_cons H,cmpL]
theorem yqj{xs:List Int}(H:k<xs.length)(M:k=ys.length):cmpL (xs.drop k) (ys.drop k)=1:=by
 rw[List.drop_eq_nil_of_le (show ys.length<=k by omega),List.drop_eq_getElem_cons H,cmpL]
theorem yxb{xs:List Int}(H:k=xs.length)(M:k=ys.length):cmpL (xs.drop k) (ys.drop k)=0:=by
 rw[List.drop_eq_nil_of_le (show xs.length<=k by omega),List.drop_eq_nil_of_le (show ys.length<=k by omega),cmpL]
def E8(t:Tn)(d:List Int):Int:=min (t.hv (t.wh d.length)-draw t d (t.wh d.length)) (t.wv (t.ww d.length)-give t d (t.ww d.length))
def inc(b:Bool):Int:=if b then 1 else 0
def touch(t:Tn)(X:Nat->Bool)(x:Nat):Bool:=(List.range t.m).any fun i=>t.ww i==x&&X (t.wh i)
def only(t:Tn)(X:Nat->Bool):Tn:=⟨(List.range t.nH).map fun h=>t.hv h*inc (X h),t.ws,t.wy⟩
def shq(g w:Nat)(x:Cc):Bool:=decide (x.2.toNat=w/\g / 2^x.1.toNat &&& 1=1)
def Ge(t:Tn)(g k:Nat):Int:=sm k fun i=>t.hv ((LG g).getD i 0).toNat
def Cp(t:Tn)(g k:Nat):Int:=sm k fun w=>if 0<=C2 (shq g w) t.wy then t.wv w else 0
def Fy(t:Tn)(g:Nat):Int:=Ge t g (LG g).length-Cp t g t.nW
abbrev prec(l b:List Int):Prop:=orI [(l.length:Int)-(b.length:Int),cmpL l b]<0
def Ay(t:Tn):Nat->List Int
 |0=>[]
 |k+1=>if 0<Fy t k/\(Ay t k=[]\/prec (LG k) (Ay t k))then LG k else Ay t k
def Fw(t:Tn):List Int:=Ay t (2^t.nH)
noncomputable def F8(t:Tn):List Int:=if D5 t=0 then Fw t else []
noncomputable def Fl(t:Tn):Int:=if D5 t=0 then(if Fw t=[]then 3 else 0)else D5 t
theorem xtf{t}(h:D5 t=0):F8 t=Fw t:=if_pos h
theorem xy8{t}(h:¬ D5 t=0):F8 t=[]:=if_neg h
theorem xx8{t}(h:¬ D5 t=0):Fl t=D5 t:=if_neg h
theorem yxk{t}(h:D5 t=0)(H:Fw t=[]):Fl t=3:=by rw[Fl,if_pos h,if_pos H]
theorem yyk{t}(h:D5 t=0)(H:¬ Fw t=[]):Fl t=0:=by rw[Fl,if_pos h,if_neg H]
theorem xbc{t k}(h:0<Fy t k)(H:Ay t k=[]\/prec (LG k) (Ay t k)):Ay t (k+1)=LG k:=if_pos ⟨h,H⟩
theorem xkn{t k}(h:¬ 0<Fy t k):Ay t (k+1)=Ay t k:=if_neg fun e=>h e.1
theorem xjn{t k}(h:¬ Ay t k=[])(H:¬ prec (LG k) (Ay t k)):Ay t (k+1)=Ay t k:=if_neg fun e=>e.2.elim h H
theorem yhk{t:Tn}(O:Ok t){g:Nat}(M:g<2^t.nH)(V:k<=(LG g).length):0<=Ge t g k/\Ge t g k<=9*k:=by
 induction k with
 |zero=>simp[Ge,sm]
 |succ k H=>
   have H:=H om;have hb:=yfm O.nh M k om;have:=O.h ((LG g).getD k 0).toNat om;have e:Ge t g (k+1)=Ge t g k+t.hv ((LG g).getD k 0).toNat:=rfl;rw[e];omega
theorem xet{t:Tn}(O:Ok t){g:Nat}(M:k<=t.nW):0<=Cp t g k/\Cp t g k<=21*k:=by
 induction k with
 |zero=>simp[Cp,sm]
 |succ k H=>
   have H:=H om;have:=O.w k om;have e:Cp t g (k+1)=Cp t g k+(if 0<=C2 (shq g k) t.wy then t.wv k else 0):=rfl;rw[e];split<;>omega
theorem xs6{t g k}(h:0<=C2 (shq g k) t.wy):Cp t g (k+1)=Cp t g k+t.wv k:=by
 have e:Cp t g (k+1)=Cp t g k+(if 0<=C2 (shq g k) t.wy then t.wv k else 0):=rfl;rw[e,if_pos h]
theorem ylq{t g k}(h:¬ 0<=C2 (shq g k) t.wy):Cp t g (k+1)=Cp t g k:=by
 have e:Cp t g (k+1)=Cp t g k+(if 0<=C2 (shq g k) t.wy then t.wv k else 0):=rfl;rw[e,if_neg h];omega
theorem xms{t:Tn}(O:Ok t){g:Nat}(h:0<Fy t g):LG g≠[]:=fun e=>by
 have H:Ge t g (LG g).length=0:=by rw[e];rfl
 have M:=(xet O (g:=g) (Nat.le_refl t.nW)).1;unfold Fy at h;omega
theorem yzc{t:Tn}(O:Ok t):2^t.nH<=64:=by
 have h:t.nH<=6:=O.nh;have:=Nat.pow_le_pow_right (show 0<2 by decide) h;simpa using this
theorem ysr{t:Tn}(O:OkT t){i:Nat}(hi:i<t.m):0<=(t.wy.getD i wz).1/\(t.wy.getD i wz).1<=63/\0<=(t.wy.getD i wz).2:=by
 have H:=O.yp i hi;have V:=O.y i hi;have M:=O.nh
 have e:t.wh i=(t.wy.getD i wz).1.toNat:=rfl;exact⟨H.1,om,H.2⟩
def swp(ys:List Int)(j:Nat):List Int:=(ys.set j (ys.getD (j-1) 0)).set (j-1) (ys.getD j 0)
theorem xy2:∀{j:Nat}{ys:List Int},0<j->j<ys.length->(swp ys j).Perm ys
 |0,_,h,_=>absurd h om
 |1,[],_,h=>by simp at h
 |1,[_],_,h=>by simp at h
 |1,a::b::l,_,_=>by
   have:swp (a::b::l) 1=b::a::l:=rfl;rw[this];exact .swap ..
 |j+2,[],_,h=>by simp at h
 |j+2,a::l,_,h=>by
   have e:swp (a::l) (j+2)=a::swp l (j+1):=rfl;rw[e];exact(xy2 (j:=j+1) om (by simp at h;omega)).cons a
theorem xz2{j q:Nat}(M:0<j)(h:j<ys.length):(swp ys j).getD q 0=if q=j-1 then ys.getD j 0 else if q=j then ys.getD (j-1) 0 else ys.getD q 0:=by
 unfold swp;rw[xmr (by rw[List.length_set];omega),xmr h];by_cases c:q=j-1
 ·rw[if_pos c.symm,if_pos c]
 ·rw[if_neg (Ne.symm c),if_neg c];by_cases H:q=j
  ·rw[if_pos H.symm,if_pos H]
  ·rw[if_neg (Ne.symm H),if_neg H]
def Float(ys:List Int)(i j:Nat):Prop:=∀p q,p<q->q<=i->q≠j->ys.getD q 0<=ys.getD p 0
def Ku(ys:List Int)(i:Nat):Prop:=∀p q,p<q->q<i->ys.getD q 0<=ys.getD p 0
theorem xv1{ys i}(h:Ku ys i):Float ys i i:=fun p q a b c=>h p q a om
theorem xf7{i j:Nat}(h:Float ys i j)(H:0<j)(hi:j<=i)(O:i<ys.length)(lt:ys.getD (j-1) 0<ys.getD j 0):Float (swp ys j) i (j-1):=fun p q a b c=>by
 rw[xz2 H om,xz2 H om,if_neg c];by_cases e:q=j
 ·rw[if_pos e];by_cases f:p=j-1
  ·rw[if_pos f];omega
  ·rw[if_neg f,if_neg om];exact h p (j-1) om om om
 ·rw[if_neg e];by_cases f:p=j-1
  ·rw[if_pos f];exact h j q om b e
  ·rw[if_neg f];by_cases M:p=j
   ·rw[if_pos M];exact h (j-1) q om b e
   ·rw[if_neg M];exact h p q a b e
theorem ydz{i j:Nat}(h:Float ys i j)(hi:j<=i)(e:j=0\/ys.getD j 0<=ys.getD (j-1) 0):Ku ys (i+1):=fun p q a b=>by
 by_cases c:q=j
 ·subst c;by_cases f:p=q-1
  ·subst f;omega
  ·have:=h p (q-1) om om om;omega
 ·exact h p q a om c
theorem yuk{xs:List Int}{i:Nat}(h:Ku ys i)(hi:ys.length<=i)(p:ys.Perm xs):ys=srt xs:=by
 refine(yim (List.pairwise_iff_getElem.2 fun a b M O H=>?_) p).symm;have:=h a b H om;rwa[Bn O,Bn M]at this
theorem yff{j:Nat}(H:k=j-1):((ics ys).set j [.J (ys.getD k 0)]).set k [.J (ys.getD j 0)]=ics (swp ys j):=by
 subst H;rw[Ce,Ce];rfl
theorem ypj{x y:Int}:Gj y x<0<->y<x:=by unfold Gj;(repeat' split)<;>omega
end
end Go.X.Flow
