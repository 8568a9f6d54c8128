/-
  Part of proofs about a town's master: a calculus for walks beside goroutines that are only leaving, and the walks. No condition.
-/
import Derived.Test.YtjcakmlipohaeaaGreatDoorGP
import Derived.Test.YtjcakmlipohaeaaGreatDoorGE
namespace Go.X.Flow
open Go.X
section
variable{p p':PHeap}{a:Option Addr}{n c k l r:Nat}
abbrev FWay:=Int×Int
def FWay.cells(x:FWay):List Value:=[.int .i64 x.1,.int .i64 x.2]
def wcs(xs:List FWay):List (List Value):=xs.map FWay.cells
def Wys(p:PHeap)(a:Option Addr)(n:Nat)(xs:List FWay):Prop:=Sl p a n 2 (wcs xs)
def wz:FWay:=(0,0)
variable{xs:List FWay}
theorem wcs_length(xs:List FWay):(wcs xs).length=xs.length:=by simp[wcs]
theorem Wys.len(s:Wys p a n xs):xs.length=n:=by have:=Sl.len s;simpa[wcs]using this
theorem Wys.mono(hp:PLe p p')(s:Wys p a n xs):Wys p' a n xs:=Sl.mono hp s
theorem Wys.ne(s:Wys p a n xs)(hk:0<n):a=some (adr a):=Sl.ne s hk
theorem Wys.at(s:Wys p a n xs)(hk:k<n){j:Nat}{v:Value}(hv:(xs.getD k wz).cells[j]?=some v):pcell p (((adr a).add (k*2)).add j)=some v:=by
 have hl:=s.len
 exact Sl.get s k (xs.getD k wz).cells (by rw[wcs,List.getElem?_map,List.getD_eq_getElem?_getD,List.getElem?_eq_getElem om];rfl) j v hv
theorem Wys.ho(s:Wys p a n xs)(hk:k<n):pcell p ((adr a).add (k*2))=some (.int .i64 (xs.getD k wz).1):=s.at hk (j:=0) rfl
theorem Wys.we(s:Wys p a n xs)(hk:k<n):pcell p (((adr a).add (k*2)).add 1)=some (.int .i64 (xs.getD k wz).2):=s.at hk (j:=1) rfl
theorem Wys.all(s:Wys p a n xs)(hk:k<n):∀j v,[Value.int .i64 (xs.getD k wz).1,.int .i64 (xs.getD k wz).2][j]?=some v->pcell p (((adr a).add (k*2)).add j)=some v:=fun _ _ hv=>s.at hk hv
end
structure TownP(p:PHeap)(a1:Option Addr)(n1:Nat)(a2:Option Addr)(n2:Nat)(a3:Option Addr)(n3:Nat)(t:Tn):Prop where
 h:Ints p a1 n1 t.hs
 w:Ints p a2 n2 t.ws
 y:Wys p a3 n3 t.wy
def Bf(x y:FWay):Prop:=x.1<y.1\/x.1=y.1/\x.2<y.2
instance(x y:FWay):Decidable (Bf x y):=by unfold Bf;infer_instance
def YOk(t:Tn)(i:Nat):Prop:=(0<=(t.wy.getD i wz).1/\(t.wy.getD i wz).1<=(t.nH:Int)-1)/\(0<=(t.wy.getD i wz).2/\(t.wy.getD i wz).2<=(t.nW:Int)-1)/\(0<i->Bf (t.wy.getD ((i:Int)-1).toNat wz) (t.wy.getD i wz))
structure Vd(t:Tn):Prop where
 nh:t.nH<=6
 nw:t.nW<=5
 h:∀h,h<t.nH->0<=t.hs.getD h 0/\t.hs.getD h 0<=9
 w:∀w,w<t.nW->0<=t.ws.getD w 0/\t.ws.getD w 0<=20
 y:∀i,i<t.m->YOk t i
open Classical in
noncomputable def chkB(t:Tn):Int:=if t.m<=12/\Vd t then 0 else 30
theorem chkB_yes{t}(h:t.m<=12)(v:Vd t):chkB t=0:=if_pos ⟨h,v⟩
theorem chkB_no{t}(h:¬ (t.m<=12/\Vd t)):chkB t=30:=if_neg h
theorem chkB_cases(t):chkB t=0/\t.m<=12/\Vd t\/chkB t=30/\ ¬ (t.m<=12/\Vd t):=by
 by_cases h:t.m<=12/\Vd t
 ·exact .inl ⟨chkB_yes h.1 h.2,h⟩
 ·exact .inr ⟨chkB_no h,h⟩
noncomputable def askB(t:Tn)(b:Bool):Int:=if chkB t=0 then(if b then 0 else 1)else 30
theorem Vd.ok{t}(v:Vd t)(hm:t.m<=13):Ok t:=
 ⟨v.nh,v.nw,hm,v.h,fun x hx=>by have:=v.w x hx;unfold Tn.wv;omega,fun i hi=>by
  have:=v.y i hi
  have h1:=this.1;have h2:=this.2.1
  unfold Tn.wh Tn.ww
  have e:t.wy.getD i (0,0)=t.wy.getD i wz:=rfl
  rw[e];omega⟩
def cmpI(x y:Int):Int:=if x<y then -1 else if y<x then 1 else 0
theorem upto_st{q:Nat->Prop}{k:Nat}(hs:∀i,i<k->q i)(h:q k):∀i,i<k+1->q i:=fun i hi=>by
 by_cases e:i=k
 ·subst e;exact h
 ·exact hs i om
theorem getD_at{α:Type}{l:List α}{i:Nat}{d:α}(h:i<l.length):l.getD i d=l[i]:=by
 rw[List.getD_eq_getElem?_getD,List.getElem?_eq_getElem h];rfl
def idxA{α:Type}(q:α->Bool):List α->Int
 |[]=>-1
 |d::ds=>if q d=true then 0 else if idxA q ds<0 then -1 else idxA q ds+1
theorem idxA_none{α:Type}{q:α->Bool}{z:α}:∀{ds:List α},(∀i,i<ds.length->q (ds.getD i z)=false)->idxA q ds= -1
 |[],_=>rfl
 |d::ds,h=>by
   have h0:q d=false:=h 0 (by simp)
   have:=idxA_none (ds:=ds) fun i hi=>h (i+1) (by simp;omega)
   simp only[idxA,h0,this];simp
theorem idxA_some{α:Type}{q:α->Bool}{z:α}:∀{ds:List α}{k:Nat},k<ds.length->q (ds.getD k z)=true->(∀i,i<k->q (ds.getD i z)=false)->idxA q ds=k
 |[],_,h,_,_=>by simp at h
 |d::ds,0,_,h,_=>by
   have h0:q d=true:=h
   simp[idxA,h0]
 |d::ds,k+1,hk,h,hs=>by
   have h0:q d=false:=hs 0 om
   have:=idxA_some (ds:=ds) (k:=k) (by simp at hk;omega) h fun i hi=>hs (i+1) om
   simp only[idxA,h0,this]
   rw[if_neg (by simp),if_neg om];omega
theorem idxA_iff{α:Type}{q:α->Bool}:∀{ds:List α},0<=idxA q ds<-> ∃t∈ds,q t=true
 |[]=>by simp[idxA]
 |d::ds=>by
   have ih:=idxA_iff (q:=q) (ds:=ds)
   rw[idxA]
   by_cases h:q d=true
   ·rw[if_pos h];exact⟨fun _=>⟨d,List.mem_cons_self ..,h⟩,fun _=>Int.le_refl _⟩
   ·rw[if_neg h]
    by_cases c:idxA q ds<0
    ·rw[if_pos c]
     refine⟨fun z=>absurd z om,fun⟨t,ht,hq⟩=>?_⟩
     rcases List.mem_cons.1 ht with rfl|ht
     ·exact absurd hq h
     ·have:=ih.2 ⟨t,ht,hq⟩;omega
    ·rw[if_neg c]
     refine⟨fun _=>?_,fun _=>om⟩
     obtain⟨t,ht,hq⟩:=ih.1 om
     exact⟨t,List.mem_cons_of_mem _ ht,hq⟩
def orI:List Int->Int
 |[]=>0
 |x::l=>if x=0 then orI l else x
theorem ypf:∀{k:Nat}{xs:List Int},k<xs.length->(∀i,i<k->xs.getD i 0=0)-> ¬ xs.getD k 0=0->orI xs=xs.getD k 0
 |_,[],h,_,_=>by simp at h
 |0,x::xs,_,_,n=>by
   have n:¬ x=0:=n
   rw[orI,if_neg n];rfl
 |k+1,x::xs,h,hs,n=>by
   have e:x=0:=hs 0 om
   rw[orI,if_pos e];exact ypf (k:=k) (by simp at h;omega) (fun i hi=>hs (i+1) om) n
theorem ywx:∀{xs:List Int},(∀i,i<xs.length->xs.getD i 0=0)->orI xs=0
 |[],_=>rfl
 |x::xs,hs=>by
   have e:x=0:=hs 0 (by simp)
   rw[orI,if_pos e];exact ywx fun i hi=>hs (i+1) (by simp;omega)
def ordW(a b c d:Int):Int:=orI [cmpI a c,cmpI b d]
theorem yfb{x y:FWay}:0<=ordW x.1 x.2 y.1 y.2<-> ¬ Bf x y:=by
 unfold ordW Bf
 simp only[orI,cmpI]
 (repeat' split)<;>omega
def badN(hi:Int)(n:Int):Bool:=! decide (0<=n/\n<=hi)
theorem xt6{hi:Int}{xs:List Int}(h:¬ 0<=idxA (badN hi) xs):∀i,i<xs.length->0<=xs.getD i 0/\xs.getD i 0<=hi:=fun i hi'=>by
 have:=fun z=>h (idxA_iff.2 ⟨xs.getD i 0,by rw[getD_at hi'];exact List.getElem_mem hi',z⟩)
 by_cases c:0<=xs.getD i 0/\xs.getD i 0<=hi
 ·exact c
 ·exact absurd (by unfold badN;rw[decide_eq_false c];rfl) this
theorem yfv{hi:Int}{xs:List Int}(h:0<=idxA (badN hi) xs):¬ ∀i,i<xs.length->0<=xs.getD i 0/\xs.getD i 0<=hi:=fun z=>by
 obtain⟨t,ht,hq⟩:=idxA_iff.1 h
 obtain⟨i,hi',e⟩:=List.mem_iff_getElem.1 ht
 have:=z i hi'
 rw[getD_at hi',e]at this
 unfold badN at hq
 simp only[Bool.not_eq_true',decide_eq_false_iff_not]at hq
 omega
noncomputable instance(t:Tn):Decidable (Vd t):=Classical.propDecidable _
def ics(xs:List Int):List (List Value):=xs.map fun x=>[.int .i64 x]
theorem xkq(xs:List Int):(ics xs).length=xs.length:=by simp[ics]
theorem ics_at{xs:List Int}{j:Nat}(h:j<xs.length):(ics xs)[j]?=some [.int .i64 (xs.getD j 0)]:=by
 rw[ics,List.getElem?_map,List.getD_eq_getElem?_getD,List.getElem?_eq_getElem h];rfl
theorem ics_set{xs:List Int}{j:Nat}{z:Int}:(ics xs).set j [.int .i64 z]=ics (xs.set j z):=by
 simp[ics,List.map_set]
theorem yxb(xs:List Int)(z:Int):ics xs++[[.int .i64 z]]=ics (xs++[z]):=by simp[ics]
def leftK(vs:List Int)(g:Nat->Nat)(d:List Int)(k:Nat):List Int:=(List.range vs.length).map fun h=>vs.getD h 0-sm k fun i=>if g i=h then dv d i else 0
theorem xxx{vs g d k}:(leftK vs g d k).length=vs.length:=by simp[leftK]
theorem xzk{vs g d k h}(hh:h<vs.length):(leftK vs g d k).getD h 0=vs.getD h 0-sm k fun i=>if g i=h then dv d i else 0:=by
 rw[leftK,List.getD_eq_getElem?_getD,List.getElem?_map,List.getElem?_range hh];rfl
theorem xsf{a b:List Int}(hl:a.length=b.length)(h:∀i,i<a.length->a.getD i 0=b.getD i 0):a=b:=by
 refine List.ext_getElem hl fun i h1 h2=>?_
 have:=h i h1
 rwa[getD_at h1,getD_at h2]at this
theorem xgp{vs g d}:leftK vs g d 0=vs:=xsf xxx fun i hi=>by
 rw[xxx]at hi;rw[xzk hi];simp[sm]
theorem xhs{xs:List Int}{i j:Nat}{z:Int}(hi:i<xs.length):(xs.set i z).getD j 0=if i=j then z else xs.getD j 0:=yyf hi j
theorem xy7{vs:List Int}{g:Nat->Nat}{d:List Int}{k:Nat}(hg:g k<vs.length):(leftK vs g d k).set (g k) ((leftK vs g d k).getD (g k) 0-dv d k)=leftK vs g d (k+1):=by
 refine xsf (by rw[List.length_set,xxx,xxx]) fun i hi=>?_
 rw[List.length_set,xxx]at hi
 rw[xhs (by rw[xxx];exact hg),xzk hi,xzk hi,xzk hg]
 simp only[sm]
 by_cases e:g k=i
 ·rw[if_pos e,if_pos e,e];omega
 ·rw[if_neg e,if_neg e];omega
theorem xkm{g:Nat->Nat}{d:List Int}{k h:Nat}(hd:∀i,i<k->0<=dv d i/\dv d i<=20):0<=(sm k fun i=>if g i=h then dv d i else 0)/\(sm k fun i=>if g i=h then dv d i else 0)<=20*k:=by
 induction k with
 |zero=>exact⟨Int.le_refl _,Int.le_refl _⟩
 |succ k ih=>
   have:=ih fun i hi=>hd i om
   have:=hd k om
   simp only[sm];split<;>omega
def hasL(t:Tn)(d:List Int):List Int:=(List.range t.nW).map (has t d)
end Go.X.Flow
namespace Go.X.Flow
open Go.X Go.X.Bf
def arcC(x:Arc):List Value:=[.int .i64 ((x.fr:Nat):Int),.int .i64 ((x.to:Nat):Int),.int .i64 x.cost,.int .i64 x.way,.int .i64 x.more]
def arcV(x:Arc):Value:=.agg (arcC x).toArray
theorem xxg{a b c w m:Int}{x:Arc}(h1:a=x.fr)(h2:b=x.to)(h3:c=x.cost)(h4:w=x.way)(h5:m=x.more):
 Value.agg #[.int .i64 a,.int .i64 b,.int .i64 c,.int .i64 w,.int .i64 m]=arcV x:=by subst h1;subst h2;subst h3;subst h4;subst h5;rfl
def acs(l:List Arc):List (List Value):=l.map arcC
theorem xav(l:List Arc):(acs l).length=l.length:=by simp[acs]
theorem ytd(l:List Arc)(x:Arc):acs l++[arcC x]=acs (l++[x]):=by simp[acs]
theorem yin{l:List Arc}{i:Nat}{x:Arc}:(acs l).set i (arcC x)=acs (l.set i x):=by simp[acs,List.map_set]
theorem yhg{l:List Arc}{i:Nat}(h:i<l.length):(acs l)[i]?=some (arcC (l.getD i a0)):=by
 rw[acs,List.getElem?_map,List.getD_eq_getElem?_getD,List.getElem?_eq_getElem h];rfl
section
variable{p p':PHeap}{a:Option Addr}{n k:Nat}{l:List Arc}
def Arcs(p:PHeap)(a:Option Addr)(n:Nat)(l:List Arc):Prop:=Sl p a n 5 (acs l)
theorem Arcs.len(s:Arcs p a n l):l.length=n:=by have:=Sl.len s;simpa[acs]using this
theorem Arcs.at(s:Arcs p a n l)(hk:k<n){j:Nat}{v:Value}(hv:(arcC (l.getD k a0))[j]?=some v):pcell p (((adr a).add (k*5)).add j)=some v:=by
 have hl:=s.len
 exact Sl.get s k (arcC (l.getD k a0)) (yhg om) j v hv
theorem Arcs.all(s:Arcs p a n l)(hk:k<n):∀j v,(arcC (l.getD k a0))[j]?=some v->pcell p (((adr a).add (k*5)).add j)=some v:=fun _ _ hv=>s.at hk hv
end
structure OkT(t:Tn):Prop extends Ok t where
 yp:∀i,i<t.m->0<=(t.wy.getD i wz).1/\0<=(t.wy.getD i wz).2
section
variable{p:PHeap}{a:Option Addr}{n k:Nat}{t:Tn}{d:List Int}
theorem Wys.allN(s:Wys p a n t.wy)(hk:k<n)(h0:0<=(t.wy.getD k wz).1/\0<=(t.wy.getD k wz).2):∀j v,[Value.int .i64 ((t.wh k:Nat):Int),.int .i64 ((t.ww k:Nat):Int)][j]?=some v->pcell p (((adr a).add (k*2)).add j)=some v:=fun j v hv=>by
 rw[show((t.wh k:Nat):Int)=(t.wy.getD k wz).1 from Int.toNat_of_nonneg h0.1,show((t.ww k:Nat):Int)=(t.wy.getD k wz).2 from Int.toNat_of_nonneg h0.2]at hv
 exact s.all hk j v hv
theorem yvb{h:Nat}(hh:h<t.nH):(lackL t d).getD h 0=lack t d h:=by rw[lackL,List.getD_eq_getElem?_getD];simp[hh]
theorem ykl{x:Nat}(hx:x<t.nW):(hasL t d).getD x 0=has t d x:=by rw[hasL,List.getD_eq_getElem?_getD];simp[hx]
theorem xwb:(lackL t d).length=t.nH:=by simp[lackL]
theorem xdl:(hasL t d).length=t.nW:=by simp[hasL]
end
theorem xm5{t:Tn}{d:List Int}{h:Nat}(hh:h<t.nH):(ics (lackL t d))[h]?=some [.int .i64 (lack t d h)]:=by
 rw[ics_at (by rw[xwb];exact hh),yvb hh]
theorem ybj{t:Tn}{d:List Int}{x:Nat}(hx:x<t.nW):(ics (hasL t d))[x]?=some [.int .i64 (has t d x)]:=by
 rw[ics_at (by rw[xdl];exact hx),ykl hx]
section
variable(t:Tn)(w:Wi)(d:List Int)
def outW(k:Nat):List Arc:=(List.range k).flatMap (arcsW t w d)
def outH(k:Nat):List Arc:=outW t w d t.nW++(List.range k).flatMap (arcsH t w d)
def outY(k:Nat):List Arc:=outH t w d t.nH++(List.range k).flatMap (arcsY t d)
end
section
variable{t:Tn}{w:Wi}{d:List Int}{k:Nat}
theorem xlv:outW t w d (k+1)=outW t w d k++arcsW t w d k:=by simp[outW,List.range_succ]
theorem xmv:outH t w d (k+1)=outH t w d k++arcsH t w d k:=by simp[outH,List.range_succ]
theorem xif:outY t w d (k+1)=outY t w d k++arcsY t d k:=by simp[outY,List.range_succ]
theorem yux:outH t w d 0=outW t w d t.nW:=by simp[outH]
theorem ytx:outY t w d 0=outH t w d t.nH:=by simp[outY]
theorem ydl:outY t w d t.m=arcsL t w d:=by simp[outY,outH,outW,arcsL]
variable{l:List Arc}{x y:Arc}
theorem W_tt(c1:0<has t d k)(c2:has t d k<t.wv k):(outW t w d k++[⟨t.sp,k,-bw w k,-1,0⟩])++[⟨k,t.sp,bw w k,-1,0⟩]=outW t w d (k+1):=by rw[xlv,arcsW,if_pos c1,if_pos c2,List.append_assoc]
theorem W_tf(c1:0<has t d k)(c2:¬ has t d k<t.wv k):outW t w d k++[⟨t.sp,k,-bw w k,-1,0⟩]=outW t w d (k+1):=by rw[xlv,arcsW,if_pos c1,if_neg c2,List.append_nil]
theorem W_ft(c1:¬ 0<has t d k)(c2:has t d k<t.wv k):outW t w d k++[⟨k,t.sp,bw w k,-1,0⟩]=outW t w d (k+1):=by rw[xlv,arcsW,if_neg c1,if_pos c2,List.nil_append]
theorem W_ff(c1:¬ 0<has t d k)(c2:¬ has t d k<t.wv k):outW t w d k=outW t w d (k+1):=by rw[xlv,arcsW,if_neg c1,if_neg c2];simp
theorem H_tt(c1:0<lack t d k)(c2:lack t d k<t.hv k):(outH t w d k++[⟨t.nW+k,t.si,dear ((lack t d k).toNat-1)-dear (lack t d k).toNat-bh w k,-1,0⟩])++[⟨t.si,t.nW+k,dear ((lack t d k).toNat+1)-dear (lack t d k).toNat+bh w k,-1,0⟩]=outH t w d (k+1):=by
 rw[xmv,arcsH,if_pos c1,if_pos c2,List.append_assoc]
theorem H_tf(c1:0<lack t d k)(c2:¬ lack t d k<t.hv k):outH t w d k++[⟨t.nW+k,t.si,dear ((lack t d k).toNat-1)-dear (lack t d k).toNat-bh w k,-1,0⟩]=outH t w d (k+1):=by rw[xmv,arcsH,if_pos c1,if_neg c2,List.append_nil]
theorem H_ft(c1:¬ 0<lack t d k)(c2:lack t d k<t.hv k):outH t w d k++[⟨t.si,t.nW+k,dear ((lack t d k).toNat+1)-dear (lack t d k).toNat+bh w k,-1,0⟩]=outH t w d (k+1):=by rw[xmv,arcsH,if_neg c1,if_pos c2,List.nil_append]
theorem H_ff(c1:¬ 0<lack t d k)(c2:¬ lack t d k<t.hv k):outH t w d k=outH t w d (k+1):=by rw[xmv,arcsH,if_neg c1,if_neg c2];simp
theorem Y_t(c:0<dv d k):(outY t w d k++[⟨t.ww k,t.nW+t.wh k,0,k,1⟩])++[⟨t.nW+t.wh k,t.ww k,0,k,-1⟩]=outY t w d (k+1):=by rw[xif,arcsY,if_pos c,List.append_assoc];rfl
theorem Y_f(c:¬ 0<dv d k):outY t w d k++[⟨t.ww k,t.nW+t.wh k,0,k,1⟩]=outY t w d (k+1):=by rw[xif,arcsY,if_neg c]
end
theorem xls(f:Nat->List Arc){k n:Nat}(h:k<=n):(List.range k).flatMap f <+: (List.range n).flatMap f:=by
 obtain⟨j,rfl⟩:=Nat.exists_eq_add_of_le h
 rw[List.range_add,List.flatMap_append]
 exact⟨_,rfl⟩
section
variable{t:Tn}{w:Wi}{d:List Int}{k:Nat}
theorem xwr(h:k<=t.nW):outW t w d k <+: arcsL t w d:=(xls _ h).trans ⟨_,rfl⟩
theorem xxr(h:k<=t.nH):outH t w d k <+: arcsL t w d:=by
 rw[arcsL,outH,outW,<- List.append_assoc]
 obtain⟨z,hz⟩:=xls (arcsH t w d) h
 exact⟨z++(List.range t.m).flatMap (arcsY t d),by rw[<- hz];simp only[List.append_assoc]⟩
theorem xw4(h:k<=t.m):outY t w d k <+: arcsL t w d:=by
 rw[arcsL,outY,outH,outW,<- List.append_assoc]
 obtain⟨z,hz⟩:=xls (arcsY t d) h
 exact⟨z,by rw[<- hz];simp only[List.append_assoc]⟩
theorem xuv{o l E:List Arc}{x:Arc}{r:List Arc}(h:o++(l++x::r) <+: E):(o++l)++[x] <+: E:=by
 refine List.IsPrefix.trans ⟨r,?_⟩ h
 simp only[List.append_assoc,List.singleton_append]
theorem yfr(h:k<t.nW)(c1:0<has t d k):outW t w d k++[⟨t.sp,k,-bw w k,-1,0⟩] <+: arcsL t w d:=by
 have:=xwr (w:=w) (d:=d) (show k+1<=t.nW from h)
 rw[xlv,arcsW,if_pos c1]at this
 exact List.append_nil (outW t w d k) ▸ xuv (l:=[]) this
theorem yer(h:k<t.nW)(c1:0<has t d k)(c2:has t d k<t.wv k):(outW t w d k++[⟨t.sp,k,-bw w k,-1,0⟩])++[⟨k,t.sp,bw w k,-1,0⟩] <+: arcsL t w d:=by
 have:=xwr (w:=w) (d:=d) (show k+1<=t.nW from h)
 rw[xlv,arcsW,if_pos c1,if_pos c2]at this
 exact xuv this
theorem ydr(h:k<t.nW)(c1:¬ 0<has t d k)(c2:has t d k<t.wv k):outW t w d k++[⟨k,t.sp,bw w k,-1,0⟩] <+: arcsL t w d:=by
 have:=xwr (w:=w) (d:=d) (show k+1<=t.nW from h)
 rw[xlv,arcsW,if_neg c1,if_pos c2]at this
 exact List.append_nil (outW t w d k) ▸ xuv (l:=[]) this
theorem yir(h:k<t.nH)(c1:0<lack t d k):outH t w d k++[⟨t.nW+k,t.si,dear ((lack t d k).toNat-1)-dear (lack t d k).toNat-bh w k,-1,0⟩] <+: arcsL t w d:=by
 have:=xxr (w:=w) (d:=d) (show k+1<=t.nH from h)
 rw[xmv,arcsH,if_pos c1]at this
 exact List.append_nil (outH t w d k) ▸ xuv (l:=[]) this
theorem yhr(h:k<t.nH)(c1:0<lack t d k)(c2:lack t d k<t.hv k):(outH t w d k++[⟨t.nW+k,t.si,dear ((lack t d k).toNat-1)-dear (lack t d k).toNat-bh w k,-1,0⟩])++[⟨t.si,t.nW+k,dear ((lack t d k).toNat+1)-dear (lack t d k).toNat+bh w k,-1,0⟩] <+: arcsL t w d:=by
 have:=xxr (w:=w) (d:=d) (show k+1<=t.nH from h)
 rw[xmv,arcsH,if_pos c1,if_pos c2]at this
 exact xuv this
theorem ygr(h:k<t.nH)(c1:¬ 0<lack t d k)(c2:lack t d k<t.hv k):outH t w d k++[⟨t.si,t.nW+k,dear ((lack t d k).toNat+1)-dear (lack t d k).toNat+bh w k,-1,0⟩] <+: arcsL t w d:=by
 have:=xxr (w:=w) (d:=d) (show k+1<=t.nH from h)
 rw[xmv,arcsH,if_neg c1,if_pos c2]at this
 exact List.append_nil (outH t w d k) ▸ xuv (l:=[]) this
theorem ycr(h:k<t.m):outY t w d k++[⟨t.ww k,t.nW+t.wh k,0,k,1⟩] <+: arcsL t w d:=by
 have:=xw4 (w:=w) (d:=d) (show k+1<=t.m from h)
 rw[xif,arcsY]at this
 exact List.append_nil (outY t w d k) ▸ xuv (l:=[]) this
theorem ybr(h:k<t.m)(c:0<dv d k):(outY t w d k++[⟨t.ww k,t.nW+t.wh k,0,k,1⟩])++[⟨t.nW+t.wh k,t.ww k,0,k,-1⟩] <+: arcsL t w d:=by
 have:=xw4 (w:=w) (d:=d) (show k+1<=t.m from h)
 rw[xif,arcsY,if_pos c]at this
 exact xuv (l:=[_]) this
end
theorem xts{x:Nat}(h:x<=10):0<=dear x/\dear x<=282475249000:=by
 have h1:=xvz x;have h2:=xmw h;have h3:dear 10=282475249000:=by decide
 omega
theorem xqf:far=1152921504606846976:=by decide
theorem yws{s:Lab}{i:Nat}(h:i<s.c.length):s.c.getD i 0=L s i:=by
 rw[L,List.getD_eq_getElem?_getD,List.getD_eq_getElem?_getD,List.getElem?_eq_getElem h];rfl
theorem xlh{s:Lab}{i:Nat}(h:i<s.c.length):(ics s.c)[i]?=some [.int .i64 (L s i)]:=by rw[ics_at h,yws h]
theorem xe3{s:Lab}{i:Nat}(h:i<s.b.length):(acs s.b)[i]?=some (arcC (Bf.B s i)):=yhg h
section
variable{E out:List Arc}{N sp j:Nat}
theorem lenc:((out.foldl rel (sweeps E j (lab0 N sp))).c).length=N:=by rw[xnf.1,(xtj j).1];simp[lab0]
theorem lenb:((out.foldl rel (sweeps E j (lab0 N sp))).b).length=N:=by rw[xnf.2,(xtj j).2];simp[lab0]
theorem ynt:((sweeps E j (lab0 N sp)).c).length=N:=by rw[(xtj j).1];simp[lab0]
theorem yot:((sweeps E j (lab0 N sp)).b).length=N:=by rw[(xtj j).2];simp[lab0]
end
theorem yex{s:Lab}{a:Arc}(h1:L s a.fr<1152921504606846976)(h2:L s a.fr+a.cost<L s a.to):rel s a=⟨s.c.set a.to (L s a.fr+a.cost),s.b.set a.to a⟩:=by
 rw[rel,if_pos ⟨by rw[xqf];exact h1,h2⟩]
theorem yvh{s:Lab}{a:Arc}(h1:¬ L s a.fr<1152921504606846976):rel s a=s:=by rw[rel,if_neg (fun e=>h1 (by have:=e.1;rw[xqf]at this;exact this))]
theorem yuh{s:Lab}{a:Arc}(h2:¬ L s a.fr+a.cost<L s a.to):rel s a=s:=by rw[rel,if_neg (fun e=>h2 e.2)]
theorem yej{out:List Arc}{x:Arc}{s:Lab}:(out++[x]).foldl rel s=rel (out.foldl rel s) x:=by simp
theorem ydx(n:Nat):List.replicate n [Value.int .i64 0]=ics (List.replicate n 0):=by simp[ics]
theorem yth(n:Nat):List.replicate n [Value.int .i64 0,.int .i64 0,.int .i64 0,.int .i64 0,.int .i64 0]=acs (List.replicate n a0):=by simp[acs,arcC,a0]
def fillK(k n:Nat):List Int:=List.replicate k far++List.replicate (n-k) 0
theorem xpf{k n:Nat}(h:k<=n):(fillK k n).length=n:=by simp[fillK];omega
theorem xj8{k n:Nat}(h:k<n):(fillK k n).set k 1152921504606846976=fillK (k+1) n:=by
 unfold fillK
 rw[List.set_append_right _ _ (by simp),List.length_replicate,Nat.sub_self]
 obtain⟨j,hj⟩:∃j,n-k=j+1:=⟨n-k-1,om⟩
 rw[hj,List.replicate_succ,List.set_cons_zero,show n-(k+1)=j from by omega,List.replicate_succ',List.append_assoc,xqf];rfl
theorem yij(n:Nat):fillK n n=List.replicate n far:=by simp[fillK]
def LabB(s:Lab)(k:Nat):Prop:=∀v,L s v<1152921504606846976-> -(40353607001*(k:Int))<=L s v/\L s v<=40353607001*(k:Int)
theorem LabB.mono{s k k'}(h:LabB s k)(hk:k<=k'):LabB s k':=fun v hv=>by have:=h v hv;omega
theorem LabB.step{s:Lab}{a:Arc}{k}(h:LabB s k)(ht:a.to<s.c.length)(hc: -cC<=a.cost/\a.cost<=cC):LabB (rel s a) (k+1):=fun v hv=>by
 have e:cC=40353607001:=by decide
 have:=yfx (s:=s) (a:=a) (K:=40353607001*(k:Int)) (C:=cC) ht hc (fun v hv=>h v (by rw[xqf]at hv;exact hv)) v (by rw[xqf];exact hv)
 rw[e]at this;omega
theorem LabB.start{N sp:Nat}:LabB (lab0 N sp) 0:=fun v hv=>by
 unfold L lab0 at hv⊢
 simp only[List.getD_eq_getElem?_getD,List.getElem?_set,List.getElem?_replicate]at hv⊢
 have hf:=xqf
 by_cases e:sp=v
 ·subst e
  by_cases h:sp<N
  ·simp[h]
  ·simp only[List.length_replicate,h,if_true,if_false,Option.getD_none]at hv;omega
 ·simp only[e,if_false]at hv
  by_cases h:v<N
  ·simp only[h,if_true,Option.getD_some]at hv;omega
  ·simp only[h,if_false,Option.getD_none]at hv;omega
theorem xof{f:Nat->List Arc}(h:∀i,(f i).length<=2):∀n,((List.range n).flatMap f).length<=2*n
 |0=>by simp
 |n+1=>by
   rw[List.range_succ,List.flatMap_append,List.length_append,List.flatMap_singleton]
   have:=xof h n;have:=h n;omega
theorem xv6{t:Tn}{w d}(O:Ok t):(arcsL t w d).length<=48:=by
 have h1:=xof (f:=arcsW t w d) (fun i=>by unfold arcsW;split<;>split<;>simp) t.nW
 have h2:=xof (f:=arcsH t w d) (fun i=>by unfold arcsH;split<;>split<;>simp) t.nH
 have h3:=xof (f:=arcsY t d) (fun i=>by unfold arcsY;split<;>simp) t.m
 have:=O.nh;have:=O.nw;have:=O.nm
 rw[arcsL,List.length_append,List.length_append];omega
theorem Chain.cases'{s:Lab}{sp v:Nat}{r:List Arc}(C:Chain s sp v r)(h:v≠sp):∃r',r=Bf.B s v::r'/\Chain s sp (Bf.B s v).fr r':=by
 cases C with
 |nil=>exact absurd rfl h
 |cons _ C=>exact⟨_,rfl,C⟩
theorem Chain.nil'{s:Lab}{sp v:Nat}{r:List Arc}(C:Chain s sp v r)(h:v=sp):r=[]:=by
 cases C with
 |nil=>rfl
 |cons ne _=>exact absurd h ne
section
variable{t:Tn}{w:Wi}{d:List Int}
theorem ycn:((bf t w d).c).length=t.nW+t.nH+2:=ynt
theorem ydn:((bf t w d).b).length=t.nW+t.nH+2:=yot
theorem xu4(O:Ok t)(S:Sg w)(G:Good t w d):(pathL t w d).length<=13:=by
 by_cases h:costL t w d<far
 ·obtain⟨h1,_,h3,h4⟩:=(G.find O S).way h
  have:=xjf (N:=nN t) h3 (fun x hx=>by
   rcases List.mem_cons.1 hx with rfl|hx
   ·simp only[Tn.sp,nN];omega
   ·obtain⟨a,ha,rfl⟩:=List.mem_map.1 hx
    exact(xqc O.y a (h4 a ha).1).2)
  have:=O.nh;have:=O.nw
  simp only[List.length_cons,List.length_map,nN]at *;omega
 ·rw[pathL,if_neg h];simp
end
theorem ykv{t:Tn}{w:Wi}{d:List Int}{a:Arc}(h:a∈arcsL t w d):a.way<(t.m:Int)/\ -1<=a.more/\a.more<=1:=by
 cases xoj.1 h with
 |k1=>simp;omega
 |k2=>simp;omega
 |k3=>simp;omega
 |k4=>simp;omega
 |k5 hi=>simp;omega
 |k6 hi _=>simp;omega
def augK(d:List Int)(p:List Arc)(k:Nat):List Int:=aug d (p.take k)
theorem augK_len{d p k}:(augK d p k).length=d.length:=aug_len
theorem xa1{d p}:augK d p 0=d:=by simp[augK,aug]
theorem ypd{d:List Int}{p:List Arc}{k:Nat}(h:k=p.length):augK d p k=aug d p:=by rw[augK,h,List.take_length]
theorem xbn{d:List Int}{p:List Arc}{k:Nat}(h:k<p.length):augK d p (k+1)=if 0<=(p.getD k a0).way then(augK d p k).set (p.getD k a0).way.toNat (dv (augK d p k) (p.getD k a0).way.toNat+(p.getD k a0).more)else augK d p k:=by
 have e:p.getD k a0=p[k]:=by rw[List.getD_eq_getElem?_getD,List.getElem?_eq_getElem h];rfl
 rw[augK,List.take_succ_eq_append_getElem h,aug,List.foldl_append,e];rfl
theorem yod{d:List Int}{p:List Arc}{k:Nat}(h:k<p.length)(c:0<=(p.getD k a0).way):(augK d p k).set (p.getD k a0).way.toNat ((augK d p k).getD (p.getD k a0).way.toNat 0+(p.getD k a0).more)=augK d p (k+1):=by
 rw[xbn h,if_pos c];rfl
theorem yfn{d:List Int}{p:List Arc}{k:Nat}(h:k<p.length)(c:¬ 0<=(p.getD k a0).way):augK d p k=augK d p (k+1):=by rw[xbn h,if_neg c]
theorem xis{p:List Arc}{k:Nat}(h:k<p.length):p.getD k a0∈p:=by
 rw[List.getD_eq_getElem?_getD,List.getElem?_eq_getElem h];exact List.getElem_mem h
theorem yiv{d:List Int}{p:List Arc}(hp:∀a∈p,-1<=a.more/\a.more<=1)(hd:∀i,0<=dv d i/\dv d i<=9):∀k,k<=p.length-> ∀i,-(k:Int)<=(augK d p k).getD i 0/\(augK d p k).getD i 0<=9+k
 |0,_,i=>by rw[xa1];have:=hd i;unfold dv at this;omega
 |k+1,hk,i=>by
   have ih:=yiv hp hd k om
   have hm:=hp _ (xis (show k<p.length by omega))
   rw[xbn om]
   split
   ·rw[List.getD_eq_getElem?_getD,List.getElem?_set]
    split
    ·rename_i e
     split
     ·rename_i h2
      have h3:=ih (p.getD k a0).way.toNat
      simp only[Option.getD_some];unfold dv;omega
     ·simp;omega
    ·have:=ih i;rw[List.getD_eq_getElem?_getD]at this;omega
   ·have:=ih i;omega
theorem yis{t:Tn}{d:List Int}(D:Div t d)(h:∀i,i<t.m->0<=dv d i/\dv d i<=9)(i:Nat):0<=dv d i/\dv d i<=9:=by
 by_cases c:i<t.m
 ·exact h i c
 ·have:=D.len
  unfold dv;rw[List.getD_eq_getElem?_getD,List.getElem?_eq_none om];simp
theorem xl8{t w n d}(h:0<=costL t w d):fairF t w (n+1) d=d:=by rw[fairF,if_pos h]
theorem ygc{t w n d}(h:¬ 0<=costL t w d):fairF t w (n+1) d=fairF t w n (aug d (pathL t w d)):=by rw[fairF,if_neg h]
theorem ylj{t:Tn}{w:Wi}{d:List Int}{n:Nat}(O:Ok t)(S:Sg w)(G:Good t w d)(h:¬ 0<=costL t w d)(hn:sm t.nH t.hv-tot t d<(n:Int)+1)(hF:fairF t w (n+1) d=fairP t w):
 ∃n',n=n'+1/\Good t w (aug d (pathL t w d))/\sm t.nH t.hv-tot t (aug d (pathL t w d))<(n':Int)+1/\fairF t w (n'+1) (aug d (pathL t w d))=fairP t w:=by
 obtain⟨G',lt⟩:=G.next O S om
 have:=yxd O G'.div
 obtain⟨n',rfl⟩:∃n',n=n'+1:=⟨n-1,om⟩
 refine⟨n',rfl,G',om,?_⟩
 rw[<- hF,ygc h]
theorem xk8{t:Tn}(O:Ok t):sm t.nH t.hv-tot t (List.replicate t.m 0)<((sm t.nH t.hv).toNat:Int)+1:=by
 have h0:tot t (List.replicate t.m 0)=0:=by
  unfold tot
  refine(xnj (g:=fun _=>0) fun i hi=>?_).trans (xrw t.m)
  unfold dv;rw[List.getD_eq_getElem?_getD,List.getElem?_replicate,if_pos hi];rfl
 have h1:0<=sm t.nH t.hv:=xpb fun i hi=>(O.h i hi).1
 rw[h0];omega
theorem TownP.mono{p p':PHeap}{a1 a2 a3:Option Addr}{n1 n2 n3:Nat}{t:Tn}(T:TownP p a1 n1 a2 n2 a3 n3 t)(le:PLe p p'):TownP p' a1 n1 a2 n2 a3 n3 t:=⟨T.h.mono le,T.w.mono le,T.y.mono le⟩
theorem ymj(t:Tn)(wi:Wi):(fairP t wi).length=t.m:=by
 have:∀n d,(fairF t wi n d).length=d.length:=by
  intro n
  induction n with
  |zero=>intro d;rfl
  |succ n ih=>
    intro d
    rw[fairF]
    split
    ·rfl
    ·rw[ih,aug_len]
 rw[fairP,this];simp
end Go.X.Flow
namespace Go.X.Flow
open Go.X Go.X.Bf Go.Conc
theorem Vd.okT{t:Tn}(v:Vd t)(hm:t.m<=13):OkT t:={v.ok hm with yp:=fun i hi=>⟨(v.y i hi).1.1,(v.y i hi).2.1.1⟩}
theorem xgm{t:Tn}(h:chkB t=0):OkT t:=by
 rcases chkB_cases t with⟨_,hm,v⟩|⟨h2,_⟩
 ·exact v.okT om
 ·omega
theorem vd_of{t:Tn}(h:chkB t=0):t.m<=12/\Vd t:=by
 rcases chkB_cases t with⟨_,hm,v⟩|⟨h2,_⟩
 ·exact⟨hm,v⟩
 ·omega
theorem xrf{t:Tn}{w:Wi}(O:OkT t)(S:Sg w):∀i,i<t.m->0<=(fairP t w).getD i 0/\(fairP t w).getD i 0<=9:=fun i hi=>by
 have D:=(xkw O.toOk S).div
 have h1:=O.y i hi
 have h2:dv (fairP t w) i<=draw t (fairP t w) (t.wh i):=by
  have:=xr9 (f:=fun k=>if t.wh k=t.wh i then dv (fairP t w) k else 0) (k:=t.m) (fun k hk=>by have:=D.pos k hk;split<;>omega) hi
  simpa[draw]using this
 have h3:=D.hs _ h1.1;have h4:=O.h _ h1.1;have h5:=D.pos i hi
 unfold dv at *;omega
def mostV(t:Tn):Int:=tot t (fairP t none0)
theorem yxs(t:Tn):(LK t).length=t.nH:=ypz _ _
def drawV(t:Tn)(h:Int)(s:Int):Int:=draw t (fairP t ⟨h,-1,s⟩) h.toNat
def restV(t:Tn)(x:Int)(s:Int):Int:=has t (fairP t ⟨-1,x,s⟩) x.toNat
def dryV(t:Tn)(x:Int):Int:=if restV t x (-1)=0 then 1 else if 0<restV t x 1 then 2 else 3
noncomputable def houseC(t:Tn)(z:Int)(s:Int):Int:=if askB t (decide (0<=z/\z<=(t.nH:Int)-1))=0 then drawV t z s else 0
noncomputable def dryC(t:Tn)(z:Int):Int:=if askB t (decide (0<=z/\z<=(t.nW:Int)-1))=0 then dryV t z else 0
noncomputable def LKc(t:Tn):List Int:=if chkB t=0 then LK t else []
noncomputable def mostC(t:Tn):Int:=if chkB t=0 then mostV t else 0
theorem LKc_yes{t}(h:chkB t=0):LKc t=LK t:=if_pos h
theorem xvp{t:Tn}{b:Bool}(h:askB t b=0):chkB t=0/\b=true:=by
 unfold askB at h
 split at h
 ·rename_i h2;refine⟨h2,?_⟩;cases b<;>simp_all
 ·omega
end Go.X.Flow
namespace Go.X.Flow
open Go.X
def tab64:List Nat:=[0,1,56,2,57,49,28,3,61,58,42,50,38,29,17,4,62,47,59,36,45,43,51,22,53,39,33,30,24,18,12,5,63,55,48,27,60,41,37,16,46,35,44,21,52,32,23,11,54,26,40,15,34,20,31,10,25,14,19,9,13,8,7,6]
def tzF(x:Nat):Nat:=(x &&& (18446744073709551616-x))*285870213051353865%18446744073709551616 / 2^58
def tzN(x:Nat):Nat:=tab64.getD (tzF x) 0
theorem ywd(x:Nat):tzF x<64:=by unfold tzF;omega
theorem yxv(i:Nat):tab64.getD i 0<=63:=by
 by_cases h:i<64
 ·exact(show ∀i,i<64->tab64.getD i 0<=63 by decide) i h
 ·have h2:tab64.length=64:=by decide
  rw[List.getD_eq_getElem?_getD,List.getElem?_eq_none om];simp
def listG:Nat->Nat->List Int
 |0,_=>[]
 |n+1,g=>if g=0 then []else((tzN g:Nat):Int)::listG n (g &&& (g-1))
def LG(g:Nat):List Int:=listG 6 g
theorem xv7{n:Nat}:listG n 0=[]:=by cases n<;>rfl
theorem xw7{n g:Nat}(h:g≠0):listG (n+1) g=((tzN g:Nat):Int)::listG n (g &&& (g-1)):=by rw[listG,if_neg h]
def popL:Nat->Nat->Bool
 |0,g=>g==0
 |n+1,g=>g==0||popL n (g &&& (g-1))
theorem pop6:∀g,g<64->popL 6 g=true:=by decide +kernel
theorem yox{n g:Nat}(h:popL (n+1) g=true)(h0:g≠0):popL n (g &&& (g-1))=true:=by
 simp only[popL,Bool.or_eq_true,beq_iff_eq]at h;exact h.resolve_left h0
theorem ynx{g:Nat}(h:popL 0 g=true):g=0:=by simpa[popL]using h
theorem yys:∀k:Nat,k<=6-> ∀g:Nat,g<2^k->((LG g).all fun z=>decide (0<=z/\z<(k:Int)))=true:=by decide +kernel
theorem yjn{k g:Nat}(hk:k<=6)(hg:g<2^k):∀i,i<(LG g).length->0<=(LG g).getD i 0/\(LG g).getD i 0<k:=fun i hi=>by
 have:=List.all_eq_true.1 (yys k hk g hg) ((LG g).getD i 0) (by rw[List.getD_eq_getElem?_getD,List.getElem?_eq_getElem hi];exact List.getElem_mem hi)
 simpa using this
theorem xf1:∀g,g<64->(LG g).length<=6:=by decide +kernel
def cmpL:List Int->List Int->Int
 |[],[]=>0
 |[],_::_=>-1
 |_::_,[]=>1
 |x::xs,y::ys=>if cmpI x y=0 then cmpL xs ys else cmpI x y
theorem xw0{xs ys:List Int}{k:Nat}(h1:k<xs.length)(h2:k<ys.length):cmpL (xs.drop k) (ys.drop k)=if cmpI (xs.getD k 0) (ys.getD k 0)=0 then cmpL (xs.drop (k+1)) (ys.drop (k+1))else cmpI (xs.getD k 0) (ys.getD k 0):=by
 rw[List.drop_eq_getElem_cons h1,List.drop_eq_getElem_cons h2,cmpL,List.getD_eq_getElem?_getD,List.getD_eq_getElem?_getD,List.getElem?_eq_getElem h1,List.getElem?_eq_getElem h2];rfl
theorem yyk{xs ys:List Int}{k:Nat}(h1:k=xs.length)(h2:k<ys.length):cmpL (xs.drop k) (ys.drop k)= -1:=by
 rw[List.drop_eq_nil_of_le om,List.drop_eq_getElem_cons h2,cmpL]
theorem yxk{xs ys:List Int}{k:Nat}(h1:k<xs.length)(h2:k=ys.length):cmpL (xs.drop k) (ys.drop k)=1:=by
 rw[List.drop_eq_nil_of_le (show ys.length<=k by omega),List.drop_eq_getElem_cons h1,cmpL]
theorem ydd{xs ys:List Int}{k:Nat}(h1:k=xs.length)(h2:k=ys.length):cmpL (xs.drop k) (ys.drop k)=0:=by
 rw[List.drop_eq_nil_of_le (show xs.length<=k by omega),List.drop_eq_nil_of_le (show ys.length<=k by omega),cmpL]
def most(t:Tn)(d:List Int):Int:=min (t.hv (t.wh d.length)-draw t d (t.wh d.length)) (t.wv (t.ww d.length)-give t d (t.ww d.length))
def inc(b:Bool):Int:=if b then 1 else 0
def touch(t:Tn)(X:Nat->Bool)(x:Nat):Bool:=(List.range t.m).any fun i=>t.ww i==x&&X (t.wh i)
def only(t:Tn)(X:Nat->Bool):Tn:=⟨(List.range t.nH).map fun h=>t.hv h*inc (X h),t.ws,t.wy⟩
def shq(g w:Nat)(x:FWay):Bool:=decide (x.2.toNat=w/\g / 2^x.1.toNat &&& 1=1)
def wantG(t:Tn)(g k:Nat):Int:=sm k fun i=>t.hv ((LG g).getD i 0).toNat
def reachG(t:Tn)(g k:Nat):Int:=sm k fun w=>if 0<=idxA (shq g w) t.wy then t.wv w else 0
def shortN(t:Tn)(g:Nat):Int:=wantG t g (LG g).length-reachG t g t.nW
abbrev prec(l b:List Int):Prop:=orI [(l.length:Int)-(b.length:Int),cmpL l b]<0
def shortF(t:Tn):Nat->List Int
 |0=>[]
 |k+1=>if 0<shortN t k/\(shortF t k=[]\/prec (LG k) (shortF t k))then LG k else shortF t k
def shortP(t:Tn):List Int:=shortF t (2^t.nH)
noncomputable def shortC(t:Tn):List Int:=if chkB t=0 then shortP t else []
noncomputable def shortE(t:Tn):Int:=if chkB t=0 then(if shortP t=[]then 3 else 0)else chkB t
theorem xhg{t}(h:chkB t=0):shortC t=shortP t:=if_pos h
theorem xv9{t}(h:¬ chkB t=0):shortC t=[]:=if_neg h
theorem xu9{t}(h:¬ chkB t=0):shortE t=chkB t:=if_neg h
theorem yew{t}(h:chkB t=0)(h2:shortP t=[]):shortE t=3:=by rw[shortE,if_pos h,if_pos h2]
theorem yfw{t}(h:chkB t=0)(h2:¬ shortP t=[]):shortE t=0:=by rw[shortE,if_pos h,if_neg h2]
theorem xic{t k}(h:0<shortN t k)(h2:shortF t k=[]\/prec (LG k) (shortF t k)):shortF t (k+1)=LG k:=if_pos ⟨h,h2⟩
theorem xwn{t k}(h:¬ 0<shortN t k):shortF t (k+1)=shortF t k:=if_neg fun e=>h e.1
theorem xvn{t k}(h:¬ shortF t k=[])(h2:¬ prec (LG k) (shortF t k)):shortF t (k+1)=shortF t k:=if_neg fun e=>e.2.elim h h2
theorem ypv{t:Tn}(O:Ok t){g:Nat}(hg:g<2^t.nH){k:Nat}(hk:k<=(LG g).length):0<=wantG t g k/\wantG t g k<=9*k:=by
 induction k with
 |zero=>simp[wantG,sm]
 |succ k ih=>
   have ih:=ih om
   have hb:=yjn O.nh hg k om
   have:=O.h ((LG g).getD k 0).toNat om
   have e:wantG t g (k+1)=wantG t g k+t.hv ((LG g).getD k 0).toNat:=rfl
   rw[e];omega
theorem xc0{t:Tn}(O:Ok t){g k:Nat}(hk:k<=t.nW):0<=reachG t g k/\reachG t g k<=21*k:=by
 induction k with
 |zero=>simp[reachG,sm]
 |succ k ih=>
   have ih:=ih om
   have:=O.w k om
   have e:reachG t g (k+1)=reachG t g k+(if 0<=idxA (shq g k) t.wy then t.wv k else 0):=rfl
   rw[e];split<;>omega
theorem xq7{t g k}(h:0<=idxA (shq g k) t.wy):reachG t g (k+1)=reachG t g k+t.wv k:=by
 have e:reachG t g (k+1)=reachG t g k+(if 0<=idxA (shq g k) t.wy then t.wv k else 0):=rfl
 rw[e,if_pos h]
theorem yhx{t g k}(h:¬ 0<=idxA (shq g k) t.wy):reachG t g (k+1)=reachG t g k:=by
 have e:reachG t g (k+1)=reachG t g k+(if 0<=idxA (shq g k) t.wy then t.wv k else 0):=rfl
 rw[e,if_neg h];omega
theorem xlt{t:Tn}(O:Ok t){g:Nat}(h:0<shortN t g):LG g≠[]:=fun e=>by
 have h1:wantG t g (LG g).length=0:=by rw[e];rfl
 have h2:=(xc0 O (g:=g) (Nat.le_refl t.nW)).1
 unfold shortN at h;omega
theorem yof{t:Tn}(O:Ok t):2^t.nH<=64:=by
 have h:t.nH<=6:=O.nh
 have:=Nat.pow_le_pow_right (show 0<2 by decide) h
 simpa using this
theorem yat{t:Tn}(O:OkT t){i:Nat}(hi:i<t.m):0<=(t.wy.getD i wz).1/\(t.wy.getD i wz).1<=63/\0<=(t.wy.getD i wz).2:=by
 have h1:=O.yp i hi;have h2:=O.y i hi;have h3:=O.nh
 have e:t.wh i=(t.wy.getD i wz).1.toNat:=rfl
 exact⟨h1.1,om,h1.2⟩
def swp(ys:List Int)(j:Nat):List Int:=(ys.set j (ys.getD (j-1) 0)).set (j-1) (ys.getD j 0)
theorem xr3:∀{j:Nat}{ys:List Int},0<j->j<ys.length->(swp ys j).Perm ys
 |0,_,h,_=>absurd h om
 |1,[],_,h=>by simp at h
 |1,[_],_,h=>by simp at h
 |1,a::b::l,_,_=>by
   have:swp (a::b::l) 1=b::a::l:=rfl
   rw[this];exact .swap ..
 |j+2,[],_,h=>by simp at h
 |j+2,a::l,_,h=>by
   have e:swp (a::l) (j+2)=a::swp l (j+1):=rfl
   rw[e];exact(xr3 (j:=j+1) om (by simp at h;omega)).cons a
theorem xs3{ys:List Int}{j q:Nat}(h0:0<j)(h:j<ys.length):(swp ys j).getD q 0=if q=j-1 then ys.getD j 0 else if q=j then ys.getD (j-1) 0 else ys.getD q 0:=by
 unfold swp
 rw[xhs (by rw[List.length_set];omega),xhs h]
 by_cases c:q=j-1
 ·rw[if_pos c.symm,if_pos c]
 ·rw[if_neg (Ne.symm c),if_neg c]
  by_cases c2:q=j
  ·rw[if_pos c2.symm,if_pos c2]
  ·rw[if_neg (Ne.symm c2),if_neg c2]
def Float(ys:List Int)(i j:Nat):Prop:=∀p q,p<q->q<=i->q≠j->ys.getD q 0<=ys.getD p 0
def SortTo(ys:List Int)(i:Nat):Prop:=∀p q,p<q->q<i->ys.getD q 0<=ys.getD p 0
theorem xq2{ys i}(h:SortTo ys i):Float ys i i:=fun p q a b c=>h p q a om
theorem xf8{ys:List Int}{i j:Nat}(h:Float ys i j)(h0:0<j)(hi:j<=i)(hl:i<ys.length)(lt:ys.getD (j-1) 0<ys.getD j 0):Float (swp ys j) i (j-1):=fun p q a b c=>by
 rw[xs3 h0 om,xs3 h0 om,if_neg c]
 by_cases e:q=j
 ·rw[if_pos e]
  by_cases f:p=j-1
  ·rw[if_pos f];omega
  ·rw[if_neg f,if_neg om];exact h p (j-1) om om om
 ·rw[if_neg e]
  by_cases f:p=j-1
  ·rw[if_pos f];exact h j q om b e
  ·rw[if_neg f]
   by_cases f2:p=j
   ·rw[if_pos f2];exact h (j-1) q om b e
   ·rw[if_neg f2];exact h p q a b e
theorem yfj{ys:List Int}{i j:Nat}(h:Float ys i j)(hi:j<=i)(e:j=0\/ys.getD j 0<=ys.getD (j-1) 0):SortTo ys (i+1):=fun p q a b=>by
 by_cases c:q=j
 ·subst c
  by_cases f:p=q-1
  ·subst f;omega
  ·have:=h p (q-1) om om om;omega
 ·exact h p q a om c
theorem ycw{ys xs:List Int}{i:Nat}(h:SortTo ys i)(hi:ys.length<=i)(p:ys.Perm xs):ys=srt xs:=by
 refine(yon (List.pairwise_iff_getElem.2 fun a b ha hb hab=>?_) p).symm
 have:=h a b hab om
 rwa[getD_at hb,getD_at ha]at this
theorem ypg{ys:List Int}{j k:Nat}(hk:k=j-1):((ics ys).set j [.int .i64 (ys.getD k 0)]).set k [.int .i64 (ys.getD j 0)]=ics (swp ys j):=by
 subst hk;rw[ics_set,ics_set];rfl
theorem ywk{x y:Int}:cmpI y x<0<->y<x:=by unfold cmpI;(repeat' split)<;>omega
end Go.X.Flow
