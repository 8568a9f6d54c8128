/-
  Part of proofs about a town's master: a calculus for Bc beside goroutines that are only leaving, and the Bc. No condition.
-/
import Derived.Test.YtofhlcococeifaaGreatDoorYI
import Derived.Test.YtofhlcococeifaaGreatDoorYF
set_option maxHeartbeats 1600000
set_option maxRecDepth 10000
namespace Go.X
open Go.Conc
variable{i:Nat}{p p':Ab}
structure Rk where
 hr:Int
 pe:Int
 sd:Int
 st:Int
variable{xs:List Rk}
def Rk.cells(r:Rk):List Value:=[.J r.hr,.J r.pe,.J r.sd,.J r.st]
def rz:Rk:=⟨0,0,0,0⟩
def rcs(xs:List Rk):List (List Value):=xs.map Rk.cells
def Rks(p:Ab)(a:Option Addr)(n:Nat)(xs:List Rk):Prop:=Sl p a n 4 (rcs xs)
section
variable{a:Option Addr}{n k:Nat}
theorem Rks.len(s:Rks p a n xs):xs.length=n:=by have:=Sl.len s;simpa[rcs]using this
theorem Rks.mono(H:PLe p p')(s:Rks p a n xs):Rks p' a n xs:=Sl.mono H s
theorem Rks.all(s:Rks p a n xs)(M:k<n):∀j v,[Value.J (xs.getD k rz).hr,.J (xs.getD k rz).pe,.J (xs.getD k rz).sd,.J (xs.getD k rz).st][j]?=some v->Aw p (((adr a).add (k*4)).add j)=some v:=fun j v h=>by
 refine Sl.get s k (xs.getD k rz).cells ?_ j v h;have H:=s.len;rw[rcs,List.getElem?_map,List.getD_eq_getElem?_getD,List.getElem?_eq_getElem om];rfl
end
structure Shf where
 Ah:List Rk
 Af:List Int
 deep:Int
 Cp:Int
 rest:Int
variable{s:Shf}
structure Cy(p:Ab)(a b:Option Addr)(s:Shf):Prop where
 r:Rks p a s.Ah.length s.Ah
 f:Ax p b s.Af.length s.Af
theorem Cy.mono{p p':Ab}{a b:Option Addr}{s:Shf}(h:Cy p a b s)(H:PLe p p'):Cy p' a b s:=⟨h.r.mono H,h.f.mono H⟩
def okR(r:Rk):Prop:=(0<=r.hr/\r.hr<=9)/\(0<=r.pe/\r.pe<=99)/\(0<=r.sd/\r.sd<=12)/\ -1<=r.st/\r.st<=99
instance(r):Decidable (okR r):=by unfold okR;infer_instance
def okF(n:Nat)(x:Int):Prop:=0<=x/\x<=(n:Int)-1
instance(n x):Decidable (okF n x):=by unfold okF;infer_instance
def Shf.ok(s:Shf):Prop:=s.Ah.length<=4/\(∀r∈s.Ah,okR r)/\s.Af.length<=12/\(∀x∈s.Af,okF s.Ah.length x)/\(0<=s.deep/\s.deep<=9)/\(0<=s.Cp/\s.Cp<=9)/\0<=s.rest/\s.rest<=9
instance(s):Decidable (Shf.ok s):=by unfold Shf.ok;infer_instance
def Hx(s:Shf):Int:=if s.ok then 0 else 20
theorem yez:((((((4<(s.Ah.length:Int)\/0<=Flow.Dn (fun r=>!decide (okR r)) s.Ah)\/12<(s.Af.length:Int))\/0<=Flow.Dn (fun x=>!decide (okF s.Ah.length x)) s.Af)\/ ¬(0<=s.deep/\s.deep<=9))\/ ¬(0<=s.Cp/\s.Cp<=9))\/ ¬(0<=s.rest/\s.rest<=9))<-> ¬ s.ok:=by
 rw[Flow.Ea,Flow.Ea];simp only[Bool.not_eq_true',decide_eq_false_iff_not];constructor
 ·intro H z;unfold Shf.ok at z;rcases H with(((((H|⟨r,h1,h2⟩)|H)|⟨r,h1,h2⟩)|H)|H)|H<;>first|exact h2 (z.2.1 _ h1)|exact h2 (z.2.2.2.1 _ h1)|omega
 ·intro z;refine Classical.byContradiction fun n=>z ?_;simp only[not_or,not_exists,not_and,Classical.not_not]at n;obtain⟨⟨⟨⟨⟨⟨a,b⟩,c⟩,d⟩,e⟩,f⟩,g⟩:=n;exact⟨om,b,om,d,om,om,om⟩
def Shf.rk(s:Shf)(i:Nat):Rk:=s.Ah.getD (s.Af.getD i 0).toNat rz
def Eo(s:Shf)(is:Prop)[Decidable is]:Int:=if s.ok then(if is then 0 else 1)else 20
theorem Shf.ok.Fu{s:Shf}(h:s.ok){i:Nat}(hi:i<s.Af.length):0<=s.Af.getD i 0/\(s.Af.getD i 0).toNat<s.Ah.length/\s.Af.getD i 0<s.Ah.length:=by
 have:=h.2.2.2.1 (s.Af.getD i 0) (by rw[Flow.Au hi];exact List.getElem_mem hi);unfold okF at this;omega
theorem Shf.ok.Li{s:Shf}(h:s.ok){i:Nat}(hi:i<s.Af.length):okR (s.rk i):=by
 refine h.2.1 _ ?_;unfold Shf.rk;rw[Flow.Au (h.Fu hi).2.1];exact List.getElem_mem _
def Hh(s:Shf)(fr:Nat):Nat->Nat->Int->Nat
 |0,Fu,_=>Fu
 |r+1,Fu,st=>if((Fu:Int)-fr+1>min st (s.rk Fu).sd)then Fu else Hh s fr r (Fu+1) (min st (s.rk Fu).sd)
def Dw(s:Shf)(fr:Nat):Nat:=Hh s fr (s.Af.length-fr) fr 12
def Lm(s:Shf):Nat->Int×Int
 |0=>(0,0)
 |i+1=>((Lm s i).1+((s.rk i).pe+i*s.deep),(Lm s i).2+(s.rk i).hr)
theorem Ns{d:Int}(hi:i<=12)(h:0<=d/\d<=9):0<=(i:Int)*d/\(i:Int)*d<=108:=by
 have H:(i:Int)*d<=12*9:=Int.mul_le_mul om h.2 h.1 om;exact⟨Int.mul_nonneg om h.1,om⟩
theorem xqt{s:Shf}(h:s.ok):∀{i:Nat},i<=s.Af.length->(0<=(Lm s i).1/\(Lm s i).1<=207*i)/\0<=(Lm s i).2/\(Lm s i).2<=9*i
 |0,_=>by simp[Lm]
 |i+1,hi=>by
   have O:=xqt h (i:=i) om;have H:=h.Li (i:=i) om;have M:=h.2.2.1;have V:=Ns (i:=i) om h.2.2.2.2.1;unfold okR at H;simp only[Lm];omega
structure Wy where
 rings:Int
 Fo:Int
 next:Int
deriving DecidableEq
variable{l out:List Wy}{w:Wy}
def nW:Wy:=⟨-1,0,0⟩
def zW:Wy:=⟨0,0,0⟩
def Kt(s:Shf)(out:List Wy)(next:Nat):Option Wy:=
 if out.getD next nW=nW\/(s.rk (next-1)).st= -1 then none else some ⟨(out.getD next nW).rings+1,(out.getD next nW).Fo+((s.rk (next-1)).st+next*s.Cp),next⟩
def Oo(lt:Wy->Wy->Bool)(m:Wy):Option Wy->Wy
 |none=>m
 |some w=>if m=nW\/lt w m=true then w else m
def inW(lt:Wy->Wy->Bool)(s:Shf)(out:List Wy):Nat->Nat->Wy->Wy
 |0,_,m=>m
 |r+1,next,m=>inW lt s out r (next+1) (Oo lt m (Kt s out next))
def Ph(lt:Wy->Wy->Bool)(s:Shf)(out:List Wy)(d:Nat):Wy:=inW lt s out (Dw s d-d) (d+1) (out.getD d nW)
def Ko(lt:Wy->Wy->Bool)(s:Shf)(out:List Wy):Nat->List Wy
 |0=>out
 |d+1=>(Ko lt s out d).set d (Ph lt s out d)
def Bs(lt:Wy->Wy->Bool)(s:Shf):Nat->List Wy
 |0=>(List.replicate (s.Af.length+1) nW).set s.Af.length zW
 |k+1=>Ko lt s (Bs lt s k) s.Af.length
def okW(k:Nat)(w:Wy):Prop:=(-1<=w.rings/\w.rings<=k)/\(0<=w.Fo/\w.Fo<=300*k)/\0<=w.next/\w.next<=12
theorem okW.up{k:Nat}{w:Wy}(h:okW k w):okW (k+1) w:=by unfold okW at *;omega
theorem xps{lt s out d}:(Ko lt s out d).length=out.length:=by
 induction d with
 |zero=>rfl
 |succ d ih=>rw[Ko,List.length_set,ih]
theorem xsj{lt s k}:(Bs lt s k).length=s.Af.length+1:=by
 induction k with
 |zero=>simp[Bs]
 |succ k ih=>rw[Bs,xps,ih]
theorem xu7{s:Shf}{fr:Nat}:∀{r Fu:Nat}{st:Int},Fu+r=s.Af.length->Fu<=Hh s fr r Fu st/\Hh s fr r Fu st<=s.Af.length
 |0,Fu,st,h=>by rw[Hh];omega
 |r+1,Fu,st,h=>by
   rw[Hh];split
   ·omega
   ·have:=xu7 (s:=s) (fr:=fr) (r:=r) (Fu:=Fu+1) (st:=min st (s.rk Fu).sd) om;omega
theorem xvn{fr:Nat}(h:fr<=s.Af.length):fr<=Dw s fr/\Dw s fr<=s.Af.length:=xu7 om
theorem yug(H:s.ok){k next:Nat}(ho:okW k (out.getD next nW))(O:1<=next)(h2:next<=s.Af.length)(h:Kt s out next=some w):okW (k+1) w:=by
 unfold Kt at h;split at h
 ·cases h
 ·cases h;have M:=H.Li (i:=next-1) om;have V:=H.2.2.1;have hm:=Ns (i:=next) om H.2.2.2.2.2.1;have hn:(s.rk (next-1)).st≠ -1:=fun z=>by simp_all
  unfold okR at M;unfold okW at*;refine⟨?_,?_,?_⟩<;>simp only<;>omega
theorem ywl{lt:Wy->Wy->Bool}{k:Nat}{m:Wy}{c:Option Wy}(H:okW k m)(hc:∀w,c=some w->okW k w):okW k (Oo lt m c):=by
 cases c with
 |none=>exact H
 |some w=>
   rw[Oo];split
   ·exact hc w rfl
   ·exact H
theorem yal{lt:Wy->Wy->Bool}{s:Shf}(H:s.ok){out:List Wy}{k:Nat}(M:∀i,okW k (out.getD i nW)):∀{r next:Nat}{m:Wy},1<=next->next+r<=s.Af.length+1->okW (k+1) m->okW (k+1) (inW lt s out r next m)
 |0,_,_,_,_,h=>h
 |r+1,next,m,h1,h2,h=>by
   rw[inW];exact yal H M om om (ywl h fun w e=>yug H (M next) h1 om e)
theorem yx3{k:Nat}:okW k nW:=by unfold okW nW;simp only;omega
theorem xrw{d:Nat}:(l.set d w).getD i nW=if d=i/\i<l.length then w else l.getD i nW:=by
 rw[List.getD_eq_getElem?_getD,List.getElem?_set,List.getD_eq_getElem?_getD];by_cases h:d=i
 ·subst h;by_cases H:d<l.length
  ·simp[H]
  ·simp[H]
 ·simp[h]
theorem ysz{lt:Wy->Wy->Bool}{s:Shf}(M:s.ok){out:List Wy}{k:Nat}(H:∀i,okW k (out.getD i nW)):∀{d:Nat},d<=s.Af.length-> ∀i,okW (k+1) ((Ko lt s out d).getD i nW)
 |0,_,i=>(H i).up
 |d+1,hd,i=>by
   rw[Ko,xrw];split
   ·have:=xvn (s:=s) (fr:=d) om;exact yal M H om om (H d).up
   ·exact ysz M H om i
theorem xjc{lt:Wy->Wy->Bool}{s:Shf}(H:s.ok):∀{k:Nat}(i:Nat),okW k ((Bs lt s k).getD i nW)
 |0,i=>by
   rw[Bs,xrw];split
   ·unfold okW zW;simp
   ·rw[List.getD_eq_getElem?_getD,List.getElem?_replicate];split<;>exact yx3
 |k+1,i=>ysz H (fun i=>xjc H i) (Nat.le_refl _) i
theorem ytz{lt s out i}:∀{d:Nat},d<=i->(Ko lt s out d).getD i nW=out.getD i nW
 |0,_=>rfl
 |d+1,h=>by rw[Ko,xrw,if_neg om,ytz om]
theorem yrz{lt s out d}(h:d<out.length):(Ko lt s out d).set d (out.getD d nW)=Ko lt s out d:=by
 rw[<- ytz (lt:=lt) (s:=s) (Nat.le_refl d),List.getD_eq_getElem?_getD,List.getElem?_eq_getElem (by rw[xps];exact h)];simp
def Wy.cells(w:Wy):List Value:=[.J w.rings,.J w.Fo,.J w.next]
def wcs(xs:List Wy):List (List Value):=xs.map Wy.cells
theorem ygx(xs:List Wy):∀u∈(wcs xs).flatten,Bj u=true:=by
 intro u H;simp only[wcs,List.mem_flatten,List.mem_map]at H;obtain⟨_,⟨w,_,rfl⟩,H⟩:=H;simp only[Wy.cells,List.mem_cons,List.not_mem_nil,or_false]at H;rcases H with rfl|rfl|rfl<;>rfl
theorem xjd(xs:List Wy):(wcs xs).length=xs.length:=by simp[wcs]
theorem xkm{xs:List Wy}(h:i<xs.length):(wcs xs)[i]?=some (xs.getD i nW).cells:=by
 rw[wcs,List.getElem?_map,List.getD_eq_getElem?_getD,List.getElem?_eq_getElem h];rfl
theorem ylt{α:Type}{e z:α}{n j k:Nat}(H:k<=j):(List.replicate j e++List.replicate (n-j) z).take j++((List.replicate j e++List.replicate (n-j) z).take k++(List.replicate j e++List.replicate (n-j) z).drop (j+k))=List.replicate (j+k) e++List.replicate (n-(j+k)) z:=by
 have M:(List.replicate j e++List.replicate (n-j) z).take j=List.replicate j e:=by rw[List.take_append_of_le_length s_];simp
 have V:(List.replicate j e++List.replicate (n-j) z).take k=List.replicate k e:=by rw[List.take_append_of_le_length (by simp;omega),List.take_replicate,Nat.min_eq_left H]
 have O:(List.replicate j e++List.replicate (n-j) z).drop (j+k)=List.replicate (n-(j+k)) z:=by
  rw[List.drop_append,List.drop_eq_nil_of_le s_,List.nil_append,List.drop_replicate];congr 1;simp;omega
 rw[M,V,O,<- List.append_assoc,List.replicate_append_replicate]
def okN(e d:Nat)(w:Wy):Prop:=w.next=0\/((d:Int)<w.next/\w.next<=e)
theorem xg7{lt:Wy->Wy->Bool}{s:Shf}{out:List Wy}{e d:Nat}:∀{r next:Nat}{m:Wy},d<next->next+r<=e+1->okN e d m->okN e d (inW lt s out r next m)
 |0,_,_,_,_,h=>h
 |r+1,next,m,h1,h2,h=>by
   rw[inW];refine xg7 om om ?_;unfold Oo;split
   ·exact h
   ·rename_i w hw;split
    ·unfold Kt at hw;split at hw
     ·cases hw
     ·cases hw;exact .inr ⟨by simp only;omega,by simp only;omega⟩
    ·exact h
theorem xa1{lt:Wy->Wy->Bool}{s:Shf}{out:List Wy}(H:∀i,okN s.Af.length i (out.getD i nW)):∀{d:Nat},d<=s.Af.length-> ∀i,okN s.Af.length i ((Ko lt s out d).getD i nW)
 |0,_,i=>H i
 |d+1,hd,i=>by
   rw[Ko,xrw];split
   ·rename_i h;rw[<- h.1];have:=xvn (s:=s) (fr:=d) om;exact xg7 om om (H d)
   ·exact xa1 H om i
theorem xsp{lt:Wy->Wy->Bool}{s:Shf}:∀{k:Nat}(i:Nat),okN s.Af.length i ((Bs lt s k).getD i nW)
 |0,i=>by
   rw[Bs,xrw];split
   ·exact .inl rfl
   ·rw[List.getD_eq_getElem?_getD,List.getElem?_replicate];split<;>exact .inl rfl
 |k+1,i=>xa1 (fun i=>xsp i) (Nat.le_refl _) i
def El(lt:Wy->Wy->Bool)(s:Shf)(Fh:Nat):Wy:=(Bs lt s (min Fh s.Af.length)).getD 0 nW
def Ck(lt:Wy->Wy->Bool)(s:Shf):Int:=if s.ok then(if El lt s 12=nW then 3 else 0)else 20
def Ka(lt:Wy->Wy->Bool)(s:Shf):Wy:=if Ck lt s=0 then El lt s 12 else nW
def ltF(a b:Wy):Bool:=decide (a.rings<b.rings)
def ltC(a b:Wy):Bool:=decide (a.Fo<b.Fo)
def Ft(s:Shf):Int:=if Ck ltF s=0 then(El ltF s 12).rings else 0
def Cs(s:Shf):Int:=if Ck ltC s=0 then(Lm s s.Af.length).1+(El ltC s 12).Fo else 0
def Fc(s:Shf)(d:Nat):Shf:={s with Af:=s.Af.take d}
def K5(s:Shf)(H:Int):Nat->Nat
 |0=>0
 |d+1=>if Ck ltC (Fc s (d+1))=0/\Cs (Fc s (d+1))<=H then d+1 else K5 s H d
def Ly(s:Shf)(H:Int):Int:=Eo s (0<=H/\H<=9999)
def Kx(s:Shf)(H:Int):Int:=if Ly s H=0 then K5 s H s.Af.length else 0
def Do(s:Shf)(r:Int):Shf:={s with Af:=s.Af++[r]}
def FmZ(s:Shf)(r:Int):Int:=if Eo s (0<=r/\r<=(s.Ah.length:Int)-1)≠0 then Eo s (0<=r/\r<=(s.Ah.length:Int)-1)else if s.Af.length=12 then 2 else if Ck ltC s≠0 then Ck ltC s else Ck ltC (Do s r)
def Hg(s:Shf)(r:Int):Int:=if FmZ s r=0 then Cs (Do s r)-Cs s else 0
theorem xtn(lt:Wy->Wy->Bool)(s:Shf):(¬ s.ok/\Ck lt s=20)\/(s.ok/\El lt s 12=nW/\Ck lt s=3)\/(s.ok/\El lt s 12≠nW/\Ck lt s=0):=by
 unfold Ck;by_cases h:s.ok
 ·by_cases w:El lt s 12=nW
  ·exact .inr (.inl ⟨h,w,by rw[if_pos h,if_pos w]⟩)
  ·exact .inr (.inr ⟨h,w,by rw[if_pos h,if_neg w]⟩)
 ·exact .inl ⟨h,if_neg h⟩
end Go.X
namespace Go.Proofs.YtofhlcococeifaaGreatDoor
open Go.Proofs.Tryz
open Go.X Go.X.Flow Go.Conc
variable{h:Heap}{x y:Int}{es:List (List Value)}{xs:List Wy}{md:Md}{ca cb d n:Nat}{b:Option Addr}{p:Ab}{s:Shf}{tN:TypeId}{fv:Value}
theorem cf99{n lo hi:Int}:Dc prog md p 99 #[.J n,.J lo,.J hi] (.bool (decide (lo<=n/\n<=hi))):=by
 refine xlq func99 fun K=>?_;refine K.q ?_;exact congrArg _ (bpe Iff.rfl)
theorem cf98{r:Rk}:Dc prog md p 98 #[.agg #[.J r.hr,.J r.pe,.J r.sd,.J r.st]] (.bool (!decide (okR r))):=by
 refine xkq func98 fun K b1=>?_;refine cdq cf99 ?_;refine cgq (fun _=>cf99) ?_;refine cgq (fun _=>cf99) ?_;refine cgq (fun _=>cf99) ?_;refine K.q ?_;exact congrArg _ (bpn (by unfold okR;omega))
theorem yl7(hp:Per p h)(fv:Value){a:Option Addr}{c:Nat}(xs:List Rk)(S:Rks p a n xs)(hn:n<=2^40)(q:Rk->Bool)
 (hf:∀h,Per p h-> ∀i,i<n->Be prog md fv [.agg #[.J (xs.getD i rz).hr,.J (xs.getD i rz).pe,.J (xs.getD i rz).sd,.J (xs.getD i rz).st]] h fun v O=>v=.bool (q (xs.getD i rz))/\Av h O):
 Ac prog md 190 #[.slice a n c,fv] h fun v O=>v=.J (Dn q xs)/\Av h O:=by
 have hl:=S.len;refine xaz hp func190 fun K=>?_;refine xnq (fun m l=>∃j:Nat,m=n-j/\l=[(0,none,.slice a n c),(1,none,fv),(7,none,.J n),(8,none,.J j)]/\j<=n/\ ∀i,i<j->q (xs.getD i rz)=false) ⟨0,rfl,rfl,Nat.zero_le _,om⟩ sb ?_;rintro _ _ IH ⟨j,rfl,rfl,hj,H⟩;refine cq (fun V=>?_) (fun V=>?_)
 ·refine ax ?_;refine ro_y rfl (xmj rfl (S.all om)) ?_;refine xjp rfl rfl (fun h_ pe=>hf h_ pe j om) ?_;refine cq (fun M=>?_) (fun M=>?_)
  ·refine K.q ?_;rw[Df (z:=rz) (k:=j) om M H];rfl
  ·exact bkq (IH _ om ⟨j+1,rfl,rfl,om,Dt H (by simpa using M)⟩)
 refine K.q ?_;rw[De (z:=rz) (fun i hi=>H i om)];rfl
theorem yw9(M:Per p h){a:Option Addr}{c:Nat}{xs:List Rk}(S:Rks p a n xs)(hn:n<=2^40)(q:Rk->Bool)
 (hf:∀h,Per p h-> ∀i,i<n->Be prog md fv [.agg #[.J (xs.getD i rz).hr,.J (xs.getD i rz).pe,.J (xs.getD i rz).sd,.J (xs.getD i rz).st]] h fun v H=>v=.bool (q (xs.getD i rz))/\Av h H):
 Ac prog md 101 #[.slice a n c,fv] h fun v H=>v=.bool (decide (0<=Dn q xs))/\Av h H:=by
 refine xaz M func101 fun K=>?_;refine cdq (fun _ pe=>yl7 pe fv xs S hn q hf) ?_;exact K.q rfl
theorem yk7(hp:Per p h)(fv:Value){a:Option Addr}{c:Nat}(xs:List Int)(S:Ax p a n xs)(hn:n<=2^40)(q:Int->Bool)
 (hf:∀h,Per p h-> ∀i,i<n->Be prog md fv [.J (xs.getD i 0)] h fun v O=>v=.bool (q (xs.getD i 0))/\Av h O):Ac prog md 191 #[.slice a n c,fv] h fun v O=>v=.J (Dn q xs)/\Av h O:=by
 have hl:=S.len;refine xaz hp func191 fun K=>?_;refine xnq (fun m l=>∃j:Nat,m=n-j/\l=[(0,none,.slice a n c),(1,none,fv),(7,none,.J n),(8,none,.J j)]/\j<=n/\ ∀i,i<j->q (xs.getD i 0)=false) ⟨0,rfl,rfl,Nat.zero_le _,om⟩ sb ?_;rintro _ _ IH ⟨j,rfl,rfl,hj,H⟩;refine cq (fun V=>?_) (fun V=>?_)
 ·refine ax ?_;refine xjp rfl rfl (fun h_ pe=>hf h_ pe j om) ?_;refine cq (fun M=>?_) (fun M=>?_)
  ·refine K.q ?_;rw[Df (z:=0) (k:=j) om M H];rfl
  ·exact bkq (IH _ om ⟨j+1,rfl,rfl,om,Dt H (by simpa using M)⟩)
 refine K.q ?_;rw[De (z:=0) (fun i hi=>H i om)];rfl
theorem ynr(O:Per p h){a:Option Addr}{c:Nat}{xs:List Int}(S:Ax p a n xs)(hn:n<=2^40)(q:Int->Bool)
 (hf:∀h,Per p h-> ∀i,i<n->Be prog md fv [.J (xs.getD i 0)] h fun v H=>v=.bool (q (xs.getD i 0))/\Av h H):Ac prog md 102 #[.slice a n c,fv] h fun v H=>v=.bool (decide (0<=Dn q xs))/\Av h H:=by
 refine xaz O func102 fun K=>?_;refine cdq (fun _ M=>yk7 M fv xs S hn q hf) ?_;exact K.q rfl
theorem yx9{a:Option Addr}(s:Shf)(hn:s.Ah.length<=2^40){bt:Nat}(H:p bt=some (.cells #[.slice a s.Ah.length ca,.slice b s.Af.length cb,.J s.deep,.J s.Cp,.J s.rest] 25 (0,0))):Dc prog md p 100 #[.J x,w_ bt 0] (.bool (!decide (okF s.Ah.length x))):=by
 refine xlq func100 fun K=>?_;refine cdq cf99 ?_;exact K.q rfl
theorem cf55{a:Option Addr}(s:Shf)(S:Cy p a b s)(hn:s.Ah.length<=2^40/\s.Af.length<=2^40):Dc prog md p 55 #[.agg #[.slice a s.Ah.length ca,.slice b s.Af.length cb,.J s.deep,.J s.Cp,.J s.rest]] (.J (Hx s)):=by
 refine xkq func55 fun K b1=>?_;refine xqw (b:=b1) fun p' V O=>?_;have S:=S.mono V;refine ax ?_;refine xqz rfl rfl rfl sdt (fun _ _ H=>yw9 H S.r hn.1 (fun r=>!decide (okR r)) fun _ H _ _=>xgq k_ (cf98 _ H)) ?_;refine ax ?_;refine xqz rfl rfl rfl sdt (fun _ _ H=>ynr H S.f hn.2 (fun x=>!decide (okF s.Ah.length x)) fun _ H _ _=>xgq k_ (yx9 s hn.1 O _ H)) ?_;refine cgq (fun _=>cf99) ?_;refine cgq (fun _=>cf99) ?_;refine cgq (fun _=>cf99) ?_;refine cq (fun M=>?_) (fun M=>?_)
 ·refine K.q ?_;exact congrArg _ (show Hx s=20 from if_neg (yez.1 M)).symm
 ·refine K.q ?_;exact congrArg _ (show Hx s=0 from if_pos (Classical.not_not.1 fun z=>M (yez.2 z))).symm
theorem ymg{a:Option Addr}(s:Shf)(S:Cy p a b s)(O:s.ok)(i:Nat)(hi:i<s.Af.length):Dc prog md p 284 #[.agg #[.slice a s.Ah.length ca,.slice b s.Af.length cb,.J s.deep,.J s.Cp,.J s.rest],.J (i:Nat)] (.agg #[.J (s.rk i).hr,.J (s.rk i).pe,.J (s.rk i).sd,.J (s.rk i).st]):=by
 intro h H;have hf:=O.Fu hi;have V:=S.f;refine xhz H func284 fun _ _ _ K=>?_;refine bq fun b1=>?_;refine xfx fun b2=>?_;refine ax ?_;refine xmw 11 [] [] [0,1,2,3,4,5,6,7,8,9,10] ?_;refine ex ?_;refine de_y rfl rfl (xed rfl rfl om om (S.r.ne om)) ?_;refine de_y rfl rfl (xmj rfl (S.r.all hf.2.1)) ?_;refine xa ?_;refine xez func284 rfl (xpq rfl Ey.nil) ?_;exact fun _ M=>K _ _ ⟨rfl,M.kept⟩
theorem yi6{a b c d:Int}(V:(-1000000<=a/\a<=1000000)/\(-1000000<=b/\b<=1000000)/\(-1000000<=c/\c<=1000000)/\ -1000000<=d/\d<=1000000):Dc prog md p 249 #[.agg #[.J a,.J b],.agg #[.J c,.J d]] (.agg #[.J (a+c),.J (b+d)]):=by
 intro h M;refine xhz M func249 fun _ _ _ K=>?_;refine bq fun b1=>?_;refine bq fun b2=>?_;refine xfx fun O=>?_;refine ax ?_;refine xez func249 rfl (xpq rfl Ey.nil) ?_;exact fun _ H=>K _ _ ⟨rfl,H.kept⟩
theorem yh6{a:Option Addr}(s:Shf)(S:Cy p a b s)(H:s.ok)(i:Nat)(hi:i<s.Af.length):Dc prog md p 250 #[.agg #[.slice a s.Ah.length ca,.slice b s.Af.length cb,.J s.deep,.J s.Cp,.J s.rest],.J (i:Nat)] (.agg #[.J ((s.rk i).pe+i*s.deep),.J (s.rk i).hr]):=by
 intro h M;have hr:=H.Li hi;have hl:=H.2.2.1;have hm:=Ns (i:=i) om H.2.2.2.2.1;unfold okR at hr;refine xhz M func250 fun _ _ _ K=>?_;refine bq fun b1=>?_;refine xfx fun b2=>?_;refine cdq (ymg s S H i hi) ?_;refine xfx fun V=>?_;refine ax ?_;refine xez func250 rfl (xpq rfl Ey.nil) ?_;exact fun _ O=>K _ _ ⟨rfl,O.kept⟩
theorem yv4{a:Option Addr}(s:Shf)(S:Cy p a b s)(H:s.ok)(i:Nat)(hi:i<s.Af.length)(O:x=(i:Int)+1):Dc prog md p 328 #[.agg #[.slice a s.Ah.length ca,.slice b s.Af.length cb,.J s.deep,.J s.Cp,.J s.rest],.J x] (.bool (decide ((s.rk i).st≠ -1))):=by
 have V:=H.2.2.1;refine xkq func328 fun K b1=>?_;refine ax ?_;refine xpx rfl rfl (fun _ M=>show Ac _ _ _ #[_,.J (x-1)] _ _ from by rw[show x-1=(i:Int) by omega];exact ymg s S H i hi _ M) ?_;exact K.q rfl
theorem yf7{a:Option Addr}(s:Shf)(S:Cy p a b s)(H:s.ok):Dc prog md p 203 #[.agg #[.slice a s.Ah.length ca,.slice b s.Af.length cb,.J s.deep,.J s.Cp,.J s.rest]] (.agg #[.J (Lm s s.Af.length).1,.J (Lm s s.Af.length).2]):=by
 intro h hp;have hl:=H.2.2.1;refine xhz hp func203 fun _ _ _ K=>?_;refine bq fun b1=>?_;refine xfx fun b2=>?_;refine ax ?_
 refine xhq (fun m l M O=>∃j:Nat,m=s.Af.length-j/\l=[(1,none,w_ b1 0),(2,none,w_ b2 0),(7,none,.J s.Af.length),(8,none,.J j)]/\M=p/\
  O=[[(b2,.cells #[.J (Lm s j).1,.J (Lm s j).2] 222 (0,0))],[(b1,.cells #[.slice a s.Ah.length ca,.slice b s.Af.length cb,.J s.deep,.J s.Cp,.J s.rest] 215 (0,0))]]/\j<=s.Af.length) ⟨0,rfl,rfl,rfl,rfl,Nat.zero_le _⟩ sb ?_
 rintro _ _ _ _ IH ⟨j,rfl,rfl,rfl,rfl,V⟩;refine cq (fun cc=>?_) (fun cc=>?_)
 ·have hd:=xqt H V;have hr:=H.Li (i:=j) om;have hm:=Ns (i:=j) om H.2.2.2.2.1;unfold okR at hr;refine ax ?_;refine xmw 5 [] [] [0,1,2,3,4] ?_;refine ex ?_;refine xzz rfl rfl rfl (yh6 s S H j om) ?_;refine xzz rfl rfl rfl (yi6 om) ?_;refine ex ?_;exact bkq (IH _ _ _ om ⟨j+1,rfl,rfl,rfl,rfl,om⟩)
 obtain rfl:j=s.Af.length:=om;refine ax ?_;refine xez func203 rfl (xpq rfl Ey.nil) ?_;exact fun _ H_=>K _ _ ⟨rfl,H_.kept⟩
theorem yu4{a:Option Addr}(s:Shf)(S:Cy p a b s)(H:s.ok)(i:Nat)(hi:i<s.Af.length)(hx:x=(i:Int)+1):Dc prog md p 329 #[.agg #[.slice a s.Ah.length ca,.slice b s.Af.length cb,.J s.deep,.J s.Cp,.J s.rest],.J x] (.agg #[.J ((s.rk i).st+x*s.Cp),.J s.rest]):=by
 intro h M;have hl:=H.2.2.1;have hr:=H.Li hi;have hm:=Ns (i:=i+1) om H.2.2.2.2.2.1;rw[show((i+1:Nat):Int)=x by omega]at hm;unfold okR at hr;refine xhz M func329 fun _ _ _ K=>?_;refine bq fun b1=>?_;refine xfx fun b2=>?_;refine ax ?_;refine xmw 15 [] [] [0,1,2,3,4,5,6,7,8,9,10,11,12,13,14] ?_;refine ex ?_;refine xzz rfl rfl rfl (fun _ V=>show Ac _ _ _ #[_,.J (x-1)] _ _ from by rw[show x-1=(i:Int) by omega];exact ymg s S H i hi _ V) ?_;refine xa ?_;refine xez func329 rfl (xpq rfl Ey.nil) ?_;exact fun _ O=>K _ _ ⟨rfl,O.kept⟩
theorem yw4{a:Option Addr}(s:Shf)(S:Cy p a b s)(M:s.ok)(fr:Nat)(hf:fr<=s.Af.length):Dc prog md p 327 #[.agg #[.slice a s.Ah.length ca,.slice b s.Af.length cb,.J s.deep,.J s.Cp,.J s.rest],.J (fr:Nat)] (.J (Dw s fr:Nat)):=by
 have hl:=M.2.2.1;refine xkq func327 fun K b1=>?_;refine ax ?_;refine xnq (fun m l=>∃(j:Nat)(st:Int),m=s.Af.length-j/\l=[(1,none,.J (fr:Nat)),(2,none,w_ b1 0),(5,none,.J st),(6,none,.J j)]/\fr<=j/\j<=s.Af.length/\Hh s fr (s.Af.length-j) j st=Dw s fr) ⟨fr,12,rfl,rfl,Nat.le_refl _,hf,rfl⟩ sb ?_;rintro _ _ IH ⟨j,st,rfl,rfl,h1,h2,H⟩;refine cq (fun O=>?_) (fun O=>?_)
 ·have e:s.Af.length-j=(s.Af.length-(j+1))+1:=om;rw[e,Hh]at H;refine ax ?_;refine xpx rfl rfl (ymg s S M j om) ?_;refine cq (fun V=>?_) (fun V=>?_)
  ·rw[if_pos om]at H;refine K.q ?_;rw[<- H];rfl
  ·rw[if_neg om]at H;exact bkq (IH _ om ⟨j+1,_,rfl,rfl,om,om,H⟩)
 obtain rfl:j=s.Af.length:=om;rw[Nat.sub_self,Hh]at H;refine K.q ?_;rw[<- H];rfl
theorem yh2(a b c a' H M:Int):Dc prog md p 201 #[.agg #[.J a,.J b,.J c],.agg #[.J a',.J H,.J M]] (.bool (decide (a<a'))):=by
 refine xkq func201 fun K b1=>?_;refine bq fun b2=>?_;exact K.q rfl
theorem yg2(a b c a' H M:Int):Dc prog md p 202 #[.agg #[.J a,.J b,.J c],.agg #[.J a',.J H,.J M]] (.bool (decide (b<H))):=by
 refine xkq func202 fun K b1=>?_;refine bq fun b2=>?_;exact K.q rfl
def opened(a b:Option Addr)(ca cb:Nat)(s:Shf)(e:Int):Value:=if e=0 then .agg #[.slice a s.Ah.length ca,.slice b s.Af.length cb,.J s.deep,.J s.Cp,.J s.rest]else .agg #[.slice none 0 0,.slice none 0 0,.J 0,.J 0,.J 0]
theorem yf2(md:Md)(p:Ab)(a b:Option Addr)(ca cb:Nat)(s:Shf)(S:Cy p a b s)(hn:s.Ah.length<=2^40/\s.Af.length<=2^40)(is:Prop)[Decidable is]:Dc prog md p 204 #[.agg #[.slice a s.Ah.length ca,.slice b s.Af.length cb,.J s.deep,.J s.Cp,.J s.rest],.bool (decide is)] (.tuple #[opened a b ca cb s (Eo s is),.J (Eo s is)]):=by
 intro h hp;refine xhz hp func204 fun _ _ _ K=>?_;refine bq fun b1=>?_;refine xfx fun b2=>?_;refine cdq (cf55 s S hn) ?_;refine cq (fun V=>?_) (fun V=>?_)
 ·have H:¬ s.ok:=fun z=>V (if_pos z);have e:Eo s is=20:=if_neg H;have e':Hx s=20:=if_neg H;rw[e'];refine ax ?_;refine xez func204 rfl (xpq rfl (Ey.tmp rfl Ey.nil)) ?_;exact fun _ M=>K _ _ ⟨by rw[e];rfl,M.kept⟩
 have H:s.ok:=Classical.not_not.1 fun z=>V (by rw[Hx,if_neg z];decide);refine cq (fun O=>?_) (fun O=>?_)
 ·have e:Eo s is=1:=by rw[Eo,if_pos H,if_neg O]
  refine ax ?_;refine xez func204 rfl (xpq rfl (Ey.tmp rfl Ey.nil)) ?_;exact fun _ M=>K _ _ ⟨by rw[e];rfl,M.kept⟩
 ·have e:Eo s is=0:=by rw[Eo,if_pos H,if_pos (Classical.not_not.1 O)]
  refine ax ?_;refine xez func204 rfl (xpq rfl (Ey.tmp rfl Ey.nil)) ?_;exact fun _ M=>K _ _ ⟨by rw[e];rfl,M.kept⟩
theorem yx4{a:Option Addr}{c:Nat}(S:Sl p a n 3 (wcs xs))(hn:n<=2^20)(M:0<n):Nc prog md p 326 #[.slice a n c] (fun v Y=>Aa 217 3 v (wcs xs) Y):=by
 refine xlq func326 fun K=>?_;refine ro_y rfl (ydx rfl) ?_;refine cq (fun H=>?_) (fun H=>?_)
 ·exact absurd H (by rw[S.ne M];simp)
 refine ax ?_;refine xxx rfl fun v Y o=>?_;refine ax ?_;refine xiw rfl rfl o S (ygx xs) (by simp[chs];omega) (fun v' Y' V=>?_);refine ax ?_;exact K.r rfl rfl fun _ O=>⟨_,V,Eu O⟩
theorem yo4(H:0<=y/\y<=1048576):Dc prog md p 355 #[.int .u64 1,.int .u64 y] (.tuple #[.int .u64 0,.int .u64 y]):=by
 refine xlq func355 fun K=>?_;refine yrm rfl d_ ?_;refine ax ?_;refine ynz rfl d_ ?_;refine ax ?_;refine yrm rfl om ?_;refine ax ?_;refine ynz rfl om ?_;refine ax ?_;refine ynz rfl om ?_;refine ax ?_;refine yrm rfl om ?_;refine ax ?_;refine ynz rfl om ?_;refine ax ?_;refine ynz rfl om ?_;refine K.q ?_;simp[F9,Int.one_mul]
theorem yq4(M:0<=y/\y<=1048576):Dc prog md p 342 #[.int .u64 1,.int .u64 y] (.tuple #[.int .u64 0,.int .u64 y]):=by
 refine xlq func342 fun K=>?_;refine cq (fun H=>?_) (fun H=>?_)
 ·cases H
 refine cdq (yo4 M) ?_;exact K.q rfl
theorem yy4{a:Option Addr}{c:Nat}(w:Wy)(S:Sl p a 1 3 [w.cells])(n:Nat)(hn:1<=n/\n<=20):Nc prog md p 325 #[.slice a 1 c,.J (n:Nat)] (fun v Y=>Aa 217 3 v (List.replicate n w.cells) Y):=by
 refine xlq func325 fun K=>?_;refine cq (fun O=>?_) (fun O=>?_)
 ·omega
 refine ax ?_;refine ro_y rfl (xib ⟨_,underlying3⟩ underlying235 rfl d_) ?_;refine ax ?_;refine ro_y rfl (xib ⟨_,underlying3⟩ underlying235 rfl (Om om)) ?_;refine xpx rfl rfl (yq4 om) ?_;refine cq (fun cd=>?_) (fun cd=>?_)
 ·omega
 refine ax ?_;refine ro_y rfl (xib ⟨_,underlying235⟩ underlying3 rfl (wrZ om)) ?_;refine yqm (n:=n) (zc:=[.J 0,.J 0,.J 0]) rfl rfl om fun v Y o=>?_;obtain⟨b,cap,e,M,_⟩:=o.at0 (by rw[List.length_replicate];omega) d_;rw[List.length_replicate]at e M;subst e;refine ax ?_;have one:∀u∈[w.cells].flatten,Bj u=true:=ygx [w];refine ybt rfl rfl o S (by simp;omega) (by simp;omega) one fun Y1 o1=>?_;refine ax ?_;refine xhq (fun m l p_ L_=>∃(j:Nat)(Y:Pcs),m=n-j/\l=[(7,none,.slice (some ⟨b,0,none⟩) n cap),(8,none,.J j)]/\p_=p/\L_=[Y]/\1<=j/\j<=n/\Aa 217 3 (.slice (some ⟨b,0,none⟩) n cap) (List.replicate j w.cells++List.replicate (n-j) [.J 0,.J 0,.J 0]) Y) ⟨1,Y1,rfl,rfl,rfl,rfl,om,om,by rw[List.drop_replicate]at o1;exact o1⟩ sb ?_;rintro _ _ _ _ IH ⟨j,Y,rfl,rfl,rfl,rfl,h1,h2,o⟩;have hl:(List.replicate j w.cells++List.replicate (n-j) [Value.J 0,.J 0,.J 0]).length=n:=by simp;omega
 refine cq (fun O=>?_) (fun O=>?_)
 ·refine ax ?_;refine xe6 9 [] [7] [0,1,2,3,4,5,6,7,8] Y ?_;refine ex ?_;refine yd1 rfl rfl rfl om ?_;refine ex ?_;refine yc1 rfl rfl rfl om ?_;have hk:Nat.min j (n-j)<=n-j/\Nat.min j (n-j)<=j/\0<Nat.min j (n-j):=⟨Nat.min_le_right _ _,Nat.min_le_left _ _,by show 0<min j (n-j);omega⟩
  refine yi1 hl rfl o rfl rfl om d_ rfl om om (fun u hu=>?_) fun Y' V=>?_
  ·obtain⟨e,h3,H⟩:=List.mem_flatten.1 hu;rcases List.mem_append.1 h3 with h5|h5
   ·rw[List.eq_of_mem_replicate h5]at H;exact one u (by simpa using H)
   ·rw[List.eq_of_mem_replicate h5]at H;simp only[List.mem_cons,List.not_mem_nil,or_false]at H;rcases H with rfl|rfl|rfl<;>rfl
  rw[ylt hk.2.1]at V;refine ex ?_;exact bkq (IH _ _ _ om ⟨j+Nat.min j (n-j),Y',rfl,rfl,rfl,rfl,om,om,V⟩)
 obtain rfl:j=n:=om;refine ax ?_;rw[Nat.sub_self,List.replicate_zero,List.append_nil]at o;exact K.r rfl rfl fun _ H_=>⟨_,o,Eu H_⟩
theorem P0{a b c a' H M:Int}:∀h(K:Bool->Heap->Prop),K (decide ((⟨a,b,c⟩:Wy)=⟨a',H,M⟩)) h->wpS prog (Op.equalIn (9999+1) 217 (.agg #[.J a,.J b,.J c]) (.agg #[.J a',.J H,.J M])) h K:=fun h K k=>by
 have e:decide ((⟨a,b,c⟩:Wy)=⟨a',H,M⟩)=decide (a=a'/\b=H/\c=M):=by congr 1;simp
 rw[e]at k;exact xbk underlying217 k_ (ye4 underlying3 underlying3 underlying3 rfl rfl rfl d_ d_ d_ k_ k_ k_) k
theorem yvl{w:Wy}{c:List Value}(hc:c=w.cells:=by rfl):(X.wcs xs).set d c=X.wcs (xs.set d w):=by subst hc;simp[X.wcs,List.map_set]
theorem yo5{a:Option Addr}(s:Shf)(S:Cy p a b s)(hk:s.ok)(z:Nat×Nat)(hG:p 1=some (.cells #[.J (-1),.J 0,.J 0] tN z))(fv:Value)(lt:Wy->Wy->Bool)(a9:∀h_,Per p h_-> ∀a b c a' b' c':Int,Be prog md fv [.agg #[.J a,.J b,.J c],.agg #[.J a',.J b',.J c']] h_ fun v h'=>v=.bool (lt ⟨a,b,c⟩ ⟨a',b',c'⟩)/\Av h_ h')(Fh:Int)(hm:0<=Fh/\Fh<=99):Nc prog md p 283 #[.agg #[.slice a s.Ah.length ca,.slice b s.Af.length cb,.J s.deep,.J s.Cp,.J s.rest],fv,.J Fh] (fun v Y=>Aa 217 3 v (wcs (Bs lt s (min Fh.toNat s.Af.length))) Y):=by
 intro h hp;have hl:=hk.2.2.1;refine xtq hp func283 fun K b1=>?_;refine ax ?_;refine xxx rfl fun v Y o=>?_;refine ax ?_;refine xsb o rfl fun p' a1 b5 le e1 S1=>?_;subst e1;have S:=S.mono le;have hG:=le _ _ hG;refine xjb rfl rfl (yy4 nW S1 (s.Af.length+1) om) fun v Y o=>?_;refine ax ?_;obtain⟨b2,O,e2,a5,_⟩:=o.at0 (by rw[List.length_replicate];omega) d_;rw[List.length_replicate]at e2 a5;subst e2;refine ro_y rfl (xkb rfl rfl o (by rw[List.length_replicate];omega)) ?_;refine xkk (i:=s.Af.length) (j:=0) (e:=nW.cells) (vs:=zW.cells) rfl rfl o rfl rfl rfl rfl s_ d_ fun Y' o'=>?_;refine ax ?_;have o0:Aa 217 3 (.slice (some ⟨b2,0,none⟩) (s.Af.length+1) O) (wcs (Bs lt s 0)) Y':=by
  have e:wcs (Bs lt s 0)=(List.replicate (s.Af.length+1) nW.cells).set s.Af.length zW.cells:=by simp[X.wcs,Bs,List.map_set,List.map_replicate]
  rw[e];exact o'
 have a8:min Fh (s.Af.length:Int)=((min Fh.toNat s.Af.length:Nat):Int):=om;generalize hK:min Fh.toNat s.Af.length=kk at*;rw[a8]
 refine xhq (fun m l p_ L_=>∃(k:Nat)(v:Value)(Y:Pcs),m=kk-k/\l=[(1,none,fv),(3,none,w_ b1 0),(7,none,.J s.Af.length),(8,none,v),(28,none,.J (kk:Nat)),(29,none,.J (k:Nat))]/\PLe p' p_/\
  L_=[Y,[(b1,.cells #[.slice a s.Ah.length ca,.slice b s.Af.length cb,.J s.deep,.J s.Cp,.J s.rest] 215 (0,0))]]/\k<=kk/\Aa 217 3 v (wcs (Bs lt s k)) Y) ⟨0,_,Y',rfl,rfl,fun _ _ h=>h,rfl,Nat.zero_le _,o0⟩ sb ?_
 rintro _ _ p1 _ IH ⟨k,v,Y,rfl,rfl,V,rfl,b7,o⟩;refine cq (fun cc=>?_) (fun cc=>?_)
 ·refine ax ?_;refine xsb o (m:=s.Af.length+1) (by rw[xjd,xsj]) fun p2 a2 O a4 e2 So=>?_;subst e2;have hG:=a4 _ _ (V _ _ hG);have S:=(S.mono V).mono a4;refine xjb rfl rfl (yx4 So om om) fun v2 Y2 o2=>?_;obtain⟨b3,H,e3,a6,_⟩:=o2.at0 (by rw[xjd,xsj];omega) d_;rw[xjd,xsj]at e3 a6;subst e3;refine ax ?_;refine xhq (fun m l p_ L_=>∃(d:Nat)(Y:Pcs),m=s.Af.length-d/\l=[(1,none,fv),(3,none,w_ b1 0),(7,none,.J s.Af.length),(8,none,.slice a2 (s.Af.length+1) O),(9,none,.slice (some ⟨b3,0,none⟩) (s.Af.length+1) H),(28,none,.J (kk:Nat)),(29,none,.J (k:Nat)),(33,none,.J s.Af.length),(34,none,.J (d:Nat))]/\p2=p_/\L_=[Y,[(b1,.cells #[.slice a s.Ah.length ca,.slice b s.Af.length cb,.J s.deep,.J s.Cp,.J s.rest] 215 (0,0))]]/\d<=s.Af.length/\Aa 217 3 (.slice (some ⟨b3,0,none⟩) (s.Af.length+1) H) (wcs (Ko lt s (Bs lt s k) d)) Y) ⟨0,Y2,rfl,rfl,rfl,rfl,Nat.zero_le _,o2⟩ sb ?_;rintro _ _ _ _ b0 ⟨d,Y3,rfl,rfl,rfl,rfl,hd,o3⟩;refine cq (fun cd=>?_) (fun cd=>?_)
  ·refine ax ?_;have hf:=xvn (s:=s) (fr:=d) om
   refine xhq (fun m l p_ L_=>∃(next:Nat)(w:Wy)(Y:Pcs),m=s.Af.length+1-next/\l=[(1,none,fv),(3,none,w_ b1 0),(7,none,.J s.Af.length),(8,none,.slice a2 (s.Af.length+1) O),(9,none,.slice (some ⟨b3,0,none⟩) (s.Af.length+1) H),(10,none,.J (d:Nat)),(11,none,.J (next:Nat)),(28,none,.J (kk:Nat)),(29,none,.J (k:Nat)),(33,none,.J s.Af.length),(34,none,.J (d:Nat))]/\p2=p_/\L_=[Y,[(b1,.cells #[.slice a s.Ah.length ca,.slice b s.Af.length cb,.J s.deep,.J s.Cp,.J s.rest] 215 (0,0))]]/\d<next/\next<=Dw s d+1/\inW lt s (Bs lt s k) (Dw s d+1-next) next w=Ph lt s (Bs lt s k) d/\
    Aa 217 3 (.slice (some ⟨b3,0,none⟩) (s.Af.length+1) H) (wcs ((Ko lt s (Bs lt s k) d).set d w)) Y) ⟨d+1,(Bs lt s k).getD d nW,Y3,rfl,rfl,rfl,rfl,om,om,?_,?_⟩ sb ?_
   ·rw[Ph,Nat.add_sub_add_right]
   ·rw[yrz (by rw[xsj];omega)];exact o3
   rintro _ _ _ _ a7 ⟨next,w,Y4,rfl,rfl,rfl,rfl,b6,b8,a3,o4⟩;refine ax ?_;refine xpx rfl rfl (yw4 s S hk d om) ?_;refine cq (fun ce=>?_) (fun ce=>?_)
   ·refine ax ?_;refine xmw 12 [] [] [0,1,2,3,4,5,6,7,8,9,10,11] ?_;refine ex ?_;refine de_y rfl rfl (xmj rfl (So.get next _ (xkm (xs:=Bs lt s k) (i:=next) (by rw[xsj];have:=hf.2;omega))) (vs:=((Bs lt s k).getD next nW).cells)) ?_;refine de_y rfl rfl (xmj rfl (xzw (off:=0) (n:=3) hG) (vs:=[.J (-1),.J 0,.J 0])) ?_;refine ykw rfl rfl rfl P0 ?_;refine ex ?_;refine xhv rfl rfl rfl rfl sdt (fun _=>yv4 s S hk (next-1) om om) ?_;refine ex ?_;refine cq (fun cf=>?_) (fun cf=>?_)
    ·have hc:Kt s (Bs lt s k) next=none:=if_pos (cf.imp (fun z=>z) Classical.not_not.1)
     exact bkq (a7 _ _ _ om ⟨next+1,w,Y4,rfl,rfl,rfl,rfl,om,om,by rw[<- a3,show Dw s d+1-next=(Dw s d+1-(next+1))+1 by omega,inW,hc];rfl,o4⟩)
    have hb:=xjc (lt:=lt) hk (k:=k) next
    have hw:=xkm (xs:=Bs lt s k) (i:=next) (by rw[xsj];omega);have hr:=hk.Li (i:=next-1) om;have hm:=Ns (i:=next) om hk.2.2.2.2.2.1;unfold okR at hr;unfold okW at hb;refine ax ?_;have hc:Kt s (Bs lt s k) next=some ⟨((Bs lt s k).getD next nW).rings+1,((Bs lt s k).getD next nW).Fo+((s.rk (next-1)).st+next*s.Cp),next⟩:=if_neg fun z=>cf (z.imp (fun z=>z) fun z1 z2=>z2 z1)
    have M:inW lt s (Bs lt s k) (Dw s d+1-(next+1)) (next+1) (Oo lt w (Kt s (Bs lt s k) next))=Ph lt s (Bs lt s k) d:=by rw[<- a3,show Dw s d+1-next=(Dw s d+1-(next+1))+1 by omega];rfl
    rw[hc,Oo]at M;have hlen:d<((Ko lt s (Bs lt s k) d).set d w).length:=by rw[List.length_set,xps,xsj];omega
    refine xmw 19 [] [18] [0,1,2,3,4,5,6,7,8,9,10,11,12,13,14,15,16,17,18] ?_;refine ex ?_;refine de_y rfl rfl (y_lp rfl (So.get next _ hw 0 _ rfl)) ?_;refine ex ?_;refine de_y rfl rfl (y_lp rfl (So.get next _ hw 1 _ rfl)) ?_;refine ex ?_;refine xzz rfl rfl rfl (yu4 s S hk (next-1) om om) ?_;refine ex ?_;refine xec rfl fun b4=>?_;refine xa ?_;have ho:(wcs ((Ko lt s (Bs lt s k) d).set d w))[d]?=some w.cells:=(xkm hlen).trans (by rw[xrw,if_pos ⟨rfl,by simpa using hlen⟩]);refine xmw 15 [] [] [0,1,2,3,4,5,6,7,8,9,10,11,12,13,14] ?_;refine ex ?_;refine de_y rfl rfl (xew rfl rfl sdt sdt o4 (by rw[xjd];exact hlen)) ?_;refine de_y rfl rfl (ybx rfl sdt o4 rfl ho) ?_;refine de_y rfl rfl (xmj rfl (xzw (off:=0) (n:=3) hG) (vs:=[.J (-1),.J 0,.J 0])) ?_;refine ykw rfl rfl rfl P0 ?_;refine ex ?_;refine de_y rfl rfl (xew rfl rfl sdt sdt o4 (by rw[xjd];exact hlen)) ?_;refine de_y rfl rfl (ybx rfl sdt o4 rfl ho) ?_;refine xk8 rfl rfl rfl sdt rfl sdt (xgz fun _ pe=>a9 _ (fun b o e=>pe b o (a4 b o (V b o (le b o e)))) _ _ _ _ _ _) ?_;refine ex ?_;refine cq (fun cg=>?_) (fun cg=>?_)
    ·rw[if_pos (show w=nW\/lt _ w=true from cg)]at M;refine ax ?_;refine ro_y rfl (xkb rfl rfl o4 (by rw[xjd];exact hlen)) ?_;refine xkk (i:=d) (j:=0) rfl rfl o4 rfl rfl rfl rfl ho (Nat.le_of_ble_eq_true rfl) fun Y5 o5=>?_;exact bkq (a7 _ _ _ om ⟨next+1,⟨((Bs lt s k).getD next nW).rings+1,((Bs lt s k).getD next nW).Fo+((s.rk (next-1)).st+next*s.Cp),next⟩,Y5,rfl,rfl,rfl,rfl,om,om,M,o5.as ((yvl (w:=⟨((Bs lt s k).getD next nW).rings+1,((Bs lt s k).getD next nW).Fo+((s.rk (next-1)).st+next*s.Cp),next⟩) rfl).trans (congrArg X.wcs (List.set_set _)))⟩)
    exact bkq (a7 _ _ _ om ⟨next+1,w,Y4,rfl,rfl,rfl,rfl,om,om,by rw[<- M,if_neg (show ¬ (w=nW\/lt _ w=true) from cg)],o4⟩)
   ·obtain rfl:next=Dw s d+1:=om
    rw[Nat.sub_self,inW]at a3;subst a3;exact bkq (b0 _ _ _ om ⟨d+1,Y4,rfl,rfl,rfl,rfl,om,o4⟩)
  ·obtain rfl:d=s.Af.length:=om;exact bkq (IH _ _ _ om ⟨k+1,_,Y3,rfl,rfl,fun b o h=>a4 b o (V b o h),rfl,om,o3⟩)
 ·obtain rfl:k=kk:=om;refine ax ?_;exact K.r rfl rfl fun h_ H_=>⟨_,o,Eu H_⟩
theorem yj6{a:Option Addr}(s:Shf)(S:Cy p a b s)(hk:s.ok)(z:Nat×Nat)(hG:p 1=some (.cells #[.J (-1),.J 0,.J 0] tN z))(fv:Value)(lt:Wy->Wy->Bool)(a4:∀h_,Per p h_-> ∀a b c a' b' c':Int,Be prog md fv [.agg #[.J a,.J b,.J c],.agg #[.J a',.J b',.J c']] h_ fun v h'=>v=.bool (lt ⟨a,b,c⟩ ⟨a',b',c'⟩)/\Av h_ h'):Nc prog md p 248 #[.agg #[.slice a s.Ah.length ca,.slice b s.Af.length cb,.J s.deep,.J s.Cp,.J s.rest],fv,.J 12] (fun v Y=>(∃w es,v=.tuple #[.agg #[.J (El lt s 12).rings,.J (El lt s 12).Fo,.J (El lt s 12).next],w,.bool (!decide (El lt s 12=nW))]/\Aa 3 1 w es Y)):=by
 intro h hp;have hl:=hk.2.2.1;refine xhz hp func248 fun _ _ _ K=>?_;refine bq fun b1=>?_;refine xfx fun b2=>?_;refine ax ?_;refine xjb rfl rfl (yo5 s S hk z hG fv lt a4 12 om) fun v Y o=>?_;refine ax ?_;rw[show(12:Int).toNat=12 from rfl]at o;refine ycn o (m:=s.Af.length+1) (by rw[xjd,xsj]) fun p' a2 M le e2 V=>?_;subst e2;have hG:=le _ _ hG;have hB:El lt s 12=(Bs lt s (min 12 s.Af.length)).getD 0 nW:=rfl;generalize hK:min 12 s.Af.length=kk at*;have a3:=xkm (xs:=Bs lt s kk) (i:=0) (by rw[xsj];omega);have ho:=xjc (lt:=lt) hk (k:=kk) 0;refine xmw 5 [] [] [0,1,2,3,4] ?_;refine ex ?_;refine de_y rfl rfl (xmj rfl (V.get 0 _ a3) (vs:=((Bs lt s kk).getD 0 nW).cells)) ?_;refine de_y rfl rfl (xmj rfl (xzw (off:=0) (n:=3) hG) (vs:=[.J (-1),.J 0,.J 0])) ?_;refine ykw rfl rfl rfl P0 ?_;refine ex ?_;refine cq (fun cc=>?_) (fun cc=>?_)
 ·have e0:(Bs lt s kk).getD 0 nW=nW:=cc;refine ax ?_;refine xjj 3 1 fun o=>?_;refine xez func248 rfl (xpq rfl (.tmp rfl (.tmp rfl Ey.nil))) ?_;exact fun h_ H_=>K _ _ ⟨_,⟨_,_,by rw[hB,e0];rfl,o⟩,Eu H_⟩
 have e0:(Bs lt s kk).getD 0 nW≠nW:=cc;refine ax ?_;refine xjj 3 1 fun o=>?_
 refine xhq (fun m l p_ L_=>∃(d:Nat)(w:Value)(es:List (List Value))(Y:Pcs),m=s.Af.length+1-d/\l=[(9,none,.slice a2 (s.Af.length+1) M),(10,none,w),(11,none,.J (d:Nat)),(6,none,w_ b2 0)]/\p_=p'/\
  L_=[Y,[(b2,.cells #[.J 0,.J 0,.J 0] 217 (0,0))],[(b1,.cells #[.slice a s.Ah.length ca,.slice b s.Af.length cb,.J s.deep,.J s.Cp,.J s.rest] 215 (0,0))]]/\d<=s.Af.length/\es.length<=d/\Aa 3 1 w es Y) ⟨0,_,[],_,rfl,rfl,rfl,rfl,Nat.zero_le _,Nat.zero_le _,o⟩ sb ?_
 rintro _ _ _ _ IH ⟨d,w,es,Y,rfl,rfl,rfl,rfl,hd,a6,o⟩;have hw:=xkm (xs:=Bs lt s kk) (i:=d) (by rw[xsj];omega);have O:=xsp (lt:=lt) (s:=s) (k:=kk) d;unfold okN at O;refine ax ?_;refine ro_y rfl (y_lp rfl (V.get d _ hw 2 _ rfl)) ?_;refine cq (fun cd=>?_) (fun cd=>?_)
 ·have a5:(wcs (Bs lt s kk))[d]?=some ((Bs lt s kk).getD d nW).cells:=hw;obtain⟨d2,H⟩:∃d2:Nat,((Bs lt s kk).getD d nW).next=(d2:Int):=⟨((Bs lt s kk).getD d nW).next.toNat,om⟩
  refine ax ?_;refine ro_y rfl (y_lp rfl (V.get d _ hw 2 _ rfl)) ?_;refine xxx rfl fun v2 Y2 o2=>?_;have o2:Aa 3 1 v2 [[.J ((Bs lt s kk).getD d nW).next]] Y2:=o2;refine xiv rfl rfl o o2 (fun u hu=>by rw[List.mem_singleton.1 hu];rfl) (by simp;omega) fun v3 Y3 o3=>?_;refine ax ?_;refine ro_y rfl (y_lp rfl (V.get d _ hw 2 _ rfl)) ?_;refine ax ?_;rw[H]at O cd;rw[H];exact bkq (IH _ _ _ om ⟨d2,v3,_,Y3,rfl,rfl,rfl,rfl,om,by simp;omega,o3⟩)
 refine ax ?_;refine ro_y rfl (xmj rfl (V.get 0 _ a3) (vs:=((Bs lt s kk).getD 0 nW).cells)) ?_;refine ax ?_;refine xez func248 rfl (xpq rfl (.tmp rfl (.tmp rfl Ey.nil))) ?_;exact fun h_ H_=>K _ _ ⟨_,⟨_,_,by rw[hB,decide_eq_false e0];rfl,o⟩,Eu H_⟩
theorem xzs{a:Option Addr}(s:Shf)(S:Cy p a b s)(H:s.ok)(is:Prop)[Decidable is](hi:is):Dc prog md p 204 #[.agg #[.slice a s.Ah.length ca,.slice b s.Af.length cb,.J s.deep,.J s.Cp,.J s.rest],.bool (decide is)] (.tuple #[.agg #[.slice a s.Ah.length ca,.slice b s.Af.length cb,.J s.deep,.J s.Cp,.J s.rest],.J 0]):=by
 intro h M;have c:=yf2 md p a b ca cb s S ⟨by have:=H.1;omega,by have:=H.2.2.1;omega⟩ is h M;rw[show Eo s is=0 from by rw[Eo,if_pos H,if_pos hi]]at c;exact c
theorem xt3{a:Option Addr}(s:Shf)(S:Cy p a b s)(hn:s.Ah.length<=2^40/\s.Af.length<=2^40)(is:Prop)[Decidable is](e:Int)(he:Eo s is=e)(H:e≠0):Dc prog md p 204 #[.agg #[.slice a s.Ah.length ca,.slice b s.Af.length cb,.J s.deep,.J s.Cp,.J s.rest],.bool (decide is)] (.tuple #[.agg #[.slice none 0 0,.slice none 0 0,.J 0,.J 0,.J 0],.J e]):=by
 intro h M;have c:=yf2 md p a b ca cb s S hn is h M;rw[he,show opened a b ca cb s e=.agg #[.slice none 0 0,.slice none 0 0,.J 0,.J 0,.J 0] from if_neg H]at c;exact c
theorem yi2(md:Md)(p:Ab)(a b:Option Addr)(ca cb:Nat)(s:Shf)(S:Cy p a b s)(hn:s.Ah.length<=2^40/\s.Af.length<=2^40)(z:Nat×Nat)(hG:p 1=some (.cells #[.J (-1),.J 0,.J 0] tN z))(fv:Value)(lt:Wy->Wy->Bool)(a2:∀M,Per p M-> ∀a b c a' b' c':Int,Be prog md fv [.agg #[.J a,.J b,.J c],.agg #[.J a',.J b',.J c']] M fun v h'=>v=.bool (lt ⟨a,b,c⟩ ⟨a',b',c'⟩)/\Av M h'):Nc prog md p 200 #[.agg #[.slice a s.Ah.length ca,.slice b s.Af.length cb,.J s.deep,.J s.Cp,.J s.rest],fv] (fun v Y=>(∃w es,v=.tuple #[opened a b ca cb s (Ck lt s),.agg #[.J (Ka lt s).rings,.J (Ka lt s).Fo,.J (Ka lt s).next],w,.J (Ck lt s)]/\Aa 3 1 w es Y)):=by
 intro h hp;have hf:=xtn lt s;refine xhz hp func200 fun _ _ _ K=>?_;refine bq fun b1=>?_;refine xfx fun b2=>?_;refine xfx fun b3=>?_;refine ax ?_;rcases hf with⟨H,hf⟩|H
 ·refine xpx rfl rfl (xt3 s S hn True 20 (if_neg H) d_) ?_;refine lq fun b4=>?_;refine ax ?_;refine xcx rfl (fun cc=>?_) (fun cc=>absurd d_ cc);refine ax ?_;refine xcn 6 [] [3,4] [0,1,2,3,4,5] b2 b3 ?_;refine ex ?_;refine xa ?_;refine xjj 3 1 fun o=>?_;refine xez func200 rfl (xpq rfl (xpq rfl (.tmp rfl (.tmp rfl Ey.nil)))) ?_;exact fun M H_=>K _ _ ⟨_,⟨_,_,by rw[Ka,hf];rfl,o⟩,Eu H_⟩
 have O:s.ok:=by rcases H with H|H<;>exact H.1
 refine cdq (xzs s S O True trivial) ?_;refine lq fun b4=>?_;refine ax ?_;refine xcx rfl (fun cc=>absurd rfl cc) (fun cc=>?_);refine coq (yj6 s S O z hG fv lt a2) ?_;rintro _ Y ⟨w,es,rfl,o⟩;refine lq fun b5=>?_;refine ax ?_;rcases H with⟨_,hw,hf⟩|⟨_,hw,hf⟩
 ·refine xcx rfl (fun V=>?_) (fun V=>absurd (by simpa using hw) V);refine ax ?_;refine xcn 5 [] [2,3] [0,1,2,3,4] b2 b3 ?_;refine ex ?_;refine xa ?_;refine xjj 3 1 fun o=>?_;refine xez func200 rfl (xpq rfl (xpq rfl (.tmp rfl (.tmp rfl Ey.nil)))) ?_;exact fun M H_=>K _ _ ⟨_,⟨_,_,by rw[Ka,hf];rfl,o⟩,Eu H_⟩
 refine xcx rfl (fun V=>absurd V (by simpa using hw)) (fun V=>?_);refine ax ?_;refine xcn 6 [] [3,4] [0,1,2,3,4,5] b2 b3 ?_;refine xa ?_;refine xez func200 rfl (xpq rfl (xpq rfl (.tmp rfl (.tmp rfl Ey.nil)))) ?_;exact fun M H_=>K _ _ ⟨_,⟨_,_,by rw[Ka,hf];rfl,o⟩,Eu H_⟩
theorem xq7{a:Option Addr}(s:Shf)(S:Cy p a b s)(hn:s.Ah.length<=2^40/\s.Af.length<=2^40)(z:Nat×Nat)(hG:p 1=some (.cells #[.J (-1),.J 0,.J 0] tN z))(lt:Wy->Wy->Bool)(M:∀H,Per p H-> ∀a b c a' O V:Int,Be prog md fv [.agg #[.J a,.J b,.J c],.agg #[.J a',.J O,.J V]] H fun v h'=>v=.bool (lt ⟨a,b,c⟩ ⟨a',O,V⟩)/\Av H h')(he:Ck lt s=0):Nc prog md p 200 #[.agg #[.slice a s.Ah.length ca,.slice b s.Af.length cb,.J s.deep,.J s.Cp,.J s.rest],fv] (fun v Y=>(∃w es,v=.tuple #[.agg #[.slice a s.Ah.length ca,.slice b s.Af.length cb,.J s.deep,.J s.Cp,.J s.rest],.agg #[.J (El lt s 12).rings,.J (El lt s 12).Fo,.J (El lt s 12).next],w,.J 0]/\Aa 3 1 w es Y)):=by
 intro h hp;have c:=yi2 md p a b ca cb s S hn z hG fv lt M h hp;rw[Ka,if_pos he,he]at c;exact c
theorem ygv{a:Option Addr}(s:Shf)(S:Cy p a b s)(hn:s.Ah.length<=2^40/\s.Af.length<=2^40)(z:Nat×Nat)(hG:p 1=some (.cells #[.J (-1),.J 0,.J 0] tN z))(lt:Wy->Wy->Bool)(M:∀H,Per p H-> ∀a b c a' O V:Int,Be prog md fv [.agg #[.J a,.J b,.J c],.agg #[.J a',.J O,.J V]] H fun v h'=>v=.bool (lt ⟨a,b,c⟩ ⟨a',O,V⟩)/\Av H h')(he:Ck lt s≠0):Nc prog md p 200 #[.agg #[.slice a s.Ah.length ca,.slice b s.Af.length cb,.J s.deep,.J s.Cp,.J s.rest],fv] (fun v Y=>(∃w es,v=.tuple #[.agg #[.slice none 0 0,.slice none 0 0,.J 0,.J 0,.J 0],.agg #[.J (-1),.J 0,.J 0],w,.J (Ck lt s)]/\Aa 3 1 w es Y)):=by
 intro h hp;have c:=yi2 md p a b ca cb s S hn z hG fv lt M h hp;rw[Ka,if_neg he,show opened a b ca cb s (Ck lt s)=.agg #[.slice none 0 0,.slice none 0 0,.J 0,.J 0,.J 0] from if_neg he]at c;exact c
theorem ya0{lt:Wy->Wy->Bool}(h:Ck lt s=0):s.ok:=by
 rcases xtn lt s with⟨_,e⟩|⟨k,_,e⟩|⟨k,_,e⟩
 ·rw[e]at h;cases h
 ·exact k
 ·exact k
theorem yo9{a:Option Addr}(s:Shf)(S:Cy p a b s)(hn:s.Ah.length<=2^40/\s.Af.length<=2^40)(z:Nat×Nat)(hG:p 1=some (.cells #[.J (-1),.J 0,.J 0] tN z)):Dc prog md p 116 #[.agg #[.slice a s.Ah.length ca,.slice b s.Af.length cb,.J s.deep,.J s.Cp,.J s.rest]] (.tuple #[.J (Ft s),.J (Ck ltF s)]):=by
 refine xkq func116 fun K b1=>?_;refine ax ?_;by_cases he:Ck ltF s=0
 ·refine xjb rfl rfl (fun _ H=>xq7 s S hn z hG ltF (fun V H a b c a' O c'=>xgq k_ (yh2 a b c a' O c' V H)) he _ H) ?_;rintro _ Y ⟨w,es,rfl,o⟩;refine lq fun b2=>?_;refine xfx fun b3=>?_;refine ax ?_;refine xcx rfl (fun M=>absurd rfl M) (fun M=>?_);refine K.q ?_;rw[Ft,if_pos he,he];rfl
 ·refine xjb rfl rfl (fun _ H=>ygv s S hn z hG ltF (fun V H a b c a' O c'=>xgq k_ (yh2 a b c a' O c' V H)) he _ H) ?_;rintro _ Y ⟨w,es,rfl,o⟩;refine lq fun b2=>?_;refine xfx fun b3=>?_;refine ax ?_;refine xcx rfl (fun M=>?_) (fun M=>absurd he M);refine K.q ?_;rw[Ft,if_neg he];rfl
theorem ysg(md:Md)(a b:Option Addr)(ca cb:Nat)(s:Shf)(S:Cy p a b s)(hn:s.Ah.length<=2^40/\s.Af.length<=2^40)(z:Nat×Nat)(hG:p 1=some (.cells #[.J (-1),.J 0,.J 0] tN z)):Dc prog md p 118 #[.agg #[.slice a s.Ah.length ca,.slice b s.Af.length cb,.J s.deep,.J s.Cp,.J s.rest]] (.tuple #[.J (Cs s),.J (Ck ltC s)]):=by
 refine xkq func118 fun K b1=>?_;refine ax ?_;by_cases he:Ck ltC s=0
 ·have O:=ya0 he;have hl:=O.2.2.1;have hd:=xqt O (i:=s.Af.length) (Nat.le_refl _);have hw:okW _ (El ltC s 12):=xjc (lt:=ltC) O (k:=min 12 s.Af.length) 0;unfold okW at hw;refine xjb rfl rfl (fun _ H=>xq7 s S hn z hG ltC (fun h_ H a b c a' V c'=>xgq k_ (yg2 a b c a' V c' h_ H)) he _ H) ?_;rintro _ Y ⟨w,es,rfl,o⟩;refine lq fun b2=>?_;refine xfx fun b3=>?_;refine ax ?_;refine xcx rfl (fun M=>absurd rfl M) (fun M=>?_);refine ax ?_;refine xmw 6 [] [] [0,1,2,3,4,5] ?_;refine ex ?_;refine xzz rfl rfl rfl (yf7 s S O) ?_;refine ex ?_;refine K.q ?_;rw[Cs,if_pos he,he];rfl
 ·refine xjb rfl rfl (fun _ H=>ygv s S hn z hG ltC (fun h_ H a b c a' V c'=>xgq k_ (yg2 a b c a' V c' h_ H)) he _ H) ?_;rintro _ Y ⟨w,es,rfl,o⟩;refine lq fun b2=>?_;refine xfx fun b3=>?_;refine ax ?_;refine xcx rfl (fun M=>?_) (fun M=>absurd he M);refine K.q ?_;rw[Cs,if_neg he];rfl
theorem xgc(he:Ck ltC s=0):0<=Cs s/\Cs s<=10000:=by
 have H:=ya0 he;have O:=H.2.2.1;have M:=xqt H (i:=s.Af.length) (Nat.le_refl _);have hw:okW _ (El ltC s 12):=xjc (lt:=ltC) H (k:=min 12 s.Af.length) 0;unfold okW at hw;rw[Cs,if_pos he];omega
theorem xn5{a:Option Addr}{w:Nat}(s:Sl p a n w es)(h:d<=n):Sl p a d w (es.take d):=by
 have:=s.part (c:=n) (l:=0) (r:=d) (Nat.le_refl n) (Nat.zero_le d) h;rwa[xl4,Nat.sub_zero,List.drop_zero]at this
theorem ycl{a:Option Addr}(S:Cy p a b s)(h:d<=s.Af.length):Cy p a b (Fc s d):=
 ⟨S.r,by have:=xn5 S.f h;rw[<- List.map_take]at this;show Sl p b (s.Af.take d).length 1 _;rw[List.length_take,Nat.min_eq_left h];exact this⟩
theorem yl9{a:Option Addr}(s:Shf)(S:Cy p a b s)(hn:s.Ah.length<=2^40/\s.Af.length<=2^40)(hc:s.Af.length<=cb)(z:Nat×Nat)(hG:p 1=some (.cells #[.J (-1),.J 0,.J 0] tN z))(H:Int):Dc prog md p 120 #[.agg #[.slice a s.Ah.length ca,.slice b s.Af.length cb,.J s.deep,.J s.Cp,.J s.rest],.J H] (.tuple #[.J (Kx s H),.J (Ly s H)]):=by
 refine xkq func120 fun K b1=>?_;refine ax ?_;refine xmw 9 [] [7,8] [0,1,2,3,4,5,6,7,8] ?_;refine ex ?_;refine xzz rfl rfl rfl cf99 ?_;by_cases he:Ly s H=0
 ·have hk:s.ok/\(0<=H/\H<=9999):=by
   unfold Ly Eo at he;split at he
   ·rename_i h1;split at he
    ·rename_i h2;exact⟨h1,h2⟩
    ·cases he
   ·cases he
  refine xzz rfl rfl rfl (xzs s S hk.1 _ hk.2) ?_;refine ex ?_;refine xec rfl fun b2=>?_;refine xa ?_;refine xcx rfl (fun V=>absurd rfl V) (fun V=>?_);refine ax ?_;refine xhq (fun m l p_ L_=>∃(d:Nat)(A:Pcs),m=d/\l=[(1,none,.J H),(2,none,w_ b1 0),(8,none,.J (d:Nat))]/\p_=p/\L_=[[(b1,.cells #[.slice a s.Ah.length ca,.slice b s.Af.length cb,.J s.deep,.J s.Cp,.J s.rest] 25 (0,0))],A]/\d<=s.Af.length/\K5 s H d=K5 s H s.Af.length) ⟨s.Af.length,_,rfl,rfl,rfl,rfl,Nat.le_refl _,rfl⟩ sb ?_;rintro d _ _ _ IH ⟨_,A,rfl,rfl,rfl,rfl,hd,O⟩;refine cq (fun cd=>?_) (fun cd=>?_)
  ·obtain⟨M,rfl⟩:∃M,d=M+1:=⟨d-1,om⟩
   have e:(Fc s (M+1)).Af.length=M+1:=by simp[Fc];omega
   refine lq fun b3=>?_;refine ax ?_;refine xef (j:=M+1) rfl rfl om ?_;refine ax ?_;refine xpx rfl rfl (fun _ pe=>by have c:=ysg md a b ca cb (Fc s (M+1)) (ycl S hd) ⟨hn.1,om⟩ z hG _ pe;rw[e]at c;exact c) ?_;refine ax ?_;rw[K5]at O;refine cq (fun ce=>?_) (fun ce=>?_)
   ·refine ax ?_;rw[if_pos ce]at O;refine K.q ?_;rw[Kx,if_pos he,he,<- O];rfl
   ·rw[if_neg ce]at O;refine ax ?_;rw[show((M+1:Nat):Int)-1=(M:Nat) by omega];exact bkq (IH _ _ _ (Nat.lt_succ_self M) ⟨M,A,rfl,rfl,rfl,rfl,om,O⟩)
  obtain rfl:d=0:=om;refine K.q ?_;rw[Kx,if_pos he,he,<- O];rfl
 ·refine xzz rfl rfl rfl (xt3 s S hn _ _ rfl he) ?_;refine ex ?_;refine xec rfl fun b2=>?_;refine xa ?_;refine xcx rfl (fun V=>?_) (fun V=>absurd he V);refine K.q ?_;rw[Kx,if_neg he];rfl
theorem yy3{a H:Option Addr}{r:Int}(S:Cy p a b s)(F:Sl p H n 1 (s.Af.map (fun x=>[.J x])++[[.J r]])):Cy p a H (Do s r):=
 ⟨S.r,by
  have M:=F.len;simp only[List.length_append,List.length_map,List.length_cons,List.length_nil]at M;have e:(Do s r).Af.length=n:=by rw[<- M];simp[Do]
  rw[e];show Sl p H n 1 _;rw[show(Do s r).Af=s.Af++[r] from rfl,List.map_append];exact F⟩
theorem yj9{a:Option Addr}(s:Shf)(S:Cy p a b s)(hn:s.Ah.length<=2^30/\s.Af.length<=2^30)(hc:s.Af.length<=cb)(z:Nat×Nat)(hG:p 1=some (.cells #[.J (-1),.J 0,.J 0] tN z))(r:Int):Dc prog md p 122 #[.agg #[.slice a s.Ah.length ca,.slice b s.Af.length cb,.J s.deep,.J s.Cp,.J s.rest],.J r] (.tuple #[.J (Hg s r),.J (FmZ s r)]):=by
 refine xkq func122 fun K b1=>?_;refine ax ?_;refine xmw 13 [] [11,12] [0,1,2,3,4,5,6,7,8,9,10,11,12] ?_;refine ex ?_;refine xzz rfl rfl rfl cf99 ?_;by_cases he:Eo s (0<=r/\r<=(s.Ah.length:Int)-1)=0
 ·have V:s.ok/\(0<=r/\r<=(s.Ah.length:Int)-1):=by
   unfold Eo at he;split at he
   ·rename_i h1;split at he
    ·rename_i h2;exact⟨h1,h2⟩
    ·cases he
   ·cases he
  have hl:=V.1.2.2.1;refine xzz rfl rfl rfl (xzs s S V.1 _ V.2) ?_;refine ex ?_;refine xec rfl fun b2=>?_;refine xa ?_;refine xcx rfl (fun O=>absurd rfl O) (fun O=>?_);refine cq (fun cd=>?_) (fun cd=>?_)
  ·refine ax ?_;have e:FmZ s r=2:=by rw[FmZ,if_neg (fun z=>z he),if_pos om]
   refine K.q ?_;rw[Hg,e,if_neg d_];rfl
  refine ax ?_;refine xpx rfl rfl (ysg md _ _ _ _ s S ⟨om,om⟩ z hG) ?_;refine cq (fun M=>?_) (fun M=>?_)
  ·refine ax ?_;have e:FmZ s r=Ck ltC s:=by rw[FmZ,if_neg (fun z=>z he),if_neg om,if_pos M]
   refine K.q ?_;rw[Hg,e,if_neg M];rfl
  have M:=Classical.not_not.1 M;refine ax ?_;refine ro_y rfl (yzq rfl rfl rfl hc) ?_;refine ax ?_;refine xxx rfl fun v2 Y2 o2=>?_;have o2:Aa 3 1 v2 [[.J r]] Y2:=o2;refine xz0 rfl rfl S.f o2 (Nat.succ_pos _) (by simp;omega) fun v3 Y3 o3=>?_;refine xzq o3 (m:=s.Af.length+1) s_ d_ fun p' b3 c3 g e3 a3 F=>?_;subst e3;have S':=yy3 (S.mono g.le) F;have a2:=g.le _ _ hG;refine ax ?_;refine xpx rfl rfl (fun _ pe=>by have c:=ysg md a b3 ca c3 (Do s r) S' ⟨by simp only[Do];omega,by simp[Do];omega⟩ z a2 _ pe;rw[show(Do s r).Af.length=s.Af.length+1 from by simp[Do]]at c;exact c) ?_;refine ax ?_;have e:FmZ s r=Ck ltC (Do s r):=by rw[FmZ,if_neg (fun z=>z he),if_neg om,if_neg (fun z=>z M)]
  refine cq (fun H=>?_) (fun H=>?_)
  ·refine K.q ?_;rw[Hg,e,if_neg H];rfl
  have H:=Classical.not_not.1 H;have a5:=xgc M;have a4:=xgc H;refine K.q ?_;rw[Hg,e,if_pos H,H];rfl
 ·refine xzz rfl rfl rfl (xt3 s S ⟨om,om⟩ _ _ rfl he) ?_;refine ex ?_;refine xec rfl fun b2=>?_;refine xa ?_;refine xcx rfl (fun O=>?_) (fun O=>absurd he O);refine ax ?_;have e:FmZ s r=Eo s (0<=r/\r<=(s.Ah.length:Int)-1):=by rw[FmZ,if_pos he]
  refine K.q ?_;rw[Hg,e,if_neg he];rfl
end Go.Proofs.YtofhlcococeifaaGreatDoor
