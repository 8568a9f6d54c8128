/-
  Part of proofs about a town's master: a calculus for Bj beside goroutines that are only leaving, and the Bj. No condition.
-/
import Derived.Test.YtadndcpcjmmngaaGreatDoorYI
import Derived.Test.YtadndcpcjmmngaaGreatDoorYF
set_option maxHeartbeats 1600000
set_option maxRecDepth 10000
namespace Go.X
open Go.Conc
variable{i:Nat}{p p':Aa}
structure Rk where
 hr:Int
 pe:Int
 sd:Int
 st:Int
variable{xs:List Rk}
def Rk.cells(r:Rk):List Value:=[.J r.hr,.J r.pe,.J r.sd,.J r.st]
def rz:Rk:=⟨0,0,0,0⟩
def rcs(xs:List Rk):List (List Value):=xs.map Rk.cells
def Rks(p:Aa)(a:Option Addr)(n:Nat)(xs:List Rk):Prop:=Sl p a n 4 (rcs xs)
section
variable{a:Option Addr}{n k:Nat}
theorem Rks.len(s:Rks p a n xs):xs.length=n:=by have:=Sl.len s;simpa[rcs]using this
theorem Rks.mono(H:PLe p p')(s:Rks p a n xs):Rks p' a n xs:=Sl.mono H s
theorem Rks.all(s:Rks p a n xs)(H:k<n):∀j v,[Value.J (xs.getD k rz).hr,.J (xs.getD k rz).pe,.J (xs.getD k rz).sd,.J (xs.getD k rz).st][j]?=some v->Au p (((adr a).add (k*4)).add j)=some v:=fun j v h=>by
 refine Sl.get s k (xs.getD k rz).cells ?_ j v h;have M:=s.len;rw[rcs,List.getElem?_map,List.getD_eq_getElem?_getD,List.getElem?_eq_getElem om];rfl
end
structure Shf where
 Ai:List Rk
 Af:List Int
 deep:Int
 Cs:Int
 rest:Int
variable{s:Shf}
structure Cz(p:Aa)(a b:Option Addr)(s:Shf):Prop where
 r:Rks p a s.Ai.length s.Ai
 f:Ar p b s.Af.length s.Af
theorem Cz.mono{p p':Aa}{a b:Option Addr}{s:Shf}(h:Cz p a b s)(H:PLe p p'):Cz p' a b s:=⟨h.r.mono H,h.f.mono H⟩
def okR(r:Rk):Prop:=(0<=r.hr/\r.hr<=9)/\(0<=r.pe/\r.pe<=99)/\(0<=r.sd/\r.sd<=12)/\ -1<=r.st/\r.st<=99
instance(r):Decidable (okR r):=by unfold okR;infer_instance
def okF(n:Nat)(x:Int):Prop:=0<=x/\x<=(n:Int)-1
instance(n x):Decidable (okF n x):=by unfold okF;infer_instance
def Shf.ok(s:Shf):Prop:=s.Ai.length<=4/\(∀r∈s.Ai,okR r)/\s.Af.length<=12/\(∀x∈s.Af,okF s.Ai.length x)/\(0<=s.deep/\s.deep<=9)/\(0<=s.Cs/\s.Cs<=9)/\0<=s.rest/\s.rest<=9
instance(s):Decidable (Shf.ok s):=by unfold Shf.ok;infer_instance
def Hd(s:Shf):Int:=if s.ok then 0 else 20
theorem yax:((((((4<(s.Ai.length:Int)\/0<=Flow.Cp (fun r=>!decide (okR r)) s.Ai)\/12<(s.Af.length:Int))\/0<=Flow.Cp (fun x=>!decide (okF s.Ai.length x)) s.Af)\/ ¬(0<=s.deep/\s.deep<=9))\/ ¬(0<=s.Cs/\s.Cs<=9))\/ ¬(0<=s.rest/\s.rest<=9))<-> ¬ s.ok:=by
 rw[Flow.Dl,Flow.Dl];simp only[Bool.not_eq_true',decide_eq_false_iff_not];constructor
 ·intro H z;unfold Shf.ok at z;rcases H with(((((H|⟨r,h1,h2⟩)|H)|⟨r,h1,h2⟩)|H)|H)|H<;>first|exact h2 (z.2.1 _ h1)|exact h2 (z.2.2.2.1 _ h1)|omega
 ·intro z;refine Classical.byContradiction fun n=>z ?_;simp only[not_or,not_exists,not_and,Classical.not_not]at n;obtain⟨⟨⟨⟨⟨⟨a,b⟩,c⟩,d⟩,e⟩,f⟩,g⟩:=n;exact⟨om,b,om,d,om,om,om⟩
def Shf.rk(s:Shf)(i:Nat):Rk:=s.Ai.getD (s.Af.getD i 0).toNat rz
def Eh(s:Shf)(is:Prop)[Decidable is]:Int:=if s.ok then(if is then 0 else 1)else 20
theorem Shf.ok.Fm{s:Shf}(h:s.ok){i:Nat}(hi:i<s.Af.length):0<=s.Af.getD i 0/\(s.Af.getD i 0).toNat<s.Ai.length/\s.Af.getD i 0<s.Ai.length:=by
 have:=h.2.2.2.1 (s.Af.getD i 0) (by rw[Flow.A8 hi];exact List.getElem_mem hi);unfold okF at this;omega
theorem Shf.ok.Kz{s:Shf}(h:s.ok){i:Nat}(hi:i<s.Af.length):okR (s.rk i):=by
 refine h.2.1 _ ?_;unfold Shf.rk;rw[Flow.A8 (h.Fm hi).2.1];exact List.getElem_mem _
def G5(s:Shf)(fr:Nat):Nat->Nat->Int->Nat
 |0,Fm,_=>Fm
 |r+1,Fm,st=>if((Fm:Int)-fr+1>min st (s.rk Fm).sd)then Fm else G5 s fr r (Fm+1) (min st (s.rk Fm).sd)
def Ds(s:Shf)(fr:Nat):Nat:=G5 s fr (s.Af.length-fr) fr 12
def K8(s:Shf):Nat->Int×Int
 |0=>(0,0)
 |i+1=>((K8 s i).1+((s.rk i).pe+i*s.deep),(K8 s i).2+(s.rk i).hr)
theorem M7{d:Int}(hi:i<=12)(h:0<=d/\d<=9):0<=(i:Int)*d/\(i:Int)*d<=108:=by
 have H:(i:Int)*d<=12*9:=Int.mul_le_mul om h.2 h.1 om;exact⟨Int.mul_nonneg om h.1,om⟩
theorem xqs{s:Shf}(h:s.ok):∀{i:Nat},i<=s.Af.length->(0<=(K8 s i).1/\(K8 s i).1<=207*i)/\0<=(K8 s i).2/\(K8 s i).2<=9*i
 |0,_=>by simp[K8]
 |i+1,hi=>by
   have O:=xqs h (i:=i) om;have H:=h.Kz (i:=i) om;have V:=h.2.2.1;have M:=M7 (i:=i) om h.2.2.2.2.1;unfold okR at H;simp only[K8];omega
structure Wy where
 rings:Int
 Fs:Int
 next:Int
deriving DecidableEq
variable{l out:List Wy}{w:Wy}
def nW:Wy:=⟨-1,0,0⟩
def zW:Wy:=⟨0,0,0⟩
def Ku(s:Shf)(out:List Wy)(next:Nat):Option Wy:=
 if out.getD next nW=nW\/(s.rk (next-1)).st= -1 then none else some ⟨(out.getD next nW).rings+1,(out.getD next nW).Fs+((s.rk (next-1)).st+next*s.Cs),next⟩
def N8(lt:Wy->Wy->Bool)(m:Wy):Option Wy->Wy
 |none=>m
 |some w=>if m=nW\/lt w m=true then w else m
def inW(lt:Wy->Wy->Bool)(s:Shf)(out:List Wy):Nat->Nat->Wy->Wy
 |0,_,m=>m
 |r+1,next,m=>inW lt s out r (next+1) (N8 lt m (Ku s out next))
def O5(lt:Wy->Wy->Bool)(s:Shf)(out:List Wy)(d:Nat):Wy:=inW lt s out (Ds s d-d) (d+1) (out.getD d nW)
def Kd(lt:Wy->Wy->Bool)(s:Shf)(out:List Wy):Nat->List Wy
 |0=>out
 |d+1=>(Kd lt s out d).set d (O5 lt s out d)
def Bn(lt:Wy->Wy->Bool)(s:Shf):Nat->List Wy
 |0=>(List.replicate (s.Af.length+1) nW).set s.Af.length zW
 |k+1=>Kd lt s (Bn lt s k) s.Af.length
def okW(k:Nat)(w:Wy):Prop:=(-1<=w.rings/\w.rings<=k)/\(0<=w.Fs/\w.Fs<=300*k)/\0<=w.next/\w.next<=12
theorem okW.up{k:Nat}{w:Wy}(h:okW k w):okW (k+1) w:=by unfold okW at *;omega
theorem uy9{lt s out d}:(Kd lt s out d).length=out.length:=by
 induction d with
 |zero=>rfl
 |succ d ih=>rw[Kd,List.length_set,ih]
theorem xmj{lt s k}:(Bn lt s k).length=s.Af.length+1:=by
 induction k with
 |zero=>simp[Bn]
 |succ k ih=>rw[Bn,uy9,ih]
theorem xo6{s:Shf}{fr:Nat}:∀{r Fm:Nat}{st:Int},Fm+r=s.Af.length->Fm<=G5 s fr r Fm st/\G5 s fr r Fm st<=s.Af.length
 |0,Fm,st,h=>by rw[G5];omega
 |r+1,Fm,st,h=>by
   rw[G5];split
   ·omega
   ·have:=xo6 (s:=s) (fr:=fr) (r:=r) (Fm:=Fm+1) (st:=min st (s.rk Fm).sd) om;omega
theorem xum{fr:Nat}(h:fr<=s.Af.length):fr<=Ds s fr/\Ds s fr<=s.Af.length:=xo6 om
theorem yif(H:s.ok){k next:Nat}(O:okW k (out.getD next nW))(h1:1<=next)(h2:next<=s.Af.length)(h:Ku s out next=some w):okW (k+1) w:=by
 unfold Ku at h;split at h
 ·cases h
 ·cases h;have M:=H.Kz (i:=next-1) om;have hl:=H.2.2.1;have V:=M7 (i:=next) om H.2.2.2.2.2.1;have hn:(s.rk (next-1)).st≠ -1:=fun z=>by simp_all
  unfold okR at M;unfold okW at*;refine⟨?_,?_,?_⟩<;>simp only<;>omega
theorem ykh{lt:Wy->Wy->Bool}{k:Nat}{m:Wy}{c:Option Wy}(H:okW k m)(hc:∀w,c=some w->okW k w):okW k (N8 lt m c):=by
 cases c with
 |none=>exact H
 |some w=>
   rw[N8];split
   ·exact hc w rfl
   ·exact H
theorem yng{lt:Wy->Wy->Bool}{s:Shf}(M:s.ok){out:List Wy}{k:Nat}(H:∀i,okW k (out.getD i nW)):∀{r next:Nat}{m:Wy},1<=next->next+r<=s.Af.length+1->okW (k+1) m->okW (k+1) (inW lt s out r next m)
 |0,_,_,_,_,h=>h
 |r+1,next,m,h1,h2,h=>by
   rw[inW];exact yng M H om om (ykh h fun w e=>yif M (H next) h1 om e)
theorem yn2{k:Nat}:okW k nW:=by unfold okW nW;simp only;omega
theorem xpw{d:Nat}:(l.set d w).getD i nW=if d=i/\i<l.length then w else l.getD i nW:=by
 rw[List.getD_eq_getElem?_getD,List.getElem?_set,List.getD_eq_getElem?_getD];by_cases h:d=i
 ·subst h;by_cases H:d<l.length
  ·simp[H]
  ·simp[H]
 ·simp[h]
theorem yox{lt:Wy->Wy->Bool}{s:Shf}(M:s.ok){out:List Wy}{k:Nat}(H:∀i,okW k (out.getD i nW)):∀{d:Nat},d<=s.Af.length-> ∀i,okW (k+1) ((Kd lt s out d).getD i nW)
 |0,_,i=>(H i).up
 |d+1,hd,i=>by
   rw[Kd,xpw];split
   ·have:=xum (s:=s) (fr:=d) om;exact yng M H om om (H d).up
   ·exact yox M H om i
theorem xvb{lt:Wy->Wy->Bool}{s:Shf}(H:s.ok):∀{k:Nat}(i:Nat),okW k ((Bn lt s k).getD i nW)
 |0,i=>by
   rw[Bn,xpw];split
   ·unfold okW zW;simp
   ·rw[List.getD_eq_getElem?_getD,List.getElem?_replicate];split<;>exact yn2
 |k+1,i=>yox H (fun i=>xvb H i) (Nat.le_refl _) i
theorem ypx{lt s out i}:∀{d:Nat},d<=i->(Kd lt s out d).getD i nW=out.getD i nW
 |0,_=>rfl
 |d+1,h=>by rw[Kd,xpw,if_neg om,ypx om]
theorem ynx{lt s out d}(h:d<out.length):(Kd lt s out d).set d (out.getD d nW)=Kd lt s out d:=by
 rw[<- ypx (lt:=lt) (s:=s) (Nat.le_refl d),List.getD_eq_getElem?_getD,List.getElem?_eq_getElem (by rw[uy9];exact h)];simp
def Wy.cells(w:Wy):List Value:=[.J w.rings,.J w.Fs,.J w.next]
def wcs(xs:List Wy):List (List Value):=xs.map Wy.cells
theorem ycq(xs:List Wy):∀u∈(wcs xs).flatten,Be u=true:=by
 intro u H;simp only[wcs,List.mem_flatten,List.mem_map]at H;obtain⟨_,⟨w,_,rfl⟩,H⟩:=H;simp only[Wy.cells,List.mem_cons,List.not_mem_nil,or_false]at H;rcases H with rfl|rfl|rfl<;>rfl
theorem xuc(xs:List Wy):(wcs xs).length=xs.length:=by simp[wcs]
theorem xll{xs:List Wy}(h:i<xs.length):(wcs xs)[i]?=some (xs.getD i nW).cells:=by
 rw[wcs,List.getElem?_map,List.getD_eq_getElem?_getD,List.getElem?_eq_getElem h];rfl
theorem yvr{α:Type}{e z:α}{n j k:Nat}(V:k<=j):(List.replicate j e++List.replicate (n-j) z).take j++((List.replicate j e++List.replicate (n-j) z).take k++(List.replicate j e++List.replicate (n-j) z).drop (j+k))=List.replicate (j+k) e++List.replicate (n-(j+k)) z:=by
 have M:(List.replicate j e++List.replicate (n-j) z).take j=List.replicate j e:=by rw[List.take_append_of_le_length s_];simp
 have O:(List.replicate j e++List.replicate (n-j) z).take k=List.replicate k e:=by rw[List.take_append_of_le_length (by simp;omega),List.take_replicate,Nat.min_eq_left V]
 have H:(List.replicate j e++List.replicate (n-j) z).drop (j+k)=List.replicate (n-(j+k)) z:=by
  rw[List.drop_append,List.drop_eq_nil_of_le s_,List.nil_append,List.drop_replicate];congr 1;simp;omega
 rw[M,O,H,<- List.append_assoc,List.replicate_append_replicate]
def okN(e d:Nat)(w:Wy):Prop:=w.next=0\/((d:Int)<w.next/\w.next<=e)
theorem xd6{lt:Wy->Wy->Bool}{s:Shf}{out:List Wy}{e d:Nat}:∀{r next:Nat}{m:Wy},d<next->next+r<=e+1->okN e d m->okN e d (inW lt s out r next m)
 |0,_,_,_,_,h=>h
 |r+1,next,m,h1,h2,h=>by
   rw[inW];refine xd6 om om ?_;unfold N8;split
   ·exact h
   ·rename_i w hw;split
    ·unfold Ku at hw;split at hw
     ·cases hw
     ·cases hw;exact .inr ⟨by simp only;omega,by simp only;omega⟩
    ·exact h
theorem xb0{lt:Wy->Wy->Bool}{s:Shf}{out:List Wy}(H:∀i,okN s.Af.length i (out.getD i nW)):∀{d:Nat},d<=s.Af.length-> ∀i,okN s.Af.length i ((Kd lt s out d).getD i nW)
 |0,_,i=>H i
 |d+1,hd,i=>by
   rw[Kd,xpw];split
   ·rename_i h;rw[<- h.1];have:=xum (s:=s) (fr:=d) om;exact xd6 om om (H d)
   ·exact xb0 H om i
theorem xcp{lt:Wy->Wy->Bool}{s:Shf}:∀{k:Nat}(i:Nat),okN s.Af.length i ((Bn lt s k).getD i nW)
 |0,i=>by
   rw[Bn,xpw];split
   ·exact .inl rfl
   ·rw[List.getD_eq_getElem?_getD,List.getElem?_replicate];split<;>exact .inl rfl
 |k+1,i=>xb0 (fun i=>xcp i) (Nat.le_refl _) i
def D8(lt:Wy->Wy->Bool)(s:Shf)(Ea:Nat):Wy:=(Bn lt s (min Ea s.Af.length)).getD 0 nW
def B7(lt:Wy->Wy->Bool)(s:Shf):Int:=if s.ok then(if D8 lt s 12=nW then 3 else 0)else 20
def H4(lt:Wy->Wy->Bool)(s:Shf):Wy:=if B7 lt s=0 then D8 lt s 12 else nW
def ltF(a b:Wy):Bool:=decide (a.rings<b.rings)
def ltC(a b:Wy):Bool:=decide (a.Fs<b.Fs)
def Ef(s:Shf):Int:=if B7 ltF s=0 then(D8 ltF s 12).rings else 0
def Cg(s:Shf):Int:=if B7 ltC s=0 then(K8 s s.Af.length).1+(D8 ltC s 12).Fs else 0
def Fh(s:Shf)(d:Nat):Shf:={s with Af:=s.Af.take d}
def Kt(s:Shf)(H:Int):Nat->Nat
 |0=>0
 |d+1=>if B7 ltC (Fh s (d+1))=0/\Cg (Fh s (d+1))<=H then d+1 else Kt s H d
def Ko(s:Shf)(H:Int):Int:=Eh s (0<=H/\H<=9999)
def Hb(s:Shf)(H:Int):Int:=if Ko s H=0 then Kt s H s.Af.length else 0
def Dq(s:Shf)(r:Int):Shf:={s with Af:=s.Af++[r]}
def E4(s:Shf)(r:Int):Int:=if Eh s (0<=r/\r<=(s.Ai.length:Int)-1)≠0 then Eh s (0<=r/\r<=(s.Ai.length:Int)-1)else if s.Af.length=12 then 2 else if B7 ltC s≠0 then B7 ltC s else B7 ltC (Dq s r)
def Gg(s:Shf)(r:Int):Int:=if E4 s r=0 then Cg (Dq s r)-Cg s else 0
theorem xrm(lt:Wy->Wy->Bool)(s:Shf):(¬ s.ok/\B7 lt s=20)\/(s.ok/\D8 lt s 12=nW/\B7 lt s=3)\/(s.ok/\D8 lt s 12≠nW/\B7 lt s=0):=by
 unfold B7;by_cases h:s.ok
 ·by_cases w:D8 lt s 12=nW
  ·exact .inr (.inl ⟨h,w,by rw[if_pos h,if_pos w]⟩)
  ·exact .inr (.inr ⟨h,w,by rw[if_pos h,if_neg w]⟩)
 ·exact .inl ⟨h,if_neg h⟩
end Go.X
namespace Go.Proofs.YtadndcpcjmmngaaGreatDoor
open Go.Proofs.Tryz
open Go.X Go.X.Flow Go.Conc
variable{h:Heap}{x y:Int}{es:List (List Value)}{xs:List Wy}{md:Md}{ca cb d n:Nat}{b:Option Addr}{p:Aa}{s:Shf}{tN:TypeId}{fv:Value}
theorem cf91{n lo hi:Int}:Dc prog md p 91 #[.J n,.J lo,.J hi] (.bool (decide (lo<=n/\n<=hi))):=by
 refine xlq func91 fun K=>?_;refine K.q ?_;exact congrArg _ (bpe Iff.rfl)
theorem cf90{r:Rk}:Dc prog md p 90 #[.agg #[.J r.hr,.J r.pe,.J r.sd,.J r.st]] (.bool (!decide (okR r))):=by
 refine xkq func90 fun K b1=>?_;refine cdq cf91 ?_;refine cgq (fun _=>cf91) ?_;refine cgq (fun _=>cf91) ?_;refine cgq (fun _=>cf91) ?_;refine K.q ?_;exact congrArg _ (bpn (by unfold okR;omega))
theorem yd6(V:Per p h)(fv:Value){a:Option Addr}{c:Nat}(xs:List Rk)(S:Rks p a n xs)(hn:n<=2^40)(q:Rk->Bool)
 (hf:∀h,Per p h-> ∀i,i<n->Ay prog md fv [.agg #[.J (xs.getD i rz).hr,.J (xs.getD i rz).pe,.J (xs.getD i rz).sd,.J (xs.getD i rz).st]] h fun v O=>v=.bool (q (xs.getD i rz))/\As h O):
 Ac prog md 182 #[.slice a n c,fv] h fun v O=>v=.J (Cp q xs)/\As h O:=by
 have hl:=S.len;refine xxx V func182 fun K=>?_;refine xnq (fun m l=>∃j:Nat,m=n-j/\l=[(0,none,.slice a n c),(1,none,fv),(7,none,.J n),(8,none,.J j)]/\j<=n/\ ∀i,i<j->q (xs.getD i rz)=false) ⟨0,rfl,rfl,Nat.zero_le _,om⟩ sb ?_;rintro _ _ IH ⟨j,rfl,rfl,hj,M⟩;refine cq (fun cc=>?_) (fun cc=>?_)
 ·refine ax ?_;refine ro_y rfl (xlk rfl (S.all om)) ?_;refine xqn rfl rfl (fun h_ pe=>hf h_ pe j om) ?_;refine cq (fun H=>?_) (fun H=>?_)
  ·refine K.q ?_;rw[Df (z:=rz) (k:=j) om H M];rfl
  ·exact bkq (IH _ om ⟨j+1,rfl,rfl,om,Dr M (by simpa using H)⟩)
 refine K.q ?_;rw[Da (z:=rz) (fun i hi=>M i om)];rfl
theorem cf93(M:Per p h){a:Option Addr}{c:Nat}{xs:List Rk}(S:Rks p a n xs)(hn:n<=2^40)(q:Rk->Bool)
 (hf:∀h,Per p h-> ∀i,i<n->Ay prog md fv [.agg #[.J (xs.getD i rz).hr,.J (xs.getD i rz).pe,.J (xs.getD i rz).sd,.J (xs.getD i rz).st]] h fun v H=>v=.bool (q (xs.getD i rz))/\As h H):
 Ac prog md 93 #[.slice a n c,fv] h fun v H=>v=.bool (decide (0<=Cp q xs))/\As h H:=by
 refine xxx M func93 fun K=>?_;refine cdq (fun _ pe=>yd6 pe fv xs S hn q hf) ?_;exact K.q rfl
theorem yc6(hp:Per p h)(fv:Value){a:Option Addr}{c:Nat}(xs:List Int)(S:Ar p a n xs)(hn:n<=2^40)(q:Int->Bool)
 (hf:∀h,Per p h-> ∀i,i<n->Ay prog md fv [.J (xs.getD i 0)] h fun v O=>v=.bool (q (xs.getD i 0))/\As h O):Ac prog md 183 #[.slice a n c,fv] h fun v O=>v=.J (Cp q xs)/\As h O:=by
 have hl:=S.len;refine xxx hp func183 fun K=>?_;refine xnq (fun m l=>∃j:Nat,m=n-j/\l=[(0,none,.slice a n c),(1,none,fv),(7,none,.J n),(8,none,.J j)]/\j<=n/\ ∀i,i<j->q (xs.getD i 0)=false) ⟨0,rfl,rfl,Nat.zero_le _,om⟩ sb ?_;rintro _ _ IH ⟨j,rfl,rfl,hj,M⟩;refine cq (fun cc=>?_) (fun cc=>?_)
 ·refine ax ?_;refine xqn rfl rfl (fun h_ V=>hf h_ V j om) ?_;refine cq (fun H=>?_) (fun H=>?_)
  ·refine K.q ?_;rw[Df (z:=0) (k:=j) om H M];rfl
  ·exact bkq (IH _ om ⟨j+1,rfl,rfl,om,Dr M (by simpa using H)⟩)
 refine K.q ?_;rw[Da (z:=0) (fun i hi=>M i om)];rfl
theorem cf94(O:Per p h){a:Option Addr}{c:Nat}{xs:List Int}(S:Ar p a n xs)(hn:n<=2^40)(q:Int->Bool)
 (hf:∀h,Per p h-> ∀i,i<n->Ay prog md fv [.J (xs.getD i 0)] h fun v H=>v=.bool (q (xs.getD i 0))/\As h H):Ac prog md 94 #[.slice a n c,fv] h fun v H=>v=.bool (decide (0<=Cp q xs))/\As h H:=by
 refine xxx O func94 fun K=>?_;refine cdq (fun _ M=>yc6 M fv xs S hn q hf) ?_;exact K.q rfl
theorem cf92{a:Option Addr}(s:Shf)(hn:s.Ai.length<=2^40){bt:Nat}(H:p bt=some (.cells #[.slice a s.Ai.length ca,.slice b s.Af.length cb,.J s.deep,.J s.Cs,.J s.rest] 25 (0,0))):Dc prog md p 92 #[.J x,w_ bt 0] (.bool (!decide (okF s.Ai.length x))):=by
 refine xlq func92 fun K=>?_;refine cdq cf91 ?_;exact K.q rfl
theorem cf49{a:Option Addr}(s:Shf)(S:Cz p a b s)(hn:s.Ai.length<=2^40/\s.Af.length<=2^40):Dc prog md p 49 #[.agg #[.slice a s.Ai.length ca,.slice b s.Af.length cb,.J s.deep,.J s.Cs,.J s.rest]] (.J (Hd s)):=by
 refine xkq func49 fun K b1=>?_;refine xlw (b:=b1) fun p' V O=>?_;have S:=S.mono V;refine ax ?_;refine xxj rfl rfl rfl sdt (fun _ _ H=>cf93 H S.r hn.1 (fun r=>!decide (okR r)) fun _ H _ _=>xgq k_ (cf90 _ H)) ?_;refine ax ?_;refine xxj rfl rfl rfl sdt (fun _ _ H=>cf94 H S.f hn.2 (fun x=>!decide (okF s.Ai.length x)) fun _ H _ _=>xgq k_ (cf92 s hn.1 O _ H)) ?_;refine cgq (fun _=>cf91) ?_;refine cgq (fun _=>cf91) ?_;refine cgq (fun _=>cf91) ?_;refine cq (fun M=>?_) (fun M=>?_)
 ·refine K.q ?_;exact congrArg _ (show Hd s=20 from if_neg (yax.1 M)).symm
 ·refine K.q ?_;exact congrArg _ (show Hd s=0 from if_pos (Classical.not_not.1 fun z=>M (yax.2 z))).symm
theorem ybf{a:Option Addr}(s:Shf)(S:Cz p a b s)(M:s.ok)(i:Nat)(hi:i<s.Af.length):Dc prog md p 276 #[.agg #[.slice a s.Ai.length ca,.slice b s.Af.length cb,.J s.deep,.J s.Cs,.J s.rest],.J (i:Nat)] (.agg #[.J (s.rk i).hr,.J (s.rk i).pe,.J (s.rk i).sd,.J (s.rk i).st]):=by
 intro h H;have hf:=M.Fm hi;have V:=S.f;refine xez H func276 fun _ _ _ K=>?_;refine bq fun b1=>?_;refine xbx fun b2=>?_;refine ax ?_;refine xew 11 [] [] [0,1,2,3,4,5,6,7,8,9,10] ?_;refine ex ?_;refine de_y rfl rfl (xpc rfl rfl om om (S.r.ne om)) ?_;refine de_y rfl rfl (xlk rfl (S.r.all hf.2.1)) ?_;refine xa ?_;refine xbz func276 rfl (xoq rfl Es.nil) ?_;exact fun _ O=>K _ _ ⟨rfl,O.kept⟩
theorem ya5{a b c d:Int}(O:(-1000000<=a/\a<=1000000)/\(-1000000<=b/\b<=1000000)/\(-1000000<=c/\c<=1000000)/\ -1000000<=d/\d<=1000000):Dc prog md p 241 #[.agg #[.J a,.J b],.agg #[.J c,.J d]] (.agg #[.J (a+c),.J (b+d)]):=by
 intro h H;refine xez H func241 fun _ _ _ K=>?_;refine bq fun b1=>?_;refine bq fun b2=>?_;refine xbx fun V=>?_;refine ax ?_;refine xbz func241 rfl (xoq rfl Es.nil) ?_;exact fun _ M=>K _ _ ⟨rfl,M.kept⟩
theorem yz4{a:Option Addr}(s:Shf)(S:Cz p a b s)(H:s.ok)(i:Nat)(hi:i<s.Af.length):Dc prog md p 242 #[.agg #[.slice a s.Ai.length ca,.slice b s.Af.length cb,.J s.deep,.J s.Cs,.J s.rest],.J (i:Nat)] (.agg #[.J ((s.rk i).pe+i*s.deep),.J (s.rk i).hr]):=by
 intro h M;have hr:=H.Kz hi;have hl:=H.2.2.1;have V:=M7 (i:=i) om H.2.2.2.2.1;unfold okR at hr;refine xez M func242 fun _ _ _ K=>?_;refine bq fun b1=>?_;refine xbx fun b2=>?_;refine cdq (ybf s S H i hi) ?_;refine xbx fun b3=>?_;refine ax ?_;refine xbz func242 rfl (xoq rfl Es.nil) ?_;exact fun _ O=>K _ _ ⟨rfl,O.kept⟩
theorem yn3{a:Option Addr}(s:Shf)(S:Cz p a b s)(H:s.ok)(i:Nat)(hi:i<s.Af.length)(V:x=(i:Int)+1):Dc prog md p 320 #[.agg #[.slice a s.Ai.length ca,.slice b s.Af.length cb,.J s.deep,.J s.Cs,.J s.rest],.J x] (.bool (decide ((s.rk i).st≠ -1))):=by
 have O:=H.2.2.1;refine xkq func320 fun K b1=>?_;refine ax ?_;refine xrx rfl rfl (fun _ M=>show Ac _ _ _ #[_,.J (x-1)] _ _ from by rw[show x-1=(i:Int) by omega];exact ybf s S H i hi _ M) ?_;exact K.q rfl
theorem yx5{a:Option Addr}(s:Shf)(S:Cz p a b s)(H:s.ok):Dc prog md p 195 #[.agg #[.slice a s.Ai.length ca,.slice b s.Af.length cb,.J s.deep,.J s.Cs,.J s.rest]] (.agg #[.J (K8 s s.Af.length).1,.J (K8 s s.Af.length).2]):=by
 intro h hp;have hl:=H.2.2.1;refine xez hp func195 fun _ _ _ K=>?_;refine bq fun b1=>?_;refine xbx fun b2=>?_;refine ax ?_
 refine xjq (fun m l p_ L_=>∃j:Nat,m=s.Af.length-j/\l=[(1,none,w_ b1 0),(2,none,w_ b2 0),(7,none,.J s.Af.length),(8,none,.J j)]/\p_=p/\
  L_=[[(b2,.cells #[.J (K8 s j).1,.J (K8 s j).2] 215 (0,0))],[(b1,.cells #[.slice a s.Ai.length ca,.slice b s.Af.length cb,.J s.deep,.J s.Cs,.J s.rest] 208 (0,0))]]/\j<=s.Af.length) ⟨0,rfl,rfl,rfl,rfl,Nat.zero_le _⟩ sb ?_
 rintro _ _ _ _ IH ⟨j,rfl,rfl,rfl,rfl,V⟩;refine cq (fun cc=>?_) (fun cc=>?_)
 ·have hd:=xqs H V;have M:=H.Kz (i:=j) om;have hm:=M7 (i:=j) om H.2.2.2.2.1;unfold okR at M;refine ax ?_;refine xew 5 [] [] [0,1,2,3,4] ?_;refine ex ?_;refine xaj rfl rfl rfl (yz4 s S H j om) ?_;refine xaj rfl rfl rfl (ya5 om) ?_;refine ex ?_;exact bkq (IH _ _ _ om ⟨j+1,rfl,rfl,rfl,rfl,om⟩)
 obtain rfl:j=s.Af.length:=om;refine ax ?_;refine xbz func195 rfl (xoq rfl Es.nil) ?_;exact fun _ O=>K _ _ ⟨rfl,O.kept⟩
theorem ym3{a:Option Addr}(s:Shf)(S:Cz p a b s)(H:s.ok)(i:Nat)(hi:i<s.Af.length)(hx:x=(i:Int)+1):Dc prog md p 321 #[.agg #[.slice a s.Ai.length ca,.slice b s.Af.length cb,.J s.deep,.J s.Cs,.J s.rest],.J x] (.agg #[.J ((s.rk i).st+x*s.Cs),.J s.rest]):=by
 intro h hp;have hl:=H.2.2.1;have M:=H.Kz hi;have V:=M7 (i:=i+1) om H.2.2.2.2.2.1;rw[show((i+1:Nat):Int)=x by omega]at V;unfold okR at M;refine xez hp func321 fun _ _ _ K=>?_;refine bq fun b1=>?_;refine xbx fun b2=>?_;refine ax ?_;refine xew 15 [] [] [0,1,2,3,4,5,6,7,8,9,10,11,12,13,14] ?_;refine ex ?_;refine xaj rfl rfl rfl (fun _ O=>show Ac _ _ _ #[_,.J (x-1)] _ _ from by rw[show x-1=(i:Int) by omega];exact ybf s S H i hi _ O) ?_;refine xa ?_;refine xbz func321 rfl (xoq rfl Es.nil) ?_;exact fun _ H_=>K _ _ ⟨rfl,H_.kept⟩
theorem yo3{a:Option Addr}(s:Shf)(S:Cz p a b s)(M:s.ok)(fr:Nat)(hf:fr<=s.Af.length):Dc prog md p 319 #[.agg #[.slice a s.Ai.length ca,.slice b s.Af.length cb,.J s.deep,.J s.Cs,.J s.rest],.J (fr:Nat)] (.J (Ds s fr:Nat)):=by
 have hl:=M.2.2.1;refine xkq func319 fun K b1=>?_;refine ax ?_;refine xnq (fun m l=>∃(j:Nat)(st:Int),m=s.Af.length-j/\l=[(1,none,.J (fr:Nat)),(2,none,w_ b1 0),(5,none,.J st),(6,none,.J j)]/\fr<=j/\j<=s.Af.length/\G5 s fr (s.Af.length-j) j st=Ds s fr) ⟨fr,12,rfl,rfl,Nat.le_refl _,hf,rfl⟩ sb ?_;rintro _ _ IH ⟨j,st,rfl,rfl,h1,h2,H⟩;refine cq (fun O=>?_) (fun O=>?_)
 ·have e:s.Af.length-j=(s.Af.length-(j+1))+1:=om;rw[e,G5]at H;refine ax ?_;refine xrx rfl rfl (ybf s S M j om) ?_;refine cq (fun V=>?_) (fun V=>?_)
  ·rw[if_pos om]at H;refine K.q ?_;rw[<- H];rfl
  ·rw[if_neg om]at H;exact bkq (IH _ om ⟨j+1,_,rfl,rfl,om,om,H⟩)
 obtain rfl:j=s.Af.length:=om;rw[Nat.sub_self,G5]at H;refine K.q ?_;rw[<- H];rfl
theorem yv0(a b c a' H M:Int):Dc prog md p 193 #[.agg #[.J a,.J b,.J c],.agg #[.J a',.J H,.J M]] (.bool (decide (a<a'))):=by
 refine xkq func193 fun K b1=>?_;refine bq fun b2=>?_;exact K.q rfl
theorem yu0(a b c a' H M:Int):Dc prog md p 194 #[.agg #[.J a,.J b,.J c],.agg #[.J a',.J H,.J M]] (.bool (decide (b<H))):=by
 refine xkq func194 fun K b1=>?_;refine bq fun b2=>?_;exact K.q rfl
def opened(a b:Option Addr)(ca cb:Nat)(s:Shf)(e:Int):Value:=if e=0 then .agg #[.slice a s.Ai.length ca,.slice b s.Af.length cb,.J s.deep,.J s.Cs,.J s.rest]else .agg #[.slice none 0 0,.slice none 0 0,.J 0,.J 0,.J 0]
theorem yt0(md:Md)(p:Aa)(a b:Option Addr)(ca cb:Nat)(s:Shf)(S:Cz p a b s)(hn:s.Ai.length<=2^40/\s.Af.length<=2^40)(is:Prop)[Decidable is]:Dc prog md p 196 #[.agg #[.slice a s.Ai.length ca,.slice b s.Af.length cb,.J s.deep,.J s.Cs,.J s.rest],.bool (decide is)] (.tuple #[opened a b ca cb s (Eh s is),.J (Eh s is)]):=by
 intro h hp;refine xez hp func196 fun _ _ _ K=>?_;refine bq fun b1=>?_;refine xbx fun b2=>?_;refine cdq (cf49 s S hn) ?_;refine cq (fun O=>?_) (fun O=>?_)
 ·have M:¬ s.ok:=fun z=>O (if_pos z);have e:Eh s is=20:=if_neg M;have e':Hd s=20:=if_neg M;rw[e'];refine ax ?_;refine xbz func196 rfl (xoq rfl (Es.tmp rfl Es.nil)) ?_;exact fun _ H=>K _ _ ⟨by rw[e];rfl,H.kept⟩
 have M:s.ok:=Classical.not_not.1 fun z=>O (by rw[Hd,if_neg z];decide);refine cq (fun V=>?_) (fun V=>?_)
 ·have e:Eh s is=1:=by rw[Eh,if_pos M,if_neg V]
  refine ax ?_;refine xbz func196 rfl (xoq rfl (Es.tmp rfl Es.nil)) ?_;exact fun _ H=>K _ _ ⟨by rw[e];rfl,H.kept⟩
 ·have e:Eh s is=0:=by rw[Eh,if_pos M,if_pos (Classical.not_not.1 V)]
  refine ax ?_;refine xbz func196 rfl (xoq rfl (Es.tmp rfl Es.nil)) ?_;exact fun _ H=>K _ _ ⟨by rw[e];rfl,H.kept⟩
theorem yp3{a:Option Addr}{c:Nat}(S:Sl p a n 3 (wcs xs))(hn:n<=2^20)(M:0<n):Nc prog md p 318 #[.slice a n c] (fun v Y=>Ab 210 3 v (wcs xs) Y):=by
 refine xlq func318 fun K=>?_;refine ro_y rfl (xx9 rfl) ?_;refine cq (fun H=>?_) (fun H=>?_)
 ·exact absurd H (by rw[S.ne M];simp)
 refine ax ?_;refine xtx rfl fun v Y o=>?_;refine ax ?_;refine xmw rfl rfl o S (ycq xs) (by simp[chs];omega) (fun v' Y' O=>?_);refine ax ?_;exact K.r rfl rfl fun _ V=>⟨_,O,El V⟩
theorem yg3(H:0<=y/\y<=1048576):Dc prog md p 347 #[.int .u64 1,.int .u64 y] (.tuple #[.int .u64 0,.int .u64 y]):=by
 refine xlq func347 fun K=>?_;refine yfl rfl d_ ?_;refine ax ?_;refine yhx rfl d_ ?_;refine ax ?_;refine yfl rfl om ?_;refine ax ?_;refine yhx rfl om ?_;refine ax ?_;refine yhx rfl om ?_;refine ax ?_;refine yfl rfl om ?_;refine ax ?_;refine yhx rfl om ?_;refine ax ?_;refine yhx rfl om ?_;refine K.q ?_;simp[F8,Int.one_mul]
theorem yi3(M:0<=y/\y<=1048576):Dc prog md p 334 #[.int .u64 1,.int .u64 y] (.tuple #[.int .u64 0,.int .u64 y]):=by
 refine xlq func334 fun K=>?_;refine cq (fun H=>?_) (fun H=>?_)
 ·cases H
 refine cdq (yg3 M) ?_;exact K.q rfl
theorem yq3{a:Option Addr}{c:Nat}(w:Wy)(S:Sl p a 1 3 [w.cells])(n:Nat)(hn:1<=n/\n<=20):Nc prog md p 317 #[.slice a 1 c,.J (n:Nat)] (fun v Y=>Ab 210 3 v (List.replicate n w.cells) Y):=by
 refine xlq func317 fun K=>?_;refine cq (fun O=>?_) (fun O=>?_)
 ·omega
 refine ax ?_;refine ro_y rfl (xdb ⟨_,underlying3⟩ underlying228 rfl d_) ?_;refine ax ?_;refine ro_y rfl (xdb ⟨_,underlying3⟩ underlying228 rfl (Nz om)) ?_;refine xrx rfl rfl (yi3 om) ?_;refine cq (fun cd=>?_) (fun cd=>?_)
 ·omega
 refine ax ?_;refine ro_y rfl (xdb ⟨_,underlying228⟩ underlying3 rfl (wrZ om)) ?_;refine yel (n:=n) (zc:=[.J 0,.J 0,.J 0]) rfl rfl om fun v Y o=>?_;obtain⟨b,cap,e,M,_⟩:=o.at0 (by rw[List.length_replicate];omega) d_;rw[List.length_replicate]at e M;subst e;refine ax ?_;have one:∀u∈[w.cells].flatten,Be u=true:=ycq [w];refine ylr rfl rfl o S (by simp;omega) (by simp;omega) one fun Y1 V=>?_;refine ax ?_;refine xjq (fun m l p_ L_=>∃(j:Nat)(Y:Pcs),m=n-j/\l=[(7,none,.slice (some ⟨b,0,none⟩) n cap),(8,none,.J j)]/\p_=p/\L_=[Y]/\1<=j/\j<=n/\Ab 210 3 (.slice (some ⟨b,0,none⟩) n cap) (List.replicate j w.cells++List.replicate (n-j) [.J 0,.J 0,.J 0]) Y) ⟨1,Y1,rfl,rfl,rfl,rfl,om,om,by rw[List.drop_replicate]at V;exact V⟩ sb ?_;rintro _ _ _ _ IH ⟨j,Y,rfl,rfl,rfl,rfl,h1,h2,o⟩;have hl:(List.replicate j w.cells++List.replicate (n-j) [Value.J 0,.J 0,.J 0]).length=n:=by simp;omega
 refine cq (fun O=>?_) (fun O=>?_)
 ·refine ax ?_;refine xa5 9 [] [7] [0,1,2,3,4,5,6,7,8] Y ?_;refine ex ?_;refine yqt rfl rfl rfl om ?_;refine ex ?_;refine ypt rfl rfl rfl om ?_;have hk:Nat.min j (n-j)<=n-j/\Nat.min j (n-j)<=j/\0<Nat.min j (n-j):=⟨Nat.min_le_right _ _,Nat.min_le_left _ _,by show 0<min j (n-j);omega⟩
  refine yvt hl rfl o rfl rfl om d_ rfl om om (fun u hu=>?_) fun Y' o'=>?_
  ·obtain⟨e,h3,H⟩:=List.mem_flatten.1 hu;rcases List.mem_append.1 h3 with h5|h5
   ·rw[List.eq_of_mem_replicate h5]at H;exact one u (by simpa using H)
   ·rw[List.eq_of_mem_replicate h5]at H;simp only[List.mem_cons,List.not_mem_nil,or_false]at H;rcases H with rfl|rfl|rfl<;>rfl
  rw[yvr hk.2.1]at o';refine ex ?_;exact bkq (IH _ _ _ om ⟨j+Nat.min j (n-j),Y',rfl,rfl,rfl,rfl,om,om,o'⟩)
 obtain rfl:j=n:=om;refine ax ?_;rw[Nat.sub_self,List.replicate_zero,List.append_nil]at o;exact K.r rfl rfl fun _ H_=>⟨_,o,El H_⟩
theorem Ph{a b c a' H M:Int}:∀h(K:Bool->Heap->Prop),K (decide ((⟨a,b,c⟩:Wy)=⟨a',H,M⟩)) h->wpS prog (Op.equalIn (9999+1) 210 (.agg #[.J a,.J b,.J c]) (.agg #[.J a',.J H,.J M])) h K:=fun h K k=>by
 have e:decide ((⟨a,b,c⟩:Wy)=⟨a',H,M⟩)=decide (a=a'/\b=H/\c=M):=by congr 1;simp
 rw[e]at k;exact xvj underlying210 k_ (yu2 underlying3 underlying3 underlying3 rfl rfl rfl d_ d_ d_ k_ k_ k_) k
theorem yjh{w:Wy}{c:List Value}(hc:c=w.cells:=by rfl):(X.wcs xs).set d c=X.wcs (xs.set d w):=by subst hc;simp[X.wcs,List.map_set]
theorem yg4{a:Option Addr}(s:Shf)(S:Cz p a b s)(hk:s.ok)(z:Nat×Nat)(hG:p 1=some (.cells #[.J (-1),.J 0,.J 0] tN z))(fv:Value)(lt:Wy->Wy->Bool)(a9:∀h_,Per p h_-> ∀a b c a' b' c':Int,Ay prog md fv [.agg #[.J a,.J b,.J c],.agg #[.J a',.J b',.J c']] h_ fun v h'=>v=.bool (lt ⟨a,b,c⟩ ⟨a',b',c'⟩)/\As h_ h')(Ea:Int)(hm:0<=Ea/\Ea<=99):Nc prog md p 275 #[.agg #[.slice a s.Ai.length ca,.slice b s.Af.length cb,.J s.deep,.J s.Cs,.J s.rest],fv,.J Ea] (fun v Y=>Ab 210 3 v (wcs (Bn lt s (min Ea.toNat s.Af.length))) Y):=by
 intro h hp;have hl:=hk.2.2.1;refine xsq hp func275 fun K b1=>?_;refine ax ?_;refine xtx rfl fun v Y o=>?_;refine ax ?_;refine xlb o rfl fun p' a1 b6 le e1 S1=>?_;subst e1;have S:=S.mono le;have hG:=le _ _ hG;refine xeb rfl rfl (yq3 nW S1 (s.Af.length+1) om) fun v Y o=>?_;refine ax ?_;obtain⟨b2,M,e2,a7,_⟩:=o.at0 (by rw[List.length_replicate];omega) d_;rw[List.length_replicate]at e2 a7;subst e2;refine ro_y rfl (xfb rfl rfl o (by rw[List.length_replicate];omega)) ?_;refine xck (i:=s.Af.length) (j:=0) (e:=nW.cells) (vs:=zW.cells) rfl rfl o rfl rfl rfl rfl s_ d_ fun Y' o'=>?_;refine ax ?_;have o0:Ab 210 3 (.slice (some ⟨b2,0,none⟩) (s.Af.length+1) M) (wcs (Bn lt s 0)) Y':=by
  have e:wcs (Bn lt s 0)=(List.replicate (s.Af.length+1) nW.cells).set s.Af.length zW.cells:=by simp[X.wcs,Bn,List.map_set,List.map_replicate]
  rw[e];exact o'
 have b0:min Ea (s.Af.length:Int)=((min Ea.toNat s.Af.length:Nat):Int):=om;generalize hK:min Ea.toNat s.Af.length=kk at*;rw[b0]
 refine xjq (fun m l p_ L_=>∃(k:Nat)(v:Value)(Y:Pcs),m=kk-k/\l=[(1,none,fv),(3,none,w_ b1 0),(7,none,.J s.Af.length),(8,none,v),(28,none,.J (kk:Nat)),(29,none,.J (k:Nat))]/\PLe p' p_/\
  L_=[Y,[(b1,.cells #[.slice a s.Ai.length ca,.slice b s.Af.length cb,.J s.deep,.J s.Cs,.J s.rest] 208 (0,0))]]/\k<=kk/\Ab 210 3 v (wcs (Bn lt s k)) Y) ⟨0,_,Y',rfl,rfl,fun _ _ h=>h,rfl,Nat.zero_le _,o0⟩ sb ?_
 rintro _ _ p1 _ IH ⟨k,v,Y,rfl,rfl,a5,rfl,b8,o⟩;refine cq (fun cc=>?_) (fun cc=>?_)
 ·refine ax ?_;refine xlb o (m:=s.Af.length+1) (by rw[xuc,xmj]) fun p2 a2 M a3 e2 So=>?_;subst e2;have hG:=a3 _ _ (a5 _ _ hG);have S:=(S.mono a5).mono a3;refine xeb rfl rfl (yp3 So om om) fun v2 Y2 o2=>?_;obtain⟨b3,H,e3,a6,_⟩:=o2.at0 (by rw[xuc,xmj];omega) d_;rw[xuc,xmj]at e3 a6;subst e3;refine ax ?_;refine xjq (fun m l p_ L_=>∃(d:Nat)(Y:Pcs),m=s.Af.length-d/\l=[(1,none,fv),(3,none,w_ b1 0),(7,none,.J s.Af.length),(8,none,.slice a2 (s.Af.length+1) M),(9,none,.slice (some ⟨b3,0,none⟩) (s.Af.length+1) H),(28,none,.J (kk:Nat)),(29,none,.J (k:Nat)),(33,none,.J s.Af.length),(34,none,.J (d:Nat))]/\p2=p_/\L_=[Y,[(b1,.cells #[.slice a s.Ai.length ca,.slice b s.Af.length cb,.J s.deep,.J s.Cs,.J s.rest] 208 (0,0))]]/\d<=s.Af.length/\Ab 210 3 (.slice (some ⟨b3,0,none⟩) (s.Af.length+1) H) (wcs (Kd lt s (Bn lt s k) d)) Y) ⟨0,Y2,rfl,rfl,rfl,rfl,Nat.zero_le _,o2⟩ sb ?_;rintro _ _ _ _ b5 ⟨d,Y3,rfl,rfl,rfl,rfl,hd,o3⟩;refine cq (fun cd=>?_) (fun cd=>?_)
  ·refine ax ?_;have hf:=xum (s:=s) (fr:=d) om
   refine xjq (fun m l p_ L_=>∃(next:Nat)(w:Wy)(Y:Pcs),m=s.Af.length+1-next/\l=[(1,none,fv),(3,none,w_ b1 0),(7,none,.J s.Af.length),(8,none,.slice a2 (s.Af.length+1) M),(9,none,.slice (some ⟨b3,0,none⟩) (s.Af.length+1) H),(10,none,.J (d:Nat)),(11,none,.J (next:Nat)),(28,none,.J (kk:Nat)),(29,none,.J (k:Nat)),(33,none,.J s.Af.length),(34,none,.J (d:Nat))]/\p2=p_/\L_=[Y,[(b1,.cells #[.slice a s.Ai.length ca,.slice b s.Af.length cb,.J s.deep,.J s.Cs,.J s.rest] 208 (0,0))]]/\d<next/\next<=Ds s d+1/\inW lt s (Bn lt s k) (Ds s d+1-next) next w=O5 lt s (Bn lt s k) d/\
    Ab 210 3 (.slice (some ⟨b3,0,none⟩) (s.Af.length+1) H) (wcs ((Kd lt s (Bn lt s k) d).set d w)) Y) ⟨d+1,(Bn lt s k).getD d nW,Y3,rfl,rfl,rfl,rfl,om,om,?_,?_⟩ sb ?_
   ·rw[O5,Nat.add_sub_add_right]
   ·rw[ynx (by rw[xmj];omega)];exact o3
   rintro _ _ _ _ a8 ⟨next,w,Y4,rfl,rfl,rfl,rfl,b9,b7,a4,V⟩;refine ax ?_;refine xrx rfl rfl (yo3 s S hk d om) ?_;refine cq (fun ce=>?_) (fun ce=>?_)
   ·refine ax ?_;refine xew 12 [] [] [0,1,2,3,4,5,6,7,8,9,10,11] ?_;refine ex ?_;refine de_y rfl rfl (xlk rfl (So.get next _ (xll (xs:=Bn lt s k) (i:=next) (by rw[xmj];have:=hf.2;omega))) (vs:=((Bn lt s k).getD next nW).cells)) ?_;refine de_y rfl rfl (xlk rfl (xvw (off:=0) (n:=3) hG) (vs:=[.J (-1),.J 0,.J 0])) ?_;refine yav rfl rfl rfl Ph ?_;refine ex ?_;refine xxk rfl rfl rfl rfl sdt (fun _=>yn3 s S hk (next-1) om om) ?_;refine ex ?_;refine cq (fun cf=>?_) (fun cf=>?_)
    ·have hc:Ku s (Bn lt s k) next=none:=if_pos (cf.imp (fun z=>z) Classical.not_not.1)
     exact bkq (a8 _ _ _ om ⟨next+1,w,Y4,rfl,rfl,rfl,rfl,om,om,by rw[<- a4,show Ds s d+1-next=(Ds s d+1-(next+1))+1 by omega,inW,hc];rfl,V⟩)
    have hb:=xvb (lt:=lt) hk (k:=k) next
    have hw:=xll (xs:=Bn lt s k) (i:=next) (by rw[xmj];omega);have hr:=hk.Kz (i:=next-1) om;have hm:=M7 (i:=next) om hk.2.2.2.2.2.1;unfold okR at hr;unfold okW at hb;refine ax ?_;have hc:Ku s (Bn lt s k) next=some ⟨((Bn lt s k).getD next nW).rings+1,((Bn lt s k).getD next nW).Fs+((s.rk (next-1)).st+next*s.Cs),next⟩:=if_neg fun z=>cf (z.imp (fun z=>z) fun z1 z2=>z2 z1)
    have O:inW lt s (Bn lt s k) (Ds s d+1-(next+1)) (next+1) (N8 lt w (Ku s (Bn lt s k) next))=O5 lt s (Bn lt s k) d:=by rw[<- a4,show Ds s d+1-next=(Ds s d+1-(next+1))+1 by omega];rfl
    rw[hc,N8]at O;have hlen:d<((Kd lt s (Bn lt s k) d).set d w).length:=by rw[List.length_set,uy9,xmj];omega
    refine xew 19 [] [18] [0,1,2,3,4,5,6,7,8,9,10,11,12,13,14,15,16,17,18] ?_;refine ex ?_;refine de_y rfl rfl (y_lp rfl (So.get next _ hw 0 _ rfl)) ?_;refine ex ?_;refine de_y rfl rfl (y_lp rfl (So.get next _ hw 1 _ rfl)) ?_;refine ex ?_;refine xaj rfl rfl rfl (ym3 s S hk (next-1) om om) ?_;refine ex ?_;refine xph rfl fun b4=>?_;refine xa ?_;have ho:(wcs ((Kd lt s (Bn lt s k) d).set d w))[d]?=some w.cells:=(xll hlen).trans (by rw[xpw,if_pos ⟨rfl,by simpa using hlen⟩]);refine xew 15 [] [] [0,1,2,3,4,5,6,7,8,9,10,11,12,13,14] ?_;refine ex ?_;refine de_y rfl rfl (xxv rfl rfl sdt sdt V (by rw[xuc];exact hlen)) ?_;refine de_y rfl rfl (xv9 rfl sdt V rfl ho) ?_;refine de_y rfl rfl (xlk rfl (xvw (off:=0) (n:=3) hG) (vs:=[.J (-1),.J 0,.J 0])) ?_;refine yav rfl rfl rfl Ph ?_;refine ex ?_;refine de_y rfl rfl (xxv rfl rfl sdt sdt V (by rw[xuc];exact hlen)) ?_;refine de_y rfl rfl (xv9 rfl sdt V rfl ho) ?_;refine xe7 rfl rfl rfl sdt rfl sdt (xdz fun _ pe=>a9 _ (fun b o e=>pe b o (a3 b o (a5 b o (le b o e)))) _ _ _ _ _ _) ?_;refine ex ?_;refine cq (fun cg=>?_) (fun cg=>?_)
    ·rw[if_pos (show w=nW\/lt _ w=true from cg)]at O;refine ax ?_;refine ro_y rfl (xfb rfl rfl V (by rw[xuc];exact hlen)) ?_;refine xck (i:=d) (j:=0) rfl rfl V rfl rfl rfl rfl ho (Nat.le_of_ble_eq_true rfl) fun Y5 o5=>?_;exact bkq (a8 _ _ _ om ⟨next+1,⟨((Bn lt s k).getD next nW).rings+1,((Bn lt s k).getD next nW).Fs+((s.rk (next-1)).st+next*s.Cs),next⟩,Y5,rfl,rfl,rfl,rfl,om,om,O,o5.as ((yjh (w:=⟨((Bn lt s k).getD next nW).rings+1,((Bn lt s k).getD next nW).Fs+((s.rk (next-1)).st+next*s.Cs),next⟩) rfl).trans (congrArg X.wcs (List.set_set _)))⟩)
    exact bkq (a8 _ _ _ om ⟨next+1,w,Y4,rfl,rfl,rfl,rfl,om,om,by rw[<- O,if_neg (show ¬ (w=nW\/lt _ w=true) from cg)],V⟩)
   ·obtain rfl:next=Ds s d+1:=om
    rw[Nat.sub_self,inW]at a4;subst a4;exact bkq (b5 _ _ _ om ⟨d+1,Y4,rfl,rfl,rfl,rfl,om,V⟩)
  ·obtain rfl:d=s.Af.length:=om;exact bkq (IH _ _ _ om ⟨k+1,_,Y3,rfl,rfl,fun b o h=>a3 b o (a5 b o h),rfl,om,o3⟩)
 ·obtain rfl:k=kk:=om;refine ax ?_;exact K.r rfl rfl fun h_ H_=>⟨_,o,El H_⟩
theorem yb5{a:Option Addr}(s:Shf)(S:Cz p a b s)(hk:s.ok)(z:Nat×Nat)(hG:p 1=some (.cells #[.J (-1),.J 0,.J 0] tN z))(fv:Value)(lt:Wy->Wy->Bool)(a5:∀M,Per p M-> ∀a b c a' b' c':Int,Ay prog md fv [.agg #[.J a,.J b,.J c],.agg #[.J a',.J b',.J c']] M fun v h'=>v=.bool (lt ⟨a,b,c⟩ ⟨a',b',c'⟩)/\As M h'):Nc prog md p 240 #[.agg #[.slice a s.Ai.length ca,.slice b s.Af.length cb,.J s.deep,.J s.Cs,.J s.rest],fv,.J 12] (fun v Y=>(∃w es,v=.tuple #[.agg #[.J (D8 lt s 12).rings,.J (D8 lt s 12).Fs,.J (D8 lt s 12).next],w,.bool (!decide (D8 lt s 12=nW))]/\Ab 3 1 w es Y)):=by
 intro h hp;have hl:=hk.2.2.1;refine xez hp func240 fun _ _ _ K=>?_;refine bq fun b1=>?_;refine xbx fun b2=>?_;refine ax ?_;refine xeb rfl rfl (yg4 s S hk z hG fv lt a5 12 om) fun v Y o=>?_;refine ax ?_;rw[show(12:Int).toNat=12 from rfl]at o;refine ypl o (m:=s.Af.length+1) (by rw[xuc,xmj]) fun p' a2 H le e2 V=>?_;subst e2;have hG:=le _ _ hG;have hB:D8 lt s 12=(Bn lt s (min 12 s.Af.length)).getD 0 nW:=rfl;generalize hK:min 12 s.Af.length=kk at*;have a3:=xll (xs:=Bn lt s kk) (i:=0) (by rw[xmj];omega);have ho:=xvb (lt:=lt) hk (k:=kk) 0;refine xew 5 [] [] [0,1,2,3,4] ?_;refine ex ?_;refine de_y rfl rfl (xlk rfl (V.get 0 _ a3) (vs:=((Bn lt s kk).getD 0 nW).cells)) ?_;refine de_y rfl rfl (xlk rfl (xvw (off:=0) (n:=3) hG) (vs:=[.J (-1),.J 0,.J 0])) ?_;refine yav rfl rfl rfl Ph ?_;refine ex ?_;refine cq (fun cc=>?_) (fun cc=>?_)
 ·have e0:(Bn lt s kk).getD 0 nW=nW:=cc;refine ax ?_;refine xyj 3 1 fun o=>?_;refine xbz func240 rfl (xoq rfl (.tmp rfl (.tmp rfl Es.nil))) ?_;exact fun M H_=>K _ _ ⟨_,⟨_,_,by rw[hB,e0];rfl,o⟩,El H_⟩
 have e0:(Bn lt s kk).getD 0 nW≠nW:=cc;refine ax ?_;refine xyj 3 1 fun o=>?_
 refine xjq (fun m l p_ L_=>∃(d:Nat)(w:Value)(es:List (List Value))(Y:Pcs),m=s.Af.length+1-d/\l=[(9,none,.slice a2 (s.Af.length+1) H),(10,none,w),(11,none,.J (d:Nat)),(6,none,w_ b2 0)]/\p_=p'/\
  L_=[Y,[(b2,.cells #[.J 0,.J 0,.J 0] 210 (0,0))],[(b1,.cells #[.slice a s.Ai.length ca,.slice b s.Af.length cb,.J s.deep,.J s.Cs,.J s.rest] 208 (0,0))]]/\d<=s.Af.length/\es.length<=d/\Ab 3 1 w es Y) ⟨0,_,[],_,rfl,rfl,rfl,rfl,Nat.zero_le _,Nat.zero_le _,o⟩ sb ?_
 rintro _ _ _ _ IH ⟨d,w,es,Y,rfl,rfl,rfl,rfl,hd,a6,o⟩;have hw:=xll (xs:=Bn lt s kk) (i:=d) (by rw[xmj];omega);have a4:=xcp (lt:=lt) (s:=s) (k:=kk) d;unfold okN at a4;refine ax ?_;refine ro_y rfl (y_lp rfl (V.get d _ hw 2 _ rfl)) ?_;refine cq (fun cd=>?_) (fun cd=>?_)
 ·have a7:(wcs (Bn lt s kk))[d]?=some ((Bn lt s kk).getD d nW).cells:=hw;obtain⟨d2,O⟩:∃d2:Nat,((Bn lt s kk).getD d nW).next=(d2:Int):=⟨((Bn lt s kk).getD d nW).next.toNat,om⟩
  refine ax ?_;refine ro_y rfl (y_lp rfl (V.get d _ hw 2 _ rfl)) ?_;refine xtx rfl fun v2 Y2 o2=>?_;have o2:Ab 3 1 v2 [[.J ((Bn lt s kk).getD d nW).next]] Y2:=o2;refine xbv rfl rfl o o2 (fun u hu=>by rw[List.mem_singleton.1 hu];rfl) (by simp;omega) fun v3 Y3 o3=>?_;refine ax ?_;refine ro_y rfl (y_lp rfl (V.get d _ hw 2 _ rfl)) ?_;refine ax ?_;rw[O]at a4 cd;rw[O];exact bkq (IH _ _ _ om ⟨d2,v3,_,Y3,rfl,rfl,rfl,rfl,om,by simp;omega,o3⟩)
 refine ax ?_;refine ro_y rfl (xlk rfl (V.get 0 _ a3) (vs:=((Bn lt s kk).getD 0 nW).cells)) ?_;refine ax ?_;refine xbz func240 rfl (xoq rfl (.tmp rfl (.tmp rfl Es.nil))) ?_;exact fun M H_=>K _ _ ⟨_,⟨_,_,by rw[hB,decide_eq_false e0];rfl,o⟩,El H_⟩
theorem xxr{a:Option Addr}(s:Shf)(S:Cz p a b s)(H:s.ok)(is:Prop)[Decidable is](hi:is):Dc prog md p 196 #[.agg #[.slice a s.Ai.length ca,.slice b s.Af.length cb,.J s.deep,.J s.Cs,.J s.rest],.bool (decide is)] (.tuple #[.agg #[.slice a s.Ai.length ca,.slice b s.Af.length cb,.J s.deep,.J s.Cs,.J s.rest],.J 0]):=by
 intro h M;have c:=yt0 md p a b ca cb s S ⟨by have:=H.1;omega,by have:=H.2.2.1;omega⟩ is h M;rw[show Eh s is=0 from by rw[Eh,if_pos H,if_pos hi]]at c;exact c
theorem xs2{a:Option Addr}(s:Shf)(S:Cz p a b s)(hn:s.Ai.length<=2^40/\s.Af.length<=2^40)(is:Prop)[Decidable is](e:Int)(he:Eh s is=e)(H:e≠0):Dc prog md p 196 #[.agg #[.slice a s.Ai.length ca,.slice b s.Af.length cb,.J s.deep,.J s.Cs,.J s.rest],.bool (decide is)] (.tuple #[.agg #[.slice none 0 0,.slice none 0 0,.J 0,.J 0,.J 0],.J e]):=by
 intro h M;have c:=yt0 md p a b ca cb s S hn is h M;rw[he,show opened a b ca cb s e=.agg #[.slice none 0 0,.slice none 0 0,.J 0,.J 0,.J 0] from if_neg H]at c;exact c
theorem yw0(md:Md)(p:Aa)(a b:Option Addr)(ca cb:Nat)(s:Shf)(S:Cz p a b s)(hn:s.Ai.length<=2^40/\s.Af.length<=2^40)(z:Nat×Nat)(hG:p 1=some (.cells #[.J (-1),.J 0,.J 0] tN z))(fv:Value)(lt:Wy->Wy->Bool)(a3:∀M,Per p M-> ∀a b c a' b' c':Int,Ay prog md fv [.agg #[.J a,.J b,.J c],.agg #[.J a',.J b',.J c']] M fun v h'=>v=.bool (lt ⟨a,b,c⟩ ⟨a',b',c'⟩)/\As M h'):Nc prog md p 192 #[.agg #[.slice a s.Ai.length ca,.slice b s.Af.length cb,.J s.deep,.J s.Cs,.J s.rest],fv] (fun v Y=>(∃w es,v=.tuple #[opened a b ca cb s (B7 lt s),.agg #[.J (H4 lt s).rings,.J (H4 lt s).Fs,.J (H4 lt s).next],w,.J (B7 lt s)]/\Ab 3 1 w es Y)):=by
 intro h hp;have hf:=xrm lt s;refine xez hp func192 fun _ _ _ K=>?_;refine bq fun b1=>?_;refine xbx fun b2=>?_;refine xbx fun b3=>?_;refine ax ?_;rcases hf with⟨H,hf⟩|H
 ·refine xrx rfl rfl (xs2 s S hn True 20 (if_neg H) d_) ?_;refine lq fun b4=>?_;refine ax ?_;refine xjx rfl (fun cc=>?_) (fun cc=>absurd d_ cc);refine ax ?_;refine xbm 6 [] [3,4] [0,1,2,3,4,5] b2 b3 ?_;refine ex ?_;refine xa ?_;refine xyj 3 1 fun o=>?_;refine xbz func192 rfl (xoq rfl (xoq rfl (.tmp rfl (.tmp rfl Es.nil)))) ?_;exact fun M O=>K _ _ ⟨_,⟨_,_,by rw[H4,hf];rfl,o⟩,El O⟩
 have a2:s.ok:=by rcases H with H|H<;>exact H.1
 refine cdq (xxr s S a2 True trivial) ?_;refine lq fun b4=>?_;refine ax ?_;refine xjx rfl (fun cc=>absurd rfl cc) (fun cc=>?_);refine coq (yb5 s S a2 z hG fv lt a3) ?_;rintro _ Y ⟨w,es,rfl,o⟩;refine lq fun b5=>?_;refine ax ?_;rcases H with⟨_,hw,hf⟩|⟨_,hw,hf⟩
 ·refine xjx rfl (fun V=>?_) (fun V=>absurd (by simpa using hw) V);refine ax ?_;refine xbm 5 [] [2,3] [0,1,2,3,4] b2 b3 ?_;refine ex ?_;refine xa ?_;refine xyj 3 1 fun o=>?_;refine xbz func192 rfl (xoq rfl (xoq rfl (.tmp rfl (.tmp rfl Es.nil)))) ?_;exact fun M O=>K _ _ ⟨_,⟨_,_,by rw[H4,hf];rfl,o⟩,El O⟩
 refine xjx rfl (fun V=>absurd V (by simpa using hw)) (fun V=>?_);refine ax ?_;refine xbm 6 [] [3,4] [0,1,2,3,4,5] b2 b3 ?_;refine xa ?_;refine xbz func192 rfl (xoq rfl (xoq rfl (.tmp rfl (.tmp rfl Es.nil)))) ?_;exact fun M O=>K _ _ ⟨_,⟨_,_,by rw[H4,hf];rfl,o⟩,El O⟩
theorem xm6{a:Option Addr}(s:Shf)(S:Cz p a b s)(hn:s.Ai.length<=2^40/\s.Af.length<=2^40)(z:Nat×Nat)(hG:p 1=some (.cells #[.J (-1),.J 0,.J 0] tN z))(lt:Wy->Wy->Bool)(M:∀H,Per p H-> ∀a b c a' V O:Int,Ay prog md fv [.agg #[.J a,.J b,.J c],.agg #[.J a',.J V,.J O]] H fun v h'=>v=.bool (lt ⟨a,b,c⟩ ⟨a',V,O⟩)/\As H h')(he:B7 lt s=0):Nc prog md p 192 #[.agg #[.slice a s.Ai.length ca,.slice b s.Af.length cb,.J s.deep,.J s.Cs,.J s.rest],fv] (fun v Y=>(∃w es,v=.tuple #[.agg #[.slice a s.Ai.length ca,.slice b s.Af.length cb,.J s.deep,.J s.Cs,.J s.rest],.agg #[.J (D8 lt s 12).rings,.J (D8 lt s 12).Fs,.J (D8 lt s 12).next],w,.J 0]/\Ab 3 1 w es Y)):=by
 intro h hp;have c:=yw0 md p a b ca cb s S hn z hG fv lt M h hp;rw[H4,if_pos he,he]at c;exact c
theorem ysj{a:Option Addr}(s:Shf)(S:Cz p a b s)(hn:s.Ai.length<=2^40/\s.Af.length<=2^40)(z:Nat×Nat)(hG:p 1=some (.cells #[.J (-1),.J 0,.J 0] tN z))(lt:Wy->Wy->Bool)(M:∀H,Per p H-> ∀a b c a' V O:Int,Ay prog md fv [.agg #[.J a,.J b,.J c],.agg #[.J a',.J V,.J O]] H fun v h'=>v=.bool (lt ⟨a,b,c⟩ ⟨a',V,O⟩)/\As H h')(he:B7 lt s≠0):Nc prog md p 192 #[.agg #[.slice a s.Ai.length ca,.slice b s.Af.length cb,.J s.deep,.J s.Cs,.J s.rest],fv] (fun v Y=>(∃w es,v=.tuple #[.agg #[.slice none 0 0,.slice none 0 0,.J 0,.J 0,.J 0],.agg #[.J (-1),.J 0,.J 0],w,.J (B7 lt s)]/\Ab 3 1 w es Y)):=by
 intro h hp;have c:=yw0 md p a b ca cb s S hn z hG fv lt M h hp;rw[H4,if_neg he,show opened a b ca cb s (B7 lt s)=.agg #[.slice none 0 0,.slice none 0 0,.J 0,.J 0,.J 0] from if_neg he]at c;exact c
theorem yns{lt:Wy->Wy->Bool}(h:B7 lt s=0):s.ok:=by
 rcases xrm lt s with⟨_,e⟩|⟨k,_,e⟩|⟨k,_,e⟩
 ·rw[e]at h;cases h
 ·exact k
 ·exact k
theorem yg8{a:Option Addr}(s:Shf)(S:Cz p a b s)(hn:s.Ai.length<=2^40/\s.Af.length<=2^40)(z:Nat×Nat)(hG:p 1=some (.cells #[.J (-1),.J 0,.J 0] tN z)):Dc prog md p 108 #[.agg #[.slice a s.Ai.length ca,.slice b s.Af.length cb,.J s.deep,.J s.Cs,.J s.rest]] (.tuple #[.J (Ef s),.J (B7 ltF s)]):=by
 refine xkq func108 fun K b1=>?_;refine ax ?_;by_cases he:B7 ltF s=0
 ·refine xeb rfl rfl (fun _ H=>xm6 s S hn z hG ltF (fun V H a b c a' b' O=>xgq k_ (yv0 a b c a' b' O V H)) he _ H) ?_;rintro _ Y ⟨w,es,rfl,o⟩;refine lq fun b2=>?_;refine xbx fun b3=>?_;refine ax ?_;refine xjx rfl (fun M=>absurd rfl M) (fun M=>?_);refine K.q ?_;rw[Ef,if_pos he,he];rfl
 ·refine xeb rfl rfl (fun _ H=>ysj s S hn z hG ltF (fun V H a b c a' b' O=>xgq k_ (yv0 a b c a' b' O V H)) he _ H) ?_;rintro _ Y ⟨w,es,rfl,o⟩;refine lq fun b2=>?_;refine xbx fun b3=>?_;refine ax ?_;refine xjx rfl (fun M=>?_) (fun M=>absurd he M);refine K.q ?_;rw[Ef,if_neg he];rfl
theorem yhf(md:Md)(a b:Option Addr)(ca cb:Nat)(s:Shf)(S:Cz p a b s)(hn:s.Ai.length<=2^40/\s.Af.length<=2^40)(z:Nat×Nat)(hG:p 1=some (.cells #[.J (-1),.J 0,.J 0] tN z)):Dc prog md p 110 #[.agg #[.slice a s.Ai.length ca,.slice b s.Af.length cb,.J s.deep,.J s.Cs,.J s.rest]] (.tuple #[.J (Cg s),.J (B7 ltC s)]):=by
 refine xkq func110 fun K b1=>?_;refine ax ?_;by_cases he:B7 ltC s=0
 ·have O:=yns he;have hl:=O.2.2.1;have hd:=xqs O (i:=s.Af.length) (Nat.le_refl _);have hw:okW _ (D8 ltC s 12):=xvb (lt:=ltC) O (k:=min 12 s.Af.length) 0;unfold okW at hw;refine xeb rfl rfl (fun _ H=>xm6 s S hn z hG ltC (fun h_ H a b c a' b' V=>xgq k_ (yu0 a b c a' b' V h_ H)) he _ H) ?_;rintro _ Y ⟨w,es,rfl,o⟩;refine lq fun b2=>?_;refine xbx fun b3=>?_;refine ax ?_;refine xjx rfl (fun M=>absurd rfl M) (fun M=>?_);refine ax ?_;refine xew 6 [] [] [0,1,2,3,4,5] ?_;refine ex ?_;refine xaj rfl rfl rfl (yx5 s S O) ?_;refine ex ?_;refine K.q ?_;rw[Cg,if_pos he,he];rfl
 ·refine xeb rfl rfl (fun _ H=>ysj s S hn z hG ltC (fun h_ H a b c a' b' V=>xgq k_ (yu0 a b c a' b' V h_ H)) he _ H) ?_;rintro _ Y ⟨w,es,rfl,o⟩;refine lq fun b2=>?_;refine xbx fun b3=>?_;refine ax ?_;refine xjx rfl (fun M=>?_) (fun M=>absurd he M);refine K.q ?_;rw[Cg,if_neg he];rfl
theorem xtb(he:B7 ltC s=0):0<=Cg s/\Cg s<=10000:=by
 have H:=yns he;have O:=H.2.2.1;have M:=xqs H (i:=s.Af.length) (Nat.le_refl _);have hw:okW _ (D8 ltC s 12):=xvb (lt:=ltC) H (k:=min 12 s.Af.length) 0;unfold okW at hw;rw[Cg,if_pos he];omega
theorem xk4{a:Option Addr}{w:Nat}(s:Sl p a n w es)(h:d<=n):Sl p a d w (es.take d):=by
 have:=s.part (c:=n) (l:=0) (r:=d) (Nat.le_refl n) (Nat.zero_le d) h;rwa[xl9,Nat.sub_zero,List.drop_zero]at this
theorem ypg{a:Option Addr}(S:Cz p a b s)(h:d<=s.Af.length):Cz p a b (Fh s d):=
 ⟨S.r,by have:=xk4 S.f h;rw[<- List.map_take]at this;show Sl p b (s.Af.take d).length 1 _;rw[List.length_take,Nat.min_eq_left h];exact this⟩
theorem yd8{a:Option Addr}(s:Shf)(S:Cz p a b s)(hn:s.Ai.length<=2^40/\s.Af.length<=2^40)(hc:s.Af.length<=cb)(z:Nat×Nat)(hG:p 1=some (.cells #[.J (-1),.J 0,.J 0] tN z))(H:Int):Dc prog md p 112 #[.agg #[.slice a s.Ai.length ca,.slice b s.Af.length cb,.J s.deep,.J s.Cs,.J s.rest],.J H] (.tuple #[.J (Hb s H),.J (Ko s H)]):=by
 refine xkq func112 fun K b1=>?_;refine ax ?_;refine xew 9 [] [7,8] [0,1,2,3,4,5,6,7,8] ?_;refine ex ?_;refine xaj rfl rfl rfl cf91 ?_;by_cases he:Ko s H=0
 ·have hk:s.ok/\(0<=H/\H<=9999):=by
   unfold Ko Eh at he;split at he
   ·rename_i h1;split at he
    ·rename_i h2;exact⟨h1,h2⟩
    ·cases he
   ·cases he
  refine xaj rfl rfl rfl (xxr s S hk.1 _ hk.2) ?_;refine ex ?_;refine xph rfl fun b2=>?_;refine xa ?_;refine xjx rfl (fun V=>absurd rfl V) (fun V=>?_);refine ax ?_;refine xjq (fun m l p_ L_=>∃(d:Nat)(A:Pcs),m=d/\l=[(1,none,.J H),(2,none,w_ b1 0),(8,none,.J (d:Nat))]/\p_=p/\L_=[[(b1,.cells #[.slice a s.Ai.length ca,.slice b s.Af.length cb,.J s.deep,.J s.Cs,.J s.rest] 25 (0,0))],A]/\d<=s.Af.length/\Kt s H d=Kt s H s.Af.length) ⟨s.Af.length,_,rfl,rfl,rfl,rfl,Nat.le_refl _,rfl⟩ sb ?_;rintro d _ _ _ IH ⟨_,A,rfl,rfl,rfl,rfl,hd,O⟩;refine cq (fun cd=>?_) (fun cd=>?_)
  ·obtain⟨M,rfl⟩:∃M,d=M+1:=⟨d-1,om⟩
   have e:(Fh s (M+1)).Af.length=M+1:=by simp[Fh];omega
   refine lq fun b3=>?_;refine ax ?_;refine xmd (j:=M+1) rfl rfl om ?_;refine ax ?_;refine xrx rfl rfl (fun _ pe=>by have c:=yhf md a b ca cb (Fh s (M+1)) (ypg S hd) ⟨hn.1,om⟩ z hG _ pe;rw[e]at c;exact c) ?_;refine ax ?_;rw[Kt]at O;refine cq (fun ce=>?_) (fun ce=>?_)
   ·refine ax ?_;rw[if_pos ce]at O;refine K.q ?_;rw[Hb,if_pos he,he,<- O];rfl
   ·rw[if_neg ce]at O;refine ax ?_;rw[show((M+1:Nat):Int)-1=(M:Nat) by omega];exact bkq (IH _ _ _ (Nat.lt_succ_self M) ⟨M,A,rfl,rfl,rfl,rfl,om,O⟩)
  obtain rfl:d=0:=om;refine K.q ?_;rw[Hb,if_pos he,he,<- O];rfl
 ·refine xaj rfl rfl rfl (xs2 s S hn _ _ rfl he) ?_;refine ex ?_;refine xph rfl fun b2=>?_;refine xa ?_;refine xjx rfl (fun V=>?_) (fun V=>absurd he V);refine K.q ?_;rw[Hb,if_neg he];rfl
theorem yo2{a H:Option Addr}{r:Int}(S:Cz p a b s)(F:Sl p H n 1 (s.Af.map (fun x=>[.J x])++[[.J r]])):Cz p a H (Dq s r):=
 ⟨S.r,by
  have M:=F.len;simp only[List.length_append,List.length_map,List.length_cons,List.length_nil]at M;have e:(Dq s r).Af.length=n:=by rw[<- M];simp[Dq]
  rw[e];show Sl p H n 1 _;rw[show(Dq s r).Af=s.Af++[r] from rfl,List.map_append];exact F⟩
theorem yb8{a:Option Addr}(s:Shf)(S:Cz p a b s)(hn:s.Ai.length<=2^30/\s.Af.length<=2^30)(hc:s.Af.length<=cb)(z:Nat×Nat)(hG:p 1=some (.cells #[.J (-1),.J 0,.J 0] tN z))(r:Int):Dc prog md p 114 #[.agg #[.slice a s.Ai.length ca,.slice b s.Af.length cb,.J s.deep,.J s.Cs,.J s.rest],.J r] (.tuple #[.J (Gg s r),.J (E4 s r)]):=by
 refine xkq func114 fun K b1=>?_;refine ax ?_;refine xew 13 [] [11,12] [0,1,2,3,4,5,6,7,8,9,10,11,12] ?_;refine ex ?_;refine xaj rfl rfl rfl cf91 ?_;by_cases he:Eh s (0<=r/\r<=(s.Ai.length:Int)-1)=0
 ·have hk:s.ok/\(0<=r/\r<=(s.Ai.length:Int)-1):=by
   unfold Eh at he;split at he
   ·rename_i h1;split at he
    ·rename_i h2;exact⟨h1,h2⟩
    ·cases he
   ·cases he
  have hl:=hk.1.2.2.1;refine xaj rfl rfl rfl (xxr s S hk.1 _ hk.2) ?_;refine ex ?_;refine xph rfl fun b2=>?_;refine xa ?_;refine xjx rfl (fun O=>absurd rfl O) (fun O=>?_);refine cq (fun cd=>?_) (fun cd=>?_)
  ·refine ax ?_;have e:E4 s r=2:=by rw[E4,if_neg (fun z=>z he),if_pos om]
   refine K.q ?_;rw[Gg,e,if_neg d_];rfl
  refine ax ?_;refine xrx rfl rfl (yhf md _ _ _ _ s S ⟨om,om⟩ z hG) ?_;refine cq (fun H=>?_) (fun H=>?_)
  ·refine ax ?_;have e:E4 s r=B7 ltC s:=by rw[E4,if_neg (fun z=>z he),if_neg om,if_pos H]
   refine K.q ?_;rw[Gg,e,if_neg H];rfl
  have H:=Classical.not_not.1 H;refine ax ?_;refine ro_y rfl (xt9 rfl rfl rfl hc) ?_;refine ax ?_;refine xtx rfl fun v2 Y2 o2=>?_;have o2:Ab 3 1 v2 [[.J r]] Y2:=o2;refine xa0 rfl rfl S.f o2 (Nat.succ_pos _) (by simp;omega) fun v3 Y3 o3=>?_;refine xhx o3 (m:=s.Af.length+1) s_ d_ fun p' b3 c3 g e3 a3 F=>?_;subst e3;have S':=yo2 (S.mono g.le) F;have V:=g.le _ _ hG;refine ax ?_;refine xrx rfl rfl (fun _ pe=>by have c:=yhf md a b3 ca c3 (Dq s r) S' ⟨by simp only[Dq];omega,by simp[Dq];omega⟩ z V _ pe;rw[show(Dq s r).Af.length=s.Af.length+1 from by simp[Dq]]at c;exact c) ?_;refine ax ?_;have e:E4 s r=B7 ltC (Dq s r):=by rw[E4,if_neg (fun z=>z he),if_neg om,if_neg (fun z=>z H)]
  refine cq (fun M=>?_) (fun M=>?_)
  ·refine K.q ?_;rw[Gg,e,if_neg M];rfl
  have M:=Classical.not_not.1 M;have a4:=xtb H;have a2:=xtb M;refine K.q ?_;rw[Gg,e,if_pos M,M];rfl
 ·refine xaj rfl rfl rfl (xs2 s S ⟨om,om⟩ _ _ rfl he) ?_;refine ex ?_;refine xph rfl fun b2=>?_;refine xa ?_;refine xjx rfl (fun O=>?_) (fun O=>absurd he O);refine ax ?_;have e:E4 s r=Eh s (0<=r/\r<=(s.Ai.length:Int)-1):=by rw[E4,if_pos he]
  refine K.q ?_;rw[Gg,e,if_neg he];rfl
end Go.Proofs.YtadndcpcjmmngaaGreatDoor
