/-
  Part of proofs about a town's master: a calculus for Be beside goroutines that are only leaving, and the Be. No condition.
-/
import Derived.Test.YtblcmdjhidhnjaaGreatDoorGI
import Derived.Test.YtblcmdjhidhnjaaGreatDoorGF
set_option maxRecDepth 10000
namespace Go.X
open Go.Conc
structure Rk where
 hr:Int
 pe:Int
 sd:Int
 st:Int
def Rk.cells(r:Rk):List Value:=[.J r.hr,.J r.pe,.J r.sd,.J r.st]
def rz:Rk:=⟨0,0,0,0⟩
def rcs(xs:List Rk):List (List Value):=xs.map Rk.cells
def Rks(p:Ab)(a:Option Addr)(n:Nat)(xs:List Rk):Prop:=Sl p a n 4 (rcs xs)
section
variable{p p':Ab}{a:Option Addr}{n k:Nat}{xs:List Rk}
theorem Rks.len(s:Rks p a n xs):xs.length=n:=by have:=Sl.len s;simpa[rcs]using this
theorem Rks.mono(H:PLe p p')(s:Rks p a n xs):Rks p' a n xs:=Sl.mono H s
theorem Rks.all(s:Rks p a n xs)(H:k<n):∀j v,[Value.J (xs.getD k rz).hr,.J (xs.getD k rz).pe,.J (xs.getD k rz).sd,.J (xs.getD k rz).st][j]?=some v->At p (((adr a).add (k*4)).add j)=some v:=fun j v h=>by
 refine Sl.get s k (xs.getD k rz).cells ?_ j v h;have M:=s.len;rw[rcs,List.getElem?_map,List.getD_eq_getElem?_getD,List.getElem?_eq_getElem om];rfl
end
structure Shf where
 Ah:List Rk
 Ag:List Int
 deep:Int
 Cf:Int
 rest:Int
structure Ck(p:Ab)(a b:Option Addr)(s:Shf):Prop where
 r:Rks p a s.Ah.length s.Ah
 f:As p b s.Ag.length s.Ag
theorem Ck.mono{p p':Ab}{a b:Option Addr}{s:Shf}(h:Ck p a b s)(H:PLe p p'):Ck p' a b s:=⟨h.r.mono H,h.f.mono H⟩
def okR(r:Rk):Prop:=(0<=r.hr/\r.hr<=9)/\(0<=r.pe/\r.pe<=99)/\(0<=r.sd/\r.sd<=12)/\ -1<=r.st/\r.st<=99
instance(r):Decidable (okR r):=by unfold okR;infer_instance
def okF(n:Nat)(x:Int):Prop:=0<=x/\x<=(n:Int)-1
instance(n x):Decidable (okF n x):=by unfold okF;infer_instance
def Shf.ok(s:Shf):Prop:=s.Ah.length<=4/\(∀r∈s.Ah,okR r)/\s.Ag.length<=12/\(∀x∈s.Ag,okF s.Ah.length x)/\(0<=s.deep/\s.deep<=9)/\(0<=s.Cf/\s.Cf<=9)/\0<=s.rest/\s.rest<=9
instance(s):Decidable (Shf.ok s):=by unfold Shf.ok;infer_instance
def Hc(s:Shf):Int:=if s.ok then 0 else 20
theorem xz8{s:Shf}:((((((4<(s.Ah.length:Int)\/0<=Flow.C2 (fun r=>!decide (okR r)) s.Ah)\/12<(s.Ag.length:Int))\/0<=Flow.C2 (fun x=>!decide (okF s.Ah.length x)) s.Ag)\/ ¬(0<=s.deep/\s.deep<=9))\/ ¬(0<=s.Cf/\s.Cf<=9))\/ ¬(0<=s.rest/\s.rest<=9))<-> ¬ s.ok:=by
 rw[Flow.Dn,Flow.Dn];simp only[Bool.not_eq_true',decide_eq_false_iff_not];constructor
 ·intro H z;unfold Shf.ok at z;rcases H with(((((H|⟨r,h1,h2⟩)|H)|⟨r,h1,h2⟩)|H)|H)|H<;>first|exact h2 (z.2.1 _ h1)|exact h2 (z.2.2.2.1 _ h1)|omega
 ·intro z;refine Classical.byContradiction fun n=>z ?_;simp only[not_or,not_exists,not_and,Classical.not_not]at n;obtain⟨⟨⟨⟨⟨⟨a,b⟩,c⟩,d⟩,e⟩,f⟩,g⟩:=n;exact⟨om,b,om,d,om,om,om⟩
def Shf.rk(s:Shf)(i:Nat):Rk:=s.Ah.getD (s.Ag.getD i 0).toNat rz
def Du(s:Shf)(is:Prop)[Decidable is]:Int:=if s.ok then(if is then 0 else 1)else 20
theorem Shf.ok.E7{s:Shf}(h:s.ok){i:Nat}(hi:i<s.Ag.length):0<=s.Ag.getD i 0/\(s.Ag.getD i 0).toNat<s.Ah.length/\s.Ag.getD i 0<s.Ah.length:=by
 have:=h.2.2.2.1 (s.Ag.getD i 0) (by rw[Flow.Bn hi];exact List.getElem_mem hi);unfold okF at this;omega
theorem Shf.ok.Kc{s:Shf}(h:s.ok){i:Nat}(hi:i<s.Ag.length):okR (s.rk i):=by
 refine h.2.1 _ ?_;unfold Shf.rk;rw[Flow.Bn (h.E7 hi).2.1];exact List.getElem_mem _
def G6(s:Shf)(fr:Nat):Nat->Nat->Int->Nat
 |0,E7,_=>E7
 |r+1,E7,st=>if((E7:Int)-fr+1>min st (s.rk E7).sd)then E7 else G6 s fr r (E7+1) (min st (s.rk E7).sd)
def Dj(s:Shf)(fr:Nat):Nat:=G6 s fr (s.Ag.length-fr) fr 12
def Kw(s:Shf):Nat->Int×Int
 |0=>(0,0)
 |i+1=>((Kw s i).1+((s.rk i).pe+i*s.deep),(Kw s i).2+(s.rk i).hr)
theorem Na{i:Nat}{d:Int}(hi:i<=12)(h:0<=d/\d<=9):0<=(i:Int)*d/\(i:Int)*d<=108:=by
 have H:(i:Int)*d<=12*9:=Int.mul_le_mul om h.2 h.1 om;exact⟨Int.mul_nonneg om h.1,om⟩
theorem xvr{s:Shf}(h:s.ok):∀{i:Nat},i<=s.Ag.length->(0<=(Kw s i).1/\(Kw s i).1<=207*i)/\0<=(Kw s i).2/\(Kw s i).2<=9*i
 |0,_=>by simp[Kw]
 |i+1,hi=>by
   have V:=xvr h (i:=i) om;have H:=h.Kc (i:=i) om;have O:=h.2.2.1;have M:=Na (i:=i) om h.2.2.2.2.1;unfold okR at H;simp only[Kw];omega
section
variable{k:Nat}
structure Wy where
 rings:Int
 Fc:Int
 next:Int
deriving DecidableEq
def nW:Wy:=⟨-1,0,0⟩
def zW:Wy:=⟨0,0,0⟩
def H6(s:Shf)(H:List Wy)(next:Nat):Option Wy:=
 if H.getD next nW=nW\/(s.rk (next-1)).st= -1 then none else some ⟨(H.getD next nW).rings+1,(H.getD next nW).Fc+((s.rk (next-1)).st+next*s.Cf),next⟩
def N0(lt:Wy->Wy->Bool)(m:Wy):Option Wy->Wy
 |none=>m
 |some w=>if m=nW\/lt w m=true then w else m
def inW(lt:Wy->Wy->Bool)(s:Shf)(H:List Wy):Nat->Nat->Wy->Wy
 |0,_,m=>m
 |r+1,next,m=>inW lt s H r (next+1) (N0 lt m (H6 s H next))
def Ph(lt:Wy->Wy->Bool)(s:Shf)(H:List Wy)(d:Nat):Wy:=inW lt s H (Dj s d-d) (d+1) (H.getD d nW)
def H2(lt:Wy->Wy->Bool)(s:Shf)(H:List Wy):Nat->List Wy
 |0=>H
 |d+1=>(H2 lt s H d).set d (Ph lt s H d)
def Bc(lt:Wy->Wy->Bool)(s:Shf):Nat->List Wy
 |0=>(List.replicate (s.Ag.length+1) nW).set s.Ag.length zW
 |k+1=>H2 lt s (Bc lt s k) s.Ag.length
def okW(k:Nat)(w:Wy):Prop:=(-1<=w.rings/\w.rings<=k)/\(0<=w.Fc/\w.Fc<=300*k)/\0<=w.next/\w.next<=12
theorem okW.up{w:Wy}(h:okW k w):okW (k+1) w:=by unfold okW at *;omega
theorem xvp{lt s out d}:(H2 lt s out d).length=out.length:=by
 induction d with
 |zero=>rfl
 |succ d ih=>rw[H2,List.length_set,ih]
theorem xnj{lt s k}:(Bc lt s k).length=s.Ag.length+1:=by
 induction k with
 |zero=>simp[Bc]
 |succ k ih=>rw[Bc,xvp,ih]
theorem xe5{s:Shf}{fr:Nat}:∀{r E7:Nat}{st:Int},E7+r=s.Ag.length->E7<=G6 s fr r E7 st/\G6 s fr r E7 st<=s.Ag.length
 |0,E7,st,h=>by rw[G6];omega
 |r+1,E7,st,h=>by
   rw[G6];split
   ·omega
   ·have:=xe5 (s:=s) (fr:=fr) (r:=r) (E7:=E7+1) (st:=min st (s.rk E7).sd) om;omega
theorem xem{s:Shf}{fr:Nat}(h:fr<=s.Ag.length):fr<=Dj s fr/\Dj s fr<=s.Ag.length:=xe5 om
theorem ybc{s:Shf}(M:s.ok){H:List Wy}{next:Nat}(ho:okW k (H.getD next nW))(h1:1<=next)(h2:next<=s.Ag.length){w:Wy}(h:H6 s H next=some w):okW (k+1) w:=by
 unfold H6 at h;split at h
 ·cases h
 ·cases h;have O:=M.Kc (i:=next-1) om;have hl:=M.2.2.1;have V:=Na (i:=next) om M.2.2.2.2.2.1;have hn:(s.rk (next-1)).st≠ -1:=fun z=>by simp_all
  unfold okR at O;unfold okW at*;refine⟨?_,?_,?_⟩<;>simp only<;>omega
theorem ybf{lt:Wy->Wy->Bool}{m:Wy}{c:Option Wy}(H:okW k m)(hc:∀w,c=some w->okW k w):okW k (N0 lt m c):=by
 cases c with
 |none=>exact H
 |some w=>
   rw[N0];split
   ·exact hc w rfl
   ·exact H
theorem ygd{lt:Wy->Wy->Bool}{s:Shf}(M:s.ok){H:List Wy}(O:∀i,okW k (H.getD i nW)):∀{r next:Nat}{m:Wy},1<=next->next+r<=s.Ag.length+1->okW (k+1) m->okW (k+1) (inW lt s H r next m)
 |0,_,_,_,_,h=>h
 |r+1,next,m,h1,h2,h=>by
   rw[inW];exact ygd M O om om (ybf h fun w e=>ybc M (O next) h1 om e)
theorem ycs:okW k nW:=by unfold okW nW;simp only;omega
theorem xqw{l:List Wy}{d i:Nat}{w:Wy}:(l.set d w).getD i nW=if d=i/\i<l.length then w else l.getD i nW:=by
 rw[List.getD_eq_getElem?_getD,List.getElem?_set,List.getD_eq_getElem?_getD];by_cases h:d=i
 ·subst h;by_cases H:d<l.length
  ·simp[H]
  ·simp[H]
 ·simp[h]
theorem ybq{lt:Wy->Wy->Bool}{s:Shf}(O:s.ok){H:List Wy}(M:∀i,okW k (H.getD i nW)):∀{d:Nat},d<=s.Ag.length-> ∀i,okW (k+1) ((H2 lt s H d).getD i nW)
 |0,_,i=>(M i).up
 |d+1,hd,i=>by
   rw[H2,xqw];split
   ·have:=xem (s:=s) (fr:=d) om;exact ygd O M om om (M d).up
   ·exact ybq O M om i
theorem xzb{lt:Wy->Wy->Bool}{s:Shf}(H:s.ok):∀{k:Nat}(i:Nat),okW k ((Bc lt s k).getD i nW)
 |0,i=>by
   rw[Bc,xqw];split
   ·unfold okW zW;simp
   ·rw[List.getD_eq_getElem?_getD,List.getElem?_replicate];split<;>exact ycs
 |k+1,i=>ybq H (fun i=>xzb H i) (Nat.le_refl _) i
theorem ycq{lt s out i}:∀{d:Nat},d<=i->(H2 lt s out d).getD i nW=out.getD i nW
 |0,_=>rfl
 |d+1,h=>by rw[H2,xqw,if_neg om,ycq om]
theorem yaq{lt s out d}(h:d<out.length):(H2 lt s out d).set d (out.getD d nW)=H2 lt s out d:=by
 rw[<- ycq (lt:=lt) (s:=s) (Nat.le_refl d),List.getD_eq_getElem?_getD,List.getElem?_eq_getElem (by rw[xvp];exact h)];simp
end
def Wy.cells(w:Wy):List Value:=[.J w.rings,.J w.Fc,.J w.next]
def wcs(xs:List Wy):List (List Value):=xs.map Wy.cells
theorem xd8(xs:List Wy):∀u∈(wcs xs).flatten,A7 u=true:=by
 intro u H;simp only[wcs,List.mem_flatten,List.mem_map]at H;obtain⟨_,⟨w,_,rfl⟩,H⟩:=H;simp only[Wy.cells,List.mem_cons,List.not_mem_nil,or_false]at H;rcases H with rfl|rfl|rfl<;>rfl
theorem xxc(xs:List Wy):(wcs xs).length=xs.length:=by simp[wcs]
theorem xvh{xs:List Wy}{i:Nat}(h:i<xs.length):(wcs xs)[i]?=some (xs.getD i nW).cells:=by
 rw[wcs,List.getElem?_map,List.getD_eq_getElem?_getD,List.getElem?_eq_getElem h];rfl
theorem ypn{α:Type}{e z:α}{n j k:Nat}(M:k<=j):(List.replicate j e++List.replicate (n-j) z).take j++((List.replicate j e++List.replicate (n-j) z).take k++(List.replicate j e++List.replicate (n-j) z).drop (j+k))=List.replicate (j+k) e++List.replicate (n-(j+k)) z:=by
 have V:(List.replicate j e++List.replicate (n-j) z).take j=List.replicate j e:=by rw[List.take_append_of_le_length s_];simp
 have O:(List.replicate j e++List.replicate (n-j) z).take k=List.replicate k e:=by rw[List.take_append_of_le_length (by simp;omega),List.take_replicate,Nat.min_eq_left M]
 have H:(List.replicate j e++List.replicate (n-j) z).drop (j+k)=List.replicate (n-(j+k)) z:=by
  rw[List.drop_append,List.drop_eq_nil_of_le s_,List.nil_append,List.drop_replicate];congr 1;simp;omega
 rw[V,O,H,<- List.append_assoc,List.replicate_append_replicate]
def okN(e d:Nat)(w:Wy):Prop:=w.next=0\/((d:Int)<w.next/\w.next<=e)
theorem xt4{lt:Wy->Wy->Bool}{s:Shf}{H:List Wy}{e d:Nat}:∀{r next:Nat}{m:Wy},d<next->next+r<=e+1->okN e d m->okN e d (inW lt s H r next m)
 |0,_,_,_,_,h=>h
 |r+1,next,m,h1,h2,h=>by
   rw[inW];refine xt4 om om ?_;unfold N0;split
   ·exact h
   ·rename_i w hw;split
    ·unfold H6 at hw;split at hw
     ·cases hw
     ·cases hw;exact .inr ⟨by simp only;omega,by simp only;omega⟩
    ·exact h
theorem xat{lt:Wy->Wy->Bool}{s:Shf}{H:List Wy}(M:∀i,okN s.Ag.length i (H.getD i nW)):∀{d:Nat},d<=s.Ag.length-> ∀i,okN s.Ag.length i ((H2 lt s H d).getD i nW)
 |0,_,i=>M i
 |d+1,hd,i=>by
   rw[H2,xqw];split
   ·rename_i h;rw[<- h.1];have:=xem (s:=s) (fr:=d) om;exact xt4 om om (M d)
   ·exact xat M om i
theorem xan{lt:Wy->Wy->Bool}{s:Shf}:∀{k:Nat}(i:Nat),okN s.Ag.length i ((Bc lt s k).getD i nW)
 |0,i=>by
   rw[Bc,xqw];split
   ·exact .inl rfl
   ·rw[List.getD_eq_getElem?_getD,List.getElem?_replicate];split<;>exact .inl rfl
 |k+1,i=>xat (fun i=>xan i) (Nat.le_refl _) i
def Dq(lt:Wy->Wy->Bool)(s:Shf)(E8:Nat):Wy:=(Bc lt s (min E8 s.Ag.length)).getD 0 nW
def Cb(lt:Wy->Wy->Bool)(s:Shf):Int:=if s.ok then(if Dq lt s 12=nW then 3 else 0)else 20
def Hv(lt:Wy->Wy->Bool)(s:Shf):Wy:=if Cb lt s=0 then Dq lt s 12 else nW
def ltF(a b:Wy):Bool:=decide (a.rings<b.rings)
def ltC(a b:Wy):Bool:=decide (a.Fc<b.Fc)
def Fi(s:Shf):Int:=if Cb ltF s=0 then(Dq ltF s 12).rings else 0
def Ch(s:Shf):Int:=if Cb ltC s=0 then(Kw s s.Ag.length).1+(Dq ltC s 12).Fc else 0
def E1(s:Shf)(d:Nat):Shf:={s with Ag:=s.Ag.take d}
def Kd(s:Shf)(H:Int):Nat->Nat
 |0=>0
 |d+1=>if Cb ltC (E1 s (d+1))=0/\Ch (E1 s (d+1))<=H then d+1 else Kd s H d
def Lo(s:Shf)(H:Int):Int:=Du s (0<=H/\H<=9999)
def Ke(s:Shf)(H:Int):Int:=if Lo s H=0 then Kd s H s.Ag.length else 0
def C5(s:Shf)(r:Int):Shf:={s with Ag:=s.Ag++[r]}
def Fa(s:Shf)(r:Int):Int:=if Du s (0<=r/\r<=(s.Ah.length:Int)-1)≠0 then Du s (0<=r/\r<=(s.Ah.length:Int)-1)else if s.Ag.length=12 then 2 else if Cb ltC s≠0 then Cb ltC s else Cb ltC (C5 s r)
def Ha(s:Shf)(r:Int):Int:=if Fa s r=0 then Ch (C5 s r)-Ch s else 0
theorem xbm(lt:Wy->Wy->Bool)(s:Shf):(¬ s.ok/\Cb lt s=20)\/(s.ok/\Dq lt s 12=nW/\Cb lt s=3)\/(s.ok/\Dq lt s 12≠nW/\Cb lt s=0):=by
 unfold Cb;by_cases h:s.ok
 ·by_cases w:Dq lt s 12=nW
  ·exact .inr (.inl ⟨h,w,by rw[if_pos h,if_pos w]⟩)
  ·exact .inr (.inr ⟨h,w,by rw[if_pos h,if_neg w]⟩)
 ·exact .inl ⟨h,if_neg h⟩
end Go.X
namespace Go.Proofs.YtblcmdjhidhnjaaGreatDoor
open Go.Proofs.Tryz
open Go.X Go.X.Flow Go.Conc
section
variable{h:Heap}{md:Md}{ca cb:Nat}{a:Option Addr}{p:Ab}
theorem c68(M:Per p h){n lo hi:Int}:Aa prog md 68 #[.J n,.J lo,.J hi] h fun v O=>v=.bool (decide (lo<=n/\n<=hi))/\Af h O:=by
 refine xex M func68 fun _ _ _ K=>?_;refine au ?_;exact K.r rfl rfl fun _ H=>⟨congrArg _ (bpe Iff.rfl),H.kept⟩
theorem c67(M:Per p h){r:Rk}:Aa prog md 67 #[.agg #[.J r.hr,.J r.pe,.J r.sd,.J r.st]] h fun v O=>v=.bool (!decide (okR r))/\Af h O:=by
 refine xex M func67 fun _ _ _ K=>?_;refine au ?_;refine xgq rfl fun b1=>?_;refine au ?_;refine xiq rfl rfl (fun _ pe=>c68 pe) ?_;refine au ?_;refine xfx rfl rfl rfl sdt (fun _ _ pe=>c68 pe) ?_;refine au ?_;refine xfx rfl rfl rfl sdt (fun _ _ pe=>c68 pe) ?_;refine au ?_;refine xfx rfl rfl rfl sdt (fun _ _ pe=>c68 pe) ?_;refine au ?_;exact K.r rfl rfl fun _ H=>⟨congrArg _ (bpn (by unfold okR;omega)),H.kept⟩
theorem S8(hp:Per p h)(fv:Value){n c:Nat}(xs:List Rk)(S:Rks p a n xs)(hn:n<=2^40)(q:Rk->Bool)
 (hf:∀h,Per p h-> ∀i,i<n->Az prog md fv [.agg #[.J (xs.getD i rz).hr,.J (xs.getD i rz).pe,.J (xs.getD i rz).sd,.J (xs.getD i rz).st]] h fun v V=>v=.bool (q (xs.getD i rz))/\Af h V):
 Aa prog md 159 #[.slice a n c,fv] h fun v V=>v=.J (C2 q xs)/\Af h V:=by
 have hl:=S.len;refine xex hp func159 fun _ _ _ K=>?_;refine au ?_;refine xsq (fun m l=>∃j:Nat,m=n-j/\l=[(0,none,.slice a n c),(1,none,fv),(7,none,.J n),(8,none,.J j)]/\j<=n/\ ∀i,i<j->q (xs.getD i rz)=false) ⟨0,rfl,rfl,Nat.zero_le _,om⟩ sb ?_;rintro _ _ IH ⟨j,rfl,rfl,hj,h1⟩;refine au ?_;refine xlq rfl (fun cc=>?_) (fun cc=>?_)
 ·refine au ?_;refine xfk rfl (S.all om) ?_;refine xsm rfl rfl (fun M pe=>hf M pe j om) ?_;refine au ?_;refine xlq rfl (fun O=>?_) (fun O=>?_)
  ·refine au ?_;exact K.r rfl rfl fun M H=>⟨by rw[Cu (z:=rz) (k:=j) om O h1];rfl,H.kept⟩
  ·refine au ?_;exact xhq (IH _ om ⟨j+1,rfl,rfl,om,C3 h1 (by simpa using O)⟩)
 refine au ?_;exact K.r rfl rfl fun M H=>⟨by rw[Cs (z:=rz) (fun i hi=>h1 i om)];rfl,H.kept⟩
theorem c70(V:Per p h){M:Value}{n c:Nat}{xs:List Rk}(S:Rks p a n xs)(hn:n<=2^40)(q:Rk->Bool)
 (hf:∀h,Per p h-> ∀i,i<n->Az prog md M [.agg #[.J (xs.getD i rz).hr,.J (xs.getD i rz).pe,.J (xs.getD i rz).sd,.J (xs.getD i rz).st]] h fun v H=>v=.bool (q (xs.getD i rz))/\Af h H):
 Aa prog md 70 #[.slice a n c,M] h fun v H=>v=.bool (decide (0<=C2 q xs))/\Af h H:=by
 refine xex V func70 fun _ _ _ K=>?_;refine au ?_;refine xiq rfl rfl (fun _ pe=>S8 pe M xs S hn q hf) ?_;refine au ?_;exact K.r rfl rfl fun _ O=>⟨rfl,O.kept⟩
theorem Rq(hp:Per p h)(fv:Value){n c:Nat}(xs:List Int)(S:As p a n xs)(hn:n<=2^40)(q:Int->Bool)
 (hf:∀h,Per p h-> ∀i,i<n->Az prog md fv [.J (xs.getD i 0)] h fun v V=>v=.bool (q (xs.getD i 0))/\Af h V):Aa prog md 160 #[.slice a n c,fv] h fun v V=>v=.J (C2 q xs)/\Af h V:=by
 have hl:=S.len;refine xex hp func160 fun _ _ _ K=>?_;refine au ?_;refine xsq (fun m l=>∃j:Nat,m=n-j/\l=[(0,none,.slice a n c),(1,none,fv),(7,none,.J n),(8,none,.J j)]/\j<=n/\ ∀i,i<j->q (xs.getD i 0)=false) ⟨0,rfl,rfl,Nat.zero_le _,om⟩ sb ?_;rintro _ _ IH ⟨j,rfl,rfl,hj,h1⟩;refine au ?_;refine xlq rfl (fun cc=>?_) (fun cc=>?_)
 ·refine au ?_;refine xsm rfl rfl (fun M pe=>hf M pe j om) ?_;refine au ?_;refine xlq rfl (fun O=>?_) (fun O=>?_)
  ·refine au ?_;exact K.r rfl rfl fun M H=>⟨by rw[Cu (z:=0) (k:=j) om O h1];rfl,H.kept⟩
  ·refine au ?_;exact xhq (IH _ om ⟨j+1,rfl,rfl,om,C3 h1 (by simpa using O)⟩)
 refine au ?_;exact K.r rfl rfl fun M H=>⟨by rw[Cs (z:=0) (fun i hi=>h1 i om)];rfl,H.kept⟩
theorem c71(V:Per p h){M:Value}{n c:Nat}{xs:List Int}(S:As p a n xs)(hn:n<=2^40)(q:Int->Bool)
 (hf:∀h,Per p h-> ∀i,i<n->Az prog md M [.J (xs.getD i 0)] h fun v H=>v=.bool (q (xs.getD i 0))/\Af h H):Aa prog md 71 #[.slice a n c,M] h fun v H=>v=.bool (decide (0<=C2 q xs))/\Af h H:=by
 refine xex V func71 fun _ _ _ K=>?_;refine au ?_;refine xiq rfl rfl (fun _ pe=>Rq pe M xs S hn q hf) ?_;refine au ?_;exact K.r rfl rfl fun _ O=>⟨rfl,O.kept⟩
theorem c69(M:Per p h){b:Option Addr}(s:Shf)(hn:s.Ah.length<=2^40){bt:Nat}(hb:p bt=some (.cells #[.slice a s.Ah.length ca,.slice b s.Ag.length cb,.J s.deep,.J s.Cf,.J s.rest] 25 (0,0))){x:Int}:
 Aa prog md 69 #[.J x,w_ bt 0] h fun v O=>v=.bool (!decide (okF s.Ah.length x))/\Af h O:=by
 refine xex M func69 fun _ _ _ K=>?_;refine au ?_;refine xiq rfl rfl (fun _ V=>c68 V) ?_;refine au ?_;exact K.r rfl rfl fun _ H=>⟨rfl,H.kept⟩
theorem c39(hp:Per p h){b:Option Addr}(s:Shf)(S:Ck p a b s)(hn:s.Ah.length<=2^40/\s.Ag.length<=2^40):
 Aa prog md 39 #[.agg #[.slice a s.Ah.length ca,.slice b s.Ag.length cb,.J s.deep,.J s.Cf,.J s.rest]] h fun v V=>v=.J (Hc s)/\Af h V:=by
 refine xex hp func39 fun _ _ _ K=>?_;refine au ?_;refine xgq rfl fun b1=>?_;refine xnw (b:=b1) fun p' le hb=>?_;have S:=S.mono le;refine au ?_;refine xfx rfl rfl rfl sdt (fun _ _ H=>c70 H S.r hn.1 (fun r=>!decide (okR r)) fun _ H _ _=>xkq k_ (c67 H)) ?_;refine au ?_;refine xfx rfl rfl rfl sdt (fun _ _ H=>c71 H S.f hn.2 (fun x=>!decide (okF s.Ah.length x)) fun _ H _ _=>xkq k_ (c69 H s hn.1 hb)) ?_;refine au ?_;refine xfx rfl rfl rfl sdt (fun _ _ H=>c68 H) ?_;refine au ?_;refine xfx rfl rfl rfl sdt (fun _ _ H=>c68 H) ?_;refine au ?_;refine xfx rfl rfl rfl sdt (fun _ _ H=>c68 H) ?_;refine au ?_;refine xlq rfl (fun O=>?_) (fun O=>?_)
 ·refine au ?_;exact K.r rfl rfl fun _ M=>⟨congrArg _ (show Hc s=20 from if_neg (xz8.1 O)).symm,M.kept⟩
 ·refine au ?_;exact K.r rfl rfl fun _ M=>⟨congrArg _ (show Hc s=0 from if_pos (Classical.not_not.1 fun z=>O (xz8.2 z))).symm,M.kept⟩
theorem O9(M:Per p h){b:Option Addr}(s:Shf)(S:Ck p a b s)(V:s.ok)(i:Nat)(hi:i<s.Ag.length):
 Aa prog md 274 #[.agg #[.slice a s.Ah.length ca,.slice b s.Ag.length cb,.J s.deep,.J s.Cf,.J s.rest],.J (i:Nat)] h fun v O=>v=.agg #[.J (s.rk i).hr,.J (s.rk i).pe,.J (s.rk i).sd,.J (s.rk i).st]/\Af h O:=by
 have hf:=V.E7 hi;have Sf:=S.f;refine xfz M func274 fun _ _ _ K=>?_;refine au ?_;refine xgq rfl fun b1=>?_;refine xyq fun b2=>?_;refine au ?_;refine xjw 11 [] [] [0,1,2,3,4,5,6,7,8,9,10] ?_;refine ad ?_;refine xrc rfl rfl rfl om om (S.r.ne om) ?_;refine xbw rfl rfl (S.r.all hf.2.1) ?_;refine ad ?_;refine au ?_;refine xgz func274 rfl (xtq rfl Ef.nil) ?_;exact fun _ H=>K _ _ ⟨rfl,H.kept⟩
theorem c233(M:Per p h){a b c d:Int}(hb:(-1000000<=a/\a<=1000000)/\(-1000000<=b/\b<=1000000)/\(-1000000<=c/\c<=1000000)/\ -1000000<=d/\d<=1000000):
 Aa prog md 233 #[.agg #[.J a,.J b],.agg #[.J c,.J d]] h fun v O=>v=.agg #[.J (a+c),.J (b+d)]/\Af h O:=by
 refine xfz M func233 fun _ _ _ K=>?_;refine au ?_;refine xgq rfl fun b1=>?_;refine xgq rfl fun b2=>?_;refine xyq fun V=>?_;refine au ?_;refine xgz func233 rfl (xtq rfl Ef.nil) ?_;exact fun _ H=>K _ _ ⟨rfl,H.kept⟩
theorem c234(V:Per p h){b:Option Addr}(s:Shf)(S:Ck p a b s)(H:s.ok)(i:Nat)(hi:i<s.Ag.length):
 Aa prog md 234 #[.agg #[.slice a s.Ah.length ca,.slice b s.Ag.length cb,.J s.deep,.J s.Cf,.J s.rest],.J (i:Nat)] h fun v O=>v=.agg #[.J ((s.rk i).pe+i*s.deep),.J (s.rk i).hr]/\Af h O:=by
 have hr:=H.Kc hi;have hl:=H.2.2.1;have hm:=Na (i:=i) om H.2.2.2.2.1;unfold okR at hr;refine xfz V func234 fun _ _ _ K=>?_;refine au ?_;refine xgq rfl fun b1=>?_;refine xyq fun b2=>?_;refine au ?_;refine xiq rfl rfl (fun _ pe=>O9 pe s S H i hi) ?_;refine xyq fun b3=>?_;refine au ?_;refine xgz func234 rfl (xtq rfl Ef.nil) ?_;exact fun _ M=>K _ _ ⟨rfl,M.kept⟩
theorem c322(O:Per p h){b:Option Addr}(s:Shf)(S:Ck p a b s)(H:s.ok)(i:Nat)(hi:i<s.Ag.length){x:Int}(hx:x=(i:Int)+1):
 Aa prog md 322 #[.agg #[.slice a s.Ah.length ca,.slice b s.Ag.length cb,.J s.deep,.J s.Cf,.J s.rest],.J x] h fun v V=>v=.bool (decide ((s.rk i).st≠ -1))/\Af h V:=by
 have hl:=H.2.2.1;refine xex O func322 fun _ _ _ K=>?_;refine au ?_;refine xgq rfl fun b1=>?_;refine au ?_;refine xiq rfl rfl (fun _ pe=>show Aa _ _ _ #[_,.J (x-1)] _ _ from by rw[show x-1=(i:Int) by omega];exact O9 pe s S H i hi) ?_;refine au ?_;exact K.r rfl rfl fun _ M=>⟨rfl,M.kept⟩
theorem Vy(hp:Per p h){b:Option Addr}(s:Shf)(S:Ck p a b s)(H:s.ok):
 Aa prog md 172 #[.agg #[.slice a s.Ah.length ca,.slice b s.Ag.length cb,.J s.deep,.J s.Cf,.J s.rest]] h fun v h'=>v=.agg #[.J (Kw s s.Ag.length).1,.J (Kw s s.Ag.length).2]/\Af h h':=by
 have hl:=H.2.2.1;refine xfz hp func172 fun _ _ _ K=>?_;refine au ?_;refine xgq rfl fun b1=>?_;refine xyq fun b2=>?_;refine au ?_
 refine xmq (fun m l p_ L_=>∃j:Nat,m=s.Ag.length-j/\l=[(1,none,w_ b1 0),(2,none,w_ b2 0),(7,none,.J s.Ag.length),(8,none,.J j)]/\p_=p/\
  L_=[[(b2,.cells #[.J (Kw s j).1,.J (Kw s j).2] 194 (0,0))],[(b1,.cells #[.slice a s.Ah.length ca,.slice b s.Ag.length cb,.J s.deep,.J s.Cf,.J s.rest] 187 (0,0))]]/\j<=s.Ag.length) ⟨0,rfl,rfl,rfl,rfl,Nat.zero_le _⟩ sb ?_
 rintro _ _ _ _ IH ⟨j,rfl,rfl,rfl,rfl,hj⟩;refine au ?_;refine xlq rfl (fun V=>?_) (fun V=>?_)
 ·have hd:=xvr H hj;have hr:=H.Kc (i:=j) om;have hm:=Na (i:=j) om H.2.2.2.2.1;unfold okR at hr;refine au ?_;refine xjw 5 [] [] [0,1,2,3,4] ?_;refine ad ?_;refine xvz rfl rfl rfl (fun _ M=>c234 M s S H j om) ?_;refine xvz rfl rfl rfl (fun _ M=>c233 M om) ?_;refine ad ?_;refine au ?_;exact xhq (IH _ _ _ om ⟨j+1,rfl,rfl,rfl,rfl,om⟩)
 obtain rfl:j=s.Ag.length:=om;refine au ?_;refine xgz func172 rfl (xtq rfl Ef.nil) ?_;exact fun _ O=>K _ _ ⟨rfl,O.kept⟩
theorem Vm(hp:Per p h){b:Option Addr}(s:Shf)(S:Ck p a b s)(H:s.ok)(i:Nat)(hi:i<s.Ag.length){x:Int}(hx:x=(i:Int)+1):
 Aa prog md 323 #[.agg #[.slice a s.Ah.length ca,.slice b s.Ag.length cb,.J s.deep,.J s.Cf,.J s.rest],.J x] h fun v O=>v=.agg #[.J ((s.rk i).st+x*s.Cf),.J s.rest]/\Af h O:=by
 have hl:=H.2.2.1;have hr:=H.Kc hi;have V:=Na (i:=i+1) om H.2.2.2.2.2.1;rw[show((i+1:Nat):Int)=x by omega]at V;unfold okR at hr;refine xfz hp func323 fun _ _ _ K=>?_;refine au ?_;refine xgq rfl fun b1=>?_;refine xyq fun b2=>?_;refine au ?_;refine xjw 15 [] [] [0,1,2,3,4,5,6,7,8,9,10,11,12,13,14] ?_;refine ad ?_;refine xvz rfl rfl rfl (fun _ pe=>show Aa _ _ _ #[_,.J (x-1)] _ _ from by rw[show x-1=(i:Int) by omega];exact O9 pe s S H i hi) ?_;refine ad ?_;refine au ?_;refine xgz func323 rfl (xtq rfl Ef.nil) ?_;exact fun _ M=>K _ _ ⟨rfl,M.kept⟩
theorem c321(hp:Per p h){b:Option Addr}(s:Shf)(S:Ck p a b s)(O:s.ok)(fr:Nat)(hf:fr<=s.Ag.length):
 Aa prog md 321 #[.agg #[.slice a s.Ah.length ca,.slice b s.Ag.length cb,.J s.deep,.J s.Cf,.J s.rest],.J (fr:Nat)] h fun v h'=>v=.J (Dj s fr:Nat)/\Af h h':=by
 have hl:=O.2.2.1;refine xex hp func321 fun _ _ _ K=>?_;refine au ?_;refine xgq rfl fun b1=>?_;refine au ?_;refine xsq (fun m l=>∃(j:Nat)(st:Int),m=s.Ag.length-j/\l=[(1,none,.J (fr:Nat)),(2,none,w_ b1 0),(5,none,.J st),(6,none,.J j)]/\fr<=j/\j<=s.Ag.length/\G6 s fr (s.Ag.length-j) j st=Dj s fr) ⟨fr,12,rfl,rfl,Nat.le_refl _,hf,rfl⟩ sb ?_;rintro _ _ IH ⟨j,st,rfl,rfl,h1,h2,H⟩;refine au ?_;refine xlq rfl (fun V=>?_) (fun V=>?_)
 ·have e:s.Ag.length-j=(s.Ag.length-(j+1))+1:=om;rw[e,G6]at H;refine au ?_;refine xiq rfl rfl (fun _ pe=>O9 pe s S O j om) ?_;refine au ?_;refine xlq rfl (fun ce=>?_) (fun ce=>?_)
  ·rw[if_pos om]at H;refine au ?_;exact K.r rfl rfl fun _ M=>⟨by rw[<- H];rfl,M.kept⟩
  ·rw[if_neg om]at H;refine au ?_;exact xhq (IH _ om ⟨j+1,_,rfl,rfl,om,om,H⟩)
 obtain rfl:j=s.Ag.length:=om;rw[Nat.sub_self,G6]at H;refine au ?_;exact K.r rfl rfl fun _ M=>⟨by rw[<- H];rfl,M.kept⟩
theorem Qd(M:Per p h)(a b c a' b' O:Int):
 Aa prog md 170 #[.agg #[.J a,.J b,.J c],.agg #[.J a',.J b',.J O]] h fun v V=>v=.bool (decide (a<a'))/\Af h V:=by
 refine xex M func170 fun _ _ _ K=>?_;refine au ?_;refine xgq rfl fun b1=>?_;refine xgq rfl fun b2=>?_;refine au ?_;exact K.r rfl rfl fun _ H=>⟨rfl,H.kept⟩
theorem Qx(O:Per p h)(a b c a' H V:Int):
 Aa prog md 171 #[.agg #[.J a,.J b,.J c],.agg #[.J a',.J H,.J V]] h fun v h'=>v=.bool (decide (b<H))/\Af h h':=by
 refine xex O func171 fun _ _ _ K=>?_;refine au ?_;refine xgq rfl fun b1=>?_;refine xgq rfl fun b2=>?_;refine au ?_;exact K.r rfl rfl fun _ M=>⟨rfl,M.kept⟩
def opened(a b:Option Addr)(ca cb:Nat)(s:Shf)(e:Int):Value:=if e=0 then .agg #[.slice a s.Ah.length ca,.slice b s.Ag.length cb,.J s.deep,.J s.Cf,.J s.rest]else .agg #[.slice none 0 0,.slice none 0 0,.J 0,.J 0,.J 0]
theorem Qk(md:Md)(h:Heap)(p:Ab)(hp:Per p h)(a b:Option Addr)(ca cb:Nat)(s:Shf)(S:Ck p a b s)(hn:s.Ah.length<=2^40/\s.Ag.length<=2^40)(is:Prop)[Decidable is]:
 Aa prog md 173 #[.agg #[.slice a s.Ah.length ca,.slice b s.Ag.length cb,.J s.deep,.J s.Cf,.J s.rest],.bool (decide is)] h fun v h'=>v=.tuple #[opened a b ca cb s (Du s is),.J (Du s is)]/\Af h h':=by
 refine xfz hp func173 fun _ _ _ K=>?_;refine au ?_;refine xgq rfl fun b1=>?_;refine xyq fun b2=>?_;refine au ?_;refine xiq rfl rfl (fun _ pe=>c39 pe s S hn) ?_;refine au ?_;refine xlq rfl (fun O=>?_) (fun O=>?_)
 ·have M:¬ s.ok:=fun z=>O (if_pos z);have e:Du s is=20:=if_neg M;have e':Hc s=20:=if_neg M;rw[e'];refine au ?_;refine xgz func173 rfl (xtq rfl (Ef.tmp rfl Ef.nil)) ?_;exact fun _ H=>K _ _ ⟨by rw[e];rfl,H.kept⟩
 have M:s.ok:=Classical.not_not.1 fun z=>O (by rw[Hc,if_neg z];decide);refine au ?_;refine xlq rfl (fun V=>?_) (fun V=>?_)
 ·have e:Du s is=1:=by rw[Du,if_pos M,if_neg V]
  refine au ?_;refine xgz func173 rfl (xtq rfl (Ef.tmp rfl Ef.nil)) ?_;exact fun _ H=>K _ _ ⟨by rw[e];rfl,H.kept⟩
 ·have e:Du s is=0:=by rw[Du,if_pos M,if_pos (Classical.not_not.1 V)]
  refine au ?_;refine xgz func173 rfl (xtq rfl (Ef.tmp rfl Ef.nil)) ?_;exact fun _ H=>K _ _ ⟨by rw[e];rfl,H.kept⟩
end
theorem U2{md:Md}{h:Heap}{p:Ab}(hp:Per p h){a:Option Addr}{n c:Nat}{xs:List Wy}(S:Sl p a n 3 (wcs xs))(hn:n<=2^20)(V:0<n):
 Aa prog md 320 #[.slice a n c] h fun v O=>∃Y,Ac 189 3 v (wcs xs) Y/\New h O Y:=by
 refine xex hp func320 fun _ _ _ K=>?_;refine au ?_;refine xvs rfl ?_;refine au ?_;refine xlq rfl (fun H=>?_) (fun H=>?_)
 ·exact absurd H (by rw[S.ne V];simp)
 refine au ?_;refine xbz rfl fun v Y o=>?_;refine au ?_;refine xow rfl rfl o S (xd8 xs) (by simp[chs];omega) (fun v' Y' o'=>?_);refine au ?_;exact K.r rfl rfl fun _ M=>⟨_,o',D6 M⟩
theorem c350{md:Md}{h:Heap}{p:Ab}(M:Per p h){y:Int}(V:0<=y/\y<=1048576):
 Aa prog md 350 #[.int .u64 1,.int .u64 y] h fun v O=>v=.tuple #[.int .u64 0,.int .u64 y]/\Af h O:=by
 refine xex M func350 fun _ _ _ K=>?_;refine au ?_;refine yag rfl d_ ?_;refine au ?_;refine xq9 rfl d_ ?_;refine au ?_;refine yag rfl om ?_;refine au ?_;refine xq9 rfl om ?_;refine au ?_;refine xq9 rfl om ?_;refine au ?_;refine yag rfl om ?_;refine au ?_;refine xq9 rfl om ?_;refine au ?_;refine xq9 rfl om ?_;refine au ?_;exact K.r rfl rfl fun _ H=>⟨by simp[Fq,Int.one_mul],H.kept⟩
theorem Tp{md:Md}{h:Heap}{p:Ab}(V:Per p h){y:Int}(O:0<=y/\y<=1048576):
 Aa prog md 337 #[.int .u64 1,.int .u64 y] h fun v h'=>v=.tuple #[.int .u64 0,.int .u64 y]/\Af h h':=by
 refine xex V func337 fun _ _ _ K=>?_;refine au ?_;refine xlq rfl (fun H=>?_) (fun H=>?_)
 ·cases H
 refine au ?_;refine xiq rfl rfl (fun _ pe=>c350 pe O) ?_;refine au ?_;exact K.r rfl rfl fun _ M=>⟨rfl,M.kept⟩
theorem U8{md:Md}{h:Heap}{p:Ab}(hp:Per p h){a:Option Addr}{c:Nat}(w:Wy)(S:Sl p a 1 3 [w.cells])(n:Nat)(hn:1<=n/\n<=20):
 Aa prog md 319 #[.slice a 1 c,.J (n:Nat)] h fun v h'=>∃Y,Ac 189 3 v (List.replicate n w.cells) Y/\New h h' Y:=by
 refine xex hp func319 fun _ _ _ K=>?_;refine au ?_;refine xlq rfl (fun O=>?_) (fun O=>?_)
 ·omega
 refine au ?_;refine xnk ⟨_,underlying3⟩ underlying209 rfl d_ ?_;refine au ?_;refine xnk ⟨_,underlying3⟩ underlying209 rfl (N9 om) ?_;refine xiq rfl rfl (fun _ pe=>Tp pe om) ?_;refine au ?_;refine xlq rfl (fun cd=>?_) (fun cd=>?_)
 ·omega
 refine au ?_;refine xnk ⟨_,underlying209⟩ underlying3 rfl (wrZ om) ?_;refine yyf (n:=n) (zc:=[.J 0,.J 0,.J 0]) rfl rfl om fun v Y o=>?_;obtain⟨b,cap,e,H,_⟩:=o.at0 (by rw[List.length_replicate];omega) d_;rw[List.length_replicate]at e H;subst e;refine au ?_;have one:∀u∈[w.cells].flatten,A7 u=true:=xd8 [w];refine ycn rfl rfl o S (by simp;omega) (by simp;omega) one fun Y1 V=>?_;refine au ?_;refine xmq (fun m l p_ L_=>∃(j:Nat)(Y:Pcs),m=n-j/\l=[(7,none,.slice (some ⟨b,0,none⟩) n cap),(8,none,.J j)]/\p_=p/\L_=[Y]/\1<=j/\j<=n/\Ac 189 3 (.slice (some ⟨b,0,none⟩) n cap) (List.replicate j w.cells++List.replicate (n-j) [.J 0,.J 0,.J 0]) Y) ⟨1,Y1,rfl,rfl,rfl,rfl,om,om,by rw[List.drop_replicate]at V;exact V⟩ sb ?_;rintro _ _ _ _ IH ⟨j,Y,rfl,rfl,rfl,rfl,h1,h2,o⟩;have hl:(List.replicate j w.cells++List.replicate (n-j) [Value.J 0,.J 0,.J 0]).length=n:=by simp;omega
 refine au ?_;refine xlq rfl (fun O=>?_) (fun O=>?_)
 ·refine au ?_;refine xv3 9 [] [7] [0,1,2,3,4,5,6,7,8] Y ?_;refine ad ?_;refine ydr rfl rfl rfl om ?_;refine ad ?_;refine ycr rfl rfl rfl om ?_;have hk:Nat.min j (n-j)<=n-j/\Nat.min j (n-j)<=j/\0<Nat.min j (n-j):=⟨Nat.min_le_right _ _,Nat.min_le_left _ _,by show 0<min j (n-j);omega⟩
  refine yhr hl rfl o rfl rfl om d_ rfl om om (fun u hu=>?_) fun Y' o'=>?_
  ·obtain⟨e,h3,M⟩:=List.mem_flatten.1 hu;rcases List.mem_append.1 h3 with h5|h5
   ·rw[List.eq_of_mem_replicate h5]at M;exact one u (by simpa using M)
   ·rw[List.eq_of_mem_replicate h5]at M;simp only[List.mem_cons,List.not_mem_nil,or_false]at M;rcases M with rfl|rfl|rfl<;>rfl
  rw[ypn hk.2.1]at o';refine ad ?_;refine au ?_;exact xhq (IH _ _ _ om ⟨j+Nat.min j (n-j),Y',rfl,rfl,rfl,rfl,om,om,o'⟩)
 obtain rfl:j=n:=om;refine au ?_;rw[Nat.sub_self,List.replicate_zero,List.append_nil]at o;exact K.r rfl rfl fun _ H_=>⟨_,o,D6 H_⟩
theorem Px{a b c a' M H:Int}:∀h(K:Bool->Heap->Prop),K (decide ((⟨a,b,c⟩:Wy)=⟨a',M,H⟩)) h->wpS prog (Op.equalIn (9999+1) 189 (.agg #[.J a,.J b,.J c]) (.agg #[.J a',.J M,.J H])) h K:=fun h K k=>by
 have e:decide ((⟨a,b,c⟩:Wy)=⟨a',M,H⟩)=decide (a=a'/\b=M/\c=H):=by congr 1;simp
 rw[e]at k;exact xxj underlying189 k_ (yjs underlying3 underlying3 underlying3 rfl rfl rfl d_ d_ d_ k_ k_ k_) k
theorem yzd{xs:List Wy}{d:Nat}{w:Wy}{c:List Value}(hc:c=w.cells:=by rfl):(X.wcs xs).set d c=X.wcs (xs.set d w):=by subst hc;simp[X.wcs,List.map_set]
theorem Vf{md:Md}{h:Heap}{p:Ab}(hp:Per p h){a b:Option Addr}{ca cb:Nat}(s:Shf)(S:Ck p a b s)(hk:s.ok){tN:TypeId}(z:Nat×Nat)(hG:p 1=some (.cells #[.J (-1),.J 0,.J 0] tN z))(fv:Value)(lt:Wy->Wy->Bool)
 (a9:∀h_,Per p h_-> ∀a b c a' b' c':Int,Az prog md fv [.agg #[.J a,.J b,.J c],.agg #[.J a',.J b',.J c']] h_ fun v h'=>v=.bool (lt ⟨a,b,c⟩ ⟨a',b',c'⟩)/\Af h_ h')(E8:Int)(hm:0<=E8/\E8<=99):
 Aa prog md 273 #[.agg #[.slice a s.Ah.length ca,.slice b s.Ag.length cb,.J s.deep,.J s.Cf,.J s.rest],fv,.J E8] h fun v h'=>∃Y,Ac 189 3 v (wcs (Bc lt s (min E8.toNat s.Ag.length))) Y/\New h h' Y:=by
 have hl:=hk.2.2.1;refine xex hp func273 fun _ _ _ K=>?_;refine au ?_;refine xgq rfl fun b1=>?_;refine au ?_;refine xad rfl rfl sdt (xtx (xyz (n:=3) hG)) ?_;refine xbz rfl fun v Y o=>?_;refine au ?_;refine xpb o rfl fun p' a1 b6 le e1 S1=>?_;subst e1;have S:=S.mono le;have hG:=le _ _ hG;refine xdj rfl rfl (fun _ V=>U8 V nW S1 (s.Ag.length+1) om) fun v Y o=>?_;refine au ?_;obtain⟨b2,O,e2,a7,_⟩:=o.at0 (by rw[List.length_replicate];omega) d_;rw[List.length_replicate]at e2 a7;subst e2;refine xzk rfl rfl o (by rw[List.length_replicate];omega) ?_;refine xek (i:=s.Ag.length) (j:=0) (e:=nW.cells) (vs:=zW.cells) rfl rfl o rfl rfl rfl rfl s_ d_ fun Y' o'=>?_;refine au ?_;have o0:Ac 189 3 (.slice (some ⟨b2,0,none⟩) (s.Ag.length+1) O) (wcs (Bc lt s 0)) Y':=by
  have e:wcs (Bc lt s 0)=(List.replicate (s.Ag.length+1) nW.cells).set s.Ag.length zW.cells:=by simp[X.wcs,Bc,List.map_set,List.map_replicate]
  rw[e];exact o'
 have b0:min E8 (s.Ag.length:Int)=((min E8.toNat s.Ag.length:Nat):Int):=om;generalize hK:min E8.toNat s.Ag.length=kk at*;rw[b0]
 refine xmq (fun m l p_ L_=>∃(k:Nat)(v:Value)(Y:Pcs),m=kk-k/\l=[(1,none,fv),(3,none,w_ b1 0),(7,none,.J s.Ag.length),(8,none,v),(28,none,.J (kk:Nat)),(29,none,.J (k:Nat))]/\PLe p' p_/\
  L_=[Y,[(b1,.cells #[.slice a s.Ah.length ca,.slice b s.Ag.length cb,.J s.deep,.J s.Cf,.J s.rest] 187 (0,0))]]/\k<=kk/\Ac 189 3 v (wcs (Bc lt s k)) Y) ⟨0,_,Y',rfl,rfl,fun _ _ h=>h,rfl,Nat.zero_le _,o0⟩ sb ?_
 rintro _ _ p1 _ IH ⟨k,v,Y,rfl,rfl,a3,rfl,b9,o⟩;refine au ?_;refine xlq rfl (fun cc=>?_) (fun cc=>?_)
 ·refine au ?_;refine xpb o (m:=s.Ag.length+1) (by rw[xxc,xnj]) fun p2 a2 O a4 e2 So=>?_;subst e2;have hG:=a4 _ _ (a3 _ _ hG);have S:=(S.mono a3).mono a4;refine xdj rfl rfl (fun _ V=>U2 V So om om) fun v2 Y2 o2=>?_;obtain⟨b3,M,e3,a6,_⟩:=o2.at0 (by rw[xxc,xnj];omega) d_;rw[xxc,xnj]at e3 a6;subst e3;refine au ?_;refine xmq (fun m l p_ L_=>∃(d:Nat)(Y:Pcs),m=s.Ag.length-d/\l=[(1,none,fv),(3,none,w_ b1 0),(7,none,.J s.Ag.length),(8,none,.slice a2 (s.Ag.length+1) O),(9,none,.slice (some ⟨b3,0,none⟩) (s.Ag.length+1) M),(28,none,.J (kk:Nat)),(29,none,.J (k:Nat)),(33,none,.J s.Ag.length),(34,none,.J (d:Nat))]/\p2=p_/\L_=[Y,[(b1,.cells #[.slice a s.Ah.length ca,.slice b s.Ag.length cb,.J s.deep,.J s.Cf,.J s.rest] 187 (0,0))]]/\d<=s.Ag.length/\Ac 189 3 (.slice (some ⟨b3,0,none⟩) (s.Ag.length+1) M) (wcs (H2 lt s (Bc lt s k) d)) Y) ⟨0,Y2,rfl,rfl,rfl,rfl,Nat.zero_le _,o2⟩ sb ?_;rintro _ _ _ _ b5 ⟨d,Y3,rfl,rfl,rfl,rfl,hd,o3⟩;refine au ?_;refine xlq rfl (fun cd=>?_) (fun cd=>?_)
  ·refine au ?_;have hf:=xem (s:=s) (fr:=d) om
   refine xmq (fun m l p_ L_=>∃(next:Nat)(w:Wy)(Y:Pcs),m=s.Ag.length+1-next/\l=[(1,none,fv),(3,none,w_ b1 0),(7,none,.J s.Ag.length),(8,none,.slice a2 (s.Ag.length+1) O),(9,none,.slice (some ⟨b3,0,none⟩) (s.Ag.length+1) M),(10,none,.J (d:Nat)),(11,none,.J (next:Nat)),(28,none,.J (kk:Nat)),(29,none,.J (k:Nat)),(33,none,.J s.Ag.length),(34,none,.J (d:Nat))]/\p2=p_/\L_=[Y,[(b1,.cells #[.slice a s.Ah.length ca,.slice b s.Ag.length cb,.J s.deep,.J s.Cf,.J s.rest] 187 (0,0))]]/\d<next/\next<=Dj s d+1/\inW lt s (Bc lt s k) (Dj s d+1-next) next w=Ph lt s (Bc lt s k) d/\
    Ac 189 3 (.slice (some ⟨b3,0,none⟩) (s.Ag.length+1) M) (wcs ((H2 lt s (Bc lt s k) d).set d w)) Y) ⟨d+1,(Bc lt s k).getD d nW,Y3,rfl,rfl,rfl,rfl,om,om,?_,?_⟩ sb ?_
   ·rw[Ph,Nat.add_sub_add_right]
   ·rw[yaq (by rw[xnj];omega)];exact o3
   rintro _ _ _ _ a8 ⟨next,w,Y4,rfl,rfl,rfl,rfl,b7,b8,a5,o4⟩;refine au ?_;refine xiq rfl rfl (fun _ V=>c321 V s S hk d om) ?_;refine au ?_;refine xlq rfl (fun ce=>?_) (fun ce=>?_)
   ·refine au ?_;refine xjw 12 [] [] [0,1,2,3,4,5,6,7,8,9,10,11] ?_;refine ad ?_;refine xbw (vs:=((Bc lt s k).getD next nW).cells) rfl rfl (So.get next _ (xvh (xs:=Bc lt s k) (i:=next) (by rw[xnj];have:=hf.2;omega))) ?_;refine xbw (vs:=[.J (-1),.J 0,.J 0]) rfl rfl (xyz (off:=0) (n:=3) hG) ?_;refine ynj rfl rfl rfl (Px) ?_;refine ad ?_;refine xbv rfl rfl rfl rfl sdt (fun _ _ V=>c322 V s S hk (next-1) om om) ?_;refine ad ?_;refine au ?_;refine xlq rfl (fun cf=>?_) (fun cf=>?_)
    ·have hc:H6 s (Bc lt s k) next=none:=if_pos (cf.imp (fun z=>z) Classical.not_not.1)
     refine au ?_;exact xhq (a8 _ _ _ om ⟨next+1,w,Y4,rfl,rfl,rfl,rfl,om,om,by rw[<- a5,show Dj s d+1-next=(Dj s d+1-(next+1))+1 by omega,inW,hc];rfl,o4⟩)
    have hb:=xzb (lt:=lt) hk (k:=k) next
    have hw:=xvh (xs:=Bc lt s k) (i:=next) (by rw[xnj];omega);have hr:=hk.Kc (i:=next-1) om;have hm:=Na (i:=next) om hk.2.2.2.2.2.1;unfold okR at hr;unfold okW at hb;refine au ?_;have hc:H6 s (Bc lt s k) next=some ⟨((Bc lt s k).getD next nW).rings+1,((Bc lt s k).getD next nW).Fc+((s.rk (next-1)).st+next*s.Cf),next⟩:=if_neg fun z=>cf (z.imp (fun z=>z) fun z1 z2=>z2 z1)
    have H:inW lt s (Bc lt s k) (Dj s d+1-(next+1)) (next+1) (N0 lt w (H6 s (Bc lt s k) next))=Ph lt s (Bc lt s k) d:=by rw[<- a5,show Dj s d+1-next=(Dj s d+1-(next+1))+1 by omega];rfl
    rw[hc,N0]at H;have hlen:d<((H2 lt s (Bc lt s k) d).set d w).length:=by rw[List.length_set,xvp,xnj];omega
    refine xjw 19 [] [18] [0,1,2,3,4,5,6,7,8,9,10,11,12,13,14,15,16,17,18] ?_;refine ad ?_;refine xgj rfl rfl (So.get next _ hw 0 _ rfl) ?_;refine ad ?_;refine xgj rfl rfl (So.get next _ hw 1 _ rfl) ?_;refine ad ?_;refine xvz rfl rfl rfl (fun _ V=>Vm V s S hk (next-1) om om) ?_;refine ad ?_;refine xdh rfl fun b4=>?_;refine ad ?_;refine au ?_;have ho:(wcs ((H2 lt s (Bc lt s k) d).set d w))[d]?=some w.cells:=(xvh hlen).trans (by rw[xqw,if_pos ⟨rfl,by simpa using hlen⟩]);refine xjw 15 [] [] [0,1,2,3,4,5,6,7,8,9,10,11,12,13,14] ?_;refine ad ?_;refine xlk rfl rfl rfl rfl sdt sdt o4 (by rw[xxc];exact hlen) ?_;refine xs5 rfl rfl rfl sdt o4 rfl ho ?_;refine xbw (vs:=[.J (-1),.J 0,.J 0]) rfl rfl (xyz (off:=0) (n:=3) hG) ?_;refine ynj rfl rfl rfl (Px) ?_;refine ad ?_;refine xlk rfl rfl rfl rfl sdt sdt o4 (by rw[xxc];exact hlen) ?_;refine xs5 rfl rfl rfl sdt o4 rfl ho ?_;refine xu5 rfl rfl rfl sdt rfl sdt (xtx fun _ V=>a9 _ (fun b o e=>V b o (a4 b o (a3 b o (le b o e)))) _ _ _ _ _ _) ?_;refine ad ?_;refine au ?_;refine xlq rfl (fun cg=>?_) (fun cg=>?_)
    ·rw[if_pos (show w=nW\/lt _ w=true from cg)]at H;refine au ?_;refine xzk rfl rfl o4 (by rw[xxc];exact hlen) ?_;refine xek (i:=d) (j:=0) rfl rfl o4 rfl rfl rfl rfl ho (Nat.le_of_ble_eq_true rfl) fun Y5 o5=>?_;refine au ?_;exact xhq (a8 _ _ _ om ⟨next+1,⟨((Bc lt s k).getD next nW).rings+1,((Bc lt s k).getD next nW).Fc+((s.rk (next-1)).st+next*s.Cf),next⟩,Y5,rfl,rfl,rfl,rfl,om,om,H,o5.as ((yzd (w:=⟨((Bc lt s k).getD next nW).rings+1,((Bc lt s k).getD next nW).Fc+((s.rk (next-1)).st+next*s.Cf),next⟩) rfl).trans (congrArg X.wcs (List.set_set _)))⟩)
    refine au ?_;exact xhq (a8 _ _ _ om ⟨next+1,w,Y4,rfl,rfl,rfl,rfl,om,om,by rw[<- H,if_neg (show ¬ (w=nW\/lt _ w=true) from cg)],o4⟩)
   ·obtain rfl:next=Dj s d+1:=om
    rw[Nat.sub_self,inW]at a5;subst a5;refine au ?_;exact xhq (b5 _ _ _ om ⟨d+1,Y4,rfl,rfl,rfl,rfl,om,o4⟩)
  ·obtain rfl:d=s.Ag.length:=om;refine au ?_;exact xhq (IH _ _ _ om ⟨k+1,_,Y3,rfl,rfl,fun b o h=>a4 b o (a3 b o h),rfl,om,o3⟩)
 ·obtain rfl:k=kk:=om;refine au ?_;exact K.r rfl rfl fun h_ H_=>⟨_,o,D6 H_⟩
section
variable{h:Heap}{md:Md}{ca cb:Nat}{a b:Option Addr}{p:Ab}
theorem Tt(hp:Per p h)(s:Shf)(S:Ck p a b s)(hk:s.ok){tN:TypeId}(z:Nat×Nat)(M:p 1=some (.cells #[.J (-1),.J 0,.J 0] tN z))(fv:Value)(lt:Wy->Wy->Bool)
 (a6:∀H,Per p H-> ∀a b c a' b' c':Int,Az prog md fv [.agg #[.J a,.J b,.J c],.agg #[.J a',.J b',.J c']] H fun v h'=>v=.bool (lt ⟨a,b,c⟩ ⟨a',b',c'⟩)/\Af H h'):
 Aa prog md 232 #[.agg #[.slice a s.Ah.length ca,.slice b s.Ag.length cb,.J s.deep,.J s.Cf,.J s.rest],fv,.J 12] h fun v h'=>∃Y,(∃w es,v=.tuple #[.agg #[.J (Dq lt s 12).rings,.J (Dq lt s 12).Fc,.J (Dq lt s 12).next],w,.bool (!decide (Dq lt s 12=nW))]/\Ac 3 1 w es Y)/\New h h' Y:=by
 have hl:=hk.2.2.1;refine xfz hp func232 fun _ _ _ K=>?_;refine aw ?_;refine xgq rfl fun b1=>?_;refine xyq fun b2=>?_;refine aw ?_;refine xdj rfl rfl (fun _ pe=>Vf pe s S hk z M fv lt a6 12 om) fun v Y o=>?_;refine aw ?_;rw[show(12:Int).toNat=12 from rfl]at o;refine ypg o (m:=s.Ag.length+1) (by rw[xxc,xnj]) fun p' a2 a5 le e2 O=>?_;subst e2;have M:=le _ _ M;have hB:Dq lt s 12=(Bc lt s (min 12 s.Ag.length)).getD 0 nW:=rfl;generalize hK:min 12 s.Ag.length=kk at*;have a4:=xvh (xs:=Bc lt s kk) (i:=0) (by rw[xnj];omega);have ho:=xzb (lt:=lt) hk (k:=kk) 0;refine xjw 5 [] [] [0,1,2,3,4] ?_;refine ae ?_;refine xbw (vs:=((Bc lt s kk).getD 0 nW).cells) rfl rfl (O.get 0 _ a4) ?_;refine xbw (vs:=[.J (-1),.J 0,.J 0]) rfl rfl (xyz (off:=0) (n:=3) M) ?_;refine ynj rfl rfl rfl (Px) ?_;refine ae ?_;refine aw ?_;refine xlq rfl (fun cc=>?_) (fun cc=>?_)
 ·have e0:(Bc lt s kk).getD 0 nW=nW:=cc;refine aw ?_;refine xad rfl rfl sdt (xtx (xyz (n:=3) M)) ?_;refine aw ?_;refine xzj 3 1 fun o=>?_;refine xgz func232 rfl (xtq rfl (.tmp rfl (.tmp rfl Ef.nil))) ?_;exact fun H H_=>K _ _ ⟨_,⟨_,_,by rw[hB,e0];rfl,o⟩,D6 H_⟩
 have e0:(Bc lt s kk).getD 0 nW≠nW:=cc;refine aw ?_;refine xzj 3 1 fun o=>?_
 refine xmq (fun m l p_ L_=>∃(d:Nat)(w:Value)(es:List (List Value))(Y:Pcs),m=s.Ag.length+1-d/\l=[(9,none,.slice a2 (s.Ag.length+1) a5),(10,none,w),(11,none,.J (d:Nat)),(6,none,w_ b2 0)]/\p_=p'/\
  L_=[Y,[(b2,.cells #[.J 0,.J 0,.J 0] 189 (0,0))],[(b1,.cells #[.slice a s.Ah.length ca,.slice b s.Ag.length cb,.J s.deep,.J s.Cf,.J s.rest] 187 (0,0))]]/\d<=s.Ag.length/\es.length<=d/\Ac 3 1 w es Y) ⟨0,_,[],_,rfl,rfl,rfl,rfl,Nat.zero_le _,Nat.zero_le _,o⟩ sb ?_
 rintro _ _ _ _ IH ⟨d,w,es,Y,rfl,rfl,rfl,rfl,hd,a8,o⟩;have hw:=xvh (xs:=Bc lt s kk) (i:=d) (by rw[xnj];omega);have V:=xan (lt:=lt) (s:=s) (k:=kk) d;unfold okN at V;refine aw ?_;refine xoz rfl (O.get d _ hw 2 _ rfl) ?_;refine aw ?_;refine xlq rfl (fun cd=>?_) (fun cd=>?_)
 ·have a7:(wcs (Bc lt s kk))[d]?=some ((Bc lt s kk).getD d nW).cells:=hw;obtain⟨d2,a3⟩:∃d2:Nat,((Bc lt s kk).getD d nW).next=(d2:Int):=⟨((Bc lt s kk).getD d nW).next.toNat,om⟩
  refine aw ?_;refine xoz rfl (O.get d _ hw 2 _ rfl) ?_;refine xbz rfl fun v2 Y2 o2=>?_;have o2:Ac 3 1 v2 [[.J ((Bc lt s kk).getD d nW).next]] Y2:=o2;refine xfv rfl rfl o o2 (fun u hu=>by rw[List.mem_singleton.1 hu];rfl) (by simp;omega) fun v3 Y3 o3=>?_;refine aw ?_;refine xoz rfl (O.get d _ hw 2 _ rfl) ?_;refine aw ?_;rw[a3]at V cd;rw[a3];exact xhq (IH _ _ _ om ⟨d2,v3,_,Y3,rfl,rfl,rfl,rfl,om,by simp;omega,o3⟩)
 refine aw ?_;refine xfk (vs:=((Bc lt s kk).getD 0 nW).cells) rfl (O.get 0 _ a4) ?_;refine aw ?_;refine xgz func232 rfl (xtq rfl (.tmp rfl (.tmp rfl Ef.nil))) ?_;exact fun H H_=>K _ _ ⟨_,⟨_,_,by rw[hB,decide_eq_false e0];rfl,o⟩,D6 H_⟩
theorem xfr(O:Per p h)(s:Shf)(S:Ck p a b s)(H:s.ok)(is:Prop)[Decidable is](hi:is):
 Aa prog md 173 #[.agg #[.slice a s.Ah.length ca,.slice b s.Ag.length cb,.J s.deep,.J s.Cf,.J s.rest],.bool (decide is)] h fun v M=>v=.tuple #[.agg #[.slice a s.Ah.length ca,.slice b s.Ag.length cb,.J s.deep,.J s.Cf,.J s.rest],.J 0]/\Af h M:=by
 have c:=Qk md h p O a b ca cb s S ⟨by have:=H.1;omega,by have:=H.2.2.1;omega⟩ is;rw[show Du s is=0 from by rw[Du,if_pos H,if_pos hi]]at c;exact c
theorem xl1(H:Per p h)(s:Shf)(S:Ck p a b s)(hn:s.Ah.length<=2^40/\s.Ag.length<=2^40)(is:Prop)[Decidable is](e:Int)(he:Du s is=e)(M:e≠0):
 Aa prog md 173 #[.agg #[.slice a s.Ah.length ca,.slice b s.Ag.length cb,.J s.deep,.J s.Cf,.J s.rest],.bool (decide is)] h fun v O=>v=.tuple #[.agg #[.slice none 0 0,.slice none 0 0,.J 0,.J 0,.J 0],.J e]/\Af h O:=by
 have c:=Qk md h p H a b ca cb s S hn is;rw[he,show opened a b ca cb s e=.agg #[.slice none 0 0,.slice none 0 0,.J 0,.J 0,.J 0] from if_neg M]at c;exact c
theorem Qw(md:Md)(h:Heap)(p:Ab)(hp:Per p h)(a b:Option Addr)(ca cb:Nat)(s:Shf)(S:Ck p a b s)(hn:s.Ah.length<=2^40/\s.Ag.length<=2^40){tN:TypeId}(z:Nat×Nat)(hG:p 1=some (.cells #[.J (-1),.J 0,.J 0] tN z))(fv:Value)(lt:Wy->Wy->Bool)
 (a3:∀M,Per p M-> ∀a b c a' b' c':Int,Az prog md fv [.agg #[.J a,.J b,.J c],.agg #[.J a',.J b',.J c']] M fun v h'=>v=.bool (lt ⟨a,b,c⟩ ⟨a',b',c'⟩)/\Af M h'):
 Aa prog md 169 #[.agg #[.slice a s.Ah.length ca,.slice b s.Ag.length cb,.J s.deep,.J s.Cf,.J s.rest],fv] h fun v h'=>∃Y,(∃w es,v=.tuple #[opened a b ca cb s (Cb lt s),.agg #[.J (Hv lt s).rings,.J (Hv lt s).Fc,.J (Hv lt s).next],w,.J (Cb lt s)]/\Ac 3 1 w es Y)/\New h h' Y:=by
 have hf:=xbm lt s;refine xfz hp func169 fun _ _ _ K=>?_;refine aw ?_;refine xgq rfl fun b1=>?_;refine xyq fun b2=>?_;refine xyq fun b3=>?_;refine aw ?_;rcases hf with⟨H,hf⟩|H
 ·refine xiq rfl rfl (fun _ pe=>xl1 pe s S hn True 20 (if_neg H) d_) ?_;refine aw ?_;refine xyq fun b4=>?_;refine aw ?_;refine xlq rfl (fun V=>?_) (fun V=>absurd d_ V);refine aw ?_;refine xpl 6 [] [3,4] [0,1,2,3,4,5] b2 b3 ?_;refine ae ?_;refine xkw rfl rfl rfl sdt (xtx (xyz (n:=3) hG)) ?_;refine ae ?_;refine aw ?_;refine xzj 3 1 fun o=>?_;refine xgz func169 rfl (xtq rfl (xtq rfl (.tmp rfl (.tmp rfl Ef.nil)))) ?_;exact fun M O=>K _ _ ⟨_,⟨_,_,by rw[Hv,hf];rfl,o⟩,D6 O⟩
 have a2:s.ok:=by rcases H with H|H<;>exact H.1
 refine xiq rfl rfl (fun _ pe=>xfr pe s S a2 True trivial) ?_;refine aw ?_;refine xyq fun b4=>?_;refine aw ?_;refine xlq rfl (fun V=>absurd rfl V) (fun V=>?_);refine aw ?_;refine xdj rfl rfl (fun _ pe=>Tt pe s S a2 z hG fv lt a3) ?_;rintro _ Y ⟨w,es,rfl,o⟩;refine aw ?_;refine xyq fun b5=>?_;refine aw ?_;rcases H with⟨_,hw,hf⟩|⟨_,hw,hf⟩
 ·refine xlq rfl (fun cd=>?_) (fun cd=>absurd (by simpa using hw) cd);refine aw ?_;refine xpl 5 [] [2,3] [0,1,2,3,4] b2 b3 ?_;refine ae ?_;refine xkw rfl rfl rfl sdt (xtx (xyz (n:=3) hG)) ?_;refine ae ?_;refine aw ?_;refine xzj 3 1 fun o=>?_;refine xgz func169 rfl (xtq rfl (xtq rfl (.tmp rfl (.tmp rfl Ef.nil)))) ?_;exact fun M O=>K _ _ ⟨_,⟨_,_,by rw[Hv,hf];rfl,o⟩,D6 O⟩
 refine xlq rfl (fun cd=>absurd cd (by simpa using hw)) (fun cd=>?_);refine aw ?_;refine xpl 6 [] [3,4] [0,1,2,3,4,5] b2 b3 ?_;refine ae ?_;refine aw ?_;refine xgz func169 rfl (xtq rfl (xtq rfl (.tmp rfl (.tmp rfl Ef.nil)))) ?_;exact fun M O=>K _ _ ⟨_,⟨_,_,by rw[Hv,hf];rfl,o⟩,D6 O⟩
theorem xc5(hp:Per p h)(s:Shf)(S:Ck p a b s)(hn:s.Ah.length<=2^40/\s.Ag.length<=2^40){tN:TypeId}(z:Nat×Nat)(hG:p 1=some (.cells #[.J (-1),.J 0,.J 0] tN z)){O:Value}(lt:Wy->Wy->Bool)
 (V:∀H,Per p H-> ∀a b c a' b' c':Int,Az prog md O [.agg #[.J a,.J b,.J c],.agg #[.J a',.J b',.J c']] H fun v M=>v=.bool (lt ⟨a,b,c⟩ ⟨a',b',c'⟩)/\Af H M)(he:Cb lt s=0):
 Aa prog md 169 #[.agg #[.slice a s.Ah.length ca,.slice b s.Ag.length cb,.J s.deep,.J s.Cf,.J s.rest],O] h fun v M=>∃Y,(∃w es,v=.tuple #[.agg #[.slice a s.Ah.length ca,.slice b s.Ag.length cb,.J s.deep,.J s.Cf,.J s.rest],.agg #[.J (Dq lt s 12).rings,.J (Dq lt s 12).Fc,.J (Dq lt s 12).next],w,.J 0]/\Ac 3 1 w es Y)/\New h M Y:=by
 have c:=Qw md h p hp a b ca cb s S hn z hG O lt V;rw[Hv,if_pos he,he]at c;exact c
theorem yez(hp:Per p h)(s:Shf)(S:Ck p a b s)(hn:s.Ah.length<=2^40/\s.Ag.length<=2^40){tN:TypeId}(z:Nat×Nat)(hG:p 1=some (.cells #[.J (-1),.J 0,.J 0] tN z)){O:Value}(lt:Wy->Wy->Bool)
 (V:∀H,Per p H-> ∀a b c a' b' c':Int,Az prog md O [.agg #[.J a,.J b,.J c],.agg #[.J a',.J b',.J c']] H fun v M=>v=.bool (lt ⟨a,b,c⟩ ⟨a',b',c'⟩)/\Af H M)(he:Cb lt s≠0):
 Aa prog md 169 #[.agg #[.slice a s.Ah.length ca,.slice b s.Ag.length cb,.J s.deep,.J s.Cf,.J s.rest],O] h fun v M=>∃Y,(∃w es,v=.tuple #[.agg #[.slice none 0 0,.slice none 0 0,.J 0,.J 0,.J 0],.agg #[.J (-1),.J 0,.J 0],w,.J (Cb lt s)]/\Ac 3 1 w es Y)/\New h M Y:=by
 have c:=Qw md h p hp a b ca cb s S hn z hG O lt V;rw[Hv,if_neg he,show opened a b ca cb s (Cb lt s)=.agg #[.slice none 0 0,.slice none 0 0,.J 0,.J 0,.J 0] from if_neg he]at c;exact c
theorem yep{lt:Wy->Wy->Bool}{s:Shf}(h:Cb lt s=0):s.ok:=by
 rcases xbm lt s with⟨_,e⟩|⟨k,_,e⟩|⟨k,_,e⟩
 ·rw[e]at h;cases h
 ·exact k
 ·exact k
theorem c85(hp:Per p h)(s:Shf)(S:Ck p a b s)(hn:s.Ah.length<=2^40/\s.Ag.length<=2^40){tN:TypeId}(z:Nat×Nat)(hG:p 1=some (.cells #[.J (-1),.J 0,.J 0] tN z)):
 Aa prog md 85 #[.agg #[.slice a s.Ah.length ca,.slice b s.Ag.length cb,.J s.deep,.J s.Cf,.J s.rest]] h fun v h'=>v=.tuple #[.J (Fi s),.J (Cb ltF s)]/\Af h h':=by
 refine xex hp func85 fun _ _ _ K=>?_;refine aw ?_;refine xgq rfl fun b1=>?_;refine aw ?_;by_cases he:Cb ltF s=0
 ·refine xdj rfl rfl (fun _ H=>xc5 H s S hn z hG ltF (fun V H a b c a' b' c'=>xkq k_ (Qd H a b c a' b' c')) he) ?_;rintro _ Y ⟨w,es,rfl,o⟩;refine aw ?_;refine xyq fun b2=>?_;refine xyq fun b3=>?_;refine aw ?_;refine xlq rfl (fun M=>absurd rfl M) (fun M=>?_);refine aw ?_;exact K.r rfl rfl fun V O=>⟨by rw[Fi,if_pos he,he];rfl,O.kept⟩
 ·refine xdj rfl rfl (fun _ H=>yez H s S hn z hG ltF (fun V H a b c a' b' c'=>xkq k_ (Qd H a b c a' b' c')) he) ?_;rintro _ Y ⟨w,es,rfl,o⟩;refine aw ?_;refine xyq fun b2=>?_;refine xyq fun b3=>?_;refine aw ?_;refine xlq rfl (fun M=>?_) (fun M=>absurd he M);refine aw ?_;exact K.r rfl rfl fun V O=>⟨by rw[Fi,if_neg he];rfl,O.kept⟩
theorem c87(md:Md)(hp:Per p h)(a b:Option Addr)(ca cb:Nat)(s:Shf)(S:Ck p a b s)(hn:s.Ah.length<=2^40/\s.Ag.length<=2^40){tN:TypeId}(z:Nat×Nat)(hG:p 1=some (.cells #[.J (-1),.J 0,.J 0] tN z)):
 Aa prog md 87 #[.agg #[.slice a s.Ah.length ca,.slice b s.Ag.length cb,.J s.deep,.J s.Cf,.J s.rest]] h fun v h'=>v=.tuple #[.J (Ch s),.J (Cb ltC s)]/\Af h h':=by
 refine xex hp func87 fun _ _ _ K=>?_;refine aw ?_;refine xgq rfl fun b1=>?_;refine aw ?_;by_cases he:Cb ltC s=0
 ·have O:=yep he;have hl:=O.2.2.1;have hd:=xvr O (i:=s.Ag.length) (Nat.le_refl _);have hw:okW _ (Dq ltC s 12):=xzb (lt:=ltC) O (k:=min 12 s.Ag.length) 0;unfold okW at hw;refine xdj rfl rfl (fun _ H=>xc5 H s S hn z hG ltC (fun h_ H a b c a' b' c'=>xkq k_ (Qx H a b c a' b' c')) he) ?_;rintro _ Y ⟨w,es,rfl,o⟩;refine aw ?_;refine xyq fun b2=>?_;refine xyq fun b3=>?_;refine aw ?_;refine xlq rfl (fun M=>absurd rfl M) (fun M=>?_);refine aw ?_;refine xjw 6 [] [] [0,1,2,3,4,5] ?_;refine ae ?_;refine xvz rfl rfl rfl (fun _ H=>Vy H s S O) ?_;refine ae ?_;refine aw ?_;exact K.r rfl rfl fun h_ V=>⟨by rw[Ch,if_pos he,he];rfl,V.kept⟩
 ·refine xdj rfl rfl (fun _ H=>yez H s S hn z hG ltC (fun h_ H a b c a' b' c'=>xkq k_ (Qx H a b c a' b' c')) he) ?_;rintro _ Y ⟨w,es,rfl,o⟩;refine aw ?_;refine xyq fun b2=>?_;refine xyq fun b3=>?_;refine aw ?_;refine xlq rfl (fun M=>?_) (fun M=>absurd he M);refine aw ?_;exact K.r rfl rfl fun h_ V=>⟨by rw[Ch,if_neg he];rfl,V.kept⟩
theorem xyb{s:Shf}(he:Cb ltC s=0):0<=Ch s/\Ch s<=10000:=by
 have H:=yep he;have M:=H.2.2.1;have O:=xvr H (i:=s.Ag.length) (Nat.le_refl _);have hw:okW _ (Dq ltC s 12):=xzb (lt:=ltC) H (k:=min 12 s.Ag.length) 0;unfold okW at hw;rw[Ch,if_pos he];omega
theorem xe3{n w:Nat}{es:List (List Value)}(s:Sl p a n w es){d:Nat}(h:d<=n):Sl p a d w (es.take d):=by
 have:=s.part (c:=n) (l:=0) (r:=d) (Nat.le_refl n) (Nat.zero_le d) h;rwa[xv7,Nat.sub_zero,List.drop_zero]at this
theorem yid{s:Shf}(S:Ck p a b s){d:Nat}(h:d<=s.Ag.length):Ck p a b (E1 s d):=
 ⟨S.r,by have:=xe3 S.f h;rw[<- List.map_take]at this;show Sl p b (s.Ag.take d).length 1 _;rw[List.length_take,Nat.min_eq_left h];exact this⟩
theorem c89(hp:Per p h)(s:Shf)(S:Ck p a b s)(hn:s.Ah.length<=2^40/\s.Ag.length<=2^40)(hc:s.Ag.length<=cb){tN:TypeId}(z:Nat×Nat)(hG:p 1=some (.cells #[.J (-1),.J 0,.J 0] tN z))(H:Int):
 Aa prog md 89 #[.agg #[.slice a s.Ah.length ca,.slice b s.Ag.length cb,.J s.deep,.J s.Cf,.J s.rest],.J H] h fun v h'=>v=.tuple #[.J (Ke s H),.J (Lo s H)]/\Af h h':=by
 refine xex hp func89 fun _ _ _ K=>?_;refine aw ?_;refine xgq rfl fun b1=>?_;refine aw ?_;refine xjw 9 [] [7,8] [0,1,2,3,4,5,6,7,8] ?_;refine ae ?_;refine xvz rfl rfl rfl (fun _ O=>c68 O) ?_;by_cases he:Lo s H=0
 ·have hk:s.ok/\(0<=H/\H<=9999):=by
   unfold Lo Du at he;split at he
   ·rename_i h1;split at he
    ·rename_i h2;exact⟨h1,h2⟩
    ·cases he
   ·cases he
  refine xvz rfl rfl rfl (fun _ O=>xfr O s S hk.1 _ hk.2) ?_;refine ae ?_;refine xdh rfl fun b2=>?_;refine ae ?_;refine aw ?_;refine xlq rfl (fun cc=>absurd rfl cc) (fun cc=>?_);refine aw ?_;refine xmq (fun m l p_ L_=>∃(d:Nat)(A:Pcs),m=d/\l=[(1,none,.J H),(2,none,w_ b1 0),(8,none,.J (d:Nat))]/\p_=p/\L_=[[(b1,.cells #[.slice a s.Ah.length ca,.slice b s.Ag.length cb,.J s.deep,.J s.Cf,.J s.rest] 25 (0,0))],A]/\d<=s.Ag.length/\Kd s H d=Kd s H s.Ag.length) ⟨s.Ag.length,_,rfl,rfl,rfl,rfl,Nat.le_refl _,rfl⟩ sb ?_;rintro d _ _ _ IH ⟨_,A,rfl,rfl,rfl,rfl,hd,V⟩;refine aw ?_;refine xlq rfl (fun cd=>?_) (fun cd=>?_)
  ·obtain⟨M,rfl⟩:∃M,d=M+1:=⟨d-1,om⟩
   have e:(E1 s (M+1)).Ag.length=M+1:=by simp[E1];omega
   refine aw ?_;refine xyq fun b3=>?_;refine aw ?_;refine xld (j:=M+1) rfl rfl om ?_;refine aw ?_;refine xiq rfl rfl (fun _ O=>by have c:=c87 md O a b ca cb (E1 s (M+1)) (yid S hd) ⟨hn.1,om⟩ z hG;rw[e]at c;exact c) ?_;refine aw ?_;rw[Kd]at V;refine xlq rfl (fun ce=>?_) (fun ce=>?_)
   ·refine aw ?_;rw[if_pos ce]at V;exact K.r rfl rfl fun _ H_=>⟨by rw[Ke,if_pos he,he,<- V];rfl,H_.kept⟩
   ·rw[if_neg ce]at V;refine aw ?_;rw[show((M+1:Nat):Int)-1=(M:Nat) by omega];exact xhq (IH _ _ _ (Nat.lt_succ_self M) ⟨M,A,rfl,rfl,rfl,rfl,om,V⟩)
  obtain rfl:d=0:=om;refine aw ?_;exact K.r rfl rfl fun _ H_=>⟨by rw[Ke,if_pos he,he,<- V];rfl,H_.kept⟩
 ·refine xvz rfl rfl rfl (fun _ O=>xl1 O s S hn _ _ rfl he) ?_;refine ae ?_;refine xdh rfl fun b2=>?_;refine ae ?_;refine aw ?_;refine xlq rfl (fun cc=>?_) (fun cc=>absurd he cc);refine aw ?_;exact K.r rfl rfl fun _ H_=>⟨by rw[Ke,if_neg he];rfl,H_.kept⟩
theorem yds{H:Option Addr}{n:Nat}{s:Shf}{r:Int}(S:Ck p a b s)(F:Sl p H n 1 (s.Ag.map (fun x=>[.J x])++[[.J r]])):Ck p a H (C5 s r):=
 ⟨S.r,by
  have M:=F.len;simp only[List.length_append,List.length_map,List.length_cons,List.length_nil]at M;have e:(C5 s r).Ag.length=n:=by rw[<- M];simp[C5]
  rw[e];show Sl p H n 1 _;rw[show(C5 s r).Ag=s.Ag++[r] from rfl,List.map_append];exact F⟩
theorem c91(hp:Per p h)(s:Shf)(S:Ck p a b s)(hn:s.Ah.length<=2^30/\s.Ag.length<=2^30)(hc:s.Ag.length<=cb){tN:TypeId}(z:Nat×Nat)(hG:p 1=some (.cells #[.J (-1),.J 0,.J 0] tN z))(r:Int):
 Aa prog md 91 #[.agg #[.slice a s.Ah.length ca,.slice b s.Ag.length cb,.J s.deep,.J s.Cf,.J s.rest],.J r] h fun v h'=>v=.tuple #[.J (Ha s r),.J (Fa s r)]/\Af h h':=by
 refine xex hp func91 fun _ _ _ K=>?_;refine aw ?_;refine xgq rfl fun b1=>?_;refine aw ?_;refine xjw 13 [] [11,12] [0,1,2,3,4,5,6,7,8,9,10,11,12] ?_;refine ae ?_;refine xvz rfl rfl rfl (fun _ H=>c68 H) ?_;by_cases he:Du s (0<=r/\r<=(s.Ah.length:Int)-1)=0
 ·have hk:s.ok/\(0<=r/\r<=(s.Ah.length:Int)-1):=by
   unfold Du at he;split at he
   ·rename_i h1;split at he
    ·rename_i h2;exact⟨h1,h2⟩
    ·cases he
   ·cases he
  have hl:=hk.1.2.2.1;refine xvz rfl rfl rfl (fun _ H=>xfr H s S hk.1 _ hk.2) ?_;refine ae ?_;refine xdh rfl fun b2=>?_;refine ae ?_;refine aw ?_;refine xlq rfl (fun cc=>absurd rfl cc) (fun cc=>?_);refine aw ?_;refine xlq rfl (fun cd=>?_) (fun cd=>?_)
  ·refine aw ?_;have e:Fa s r=2:=by rw[Fa,if_neg (fun z=>z he),if_pos om]
   exact K.r rfl rfl fun _ M=>⟨by rw[Ha,e,if_neg d_];rfl,M.kept⟩
  refine aw ?_;refine xiq rfl rfl (fun _ H=>c87 md H _ _ _ _ s S ⟨om,om⟩ z hG) ?_;refine aw ?_;refine xlq rfl (fun V=>?_) (fun V=>?_)
  ·refine aw ?_;have e:Fa s r=Cb ltC s:=by rw[Fa,if_neg (fun z=>z he),if_neg om,if_pos V]
   exact K.r rfl rfl fun _ M=>⟨by rw[Ha,e,if_neg V];rfl,M.kept⟩
  have V:=Classical.not_not.1 V;refine aw ?_;refine yrc rfl rfl rfl hc ?_;refine aw ?_;refine xbz rfl fun v2 Y2 o2=>?_;have o2:Ac 3 1 v2 [[.J r]] Y2:=o2;refine xzs rfl rfl S.f o2 (Nat.succ_pos _) (by simp;omega) fun v3 Y3 o3=>?_;refine xpx o3 (m:=s.Ag.length+1) s_ d_ fun p' b3 c3 g e3 a5 F=>?_;subst e3;have S':=yds (S.mono g.le) F;have a2:=g.le _ _ hG;refine aw ?_;refine xiq rfl rfl (fun _ H=>by have c:=c87 md H a b3 ca c3 (C5 s r) S' ⟨by simp only[C5];omega,by simp[C5];omega⟩ z a2;rw[show(C5 s r).Ag.length=s.Ag.length+1 from by simp[C5]]at c;exact c) ?_;refine aw ?_;have e:Fa s r=Cb ltC (C5 s r):=by rw[Fa,if_neg (fun z=>z he),if_neg om,if_neg (fun z=>z V)]
  refine xlq rfl (fun O=>?_) (fun O=>?_)
  ·refine aw ?_;exact K.r rfl rfl fun _ M=>⟨by rw[Ha,e,if_neg O];rfl,M.kept⟩
  have O:=Classical.not_not.1 O;have a3:=xyb V;have a4:=xyb O;refine aw ?_;exact K.r rfl rfl fun _ M=>⟨by rw[Ha,e,if_pos O,O];rfl,M.kept⟩
 ·refine xvz rfl rfl rfl (fun _ H=>xl1 H s S ⟨om,om⟩ _ _ rfl he) ?_;refine ae ?_;refine xdh rfl fun b2=>?_;refine ae ?_;refine aw ?_;refine xlq rfl (fun cc=>?_) (fun cc=>absurd he cc);refine aw ?_;have e:Fa s r=Du s (0<=r/\r<=(s.Ah.length:Int)-1):=by rw[Fa,if_pos he]
  exact K.r rfl rfl fun _ M=>⟨by rw[Ha,e,if_neg he];rfl,M.kept⟩
end
end Go.Proofs.YtblcmdjhidhnjaaGreatDoor
