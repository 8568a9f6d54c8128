/-
  Part of proofs about a town's master: a calculus for Bc beside goroutines that are only leaving, and the Bc. No condition.
-/
import Derived.Test.YtofhlcococeifaaGreatDoorYE
import Derived.Test.YtofhlcococeifaaGreatDoorYI
import Derived.Lib.ItoaNum
import Derived.Lib.Bytealg
set_option maxHeartbeats 4000000
set_option maxRecDepth 20000
set_option synthInstance.maxSize 2000
namespace Go.X.Ms
variable{b:Bool}{n:Nat}
abbrev Str:=List UInt8
def Ad:Str->List Str
 |[]=>[[]]
 |c::s=>if c=32 then []::Ad s else((c::(Ad s).headD [])::(Ad s).tail)
theorem xaj:∀s,Ad s≠[]
 |[]=>by simp[Ad]
 |c::s=>by unfold Ad;split<;>simp
def C9(n:Nat):Str:=if n<10 then [UInt8.ofNat (48+n)]else C9 (n / 10)++[UInt8.ofNat (48+n%10)]
termination_by n
decreasing_by omega
def txt(n:Int):Str:=if n<0 then 45::C9 n.natAbs else C9 n.natAbs
def C7(c:UInt8):Bool:=decide (48<=c.toNat/\c.toNat<=57)
def isLet(s:Str):Bool:=match s with
 |[c]=>decide (97<=c.toNat/\c.toNat<=122)
 |_=>false
def E6:Nat->Str->Option Nat
 |acc,[]=>some acc
 |acc,c::s=>if C7 c then E6 (10*acc+(c.toNat-48)) s else none
def Hv(H:Bool)(t:Str):Option Nat:=if t.length<1\/6<t.length\/(t.headD 0=48/\(1<t.length\/H=true))then none else E6 0 t
def Cu(s:Str):Option Int:=if s.headD 0=45 then(Hv true s.tail).map (fun n:Nat=>-(n:Int))else(Hv false s).map (fun n:Nat=>(n:Int))
theorem u8n(h:n<256):(UInt8.ofNat n).toNat=n:=by simp[UInt8.toNat_ofNat'];omega
theorem xzj(h:n<10):C9 n=[UInt8.ofNat (48+n)]:=by rw[C9,if_pos h]
theorem xqv(h:10<=n):C9 n=C9 (n / 10)++[UInt8.ofNat (48+n%10)]:=by rw[C9,if_neg om]
theorem xy6:∀{s t:Str}{acc m:Nat},E6 acc s=some m->E6 acc (s++t)=E6 m t
 |[],t,acc,m,h=>by cases h;rfl
 |c::s,t,acc,m,h=>by
   unfold E6 at h;rw[List.cons_append,E6];split at h
   ·rename_i hc;rw[if_pos hc];exact xy6 h
   ·cases h
theorem xh8(h:n<10):C7 (UInt8.ofNat (48+n))=true/\(UInt8.ofNat (48+n)).toNat-48=n:=by
 have e:=u8n (n:=48+n) om;unfold C7;rw[e];exact⟨by simp;omega,om⟩
theorem ykd(n:Nat):E6 0 (C9 n)=some n:=by
 induction n using Nat.strongRecOn with
 |_ n ih=>
   by_cases h:n<10
   ·have:=xh8 h;rw[xzj h,E6,if_pos this.1,E6,this.2];simp
   ·have:=xh8 (n:=n%10) om;rw[xqv om,xy6 (ih (n / 10) om),E6,if_pos this.1,E6,this.2];congr 1;omega
theorem xkc(n:Nat):1<=(C9 n).length:=by
 by_cases h:n<10
 ·rw[xzj h];simp
 ·rw[xqv om];simp
theorem xhj:∀{k n:Nat},n<10^(k+1)->(C9 n).length<=k+1
 |0,n,h=>by rw[xzj om];simp
 |k+1,n,h=>by
   by_cases c:n<10
   ·rw[xzj c];simp
   ·have:=xhj (k:=k) (n:=n / 10) (by rw[Nat.pow_succ]at h;omega);rw[xqv om];simp;omega
theorem xww:∀{k n:Nat},10^k<=n->k+1<=(C9 n).length
 |0,n,h=>xkc n
 |k+1,n,h=>by
   have H:10<=n:=by
    have:10^1<=10^(k+1):=Nat.pow_le_pow_right om om;omega
   have:=xww (k:=k) (n:=n / 10) (by rw[Nat.pow_succ]at h;omega);rw[xqv H];simp;omega
theorem ylx:∀{n:Nat},0<n-> ∃c t,C9 n=c::t/\49<=c.toNat/\c.toNat<=57:=fun{n}=>by
 induction n using Nat.strongRecOn with
 |_ n ih=>
   intro M;by_cases h:n<10
   ·exact⟨_,[],xzj h,by rw[u8n om];omega,by rw[u8n om];omega⟩
   ·obtain⟨c,t,e,H⟩:=ih (n / 10) om om;exact⟨c,t++[UInt8.ofNat (48+n%10)],by rw[xqv om,e];rfl,H⟩
theorem xlc:∀{n:Nat},∀c∈C9 n,C7 c=true:=fun{n}=>by
 induction n using Nat.strongRecOn with
 |_ n ih=>
   by_cases h:n<10
   ·rw[xzj h];intro c hc;rw[List.mem_singleton.1 hc];exact(xh8 h).1
   ·rw[xqv om];intro c hc;rcases List.mem_append.1 hc with hc|hc
    ·exact ih (n / 10) om c hc
    ·rw[List.mem_singleton.1 hc];exact(xh8 om).1
theorem xe5{c:UInt8}(h:c.toNat=48):c=48:=UInt8.toNat_inj.1 (by rw[h];rfl)
theorem xh0:C9 0=[48]:=by rw[xzj om];rfl
theorem xt6(h:n<=999999)(M:b=true->0<n):Hv b (C9 n)=some n:=by
 unfold Hv;rw[if_neg,ykd];have O:=xkc n;have V:=xhj (k:=5) (n:=n) om;rintro(z|z|⟨z,w⟩)
 ·omega
 ·omega
 ·by_cases c:n=0
  ·subst c;rw[xh0]at w;rcases w with w|w
   ·simp at w
   ·exact absurd (M w) om
  ·obtain⟨d,t,e,H,_⟩:=ylx (n:=n) om;rw[e]at z;simp at z;rw[z]at H;exact absurd H d_
theorem xwl{n:Int}(h: -999999<=n/\n<=999999):Cu (txt n)=some n:=by
 unfold Cu txt;by_cases c:n<0
 ·rw[if_pos c];simp only[List.headD_cons,if_true,List.tail_cons];rw[xt6 om (fun _=>om)];simp;omega
 ·rw[if_neg c,if_neg,xt6 om (fun z=>by cases z)]
  ·simp;omega
  ·intro z;cases e:C9 n.natAbs with
   |nil=>have:=xkc n.natAbs;rw[e]at this;simp at this
   |cons d t=>
     have:=xlc d (by rw[e];simp);rw[e]at z;simp at z;subst z;exact absurd this d_
theorem xw6:∀{s:Str}{acc m:Nat},E6 acc s=some m->(0<acc->C9 m=C9 acc++s)/\acc<=m
 |[],acc,m,h=>by cases h;simp
 |c::s,acc,m,h=>by
   unfold E6 at h;split at h
   ·rename_i hc;have H:=xw6 h;unfold C7 at hc;simp only[decide_eq_true_eq]at hc;refine⟨fun M=>?_,om⟩;rw[H.1 om,xqv (n:=10*acc+(c.toNat-48)) om,show(10*acc+(c.toNat-48)) / 10=acc by omega,show(10*acc+(c.toNat-48))%10=c.toNat-48 by omega];have:UInt8.ofNat (48+(c.toNat-48))=c:=UInt8.toNat_inj.1 (by rw[u8n om];omega);rw[this,List.append_assoc];rfl
   ·cases h
theorem xu6{t:Str}(h:Hv b t=some n):t=C9 n/\n<=999999/\(b=true->0<n):=by
 unfold Hv at h;split at h
 ·cases h
 ·rename_i hc;simp only[not_or,not_and]at hc;obtain⟨h1,h2,V⟩:=hc;have key:t=C9 n/\(b=true->0<n):=by
   cases t with
   |nil=>simp at h1
   |cons c t=>
     unfold E6 at h;split at h
     ·rename_i H;unfold C7 at H;simp only[decide_eq_true_eq]at H;by_cases z:c.toNat=48
      ·have M:=xe5 z;have O:=V (by simpa using M);have:t=[]:=by
        have:=O.1;simp at this;exact List.eq_nil_of_length_eq_zero (by simp;omega)
       subst this;cases h;subst M;exact⟨by rw[show 10*0+(UInt8.toNat 48-48)=0 from rfl,xh0],fun hb=>absurd hb O.2⟩
      ·have:=xw6 h;refine⟨?_,fun _=>om⟩;rw[this.1 om,xzj om];have:UInt8.ofNat (48+(10*0+(c.toNat-48)))=c:=UInt8.toNat_inj.1 (by rw[u8n om];omega);rw[this];rfl
     ·cases h
  refine⟨key.1,?_,key.2⟩;rcases Nat.lt_or_ge n 1000000 with z|z
  ·omega
  ·have:=xww (k:=6) (n:=n) z;rw[<- key.1]at this;omega
theorem yjd{s:Str}{n:Int}(h:Cu s=some n):s=txt n/\ -999999<=n/\n<=999999:=by
 unfold Cu at h;split at h
 ·rename_i H;obtain⟨m,M,O⟩:=Option.map_eq_some_iff.1 h;have:=xu6 M;subst O;have V:=this.2.2 rfl;refine⟨?_,om,om⟩;unfold txt;rw[if_pos om];cases s with
  |nil=>simp at H
  |cons c t=>
    simp at H;subst H;rw[List.tail_cons]at this;rw[this.1];congr 2;simp
 ·obtain⟨m,M,O⟩:=Option.map_eq_some_iff.1 h;have:=xu6 M;subst O;refine⟨?_,om,om⟩;unfold txt;rw[if_neg om,this.1];simp
end Go.X.Ms
namespace Go.X
open Go.Conc
variable{aft:Array Edge}{d:Array UInt8}{h:Heap}{j:Int}{k1 k2 kk:IntKind}{xs:List (List UInt8)}{ops rest:List Oper}{LF LR:List Pcs}{l:List UInt8}{tm:List Value}{b i n o w:Nat}{x y z:Operand}{gd:Option (Nat×Bool)}{g:Option Bool}{p:Ab}{P:Program}{t ty:TypeId}{v:Value}
def F6(d:Array UInt8):List Value:=d.toList.map fun b=>.int .u8 ((b.toNat:Nat):Int)
theorem xv5:(F6 d).length=d.size:=by simp[F6]
theorem ymm{A Z:List Value}{j:Nat}{b:UInt8}(H:o=A.length+j)(M:j<d.size)(hv:v=.int .u8 ((b.toNat:Nat):Int)):(A++(F6 d++Z)).set o v=A++(F6 (d.setIfInBounds j b)++Z):=by
 subst H;subst hv;rw[List.set_append_right _ _ om,Nat.add_sub_cancel_left,List.set_append_left _ _ (by rw[xv5];exact M)];congr 2;simp[F6,List.map_set]
theorem yjc(M:l.length=d.size)(h:∀t,t<d.size->d[t]! =l.getD t 0):F6 d=(bcs l).flatten:=by
 rw[xvj,F6];congr 1;refine List.ext_getElem (by simp[M]) fun i H O=>?_;have:=h i (by simpa using H);rw[List.getD_eq_getElem?_getD,List.getElem?_eq_getElem O]at this;simpa[getElem!_pos d i (by simpa using H)]using this
theorem Gm{n:Int}(h:0<=n/\n<=4294967295):IntKind.u32.wrap n=n:=by
 show(n%((2:Int)^32))=n;exact Int.emod_eq_of_lt h.1 om
section
variable{X:Cx}{k:List Item}{l:Env}{LL:List Pcs}{d:Option Tmp}{pos:String}{ss ss' ss2:List Prop}{a:List UInt8}
theorem yfh(i r:Nat)(V:evS l x=some (ss,sv a))(hy:evS l y=some (ss',.int k1 ((i:Nat):Int)))(hz:evS l z=some (ss2,.int k2 ((r:Nat):Int)))(hs:Bn g (Bl ss))(M:Bn g (Bl ss'))(O:Bn g (Bl ss2))(H:Bn g (i<=r/\r<=a.length))(ht:X.P.underlying t=some .string:=by kernel_rfl):Yl X p LL l g (.slice t x (some y) (some z) none) (sv ((a.drop i).take (r-i))):=⟨rfl,(xnk H (xnk hs (xnk M O And.intro) And.intro) fun H hs _ _ _ E _=>xot ht (xdq E V hs.1) (.nat 0 (xdq E hy hs.2.1)) (.nat _ (xdq E hz hs.2.2)) H.1 H.2)⟩
theorem xw0{e:TypeId}{off q c:Nat}(H:evS l x=some ([],.slice (some ⟨b,off,none⟩) q c))(M:evS l y=some ([],.int kk j))(O:0<=j)(hi:j<q)[f:Ca X.P t e][sz:Ak X.P e w](n:RO X k ops rest (ent d none (.pointer (some ⟨b,off+j.toNat*w,none⟩)) l) p LL):
 RO X k ops (⟨d,.indexAddr t x y,ty,pos,aft,none⟩::rest) l p LL:=ro_y rfl (xed H M O hi rfl) (by rw[show adr (some ⟨b,off,none⟩)=⟨b,off,none⟩ from rfl,xox];exact n)
theorem xj4{m:Ks}{H todo:List Nat}{e:TypeId}{off q c:Nat}(ho:ops[i]?=some ⟨d,.indexAddr t x y,ty,pos,aft,none⟩)(M:evS l x=some ([],.slice (some ⟨b,off,none⟩) q c))(O:evS l y=some ([],.int kk j))(V:0<=j)(hi:j<q)[f:Ca X.P t e][sz:Ak X.P e w]
 (n:DE X k ops m p LF H todo (ent d none (.pointer (some ⟨b,off+j.toNat*w,none⟩)) l) LL):DE X k ops m p LF H (i::todo) l LL:=de_y ho rfl (xed M O V hi rfl) (by rw[show adr (some ⟨b,off,none⟩)=⟨b,off,none⟩ from rfl,xox];exact n)
theorem xfz{c:Item}(J:Env->Ab->List Pcs->Prop)(rest:∀l' p' LL',J l' p' LL'->RE X k l' p' LL')(H:∀k',(∀l' p' LL',J l' p' LL'->RE X k' l' p' LL')->RE X (c::k') l p LL):RE X (c::k) l p LL:=H k rest
end
namespace Ms
theorem xbs(u:Nat):C9 u=Lib.decDigits u:=by
 induction u using Nat.strongRecOn with
 |_ u ih=>
   by_cases h:u<10
   ·rw[xzj h,Lib.decDigits,dif_pos h]
   ·rw[xqv om,Lib.decDigits,dif_neg h,ih (u / 10) om]
theorem xa3(u:Nat):(C9 u).length=Lib.nDigits u:=by rw[xbs,Lib.decDigits_length]
theorem xo7{u v:Nat}(h:Lib.FmtInv (Lib.nDigits u) u 0 v d):F6 d=(bcs (C9 u)).flatten:=by
 refine yjc (by rw[xa3,h.size]) fun t H=>?_;rw[h.size]at H;rw[h.done t (Nat.zero_le _) H,xbs,Lib.decDigits_eq,List.getD_eq_getElem?_getD,List.getElem?_map,List.getElem?_range H];rfl
end Ms
section
variable{d:Option Tmp}{pos:String}
theorem xkg{e:TypeId}{lo hi:Option Operand}{r:Nat}(ht:P.underlying t=some (.array n e))(hs:Bv P e=some w)(H:evl tm x=w_ b o)(O:Bd tm lo 0 i)(bh:Bd tm hi n r)(M:i<=r)(V:r<=n)(h3:i<n):
 Exd P tm ⟨d,.slice t x lo hi none,ty,pos,aft,gd⟩ h (.slice (some ⟨b,o+i*w,none⟩) (r-i) (n-i)):=by
 refine xbj (s:=Instr.sliceAt t (w_ b o) (lo.map (evl tm)) (hi.map (evl tm)) none) (by simp only[execOp,H,Option.map_none]) ?_;unfold Instr.sliceAt;refine xaq (xcq ht ?_);simp only[Instr.sureAddr];refine xaq (xbq ?_);refine xaq (xnv (tm:=tm) O bh M V ?_);simp only;refine xaq (xvq hs ?_);refine xbq ⟨?_,rfl⟩;rw[if_neg om,xox]
end
section
variable{X:Cx}{k:List Item}{l:Env}{LL:List Pcs}{d:Option Tmp}{pos:String}
theorem ynl{e:TypeId}{r:Nat}(M:evS l x=some ([],w_ b o))(hy:evS l y=some ([],.int k1 ((i:Nat):Int)))(hz:evS l z=some ([],.int k2 ((r:Nat):Int)))(O:i<=r)(V:r<=n)(H:i<n)(ht:X.P.underlying t=some (.array n e))[sz:Ak X.P e w]:Yl X p LL l none (.slice t x (some y) (some z) none) (.slice (some ⟨b,o+i*w,none⟩) (r-i) (n-i)):=⟨rfl,(fun _ _ _ E _=>xkg ht sz.h (xdq E M trivial) (.nat 0 (xdq E hy trivial)) (.nat _ (xdq E hz trivial)) O V H)⟩
theorem ypm{e:TypeId}{r:Nat}(M:evS l x=some ([],w_ b o))(hz:evS l z=some ([],.int k2 ((r:Nat):Int)))(O:r<=n)(H:0<n)(V:X.P.underlying t=some (.array n e))[sz:Ak X.P e w]
 (nx:RO X k ops rest (ent d none (.slice (some ⟨b,o,none⟩) r n) l) p LL):RO X k ops (⟨d,.slice t x none (some z) none,ty,pos,aft,none⟩::rest) l p LL:=
 xtb (g:=none) rfl rfl (fun tm h E _=>by
  have q:=xkg (d:=d) (ty:=ty) (pos:=pos) (aft:=aft) (gd:=none) (P:=X.P) (h:=h) V sz.h (xdq E M trivial) (.none 0) (.nat n (xdq (x:=z) E hz trivial)) (Nat.zero_le _) O H;simpa using q) nx
theorem xw5{e:TypeId}{len:Nat}(O:X.P.underlying t=some (.array len e))(H:evS l x=some ([],w_ b o))(M:evS l y=some ([],.int k1 ((i:Nat):Int)))(h:i<len)[sz:Ak X.P e w](n:RO X k ops rest (ent d none (.pointer (some ⟨b,o+i*w,none⟩)) l) p LL):
 RO X k ops (⟨d,.indexAddr t x y,ty,pos,aft,none⟩::rest) l p LL:=ro_y rfl (yql O H M h) (by rw[xox];exact n)
end
theorem xyt{a:Nat}(h:a+b<=n):List.replicate n (Value.int .u8 0)=List.replicate a (Value.int .u8 0)++(F6 (Array.replicate b 0)++List.replicate (n-a-b) (Value.int .u8 0)):=by
 have e:F6 (Array.replicate b 0)=List.replicate b (Value.int .u8 0):=by simp[F6]
 rw[e,List.replicate_append_replicate,List.replicate_append_replicate];congr 1;omega
namespace Ms
theorem yyl{m:Nat}(h:0<m):txt (-((m:Nat):Int))=45::C9 m:=by unfold txt;rw[if_pos om];simp
theorem yix(m:Nat):txt ((m:Nat):Int)=C9 m:=by unfold txt;rw[if_neg om];simp
end Ms
section
variable{c:UInt8}
theorem yhx(c:UInt8):((c.toNat:Nat):Int).toNat.toUInt8=c:=by rw[Int.toNat_natCast];simp
theorem xwr:wpS P (Extern.BytealgIndexByte.indexByte #[sv l,.int .u8 ((c.toNat:Nat):Int)]) h fun v' H=>v'=.J (Lib.indexByte l c)/\H=h:=by
 have e:=Lib.firstIdx_eq (bs l) c;change wpS P (do
  let b <- Extern.Bytes.bytesOf (.string (bs l))
  let c' <- Extern.Bytes.asByte (.int .u8 ((c.toNat:Nat):Int))
  match(List.range b.size).find? fun i=>b[i]! == c' with
  |some i=>pure (goInt i)
  |none=>pure (goInt (-1))) h _
 simp only[Extern.Bytes.bytesOf,Extern.Bytes.asByte,yhx];refine xaq (xbq ?_);refine xaq (xbq ?_);have O:(bs l).data.toList=l:=by simp[bs]
 rw[O]at e;rw[<- e];unfold firstIdx;split<;>rename_i M<;>rw[M]<;>exact xbq ⟨rfl,rfl⟩
theorem yfx:wpS P (Extern.BytealgCount.count #[sv l,.int .u8 ((c.toNat:Nat):Int)]) h fun v' M=>v'=.J ((l.count c:Nat):Int)/\M=h:=by
 change wpS P (do
  let b <- Extern.Bytes.bytesOf (.string (bs l))
  let c' <- Extern.Bytes.asByte (.int .u8 ((c.toNat:Nat):Int))
  pure (goInt (b.foldl (fun n x=>if x==c' then n+1 else n) (0:Nat)))) h _
 simp only[Extern.Bytes.bytesOf,Extern.Bytes.asByte,yhx];refine xaq (xbq ?_);refine xaq (xbq ?_);refine xbq ⟨?_,rfl⟩;have O:(bs l).data.toList=l:=by simp[bs]
 rw[Lib.foldl_data,O];have H:=Lib.count_foldl c l 0;simp only[Lib.countByte,Int.zero_add]at H;exact congrArg (Value.int .i64) H
end
def scs(xs:List (List UInt8)):List (List Value):=xs.map fun t=>[sv t]
def At(p:Ab)(a:Option Addr)(n:Nat)(xs:List (List UInt8)):Prop:=Sl p a n 1 (scs xs)
theorem xmx(xs:List (List UInt8)):(scs xs).length=xs.length:=by simp[scs]
section
variable{p':Ab}{a:Option Addr}
theorem At.len(s:At p a n xs):xs.length=n:=by have:=Sl.len s;simpa[scs]using this
theorem At.mono(H:PLe p p')(s:At p a n xs):At p' a n xs:=Sl.mono H s
theorem At.ne(s:At p a n xs)(H:0<n):a=some (adr a):=Sl.ne s H
theorem At.get(s:At p a n xs)(M:i<n):Aw p ((adr a).add (i*1))=some (sv (xs.getD i [])):=by
 have H:=s.len;have:=Sl.get s i [sv (xs.getD i [])] (by rw[scs,List.getElem?_map,List.getD_eq_getElem?_getD,List.getElem?_eq_getElem om];rfl) 0 _ rfl;rwa[show ∀a:Addr,(a.add (i*1)).add 0=a.add (i*1) from fun a=>xnx]at this
end
namespace Ms
open Lib (indexByte)
theorem xgt{b c:UInt8}:indexByte (b::l) c=if b=c then 0 else if indexByte l c= -1 then -1 else indexByte l c+1:=by
 rw[indexByte];simp only[beq_iff_eq]
theorem xrm:∀{l:Str},indexByte l 32<0->Ad l=[l]
 |[],_=>rfl
 |b::l,h=>by
   rw[xgt]at h;have H:=Lib.indexByte_ge l 32;by_cases e:b=32
   ·rw[if_pos e]at h;omega
   ·rw[if_neg e]at h;rw[Ad,if_neg e,xrm (l:=l) (by split at h<;>omega)];rfl
theorem xtm:∀{l:Str}{m:Nat},indexByte l 32=m->m<l.length/\Ad l=l.take m::Ad (l.drop (m+1))
 |[],m,h=>by rw[indexByte]at h;omega
 |b::l,m,h=>by
   rw[xgt]at h;by_cases e:b=32
   ·rw[if_pos e]at h;obtain rfl:m=0:=om;rw[Ad,if_pos e];exact⟨s_,s_⟩
   ·rw[if_neg e]at h;have M:=Lib.indexByte_ge l 32;split at h
    ·omega
    ·obtain⟨k,rfl⟩:∃k,m=k+1:=⟨m-1,om⟩
     have H:=xtm (l:=l) (m:=k) om;rw[Ad,if_neg e,H.2];exact⟨by simp;omega,s_⟩
theorem xxk:∀l:Str,(Ad l).length=l.count 32+1
 |[]=>rfl
 |b::l=>by
   have H:=xxk l;rw[Ad,List.count_cons];by_cases e:b=32
   ·rw[if_pos e,List.length_cons,H,e];rfl
   ·rw[if_neg e,List.length_cons,List.length_tail,H];simp[e]
end Ms
end Go.X
namespace Go.X.Ms
def Gu(s:Str):Str:=if s.headD 0=45 then s.tail else s
theorem yo3{s:Str}{c:UInt8}(h:c≠0):(0<s.length/\s.take 1=[c])<->s.headD 0=c:=by
 cases s with
 |nil=>simp;exact fun e=>h e.symm
 |cons a t=>simp
theorem xbg{s:Str}:isLet s=true<->s.length=1/\97<=(s.getD 0 0).toNat/\(s.getD 0 0).toNat<=122:=by
 match s with
 |[]=>simp[isLet]
 |[c]=>simp[isLet]
 |_::_::_=>simp[isLet]
end Go.X.Ms
namespace Go.X
variable{d:Array UInt8}{A Z:List Value}{i j n:Nat}{z:Nat×Nat}{p:Ab}{t:TypeId}{b:UInt8}
theorem wrap64(z:Int): -9223372036854775808<=IntKind.i64.wrap z/\IntKind.i64.wrap z<=9223372036854775807:=by
 simp only[IntKind.wrap,IntKind.bits,IntKind.signed];simp;omega
def Mn:List UInt8:=(List.range 256).map fun n=>UInt8.ofNat (Lib.bitLen n)
theorem yjk:Mn.length=256:=by simp[Mn]
theorem xq1:∀n:Fin 256,(Mn.getD n.val 0).toNat=Lib.bitLen n.val/\Lib.bitLen n.val<=8:=by decide +kernel
theorem ytd(h:n<256):(Mn.getD n 0).toNat=Lib.bitLen n:=(xq1 ⟨n,h⟩).1
theorem ysd(h:n<256):Lib.bitLen n<=8:=(xq1 ⟨n,h⟩).2
theorem yhn{g:Nat}(Z:p g=some (.cells (Lib.pow10Tab.map (Value.int .u64)).toArray t z))(h:i<20):Aw p ((⟨g,0,none⟩:Addr).add (i*1))=some (.int .u64 ((10^i:Nat):Int)):=by
 rw[xox];unfold Aw;rw[Z];simp[Lib.pow10Tab,h]
abbrev SM:List UInt8:=Lib.smalls.data.toList
theorem xgw:SM.length=200:=by decide +kernel
theorem xfw{j:Int}(h:j=((i:Nat):Int)):Value.int .u8 ((((SM.getD j.toNat 0).toNat:Nat):Int))=.int .u8 (((Lib.sm i).toNat:Nat):Int):=by subst h;rfl
theorem xak:(A++(F6 d++Z)).length=A.length+(d.size+Z.length):=by rw[List.length_append,List.length_append,xv5]
theorem xms{o:Nat}{z:Int}(H:o=A.length+j)(M:j<d.size)(hv:Value.int .u8 z=.int .u8 ((b.toNat:Nat):Int)):Ce (A++(F6 d++Z)) o (Value.int .u8 z).cells.toList=A++(F6 (d.setIfInBounds j b)++Z):=ymm H M hv
theorem xyw{j1 j2 O M:Nat}{V H:Int}{b1 b2:UInt8}(h1:O=A.length+j1)(h2:j1<d.size)(h3:Value.int .u8 V=.int .u8 ((b1.toNat:Nat):Int))(h4:M=A.length+j2)(h5:j2<d.size)(h6:Value.int .u8 H=.int .u8 ((b2.toNat:Nat):Int)):
 Ce (Ce (A++(F6 d++Z)) O (Value.int .u8 V).cells.toList) M (Value.int .u8 H).cells.toList=A++(F6 ((d.setIfInBounds j1 b1).setIfInBounds j2 b2)++Z):=by
 rw[xms h1 h2 h3,xms h4 (by simpa using h5) h6]
theorem ym3(z:Int):IntKind.u8.wrap z=z%256:=by simp[IntKind.wrap,IntKind.bits,IntKind.signed]
namespace Ms
theorem xxb{b:Bool}{t:Str}{m:Nat}(h:Hv b t=some m):E6 0 t=some m/\0<t.length/\t.length<=6:=by
 unfold Hv at h;split at h
 ·cases h
 ·rename_i hc;exact⟨h,om,om⟩
theorem yid{s:Str}{k:Int}(h:Cu s=some k):0<s.length/\s.length<=7:=by
 unfold Cu at h;split at h
 ·obtain⟨m,H,_⟩:=Option.map_eq_some_iff.1 h;have:=xxb H;rw[List.length_tail]at this;omega
 ·obtain⟨m,H,_⟩:=Option.map_eq_some_iff.1 h;have:=xxb H;omega
def Sp(s H:Str):Prop:=∀k,Cu s=some k-> ∃m:Nat,E6 0 H=some m/\k=if s.headD 0=45 then -(m:Int)else(m:Int)
theorem yyb{s:Str}(h:s.headD 0=45):Sp s (s.drop 1):=fun k H=>by
 unfold Cu at H;rw[if_pos h]at H;obtain⟨m,M,O⟩:=Option.map_eq_some_iff.1 H;exact⟨m,by rw[List.drop_one];exact(xxb M).1,by rw[if_pos h];exact O.symm⟩
theorem yxb{s:Str}(h:¬ s.headD 0=45):Sp s s:=fun k H=>by
 unfold Cu at H;rw[if_neg h]at H;obtain⟨m,M,O⟩:=Option.map_eq_some_iff.1 H;exact⟨m,(xxb M).1,by rw[if_neg h];exact O.symm⟩
theorem xs6{s:Str}(h:s.headD 0=43):Cu s=none:=by
 cases s with
 |nil=>simp at h
 |cons c t=>
   simp at h;subst h;unfold Cu;rw[if_neg s_];have:Hv false (43::t)=none:=by
    unfold Hv;split
    ·rfl
    ·unfold E6;rfl
   rw[this];rfl
theorem yyj{acc:Nat}{s:Str}(h:j<s.length):E6 acc (s.drop j)=if C7 (s.getD j 0)then E6 (10*acc+((s.getD j 0).toNat-48)) (s.drop (j+1))else none:=by
 rw[List.drop_eq_getElem_cons h,E6,List.getD_eq_getElem?_getD,List.getElem?_eq_getElem h];rfl
theorem xcg{c:UInt8}:C7 c=true<->48<=c.toNat/\c.toNat<=57:=by unfold C7;simp
end Ms
end Go.X
namespace Go.X.Ms
theorem xc5{n:Int}:(Gu (txt n)).length<=6<-> -999999<=n/\n<=999999:=by
 have e:Gu (txt n)=C9 n.natAbs:=by
  unfold Gu txt;by_cases c:n<0
  ·rw[if_pos c];simp
  ·rw[if_neg c,if_neg];intro z;cases e:C9 n.natAbs with
   |nil=>rw[e]at z;simp at z
   |cons d t=>
     have:=xlc d (by rw[e];simp);rw[e]at z;simp at z;subst z;exact absurd this d_
 rw[e];constructor
 ·intro z;rcases Nat.lt_or_ge n.natAbs 1000000 with y|y
  ·omega
  ·have:=xww (k:=6) (n:=n.natAbs) y;omega
 ·intro z;exact xhj (k:=5) om
theorem yaj{s:Str}{n:Int}(h:∀k,Cu s=some k->n=k):(txt n=s/\(Gu s).length<=6)<->(Cu s).isSome=true:=by
 constructor
 ·rintro⟨e,hl⟩;subst e;rw[xwl (xc5.1 hl)];rfl
 ·intro z;obtain⟨k,H⟩:=Option.isSome_iff_exists.1 z;obtain rfl:=h k H;have y:=yjd H;refine⟨y.1.symm,?_⟩;rw[y.1];exact xc5.2 ⟨om,om⟩
def Ba(s:Str):Bool:=(Cu s).isSome||isLet s
end Go.X.Ms
namespace Go.Proofs.YtofhlcococeifaaGreatDoor
open Go.Proofs.Tryz
open Go.X Go.X.Ms Go.Conc
variable{d₀:Array UInt8}{zz:List Nat}{Z:List Value}{md:Md}{zE zR:Nat×Nat}{p:Ab}{T tE tR tT te tr:TypeId}{ue ur:Value}
theorem yq5(l:List UInt8)(c:UInt8):Dc prog md p 275 #[sv l,.int .u8 ((c.toNat:Nat):Int)] (.J (Lib.indexByte l c)):=by
 intro h H;refine xaz H func275 fun K=>?_;refine ro_y rfl (yrl func319 k_ rfl rfl (fun h=>xwr) (e:=Extern.BytealgIndexByte.indexByte)) ?_;exact K.q rfl
theorem yl6(l:List UInt8)(c:UInt8):Dc prog md p 246 #[sv l,sv [c]] (.J (Lib.indexByte l c)):=by
 refine xlq func246 fun K=>?_;refine cq (fun H=>?_) (fun H=>?_)
 ·have e:l=[c]:=by
   rcases H with H|H
   ·simp at H
   ·exact H.symm
  subst e;refine K.q ?_;rw[xgt,if_pos rfl];rfl
 refine ax ?_;refine xcx rfl (fun _=>?_) (fun H=>absurd rfl H);refine ax ?_;refine ro_y rfl (xej rfl rfl trivial trivial ⟨d_,s_⟩) ?_;refine cdq (yq5 l c) ?_;exact K.q rfl
theorem yh7(l:List UInt8)(c:UInt8):Dc prog md p 197 #[sv l,sv [c]] (.J (Lib.indexByte l c)):=by
 refine xlq func197 fun K=>?_;refine cdq (yl6 l c) ?_;exact K.q rfl
theorem yi7(l:List UInt8)(c:UInt8):Dc prog md p 196 #[sv l,sv [c]] (.J ((l.count c:Nat):Int)):=by
 intro h M;refine xaz M func196 fun K=>?_;refine xcx rfl (fun H=>absurd H s_) (fun _=>?_);refine ax ?_;refine xcx rfl (fun _=>?_) (fun H=>absurd rfl H);refine ax ?_;refine ro_y rfl (xej rfl rfl trivial trivial ⟨d_,s_⟩) ?_;refine ax ?_;refine ro_y rfl (yrl func245 k_ rfl rfl (fun h=>yfx) (e:=Extern.BytealgCount.count)) ?_;exact K.q rfl
theorem yq9(s:Str)(hs:s.length<=900):Lc prog md p 112 #[sv s,sv [32],.J 0,.J (-1)] (fun v p'=>∃a cap,v=.slice a (Ad s).length cap/\(Ad s).length<=cap/\At p' a (Ad s).length (Ad s)):=by
 have hc:=xxk s;have a8:s.count 32<=s.length:=List.count_le_length;refine xlq func112 fun K=>?_;refine xcx rfl (fun cc=>absurd cc d_) (fun _=>?_);refine ax ?_;refine xcx rfl (fun cc=>absurd cc s_) (fun _=>?_);refine ax ?_;refine xcx rfl (fun _=>?_) (fun cc=>absurd d_ cc);refine cdq (yi7 s 32) ?_;refine ax ?_;have em:min (((s.count 32:Nat):Int)+1) (((s.length:Nat):Int)+1)=(((Ad s).length:Nat):Int):=by rw[hc];omega
 rw[em];obtain⟨N,hN⟩:∃N,N=(Ad s).length:=⟨_,rfl⟩
 rw[<- hN]at hc⊢;refine yqm (n:=N) rfl rfl om fun v1 Y1 V=>?_;have V:Aa 9 1 v1 (scs (List.replicate N [])) Y1:=V.as (by simp[scs];exact .inr rfl);refine ax ?_;refine xhq (fun m_ l p_ L_=>∃(i:Nat)(H:Str)(O:List Str)(Y:Pcs),m_=N-i/\l=[(0,none,sv H),(1,none,sv [32]),(2,none,.J 0),(3,none,.J ((N:Nat)-1)),(9,none,v1),(10,none,.J ((i:Nat):Int))]/\p_=p/\L_=[Y]/\O.length=i/\O++Ad H=Ad s/\H.length<=900/\Aa 9 1 v1 (scs (O++List.replicate (N-i) [])) Y) ⟨0,s,[],Y1,rfl,rfl,rfl,rfl,rfl,rfl,hs,V⟩ sb ?_;clear V;rintro _ _ p _ IH ⟨i,H,O,Y,rfl,rfl,rfl,rfl,M,a2,a7,V⟩;have hlen:i+(Ad H).length=N:=by rw[hN,<- a2,List.length_append,M]
 have h1:=xxk H;refine cq (fun cc=>?_) (fun cc=>?_)
 ·refine cdq (yh7 H 32) ?_;refine cq (fun cd=>?_) (fun cd=>?_)
  ·have z:=xrm cd;rw[z,List.length_singleton]at hlen;omega
  obtain⟨m,hm⟩:∃m:Nat,Lib.indexByte H 32=((m:Nat):Int):=⟨(Lib.indexByte H 32).toNat,om⟩
  obtain⟨a3,a6⟩:=xtm hm;rw[hm];refine ax ?_;refine ro_y rfl (yyq rfl rfl trivial trivial (Nat.le_of_lt a3) (j:=m)) ?_;refine ro_y rfl (xkb rfl rfl V (by rw[xmx,List.length_append,List.length_replicate];omega)) ?_;refine xkk (e:=[sv []]) rfl rfl V xnx rfl rfl rfl (by rw[scs,List.getElem?_map,List.getElem?_append_right om,List.getElem?_replicate,if_pos om];rfl) (Nat.le_refl _) fun Y' o'=>?_;have o':Aa 9 1 v1 (scs ((O++[H.take m])++List.replicate (N-(i+1)) [])) Y':=o'.as (by
   rw[show N-i=(N-(i+1))+1 by omega,List.replicate_succ,<- M];simp[scs,Ce])
  refine ax ?_;refine ro_y rfl (y_pv rfl ⟨wrZ (by rw[List.length_singleton];omega),trivial⟩) ?_;refine ro_y rfl (xsg rfl rfl trivial trivial a3 (j:=m+1)) ?_;exact bkq (IH _ _ _ om ⟨i+1,H.drop (m+1),O++[H.take m],Y',rfl,rfl,rfl,rfl,by rw[List.length_append,M];rfl,by rw[List.append_assoc,List.singleton_append,<- a6,a2],by rw[List.length_drop];omega,o'⟩)
 have hi:i+1=N:=om;have a5:Ad H=[H]:=by
  have ge:=Lib.indexByte_ge H 32;by_cases z:Lib.indexByte H 32<0
  ·exact xrm z
  ·obtain⟨m,hm⟩:∃m:Nat,Lib.indexByte H 32=((m:Nat):Int):=⟨(Lib.indexByte H 32).toNat,om⟩
   have z2:=(xtm hm).2;have z3:=xxk (H.drop (m+1));rw[z2,List.length_cons]at hlen;omega
 refine ax ?_;refine ro_y rfl (xkb rfl rfl V (by rw[xmx,List.length_append,List.length_replicate];omega)) ?_;refine xkk (e:=[sv []]) rfl rfl V xnx rfl rfl rfl (by rw[scs,List.getElem?_map,List.getElem?_append_right om,List.getElem?_replicate,if_pos om];rfl) (Nat.le_refl _) fun Y' o'=>?_;have o':Aa 9 1 v1 (scs (Ad s)) Y':=o'.as (by
  rw[show N-i=0+1 by omega,List.replicate_succ,<- a2,a5,<- M];simp[scs,Ce])
 refine xzq o' (m:=N) (by rw[xmx,hN]) d_ fun p' a cap g ev a4 S=>?_;subst ev;refine ax ?_;refine xef (j:=i+1) rfl rfl om ?_;refine ax ?_;rw[hi];subst hN;exact K.r rfl rfl fun _ H_=>(xqq (p:=p) (p':=p') (Q:=fun v p'=>∃a cap,v=.slice a (Ad s).length cap/\(Ad s).length<=cap/\At p' a (Ad s).length (Ad s)) H_ g ⟨a,cap,rfl,a4,S⟩)
theorem cf58(s:Str)(hs:s.length<=900):Lc prog md p 58 #[sv s,sv [32]] (fun v p'=>∃a cap,v=.slice a (Ad s).length cap/\(Ad s).length<=cap/\At p' a (Ad s).length (Ad s)):=by
 refine xlq func58 fun K=>?_;refine cpq (yq9 s hs) ?_;rintro _ p' g ⟨a,cap,rfl,H,S⟩;refine ax ?_;exact K.r rfl rfl fun _ M=>(xqq (p:=p) (p':=p') (Q:=fun v p'=>∃a cap,v=.slice a (Ad s).length cap/\(Ad s).length<=cap/\At p' a (Ad s).length (Ad s)) M g ⟨a,cap,rfl,H,S⟩)
theorem yd5(s:Str):Dc prog md p 317 #[sv s,sv [45]] (.bool (decide (s.headD 0=45))):=by
 refine xlq func317 fun K=>?_;refine ro_y rfl (yyq rfl rfl sdu sdu (fun e=>by have e:(1:Int)<=s.length:=(by simpa using e);omega) (j:=1)) ?_;refine K.q ?_;exact congrArg _ (bpe (by rw[<- yo3 d_];simp;exact fun _=>om))
theorem yv5(s:Str):Dc prog md p 268 #[sv s,sv [45]] (sv (Gu s)):=by
 refine xlq func268 fun K=>?_;refine cdq (yd5 s) ?_;refine cq (fun H=>?_) (fun H=>?_)
 ·have M:1<=s.length:=by cases s with|nil=>simp at H|cons a t=>simp
  refine ax ?_;refine ro_y rfl (xsg rfl rfl trivial trivial M (j:=1)) ?_;refine K.q ?_;rw[Gu,if_pos H,<- List.drop_one];rfl
 ·refine K.q ?_;rw[Gu,if_neg H];rfl
theorem yv6(s:Str):Dc prog md p 230 #[sv s,sv [45]] (sv (Gu s)):=by
 refine xlq func230 fun K=>?_;refine cdq (yv5 s) ?_;exact K.q rfl
theorem cf59(s:Str):Dc prog md p 59 #[sv s] (.bool (isLet s)):=by
 refine xlq func59 fun K=>?_;refine ro_y rfl (xej rfl rfl sdu sdu (fun e=>by have e:=of_decide_eq_true e;omega)) ?_;refine ax ?_;refine ro_y rfl (xej rfl rfl sdu sdu (fun e=>by simp at e;omega)) ?_;refine K.q ?_;exact congrArg Value.bool (by rw[Bool.eq_iff_iff,xbg];simp;omega)
theorem ym1(s:Str)(hs:s.length<=900):Dc prog md p 340 #[sv s] (sv s):=by
 refine xlq func340 fun K=>?_;refine cq (fun O=>?_) (fun O=>?_)
 ·have e:s=[]:=List.eq_nil_of_length_eq_zero om;subst e;exact K.q rfl
 refine ax ?_;refine yqm (n:=s.length) rfl rfl om fun M Y1 V=>?_;refine ax ?_;refine ymc rfl rfl V s_ om fun Y2 H=>?_;refine ax ?_;refine ro_y rfl (xkb rfl rfl H (by rw[xfk];omega) (i:=0)) ?_;refine ax ?_;refine ro_y rfl (xzt rfl trivial H (xfk s)) ?_;refine yrs H om om (by show _=some ([],Value.pointer (some (E4 M)));rw[show E4 M=(E4 M).add (0*1) from O9.symm];rfl) rfl k_ k_ ?_;exact K.q rfl
theorem yf5(f s:Str)(hs:s.length<=900)(E:p 8=some (.cells #[.iface te ue] tE zE)):Kc prog md p 313 #[sv f,sv s] (fun v=>(∃x,v=.pointer x)):=by
 refine xlq func313 fun K=>?_;refine xrs [] R4 ?_;refine ex ?_;refine xhv rfl rfl rfl rfl trivial (ym1 s hs) ?_;refine ex ?_;refine bq fun b1=>?_;refine K.q ?_;exact⟨_,rfl⟩
theorem ye5(f s:Str)(hs:s.length<=900)(E:p 9=some (.cells #[.iface tr ur] tR zR)):Kc prog md p 314 #[sv f,sv s] (fun v=>(∃x,v=.pointer x)):=by
 refine xlq func314 fun K=>?_;refine xrs [] R4 ?_;refine ex ?_;refine xhv rfl rfl rfl rfl trivial (ym1 s hs) ?_;refine ex ?_;refine bq fun b1=>?_;refine K.q ?_;exact⟨_,rfl⟩
abbrev eV(n:Int):Value:=.iface 330 (.J n)
theorem yp1{f:Str}(s:Str)(hs:s.length<=900)(n:Int)(hn:n=1\/n=2)(E:p 8=some (.cells #[.iface te ue] tE zE))(R:p 9=some (.cells #[.iface tr ur] tR zR)):Lc prog md p 267 #[sv f,sv s,.J 0,.J 0,eV n] (fun v _=>∃t u,v=.iface t u):=by
 refine xlq func267 fun K=>?_;refine ro_y rfl (y_mi rfl trivial underlying330) ?_;refine ax ?_;refine ro_y rfl (yeh rfl rfl trivial trivial underlying251 k_ underlying330) ?_;refine cq (fun H=>?_) (fun H=>?_)
 ·refine ax ?_;refine xjb (Q:=fun v Y=>(∃x,v=.pointer x)/\Y=[]) rfl rfl (fun _ V=>(yf5 f s hs E _ V).mono fun _ _⟨q,kk⟩=>⟨[],⟨q,rfl⟩,⟨kk,fun x M=>(by cases M),List.nodup_nil⟩⟩) ?_;rintro _ _ ⟨⟨x,rfl⟩,rfl⟩;refine ro_y rfl (y_mi rfl trivial underlying333) ?_;refine ax ?_;exact K.r rfl rfl fun _ O=>(xqq (p:=p) (p':=p) (Q:=fun v _=>∃t u,v=.iface t u) O (.refl _ _ _) ⟨_,_,rfl⟩)
 have h2:n=1:=om;subst h2;refine ax ?_;refine ro_y rfl (y_mi rfl trivial underlying330) ?_;refine ax ?_;refine ro_y rfl (yeh rfl rfl trivial trivial underlying251 k_ underlying330) ?_;refine ax ?_;refine xcx rfl (fun H=>?_) (fun H=>absurd rfl H);refine ax ?_;refine xjb (Q:=fun v Y=>(∃x,v=.pointer x)/\Y=[]) rfl rfl (fun _ V=>(ye5 f s hs R _ V).mono fun _ _⟨q,kk⟩=>⟨[],⟨q,rfl⟩,⟨kk,fun x M=>(by cases M),List.nodup_nil⟩⟩) ?_;rintro _ _ ⟨⟨x,rfl⟩,rfl⟩;refine ro_y rfl (y_mi rfl trivial underlying333) ?_;refine ax ?_;exact K.r rfl rfl fun _ O=>(xqq (p:=p) (p':=p) (Q:=fun v _=>∃t u,v=.iface t u) O (.refl _ _ _) ⟨_,_,rfl⟩)
theorem yfr(c:Nat)(hc:c<256):Dc prog md p 352 #[.int .u8 ((c:Nat):Int)] (.int .u8 ((c ||| 32:Nat):Int)):=by
 refine xlq func352 fun K=>?_;refine ro_y rfl (ye3 rfl rfl hc d_ (b:=32)) ?_;exact K.q rfl
def isE(e:Value):Prop:=e=.nilIface\/e=eV 1\/e=eV 2
theorem yr4(s:Str)(hs:s.length<=900):Lc prog md p 339 #[sv s,.J 10,.J 0] (fun v _=>∃(n:Nat)(e:Value),v=.tuple #[.int .u64 ((n:Nat):Int),e]/\n<18446744073709551616/\isE e):=by
 intro h hp;have M:∀{h_:Heap}{p':Ab}{L:Pcs}(n:Nat)(e:Value),St h [] p' h_ L->PG h.size [] p p'->n<18446744073709551616->isE e->Cn p h (fun v _=>∃(n:Nat)(e:Value),v=.tuple #[.int .u64 ((n:Nat):Int),e]/\n<18446744073709551616/\isE e) (.tuple #[.int .u64 ((n:Nat):Int),e]) h_:=fun n e H g hn he=>xqq H g ⟨n,e,rfl,hn,he⟩;refine xaz hp func339 fun K=>?_;refine cq (fun cc=>?_) (fun cc=>?_)
 ·refine ax ?_;refine ro_y rfl (y_mi rfl trivial underlying330) ?_;refine ax ?_;exact K.r rfl rfl fun h_ O=>(M 0 (eV 2) O (.refl _ _ _) d_ (.inr (.inr rfl)))
 have a2:0<s.length:=by cases s with|nil=>exact absurd rfl cc|cons a t=>simp
 refine ax ?_;refine xcx rfl (fun _=>?_) (fun cc=>absurd d_ cc);refine ax ?_;refine xcx rfl (fun _=>?_) (fun cc=>absurd d_ cc);refine ax ?_;refine xcx rfl (fun _=>?_) (fun cc=>absurd d_ cc);refine ax ?_;refine ro_y rfl (xib ⟨_,underlying3⟩ underlying235 rfl d_ (k':=.u64)) ?_;refine ro_y rfl (yas rfl rfl d_ (s:=64) (w:=0)) ?_;refine ro_y rfl (yzr 18446744073709551615 rfl rfl d_) ?_;refine ax ?_;refine yft rfl a2 underlying9 underlying5 fun p' c cap g S a4=>?_;have S1:Sl p' c s.length 1 (bcs s):=S;refine ax ?_;refine xnq (fun m_ l=>∃j n:Nat,m_=s.length-j/\l=[(1,none,.J 10),(8,none,.bool (decide ((10:Int)=0))),(9,none,sv s),(10,none,.int .u64 1844674407370955162),(11,none,.int .u64 18446744073709551615),(12,none,.bool false),(13,none,.int .u64 ((n:Nat):Int)),(99,none,.slice c s.length cap),(100,none,.J ((s.length:Nat):Int)),(101,none,.J ((j:Nat):Int))]/\j<=s.length/\n<18446744073709551616) ⟨0,0,rfl,rfl,Nat.zero_le _,d_⟩ sb ?_;rintro _ _ IH ⟨j,n,rfl,rfl,hj,hn⟩;refine cq (fun cd=>?_) (fun cd=>?_)
 ·have a3:j<s.length:=om;refine ax ?_;refine ro_y rfl (y_lp rfl (Lu.get S a3)) ?_;obtain⟨b,hb⟩:∃b,b=(s.getD j 0).toNat:=⟨_,rfl⟩
  have V:b<256:=by rw[hb];exact(s.getD j 0).toNat_lt
  rw[<- hb];refine ax ?_;refine xfz (fun l' p_ L_=>∃x:Nat,l'=[(1,none,.J 10),(8,none,.bool (decide ((10:Int)=0))),(9,none,sv s),(10,none,.int .u64 1844674407370955162),(11,none,.int .u64 18446744073709551615),(12,none,.bool false),(13,none,.int .u64 ((n:Nat):Int)),(16,none,.int .u8 ((x:Nat):Int)),(99,none,.slice c s.length cap),(100,none,.J ((s.length:Nat):Int)),(101,none,.J ((j:Nat):Int))]/\p_=p'/\L_=[]/\x<256) ?_ fun k' H=>?_
  ·rintro _ p' _ ⟨x,rfl,rfl,rfl,hx⟩;refine ax ?_;refine ro_y rfl (xib ⟨_,underlying3⟩ underlying5 rfl d_ (k':=.u8)) ?_;refine cq (fun ce=>?_) (fun ce=>?_)
   ·refine ax ?_;refine ro_y rfl (y_mi rfl trivial underlying330) ?_;refine ax ?_;exact K.r rfl rfl fun h_ O=>(M 0 (eV 2) O g d_ (.inr (.inr rfl)))
   refine cq (fun cf=>?_) (fun cf=>?_)
   ·refine ax ?_;refine ro_y rfl (y_mi rfl trivial underlying330) ?_;refine ax ?_;exact K.r rfl rfl fun h_ O=>(M 18446744073709551615 (eV 1) O g d_ (.inr (.inl rfl)))
   refine ax ?_;refine ro_y rfl (xib ⟨_,underlying3⟩ underlying286 rfl d_ (k':=.u64)) ?_;refine ax ?_;refine ro_y rfl (xib ⟨_,underlying5⟩ underlying286 rfl (Om om) (k':=.u64)) ?_;refine ro_y rfl (yl3 (((n*10+x)%18446744073709551616:Nat):Int) rfl rfl (by rw[yfb];omega)) ?_;refine cq (fun ch=>?_) (fun ch=>?_)
   ·refine ax ?_;refine ro_y rfl (y_mi rfl trivial underlying330) ?_;refine ax ?_;exact K.r rfl rfl fun h_ O=>(M 18446744073709551615 (eV 1) O g d_ (.inr (.inl rfl)))
   exact bkq (IH _ om ⟨j+1,(n*10+x)%18446744073709551616,rfl,rfl,om,om⟩)
  ·refine xcx rfl (fun ce=>absurd ce.2 d_) (fun _=>?_);refine cq (fun ce=>?_) (fun ce=>?_)
   ·refine ax ?_;refine ro_y rfl (y_pv rfl ⟨wr8 om,trivial⟩) ?_;exact bkq (H _ _ _ ⟨b-48,by rw[show(((b-48:Nat):Int))=((b:Nat):Int)-48 by omega],rfl,rfl,om⟩)
   have a5:b ||| 32<256:=Nat.or_lt_two_pow (n:=8) V d_;refine cdq (yfr b V) ?_;refine cgq (fun _=>yfr b V) ?_;refine cq (fun cf=>?_) (fun cf=>?_)
   ·refine cdq (yfr b V) ?_;refine ro_y rfl (y_pv rfl ⟨wr8 om,trivial⟩) ?_;refine ro_y rfl (y_pv rfl ⟨wr8 om,trivial⟩) ?_;exact bkq (H _ _ _ ⟨(b ||| 32)-97+10,by rw[show(((((b ||| 32)-97+10:Nat)):Int))=(((b ||| 32:Nat)):Int)-97+10 by omega],rfl,rfl,om⟩)
   ·refine ax ?_;refine ro_y rfl (y_mi rfl trivial underlying330) ?_;refine ax ?_;exact K.r rfl rfl fun h_ O=>(M 0 (eV 2) O g d_ (.inr (.inr rfl)))
 refine ax ?_;refine xff (.bool false) rfl ?_;refine ax ?_;refine xcx rfl (fun ce=>absurd ce s_) (fun _=>?_);refine ax ?_;exact K.r rfl rfl fun h_ O=>(M n .nilIface O g hn (.inl rfl))
theorem yz4{q:Prop}[Decidable q]:Dc prog md p 323 #[.bool (decide q)] (.J (if q then 1 else 0)):=by
 refine xlq func323 fun K=>?_;refine cq (fun H=>?_) (fun H=>?_)
 ·refine K.q ?_;rw[if_pos H];rfl
 ·refine K.q ?_;rw[if_neg H];rfl
theorem yb5{x:Nat}(H:x<=64):Dc prog md p 321 #[.J ((x:Nat):Int)] (.J ((Lib.l10 x:Nat):Int)):=by
 refine xlq func321 fun K=>?_;refine ro_y rfl (xr8 rfl rfl trivial trivial (show _<=64 from by omega) (a:=x*78913) (s:=18)) ?_;exact K.q rfl
theorem d322(x:Nat)(hx:x<18446744073709551616):Dc prog md p 322 #[.int .u64 ((x:Nat):Int)] (.J ((Lib.bitLen x:Nat):Int)):=by
 refine xlq func322 fun K=>?_;refine xfz (fun l' p' LL'=>∃y n:Nat,l'=[(0,none,.int .u64 ((y:Nat):Int)),(2,none,.J ((n:Nat):Int))]/\p'=p/\LL'=[]/\y<4294967296/\n<=32/\n+Lib.bitLen y=Lib.bitLen x) ?_ fun k' H=>?_
 ·rintro _ p _ ⟨y,n,rfl,rfl,rfl,V,hn,M⟩;refine ax ?_;refine xfz (fun l' p' LL'=>∃y n:Nat,l'=[(0,none,.int .u64 ((y:Nat):Int)),(2,none,.J ((n:Nat):Int))]/\p'=p/\LL'=[]/\y<65536/\n<=48/\n+Lib.bitLen y=Lib.bitLen x) ?_ fun k' H=>?_
  ·rintro _ p _ ⟨y,n,rfl,rfl,rfl,V,hn,M⟩;refine ax ?_;refine xfz (fun l' p' LL'=>∃y n:Nat,l'=[(0,none,.int .u64 ((y:Nat):Int)),(2,none,.J ((n:Nat):Int))]/\p'=p/\LL'=[]/\y<256/\n<=56/\n+Lib.bitLen y=Lib.bitLen x) ?_ fun k' H=>?_
   ·rintro _ p _ ⟨y,n,rfl,rfl,rfl,V,hn,M⟩;refine ax ?_;refine ro_y rfl (xib ⟨_,underlying286⟩ underlying5 rfl (wr8 om) (k':=.u8)) ?_;refine ro_y rfl (xej k_ rfl trivial trivial ⟨om,by rw[yjk];omega⟩ (ss:=[]) (a:=Mn)) ?_;rw[Int.toNat_natCast,ytd V];have b8:=ysd V;refine ro_y rfl (xib ⟨_,underlying5⟩ underlying3 rfl (wrZ om) (k':=.i64)) ?_;refine K.q ?_;rw[<- M];rfl
   ·refine cq (fun O=>?_) (fun O=>?_)
    ·refine ax ?_;refine ro_y rfl (xr8 rfl rfl trivial trivial (show _<=64 from by omega) (a:=y) (s:=8)) ?_;refine ax ?_;have z:=Lib.bitLen_shift 8 y om om;exact bkq (H _ _ _ ⟨y / 2^8,n+8,rfl,rfl,rfl,om,om,by rw[<- M,z];omega⟩)
    ·exact bkq (H _ _ _ ⟨y,n,rfl,rfl,rfl,om,om,M⟩)
  ·refine cq (fun O=>?_) (fun O=>?_)
   ·refine ax ?_;refine ro_y rfl (xr8 rfl rfl trivial trivial (show _<=64 from by omega) (a:=y) (s:=16)) ?_;refine ax ?_;have z:=Lib.bitLen_shift 16 y om om;exact bkq (H _ _ _ ⟨y / 2^16,n+16,rfl,rfl,rfl,om,om,by rw[<- M,z];omega⟩)
   ·exact bkq (H _ _ _ ⟨y,n,rfl,rfl,rfl,om,om,M⟩)
 ·refine cq (fun O=>?_) (fun O=>?_)
  ·refine ax ?_;refine ro_y rfl (xr8 rfl rfl trivial trivial (show _<=64 from by omega) (a:=x) (s:=32)) ?_;refine ax ?_;have z:=Lib.bitLen_shift 32 x om om;exact bkq (H _ _ _ ⟨x / 2^32,32,rfl,rfl,rfl,om,om,by rw[z]⟩)
  ·exact bkq (H _ _ _ ⟨x,0,rfl,rfl,rfl,om,om,om⟩)
theorem yo1(x:Nat)(H:0<x/\x<18446744073709551616){zT:Nat×Nat}(Z:p 5=some (.cells (Lib.pow10Tab.map (Value.int .u64)).toArray tT zT)):Dc prog md p 280 #[.int .u64 ((x:Nat):Int)] (.J ((Lib.nDigits x:Nat):Int)):=by
 have M:=Lib.numDigits_eq x H.1 H.2;have O:Lib.bitLen x<=64:=Lib.bitLen_le x 64 (Nat.le_refl _) H.2;refine xlq func280 fun K=>?_;refine cdq (d322 x H.2) ?_;refine cdq (yb5 O) ?_;refine ax ?_;refine ro_y rfl (yql k_ rfl rfl om (len:=20) (e:=286) (i:=Lib.l10 (Lib.bitLen x)) (c:=⟨5,0,none⟩)) ?_;refine ro_y rfl (y_lp rfl (yhn Z om)) ?_;refine cdq yz4 ?_;have e:(if((10^Lib.l10 (Lib.bitLen x):Nat):Int)<=((x:Nat):Int)then(1:Int)else 0)=((if 10^Lib.l10 (Lib.bitLen x)<=x then 1 else 0:Nat):Int):=by split<;>split<;>omega
 rw[e];have V:(if 10^Lib.l10 (Lib.bitLen x)<=x then 1 else 0)<=1:=by split<;>omega
 generalize (if 10^Lib.l10 (Lib.bitLen x)<=x then 1 else 0)=w at M V;refine K.q ?_;rw[<- M.1];rfl
theorem yp5(x:Nat)(M:x<100):Dc prog md p 279 #[.J ((x:Nat):Int)] (sv (C9 x)):=by
 refine xlq func279 fun K=>?_;refine cq (fun H=>?_) (fun H=>?_)
 ·refine ax ?_;refine ro_y rfl (yfh x (x+1) k_ rfl rfl trivial trivial trivial ⟨om,by show x+1<=Lib.digits36.size;rw[Lib.digits36_size];omega⟩ (ss:=[]) (a:=Lib.digits36.data.toList)) ?_;refine K.q ?_;rw[Lib.digits36_piece om,<- xbs];rfl
 ·refine ax ?_;refine ro_y rfl (yfh (x*2) (x*2+2) k_ rfl rfl trivial trivial trivial ⟨om,by show x*2+2<=Lib.smalls.size;rw[Lib.smalls_size];omega⟩ (ss:=[]) (a:=Lib.smalls.data.toList)) ?_;refine K.q ?_;rw[Lib.smalls_piece om om,<- xbs];rfl
theorem yn1{h z9:Heap}{zx:Pcs}(b:Nat)(A:List Value)(c M u:Nat)(hn:d₀.size=M/\M<=20/\u<10^M/\u<18446744073709551616)
 (a2:St z9 zz p h ([(b,.cells (A++(F6 d₀++Z)).toArray T (0,0))]++zx)):
 Ac prog md 281 #[.slice (some ⟨b,A.length,none⟩) M c,.int .u64 ((u:Nat):Int)] h fun _ h'=>∃X',(∃v d,X'=[(b,.cells (A++(F6 d++Z)).toArray T (0,0))]/\Lib.FmtInv M u 0 v d)/\St z9 zz p h' (X'++zx):=by
 obtain⟨a4,b0,hu,a5⟩:=hn;have F0:Lib.FmtInv M u M u d₀:=by have z:=Lib.FmtInv.start d₀ u (by rw[a4];exact hu);rwa[a4]at z
 refine xpj a2 func281 fun _ _ _ K=>?_;refine ax ?_;refine xhq (fun m_ l p_ L_=>∃(O v:Nat)(d:Array UInt8),m_=O/\l=[(0,none,.slice (some ⟨b,A.length,none⟩) M c),(1,none,.int .u64 ((v:Nat):Int)),(4,none,.J ((O:Nat):Int))]/\p_=p/\L_=[[(b,.cells (A++(F6 d++Z)).toArray T (0,0))],zx]/\v<18446744073709551616/\Lib.FmtInv M u O v d) ⟨M,u,d₀,rfl,rfl,rfl,rfl,a5,F0⟩ sb ?_;rintro O _ p _ IH ⟨_,v,d,rfl,rfl,rfl,rfl,a8,F⟩;have zd:=F.size;have le:=F.le;refine cq (fun cc=>?_) (fun cc=>?_)
 ·obtain⟨m,rfl⟩:∃m,O=m+8:=⟨O-8,om⟩
  refine ax ?_;refine xwh 100000000 rfl rfl rfl om ?_;refine ro_y rfl (xib ⟨_,underlying286⟩ underlying289 rfl (Gm om) (k':=.u32)) ?_;refine ax ?_;refine xxh 100000000 rfl rfl rfl om (Om om) ?_;refine ax ?_;refine xxh 10000 rfl rfl rfl om (Gm om) ?_;refine ax ?_;refine xwh 10000 rfl rfl rfl om ?_;refine ax ?_;refine xxh 100 rfl rfl rfl om (Gm om) ?_;refine ro_y rfl (y_pv rfl ⟨Gm om,trivial⟩) ?_;refine ax ?_;refine xwh 100 rfl rfl rfl om ?_;refine ro_y rfl (y_pv rfl ⟨Gm om,trivial⟩) ?_;refine ax ?_;refine xxh 100 rfl rfl rfl om (Gm om) ?_;refine ro_y rfl (y_pv rfl ⟨Gm om,trivial⟩) ?_;refine ax ?_;refine xwh 100 rfl rfl rfl om ?_;refine ro_y rfl (y_pv rfl ⟨Gm om,trivial⟩) ?_;refine ax ?_;refine xuv [12] R13 b ?_;refine ex ?_;refine de_y rfl rfl (y_pv rfl ⟨Gm om,trivial⟩) ?_;refine de_y rfl rfl (xej k_ rfl trivial trivial ⟨om,by rw[xgw];omega⟩ (ss:=[]) (a:=SM)) ?_;refine ex ?_;refine de_y rfl rfl (xej k_ rfl trivial trivial ⟨om,by rw[xgw];omega⟩ (ss:=[]) (a:=SM)) ?_;refine xj4 rfl rfl rfl om om ?_;refine xbd rfl rfl rfl ?_ (hlen:=?_);rotate_left
  ·rw[xak];show _+1<=_;omega
  refine ex ?_;refine xw0 rfl rfl om om ?_;refine xdf rfl rfl ?_ (hlen:=?_);rotate_left
  ·rw[xwx,xak];show _+1<=_;omega
  rw[xyw (d:=d) (j1:=m+6+1) (j2:=m+6) (b1:=Lib.sm (v%100*2+1)) (b2:=Lib.sm (v%100*2)) om om (xfw om) om om (xfw om)];have V:=F.step2' (k:=m+6);generalize (d.setIfInBounds (m+6+1) (Lib.sm (v%100*2+1))).setIfInBounds (m+6) (Lib.sm (v%100*2))=d1 at V⊢;have a3:=V.size;refine ax ?_;refine xuv [12] R13 b ?_;refine ex ?_;refine de_y rfl rfl (y_pv rfl ⟨Gm om,trivial⟩) ?_;refine de_y rfl rfl (xej k_ rfl trivial trivial ⟨om,by rw[xgw];omega⟩ (ss:=[]) (a:=SM)) ?_;refine ex ?_;refine de_y rfl rfl (xej k_ rfl trivial trivial ⟨om,by rw[xgw];omega⟩ (ss:=[]) (a:=SM)) ?_;refine xj4 rfl rfl rfl om om ?_;refine xbd rfl rfl rfl ?_ (hlen:=?_);rotate_left
  ·rw[xak];show _+1<=_;omega
  refine ex ?_;refine xw0 rfl rfl om om ?_;refine xdf rfl rfl ?_ (hlen:=?_);rotate_left
  ·rw[xwx,xak];show _+1<=_;omega
  rw[xyw (d:=d1) (j1:=m+4+1) (j2:=m+4) (b1:=Lib.sm (v / 100%100*2+1)) (b2:=Lib.sm (v / 100%100*2)) om om (xfw om) om om (xfw om)];have F2:=V.step2' (k:=m+4);generalize (d1.setIfInBounds (m+4+1) (Lib.sm (v / 100%100*2+1))).setIfInBounds (m+4) (Lib.sm (v / 100%100*2))=d2 at F2⊢;have a6:=F2.size;refine ax ?_;refine xuv [12] R13 b ?_;refine ex ?_;refine de_y rfl rfl (y_pv rfl ⟨Gm om,trivial⟩) ?_;refine de_y rfl rfl (xej k_ rfl trivial trivial ⟨om,by rw[xgw];omega⟩ (ss:=[]) (a:=SM)) ?_;refine ex ?_;refine de_y rfl rfl (xej k_ rfl trivial trivial ⟨om,by rw[xgw];omega⟩ (ss:=[]) (a:=SM)) ?_;refine xj4 rfl rfl rfl om om ?_;refine xbd rfl rfl rfl ?_ (hlen:=?_);rotate_left
  ·rw[xak];show _+1<=_;omega
  refine ex ?_;refine xw0 rfl rfl om om ?_;refine xdf rfl rfl ?_ (hlen:=?_);rotate_left
  ·rw[xwx,xak];show _+1<=_;omega
  rw[xyw (d:=d2) (j1:=m+2+1) (j2:=m+2) (b1:=Lib.sm (v / 100 / 100%100*2+1)) (b2:=Lib.sm (v / 100 / 100%100*2)) om om (xfw om) om om (xfw om)];have F3:=F2.step2' (k:=m+2);generalize (d2.setIfInBounds (m+2+1) (Lib.sm (v / 100 / 100%100*2+1))).setIfInBounds (m+2) (Lib.sm (v / 100 / 100%100*2))=d3 at F3⊢;have b3:=F3.size;refine ax ?_;refine xuv [12] R13 b ?_;refine ex ?_;refine de_y rfl rfl (y_pv rfl ⟨Gm om,trivial⟩) ?_;refine de_y rfl rfl (xej k_ rfl trivial trivial ⟨om,by rw[xgw];omega⟩ (ss:=[]) (a:=SM)) ?_;refine ex ?_;refine de_y rfl rfl (xej k_ rfl trivial trivial ⟨om,by rw[xgw];omega⟩ (ss:=[]) (a:=SM)) ?_;refine xj4 rfl rfl rfl om om ?_;refine xbd rfl rfl rfl ?_ (hlen:=?_);rotate_left
  ·rw[xak];show _+1<=_;omega
  refine ex ?_;refine xw0 rfl rfl om om ?_;refine xdf rfl rfl ?_ (hlen:=?_);rotate_left
  ·rw[xwx,xak];show _+1<=_;omega
  rw[xyw (d:=d3) (j1:=m+1) (j2:=m) (b1:=Lib.sm (v / 100 / 100 / 100%100*2+1)) (b2:=Lib.sm (v / 100 / 100 / 100%100*2)) om om (xfw om) om om (xfw om)];have F4:=F3.step2' (k:=m);generalize (d3.setIfInBounds (m+1) (Lib.sm (v / 100 / 100 / 100%100*2+1))).setIfInBounds m (Lib.sm (v / 100 / 100 / 100%100*2))=d4 at F4⊢;have a9:=F4.size;refine ax ?_;have e8:v / 100 / 100 / 100 / 100=v / 100000000:=om;rw[e8]at F4;exact bkq (IH _ _ _ (m':=m) om ⟨m,v / 100000000,d4,rfl,by rw[show((m:Nat):Int)=((m+8:Nat):Int)-8 by omega],rfl,rfl,om,F4⟩)
 have v7:=F.lt7 om;refine ax ?_;refine ro_y rfl (xib ⟨_,underlying286⟩ underlying289 rfl (Gm om) (k':=.u32)) ?_;refine ax ?_;refine xfz (fun l' p' LL'=>∃(O v:Nat)(d:Array UInt8),l'=[(0,none,.slice (some ⟨b,A.length,none⟩) M c),(4,none,.J ((O:Nat):Int)),(12,none,.int .u32 ((v:Nat):Int))]/\p'=p/\LL'=[[(b,.cells (A++(F6 d++Z)).toArray T (0,0))],zx]/\O<4/\Lib.FmtInv M u O v d) ?_ fun k' H=>?_
 ·rintro _ p _ ⟨O,v,d,rfl,rfl,rfl,a7,F⟩;have zd:=F.size;have le:=F.le;have v7:=F.lt7 om;refine ax ?_;refine xfz (fun l' p' LL'=>∃(O v:Nat)(d:Array UInt8),l'=[(0,none,.slice (some ⟨b,A.length,none⟩) M c),(4,none,.J ((O:Nat):Int)),(12,none,.int .u32 ((v:Nat):Int))]/\p'=p/\LL'=[[(b,.cells (A++(F6 d++Z)).toArray T (0,0))],zx]/\O<2/\Lib.FmtInv M u O v d) ?_ fun k' H=>?_
  ·rintro _ p _ ⟨O,v,d,rfl,rfl,rfl,a7,F⟩;have zd:=F.size;have le:=F.le;refine cq (fun cc=>?_) (fun cc=>?_)
   ·obtain rfl:O=1:=om;have v9:v<10:=by simpa using F.small
    refine ax ?_;refine ro_y rfl (y_pv rfl ⟨Gm om,trivial⟩) ?_;refine ro_y rfl (xib ⟨_,underlying289⟩ underlying5 rfl (wr8 om) (k':=.u8)) ?_;refine xw0 rfl rfl om om ?_;refine xdf rfl rfl ?_ (hlen:=?_);rotate_left
    ·rw[xak];show _+1<=_;omega
    rw[xms (d:=d) (j:=0) (b:=UInt8.ofNat (48+v)) om om (by rw[u8n om];congr 1)];refine ax ?_;exact xvb func281 rfl fun _ H_=>K _ _ ⟨_,⟨_,_,rfl,F.step1⟩,xoh H_⟩
   ·obtain rfl:O=0:=om;refine ax ?_;exact xvb func281 rfl fun _ H_=>K _ _ ⟨_,⟨_,_,rfl,F⟩,xoh H_⟩
  ·refine cq (fun cc=>?_) (fun cc=>?_)
   ·obtain⟨m,rfl⟩:∃m,O=m+2:=⟨O-2,om⟩
    refine ax ?_;refine xwh 100 rfl rfl rfl om ?_;refine ro_y rfl (y_pv rfl ⟨Gm om,trivial⟩) ?_;refine ax ?_;refine xxh 100 rfl rfl rfl om (Gm om) ?_;refine ax ?_;refine xuv [12] R13 b ?_;refine ex ?_;refine de_y rfl rfl (y_pv rfl ⟨Gm om,trivial⟩) ?_;refine de_y rfl rfl (xej k_ rfl trivial trivial ⟨om,by rw[xgw];omega⟩ (ss:=[]) (a:=SM)) ?_;refine ex ?_;refine de_y rfl rfl (xej k_ rfl trivial trivial ⟨om,by rw[xgw];omega⟩ (ss:=[]) (a:=SM)) ?_;refine xj4 rfl rfl rfl om om ?_;refine xbd rfl rfl rfl ?_ (hlen:=?_);rotate_left
    ·rw[xak];show _+1<=_;omega
    refine ex ?_;refine xw0 rfl rfl om om ?_;refine xdf rfl rfl ?_ (hlen:=?_);rotate_left
    ·rw[xwx,xak];show _+1<=_;omega
    rw[xyw (d:=d) (j1:=m+1) (j2:=m) (b1:=Lib.sm (v%100*2+1)) (b2:=Lib.sm (v%100*2)) om om (xfw om) om om (xfw om)];have V:=F.step2' (k:=m);generalize (d.setIfInBounds (m+1) (Lib.sm (v%100*2+1))).setIfInBounds m (Lib.sm (v%100*2))=d1 at V⊢;have a3:=V.size;exact bkq (H _ _ _ ⟨m,v / 100,d1,by rw[show((m:Nat):Int)=((m+2:Nat):Int)-2 by omega],rfl,rfl,om,V⟩)
   ·exact bkq (H _ _ _ ⟨O,v,d,rfl,rfl,rfl,om,F⟩)
 ·refine cq (fun cc=>?_) (fun cc=>?_)
  ·obtain⟨m,rfl⟩:∃m,O=m+4:=⟨O-4,om⟩
   refine ax ?_;refine xwh 10000 rfl rfl rfl om ?_;refine ax ?_;refine xxh 10000 rfl rfl rfl om (Gm om) ?_;refine ax ?_;refine xxh 100 rfl rfl rfl om (Gm om) ?_;refine ro_y rfl (y_pv rfl ⟨Gm om,trivial⟩) ?_;refine ax ?_;refine xwh 100 rfl rfl rfl om ?_;refine ro_y rfl (y_pv rfl ⟨Gm om,trivial⟩) ?_;refine ax ?_;refine xuv [12] R13 b ?_;refine ex ?_;refine de_y rfl rfl (y_pv rfl ⟨Gm om,trivial⟩) ?_;refine de_y rfl rfl (xej k_ rfl trivial trivial ⟨om,by rw[xgw];omega⟩ (ss:=[]) (a:=SM)) ?_;refine ex ?_;refine de_y rfl rfl (xej k_ rfl trivial trivial ⟨om,by rw[xgw];omega⟩ (ss:=[]) (a:=SM)) ?_;refine xj4 rfl rfl rfl om om ?_;refine xbd rfl rfl rfl ?_ (hlen:=?_);rotate_left
   ·rw[xak];show _+1<=_;omega
   refine ex ?_;refine xw0 rfl rfl om om ?_;refine xdf rfl rfl ?_ (hlen:=?_);rotate_left
   ·rw[xwx,xak];show _+1<=_;omega
   rw[xyw (d:=d) (j1:=m+2+1) (j2:=m+2) (b1:=Lib.sm (v%100*2+1)) (b2:=Lib.sm (v%100*2)) om om (xfw om) om om (xfw om)];have V:=F.step2' (k:=m+2);generalize (d.setIfInBounds (m+2+1) (Lib.sm (v%100*2+1))).setIfInBounds (m+2) (Lib.sm (v%100*2))=d1 at V⊢;have a3:=V.size;refine ax ?_;refine xuv [12] R13 b ?_;refine ex ?_;refine de_y rfl rfl (y_pv rfl ⟨Gm om,trivial⟩) ?_;refine de_y rfl rfl (xej k_ rfl trivial trivial ⟨om,by rw[xgw];omega⟩ (ss:=[]) (a:=SM)) ?_;refine ex ?_;refine de_y rfl rfl (xej k_ rfl trivial trivial ⟨om,by rw[xgw];omega⟩ (ss:=[]) (a:=SM)) ?_;refine xj4 rfl rfl rfl om om ?_;refine xbd rfl rfl rfl ?_ (hlen:=?_);rotate_left
   ·rw[xak];show _+1<=_;omega
   refine ex ?_;refine xw0 rfl rfl om om ?_;refine xdf rfl rfl ?_ (hlen:=?_);rotate_left
   ·rw[xwx,xak];show _+1<=_;omega
   rw[xyw (d:=d1) (j1:=m+1) (j2:=m) (b1:=Lib.sm (v / 100%100*2+1)) (b2:=Lib.sm (v / 100%100*2)) om om (xfw om) om om (xfw om)];have F2:=V.step2' (k:=m);generalize (d1.setIfInBounds (m+1) (Lib.sm (v / 100%100*2+1))).setIfInBounds m (Lib.sm (v / 100%100*2))=d2 at F2⊢;have a6:=F2.size;refine ax ?_;have e4:v / 100 / 100=v / 10000:=om;rw[e4]at F2;exact bkq (H _ _ _ ⟨m,v / 10000,d2,by rw[show((m:Nat):Int)=((m+4:Nat):Int)-4 by omega],rfl,rfl,om,F2⟩)
  ·exact bkq (H _ _ _ ⟨O,v,d,rfl,rfl,rfl,om,F⟩)
section
variable{zT:Nat×Nat}
theorem yk6(n:Int)(hn: -9223372036854775808<=n/\n<=9223372036854775807)(Z:p 5=some (.cells (Lib.pow10Tab.map (Value.int .u64)).toArray tT zT)):Dc prog md p 247 #[.J n,.J 10] (sv (txt n)):=by
 intro h hp;refine xaz hp func247 fun K=>?_;refine xcx rfl (fun _=>?_) (fun M=>absurd rfl M);refine cq (fun M=>?_) (fun M=>?_)
 ·obtain⟨x,rfl⟩:∃x:Nat,n=((x:Nat):Int):=⟨n.toNat,om⟩
  refine ax ?_;refine xpx rfl rfl (yp5 x om) ?_;refine K.q ?_;rw[yix];rfl
 refine lq fun O=>?_;refine ax ?_;have key:∀m:Nat,0<m->m<18446744073709551616->Lib.nDigits m<=20/\1<=Lib.nDigits m/\m<10^Lib.nDigits m:=fun m h0 h1=>by
  have hd:=Lib.numDigits_eq m h0 h1;exact⟨by rw[<- hd.1];split<;>omega,Lib.nDigits_pos m,Lib.lt_pow_nDigits m⟩
 by_cases H:n<0
 ·obtain⟨m,rfl⟩:∃m:Nat,n= -((m:Nat):Int):=⟨n.natAbs,om⟩
  obtain⟨k1,k2,k3⟩:=key m om om;refine ro_y rfl (xu2 ((18446744073709551616-m:Nat):Int) rfl (by rw[yfb];omega) (hs:=⟨_,underlying2⟩)) ?_;refine ax ?_;refine xcx rfl (fun _=>?_) (fun M=>absurd H M);refine ax ?_;refine ro_y rfl (ycs rfl om (a:=18446744073709551616-m)) ?_;rw[show 18446744073709551616-(18446744073709551616-m)=m by omega];refine ax ?_;refine xpx rfl rfl (yo1 m om Z) ?_;refine ax ?_;refine ro_y rfl (ynl rfl rfl rfl om om d_ k_ (n:=24) (e:=5) (i:=1) (r:=1+Lib.nDigits m)) ?_;rw[show 1+Lib.nDigits m-1=Lib.nDigits m by omega];refine ax ?_;refine xos (LL':=[[(O,.cells (List.replicate 1 (Value.int .u8 0)++(F6 (Array.replicate (Lib.nDigits m) 0)++List.replicate (24-1-Lib.nDigits m) (Value.int .u8 0))).toArray 300 (0,0))]]) ?_ (fun h s=>by rw[<- xyt om];exact s);refine xxm [(O,.cells (List.replicate 1 (Value.int .u8 0)++(F6 (Array.replicate (Lib.nDigits m) 0)++List.replicate (24-1-Lib.nDigits m) (Value.int .u8 0))).toArray 300 (0,0))] rfl rfl (fun h C s=>yn1 O (List.replicate 1 (Value.int .u8 0)) (24-1) (Lib.nDigits m) m ⟨s_,k1,k3,om⟩ s) ?_;rintro v _ ⟨w,d,rfl,F⟩;refine ax ?_;refine xcx rfl (fun _=>?_) (fun M=>absurd H M);refine ax ?_;refine xw5 (len:=24) (e:=5) (i:=0) k_ rfl rfl d_ ?_;refine xdf rfl rfl ?_ (hlen:=?_);rotate_left
  ·show 0+0*1+1<=([_]++_:List Value).length;simp
  refine ax ?_;refine ypm (n:=24) (e:=5) (r:=1+Lib.nDigits m) rfl rfl om d_ k_ ?_;have el:1+Lib.nDigits m=(45::C9 m).length:=by rw[List.length_cons,xa3];omega
  rw[el];refine xg3 rfl (fun j v V=>?_) ?_
  ·rw[xo7 F];rw[show(bcs (45::C9 m)).flatten=Value.int .u8 45::(bcs (C9 m)).flatten from rfl]at V;show(Value.int .u8 45::((bcs (C9 m)).flatten++_)).toArray[0+j]?=some v;rw[Nat.zero_add,List.getElem?_toArray,<- List.cons_append,List.getElem?_append_left (List.getElem?_eq_some_iff.1 V).1];exact V
  refine K.q ?_;rw[yyl om];rfl
 ·obtain⟨m,rfl⟩:∃m:Nat,n=((m:Nat):Int):=⟨n.toNat,om⟩
  obtain⟨k1,k2,k3⟩:=key m om om;refine ro_y rfl (xu2 ((m:Nat):Int) rfl (Om om) (hs:=⟨_,underlying2⟩)) ?_;refine ax ?_;refine xcx rfl (fun M=>absurd M H) (fun _=>?_);refine ax ?_;refine xpx rfl rfl (yo1 m om Z) ?_;refine ax ?_;refine ro_y rfl (ynl rfl rfl rfl om om d_ k_ (n:=24) (e:=5) (i:=1) (r:=1+Lib.nDigits m)) ?_;rw[show 1+Lib.nDigits m-1=Lib.nDigits m by omega];refine ax ?_;refine xos (LL':=[[(O,.cells (List.replicate 1 (Value.int .u8 0)++(F6 (Array.replicate (Lib.nDigits m) 0)++List.replicate (24-1-Lib.nDigits m) (Value.int .u8 0))).toArray 300 (0,0))]]) ?_ (fun h s=>by rw[<- xyt om];exact s);refine xxm [(O,.cells (List.replicate 1 (Value.int .u8 0)++(F6 (Array.replicate (Lib.nDigits m) 0)++List.replicate (24-1-Lib.nDigits m) (Value.int .u8 0))).toArray 300 (0,0))] rfl rfl (fun h C s=>yn1 O (List.replicate 1 (Value.int .u8 0)) (24-1) (Lib.nDigits m) m ⟨s_,k1,k3,om⟩ s) ?_;rintro v _ ⟨w,d,rfl,F⟩;refine ax ?_;refine xcx rfl (fun M=>absurd M H) (fun _=>?_);refine ax ?_;refine ro_y rfl (ynl rfl rfl rfl om om d_ k_ (n:=24) (e:=5) (i:=1) (r:=1+Lib.nDigits m)) ?_;rw[show 1+Lib.nDigits m-1=(C9 m).length by rw[xa3];omega];refine xg3 rfl (fun j v V=>?_) ?_
  ·rw[xo7 F];show(Value.int .u8 0::((bcs (C9 m)).flatten++_)).toArray[0+1*1+j]?=some v;rw[show 0+1*1+j=j+1 by omega,List.getElem?_toArray,List.getElem?_cons_succ,List.getElem?_append_left (List.getElem?_eq_some_iff.1 V).1];exact V
  refine K.q ?_;rw[yix];rfl
theorem yg7(n:Int)(hn: -9223372036854775808<=n/\n<=9223372036854775807)(Z:p 5=some (.cells (Lib.pow10Tab.map (Value.int .u64)).toArray tT zT)):Dc prog md p 198 #[.J n] (sv (txt n)):=by
 refine xlq func198 fun K=>?_;refine cdq (yk6 n hn Z) ?_;exact K.q rfl
theorem xn4(n:Int)(hn: -9223372036854775808<=n/\n<=9223372036854775807)(Z:p 5=some (.cells (Lib.pow10Tab.map (Value.int .u64)).toArray tT zT)):Dc prog md p 113 #[.J n] (sv (txt n)):=by
 refine xlq func113 fun K=>?_;refine cdq (yg7 n hn Z) ?_;exact K.q rfl
end
def Oz(v:Value):Prop:=∃(n:Int)(e:Value),v=.tuple #[.J n,e]/\(-9223372036854775808<=n/\n<=9223372036854775807)/\isE e
theorem yg5(s:Str)(hs:s.length<=900):Lc prog md p 312 #[sv s,.J 10,.J 0] (fun v _=>Oz v):=by
 intro h hp;have M:∀{h_:Heap}{p':Ab}{L:Pcs}(n:Int)(e:Value),St h [] p' h_ L->PG h.size [] p p'->(-9223372036854775808<=n/\n<=9223372036854775807)->isE e->Cn p h (fun v _=>Oz v) (.tuple #[.J n,e]) h_:=fun n e H g hn he=>xqq H g ⟨n,e,rfl,hn,he⟩;refine xaz hp func312 fun K=>?_;refine cq (fun cc=>?_) (fun cc=>?_)
 ·refine ax ?_;refine ro_y rfl (y_mi rfl trivial underlying330) ?_;refine ax ?_;exact K.r rfl rfl fun h_ O=>(M 0 (eV 2) O (.refl _ _ _) d_ (.inr (.inr rfl)))
 have V:0<s.length:=by cases s with|nil=>exact absurd rfl cc|cons a t=>simp
 refine ax ?_;refine ro_y rfl (xej rfl rfl trivial trivial ⟨d_,om⟩) ?_;refine ax ?_;refine xfz (fun l' p_ L_=>∃(s':Str)(q:Bool),l'=[(0,none,sv s'),(1,none,.J 10),(2,none,.J 0),(8,none,.bool q)]/\p_=p/\L_=[]/\s'.length<=900) ?_ fun k' H=>?_
 ·rintro _ p _ ⟨s',q,rfl,rfl,rfl,a2⟩;refine cpq (yr4 s' a2) ?_;rintro _ p' g ⟨n,e,rfl,hn,he⟩;refine ax ?_;rcases he with rfl|rfl|rfl<;>
  ·refine ro_y rfl (yax rfl trivial s_ underlying251) ?_;refine ax ?_;refine ro_y rfl (y_mi rfl sdu underlying330) ?_
   first
    |refine ro_y rfl (yds rfl rfl sdu sdu underlying251 k_ underlying330) ?_
    |refine xff (.bool false) rfl ?_
   refine cq (fun cd=>?_) (fun cd=>?_)
   ·first
     |(simp[X.Fk]at cd;done)
     |(refine ax ?_
       exact K.r rfl rfl fun h_ O=>(M 0 (eV 2) O g d_ (.inr (.inr rfl))))
   ·first
     |(simp[X.Fk]at cd;done)
     |(refine ax ?_
       refine xcx rfl (fun _=>?_) (fun cc=>absurd d_ cc);refine ax ?_;refine ro_y rfl (xib ⟨_,underlying3⟩ underlying235 rfl d_ (k':=.u64)) ?_;refine ro_y rfl (yas rfl rfl d_ (s:=63) (w:=9223372036854775808)) ?_;refine cq (fun ce=>?_) (fun ce=>?_)
       ·refine ax ?_;refine ro_y rfl (xu2 9223372036854775807 rfl d_ (k':=.i64) (hs:=⟨_,underlying286⟩)) ?_;refine ro_y rfl (y_mi rfl trivial underlying330) ?_;refine ax ?_;exact K.r rfl rfl fun h_ O=>(M 9223372036854775807 (eV 1) O g d_ (.inr (.inl rfl)))
       refine cq (fun cf=>?_) (fun cf=>?_)
       ·refine ax ?_;refine ro_y rfl (xu2 (-9223372036854775808) rfl d_ (k':=.i64) (hs:=⟨_,underlying286⟩)) ?_;refine ro_y rfl (ydb (-9223372036854775808) rfl d_) ?_;refine ro_y rfl (y_mi rfl trivial underlying330) ?_;refine ax ?_;exact K.r rfl rfl fun h_ O=>(M (-9223372036854775808) (eV 1) O g d_ (.inr (.inl rfl)))
       refine ax ?_;refine ro_y rfl (xu2 (IntKind.i64.wrap ((n:Nat):Int)) rfl rfl (hs:=⟨_,underlying286⟩)) ?_;refine cq (fun cf=>?_) (fun cf=>?_)
       ·refine ax ?_;refine ro_y rfl (ydb (IntKind.i64.wrap (0-IntKind.i64.wrap ((n:Nat):Int))) rfl rfl) ?_;refine ax ?_;exact K.r rfl rfl fun h_ O=>(M _ .nilIface O g (wrap64 _) (.inl rfl))
       refine ax ?_;exact K.r rfl rfl fun h_ O=>(M _ .nilIface O g (wrap64 _) (.inl rfl)))
 ·refine cq (fun cd=>?_) (fun cd=>?_)
  ·refine ax ?_;refine ro_y rfl (xsg rfl rfl trivial trivial V (j:=1)) ?_;exact bkq (H _ _ _ ⟨s.drop 1,false,rfl,rfl,rfl,by rw[List.length_drop];omega⟩)
  refine cq (fun ce=>?_) (fun ce=>?_)
  ·refine ax ?_;refine ro_y rfl (xsg rfl rfl trivial trivial V (j:=1)) ?_;exact bkq (H _ _ _ ⟨s.drop 1,true,rfl,rfl,rfl,by rw[List.length_drop];omega⟩)
  ·exact bkq (H _ _ _ ⟨s,false,rfl,rfl,rfl,hs⟩)
def O6(s:Str)(v:Value):Prop:=∃(n:Int)(e:Value),v=.tuple #[.J n,e]/\(-9223372036854775808<=n/\n<=9223372036854775807)/\isE e/\ ∀k,Cu s=some k->n=k/\e=.nilIface
theorem yw5(s:Str)(hs:s.length<=900):Lc prog md p 266 #[sv s] (fun v _=>O6 s v):=by
 intro h hp;have a3:∀{h_:Heap}{p':Ab}{L:Pcs}(n:Int)(e:Value),St h [] p' h_ L->PG h.size [] p p'->(-9223372036854775808<=n/\n<=9223372036854775807)->isE e->(∀k,Cu s=some k->n=k/\e=.nilIface)->Cn p h (fun v _=>O6 s v) (.tuple #[.J n,e]) h_:=fun n e H g hn he O=>xqq H g ⟨n,e,rfl,hn,he,O⟩;refine xaz hp func266 fun K=>?_;refine cq (fun cc=>?_) (fun cc=>?_)
 ·have hl:0<s.length/\s.length<19:=by simp at cc;omega
  refine ax ?_;refine ro_y rfl (xej rfl rfl trivial trivial ⟨d_,om⟩) ?_;refine ax ?_;refine ro_y rfl (xej rfl rfl sdu sdu (fun _=>⟨d_,om⟩)) ?_;refine ax ?_;have h0:(s.getD (Int.toNat 0) 0).toNat=(s.headD 0).toNat:=by cases s<;>rfl
  rw[h0];have a2:((((s.headD 0).toNat:Nat):Int)=45)<->s.headD 0=45:=by
   constructor
   ·intro z;exact UInt8.toNat_inj.1 (by show _=45;omega)
   ·intro z;rw[z];rfl
  have a7:((((s.headD 0).toNat:Nat):Int)=43)<->s.headD 0=43:=by
   constructor
   ·intro z;exact UInt8.toNat_inj.1 (by show _=43;omega)
   ·intro z;rw[z];rfl
  refine xfz (fun l' p_ L_=>∃M:Str,l'=[(0,none,sv M),(5,none,sv s)]/\p_=p/\L_=[]/\0<M.length/\M.length<=18/\Sp s M) ?_ fun k' H=>?_
  ·rintro _ p _ ⟨M,rfl,rfl,rfl,b3,b7,a5⟩;refine ax ?_;refine yft rfl b3 underlying9 underlying5 fun p' c cap g S b5=>?_;have S1:Sl p' c M.length 1 (bcs M):=S;refine ax ?_;refine xnq (fun m_ l=>∃j acc:Nat,m_=M.length-j/\l=[(5,none,sv s),(6,none,.J ((acc:Nat):Int)),(47,none,.slice c M.length cap),(48,none,.J ((M.length:Nat):Int)),(49,none,.J ((j:Nat):Int))]/\j<=M.length/\acc<10^j/\E6 0 M=E6 acc (M.drop j)) ⟨0,0,rfl,rfl,Nat.zero_le _,d_,rfl⟩ sb ?_;rintro _ _ IH ⟨j,acc,rfl,rfl,hj,b4,hN⟩;refine cq (fun V=>?_) (fun V=>?_)
   ·have a4:j<M.length:=om;have a8:10^j<=10^17:=Nat.pow_le_pow_right d_ om;have b6:(10:Nat)^17=100000000000000000:=by decide
    rw[yyj a4]at hN;refine ax ?_;refine ro_y rfl (y_lp rfl (Lu.get S a4)) ?_;have b0:(M.getD j 0).toNat<256:=(M.getD j 0).toNat_lt;have a6:=xcg (c:=M.getD j 0);generalize M.getD j 0=b at b0 a6 hN⊢;refine ax ?_;refine ro_y rfl (yzr (((b.toNat+208)%256:Nat):Int) rfl rfl (by rw[ym3];omega)) ?_;refine cq (fun ce=>?_) (fun ce=>?_)
    ·have a9:C7 b=false:=by rw[Bool.eq_false_iff];intro z;have:=a6.1 z;omega
     rw[a9]at hN;refine ax ?_;refine ro_y rfl (y_mi rfl trivial underlying330) ?_;refine ax ?_;exact K.r rfl rfl fun h_ H_=>(a3 0 (eV 2) H_ g d_ (.inr (.inr rfl)) fun k O=>by
      obtain⟨m,h1,_⟩:=a5 k O;rw[hN]at h1;cases h1)
    have hd:48<=b.toNat/\b.toNat<=57:=om;rw[a6.2 hd,if_pos rfl]at hN;refine ax ?_;refine ro_y rfl (xib ⟨_,underlying5⟩ underlying3 rfl (wrZ om) (k':=.i64)) ?_;exact bkq (IH _ om ⟨j+1,10*acc+(b.toNat-48),rfl,by rw[show(((10*acc+(b.toNat-48):Nat)):Int)=((acc:Nat):Int)*10+(((b.toNat+208)%256:Nat):Int) by omega],om,by rw[Nat.pow_succ];omega,hN⟩)
   have a4:j=M.length:=om;have a8:10^j<=10^18:=Nat.pow_le_pow_right d_ om;have b8:(10:Nat)^18=1000000000000000000:=by decide
   rw[a4,List.drop_length,E6]at hN;refine ax ?_;refine ro_y rfl (xej rfl rfl trivial trivial ⟨d_,om⟩) ?_;rw[h0];refine cq (fun ce=>?_) (fun ce=>?_)
   ·refine ax ?_;refine ro_y rfl (ydb (-((acc:Nat):Int)) rfl (by rw[wrZ om];omega)) ?_;refine ax ?_;exact K.r rfl rfl fun h_ H_=>(a3 _ .nilIface H_ g om (.inl rfl) fun k O=>by
     obtain⟨m,h1,h2⟩:=a5 k O;rw[hN]at h1;cases h1;rw[if_pos (a2.1 ce)]at h2;exact⟨h2.symm,rfl⟩)
   ·refine ax ?_;exact K.r rfl rfl fun h_ H_=>(a3 _ .nilIface H_ g om (.inl rfl) fun k O=>by
     obtain⟨m,h1,h2⟩:=a5 k O;rw[hN]at h1;cases h1;rw[if_neg (fun z=>ce (a2.2 z))]at h2;exact⟨h2.symm,rfl⟩)
  ·refine cq (fun V=>?_) (fun V=>?_)
   ·refine ax ?_;refine ro_y rfl (xsg rfl rfl trivial trivial hl.1 (j:=1)) ?_;refine cq (fun ce=>?_) (fun ce=>?_)
    ·rw[List.length_drop]at ce;refine ax ?_;refine ro_y rfl (y_mi rfl trivial underlying330) ?_;refine ax ?_;exact K.r rfl rfl fun h_ H_=>(a3 0 (eV 2) H_ (.refl _ _ _) d_ (.inr (.inr rfl)) fun k O=>by
      exfalso;rcases V with V|V
      ·obtain⟨m,h1,_⟩:=Option.map_eq_some_iff.1 (show(Hv true s.tail).map (fun n:Nat=>-(n:Int))=some k by unfold Cu at O;rwa[if_pos (a2.1 V)]at O);have:=(xxb h1).2.1;rw[List.length_tail]at this;omega
      ·rw[xs6 (a7.1 V)]at O;cases O)
    ·rw[List.length_drop]at ce;exact bkq (H _ _ _ ⟨s.drop 1,rfl,rfl,rfl,by rw[List.length_drop];omega,by rw[List.length_drop];omega,by
      rcases V with V|V
      ·exact yyb (a2.1 V)
      ·intro k O;rw[xs6 (a7.1 V)]at O;cases O⟩)
   ·exact bkq (H _ _ _ ⟨s,rfl,rfl,rfl,hl.1,om,yxb fun z=>V (.inl (a2.2 z))⟩)
 ·have hl:¬ (0<s.length/\s.length<19):=fun z=>cc (by simp;omega);refine cpq (yg5 s hs) ?_;rintro _ p' g ⟨n,e,rfl,hn,he⟩;refine ax ?_;exact K.r rfl rfl fun h_ H_=>(a3 n e H_ g hn he fun k O=>absurd (yid O) om)
section
variable{zT:Nat×Nat}
theorem yw6(s:Str)(hs:s.length<=900)(E:p 8=some (.cells #[.iface te ue] tE zE))(R:p 9=some (.cells #[.iface tr ur] tR zR)):Kc prog md p 229 #[sv s] (fun v=>(∃(n:Int)(e:Value),v=.tuple #[.J n,e]/\(-9223372036854775808<=n/\n<=9223372036854775807)/\(e=.nilIface\/ ∃t u,e=.iface t u)/\ ∀k,Cu s=some k->n=k/\e=.nilIface)):=by
 intro h hp;refine xaz hp func229 fun K=>?_;refine ckq (fun h O=>(yw5 s hs h O).mono fun _ _ x=>x.C3) ?_;rintro _ ⟨_,n,e,rfl,hn,he,hk⟩;refine ax ?_;have M:∀i:Int,i=1\/i=2->e=eV i-> ∀k,Cu s=some k->False:=fun i _ ei k H=>by have:=(hk k H).2;rw[ei]at this;cases this
 rcases he with rfl|rfl|rfl
 ·refine ro_y rfl (yax rfl trivial (.inl rfl) underlying251) ?_;refine ax ?_;refine xcx rfl (fun V=>absurd rfl V) (fun _=>?_);refine K.q ?_;exact⟨n,_,rfl,hn,.inl rfl,hk⟩
 all_goals
  refine ro_y rfl (yax rfl trivial (.inr ⟨_,_,rfl⟩) underlying251) ?_;refine ax ?_;refine xcx rfl (fun _=>?_) (fun V=>absurd (fun z=>by cases z) V);refine ax ?_
 ·refine ckq (fun h O=>(yp1 s hs 1 (.inl rfl) E R h O).mono fun _ _ x=>x.C3) ?_;rintro _ ⟨_,t,u,rfl⟩;refine K.q ?_;exact⟨n,_,rfl,hn,.inr ⟨t,u,rfl⟩,fun k H=>(M 1 (.inl rfl) rfl k H).elim⟩
 ·refine ckq (fun h O=>(yp1 s hs 2 (.inr rfl) E R h O).mono fun _ _ x=>x.C3) ?_;rintro _ ⟨_,t,u,rfl⟩;refine K.q ?_;exact⟨n,_,rfl,hn,.inr ⟨t,u,rfl⟩,fun k H=>(M 2 (.inr rfl) rfl k H).elim⟩
theorem yr2{s:Str}(hs:s.length<=900)(E:p 8=some (.cells #[.iface te ue] tE zE))(R:p 9=some (.cells #[.iface tr ur] tR zR))(Z:p 5=some (.cells (Lib.pow10Tab.map (Value.int .u64)).toArray tT zT)):Kc prog md p 162 #[sv s] (fun v=>(∃n:Int,v=.tuple #[.J n,.bool (Cu s).isSome]/\ ∀k,Cu s=some k->n=k)):=by
 refine xlq func162 fun K=>?_;refine ckq (yw6 s hs E R) ?_;rintro _ ⟨n,e,rfl,hn,he,M⟩;refine ax ?_;refine ro_y rfl (ygs rfl trivial he underlying251) ?_;refine cgq (fun _=>xn4 n hn Z) ?_;refine cgq (fun _=>yv6 s) ?_;refine ax ?_;have V:(X.Fk e&&decide (txt n=s)&&decide ((((Gu s).length:Nat):Int)<=6))=(Cu s).isSome:=by
  rw[Bool.eq_iff_iff,<- yaj (s:=s) (n:=n) fun k H=>(M k H).1];rcases he with rfl|⟨t,u,rfl⟩
  ·simp[X.Fk];intro _;omega
  ·have:(Cu s).isSome=false:=by
    cases hn:Cu s with
    |none=>rfl
    |some k=>exact absurd (M k hn).2 (by intro z;cases z)
   have O:¬ (txt n=s/\(Gu s).length<=6):=fun z=>by rw[(yaj (s:=s) (n:=n) fun k H=>(M k H).1).1 z]at this;cases this
   simp[X.Fk];intro z;exact Nat.not_le.1 fun y=>O ⟨z,y⟩
 refine K.q ?_;exact⟨n,by rw[<- V];rfl,fun k H=>(M k H).1⟩
theorem cf62{a:Option Addr}{n:Nat}(c:Nat)(xs:List Str)(S:At p a n xs)(hn:n<=2^20)(hs:∀s∈xs,s.length<=900)(E:p 8=some (.cells #[.iface te ue] tE zE))(R:p 9=some (.cells #[.iface tr ur] tR zR))(Z:p 5=some (.cells (Lib.pow10Tab.map (Value.int .u64)).toArray tT zT)):Dc prog md p 62 #[.slice a n c] (.bool (xs.all Ba)):=by
 have hl:=S.len;have S1:Sl p a n 1 (scs xs):=S;refine xlq func62 fun K=>?_;refine xnq (fun m_ l=>∃j:Nat,m_=n-j/\l=[(7,none,.slice a n c),(8,none,.J ((n:Nat):Int)),(9,none,.J ((j:Nat):Int))]/\j<=n/\ ∀i,i<j->Ba (xs.getD i [])=true) ⟨0,rfl,rfl,Nat.zero_le _,om⟩ sb ?_;rintro _ _ IH ⟨j,rfl,rfl,hj,hq⟩;refine cq (fun cd=>?_) (fun cd=>?_)
 ·have O:j<n:=om;have V:xs.getD j []∈xs:=by rw[List.getD_eq_getElem?_getD,List.getElem?_eq_getElem om];exact List.getElem_mem _
  refine ax ?_;refine ro_y rfl (y_lp rfl (At.get S O)) ?_;refine ckq (yr2 (hs _ V) E R Z) ?_;rintro _ ⟨m,rfl,_⟩;refine cgq (fun _=>cf59 (xs.getD j [])) ?_;refine cq (fun ce=>?_) (fun ce=>?_)
  ·have M:Ba (xs.getD j [])=false:=by
    unfold Ba;cases e1:(Cu (xs.getD j [])).isSome<;>cases e2:isLet (xs.getD j [])<;>simp_all
   refine K.q ?_;rw[show xs.all Ba=false from by rw[List.all_eq_false];exact⟨_,V,by rw[M];simp⟩];rfl
  ·have H:Ba (xs.getD j [])=true:=by
    unfold Ba;cases e1:(Cu (xs.getD j [])).isSome<;>cases e2:isLet (xs.getD j [])<;>simp_all
   exact bkq (IH _ om ⟨j+1,rfl,rfl,om,fun i hi=>by
    rcases Nat.lt_or_ge i j with z|z
    ·exact hq i z
    ·obtain rfl:i=j:=om;exact H⟩)
 refine K.q ?_;rw[show xs.all Ba=true from by
  rw[List.all_eq_true];intro x hx;obtain⟨i,hi,rfl⟩:=List.mem_iff_getElem.1 hx;have:=hq i om;rwa[List.getD_eq_getElem?_getD,List.getElem?_eq_getElem hi]at this];rfl
end
end Go.Proofs.YtofhlcococeifaaGreatDoor
