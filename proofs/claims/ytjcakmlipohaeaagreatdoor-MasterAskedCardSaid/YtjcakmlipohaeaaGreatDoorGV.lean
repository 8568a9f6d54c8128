/-
  Part of proofs about a town's master: a calculus for walks beside goroutines that are only leaving, and the walks. No condition.
-/
import Derived.Test.YtjcakmlipohaeaaGreatDoorGE
import Derived.Test.YtjcakmlipohaeaaGreatDoorGI
import Derived.Lib.ItoaNum
import Derived.Lib.Bytealg
set_option maxRecDepth 20000
set_option synthInstance.maxSize 2000
namespace Go.X.Ms
abbrev Str:=List UInt8
def splitS:Str->List Str
 |[]=>[[]]
 |c::s=>if c=32 then []::splitS s else((c::(splitS s).headD [])::(splitS s).tail)
theorem xpl:∀s,splitS s≠[]
 |[]=>by simp[splitS]
 |c::s=>by unfold splitS;split<;>simp
def txtN(n:Nat):Str:=if n<10 then [UInt8.ofNat (48+n)]else txtN (n / 10)++[UInt8.ofNat (48+n%10)]
termination_by n
decreasing_by omega
def txt(n:Int):Str:=if n<0 then 45::txtN n.natAbs else txtN n.natAbs
def isDig(c:UInt8):Bool:=decide (48<=c.toNat/\c.toNat<=57)
def isLet(s:Str):Bool:=match s with
 |[c]=>decide (97<=c.toNat/\c.toNat<=122)
 |_=>false
def numN:Nat->Str->Option Nat
 |acc,[]=>some acc
 |acc,c::s=>if isDig c then numN (10*acc+(c.toNat-48)) s else none
def numU(minus:Bool)(t:Str):Option Nat:=if t.length<1\/6<t.length\/(t.headD 0=48/\(1<t.length\/minus=true))then none else numN 0 t
def numR(s:Str):Option Int:=if s.headD 0=45 then(numU true s.tail).map (fun n:Nat=>-(n:Int))else(numU false s).map (fun n:Nat=>(n:Int))
theorem u8n{n:Nat}(h:n<256):(UInt8.ofNat n).toNat=n:=by simp[UInt8.toNat_ofNat'];omega
theorem xpj{n:Nat}(h:n<10):txtN n=[UInt8.ofNat (48+n)]:=by rw[txtN,if_pos h]
theorem xgv{n:Nat}(h:10<=n):txtN n=txtN (n / 10)++[UInt8.ofNat (48+n%10)]:=by rw[txtN,if_neg om]
theorem xc5:∀{s t:Str}{acc m:Nat},numN acc s=some m->numN acc (s++t)=numN m t
 |[],t,acc,m,h=>by cases h;rfl
 |c::s,t,acc,m,h=>by
   unfold numN at h
   rw[List.cons_append,numN]
   split at h
   ·rename_i hc;rw[if_pos hc];exact xc5 h
   ·cases h
theorem xn6{n:Nat}(h:n<10):isDig (UInt8.ofNat (48+n))=true/\(UInt8.ofNat (48+n)).toNat-48=n:=by
 have e:=u8n (n:=48+n) om
 unfold isDig
 rw[e]
 exact⟨by simp;omega,om⟩
theorem ylb(n:Nat):numN 0 (txtN n)=some n:=by
 induction n using Nat.strongRecOn with
 |_ n ih=>
   by_cases h:n<10
   ·have:=xn6 h
    rw[xpj h,numN,if_pos this.1,numN,this.2];simp
   ·have:=xn6 (n:=n%10) om
    rw[xgv om,xc5 (ih (n / 10) om),numN,if_pos this.1,numN,this.2]
    congr 1;omega
theorem xwd(n:Nat):1<=(txtN n).length:=by
 by_cases h:n<10
 ·rw[xpj h];simp
 ·rw[xgv om];simp
theorem xyz:∀{k n:Nat},n<10^(k+1)->(txtN n).length<=k+1
 |0,n,h=>by rw[xpj om];simp
 |k+1,n,h=>by
   by_cases c:n<10
   ·rw[xpj c];simp
   ·have:=xyz (k:=k) (n:=n / 10) (by rw[Nat.pow_succ]at h;omega)
    rw[xgv om];simp;omega
theorem xqw:∀{k n:Nat},10^k<=n->k+1<=(txtN n).length
 |0,n,h=>xwd n
 |k+1,n,h=>by
   have h1:10<=n:=by
    have:10^1<=10^(k+1):=Nat.pow_le_pow_right om om
    omega
   have:=xqw (k:=k) (n:=n / 10) (by rw[Nat.pow_succ]at h;omega)
   rw[xgv h1];simp;omega
theorem xg9:∀{n:Nat},0<n-> ∃c t,txtN n=c::t/\49<=c.toNat/\c.toNat<=57:=fun{n}=>by
 induction n using Nat.strongRecOn with
 |_ n ih=>
   intro h0
   by_cases h:n<10
   ·exact⟨_,[],xpj h,by rw[u8n om];omega,by rw[u8n om];omega⟩
   ·obtain⟨c,t,e,h1⟩:=ih (n / 10) om om
    exact⟨c,t++[UInt8.ofNat (48+n%10)],by rw[xgv om,e];rfl,h1⟩
theorem xdc:∀{n:Nat},∀c∈txtN n,isDig c=true:=fun{n}=>by
 induction n using Nat.strongRecOn with
 |_ n ih=>
   by_cases h:n<10
   ·rw[xpj h];intro c hc;rw[List.mem_singleton.1 hc];exact(xn6 h).1
   ·rw[xgv om]
    intro c hc
    rcases List.mem_append.1 hc with hc|hc
    ·exact ih (n / 10) om c hc
    ·rw[List.mem_singleton.1 hc];exact(xn6 om).1
theorem yvv{c:UInt8}(h:c.toNat=48):c=48:=UInt8.toNat_inj.1 (by rw[h];rfl)
theorem xgt:txtN 0=[48]:=by rw[xpj om];rfl
theorem xz4{n:Nat}{b:Bool}(h:n<=999999)(hb:b=true->0<n):numU b (txtN n)=some n:=by
 unfold numU
 rw[if_neg,ylb]
 have h1:=xwd n
 have h2:=xyz (k:=5) (n:=n) om
 rintro(z|z|⟨z,w⟩)
 ·omega
 ·omega
 ·by_cases c:n=0
  ·subst c
   rw[xgt]at w
   rcases w with w|w
   ·simp at w
   ·exact absurd (hb w) om
  ·obtain⟨d,t,e,h3,_⟩:=xg9 (n:=n) om
   rw[e]at z
   simp at z
   rw[z]at h3
   exact absurd h3 (by decide)
theorem xzr{n:Int}(h: -999999<=n/\n<=999999):numR (txt n)=some n:=by
 unfold numR txt
 by_cases c:n<0
 ·rw[if_pos c]
  simp only[List.headD_cons,if_true,List.tail_cons]
  rw[xz4 om (fun _=>om)]
  simp;omega
 ·rw[if_neg c,if_neg,xz4 om (fun z=>by cases z)]
  ·simp;omega
  ·intro z
   cases e:txtN n.natAbs with
   |nil=>have:=xwd n.natAbs;rw[e]at this;simp at this
   |cons d t=>
     have:=xdc d (by rw[e];simp)
     rw[e]at z
     simp at z
     subst z
     exact absurd this (by decide)
theorem xb5:∀{s:Str}{acc m:Nat},numN acc s=some m->(0<acc->txtN m=txtN acc++s)/\acc<=m
 |[],acc,m,h=>by cases h;simp
 |c::s,acc,m,h=>by
   unfold numN at h
   split at h
   ·rename_i hc
    have ih:=xb5 h
    unfold isDig at hc
    simp only[decide_eq_true_eq]at hc
    refine⟨fun h0=>?_,om⟩
    rw[ih.1 om,xgv (n:=10*acc+(c.toNat-48)) om,show(10*acc+(c.toNat-48)) / 10=acc by omega,show(10*acc+(c.toNat-48))%10=c.toNat-48 by omega]
    have:UInt8.ofNat (48+(c.toNat-48))=c:=UInt8.toNat_inj.1 (by rw[u8n om];omega)
    rw[this,List.append_assoc];rfl
   ·cases h
theorem xa5{b:Bool}{t:Str}{n:Nat}(h:numU b t=some n):t=txtN n/\n<=999999/\(b=true->0<n):=by
 unfold numU at h
 split at h
 ·cases h
 ·rename_i hc
  simp only[not_or,not_and]at hc
  obtain⟨h1,h2,h3⟩:=hc
  have key:t=txtN n/\(b=true->0<n):=by
   cases t with
   |nil=>simp at h1
   |cons c t=>
     unfold numN at h
     split at h
     ·rename_i hd
      unfold isDig at hd
      simp only[decide_eq_true_eq]at hd
      by_cases z:c.toNat=48
      ·have z':=yvv z
       have h4:=h3 (by simpa using z')
       have:t=[]:=by
        have:=h4.1
        simp at this
        exact List.eq_nil_of_length_eq_zero (by simp;omega)
       subst this
       cases h
       subst z'
       exact⟨by rw[show 10*0+(UInt8.toNat 48-48)=0 from rfl,xgt],fun hb=>absurd hb h4.2⟩
      ·have:=xb5 h
       refine⟨?_,fun _=>om⟩
       rw[this.1 om,xpj om]
       have:UInt8.ofNat (48+(10*0+(c.toNat-48)))=c:=UInt8.toNat_inj.1 (by rw[u8n om];omega)
       rw[this];rfl
     ·cases h
  refine⟨key.1,?_,key.2⟩
  rcases Nat.lt_or_ge n 1000000 with z|z
  ·omega
  ·have:=xqw (k:=6) (n:=n) z
   rw[<- key.1]at this
   omega
theorem ykb{s:Str}{n:Int}(h:numR s=some n):s=txt n/\ -999999<=n/\n<=999999:=by
 unfold numR at h
 split at h
 ·rename_i hd
  obtain⟨m,h1,h2⟩:=Option.map_eq_some_iff.1 h
  have:=xa5 h1
  subst h2
  have hm:=this.2.2 rfl
  refine⟨?_,om,om⟩
  unfold txt
  rw[if_pos om]
  cases s with
  |nil=>simp at hd
  |cons c t=>
    simp at hd
    subst hd
    rw[List.tail_cons]at this
    rw[this.1];congr 2;simp
 ·obtain⟨m,h1,h2⟩:=Option.map_eq_some_iff.1 h
  have:=xa5 h1
  subst h2
  refine⟨?_,om,om⟩
  unfold txt
  rw[if_neg om,this.1];simp
end Go.X.Ms
namespace Go.X
open Go.Conc
def rowV(d:Array UInt8):List Value:=d.toList.map fun b=>.int .u8 ((b.toNat:Nat):Int)
theorem xd4{d:Array UInt8}:(rowV d).length=d.size:=by simp[rowV]
theorem ybh{A Z:List Value}{d:Array UInt8}{j o:Nat}{v:Value}{b:UInt8}(ho:o=A.length+j)(hj:j<d.size)(hv:v=.int .u8 ((b.toNat:Nat):Int)):(A++(rowV d++Z)).set o v=A++(rowV (d.setIfInBounds j b)++Z):=by
 subst ho;subst hv
 rw[List.set_append_right _ _ om,Nat.add_sub_cancel_left,List.set_append_left _ _ (by rw[xd4];exact hj)]
 congr 2
 simp[rowV,List.map_set]
theorem ymw{d:Array UInt8}{l:List UInt8}(hl:l.length=d.size)(h:∀t,t<d.size->d[t]! =l.getD t 0):rowV d=(bcs l).flatten:=by
 rw[xlj,rowV]
 congr 1
 refine List.ext_getElem (by simp[hl]) fun i h1 h2=>?_
 have:=h i (by simpa using h1)
 rw[List.getD_eq_getElem?_getD,List.getElem?_eq_getElem h2]at this
 simpa[getElem!_pos d i (by simpa using h1)]using this
theorem wr32{n:Int}(h:0<=n/\n<=4294967295):IntKind.u32.wrap n=n:=by
 show(n%((2:Int)^32))=n
 exact Int.emod_eq_of_lt h.1 om
section
variable{X:Cx}{k:List Item}{ops rest:List Oper}{l:Env}{p:PHeap}{LL LR:List Pcs}{g:Option Bool}{d:Option Tmp}{ty:TypeId}{pos:String}{aft:Array Edge}{gd:Option (Nat×Bool)}{ss ss' ss2:List Prop}{x y z:Operand}{t:TypeId}{a:List UInt8}
theorem ytq{k1 k2:IntKind}(i r:Nat)(hg:gdc ops l gd=some g)(hx:evS l x=some (ss,sv a))(hy:evS l y=some (ss',.int k1 ((i:Nat):Int)))(hz:evS l z=some (ss2,.int k2 ((r:Nat):Int)))(hs:cimp g (AllP ss))(hs':cimp g (AllP ss'))(hs2:cimp g (AllP ss2))(h1:cimp g (i<=r/\r<=a.length))(n:RO X k ops rest (ent d g (sv ((a.drop i).take (r-i))) l) p LL)
 (ht:X.P.underlying t=some .string:=by kernel_rfl):RO X k ops (⟨d,.slice t x (some y) (some z) none,ty,pos,aft,gd⟩::rest) l p LL:=
 xdx hg rfl (xoz h1 (xoz hs (xoz hs' hs2 And.intro) And.intro) fun h1 hs _ _ E _=>xos ht (xdq E hx hs.1) (.nat 0 (xdq E hy hs.2.1)) (.nat _ (xdq E hz hs.2.2)) h1.1 h1.2) n
theorem xtt{e:TypeId}{b off q c w:Nat}{j:Int}{kk:IntKind}(hx:evS l x=some ([],.slice (some ⟨b,off,none⟩) q c))(hy:evS l y=some ([],.int kk j))(h0:0<=j)(hi:j<q)[f:SlcC X.P t e][sz:SizeC X.P e w](n:RO X k ops rest (ent d none (.pointer (some ⟨b,off+j.toNat*w,none⟩)) l) p LL):
 RO X k ops (⟨d,.indexAddr t x y,ty,pos,aft,none⟩::rest) l p LL:=xh4 hx hy h0 hi rfl (by rw[show adr (some ⟨b,off,none⟩)=⟨b,off,none⟩ from rfl,xrx];exact n)
theorem xc3{m:Ks}{LF:List Pcs}{effs todo:List Nat}{i:Nat}{e:TypeId}{b off q c w:Nat}{j:Int}{kk:IntKind}(ho:ops[i]?=some ⟨d,.indexAddr t x y,ty,pos,aft,none⟩)(hx:evS l x=some ([],.slice (some ⟨b,off,none⟩) q c))(hy:evS l y=some ([],.int kk j))(h0:0<=j)(hi:j<q)[f:SlcC X.P t e][sz:SizeC X.P e w]
 (n:DE X k ops m p LF effs todo (ent d none (.pointer (some ⟨b,off+j.toNat*w,none⟩)) l) LL):DE X k ops m p LF effs (i::todo) l LL:=xrp ho hx hy h0 hi rfl (by rw[show adr (some ⟨b,off,none⟩)=⟨b,off,none⟩ from rfl,xrx];exact n)
theorem xgj{c:Item}(J:Env->PHeap->List Pcs->Prop)(rest:∀l' p' LL',J l' p' LL'->RE X k l' p' LL')(br:∀k',(∀l' p' LL',J l' p' LL'->RE X k' l' p' LL')->RE X (c::k') l p LL):RE X (c::k) l p LL:=br k rest
end
namespace Ms
theorem xar(u:Nat):txtN u=Lib.decDigits u:=by
 induction u using Nat.strongRecOn with
 |_ u ih=>
   by_cases h:u<10
   ·rw[xpj h,Lib.decDigits,dif_pos h]
   ·rw[xgv om,Lib.decDigits,dif_neg h,ih (u / 10) om]
theorem xo1(u:Nat):(txtN u).length=Lib.nDigits u:=by rw[xar,Lib.decDigits_length]
theorem xv5{u v:Nat}{d:Array UInt8}(h:Lib.FmtInv (Lib.nDigits u) u 0 v d):rowV d=(bcs (txtN u)).flatten:=by
 refine ymw (by rw[xo1,h.size]) fun t ht=>?_
 rw[h.size]at ht
 rw[h.done t (Nat.zero_le _) ht,xar,Lib.decDigits_eq,List.getD_eq_getElem?_getD,List.getElem?_map,List.getElem?_range ht]
 rfl
end Ms
end Go.X
namespace Go.X
open Go.Conc
section
variable{P:Program}{h:Heap}{tm:List Value}{d:Option Tmp}{ty:TypeId}{pos:String}{aft:Array Edge}{gd:Option (Nat×Bool)}
theorem xtf{t e:TypeId}{x:Operand}{lo hi:Option Operand}{n w b o i r:Nat}(ht:P.underlying t=some (.array n e))(hs:sizeT P e=some w)(hx:evl tm x=.pointer (some ⟨b,o,none⟩))(bl:Bd tm lo 0 i)(bh:Bd tm hi n r)(h1:i<=r)(h2:r<=n)(h3:i<n):
 Exd P tm ⟨d,.slice t x lo hi none,ty,pos,aft,gd⟩ h (.slice (some ⟨b,o+i*w,none⟩) (r-i) (n-i)):=by
 refine xuz (s:=Instr.sliceAt t (.pointer (some ⟨b,o,none⟩)) (lo.map (evl tm)) (hi.map (evl tm)) none) (by simp only[execOp,hx,Option.map_none]) ?_
 unfold Instr.sliceAt
 refine xbq (xeq ht ?_)
 simp only[Instr.sureAddr]
 refine xbq (xcq ?_)
 refine xbq (xcv (tm:=tm) bl bh h1 h2 ?_)
 simp only
 refine xbq (xwq hs ?_)
 refine xcq ⟨?_,rfl⟩
 rw[if_neg om,xrx]
end
section
variable{X:Cx}{k:List Item}{ops rest:List Oper}{l:Env}{p:PHeap}{LL LR:List Pcs}{d:Option Tmp}{ty:TypeId}{pos:String}{aft:Array Edge}{x y z:Operand}{t:TypeId}
theorem ycq{e:TypeId}{n w b o i r:Nat}{k1 k2:IntKind}(hx:evS l x=some ([],.pointer (some ⟨b,o,none⟩)))(hy:evS l y=some ([],.int k1 ((i:Nat):Int)))(hz:evS l z=some ([],.int k2 ((r:Nat):Int)))(h1:i<=r)(h2:r<=n)(h3:i<n)(ht:X.P.underlying t=some (.array n e))[sz:SizeC X.P e w]
 (nx:RO X k ops rest (ent d none (.slice (some ⟨b,o+i*w,none⟩) (r-i) (n-i)) l) p LL):RO X k ops (⟨d,.slice t x (some y) (some z) none,ty,pos,aft,none⟩::rest) l p LL:=
 xdx (g:=none) rfl rfl (fun _ _ E _=>xtf ht sz.h (xdq E hx trivial) (.nat 0 (xdq E hy trivial)) (.nat _ (xdq E hz trivial)) h1 h2 h3) nx
theorem yeh{e:TypeId}{n w b o r:Nat}{k2:IntKind}(hx:evS l x=some ([],.pointer (some ⟨b,o,none⟩)))(hz:evS l z=some ([],.int k2 ((r:Nat):Int)))(h2:r<=n)(h3:0<n)(ht:X.P.underlying t=some (.array n e))[sz:SizeC X.P e w]
 (nx:RO X k ops rest (ent d none (.slice (some ⟨b,o,none⟩) r n) l) p LL):RO X k ops (⟨d,.slice t x none (some z) none,ty,pos,aft,none⟩::rest) l p LL:=
 xdx (g:=none) rfl rfl (fun tm h E _=>by
  have q:=xtf (d:=d) (ty:=ty) (pos:=pos) (aft:=aft) (gd:=none) (P:=X.P) (h:=h) ht sz.h (xdq E hx trivial) (.none 0) (.nat n (xdq (x:=z) E hz trivial)) (Nat.zero_le _) h2 h3
  simpa using q) nx
theorem xi4{e:TypeId}{w len i b o:Nat}{k1:IntKind}(ht:X.P.underlying t=some (.array len e))(hx:evS l x=some ([],.pointer (some ⟨b,o,none⟩)))(hy:evS l y=some ([],.int k1 ((i:Nat):Int)))(h:i<len)[sz:SizeC X.P e w](n:RO X k ops rest (ent d none (.pointer (some ⟨b,o+i*w,none⟩)) l) p LL):
 RO X k ops (⟨d,.indexAddr t x y,ty,pos,aft,none⟩::rest) l p LL:=ymq ht hx hy h (by rw[xrx];exact n)
end
theorem xys{a b n:Nat}(h:a+b<=n):List.replicate n (Value.int .u8 0)=List.replicate a (Value.int .u8 0)++(rowV (Array.replicate b 0)++List.replicate (n-a-b) (Value.int .u8 0)):=by
 have e:rowV (Array.replicate b 0)=List.replicate b (Value.int .u8 0):=by simp[rowV]
 rw[e,List.replicate_append_replicate,List.replicate_append_replicate]
 congr 1;omega
namespace Ms
theorem yng{m:Nat}(h:0<m):txt (-((m:Nat):Int))=45::txtN m:=by unfold txt;rw[if_pos om];simp
theorem xe9(m:Nat):txt ((m:Nat):Int)=txtN m:=by unfold txt;rw[if_neg om];simp
end Ms
end Go.X
namespace Go.X
open Go.Conc
section
variable{P:Program}{h:Heap}{l:List UInt8}{c:UInt8}
theorem xd9(c:UInt8):((c.toNat:Nat):Int).toNat.toUInt8=c:=by rw[Int.toNat_natCast];simp
theorem xwp:wpS P (Extern.BytealgIndexByte.indexByte #[sv l,.int .u8 ((c.toNat:Nat):Int)]) h fun v' h'=>v'=.int .i64 (Lib.indexByte l c)/\h'=h:=by
 have e:=Lib.firstIdx_eq (bs l) c
 change wpS P (do
  let b <- Extern.Bytes.bytesOf (.string (bs l))
  let c' <- Extern.Bytes.asByte (.int .u8 ((c.toNat:Nat):Int))
  match(List.range b.size).find? fun i=>b[i]! == c' with
  |some i=>pure (goInt i)
  |none=>pure (goInt (-1))) h _
 simp only[Extern.Bytes.bytesOf,Extern.Bytes.asByte,xd9]
 refine xbq (xcq ?_)
 refine xbq (xcq ?_)
 have e2:(bs l).data.toList=l:=by simp[bs]
 rw[e2]at e
 rw[<- e]
 unfold firstIdx
 split<;>rename_i hq<;>rw[hq]<;>exact xcq ⟨rfl,rfl⟩
theorem xb9:wpS P (Extern.BytealgCount.count #[sv l,.int .u8 ((c.toNat:Nat):Int)]) h fun v' h'=>v'=.int .i64 ((l.count c:Nat):Int)/\h'=h:=by
 change wpS P (do
  let b <- Extern.Bytes.bytesOf (.string (bs l))
  let c' <- Extern.Bytes.asByte (.int .u8 ((c.toNat:Nat):Int))
  pure (goInt (b.foldl (fun n x=>if x==c' then n+1 else n) (0:Nat)))) h _
 simp only[Extern.Bytes.bytesOf,Extern.Bytes.asByte,xd9]
 refine xbq (xcq ?_)
 refine xbq (xcq ?_)
 refine xcq ⟨?_,rfl⟩
 have e2:(bs l).data.toList=l:=by simp[bs]
 rw[Lib.foldl_data,e2]
 have cf:=Lib.count_foldl c l 0
 simp only[Lib.countByte,Int.zero_add]at cf
 exact congrArg (Value.int .i64) cf
end
def scs(xs:List (List UInt8)):List (List Value):=xs.map fun t=>[sv t]
def Strs(p:PHeap)(a:Option Addr)(n:Nat)(xs:List (List UInt8)):Prop:=Sl p a n 1 (scs xs)
theorem xuq(xs:List (List UInt8)):(scs xs).length=xs.length:=by simp[scs]
section
variable{p p':PHeap}{a:Option Addr}{n i:Nat}{xs:List (List UInt8)}
theorem Strs.len(s:Strs p a n xs):xs.length=n:=by have:=Sl.len s;simpa[scs]using this
theorem Strs.mono(hp:PLe p p')(s:Strs p a n xs):Strs p' a n xs:=Sl.mono hp s
theorem Strs.ne(s:Strs p a n xs)(hk:0<n):a=some (adr a):=Sl.ne s hk
theorem Strs.get(s:Strs p a n xs)(hk:i<n):pcell p ((adr a).add (i*1))=some (sv (xs.getD i [])):=by
 have hl:=s.len
 have:=Sl.get s i [sv (xs.getD i [])] (by rw[scs,List.getElem?_map,List.getD_eq_getElem?_getD,List.getElem?_eq_getElem om];rfl) 0 _ rfl
 rwa[show ∀a:Addr,(a.add (i*1)).add 0=a.add (i*1) from fun a=>xox]at this
end
namespace Ms
open Lib (indexByte)
theorem xes{b c:UInt8}{l:List UInt8}:indexByte (b::l) c=if b=c then 0 else if indexByte l c= -1 then -1 else indexByte l c+1:=by
 rw[indexByte];simp only[beq_iff_eq]
theorem xol:∀{l:Str},indexByte l 32<0->splitS l=[l]
 |[],_=>rfl
 |b::l,h=>by
   rw[xes]at h
   have ge:=Lib.indexByte_ge l 32
   by_cases e:b=32
   ·rw[if_pos e]at h;omega
   ·rw[if_neg e]at h
    rw[splitS,if_neg e,xol (l:=l) (by split at h<;>omega)];rfl
theorem xql:∀{l:Str}{m:Nat},indexByte l 32=m->m<l.length/\splitS l=l.take m::splitS (l.drop (m+1))
 |[],m,h=>by rw[indexByte]at h;omega
 |b::l,m,h=>by
   rw[xes]at h
   by_cases e:b=32
   ·rw[if_pos e]at h
    obtain rfl:m=0:=om
    rw[splitS,if_pos e]
    exact⟨by simp,by simp⟩
   ·rw[if_neg e]at h
    have ge:=Lib.indexByte_ge l 32
    split at h
    ·omega
    ·obtain⟨k,rfl⟩:∃k,m=k+1:=⟨m-1,om⟩
     have ih:=xql (l:=l) (m:=k) om
     rw[splitS,if_neg e,ih.2]
     exact⟨by simp;omega,by simp⟩
theorem xpk:∀l:Str,(splitS l).length=l.count 32+1
 |[]=>rfl
 |b::l=>by
   have ih:=xpk l
   rw[splitS,List.count_cons]
   by_cases e:b=32
   ·rw[if_pos e,List.length_cons,ih,e];rfl
   ·rw[if_neg e,List.length_cons,List.length_tail,ih]
    simp[e]
end Ms
end Go.X
namespace Go.Proofs.YtjcakmlipohaeaaGreatDoor
open Go.Proofs.Tryz
open Go.X Go.X.Ms Go.Conc
theorem c335(md:Md)(h:Heap)(p:PHeap)(hp:Per p h)(l:List UInt8)(c:UInt8):CallsX prog md 335 #[sv l,.int .u8 ((c.toNat:Nat):Int)] h fun v h'=>v=.int .i64 (Lib.indexByte l c)/\Keep h h':=by
 refine xfq hp func335 fun _ _ _ K=>?_
 refine yoq func356 (e:=Extern.BytealgIndexByte.indexByte) (by kernel_rfl) rfl rfl (fun h=>xwp) ?_
 refine ax ?_
 exact K.r rfl rfl fun _ H_=>⟨rfl,H_.kept⟩
theorem c311(md:Md)(h:Heap)(p:PHeap)(hp:Per p h)(l:List UInt8)(c:UInt8):CallsX prog md 311 #[sv l,sv [c]] h fun v h'=>v=.int .i64 (Lib.indexByte l c)/\Keep h h':=by
 refine xfq hp func311 fun _ _ _ K=>?_
 refine xiq rfl (fun cc=>?_) (fun cc=>?_)
 ·have e:l=[c]:=by
   rcases cc with cc|cc
   ·simp at cc
   ·exact cc.symm
  subst e
  refine ax ?_
  exact K.r rfl rfl fun _ H_=>⟨by rw[xes,if_pos rfl];rfl,H_.kept⟩
 refine ax ?_
 refine xiq rfl (fun _=>?_) (fun cc=>absurd rfl cc)
 refine ax ?_
 refine xxc rfl rfl rfl trivial trivial ⟨by decide,by simp⟩ ?_
 refine ax ?_
 refine xlq rfl rfl (fun _ pe=>c335 md _ _ pe l c) ?_
 refine ax ?_
 exact K.r rfl rfl fun _ H_=>⟨rfl,H_.kept⟩
theorem c280(md:Md)(h:Heap)(p:PHeap)(hp:Per p h)(l:List UInt8)(c:UInt8):CallsX prog md 280 #[sv l,sv [c]] h fun v h'=>v=.int .i64 (Lib.indexByte l c)/\Keep h h':=by
 refine xfq hp func280 fun _ _ _ K=>?_
 refine xlq rfl rfl (fun _ pe=>c311 md _ _ pe l c) ?_
 refine ax ?_
 exact K.r rfl rfl fun _ H_=>⟨rfl,H_.kept⟩
theorem c279(md:Md)(h:Heap)(p:PHeap)(hp:Per p h)(l:List UInt8)(c:UInt8):CallsX prog md 279 #[sv l,sv [c]] h fun v h'=>v=.int .i64 ((l.count c:Nat):Int)/\Keep h h':=by
 refine xfq hp func279 fun _ _ _ K=>?_
 refine xiq rfl (fun cc=>absurd cc (by simp)) (fun _=>?_)
 refine ax ?_
 refine xiq rfl (fun _=>?_) (fun cc=>absurd rfl cc)
 refine ax ?_
 refine xxc rfl rfl rfl trivial trivial ⟨by decide,by simp⟩ ?_
 refine ax ?_
 refine yoq func310 (e:=Extern.BytealgCount.count) (by kernel_rfl) rfl rfl (fun h=>xb9) ?_
 refine ax ?_
 exact K.r rfl rfl fun _ H_=>⟨rfl,H_.kept⟩
theorem c184(md:Md)(h:Heap)(p:PHeap)(hp:Per p h)(s:Str)(hs:s.length<=900):
 CallsX prog md 184 #[sv s,sv [32],.int .i64 0,.int .i64 (-1)] h fun v h'=>LastR p h (fun v p'=>∃a cap,v=.slice a (splitS s).length cap/\(splitS s).length<=cap/\Strs p' a (splitS s).length (splitS s)) v h':=by
 have hc:=xpk s
 have hcl:s.count 32<=s.length:=List.count_le_length
 refine xfq hp func184 fun _ _ _ K=>?_
 refine xiq rfl (fun cc=>absurd cc (by decide)) (fun _=>?_)
 refine ax ?_
 refine xiq rfl (fun cc=>absurd cc (by simp)) (fun _=>?_)
 refine ax ?_
 refine xiq rfl (fun _=>?_) (fun cc=>absurd (by decide) cc)
 refine ax ?_
 refine xlq rfl rfl (fun _ pe=>c279 md _ _ pe s 32) ?_
 refine ax ?_
 have em:min (((s.count 32:Nat):Int)+1) (((s.length:Nat):Int)+1)=(((splitS s).length:Nat):Int):=by rw[hc];omega
 rw[em]
 obtain⟨N,hN⟩:∃N,N=(splitS s).length:=⟨_,rfl⟩
 rw[<- hN]at hc⊢
 refine yhh (n:=N) rfl rfl om fun v1 Y1 o1=>?_
 have o1:OwnS 9 1 v1 (scs (List.replicate N [])) Y1:=o1.as (by simp[scs];exact .inr rfl)
 refine ax ?_
 refine xpq (fun m_ l p_ L_=>∃(i:Nat)(s':Str)(pre:List Str)(Y:Pcs),m_=N-i/\l=[(0,none,sv s'),(1,none,sv [32]),(2,none,.int .i64 0),(3,none,.int .i64 ((N:Nat)-1)),(9,none,v1),(10,none,.int .i64 ((i:Nat):Int))]/\p_=p/\L_=[Y]/\pre.length=i/\pre++splitS s'=splitS s/\s'.length<=900/\OwnS 9 1 v1 (scs (pre++List.replicate (N-i) [])) Y) ⟨0,s,[],Y1,rfl,rfl,rfl,rfl,rfl,rfl,hs,o1⟩ sb ?_
 clear o1
 rintro _ _ p _ IH ⟨i,s',pre,Y,rfl,rfl,rfl,rfl,hpre,hsp,hs',o1⟩
 have hlen:i+(splitS s').length=N:=by rw[hN,<- hsp,List.length_append,hpre]
 have h1:=xpk s'
 refine cq (fun cc=>?_) (fun cc=>?_)
 ·refine ax ?_
  refine xlq rfl rfl (fun _ pe=>c280 md _ _ pe s' 32) ?_
  refine cq (fun cd=>?_) (fun cd=>?_)
  ·have z:=xol cd
   rw[z,List.length_singleton]at hlen
   omega
  obtain⟨m,hm⟩:∃m:Nat,Lib.indexByte s' 32=((m:Nat):Int):=⟨(Lib.indexByte s' 32).toNat,om⟩
  obtain⟨hml,hms⟩:=xql hm
  rw[hm]
  refine ax ?_
  refine xe4 (j:=m) rfl rfl rfl trivial trivial (Nat.le_of_lt hml) ?_
  refine xuk rfl rfl o1 (by rw[xuq,List.length_append,List.length_replicate];omega) ?_
  refine xjv (e:=[sv []]) rfl rfl o1 xox rfl rfl rfl (by rw[scs,List.getElem?_map,List.getElem?_append_right om,List.getElem?_replicate,if_pos om];rfl) (Nat.le_refl _) fun Y' o'=>?_
  have o':OwnS 9 1 v1 (scs ((pre++[s'.take m])++List.replicate (N-(i+1)) [])) Y':=o'.as (by
   rw[show N-i=(N-(i+1))+1 by omega,List.replicate_succ,<- hpre]
   simp[scs,setl])
  refine ax ?_
  refine xyv rfl rfl ⟨wrZ (by rw[List.length_singleton];omega),trivial⟩ ?_
  refine xbf (j:=m+1) rfl rfl rfl trivial trivial hml ?_
  refine ax ?_
  exact xnq (IH _ _ _ om ⟨i+1,s'.drop (m+1),pre++[s'.take m],Y',rfl,rfl,rfl,rfl,by rw[List.length_append,hpre];rfl,by rw[List.append_assoc,List.singleton_append,<- hms,hsp],by rw[List.length_drop];omega,o'⟩)
 have hi:i+1=N:=om
 have hs1:splitS s'=[s']:=by
  have ge:=Lib.indexByte_ge s' 32
  by_cases z:Lib.indexByte s' 32<0
  ·exact xol z
  ·obtain⟨m,hm⟩:∃m:Nat,Lib.indexByte s' 32=((m:Nat):Int):=⟨(Lib.indexByte s' 32).toNat,om⟩
   have z2:=(xql hm).2
   have z3:=xpk (s'.drop (m+1))
   rw[z2,List.length_cons]at hlen
   omega
 refine ax ?_
 refine xuk rfl rfl o1 (by rw[xuq,List.length_append,List.length_replicate];omega) ?_
 refine xjv (e:=[sv []]) rfl rfl o1 xox rfl rfl rfl (by rw[scs,List.getElem?_map,List.getElem?_append_right om,List.getElem?_replicate,if_pos om];rfl) (Nat.le_refl _) fun Y' o'=>?_
 have o':OwnS 9 1 v1 (scs (splitS s)) Y':=o'.as (by
  rw[show N-i=0+1 by omega,List.replicate_succ,<- hsp,hs1,<- hpre]
  simp[scs,setl])
 refine xbx o' (m:=N) (by rw[xuq,hN]) (by decide) fun p' a cap g ev hcap S=>?_
 subst ev
 refine ax ?_
 refine xxn (j:=i+1) rfl rfl om ?_
 refine ax ?_
 rw[hi]
 subst hN
 exact K.r rfl rfl fun _ H_=>(xzx (p:=p) (p':=p') (Q:=fun v p'=>∃a cap,v=.slice a (splitS s).length cap/\(splitS s).length<=cap/\Strs p' a (splitS s).length (splitS s)) H_ g ⟨a,cap,rfl,hcap,S⟩)
theorem c118(md:Md)(h:Heap)(p:PHeap)(hp:Per p h)(s:Str)(hs:s.length<=900):
 CallsX prog md 118 #[sv s,sv [32]] h fun v h'=>LastR p h (fun v p'=>∃a cap,v=.slice a (splitS s).length cap/\(splitS s).length<=cap/\Strs p' a (splitS s).length (splitS s)) v h':=by
 refine xfq hp func118 fun _ _ _ K=>?_
 refine xrz rfl rfl (fun h pe=>c184 md h _ pe s hs) ?_
 rintro _ p' g ⟨a,cap,rfl,hcap,S⟩
 refine ax ?_
 exact K.r rfl rfl fun _ H_=>(xzx (p:=p) (p':=p') (Q:=fun v p'=>∃a cap,v=.slice a (splitS s).length cap/\(splitS s).length<=cap/\Strs p' a (splitS s).length (splitS s)) H_ g ⟨a,cap,rfl,hcap,S⟩)
end Go.Proofs.YtjcakmlipohaeaaGreatDoor
namespace Go.X.Ms
def trimM(s:Str):Str:=if s.headD 0=45 then s.tail else s
theorem ybt{s:Str}{c:UInt8}(h:c≠0):(0<s.length/\s.take 1=[c])<->s.headD 0=c:=by
 cases s with
 |nil=>simp;exact fun e=>h e.symm
 |cons a t=>simp
theorem xmm{s:Str}:isLet s=true<->s.length=1/\97<=(s.getD 0 0).toNat/\(s.getD 0 0).toNat<=122:=by
 match s with
 |[]=>simp[isLet]
 |[c]=>simp[isLet]
 |_::_::_=>simp[isLet]
end Go.X.Ms
namespace Go.Proofs.YtjcakmlipohaeaaGreatDoor
open Go.Proofs.Tryz
open Go.X Go.X.Ms Go.Conc
theorem c349(md:Md)(h:Heap)(p:PHeap)(hp:Per p h)(s:Str):CallsX prog md 349 #[sv s,sv [45]] h fun v h'=>v=.bool (decide (s.headD 0=45))/\Keep h h':=by
 refine xfq hp func349 fun _ _ _ K=>?_
 refine xe4 (j:=1) rfl rfl rfl sdu sdu (fun e=>by have e:(1:Int)<=s.length:=(by simpa using e);omega) ?_
 refine ax ?_
 exact K.r rfl rfl fun _ H_=>⟨congrArg _ (bpe (by rw[<- ybt (by decide)];simp;exact fun _=>om)),H_.kept⟩
theorem c316(md:Md)(h:Heap)(p:PHeap)(hp:Per p h)(s:Str):CallsX prog md 316 #[sv s,sv [45]] h fun v h'=>v=sv (trimM s)/\Keep h h':=by
 refine xfq hp func316 fun _ _ _ K=>?_
 refine xlq rfl rfl (fun _ pe=>c349 md _ _ pe s) ?_
 refine cq (fun cc=>?_) (fun cc=>?_)
 ·have hl:1<=s.length:=by cases s with|nil=>simp at cc|cons a t=>simp
  refine ax ?_
  refine xbf (j:=1) rfl rfl rfl trivial trivial hl ?_
  refine ax ?_
  exact K.r rfl rfl fun _ H_=>⟨by rw[trimM,if_pos cc,<- List.drop_one];rfl,H_.kept⟩
 ·refine ax ?_
  exact K.r rfl rfl fun _ H_=>⟨by rw[trimM,if_neg cc];rfl,H_.kept⟩
theorem c288(md:Md)(h:Heap)(p:PHeap)(hp:Per p h)(s:Str):CallsX prog md 288 #[sv s,sv [45]] h fun v h'=>v=sv (trimM s)/\Keep h h':=by
 refine xfq hp func288 fun _ _ _ K=>?_
 refine xlq rfl rfl (fun _ pe=>c316 md _ _ pe s) ?_
 refine ax ?_
 exact K.r rfl rfl fun _ H_=>⟨rfl,H_.kept⟩
theorem c119(md:Md)(h:Heap)(p:PHeap)(hp:Per p h)(s:Str):CallsX prog md 119 #[sv s] h fun v h'=>v=.bool (isLet s)/\Keep h h':=by
 refine xfq hp func119 fun _ _ _ K=>?_
 refine xxc rfl rfl rfl sdu sdu (fun e=>by have e:=of_decide_eq_true e;omega) ?_
 refine ax ?_
 refine xxc rfl rfl rfl sdu sdu (fun e=>by simp at e;omega) ?_
 refine ax ?_
 exact K.r rfl rfl fun _ H_=>⟨congrArg Value.bool (by rw[Bool.eq_iff_iff,xmm];simp;omega),H_.kept⟩
theorem c362(md:Md)(h:Heap)(p:PHeap)(hp:Per p h)(s:Str)(hs:s.length<=900):CallsX prog md 362 #[sv s] h fun v h'=>v=sv s/\Keep h h':=by
 refine xfq hp func362 fun _ _ _ K=>?_
 refine xiq rfl (fun cc=>?_) (fun cc=>?_)
 ·have e:s=[]:=List.eq_nil_of_length_eq_zero om
  subst e
  refine ax ?_
  exact K.r rfl rfl fun _ H_=>⟨rfl,H_.kept⟩
 refine ax ?_
 refine yhh (n:=s.length) rfl rfl om fun v1 Y1 o1=>?_
 refine ax ?_
 refine ypw rfl rfl o1 (by simp) om fun Y2 o2=>?_
 refine ax ?_
 refine xuk (i:=0) rfl rfl o2 (by rw[xuj];omega) ?_
 refine ax ?_
 refine xul rfl rfl trivial o2 (xuj s) ?_
 refine yvn o2 om om (by show _=some ([],Value.pointer (some (adrV v1)));rw[show adrV v1=(adrV v1).add (0*1) from add_z.symm];rfl) rfl (by kernel_rfl) (by kernel_rfl) ?_
 refine ax ?_
 exact K.r rfl rfl fun _ H_=>⟨rfl,H_.kept⟩
section
variable{te tr:TypeId}{ue ur:Value}{tE tR:TypeId}{zE zR:Nat×Nat}
theorem c345(md:Md)(h:Heap)(p:PHeap)(hp:Per p h)(f s:Str)(hs:s.length<=900)(E:p 8=some (.cells #[.iface te ue] tE zE)):
 CallsX prog md 345 #[sv f,sv s] h fun v h'=>(∃x,v=.pointer x)/\Keep h h':=by
 refine xfq hp func345 fun _ _ _ K=>?_
 refine xjx [] R4 ?_
 refine ex ?_
 refine xak rfl rfl rfl rfl trivial (fun _ pe=>c362 md _ _ pe s hs) ?_
 refine ex ?_
 refine bq fun b1=>?_
 refine ax ?_
 exact K.r rfl rfl fun _ H_=>⟨⟨_,rfl⟩,H_.kept⟩
theorem c346(md:Md)(h:Heap)(p:PHeap)(hp:Per p h)(f s:Str)(hs:s.length<=900)(E:p 9=some (.cells #[.iface tr ur] tR zR)):
 CallsX prog md 346 #[sv f,sv s] h fun v h'=>(∃x,v=.pointer x)/\Keep h h':=by
 refine xfq hp func346 fun _ _ _ K=>?_
 refine xjx [] R4 ?_
 refine ex ?_
 refine xak rfl rfl rfl rfl trivial (fun _ pe=>c362 md _ _ pe s hs) ?_
 refine ex ?_
 refine bq fun b1=>?_
 refine ax ?_
 exact K.r rfl rfl fun _ H_=>⟨⟨_,rfl⟩,H_.kept⟩
abbrev eV(n:Int):Value:=.iface 362 (.int .i64 n)
theorem c315(md:Md)(h:Heap)(p:PHeap)(hp:Per p h)(f s:Str)(hs:s.length<=900)(n:Int)(hn:n=1\/n=2)(E:p 8=some (.cells #[.iface te ue] tE zE))(R:p 9=some (.cells #[.iface tr ur] tR zR)):
 CallsX prog md 315 #[sv f,sv s,.int .i64 0,.int .i64 0,eV n] h fun v h'=>LastR p h (fun v _=>∃t u,v=.iface t u) v h':=by
 refine xfq hp func315 fun _ _ _ K=>?_
 refine xib rfl rfl trivial underlying362 ?_
 refine ax ?_
 refine yqq rfl rfl rfl trivial trivial underlying317 (by kernel_rfl) underlying362 ?_
 refine cq (fun cc=>?_) (fun cc=>?_)
 ·refine ax ?_
  refine xck (Q:=fun v Y=>(∃x,v=.pointer x)/\Y=[]) rfl rfl (fun _ pe=>(c345 md _ _ pe f s hs E).mono fun _ _⟨q,kk⟩=>⟨[],⟨q,rfl⟩,⟨kk,fun x hx=>(by cases hx),List.nodup_nil⟩⟩) ?_
  rintro _ _ ⟨⟨x,rfl⟩,rfl⟩
  refine xib rfl rfl trivial underlying365 ?_
  refine ax ?_
  exact K.r rfl rfl fun _ H_=>(xzx (p:=p) (p':=p) (Q:=fun v _=>∃t u,v=.iface t u) H_ (.refl _ _ _) ⟨_,_,rfl⟩)
 have h2:n=1:=om
 subst h2
 refine ax ?_
 refine xib rfl rfl trivial underlying362 ?_
 refine ax ?_
 refine yqq rfl rfl rfl trivial trivial underlying317 (by kernel_rfl) underlying362 ?_
 refine ax ?_
 refine xiq rfl (fun cc=>?_) (fun cc=>absurd rfl cc)
 refine ax ?_
 refine xck (Q:=fun v Y=>(∃x,v=.pointer x)/\Y=[]) rfl rfl (fun _ pe=>(c346 md _ _ pe f s hs R).mono fun _ _⟨q,kk⟩=>⟨[],⟨q,rfl⟩,⟨kk,fun x hx=>(by cases hx),List.nodup_nil⟩⟩) ?_
 rintro _ _ ⟨⟨x,rfl⟩,rfl⟩
 refine xib rfl rfl trivial underlying365 ?_
 refine ax ?_
 exact K.r rfl rfl fun _ H_=>(xzx (p:=p) (p':=p) (Q:=fun v _=>∃t u,v=.iface t u) H_ (.refl _ _ _) ⟨_,_,rfl⟩)
end
end Go.Proofs.YtjcakmlipohaeaaGreatDoor
namespace Go.X
theorem wrap64(z:Int): -9223372036854775808<=IntKind.i64.wrap z/\IntKind.i64.wrap z<=9223372036854775807:=by
 simp only[IntKind.wrap,IntKind.bits,IntKind.signed]
 simp
 omega
end Go.X
namespace Go.Proofs.YtjcakmlipohaeaaGreatDoor
open Go.Proofs.Tryz
open Go.X Go.X.Ms Go.Conc
theorem c365(md:Md)(h:Heap)(p:PHeap)(hp:Per p h)(c:Nat)(hc:c<256):CallsX prog md 365 #[.int .u8 ((c:Nat):Int)] h fun v h'=>v=.int .u8 ((c ||| 32:Nat):Int)/\Keep h h':=by
 refine xfq hp func365 fun _ _ _ K=>?_
 refine yap (b:=32) rfl rfl hc (by decide) ?_
 refine ax ?_
 exact K.r rfl rfl fun _ H_=>⟨rfl,H_.kept⟩
def isE(e:Value):Prop:=e=.nilIface\/e=eV 1\/e=eV 2
set_option maxHeartbeats 1000000 in
theorem c361(md:Md)(h:Heap)(p:PHeap)(hp:Per p h)(s:Str)(hs:s.length<=900):
 CallsX prog md 361 #[sv s,.int .i64 10,.int .i64 0] h fun v h'=>LastR p h (fun v _=>∃(n:Nat)(e:Value),v=.tuple #[.int .u64 ((n:Nat):Int),e]/\n<18446744073709551616/\isE e) v h':=by
 have out:∀{h_:Heap}{p':PHeap}{L:Pcs}(n:Nat)(e:Value),St h [] p' h_ L->PG h.size [] p p'->n<18446744073709551616->isE e->LastR p h (fun v _=>∃(n:Nat)(e:Value),v=.tuple #[.int .u64 ((n:Nat):Int),e]/\n<18446744073709551616/\isE e) (.tuple #[.int .u64 ((n:Nat):Int),e]) h_:=fun n e H g hn he=>xzx H g ⟨n,e,rfl,hn,he⟩
 refine xfq hp func361 fun _ _ _ K=>?_
 refine xiq rfl (fun cc=>?_) (fun cc=>?_)
 ·refine ax ?_
  refine xib rfl rfl trivial underlying362 ?_
  refine ax ?_
  exact K.r rfl rfl fun h_ H_=>(out 0 (eV 2) H_ (.refl _ _ _) (by decide) (.inr (.inr rfl)))
 have hpos:0<s.length:=by cases s with|nil=>exact absurd rfl cc|cons a t=>simp
 refine ax ?_
 refine xiq rfl (fun _=>?_) (fun cc=>absurd (by decide) cc)
 refine ax ?_
 refine xiq rfl (fun _=>?_) (fun cc=>absurd (by decide) cc)
 refine ax ?_
 refine xiq rfl (fun _=>?_) (fun cc=>absurd (by decide) cc)
 refine ax ?_
 refine xdk (k':=.u64) ⟨_,underlying3⟩ underlying132 rfl (by decide) ?_
 refine ydf (s:=64) (w:=0) rfl rfl (by decide) ?_
 refine ycf 18446744073709551615 rfl rfl (by decide) ?_
 refine ax ?_
 refine yop rfl hpos underlying9 underlying5 fun p' c cap g S hcap=>?_
 have S1:Sl p' c s.length 1 (bcs s):=S
 refine ax ?_
 refine xbz (fun m_ l=>∃j n:Nat,m_=s.length-j/\l=[(1,none,.int .i64 10),(8,none,.bool (decide ((10:Int)=0))),(9,none,sv s),(10,none,.int .u64 1844674407370955162),(11,none,.int .u64 18446744073709551615),(12,none,.bool false),(13,none,.int .u64 ((n:Nat):Int)),(99,none,.slice c s.length cap),(100,none,.int .i64 ((s.length:Nat):Int)),(101,none,.int .i64 ((j:Nat):Int))]/\j<=s.length/\n<18446744073709551616) ⟨0,0,rfl,rfl,Nat.zero_le _,by decide⟩ sb ?_
 rintro _ _ IH ⟨j,n,rfl,rfl,hj,hn⟩
 refine cq (fun cd=>?_) (fun cd=>?_)
 ·have hjl:j<s.length:=om
  refine ax ?_
  refine xvk rfl (Byts.get S hjl) ?_
  obtain⟨b,hb⟩:∃b,b=(s.getD j 0).toNat:=⟨_,rfl⟩
  have hb8:b<256:=by rw[hb];exact(s.getD j 0).toNat_lt
  rw[<- hb]
  refine ax ?_
  refine xgj (fun l' p_ L_=>∃x:Nat,l'=[(1,none,.int .i64 10),(8,none,.bool (decide ((10:Int)=0))),(9,none,sv s),(10,none,.int .u64 1844674407370955162),(11,none,.int .u64 18446744073709551615),(12,none,.bool false),(13,none,.int .u64 ((n:Nat):Int)),(16,none,.int .u8 ((x:Nat):Int)),(99,none,.slice c s.length cap),(100,none,.int .i64 ((s.length:Nat):Int)),(101,none,.int .i64 ((j:Nat):Int))]/\p_=p'/\L_=[]/\x<256) ?_ fun k' H=>?_
  ·rintro _ p' _ ⟨x,rfl,rfl,rfl,hx⟩
   refine ax ?_
   refine xdk (k':=.u8) ⟨_,underlying3⟩ underlying5 rfl (by decide) ?_
   refine cq (fun ce=>?_) (fun ce=>?_)
   ·refine ax ?_
    refine xib rfl rfl trivial underlying362 ?_
    refine ax ?_
    exact K.r rfl rfl fun h_ H_=>(out 0 (eV 2) H_ g (by decide) (.inr (.inr rfl)))
   refine cq (fun cf=>?_) (fun cf=>?_)
   ·refine ax ?_
    refine xib rfl rfl trivial underlying362 ?_
    refine ax ?_
    exact K.r rfl rfl fun h_ H_=>(out 18446744073709551615 (eV 1) H_ g (by decide) (.inr (.inl rfl)))
   refine ax ?_
   refine xdk (k':=.u64) ⟨_,underlying3⟩ underlying213 rfl (by decide) ?_
   refine ax ?_
   refine xdk (k':=.u64) ⟨_,underlying5⟩ underlying213 rfl (wrU0 om) ?_
   refine yrp (((n*10+x)%18446744073709551616:Nat):Int) rfl rfl (by rw[ymv];omega) ?_
   refine cq (fun ch=>?_) (fun ch=>?_)
   ·refine ax ?_
    refine xib rfl rfl trivial underlying362 ?_
    refine ax ?_
    exact K.r rfl rfl fun h_ H_=>(out 18446744073709551615 (eV 1) H_ g (by decide) (.inr (.inl rfl)))
   refine ax ?_
   exact xnq (IH _ om ⟨j+1,(n*10+x)%18446744073709551616,rfl,rfl,om,om⟩)
  ·refine xiq rfl (fun ce=>absurd ce.2 (by decide)) (fun _=>?_)
   refine cq (fun ce=>?_) (fun ce=>?_)
   ·refine ax ?_
    refine xyv rfl rfl ⟨wr8 om,trivial⟩ ?_
    refine ax ?_
    exact xnq (H _ _ _ ⟨b-48,by rw[show(((b-48:Nat):Int))=((b:Nat):Int)-48 by omega],rfl,rfl,om⟩)
   have hlo:b ||| 32<256:=Nat.or_lt_two_pow (n:=8) hb8 (by decide)
   refine ax ?_
   refine xlq rfl rfl (fun _ pe=>c365 md _ _ pe b hb8) ?_
   refine ax ?_
   refine xvq rfl rfl rfl sdu (fun _ _ pe=>c365 md _ _ pe b hb8) ?_
   refine cq (fun cf=>?_) (fun cf=>?_)
   ·refine ax ?_
    refine xlq rfl rfl (fun _ pe=>c365 md _ _ pe b hb8) ?_
    refine xyv rfl rfl ⟨wr8 om,trivial⟩ ?_
    refine xyv rfl rfl ⟨wr8 om,trivial⟩ ?_
    refine ax ?_
    exact xnq (H _ _ _ ⟨(b ||| 32)-97+10,by rw[show(((((b ||| 32)-97+10:Nat)):Int))=(((b ||| 32:Nat)):Int)-97+10 by omega],rfl,rfl,om⟩)
   ·refine ax ?_
    refine xib rfl rfl trivial underlying362 ?_
    refine ax ?_
    exact K.r rfl rfl fun h_ H_=>(out 0 (eV 2) H_ g (by decide) (.inr (.inr rfl)))
 refine ax ?_
 refine xkg (.bool false) rfl ?_
 refine ax ?_
 refine xiq rfl (fun ce=>absurd ce (by simp)) (fun _=>?_)
 refine ax ?_
 exact K.r rfl rfl fun h_ H_=>(out n .nilIface H_ g hn (.inl rfl))
end Go.Proofs.YtjcakmlipohaeaaGreatDoor
namespace Go.X
def len8L:List UInt8:=(List.range 256).map fun n=>UInt8.ofNat (Lib.bitLen n)
theorem ylz:len8L.length=256:=by simp[len8L]
theorem xm0:∀n:Fin 256,(len8L.getD n.val 0).toNat=Lib.bitLen n.val/\Lib.bitLen n.val<=8:=by decide +kernel
theorem ytb{n:Nat}(h:n<256):(len8L.getD n 0).toNat=Lib.bitLen n:=(xm0 ⟨n,h⟩).1
theorem ysb{n:Nat}(h:n<256):Lib.bitLen n<=8:=(xm0 ⟨n,h⟩).2
theorem yzh{p:PHeap}{t:TypeId}{z:Nat×Nat}{g:Nat}(Z:p g=some (.cells (Lib.pow10Tab.map (Value.int .u64)).toArray t z)){i:Nat}(h:i<20):pcell p ((⟨g,0,none⟩:Addr).add (i*1))=some (.int .u64 ((10^i:Nat):Int)):=by
 rw[xrx]
 unfold pcell
 rw[Z]
 simp[Lib.pow10Tab,h]
end Go.X
namespace Go.Proofs.YtjcakmlipohaeaaGreatDoor
open Go.Proofs.Tryz
open Go.X Go.X.Ms Go.Conc
theorem c359(md:Md)(h:Heap)(p:PHeap)(hp:Per p h)(q:Prop)[Decidable q]:CallsX prog md 359 #[.bool (decide q)] h fun v h'=>v=.int .i64 (if q then 1 else 0)/\Keep h h':=by
 refine xfq hp func359 fun _ _ _ K=>?_
 refine xiq rfl (fun cc=>?_) (fun cc=>?_)
 ·refine ax ?_
  exact K.r rfl rfl fun _ H_=>⟨by rw[if_pos cc];rfl,H_.kept⟩
 ·refine ax ?_
  exact K.r rfl rfl fun _ H_=>⟨by rw[if_neg cc];rfl,H_.kept⟩
theorem c358(md:Md)(h:Heap)(p:PHeap)(hp:Per p h)(x:Nat)(hx:x<=64):CallsX prog md 358 #[.int .i64 ((x:Nat):Int)] h fun v h'=>v=.int .i64 ((Lib.l10 x:Nat):Int)/\Keep h h':=by
 refine xfq hp func358 fun _ _ _ K=>?_
 refine xyn (a:=x*78913) (s:=18) rfl rfl rfl trivial trivial (show _<=64 from by omega) ?_
 refine ax ?_
 exact K.r rfl rfl fun _ H_=>⟨rfl,H_.kept⟩
theorem d326(md:Md)(h:Heap)(p:PHeap)(hp:Per p h)(x:Nat)(hx:x<18446744073709551616):CallsX prog md 326 #[.int .u64 ((x:Nat):Int)] h fun v h'=>v=.int .i64 ((Lib.bitLen x:Nat):Int)/\Keep h h':=by
 refine xfq hp func326 fun _ _ _ K=>?_
 refine xgj (fun l' p' LL'=>∃y n:Nat,l'=[(0,none,.int .u64 ((y:Nat):Int)),(2,none,.int .i64 ((n:Nat):Int))]/\p'=p/\LL'=[]/\y<4294967296/\n<=32/\n+Lib.bitLen y=Lib.bitLen x) ?_ fun k' H=>?_
 ·rintro _ p _ ⟨y,n,rfl,rfl,rfl,hy,hn,hl⟩
  refine ax ?_
  refine xgj (fun l' p' LL'=>∃y n:Nat,l'=[(0,none,.int .u64 ((y:Nat):Int)),(2,none,.int .i64 ((n:Nat):Int))]/\p'=p/\LL'=[]/\y<65536/\n<=48/\n+Lib.bitLen y=Lib.bitLen x) ?_ fun k' H=>?_
  ·rintro _ p _ ⟨y,n,rfl,rfl,rfl,hy,hn,hl⟩
   refine ax ?_
   refine xgj (fun l' p' LL'=>∃y n:Nat,l'=[(0,none,.int .u64 ((y:Nat):Int)),(2,none,.int .i64 ((n:Nat):Int))]/\p'=p/\LL'=[]/\y<256/\n<=56/\n+Lib.bitLen y=Lib.bitLen x) ?_ fun k' H=>?_
   ·rintro _ p _ ⟨y,n,rfl,rfl,rfl,hy,hn,hl⟩
    refine ax ?_
    refine xdk (k':=.u8) ⟨_,underlying213⟩ underlying5 rfl (wr8 om) ?_
    refine xxc (ss:=[]) (a:=len8L) rfl (by kernel_rfl) rfl trivial trivial ⟨om,by rw[ylz];omega⟩ ?_
    rw[Int.toNat_natCast,ytb hy]
    have b8:=ysb hy
    refine xdk (k':=.i64) ⟨_,underlying5⟩ underlying3 rfl (wrZ om) ?_
    refine ax ?_
    exact K.r rfl rfl fun _ H_=>⟨by rw[<- hl];rfl,H_.kept⟩
   ·refine xiq rfl (fun cc=>?_) (fun cc=>?_)
    ·refine ax ?_
     refine xyn (a:=y) (s:=8) rfl rfl rfl trivial trivial (show _<=64 from by omega) ?_
     refine ax ?_
     have z:=Lib.bitLen_shift 8 y om om
     exact xnq (H _ _ _ ⟨y / 2^8,n+8,rfl,rfl,rfl,om,om,by rw[<- hl,z];omega⟩)
    ·refine ax ?_
     exact xnq (H _ _ _ ⟨y,n,rfl,rfl,rfl,om,om,hl⟩)
  ·refine xiq rfl (fun cc=>?_) (fun cc=>?_)
   ·refine ax ?_
    refine xyn (a:=y) (s:=16) rfl rfl rfl trivial trivial (show _<=64 from by omega) ?_
    refine ax ?_
    have z:=Lib.bitLen_shift 16 y om om
    exact xnq (H _ _ _ ⟨y / 2^16,n+16,rfl,rfl,rfl,om,om,by rw[<- hl,z];omega⟩)
   ·refine ax ?_
    exact xnq (H _ _ _ ⟨y,n,rfl,rfl,rfl,om,om,hl⟩)
 ·refine xiq rfl (fun cc=>?_) (fun cc=>?_)
  ·refine ax ?_
   refine xyn (a:=x) (s:=32) rfl rfl rfl trivial trivial (show _<=64 from by omega) ?_
   refine ax ?_
   have z:=Lib.bitLen_shift 32 x om om
   exact xnq (H _ _ _ ⟨x / 2^32,32,rfl,rfl,rfl,om,om,by rw[z]⟩)
  ·refine ax ?_
   exact xnq (H _ _ _ ⟨x,0,rfl,rfl,rfl,om,om,om⟩)
theorem c340(md:Md)(h:Heap)(p:PHeap)(hp:Per p h)(x:Nat)(hx:0<x/\x<18446744073709551616){tT:TypeId}{zT:Nat×Nat}(Z:p 7=some (.cells (Lib.pow10Tab.map (Value.int .u64)).toArray tT zT)):
 CallsX prog md 340 #[.int .u64 ((x:Nat):Int)] h fun v h'=>v=.int .i64 ((Lib.nDigits x:Nat):Int)/\Keep h h':=by
 have hd:=Lib.numDigits_eq x hx.1 hx.2
 have hb:Lib.bitLen x<=64:=Lib.bitLen_le x 64 (Nat.le_refl _) hx.2
 refine xfq hp func340 fun _ _ _ K=>?_
 refine xlq rfl rfl (fun _ pe=>d326 md _ _ pe x hx.2) ?_
 refine ax ?_
 refine xlq rfl rfl (fun _ pe=>c358 md _ _ pe _ hb) ?_
 refine ax ?_
 refine ymq (len:=20) (e:=213) (i:=Lib.l10 (Lib.bitLen x)) (c:=⟨7,0,none⟩) (by kernel_rfl) rfl rfl om ?_
 refine xvk rfl (yzh Z om) ?_
 refine ax ?_
 refine xlq rfl rfl (fun _ pe=>c359 md _ _ pe _) ?_
 have e:(if((10^Lib.l10 (Lib.bitLen x):Nat):Int)<=((x:Nat):Int)then(1:Int)else 0)=((if 10^Lib.l10 (Lib.bitLen x)<=x then 1 else 0:Nat):Int):=by split<;>split<;>omega
 rw[e]
 have e2:(if 10^Lib.l10 (Lib.bitLen x)<=x then 1 else 0)<=1:=by split<;>omega
 generalize (if 10^Lib.l10 (Lib.bitLen x)<=x then 1 else 0)=w at hd e2
 refine ax ?_
 exact K.r rfl rfl fun _ H_=>⟨by rw[<- hd.1];rfl,H_.kept⟩
theorem c339(md:Md)(h:Heap)(p:PHeap)(hp:Per p h)(x:Nat)(hx:x<100):CallsX prog md 339 #[.int .i64 ((x:Nat):Int)] h fun v h'=>v=sv (txtN x)/\Keep h h':=by
 refine xfq hp func339 fun _ _ _ K=>?_
 refine xiq rfl (fun cc=>?_) (fun cc=>?_)
 ·refine ax ?_
  refine ytq (ss:=[]) (a:=Lib.digits36.data.toList) x (x+1) rfl (by kernel_rfl) rfl rfl trivial trivial trivial ⟨om,by show x+1<=Lib.digits36.size;rw[Lib.digits36_size];omega⟩ ?_
  refine ax ?_
  exact K.r rfl rfl fun _ H_=>⟨by rw[Lib.digits36_piece om,<- xar];rfl,H_.kept⟩
 ·refine ax ?_
  refine ytq (ss:=[]) (a:=Lib.smalls.data.toList) (x*2) (x*2+2) rfl (by kernel_rfl) rfl rfl trivial trivial trivial ⟨om,by show x*2+2<=Lib.smalls.size;rw[Lib.smalls_size];omega⟩ ?_
  refine ax ?_
  exact K.r rfl rfl fun _ H_=>⟨by rw[Lib.smalls_piece om om,<- xar];rfl,H_.kept⟩
end Go.Proofs.YtjcakmlipohaeaaGreatDoor
namespace Go.X
abbrev SM:List UInt8:=Lib.smalls.data.toList
theorem xtv:SM.length=200:=by decide +kernel
theorem xsv{j:Int}{i:Nat}(h:j=((i:Nat):Int)):Value.int .u8 ((((SM.getD j.toNat 0).toNat:Nat):Int))=.int .u8 (((Lib.sm i).toNat:Nat):Int):=by subst h;rfl
theorem xqj{A Z:List Value}{d:Array UInt8}:(A++(rowV d++Z)).length=A.length+(d.size+Z.length):=by rw[List.length_append,List.length_append,xd4]
theorem xjr{A Z:List Value}{d:Array UInt8}{j o:Nat}{z:Int}{b:UInt8}(ho:o=A.length+j)(hj:j<d.size)(hv:Value.int .u8 z=.int .u8 ((b.toNat:Nat):Int)):setl (A++(rowV d++Z)) o (Value.int .u8 z).cells.toList=A++(rowV (d.setIfInBounds j b)++Z):=ybh ho hj hv
theorem xtw{A Z:List Value}{d:Array UInt8}{j1 j2 o1 o2:Nat}{z1 z2:Int}{b1 b2:UInt8}(h1:o1=A.length+j1)(h2:j1<d.size)(h3:Value.int .u8 z1=.int .u8 ((b1.toNat:Nat):Int))(h4:o2=A.length+j2)(h5:j2<d.size)(h6:Value.int .u8 z2=.int .u8 ((b2.toNat:Nat):Int)):
 setl (setl (A++(rowV d++Z)) o1 (Value.int .u8 z1).cells.toList) o2 (Value.int .u8 z2).cells.toList=A++(rowV ((d.setIfInBounds j1 b1).setIfInBounds j2 b2)++Z):=by
 rw[xjr h1 h2 h3,xjr h4 (by simpa using h5) h6]
end Go.X
namespace Go.Proofs.YtjcakmlipohaeaaGreatDoor
open Go.Proofs.Tryz
open Go.X Go.X.Ms Go.Conc
set_option maxHeartbeats 4000000 in
theorem c341(md:Md){h h₀:Heap}{B₀:List Nat}{p:PHeap}{C₀:Pcs}(b:Nat)(A Z:List Value)(d₀:Array UInt8)(c nd0 u:Nat)(T:TypeId)(hn:d₀.size=nd0/\nd0<=20/\u<10^nd0/\u<18446744073709551616)
 (s₀:St h₀ B₀ p h ([(b,.cells (A++(rowV d₀++Z)).toArray T (0,0))]++C₀)):
 CallsX prog md 341 #[.slice (some ⟨b,A.length,none⟩) nd0 c,.int .u64 ((u:Nat):Int)] h fun _ h'=>∃X',(∃v d,X'=[(b,.cells (A++(rowV d++Z)).toArray T (0,0))]/\Lib.FmtInv nd0 u 0 v d)/\St h₀ B₀ p h' (X'++C₀):=by
 obtain⟨hd0,h20,hu,hu64⟩:=hn
 have F0:Lib.FmtInv nd0 u nd0 u d₀:=by have z:=Lib.FmtInv.start d₀ u (by rw[hd0];exact hu);rwa[hd0]at z
 refine xcj s₀ func341 fun _ _ _ K=>?_
 refine ax ?_
 refine xpq (fun m_ l p_ L_=>∃(nd v:Nat)(d:Array UInt8),m_=nd/\l=[(0,none,.slice (some ⟨b,A.length,none⟩) nd0 c),(1,none,.int .u64 ((v:Nat):Int)),(4,none,.int .i64 ((nd:Nat):Int))]/\p_=p/\L_=[[(b,.cells (A++(rowV d++Z)).toArray T (0,0))],C₀]/\v<18446744073709551616/\Lib.FmtInv nd0 u nd v d) ⟨nd0,u,d₀,rfl,rfl,rfl,rfl,hu64,F0⟩ sb ?_
 rintro nd _ p _ IH ⟨_,v,d,rfl,rfl,rfl,rfl,hv64,F⟩
 have zd:=F.size
 have le:=F.le
 refine cq (fun cc=>?_) (fun cc=>?_)
 ·obtain⟨m,rfl⟩:∃m,nd=m+8:=⟨nd-8,om⟩
  refine ax ?_
  refine xeh 100000000 rfl rfl rfl om ?_
  refine xdk (k':=.u32) ⟨_,underlying213⟩ underlying216 rfl (wr32 om) ?_
  refine ax ?_
  refine xfh 100000000 rfl rfl rfl om (wrU0 om) ?_
  refine ax ?_
  refine xfh 10000 rfl rfl rfl om (wr32 om) ?_
  refine ax ?_
  refine xeh 10000 rfl rfl rfl om ?_
  refine ax ?_
  refine xfh 100 rfl rfl rfl om (wr32 om) ?_
  refine xyv rfl rfl ⟨wr32 om,trivial⟩ ?_
  refine ax ?_
  refine xeh 100 rfl rfl rfl om ?_
  refine xyv rfl rfl ⟨wr32 om,trivial⟩ ?_
  refine ax ?_
  refine xfh 100 rfl rfl rfl om (wr32 om) ?_
  refine xyv rfl rfl ⟨wr32 om,trivial⟩ ?_
  refine ax ?_
  refine xeh 100 rfl rfl rfl om ?_
  refine xyv rfl rfl ⟨wr32 om,trivial⟩ ?_
  refine ax ?_
  refine xgb [12] R13 b ?_
  refine ex ?_
  refine xvc rfl rfl rfl ⟨wr32 om,trivial⟩ ?_
  refine xek (ss:=[]) (a:=SM) rfl rfl (by kernel_rfl) rfl trivial trivial ⟨om,by rw[xtv];omega⟩ ?_
  refine ex ?_
  refine xek (ss:=[]) (a:=SM) rfl rfl (by kernel_rfl) rfl trivial trivial ⟨om,by rw[xtv];omega⟩ ?_
  refine xc3 rfl rfl rfl om om ?_
  refine xuh rfl rfl rfl ?_ (hlen:=?_)
  rotate_left
  ·rw[xqj];show _+1<=_;omega
  refine ex ?_
  refine xtt rfl rfl om om ?_
  refine xtc rfl rfl ?_ (hlen:=?_)
  rotate_left
  ·rw[xyx,xqj];show _+1<=_;omega
  rw[xtw (d:=d) (j1:=m+6+1) (j2:=m+6) (b1:=Lib.sm (v%100*2+1)) (b2:=Lib.sm (v%100*2)) om om (xsv om) om om (xsv om)]
  have F1:=F.step2' (k:=m+6)
  generalize (d.setIfInBounds (m+6+1) (Lib.sm (v%100*2+1))).setIfInBounds (m+6) (Lib.sm (v%100*2))=d1 at F1⊢
  have zd1:=F1.size
  refine ax ?_
  refine xgb [12] R13 b ?_
  refine ex ?_
  refine xvc rfl rfl rfl ⟨wr32 om,trivial⟩ ?_
  refine xek (ss:=[]) (a:=SM) rfl rfl (by kernel_rfl) rfl trivial trivial ⟨om,by rw[xtv];omega⟩ ?_
  refine ex ?_
  refine xek (ss:=[]) (a:=SM) rfl rfl (by kernel_rfl) rfl trivial trivial ⟨om,by rw[xtv];omega⟩ ?_
  refine xc3 rfl rfl rfl om om ?_
  refine xuh rfl rfl rfl ?_ (hlen:=?_)
  rotate_left
  ·rw[xqj];show _+1<=_;omega
  refine ex ?_
  refine xtt rfl rfl om om ?_
  refine xtc rfl rfl ?_ (hlen:=?_)
  rotate_left
  ·rw[xyx,xqj];show _+1<=_;omega
  rw[xtw (d:=d1) (j1:=m+4+1) (j2:=m+4) (b1:=Lib.sm (v / 100%100*2+1)) (b2:=Lib.sm (v / 100%100*2)) om om (xsv om) om om (xsv om)]
  have F2:=F1.step2' (k:=m+4)
  generalize (d1.setIfInBounds (m+4+1) (Lib.sm (v / 100%100*2+1))).setIfInBounds (m+4) (Lib.sm (v / 100%100*2))=d2 at F2⊢
  have zd2:=F2.size
  refine ax ?_
  refine xgb [12] R13 b ?_
  refine ex ?_
  refine xvc rfl rfl rfl ⟨wr32 om,trivial⟩ ?_
  refine xek (ss:=[]) (a:=SM) rfl rfl (by kernel_rfl) rfl trivial trivial ⟨om,by rw[xtv];omega⟩ ?_
  refine ex ?_
  refine xek (ss:=[]) (a:=SM) rfl rfl (by kernel_rfl) rfl trivial trivial ⟨om,by rw[xtv];omega⟩ ?_
  refine xc3 rfl rfl rfl om om ?_
  refine xuh rfl rfl rfl ?_ (hlen:=?_)
  rotate_left
  ·rw[xqj];show _+1<=_;omega
  refine ex ?_
  refine xtt rfl rfl om om ?_
  refine xtc rfl rfl ?_ (hlen:=?_)
  rotate_left
  ·rw[xyx,xqj];show _+1<=_;omega
  rw[xtw (d:=d2) (j1:=m+2+1) (j2:=m+2) (b1:=Lib.sm (v / 100 / 100%100*2+1)) (b2:=Lib.sm (v / 100 / 100%100*2)) om om (xsv om) om om (xsv om)]
  have F3:=F2.step2' (k:=m+2)
  generalize (d2.setIfInBounds (m+2+1) (Lib.sm (v / 100 / 100%100*2+1))).setIfInBounds (m+2) (Lib.sm (v / 100 / 100%100*2))=d3 at F3⊢
  have zd3:=F3.size
  refine ax ?_
  refine xgb [12] R13 b ?_
  refine ex ?_
  refine xvc rfl rfl rfl ⟨wr32 om,trivial⟩ ?_
  refine xek (ss:=[]) (a:=SM) rfl rfl (by kernel_rfl) rfl trivial trivial ⟨om,by rw[xtv];omega⟩ ?_
  refine ex ?_
  refine xek (ss:=[]) (a:=SM) rfl rfl (by kernel_rfl) rfl trivial trivial ⟨om,by rw[xtv];omega⟩ ?_
  refine xc3 rfl rfl rfl om om ?_
  refine xuh rfl rfl rfl ?_ (hlen:=?_)
  rotate_left
  ·rw[xqj];show _+1<=_;omega
  refine ex ?_
  refine xtt rfl rfl om om ?_
  refine xtc rfl rfl ?_ (hlen:=?_)
  rotate_left
  ·rw[xyx,xqj];show _+1<=_;omega
  rw[xtw (d:=d3) (j1:=m+1) (j2:=m) (b1:=Lib.sm (v / 100 / 100 / 100%100*2+1)) (b2:=Lib.sm (v / 100 / 100 / 100%100*2)) om om (xsv om) om om (xsv om)]
  have F4:=F3.step2' (k:=m)
  generalize (d3.setIfInBounds (m+1) (Lib.sm (v / 100 / 100 / 100%100*2+1))).setIfInBounds (m) (Lib.sm (v / 100 / 100 / 100%100*2))=d4 at F4⊢
  have zd4:=F4.size
  refine ax ?_
  have e8:v / 100 / 100 / 100 / 100=v / 100000000:=om
  rw[e8]at F4
  exact xnq (IH _ _ _ (m':=m) om ⟨m,v / 100000000,d4,rfl,by rw[show((m:Nat):Int)=((m+8:Nat):Int)-8 by omega],rfl,rfl,om,F4⟩)
 have v7:=F.lt7 om
 refine ax ?_
 refine xdk (k':=.u32) ⟨_,underlying213⟩ underlying216 rfl (wr32 om) ?_
 refine ax ?_
 refine xgj (fun l' p' LL'=>∃(nd v:Nat)(d:Array UInt8),l'=[(0,none,.slice (some ⟨b,A.length,none⟩) nd0 c),(4,none,.int .i64 ((nd:Nat):Int)),(12,none,.int .u32 ((v:Nat):Int))]/\p'=p/\LL'=[[(b,.cells (A++(rowV d++Z)).toArray T (0,0))],C₀]/\nd<4/\Lib.FmtInv nd0 u nd v d) ?_ fun k' H=>?_
 ·rintro _ p _ ⟨nd,v,d,rfl,rfl,rfl,hnd,F⟩
  have zd:=F.size
  have le:=F.le
  have v7:=F.lt7 om
  refine ax ?_
  refine xgj (fun l' p' LL'=>∃(nd v:Nat)(d:Array UInt8),l'=[(0,none,.slice (some ⟨b,A.length,none⟩) nd0 c),(4,none,.int .i64 ((nd:Nat):Int)),(12,none,.int .u32 ((v:Nat):Int))]/\p'=p/\LL'=[[(b,.cells (A++(rowV d++Z)).toArray T (0,0))],C₀]/\nd<2/\Lib.FmtInv nd0 u nd v d) ?_ fun k' H=>?_
  ·rintro _ p _ ⟨nd,v,d,rfl,rfl,rfl,hnd,F⟩
   have zd:=F.size
   have le:=F.le
   refine cq (fun cc=>?_) (fun cc=>?_)
   ·obtain rfl:nd=1:=om
    have v9:v<10:=by simpa using F.small
    refine ax ?_
    refine xyv rfl rfl ⟨wr32 om,trivial⟩ ?_
    refine xdk (k':=.u8) ⟨_,underlying216⟩ underlying5 rfl (wr8 om) ?_
    refine xtt rfl rfl om om ?_
    refine xtc rfl rfl ?_ (hlen:=?_)
    rotate_left
    ·rw[xqj];show _+1<=_;omega
    rw[xjr (d:=d) (j:=0) (b:=UInt8.ofNat (48+v)) om om (by rw[u8n om];congr 1)]
    refine ax ?_
    exact xtb func341 rfl fun _ H_=>K _ _ ⟨_,⟨_,_,rfl,F.step1⟩,xwg H_⟩
   ·obtain rfl:nd=0:=om
    refine ax ?_
    exact xtb func341 rfl fun _ H_=>K _ _ ⟨_,⟨_,_,rfl,F⟩,xwg H_⟩
  ·refine xiq rfl (fun cc=>?_) (fun cc=>?_)
   ·obtain⟨m,rfl⟩:∃m,nd=m+2:=⟨nd-2,om⟩
    refine ax ?_
    refine xeh 100 rfl rfl rfl om ?_
    refine xyv rfl rfl ⟨wr32 om,trivial⟩ ?_
    refine ax ?_
    refine xfh 100 rfl rfl rfl om (wr32 om) ?_
    refine ax ?_
    refine xgb [12] R13 b ?_
    refine ex ?_
    refine xvc rfl rfl rfl ⟨wr32 om,trivial⟩ ?_
    refine xek (ss:=[]) (a:=SM) rfl rfl (by kernel_rfl) rfl trivial trivial ⟨om,by rw[xtv];omega⟩ ?_
    refine ex ?_
    refine xek (ss:=[]) (a:=SM) rfl rfl (by kernel_rfl) rfl trivial trivial ⟨om,by rw[xtv];omega⟩ ?_
    refine xc3 rfl rfl rfl om om ?_
    refine xuh rfl rfl rfl ?_ (hlen:=?_)
    rotate_left
    ·rw[xqj];show _+1<=_;omega
    refine ex ?_
    refine xtt rfl rfl om om ?_
    refine xtc rfl rfl ?_ (hlen:=?_)
    rotate_left
    ·rw[xyx,xqj];show _+1<=_;omega
    rw[xtw (d:=d) (j1:=m+1) (j2:=m) (b1:=Lib.sm (v%100*2+1)) (b2:=Lib.sm (v%100*2)) om om (xsv om) om om (xsv om)]
    have F1:=F.step2' (k:=m)
    generalize (d.setIfInBounds (m+1) (Lib.sm (v%100*2+1))).setIfInBounds (m) (Lib.sm (v%100*2))=d1 at F1⊢
    have zd1:=F1.size
    refine ax ?_
    exact xnq (H _ _ _ ⟨m,v / 100,d1,by rw[show((m:Nat):Int)=((m+2:Nat):Int)-2 by omega],rfl,rfl,om,F1⟩)
   ·refine ax ?_
    exact xnq (H _ _ _ ⟨nd,v,d,rfl,rfl,rfl,om,F⟩)
 ·refine xiq rfl (fun cc=>?_) (fun cc=>?_)
  ·obtain⟨m,rfl⟩:∃m,nd=m+4:=⟨nd-4,om⟩
   refine ax ?_
   refine xeh 10000 rfl rfl rfl om ?_
   refine ax ?_
   refine xfh 10000 rfl rfl rfl om (wr32 om) ?_
   refine ax ?_
   refine xfh 100 rfl rfl rfl om (wr32 om) ?_
   refine xyv rfl rfl ⟨wr32 om,trivial⟩ ?_
   refine ax ?_
   refine xeh 100 rfl rfl rfl om ?_
   refine xyv rfl rfl ⟨wr32 om,trivial⟩ ?_
   refine ax ?_
   refine xgb [12] R13 b ?_
   refine ex ?_
   refine xvc rfl rfl rfl ⟨wr32 om,trivial⟩ ?_
   refine xek (ss:=[]) (a:=SM) rfl rfl (by kernel_rfl) rfl trivial trivial ⟨om,by rw[xtv];omega⟩ ?_
   refine ex ?_
   refine xek (ss:=[]) (a:=SM) rfl rfl (by kernel_rfl) rfl trivial trivial ⟨om,by rw[xtv];omega⟩ ?_
   refine xc3 rfl rfl rfl om om ?_
   refine xuh rfl rfl rfl ?_ (hlen:=?_)
   rotate_left
   ·rw[xqj];show _+1<=_;omega
   refine ex ?_
   refine xtt rfl rfl om om ?_
   refine xtc rfl rfl ?_ (hlen:=?_)
   rotate_left
   ·rw[xyx,xqj];show _+1<=_;omega
   rw[xtw (d:=d) (j1:=m+2+1) (j2:=m+2) (b1:=Lib.sm (v%100*2+1)) (b2:=Lib.sm (v%100*2)) om om (xsv om) om om (xsv om)]
   have F1:=F.step2' (k:=m+2)
   generalize (d.setIfInBounds (m+2+1) (Lib.sm (v%100*2+1))).setIfInBounds (m+2) (Lib.sm (v%100*2))=d1 at F1⊢
   have zd1:=F1.size
   refine ax ?_
   refine xgb [12] R13 b ?_
   refine ex ?_
   refine xvc rfl rfl rfl ⟨wr32 om,trivial⟩ ?_
   refine xek (ss:=[]) (a:=SM) rfl rfl (by kernel_rfl) rfl trivial trivial ⟨om,by rw[xtv];omega⟩ ?_
   refine ex ?_
   refine xek (ss:=[]) (a:=SM) rfl rfl (by kernel_rfl) rfl trivial trivial ⟨om,by rw[xtv];omega⟩ ?_
   refine xc3 rfl rfl rfl om om ?_
   refine xuh rfl rfl rfl ?_ (hlen:=?_)
   rotate_left
   ·rw[xqj];show _+1<=_;omega
   refine ex ?_
   refine xtt rfl rfl om om ?_
   refine xtc rfl rfl ?_ (hlen:=?_)
   rotate_left
   ·rw[xyx,xqj];show _+1<=_;omega
   rw[xtw (d:=d1) (j1:=m+1) (j2:=m) (b1:=Lib.sm (v / 100%100*2+1)) (b2:=Lib.sm (v / 100%100*2)) om om (xsv om) om om (xsv om)]
   have F2:=F1.step2' (k:=m)
   generalize (d1.setIfInBounds (m+1) (Lib.sm (v / 100%100*2+1))).setIfInBounds (m) (Lib.sm (v / 100%100*2))=d2 at F2⊢
   have zd2:=F2.size
   refine ax ?_
   have e4:v / 100 / 100=v / 10000:=om
   rw[e4]at F2
   exact xnq (H _ _ _ ⟨m,v / 10000,d2,by rw[show((m:Nat):Int)=((m+4:Nat):Int)-4 by omega],rfl,rfl,om,F2⟩)
  ·refine ax ?_
   exact xnq (H _ _ _ ⟨nd,v,d,rfl,rfl,rfl,om,F⟩)
section
variable{tT:TypeId}{zT:Nat×Nat}
theorem c312(md:Md)(h:Heap)(p:PHeap)(hp:Per p h)(n:Int)(hn: -9223372036854775808<=n/\n<=9223372036854775807)(Z:p 7=some (.cells (Lib.pow10Tab.map (Value.int .u64)).toArray tT zT)):
 CallsX prog md 312 #[.int .i64 n,.int .i64 10] h fun v h'=>v=sv (txt n)/\Keep h h':=by
 refine xfq hp func312 fun _ _ _ K=>?_
 refine xiq rfl (fun _=>?_) (fun cc=>absurd rfl cc)
 refine cq (fun cc=>?_) (fun cc=>?_)
 ·obtain⟨x,rfl⟩:∃x:Nat,n=((x:Nat):Int):=⟨n.toNat,om⟩
  refine ax ?_
  refine xlq rfl rfl (fun _ pe=>c339 md _ _ pe x om) ?_
  refine ax ?_
  exact K.r rfl rfl fun _ H_=>⟨by rw[xe9];rfl,H_.kept⟩
 refine lq fun b5=>?_
 refine ax ?_
 have key:∀m:Nat,0<m->m<18446744073709551616->Lib.nDigits m<=20/\1<=Lib.nDigits m/\m<10^Lib.nDigits m:=fun m h0 h1=>by
  have hd:=Lib.numDigits_eq m h0 h1
  exact⟨by rw[<- hd.1];split<;>omega,Lib.nDigits_pos m,Lib.lt_pow_nDigits m⟩
 by_cases hneg:n<0
 ·obtain⟨m,rfl⟩:∃m:Nat,n= -((m:Nat):Int):=⟨n.natAbs,om⟩
  obtain⟨k1,k2,k3⟩:=key m om om
  refine xzn ((18446744073709551616-m:Nat):Int) rfl (by rw[ymv];omega) ?_ (hs:=⟨_,underlying2⟩)
  refine ax ?_
  refine xiq rfl (fun _=>?_) (fun cc=>absurd hneg cc)
  refine ax ?_
  refine yff (a:=18446744073709551616-m) rfl om ?_
  rw[show 18446744073709551616-(18446744073709551616-m)=m by omega]
  refine ax ?_
  refine xlq rfl rfl (fun _ pe=>c340 md _ _ pe m om Z) ?_
  refine ax ?_
  refine ycq (n:=24) (e:=5) (i:=1) (r:=1+Lib.nDigits m) rfl rfl rfl om om (by decide) (by kernel_rfl) ?_
  rw[show 1+Lib.nDigits m-1=Lib.nDigits m by omega]
  refine ax ?_
  refine xmr (LL':=[[(b5,.cells (List.replicate 1 (Value.int .u8 0)++(rowV (Array.replicate (Lib.nDigits m) 0)++List.replicate (24-1-Lib.nDigits m) (Value.int .u8 0))).toArray 357 (0,0))]]) ?_ (fun h s=>by rw[<- xys om];exact s)
  refine xyl [(b5,.cells (List.replicate 1 (Value.int .u8 0)++(rowV (Array.replicate (Lib.nDigits m) 0)++List.replicate (24-1-Lib.nDigits m) (Value.int .u8 0))).toArray 357 (0,0))] rfl rfl (fun h C s=>c341 md b5 (List.replicate 1 (Value.int .u8 0)) _ _ (24-1) (Lib.nDigits m) m _ ⟨by simp,k1,k3,om⟩ s) ?_
  rintro v _ ⟨w,d,rfl,F⟩
  refine ax ?_
  refine xiq rfl (fun _=>?_) (fun cc=>absurd hneg cc)
  refine ax ?_
  refine xi4 (len:=24) (e:=5) (i:=0) (by kernel_rfl) rfl rfl (by decide) ?_
  refine xtc rfl rfl ?_ (hlen:=?_)
  rotate_left
  ·show 0+0*1+1<=([_]++_:List Value).length
   simp
  refine ax ?_
  refine yeh (n:=24) (e:=5) (r:=1+Lib.nDigits m) rfl rfl om (by decide) (by kernel_rfl) ?_
  have el:1+Lib.nDigits m=(45::txtN m).length:=by rw[List.length_cons,xo1];omega
  rw[el]
  refine xy1 rfl (fun j v hj=>?_) ?_
  ·rw[xv5 F]
   rw[show(bcs (45::txtN m)).flatten=Value.int .u8 45::(bcs (txtN m)).flatten from rfl]at hj
   show(Value.int .u8 45::((bcs (txtN m)).flatten++_)).toArray[0+j]?=some v
   rw[Nat.zero_add,List.getElem?_toArray,<- List.cons_append,List.getElem?_append_left (List.getElem?_eq_some_iff.1 hj).1]
   exact hj
  refine ax ?_
  exact K.r rfl rfl fun _ H_=>⟨by rw[yng om];rfl,H_.kept⟩
 ·obtain⟨m,rfl⟩:∃m:Nat,n=((m:Nat):Int):=⟨n.toNat,om⟩
  obtain⟨k1,k2,k3⟩:=key m om om
  refine xzn ((m:Nat):Int) rfl (wrU0 om) ?_ (hs:=⟨_,underlying2⟩)
  refine ax ?_
  refine xiq rfl (fun cc=>absurd cc hneg) (fun _=>?_)
  refine ax ?_
  refine xlq rfl rfl (fun _ pe=>c340 md _ _ pe m om Z) ?_
  refine ax ?_
  refine ycq (n:=24) (e:=5) (i:=1) (r:=1+Lib.nDigits m) rfl rfl rfl om om (by decide) (by kernel_rfl) ?_
  rw[show 1+Lib.nDigits m-1=Lib.nDigits m by omega]
  refine ax ?_
  refine xmr (LL':=[[(b5,.cells (List.replicate 1 (Value.int .u8 0)++(rowV (Array.replicate (Lib.nDigits m) 0)++List.replicate (24-1-Lib.nDigits m) (Value.int .u8 0))).toArray 357 (0,0))]]) ?_ (fun h s=>by rw[<- xys om];exact s)
  refine xyl [(b5,.cells (List.replicate 1 (Value.int .u8 0)++(rowV (Array.replicate (Lib.nDigits m) 0)++List.replicate (24-1-Lib.nDigits m) (Value.int .u8 0))).toArray 357 (0,0))] rfl rfl (fun h C s=>c341 md b5 (List.replicate 1 (Value.int .u8 0)) _ _ (24-1) (Lib.nDigits m) m _ ⟨by simp,k1,k3,om⟩ s) ?_
  rintro v _ ⟨w,d,rfl,F⟩
  refine ax ?_
  refine xiq rfl (fun cc=>absurd cc hneg) (fun _=>?_)
  refine ax ?_
  refine ycq (n:=24) (e:=5) (i:=1) (r:=1+Lib.nDigits m) rfl rfl rfl om om (by decide) (by kernel_rfl) ?_
  rw[show 1+Lib.nDigits m-1=(txtN m).length by rw[xo1];omega]
  refine xy1 rfl (fun j v hj=>?_) ?_
  ·rw[xv5 F]
   show(Value.int .u8 0::((bcs (txtN m)).flatten++_)).toArray[0+1*1+j]?=some v
   rw[show 0+1*1+j=j+1 by omega,List.getElem?_toArray,List.getElem?_cons_succ,List.getElem?_append_left (List.getElem?_eq_some_iff.1 hj).1]
   exact hj
  refine ax ?_
  exact K.r rfl rfl fun _ H_=>⟨by rw[xe9];rfl,H_.kept⟩
theorem c281(md:Md)(h:Heap)(p:PHeap)(hp:Per p h)(n:Int)(hn: -9223372036854775808<=n/\n<=9223372036854775807)(Z:p 7=some (.cells (Lib.pow10Tab.map (Value.int .u64)).toArray tT zT)):
 CallsX prog md 281 #[.int .i64 n] h fun v h'=>v=sv (txt n)/\Keep h h':=by
 refine xfq hp func281 fun _ _ _ K=>?_
 refine xlq rfl rfl (fun _ pe=>c312 md _ _ pe n hn Z) ?_
 refine ax ?_
 exact K.r rfl rfl fun _ H_=>⟨rfl,H_.kept⟩
theorem c185(md:Md)(h:Heap)(p:PHeap)(hp:Per p h)(n:Int)(hn: -9223372036854775808<=n/\n<=9223372036854775807)(Z:p 7=some (.cells (Lib.pow10Tab.map (Value.int .u64)).toArray tT zT)):
 CallsX prog md 185 #[.int .i64 n] h fun v h'=>v=sv (txt n)/\Keep h h':=by
 refine xfq hp func185 fun _ _ _ K=>?_
 refine xlq rfl rfl (fun _ pe=>c281 md _ _ pe n hn Z) ?_
 refine ax ?_
 exact K.r rfl rfl fun _ H_=>⟨rfl,H_.kept⟩
end
end Go.Proofs.YtjcakmlipohaeaaGreatDoor
namespace Go.X
theorem yzs(z:Int):IntKind.u8.wrap z=z%256:=by simp[IntKind.wrap,IntKind.bits,IntKind.signed]
namespace Ms
theorem xub{b:Bool}{t:Str}{m:Nat}(h:numU b t=some m):numN 0 t=some m/\0<t.length/\t.length<=6:=by
 unfold numU at h
 split at h
 ·cases h
 ·rename_i hc
  exact⟨h,om,om⟩
theorem yjb{s:Str}{k:Int}(h:numR s=some k):0<s.length/\s.length<=7:=by
 unfold numR at h
 split at h
 ·obtain⟨m,h1,_⟩:=Option.map_eq_some_iff.1 h
  have:=xub h1
  rw[List.length_tail]at this
  omega
 ·obtain⟨m,h1,_⟩:=Option.map_eq_some_iff.1 h
  have:=xub h1
  omega
def Sp(s s':Str):Prop:=∀k,numR s=some k-> ∃m:Nat,numN 0 s'=some m/\k=if s.headD 0=45 then -(m:Int)else(m:Int)
theorem ybw{s:Str}(h:s.headD 0=45):Sp s (s.drop 1):=fun k hk=>by
 unfold numR at hk
 rw[if_pos h]at hk
 obtain⟨m,h1,h2⟩:=Option.map_eq_some_iff.1 hk
 exact⟨m,by rw[List.drop_one];exact(xub h1).1,by rw[if_pos h];exact h2.symm⟩
theorem yaw{s:Str}(h:¬ s.headD 0=45):Sp s s:=fun k hk=>by
 unfold numR at hk
 rw[if_neg h]at hk
 obtain⟨m,h1,h2⟩:=Option.map_eq_some_iff.1 hk
 exact⟨m,(xub h1).1,by rw[if_neg h];exact h2.symm⟩
theorem xy4{s:Str}(h:s.headD 0=43):numR s=none:=by
 cases s with
 |nil=>simp at h
 |cons c t=>
   simp at h
   subst h
   unfold numR
   rw[if_neg (by simp)]
   have:numU false (43::t)=none:=by
    unfold numU
    split
    ·rfl
    ·unfold numN;rfl
   rw[this];rfl
theorem ybz{acc:Nat}{s:Str}{j:Nat}(h:j<s.length):numN acc (s.drop j)=if isDig (s.getD j 0)then numN (10*acc+((s.getD j 0).toNat-48)) (s.drop (j+1))else none:=by
 rw[List.drop_eq_getElem_cons h,numN,List.getD_eq_getElem?_getD,List.getElem?_eq_getElem h];rfl
theorem ywz{c:UInt8}:isDig c=true<->48<=c.toNat/\c.toNat<=57:=by unfold isDig;simp
end Ms
end Go.X
namespace Go.Proofs.YtjcakmlipohaeaaGreatDoor
open Go.Proofs.Tryz
open Go.X Go.X.Ms Go.Conc
def pairE(v:Value):Prop:=∃(n:Int)(e:Value),v=.tuple #[.int .i64 n,e]/\(-9223372036854775808<=n/\n<=9223372036854775807)/\isE e
set_option maxHeartbeats 1000000 in
theorem c344(md:Md)(h:Heap)(p:PHeap)(hp:Per p h)(s:Str)(hs:s.length<=900):
 CallsX prog md 344 #[sv s,.int .i64 10,.int .i64 0] h fun v h'=>LastR p h (fun v _=>pairE v) v h':=by
 have out:∀{h_:Heap}{p':PHeap}{L:Pcs}(n:Int)(e:Value),St h [] p' h_ L->PG h.size [] p p'->(-9223372036854775808<=n/\n<=9223372036854775807)->isE e->LastR p h (fun v _=>pairE v) (.tuple #[.int .i64 n,e]) h_:=fun n e H g hn he=>xzx H g ⟨n,e,rfl,hn,he⟩
 refine xfq hp func344 fun _ _ _ K=>?_
 refine xiq rfl (fun cc=>?_) (fun cc=>?_)
 ·refine ax ?_
  refine xib rfl rfl trivial underlying362 ?_
  refine ax ?_
  exact K.r rfl rfl fun h_ H_=>(out 0 (eV 2) H_ (.refl _ _ _) (by decide) (.inr (.inr rfl)))
 have hpos:0<s.length:=by cases s with|nil=>exact absurd rfl cc|cons a t=>simp
 refine ax ?_
 refine xxc rfl rfl rfl trivial trivial ⟨by decide,om⟩ ?_
 refine ax ?_
 refine xgj (fun l' p_ L_=>∃(s':Str)(q:Bool),l'=[(0,none,sv s'),(1,none,.int .i64 10),(2,none,.int .i64 0),(8,none,.bool q)]/\p_=p/\L_=[]/\s'.length<=900) ?_ fun k' H=>?_
 ·rintro _ p _ ⟨s',q,rfl,rfl,rfl,hs'⟩
  refine ax ?_
  refine xrz rfl rfl (fun h pe=>c361 md h _ pe s' hs') ?_
  rintro _ p' g ⟨n,e,rfl,hn,he⟩
  refine ax ?_
  rcases he with rfl|rfl|rfl<;>
  ·refine xa2 rfl rfl trivial (by simp) underlying317 ?_
   refine ax ?_
   refine xib rfl rfl sdu underlying362 ?_
   first
    |refine ygh rfl rfl rfl sdu sdu underlying317 (by kernel_rfl) underlying362 ?_
    |refine xkg (.bool false) rfl ?_
   refine cq (fun cd=>?_) (fun cd=>?_)
   ·first
     |(simp[isNilI]at cd;done)
     |(refine ax ?_
       exact K.r rfl rfl fun h_ H_=>(out 0 (eV 2) H_ g (by decide) (.inr (.inr rfl))))
   ·first
     |(simp[isNilI]at cd;done)
     |(refine ax ?_
       refine xiq rfl (fun _=>?_) (fun cc=>absurd (by decide) cc)
       refine ax ?_
       refine xdk (k':=.u64) ⟨_,underlying3⟩ underlying132 rfl (by decide) ?_
       refine ydf (s:=63) (w:=9223372036854775808) rfl rfl (by decide) ?_
       refine cq (fun ce=>?_) (fun ce=>?_)
       ·refine ax ?_
        refine xzn (k':=.i64) 9223372036854775807 rfl (by decide) ?_ (hs:=⟨_,underlying213⟩)
        refine xib rfl rfl trivial underlying362 ?_
        refine ax ?_
        exact K.r rfl rfl fun h_ H_=>(out 9223372036854775807 (eV 1) H_ g (by decide) (.inr (.inl rfl)))
       refine cq (fun cf=>?_) (fun cf=>?_)
       ·refine ax ?_
        refine xzn (k':=.i64) (-9223372036854775808) rfl (by decide) ?_ (hs:=⟨_,underlying213⟩)
        refine xg4 (-9223372036854775808) rfl (by decide) ?_
        refine xib rfl rfl trivial underlying362 ?_
        refine ax ?_
        exact K.r rfl rfl fun h_ H_=>(out (-9223372036854775808) (eV 1) H_ g (by decide) (.inr (.inl rfl)))
       refine ax ?_
       refine xzn (IntKind.i64.wrap ((n:Nat):Int)) rfl rfl ?_ (hs:=⟨_,underlying213⟩)
       refine cq (fun cf=>?_) (fun cf=>?_)
       ·refine ax ?_
        refine xg4 (IntKind.i64.wrap (0-IntKind.i64.wrap ((n:Nat):Int))) rfl rfl ?_
        refine ax ?_
        exact K.r rfl rfl fun h_ H_=>(out _ .nilIface H_ g (wrap64 _) (.inl rfl))
       refine ax ?_
       exact K.r rfl rfl fun h_ H_=>(out _ .nilIface H_ g (wrap64 _) (.inl rfl)))
 ·refine xiq rfl (fun cd=>?_) (fun cd=>?_)
  ·refine ax ?_
   refine xbf (j:=1) rfl rfl rfl trivial trivial hpos ?_
   refine ax ?_
   exact xnq (H _ _ _ ⟨s.drop 1,false,rfl,rfl,rfl,by rw[List.length_drop];omega⟩)
  refine cq (fun ce=>?_) (fun ce=>?_)
  ·refine ax ?_
   refine xbf (j:=1) rfl rfl rfl trivial trivial hpos ?_
   refine ax ?_
   exact xnq (H _ _ _ ⟨s.drop 1,true,rfl,rfl,rfl,by rw[List.length_drop];omega⟩)
  ·refine ax ?_
   exact xnq (H _ _ _ ⟨s,false,rfl,rfl,rfl,hs⟩)
def pairS(s:Str)(v:Value):Prop:=∃(n:Int)(e:Value),v=.tuple #[.int .i64 n,e]/\(-9223372036854775808<=n/\n<=9223372036854775807)/\isE e/\ ∀k,numR s=some k->n=k/\e=.nilIface
set_option maxHeartbeats 1000000 in
theorem c314(md:Md)(h:Heap)(p:PHeap)(hp:Per p h)(s:Str)(hs:s.length<=900):
 CallsX prog md 314 #[sv s] h fun v h'=>LastR p h (fun v _=>pairS s v) v h':=by
 have out:∀{h_:Heap}{p':PHeap}{L:Pcs}(n:Int)(e:Value),St h [] p' h_ L->PG h.size [] p p'->(-9223372036854775808<=n/\n<=9223372036854775807)->isE e->(∀k,numR s=some k->n=k/\e=.nilIface)->LastR p h (fun v _=>pairS s v) (.tuple #[.int .i64 n,e]) h_:=fun n e H g hn he hk=>xzx H g ⟨n,e,rfl,hn,he,hk⟩
 refine xfq hp func314 fun _ _ _ K=>?_
 refine xiq rfl (fun cc=>?_) (fun cc=>?_)
 ·have hl:0<s.length/\s.length<19:=by simp at cc;omega
  refine ax ?_
  refine xxc rfl rfl rfl trivial trivial ⟨by decide,om⟩ ?_
  refine ax ?_
  refine xxc rfl rfl rfl sdu sdu (fun _=>⟨by decide,om⟩) ?_
  refine ax ?_
  have h0:(s.getD (Int.toNat 0) 0).toNat=(s.headD 0).toNat:=by cases s<;>rfl
  rw[h0]
  have e45:((((s.headD 0).toNat:Nat):Int)=45)<->s.headD 0=45:=by
   constructor
   ·intro z;exact UInt8.toNat_inj.1 (by show _=45;omega)
   ·intro z;rw[z];rfl
  have e43:((((s.headD 0).toNat:Nat):Int)=43)<->s.headD 0=43:=by
   constructor
   ·intro z;exact UInt8.toNat_inj.1 (by show _=43;omega)
   ·intro z;rw[z];rfl
  refine xgj (fun l' p_ L_=>∃s':Str,l'=[(0,none,sv s'),(5,none,sv s)]/\p_=p/\L_=[]/\0<s'.length/\s'.length<=18/\Sp s s') ?_ fun k' H=>?_
  ·rintro _ p _ ⟨s',rfl,rfl,rfl,hp1,hp2,hsp⟩
   refine ax ?_
   refine yop rfl hp1 underlying9 underlying5 fun p' c cap g S hcap=>?_
   have S1:Sl p' c s'.length 1 (bcs s'):=S
   refine ax ?_
   refine xbz (fun m_ l=>∃j acc:Nat,m_=s'.length-j/\l=[(5,none,sv s),(6,none,.int .i64 ((acc:Nat):Int)),(47,none,.slice c s'.length cap),(48,none,.int .i64 ((s'.length:Nat):Int)),(49,none,.int .i64 ((j:Nat):Int))]/\j<=s'.length/\acc<10^j/\numN 0 s'=numN acc (s'.drop j)) ⟨0,0,rfl,rfl,Nat.zero_le _,by decide,rfl⟩ sb ?_
   rintro _ _ IH ⟨j,acc,rfl,rfl,hj,hacc,hN⟩
   refine cq (fun cd=>?_) (fun cd=>?_)
   ·have hjl:j<s'.length:=om
    have hpw:10^j<=10^17:=Nat.pow_le_pow_right (by decide) om
    have h17:(10:Nat)^17=100000000000000000:=by decide
    rw[ybz hjl]at hN
    refine ax ?_
    refine xvk rfl (Byts.get S hjl) ?_
    have hb8:(s'.getD j 0).toNat<256:=(s'.getD j 0).toNat_lt
    have hdg:=ywz (c:=s'.getD j 0)
    generalize s'.getD j 0=b at hb8 hdg hN⊢
    refine ax ?_
    refine ycf (((b.toNat+208)%256:Nat):Int) rfl rfl (by rw[yzs];omega) ?_
    refine cq (fun ce=>?_) (fun ce=>?_)
    ·have hno:isDig b=false:=by rw[Bool.eq_false_iff];intro z;have:=hdg.1 z;omega
     rw[hno]at hN
     refine ax ?_
     refine xib rfl rfl trivial underlying362 ?_
     refine ax ?_
     exact K.r rfl rfl fun h_ H_=>(out 0 (eV 2) H_ g (by decide) (.inr (.inr rfl)) fun k hk=>by
      obtain⟨m,h1,_⟩:=hsp k hk
      rw[hN]at h1;cases h1)
    have hd:48<=b.toNat/\b.toNat<=57:=om
    rw[hdg.2 hd,if_pos rfl]at hN
    refine ax ?_
    refine xdk (k':=.i64) ⟨_,underlying5⟩ underlying3 rfl (wrZ om) ?_
    refine ax ?_
    exact xnq (IH _ om ⟨j+1,10*acc+(b.toNat-48),rfl,by rw[show(((10*acc+(b.toNat-48):Nat)):Int)=((acc:Nat):Int)*10+(((b.toNat+208)%256:Nat):Int) by omega],om,by rw[Nat.pow_succ];omega,hN⟩)
   have hjl:j=s'.length:=om
   have hpw:10^j<=10^18:=Nat.pow_le_pow_right (by decide) om
   have h18:(10:Nat)^18=1000000000000000000:=by decide
   rw[hjl,List.drop_length,numN]at hN
   refine ax ?_
   refine xxc rfl rfl rfl trivial trivial ⟨by decide,om⟩ ?_
   rw[h0]
   refine cq (fun ce=>?_) (fun ce=>?_)
   ·refine ax ?_
    refine xg4 (-((acc:Nat):Int)) rfl (by rw[wrZ om];omega) ?_
    refine ax ?_
    exact K.r rfl rfl fun h_ H_=>(out _ .nilIface H_ g om (.inl rfl) fun k hk=>by
     obtain⟨m,h1,h2⟩:=hsp k hk
     rw[hN]at h1;cases h1
     rw[if_pos (e45.1 ce)]at h2
     exact⟨h2.symm,rfl⟩)
   ·refine ax ?_
    exact K.r rfl rfl fun h_ H_=>(out _ .nilIface H_ g om (.inl rfl) fun k hk=>by
     obtain⟨m,h1,h2⟩:=hsp k hk
     rw[hN]at h1;cases h1
     rw[if_neg (fun z=>ce (e45.2 z))]at h2
     exact⟨h2.symm,rfl⟩)
  ·refine xiq rfl (fun cd=>?_) (fun cd=>?_)
   ·refine ax ?_
    refine xbf (j:=1) rfl rfl rfl trivial trivial hl.1 ?_
    refine cq (fun ce=>?_) (fun ce=>?_)
    ·rw[List.length_drop]at ce
     refine ax ?_
     refine xib rfl rfl trivial underlying362 ?_
     refine ax ?_
     exact K.r rfl rfl fun h_ H_=>(out 0 (eV 2) H_ (.refl _ _ _) (by decide) (.inr (.inr rfl)) fun k hk=>by
      exfalso
      rcases cd with cd|cd
      ·obtain⟨m,h1,_⟩:=Option.map_eq_some_iff.1 (show(numU true s.tail).map (fun n:Nat=>-(n:Int))=some k by unfold numR at hk;rwa[if_pos (e45.1 cd)]at hk)
       have:=(xub h1).2.1
       rw[List.length_tail]at this
       omega
      ·rw[xy4 (e43.1 cd)]at hk;cases hk)
    ·rw[List.length_drop]at ce
     refine ax ?_
     exact xnq (H _ _ _ ⟨s.drop 1,rfl,rfl,rfl,by rw[List.length_drop];omega,by rw[List.length_drop];omega,by
      rcases cd with cd|cd
      ·exact ybw (e45.1 cd)
      ·intro k hk;rw[xy4 (e43.1 cd)]at hk;cases hk⟩)
   ·refine ax ?_
    exact xnq (H _ _ _ ⟨s,rfl,rfl,rfl,hl.1,om,yaw fun z=>cd (.inl (e45.2 z))⟩)
 ·have hl:¬ (0<s.length/\s.length<19):=fun z=>cc (by simp;omega)
  refine ax ?_
  refine xrz rfl rfl (fun h pe=>c344 md h _ pe s hs) ?_
  rintro _ p' g ⟨n,e,rfl,hn,he⟩
  refine ax ?_
  exact K.r rfl rfl fun h_ H_=>(out n e H_ g hn he fun k hk=>absurd (yjb hk) om)
end Go.Proofs.YtjcakmlipohaeaaGreatDoor
namespace Go.X.Ms
theorem xp3{n:Int}:(trimM (txt n)).length<=6<-> -999999<=n/\n<=999999:=by
 have e:trimM (txt n)=txtN n.natAbs:=by
  unfold trimM txt
  by_cases c:n<0
  ·rw[if_pos c];simp
  ·rw[if_neg c,if_neg]
   intro z
   cases e:txtN n.natAbs with
   |nil=>rw[e]at z;simp at z
   |cons d t=>
     have:=xdc d (by rw[e];simp)
     rw[e]at z
     simp at z
     subst z
     exact absurd this (by decide)
 rw[e]
 constructor
 ·intro z
  rcases Nat.lt_or_ge n.natAbs 1000000 with y|y
  ·omega
  ·have:=xqw (k:=6) (n:=n.natAbs) y
   omega
 ·intro z
  exact xyz (k:=5) om
theorem ygx{s:Str}{n:Int}(h:∀k,numR s=some k->n=k):(txt n=s/\(trimM s).length<=6)<->(numR s).isSome=true:=by
 constructor
 ·rintro⟨e,hl⟩
  subst e
  rw[xzr (xp3.1 hl)];rfl
 ·intro z
  obtain⟨k,hk⟩:=Option.isSome_iff_exists.1 z
  obtain rfl:=h k hk
  have y:=ykb hk
  refine⟨y.1.symm,?_⟩
  rw[y.1]
  exact xp3.2 ⟨om,om⟩
def clearS(s:Str):Bool:=(numR s).isSome||isLet s
end Go.X.Ms
namespace Go.Proofs.YtjcakmlipohaeaaGreatDoor
open Go.Proofs.Tryz
open Go.X Go.X.Ms Go.Conc
section
variable{te tr:TypeId}{ue ur:Value}{tE tR tT:TypeId}{zE zR zT:Nat×Nat}
theorem c287(md:Md)(h:Heap)(p:PHeap)(hp:Per p h)(s:Str)(hs:s.length<=900)(E:p 8=some (.cells #[.iface te ue] tE zE))(R:p 9=some (.cells #[.iface tr ur] tR zR)):
 CallsX prog md 287 #[sv s] h fun v h'=>(∃(n:Int)(e:Value),v=.tuple #[.int .i64 n,e]/\(-9223372036854775808<=n/\n<=9223372036854775807)/\(e=.nilIface\/ ∃t u,e=.iface t u)/\ ∀k,numR s=some k->n=k/\e=.nilIface)/\Keep h h':=by
 refine xfq hp func287 fun _ _ _ K=>?_
 refine xxl rfl rfl (fun h pe=>(c314 md h _ pe s hs).mono fun _ _ x=>x.keep) ?_
 rintro _ ⟨_,n,e,rfl,hn,he,hk⟩
 refine ax ?_
 have err:∀i:Int,i=1\/i=2->e=eV i-> ∀k,numR s=some k->False:=fun i _ ei k hks=>by have:=(hk k hks).2;rw[ei]at this;cases this
 rcases he with rfl|rfl|rfl
 ·refine xa2 rfl rfl trivial (.inl rfl) underlying317 ?_
  refine ax ?_
  refine xiq rfl (fun cd=>absurd rfl cd) (fun _=>?_)
  refine ax ?_
  exact K.r rfl rfl fun _ H_=>⟨⟨n,_,rfl,hn,.inl rfl,hk⟩,H_.kept⟩
 all_goals
  refine xa2 rfl rfl trivial (.inr ⟨_,_,rfl⟩) underlying317 ?_
  refine ax ?_
  refine xiq rfl (fun _=>?_) (fun cd=>absurd (fun z=>by cases z) cd)
  refine ax ?_
 ·refine xxl rfl rfl (fun h pe=>(c315 md h _ pe _ s hs 1 (.inl rfl) E R).mono fun _ _ x=>x.keep) ?_
  rintro _ ⟨_,t,u,rfl⟩
  refine ax ?_
  exact K.r rfl rfl fun _ H_=>⟨⟨n,_,rfl,hn,.inr ⟨t,u,rfl⟩,fun k hks=>(err 1 (.inl rfl) rfl k hks).elim⟩,H_.kept⟩
 ·refine xxl rfl rfl (fun h pe=>(c315 md h _ pe _ s hs 2 (.inr rfl) E R).mono fun _ _ x=>x.keep) ?_
  rintro _ ⟨_,t,u,rfl⟩
  refine ax ?_
  exact K.r rfl rfl fun _ H_=>⟨⟨n,_,rfl,hn,.inr ⟨t,u,rfl⟩,fun k hks=>(err 2 (.inr rfl) rfl k hks).elim⟩,H_.kept⟩
theorem c220(md:Md)(h:Heap)(p:PHeap)(hp:Per p h)(s:Str)(hs:s.length<=900)(E:p 8=some (.cells #[.iface te ue] tE zE))(R:p 9=some (.cells #[.iface tr ur] tR zR))(Z:p 7=some (.cells (Lib.pow10Tab.map (Value.int .u64)).toArray tT zT)):
 CallsX prog md 220 #[sv s] h fun v h'=>(∃n:Int,v=.tuple #[.int .i64 n,.bool (numR s).isSome]/\ ∀k,numR s=some k->n=k)/\Keep h h':=by
 refine xfq hp func220 fun _ _ _ K=>?_
 refine xxl rfl rfl (fun h pe=>c287 md h _ pe s hs E R) ?_
 rintro _ ⟨n,e,rfl,hn,he,hk⟩
 refine ax ?_
 refine yqh rfl rfl trivial he underlying317 ?_
 refine ax ?_
 refine xvq rfl rfl rfl sdu (fun _ _ pe=>c185 md _ _ pe n hn Z) ?_
 refine ax ?_
 refine xvq rfl rfl rfl sdu (fun _ _ pe=>c288 md _ _ pe s) ?_
 refine ax ?_
 have e2:(isNilI e&&decide (txt n=s)&&decide ((((trimM s).length:Nat):Int)<=6))=(numR s).isSome:=by
  rw[Bool.eq_iff_iff,<- ygx (s:=s) (n:=n) fun k hks=>(hk k hks).1]
  rcases he with rfl|⟨t,u,rfl⟩
  ·simp[isNilI];intro _;omega
  ·have:(numR s).isSome=false:=by
    cases hn:numR s with
    |none=>rfl
    |some k=>exact absurd (hk k hn).2 (by intro z;cases z)
   have hno:¬ (txt n=s/\(trimM s).length<=6):=fun z=>by rw[(ygx (s:=s) (n:=n) fun k hks=>(hk k hks).1).1 z]at this;cases this
   simp[isNilI]
   intro z
   exact Nat.not_le.1 fun y=>hno ⟨z,y⟩
 exact K.r rfl rfl fun _ H_=>⟨⟨n,by rw[<- e2];rfl,fun k hks=>(hk k hks).1⟩,H_.kept⟩
theorem c122(md:Md)(h:Heap)(p:PHeap)(hp:Per p h)(a:Option Addr)(n c:Nat)(xs:List Str)(S:Strs p a n xs)(hn:n<=2^20)(hs:∀s∈xs,s.length<=900)(E:p 8=some (.cells #[.iface te ue] tE zE))(R:p 9=some (.cells #[.iface tr ur] tR zR))(Z:p 7=some (.cells (Lib.pow10Tab.map (Value.int .u64)).toArray tT zT)):
 CallsX prog md 122 #[.slice a n c] h fun v h'=>v=.bool (xs.all clearS)/\Keep h h':=by
 have hl:=S.len
 have S1:Sl p a n 1 (scs xs):=S
 refine xfq hp func122 fun _ _ _ K=>?_
 refine xbz (fun m_ l=>∃j:Nat,m_=n-j/\l=[(7,none,.slice a n c),(8,none,.int .i64 ((n:Nat):Int)),(9,none,.int .i64 ((j:Nat):Int))]/\j<=n/\ ∀i,i<j->clearS (xs.getD i [])=true) ⟨0,rfl,rfl,Nat.zero_le _,om⟩ sb ?_
 rintro _ _ IH ⟨j,rfl,rfl,hj,hq⟩
 refine cq (fun cd=>?_) (fun cd=>?_)
 ·have hjl:j<n:=om
  have hm:xs.getD j []∈xs:=by rw[List.getD_eq_getElem?_getD,List.getElem?_eq_getElem om];exact List.getElem_mem _
  refine ax ?_
  refine xvk rfl (Strs.get S hjl) ?_
  refine ax ?_
  refine xxl rfl rfl (fun h pe=>c220 md h _ pe _ (hs _ hm) E R Z) ?_
  rintro _ ⟨m,rfl,_⟩
  refine ax ?_
  refine xvq rfl rfl rfl sdu (fun _ _ pe=>c119 md _ _ pe (xs.getD j [])) ?_
  refine cq (fun ce=>?_) (fun ce=>?_)
  ·have hno:clearS (xs.getD j [])=false:=by
    unfold clearS
    cases e1:(numR (xs.getD j [])).isSome<;>cases e2:isLet (xs.getD j [])<;>simp_all
   refine ax ?_
   exact K.r rfl rfl fun _ H_=>⟨by
    rw[show xs.all clearS=false from by rw[List.all_eq_false];exact⟨_,hm,by rw[hno];simp⟩];rfl,H_.kept⟩
  ·have hyes:clearS (xs.getD j [])=true:=by
    unfold clearS
    cases e1:(numR (xs.getD j [])).isSome<;>cases e2:isLet (xs.getD j [])<;>simp_all
   refine ax ?_
   exact xnq (IH _ om ⟨j+1,rfl,rfl,om,fun i hi=>by
    rcases Nat.lt_or_ge i j with z|z
    ·exact hq i z
    ·obtain rfl:i=j:=om
     exact hyes⟩)
 refine ax ?_
 exact K.r rfl rfl fun _ H_=>⟨by
  rw[show xs.all clearS=true from by
   rw[List.all_eq_true]
   intro x hx
   obtain⟨i,hi,rfl⟩:=List.mem_iff_getElem.1 hx
   have:=hq i om
   rwa[List.getD_eq_getElem?_getD,List.getElem?_eq_getElem hi]at this];rfl,H_.kept⟩
end
end Go.Proofs.YtjcakmlipohaeaaGreatDoor
