/-
  Part of proofs about a town's master: a calculus for Be beside goroutines that are only leaving, and the Be. No condition.
-/
import Derived.Test.YtblcmdjhidhnjaaGreatDoorGE
import Derived.Test.YtblcmdjhidhnjaaGreatDoorGI
import Derived.Lib.ItoaNum
import Derived.Lib.Bytealg
set_option maxRecDepth 20000
set_option synthInstance.maxSize 2000
namespace Go.X.Ms
abbrev Str:=List UInt8
def Ad:Str->List Str
 |[]=>[[]]
 |c::s=>if c=32 then []::Ad s else((c::(Ad s).headD [])::(Ad s).tail)
theorem xoj:∀s,Ad s≠[]
 |[]=>by simp[Ad]
 |c::s=>by unfold Ad;split<;>simp
def Dk(n:Nat):Str:=if n<10 then [UInt8.ofNat (48+n)]else Dk (n / 10)++[UInt8.ofNat (48+n%10)]
termination_by n
decreasing_by omega
def txt(n:Int):Str:=if n<0 then 45::Dk n.natAbs else Dk n.natAbs
def Ep(c:UInt8):Bool:=decide (48<=c.toNat/\c.toNat<=57)
def isLet(s:Str):Bool:=match s with
 |[c]=>decide (97<=c.toNat/\c.toNat<=122)
 |_=>false
def Ev:Nat->Str->Option Nat
 |acc,[]=>some acc
 |acc,c::s=>if Ep c then Ev (10*acc+(c.toNat-48)) s else none
def Hz(H:Bool)(t:Str):Option Nat:=if t.length<1\/6<t.length\/(t.headD 0=48/\(1<t.length\/H=true))then none else Ev 0 t
def C8(s:Str):Option Int:=if s.headD 0=45 then(Hz true s.tail).map (fun n:Nat=>-(n:Int))else(Hz false s).map (fun n:Nat=>(n:Int))
theorem u8n{n:Nat}(h:n<256):(UInt8.ofNat n).toNat=n:=by simp[UInt8.toNat_ofNat'];omega
theorem xuj{n:Nat}(h:n<10):Dk n=[UInt8.ofNat (48+n)]:=by rw[Dk,if_pos h]
theorem xov{n:Nat}(h:10<=n):Dk n=Dk (n / 10)++[UInt8.ofNat (48+n%10)]:=by rw[Dk,if_neg om]
theorem xl4:∀{s t:Str}{acc m:Nat},Ev acc s=some m->Ev acc (s++t)=Ev m t
 |[],t,acc,m,h=>by cases h;rfl
 |c::s,t,acc,m,h=>by
   unfold Ev at h;rw[List.cons_append,Ev];split at h
   ·rename_i hc;rw[if_pos hc];exact xl4 h
   ·cases h
theorem xq5{n:Nat}(h:n<10):Ep (UInt8.ofNat (48+n))=true/\(UInt8.ofNat (48+n)).toNat-48=n:=by
 have e:=u8n (n:=48+n) om;unfold Ep;rw[e];exact⟨by simp;omega,om⟩
theorem ydw(n:Nat):Ev 0 (Dk n)=some n:=by
 induction n using Nat.strongRecOn with
 |_ n ih=>
   by_cases h:n<10
   ·have:=xq5 h;rw[xuj h,Ev,if_pos this.1,Ev,this.2];simp
   ·have:=xq5 (n:=n%10) om;rw[xov om,xl4 (ih (n / 10) om),Ev,if_pos this.1,Ev,this.2];congr 1;omega
theorem xfh(n:Nat):1<=(Dk n).length:=by
 by_cases h:n<10
 ·rw[xuj h];simp
 ·rw[xov om];simp
theorem xbj:∀{k n:Nat},n<10^(k+1)->(Dk n).length<=k+1
 |0,n,h=>by rw[xuj om];simp
 |k+1,n,h=>by
   by_cases c:n<10
   ·rw[xuj c];simp
   ·have:=xbj (k:=k) (n:=n / 10) (by rw[Nat.pow_succ]at h;omega);rw[xov om];simp;omega
theorem xxw:∀{k n:Nat},10^k<=n->k+1<=(Dk n).length
 |0,n,h=>xfh n
 |k+1,n,h=>by
   have H:10<=n:=by
    have:10^1<=10^(k+1):=Nat.pow_le_pow_right om om;omega
   have:=xxw (k:=k) (n:=n / 10) (by rw[Nat.pow_succ]at h;omega);rw[xov H];simp;omega
theorem xi8:∀{n:Nat},0<n-> ∃c t,Dk n=c::t/\49<=c.toNat/\c.toNat<=57:=fun{n}=>by
 induction n using Nat.strongRecOn with
 |_ n ih=>
   intro M;by_cases h:n<10
   ·exact⟨_,[],xuj h,by rw[u8n om];omega,by rw[u8n om];omega⟩
   ·obtain⟨c,t,e,H⟩:=ih (n / 10) om om;exact⟨c,t++[UInt8.ofNat (48+n%10)],by rw[xov om,e];rfl,H⟩
theorem xlp:∀{n:Nat},∀c∈Dk n,Ep c=true:=fun{n}=>by
 induction n using Nat.strongRecOn with
 |_ n ih=>
   by_cases h:n<10
   ·rw[xuj h];intro c hc;rw[List.mem_singleton.1 hc];exact(xq5 h).1
   ·rw[xov om];intro c hc;rcases List.mem_append.1 hc with hc|hc
    ·exact ih (n / 10) om c hc
    ·rw[List.mem_singleton.1 hc];exact(xq5 om).1
theorem xx2{c:UInt8}(h:c.toNat=48):c=48:=UInt8.toNat_inj.1 (by rw[h];rfl)
theorem xhs:Dk 0=[48]:=by rw[xuj om];rfl
theorem xi4{n:Nat}{b:Bool}(h:n<=999999)(M:b=true->0<n):Hz b (Dk n)=some n:=by
 unfold Hz;rw[if_neg,ydw];have V:=xfh n;have O:=xbj (k:=5) (n:=n) om;rintro(z|z|⟨z,w⟩)
 ·omega
 ·omega
 ·by_cases c:n=0
  ·subst c;rw[xhs]at w;rcases w with w|w
   ·simp at w
   ·exact absurd (M w) om
  ·obtain⟨d,t,e,H,_⟩:=xi8 (n:=n) om;rw[e]at z;simp at z;rw[z]at H;exact absurd H d_
theorem yaw{n:Int}(h: -999999<=n/\n<=999999):C8 (txt n)=some n:=by
 unfold C8 txt;by_cases c:n<0
 ·rw[if_pos c];simp only[List.headD_cons,if_true,List.tail_cons];rw[xi4 om (fun _=>om)];simp;omega
 ·rw[if_neg c,if_neg,xi4 om (fun z=>by cases z)]
  ·simp;omega
  ·intro z;cases e:Dk n.natAbs with
   |nil=>have:=xfh n.natAbs;rw[e]at this;simp at this
   |cons d t=>
     have:=xlp d (by rw[e];simp);rw[e]at z;simp at z;subst z;exact absurd this d_
theorem xk4:∀{s:Str}{acc m:Nat},Ev acc s=some m->(0<acc->Dk m=Dk acc++s)/\acc<=m
 |[],acc,m,h=>by cases h;simp
 |c::s,acc,m,h=>by
   unfold Ev at h;split at h
   ·rename_i hc;have H:=xk4 h;unfold Ep at hc;simp only[decide_eq_true_eq]at hc;refine⟨fun M=>?_,om⟩;rw[H.1 om,xov (n:=10*acc+(c.toNat-48)) om,show(10*acc+(c.toNat-48)) / 10=acc by omega,show(10*acc+(c.toNat-48))%10=c.toNat-48 by omega];have:UInt8.ofNat (48+(c.toNat-48))=c:=UInt8.toNat_inj.1 (by rw[u8n om];omega);rw[this,List.append_assoc];rfl
   ·cases h
theorem xj4{b:Bool}{t:Str}{n:Nat}(h:Hz b t=some n):t=Dk n/\n<=999999/\(b=true->0<n):=by
 unfold Hz at h;split at h
 ·cases h
 ·rename_i hc;simp only[not_or,not_and]at hc;obtain⟨h1,h2,V⟩:=hc;have key:t=Dk n/\(b=true->0<n):=by
   cases t with
   |nil=>simp at h1
   |cons c t=>
     unfold Ev at h;split at h
     ·rename_i M;unfold Ep at M;simp only[decide_eq_true_eq]at M;by_cases z:c.toNat=48
      ·have H:=xx2 z;have O:=V (by simpa using H);have:t=[]:=by
        have:=O.1;simp at this;exact List.eq_nil_of_length_eq_zero (by simp;omega)
       subst this;cases h;subst H;exact⟨by rw[show 10*0+(UInt8.toNat 48-48)=0 from rfl,xhs],fun hb=>absurd hb O.2⟩
      ·have:=xk4 h;refine⟨?_,fun _=>om⟩;rw[this.1 om,xuj om];have:UInt8.ofNat (48+(10*0+(c.toNat-48)))=c:=UInt8.toNat_inj.1 (by rw[u8n om];omega);rw[this];rfl
     ·cases h
  refine⟨key.1,?_,key.2⟩;rcases Nat.lt_or_ge n 1000000 with z|z
  ·omega
  ·have:=xxw (k:=6) (n:=n) z;rw[<- key.1]at this;omega
theorem ycw{s:Str}{n:Int}(h:C8 s=some n):s=txt n/\ -999999<=n/\n<=999999:=by
 unfold C8 at h;split at h
 ·rename_i H;obtain⟨m,O,M⟩:=Option.map_eq_some_iff.1 h;have:=xj4 O;subst M;have V:=this.2.2 rfl;refine⟨?_,om,om⟩;unfold txt;rw[if_pos om];cases s with
  |nil=>simp at H
  |cons c t=>
    simp at H;subst H;rw[List.tail_cons]at this;rw[this.1];congr 2;simp
 ·obtain⟨m,O,M⟩:=Option.map_eq_some_iff.1 h;have:=xj4 O;subst M;refine⟨?_,om,om⟩;unfold txt;rw[if_neg om,this.1];simp
end Go.X.Ms
namespace Go.X
open Go.Conc
def Fr(d:Array UInt8):List Value:=d.toList.map fun b=>.int .u8 ((b.toNat:Nat):Int)
theorem xl3{d:Array UInt8}:(Fr d).length=d.size:=by simp[Fr]
theorem ysf{A Z:List Value}{d:Array UInt8}{j o:Nat}{v:Value}{b:UInt8}(H:o=A.length+j)(M:j<d.size)(hv:v=.int .u8 ((b.toNat:Nat):Int)):(A++(Fr d++Z)).set o v=A++(Fr (d.setIfInBounds j b)++Z):=by
 subst H;subst hv;rw[List.set_append_right _ _ om,Nat.add_sub_cancel_left,List.set_append_left _ _ (by rw[xl3];exact M)];congr 2;simp[Fr,List.map_set]
theorem yev{d:Array UInt8}{l:List UInt8}(M:l.length=d.size)(h:∀t,t<d.size->d[t]! =l.getD t 0):Fr d=(bcs l).flatten:=by
 rw[xrj,Fr];congr 1;refine List.ext_getElem (by simp[M]) fun i H O=>?_;have:=h i (by simpa using H);rw[List.getD_eq_getElem?_getD,List.getElem?_eq_getElem O]at this;simpa[getElem!_pos d i (by simpa using H)]using this
theorem Gb{n:Int}(h:0<=n/\n<=4294967295):IntKind.u32.wrap n=n:=by
 show(n%((2:Int)^32))=n;exact Int.emod_eq_of_lt h.1 om
section
variable{X:Cx}{k:List Item}{ops rest:List Oper}{l:Env}{p:Ab}{LL LR:List Pcs}{g:Option Bool}{d:Option Tmp}{ty:TypeId}{pos:String}{aft:Array Edge}{gd:Option (Nat×Bool)}{ss ss' ss2:List Prop}{x y z:Operand}{t:TypeId}{a:List UInt8}
theorem xw9{k1 k2:IntKind}(i r:Nat)(hg:gdc ops l gd=some g)(hx:evS l x=some (ss,sv a))(hy:evS l y=some (ss',.int k1 ((i:Nat):Int)))(V:evS l z=some (ss2,.int k2 ((r:Nat):Int)))(hs:Av g (Ax ss))(O:Av g (Ax ss'))(M:Av g (Ax ss2))(H:Av g (i<=r/\r<=a.length))(n:RO X k ops rest (ent d g (sv ((a.drop i).take (r-i))) l) p LL)
 (ht:X.P.underlying t=some .string:=by kernel_rfl):RO X k ops (⟨d,.slice t x (some y) (some z) none,ty,pos,aft,gd⟩::rest) l p LL:=
 xjx hg rfl (xwz H (xwz hs (xwz O M And.intro) And.intro) fun H hs _ _ E _=>xtr ht (xeq E hx hs.1) (.nat 0 (xeq E hy hs.2.1)) (.nat _ (xeq E V hs.2.2)) H.1 H.2) n
theorem xus{e:TypeId}{b off q c w:Nat}{j:Int}{V:IntKind}(M:evS l x=some ([],.slice (some ⟨b,off,none⟩) q c))(H:evS l y=some ([],.int V j))(O:0<=j)(hi:j<q)[f:Bv X.P t e][sz:Ai X.P e w](n:RO X k ops rest (ent d none (.pointer (some ⟨b,off+j.toNat*w,none⟩)) l) p LL):
 RO X k ops (⟨d,.indexAddr t x y,ty,pos,aft,none⟩::rest) l p LL:=xgl M H O hi rfl (by rw[show adr (some ⟨b,off,none⟩)=⟨b,off,none⟩ from rfl,xsx];exact n)
theorem xe2{m:Ks}{LF:List Pcs}{H todo:List Nat}{i:Nat}{e:TypeId}{b off q c w:Nat}{j:Int}{kk:IntKind}(O:ops[i]?=some ⟨d,.indexAddr t x y,ty,pos,aft,none⟩)(hx:evS l x=some ([],.slice (some ⟨b,off,none⟩) q c))(M:evS l y=some ([],.int kk j))(V:0<=j)(hi:j<q)[f:Bv X.P t e][sz:Ai X.P e w]
 (n:DE X k ops m p LF H todo (ent d none (.pointer (some ⟨b,off+j.toNat*w,none⟩)) l) LL):DE X k ops m p LF H (i::todo) l LL:=xrc O hx M V hi rfl (by rw[show adr (some ⟨b,off,none⟩)=⟨b,off,none⟩ from rfl,xsx];exact n)
theorem xiz{c:Item}(J:Env->Ab->List Pcs->Prop)(rest:∀l' p' LL',J l' p' LL'->RE X k l' p' LL')(H:∀k',(∀l' p' LL',J l' p' LL'->RE X k' l' p' LL')->RE X (c::k') l p LL):RE X (c::k) l p LL:=H k rest
end
namespace Ms
theorem xkp(u:Nat):Dk u=Lib.decDigits u:=by
 induction u using Nat.strongRecOn with
 |_ u ih=>
   by_cases h:u<10
   ·rw[xuj h,Lib.decDigits,dif_pos h]
   ·rw[xov om,Lib.decDigits,dif_neg h,ih (u / 10) om]
theorem xo0(u:Nat):(Dk u).length=Lib.nDigits u:=by rw[xkp,Lib.decDigits_length]
theorem xa5{u v:Nat}{d:Array UInt8}(h:Lib.FmtInv (Lib.nDigits u) u 0 v d):Fr d=(bcs (Dk u)).flatten:=by
 refine yev (by rw[xo0,h.size]) fun t H=>?_;rw[h.size]at H;rw[h.done t (Nat.zero_le _) H,xkp,Lib.decDigits_eq,List.getD_eq_getElem?_getD,List.getElem?_map,List.getElem?_range H];rfl
end Ms
section
variable{P:Program}{h:Heap}{tm:List Value}{d:Option Tmp}{ty:TypeId}{pos:String}{aft:Array Edge}{gd:Option (Nat×Bool)}
theorem xgf{t e:TypeId}{x:Operand}{lo hi:Option Operand}{n w b o i r:Nat}(M:P.underlying t=some (.array n e))(hs:Bi P e=some w)(O:evl tm x=w_ b o)(H:Bd tm lo 0 i)(bh:Bd tm hi n r)(h1:i<=r)(V:r<=n)(h3:i<n):
 Exd P tm ⟨d,.slice t x lo hi none,ty,pos,aft,gd⟩ h (.slice (some ⟨b,o+i*w,none⟩) (r-i) (n-i)):=by
 refine xtz (s:=Instr.sliceAt t (w_ b o) (lo.map (evl tm)) (hi.map (evl tm)) none) (by simp only[execOp,O,Option.map_none]) ?_;unfold Instr.sliceAt;refine xbq (xfq M ?_);simp only[Instr.sureAddr];refine xbq (xcq ?_);refine xbq (xkv (tm:=tm) H bh h1 V ?_);simp only;refine xbq (xax hs ?_);refine xcq ⟨?_,rfl⟩;rw[if_neg om,xsx]
end
section
variable{X:Cx}{k:List Item}{ops rest:List Oper}{l:Env}{p:Ab}{LL LR:List Pcs}{d:Option Tmp}{ty:TypeId}{pos:String}{aft:Array Edge}{x y z:Operand}{t:TypeId}
theorem xf9{e:TypeId}{n w b o i r:Nat}{k1 k2:IntKind}(hx:evS l x=some ([],w_ b o))(O:evS l y=some ([],.int k1 ((i:Nat):Int)))(M:evS l z=some ([],.int k2 ((r:Nat):Int)))(h1:i<=r)(h2:r<=n)(H:i<n)(V:X.P.underlying t=some (.array n e))[sz:Ai X.P e w]
 (nx:RO X k ops rest (ent d none (.slice (some ⟨b,o+i*w,none⟩) (r-i) (n-i)) l) p LL):RO X k ops (⟨d,.slice t x (some y) (some z) none,ty,pos,aft,none⟩::rest) l p LL:=
 xjx (g:=none) rfl rfl (fun _ _ E _=>xgf V sz.h (xeq E hx trivial) (.nat 0 (xeq E O trivial)) (.nat _ (xeq E M trivial)) h1 h2 H) nx
theorem yvf{e:TypeId}{n w b o r:Nat}{k2:IntKind}(O:evS l x=some ([],w_ b o))(M:evS l z=some ([],.int k2 ((r:Nat):Int)))(V:r<=n)(H:0<n)(ht:X.P.underlying t=some (.array n e))[sz:Ai X.P e w]
 (nx:RO X k ops rest (ent d none (.slice (some ⟨b,o,none⟩) r n) l) p LL):RO X k ops (⟨d,.slice t x none (some z) none,ty,pos,aft,none⟩::rest) l p LL:=
 xjx (g:=none) rfl rfl (fun tm h E _=>by
  have q:=xgf (d:=d) (ty:=ty) (pos:=pos) (aft:=aft) (gd:=none) (P:=X.P) (h:=h) ht sz.h (xeq E O trivial) (.none 0) (.nat n (xeq (x:=z) E M trivial)) (Nat.zero_le _) V H;simpa using q) nx
theorem xo3{e:TypeId}{w len i b o:Nat}{k1:IntKind}(O:X.P.underlying t=some (.array len e))(M:evS l x=some ([],w_ b o))(H:evS l y=some ([],.int k1 ((i:Nat):Int)))(h:i<len)[sz:Ai X.P e w](n:RO X k ops rest (ent d none (.pointer (some ⟨b,o+i*w,none⟩)) l) p LL):
 RO X k ops (⟨d,.indexAddr t x y,ty,pos,aft,none⟩::rest) l p LL:=xp9 O M H h (by rw[xsx];exact n)
end
theorem xbs{a b n:Nat}(h:a+b<=n):List.replicate n (Value.int .u8 0)=List.replicate a (Value.int .u8 0)++(Fr (Array.replicate b 0)++List.replicate (n-a-b) (Value.int .u8 0)):=by
 have e:Fr (Array.replicate b 0)=List.replicate b (Value.int .u8 0):=by simp[Fr]
 rw[e,List.replicate_append_replicate,List.replicate_append_replicate];congr 1;omega
namespace Ms
theorem ydf{m:Nat}(h:0<m):txt (-((m:Nat):Int))=45::Dk m:=by unfold txt;rw[if_pos om];simp
theorem xg8(m:Nat):txt ((m:Nat):Int)=Dk m:=by unfold txt;rw[if_neg om];simp
end Ms
section
variable{P:Program}{h:Heap}{l:List UInt8}{c:UInt8}
theorem xe8(c:UInt8):((c.toNat:Nat):Int).toNat.toUInt8=c:=by rw[Int.toNat_natCast];simp
theorem xgp:wpS P (Extern.BytealgIndexByte.indexByte #[sv l,.int .u8 ((c.toNat:Nat):Int)]) h fun v' H=>v'=.J (Lib.indexByte l c)/\H=h:=by
 have e:=Lib.firstIdx_eq (bs l) c;change wpS P (do
  let b <- Extern.Bytes.bytesOf (.string (bs l))
  let c' <- Extern.Bytes.asByte (.int .u8 ((c.toNat:Nat):Int))
  match(List.range b.size).find? fun i=>b[i]! == c' with
  |some i=>pure (goInt i)
  |none=>pure (goInt (-1))) h _
 simp only[Extern.Bytes.bytesOf,Extern.Bytes.asByte,xe8];refine xbq (xcq ?_);refine xbq (xcq ?_);have M:(bs l).data.toList=l:=by simp[bs]
 rw[M]at e;rw[<- e];unfold firstIdx;split<;>rename_i O<;>rw[O]<;>exact xcq ⟨rfl,rfl⟩
theorem xc8:wpS P (Extern.BytealgCount.count #[sv l,.int .u8 ((c.toNat:Nat):Int)]) h fun v' M=>v'=.J ((l.count c:Nat):Int)/\M=h:=by
 change wpS P (do
  let b <- Extern.Bytes.bytesOf (.string (bs l))
  let c' <- Extern.Bytes.asByte (.int .u8 ((c.toNat:Nat):Int))
  pure (goInt (b.foldl (fun n x=>if x==c' then n+1 else n) (0:Nat)))) h _
 simp only[Extern.Bytes.bytesOf,Extern.Bytes.asByte,xe8];refine xbq (xcq ?_);refine xbq (xcq ?_);refine xcq ⟨?_,rfl⟩;have O:(bs l).data.toList=l:=by simp[bs]
 rw[Lib.foldl_data,O];have H:=Lib.count_foldl c l 0;simp only[Lib.countByte,Int.zero_add]at H;exact congrArg (Value.int .i64) H
end
def scs(xs:List (List UInt8)):List (List Value):=xs.map fun t=>[sv t]
def B4(p:Ab)(a:Option Addr)(n:Nat)(xs:List (List UInt8)):Prop:=Sl p a n 1 (scs xs)
theorem xdz(xs:List (List UInt8)):(scs xs).length=xs.length:=by simp[scs]
section
variable{p p':Ab}{a:Option Addr}{n i:Nat}{xs:List (List UInt8)}
theorem B4.len(s:B4 p a n xs):xs.length=n:=by have:=Sl.len s;simpa[scs]using this
theorem B4.mono(H:PLe p p')(s:B4 p a n xs):B4 p' a n xs:=Sl.mono H s
theorem B4.ne(s:B4 p a n xs)(H:0<n):a=some (adr a):=Sl.ne s H
theorem B4.get(s:B4 p a n xs)(H:i<n):At p ((adr a).add (i*1))=some (sv (xs.getD i [])):=by
 have M:=s.len;have:=Sl.get s i [sv (xs.getD i [])] (by rw[scs,List.getElem?_map,List.getD_eq_getElem?_getD,List.getElem?_eq_getElem om];rfl) 0 _ rfl;rwa[show ∀a:Addr,(a.add (i*1)).add 0=a.add (i*1) from fun a=>xrx]at this
end
namespace Ms
open Lib (indexByte)
theorem xkr{b c:UInt8}{l:List UInt8}:indexByte (b::l) c=if b=c then 0 else if indexByte l c= -1 then -1 else indexByte l c+1:=by
 rw[indexByte];simp only[beq_iff_eq]
theorem xyh:∀{l:Str},indexByte l 32<0->Ad l=[l]
 |[],_=>rfl
 |b::l,h=>by
   rw[xkr]at h;have H:=Lib.indexByte_ge l 32;by_cases e:b=32
   ·rw[if_pos e]at h;omega
   ·rw[if_neg e]at h;rw[Ad,if_neg e,xyh (l:=l) (by split at h<;>omega)];rfl
theorem xal:∀{l:Str}{m:Nat},indexByte l 32=m->m<l.length/\Ad l=l.take m::Ad (l.drop (m+1))
 |[],m,h=>by rw[indexByte]at h;omega
 |b::l,m,h=>by
   rw[xkr]at h;by_cases e:b=32
   ·rw[if_pos e]at h;obtain rfl:m=0:=om;rw[Ad,if_pos e];exact⟨s_,s_⟩
   ·rw[if_neg e]at h;have M:=Lib.indexByte_ge l 32;split at h
    ·omega
    ·obtain⟨k,rfl⟩:∃k,m=k+1:=⟨m-1,om⟩
     have H:=xal (l:=l) (m:=k) om;rw[Ad,if_neg e,H.2];exact⟨by simp;omega,s_⟩
theorem xyk:∀l:Str,(Ad l).length=l.count 32+1
 |[]=>rfl
 |b::l=>by
   have H:=xyk l;rw[Ad,List.count_cons];by_cases e:b=32
   ·rw[if_pos e,List.length_cons,H,e];rfl
   ·rw[if_neg e,List.length_cons,List.length_tail,H];simp[e]
end Ms
end Go.X
namespace Go.X.Ms
def Gg(s:Str):Str:=if s.headD 0=45 then s.tail else s
theorem ytr{s:Str}{c:UInt8}(h:c≠0):(0<s.length/\s.take 1=[c])<->s.headD 0=c:=by
 cases s with
 |nil=>simp;exact fun e=>h e.symm
 |cons a t=>simp
theorem xwl{s:Str}:isLet s=true<->s.length=1/\97<=(s.getD 0 0).toNat/\(s.getD 0 0).toNat<=122:=by
 match s with
 |[]=>simp[isLet]
 |[c]=>simp[isLet]
 |_::_::_=>simp[isLet]
end Go.X.Ms
namespace Go.X
theorem wrap64(z:Int): -9223372036854775808<=IntKind.i64.wrap z/\IntKind.i64.wrap z<=9223372036854775807:=by
 simp only[IntKind.wrap,IntKind.bits,IntKind.signed];simp;omega
def Lv:List UInt8:=(List.range 256).map fun n=>UInt8.ofNat (Lib.bitLen n)
theorem yox:Lv.length=256:=by simp[Lv]
theorem xqt:∀n:Fin 256,(Lv.getD n.val 0).toNat=Lib.bitLen n.val/\Lib.bitLen n.val<=8:=by decide +kernel
theorem ymw{n:Nat}(h:n<256):(Lv.getD n 0).toNat=Lib.bitLen n:=(xqt ⟨n,h⟩).1
theorem ylw{n:Nat}(h:n<256):Lib.bitLen n<=8:=(xqt ⟨n,h⟩).2
theorem ysg{p:Ab}{t:TypeId}{z:Nat×Nat}{g:Nat}(Z:p g=some (.cells (Lib.pow10Tab.map (Value.int .u64)).toArray t z)){i:Nat}(h:i<20):At p ((⟨g,0,none⟩:Addr).add (i*1))=some (.int .u64 ((10^i:Nat):Int)):=by
 rw[xsx];unfold At;rw[Z];simp[Lib.pow10Tab,h]
abbrev SM:List UInt8:=Lib.smalls.data.toList
theorem xew:SM.length=200:=by decide +kernel
theorem xdw{j:Int}{i:Nat}(h:j=((i:Nat):Int)):Value.int .u8 ((((SM.getD j.toNat 0).toNat:Nat):Int))=.int .u8 (((Lib.sm i).toNat:Nat):Int):=by subst h;rfl
theorem xvj{A Z:List Value}{d:Array UInt8}:(A++(Fr d++Z)).length=A.length+(d.size+Z.length):=by rw[List.length_append,List.length_append,xl3]
theorem xsp{A Z:List Value}{d:Array UInt8}{j o:Nat}{z:Int}{b:UInt8}(H:o=A.length+j)(M:j<d.size)(hv:Value.int .u8 z=.int .u8 ((b.toNat:Nat):Int)):B6 (A++(Fr d++Z)) o (Value.int .u8 z).cells.toList=A++(Fr (d.setIfInBounds j b)++Z):=ysf H M hv
theorem xzw{A Z:List Value}{d:Array UInt8}{j1 j2 M O:Nat}{H V:Int}{b1 b2:UInt8}(h1:M=A.length+j1)(h2:j1<d.size)(h3:Value.int .u8 H=.int .u8 ((b1.toNat:Nat):Int))(h4:O=A.length+j2)(h5:j2<d.size)(h6:Value.int .u8 V=.int .u8 ((b2.toNat:Nat):Int)):
 B6 (B6 (A++(Fr d++Z)) M (Value.int .u8 H).cells.toList) O (Value.int .u8 V).cells.toList=A++(Fr ((d.setIfInBounds j1 b1).setIfInBounds j2 b2)++Z):=by
 rw[xsp h1 h2 h3,xsp h4 (by simpa using h5) h6]
theorem yrr(z:Int):IntKind.u8.wrap z=z%256:=by simp[IntKind.wrap,IntKind.bits,IntKind.signed]
namespace Ms
theorem xsb{b:Bool}{t:Str}{m:Nat}(h:Hz b t=some m):Ev 0 t=some m/\0<t.length/\t.length<=6:=by
 unfold Hz at h;split at h
 ·cases h
 ·rename_i hc;exact⟨h,om,om⟩
theorem ybw{s:Str}{k:Int}(h:C8 s=some k):0<s.length/\s.length<=7:=by
 unfold C8 at h;split at h
 ·obtain⟨m,H,_⟩:=Option.map_eq_some_iff.1 h;have:=xsb H;rw[List.length_tail]at this;omega
 ·obtain⟨m,H,_⟩:=Option.map_eq_some_iff.1 h;have:=xsb H;omega
def Sp(s H:Str):Prop:=∀k,C8 s=some k-> ∃m:Nat,Ev 0 H=some m/\k=if s.headD 0=45 then -(m:Int)else(m:Int)
theorem ytk{s:Str}(h:s.headD 0=45):Sp s (s.drop 1):=fun k H=>by
 unfold C8 at H;rw[if_pos h]at H;obtain⟨m,O,M⟩:=Option.map_eq_some_iff.1 H;exact⟨m,by rw[List.drop_one];exact(xsb O).1,by rw[if_pos h];exact M.symm⟩
theorem ysk{s:Str}(h:¬ s.headD 0=45):Sp s s:=fun k H=>by
 unfold C8 at H;rw[if_neg h]at H;obtain⟨m,O,M⟩:=Option.map_eq_some_iff.1 H;exact⟨m,(xsb O).1,by rw[if_neg h];exact M.symm⟩
theorem xh4{s:Str}(h:s.headD 0=43):C8 s=none:=by
 cases s with
 |nil=>simp at h
 |cons c t=>
   simp at h;subst h;unfold C8;rw[if_neg s_];have:Hz false (43::t)=none:=by
    unfold Hz;split
    ·rfl
    ·unfold Ev;rfl
   rw[this];rfl
theorem ycx{acc:Nat}{s:Str}{j:Nat}(h:j<s.length):Ev acc (s.drop j)=if Ep (s.getD j 0)then Ev (10*acc+((s.getD j 0).toNat-48)) (s.drop (j+1))else none:=by
 rw[List.drop_eq_getElem_cons h,Ev,List.getD_eq_getElem?_getD,List.getElem?_eq_getElem h];rfl
theorem xaf{c:UInt8}:Ep c=true<->48<=c.toNat/\c.toNat<=57:=by unfold Ep;simp
end Ms
end Go.X
namespace Go.X.Ms
theorem xv2{n:Int}:(Gg (txt n)).length<=6<-> -999999<=n/\n<=999999:=by
 have e:Gg (txt n)=Dk n.natAbs:=by
  unfold Gg txt;by_cases c:n<0
  ·rw[if_pos c];simp
  ·rw[if_neg c,if_neg];intro z;cases e:Dk n.natAbs with
   |nil=>rw[e]at z;simp at z
   |cons d t=>
     have:=xlp d (by rw[e];simp);rw[e]at z;simp at z;subst z;exact absurd this d_
 rw[e];constructor
 ·intro z;rcases Nat.lt_or_ge n.natAbs 1000000 with y|y
  ·omega
  ·have:=xxw (k:=6) (n:=n.natAbs) y;omega
 ·intro z;exact xbj (k:=5) om
theorem yjq{s:Str}{n:Int}(h:∀k,C8 s=some k->n=k):(txt n=s/\(Gg s).length<=6)<->(C8 s).isSome=true:=by
 constructor
 ·rintro⟨e,hl⟩;subst e;rw[yaw (xv2.1 hl)];rfl
 ·intro z;obtain⟨k,H⟩:=Option.isSome_iff_exists.1 z;obtain rfl:=h k H;have y:=ycw H;refine⟨y.1.symm,?_⟩;rw[y.1];exact xv2.2 ⟨om,om⟩
def Bb(s:Str):Bool:=(C8 s).isSome||isLet s
end Go.X.Ms
namespace Go.Proofs.YtblcmdjhidhnjaaGreatDoor
open Go.Proofs.Tryz
open Go.X Go.X.Ms Go.Conc
section
variable{h:Heap}{md:Md}
theorem Tm{p:Ab}(M:Per p h)(l:List UInt8)(c:UInt8):Aa prog md 265 #[sv l,.int .u8 ((c.toNat:Nat):Int)] h fun v O=>v=.J (Lib.indexByte l c)/\Af h O:=by
 refine xdq M func265 fun _ _ _ K=>?_;refine xr9 func313 (e:=Extern.BytealgIndexByte.indexByte) k_ rfl rfl (fun h=>xgp) ?_;refine ax ?_;exact K.r rfl rfl fun _ H=>⟨rfl,H.kept⟩
theorem Vn{p:Ab}(O:Per p h)(l:List UInt8)(c:UInt8):Aa prog md 230 #[sv l,sv [c]] h fun v V=>v=.J (Lib.indexByte l c)/\Af h V:=by
 refine xdq O func230 fun _ _ _ K=>?_;refine xlq rfl (fun H=>?_) (fun H=>?_)
 ·have e:l=[c]:=by
   rcases H with H|H
   ·simp at H
   ·exact H.symm
  subst e;refine ax ?_;exact K.r rfl rfl fun _ M=>⟨by rw[xkr,if_pos rfl];rfl,M.kept⟩
 refine ax ?_;refine xlq rfl (fun _=>?_) (fun H=>absurd rfl H);refine ax ?_;refine xmk rfl rfl rfl trivial trivial ⟨d_,s_⟩ ?_;refine ax ?_;refine xiq rfl rfl (fun _ pe=>Tm pe l c) ?_;refine ax ?_;exact K.r rfl rfl fun _ M=>⟨rfl,M.kept⟩
theorem Rp{p:Ab}(M:Per p h)(l:List UInt8)(c:UInt8):Aa prog md 166 #[sv l,sv [c]] h fun v O=>v=.J (Lib.indexByte l c)/\Af h O:=by
 refine xdq M func166 fun _ _ _ K=>?_;refine xiq rfl rfl (fun _ V=>Vn V l c) ?_;refine ax ?_;exact K.r rfl rfl fun _ H=>⟨rfl,H.kept⟩
theorem Wc{p:Ab}(O:Per p h)(l:List UInt8)(c:UInt8):Aa prog md 165 #[sv l,sv [c]] h fun v V=>v=.J ((l.count c:Nat):Int)/\Af h V:=by
 refine xdq O func165 fun _ _ _ K=>?_;refine xlq rfl (fun H=>absurd H s_) (fun _=>?_);refine ax ?_;refine xlq rfl (fun _=>?_) (fun H=>absurd rfl H);refine ax ?_;refine xmk rfl rfl rfl trivial trivial ⟨d_,s_⟩ ?_;refine ax ?_;refine xr9 func229 (e:=Extern.BytealgCount.count) k_ rfl rfl (fun h=>xc8) ?_;refine ax ?_;exact K.r rfl rfl fun _ M=>⟨rfl,M.kept⟩
theorem c81{p:Ab}(hp:Per p h)(s:Str)(hs:s.length<=900):
 Aa prog md 81 #[sv s,sv [32],.J 0,.J (-1)] h fun v h'=>Ar p h (fun v p'=>∃a cap,v=.slice a (Ad s).length cap/\(Ad s).length<=cap/\B4 p' a (Ad s).length (Ad s)) v h':=by
 have hc:=xyk s;have a7:s.count 32<=s.length:=List.count_le_length;refine xdq hp func81 fun _ _ _ K=>?_;refine xlq rfl (fun cc=>absurd cc d_) (fun _=>?_);refine ax ?_;refine xlq rfl (fun cc=>absurd cc s_) (fun _=>?_);refine ax ?_;refine xlq rfl (fun _=>?_) (fun cc=>absurd d_ cc);refine ax ?_;refine xiq rfl rfl (fun _ pe=>Wc pe s 32) ?_;refine ax ?_;have em:min (((s.count 32:Nat):Int)+1) (((s.length:Nat):Int)+1)=(((Ad s).length:Nat):Int):=by rw[hc];omega
 rw[em];obtain⟨N,hN⟩:∃N,N=(Ad s).length:=⟨_,rfl⟩
 rw[<- hN]at hc⊢;refine yyf (n:=N) rfl rfl om fun v1 Y1 V=>?_;have V:Ac 9 1 v1 (scs (List.replicate N [])) Y1:=V.as (by simp[scs];exact .inr rfl);refine ax ?_;refine xmq (fun m_ l p_ L_=>∃(i:Nat)(H:Str)(O:List Str)(Y:Pcs),m_=N-i/\l=[(0,none,sv H),(1,none,sv [32]),(2,none,.J 0),(3,none,.J ((N:Nat)-1)),(9,none,v1),(10,none,.J ((i:Nat):Int))]/\p_=p/\L_=[Y]/\O.length=i/\O++Ad H=Ad s/\H.length<=900/\Ac 9 1 v1 (scs (O++List.replicate (N-i) [])) Y) ⟨0,s,[],Y1,rfl,rfl,rfl,rfl,rfl,rfl,hs,V⟩ sb ?_;clear V;rintro _ _ p _ IH ⟨i,H,O,Y,rfl,rfl,rfl,rfl,M,a2,a8,V⟩;have hlen:i+(Ad H).length=N:=by rw[hN,<- a2,List.length_append,M]
 have h1:=xyk H;refine cq (fun cc=>?_) (fun cc=>?_)
 ·refine ax ?_;refine xiq rfl rfl (fun _ pe=>Rp pe H 32) ?_;refine cq (fun cd=>?_) (fun cd=>?_)
  ·have z:=xyh cd;rw[z,List.length_singleton]at hlen;omega
  obtain⟨m,hm⟩:∃m:Nat,Lib.indexByte H 32=((m:Nat):Int):=⟨(Lib.indexByte H 32).toNat,om⟩
  obtain⟨a4,a6⟩:=xal hm;rw[hm];refine ax ?_;refine xm3 (j:=m) rfl rfl rfl trivial trivial (Nat.le_of_lt a4) ?_;refine xzk rfl rfl V (by rw[xdz,List.length_append,List.length_replicate];omega) ?_;refine xek (e:=[sv []]) rfl rfl V xrx rfl rfl rfl (by rw[scs,List.getElem?_map,List.getElem?_append_right om,List.getElem?_replicate,if_pos om];rfl) (Nat.le_refl _) fun Y' o'=>?_;have o':Ac 9 1 v1 (scs ((O++[H.take m])++List.replicate (N-(i+1)) [])) Y':=o'.as (by
   rw[show N-i=(N-(i+1))+1 by omega,List.replicate_succ,<- M];simp[scs,B6])
  refine ax ?_;refine xrv rfl rfl ⟨wrZ (by rw[List.length_singleton];omega),trivial⟩ ?_;refine xdc (j:=m+1) rfl rfl rfl trivial trivial a4 ?_;refine ax ?_;exact xhq (IH _ _ _ om ⟨i+1,H.drop (m+1),O++[H.take m],Y',rfl,rfl,rfl,rfl,by rw[List.length_append,M];rfl,by rw[List.append_assoc,List.singleton_append,<- a6,a2],by rw[List.length_drop];omega,o'⟩)
 have hi:i+1=N:=om;have a5:Ad H=[H]:=by
  have ge:=Lib.indexByte_ge H 32;by_cases z:Lib.indexByte H 32<0
  ·exact xyh z
  ·obtain⟨m,hm⟩:∃m:Nat,Lib.indexByte H 32=((m:Nat):Int):=⟨(Lib.indexByte H 32).toNat,om⟩
   have z2:=(xal hm).2;have z3:=xyk (H.drop (m+1));rw[z2,List.length_cons]at hlen;omega
 refine ax ?_;refine xzk rfl rfl V (by rw[xdz,List.length_append,List.length_replicate];omega) ?_;refine xek (e:=[sv []]) rfl rfl V xrx rfl rfl rfl (by rw[scs,List.getElem?_map,List.getElem?_append_right om,List.getElem?_replicate,if_pos om];rfl) (Nat.le_refl _) fun Y' o'=>?_;have o':Ac 9 1 v1 (scs (Ad s)) Y':=o'.as (by
  rw[show N-i=0+1 by omega,List.replicate_succ,<- a2,a5,<- M];simp[scs,B6])
 refine xpx o' (m:=N) (by rw[xdz,hN]) d_ fun p' a cap g ev a3 S=>?_;subst ev;refine ax ?_;refine xld (j:=i+1) rfl rfl om ?_;refine ax ?_;rw[hi];subst hN;exact K.r rfl rfl fun _ H_=>(xwq (p:=p) (p':=p') (Q:=fun v p'=>∃a cap,v=.slice a (Ad s).length cap/\(Ad s).length<=cap/\B4 p' a (Ad s).length (Ad s)) H_ g ⟨a,cap,rfl,a3,S⟩)
theorem c42{p:Ab}(V:Per p h)(s:Str)(hs:s.length<=900):
 Aa prog md 42 #[sv s,sv [32]] h fun v O=>Ar p h (fun v p'=>∃a cap,v=.slice a (Ad s).length cap/\(Ad s).length<=cap/\B4 p' a (Ad s).length (Ad s)) v O:=by
 refine xdq V func42 fun _ _ _ K=>?_;refine xvx rfl rfl (fun h pe=>c81 pe s hs) ?_;rintro _ p' g ⟨a,cap,rfl,H,S⟩;refine ax ?_;exact K.r rfl rfl fun _ M=>(xwq (p:=p) (p':=p') (Q:=fun v p'=>∃a cap,v=.slice a (Ad s).length cap/\(Ad s).length<=cap/\B4 p' a (Ad s).length (Ad s)) M g ⟨a,cap,rfl,H,S⟩)
end
theorem c307{md:Md}{h:Heap}{p:Ab}(M:Per p h)(s:Str):Aa prog md 307 #[sv s,sv [45]] h fun v O=>v=.bool (decide (s.headD 0=45))/\Af h O:=by
 refine xdq M func307 fun _ _ _ K=>?_;refine xm3 (j:=1) rfl rfl rfl sdu sdu (fun e=>by have e:(1:Int)<=s.length:=(by simpa using e);omega) ?_;refine ax ?_;exact K.r rfl rfl fun _ H=>⟨congrArg _ (bpe (by rw[<- ytr d_];simp;exact fun _=>om)),H.kept⟩
theorem Wj{md:Md}{h:Heap}{p:Ab}(V:Per p h)(s:Str):Aa prog md 252 #[sv s,sv [45]] h fun v h'=>v=sv (Gg s)/\Af h h':=by
 refine xdq V func252 fun _ _ _ K=>?_;refine xiq rfl rfl (fun _ pe=>c307 pe s) ?_;refine cq (fun H=>?_) (fun H=>?_)
 ·have O:1<=s.length:=by cases s with|nil=>simp at H|cons a t=>simp
  refine ax ?_;refine xdc (j:=1) rfl rfl rfl trivial trivial O ?_;refine ax ?_;exact K.r rfl rfl fun _ M=>⟨by rw[Gg,if_pos H,<- List.drop_one];rfl,M.kept⟩
 ·refine ax ?_;exact K.r rfl rfl fun _ M=>⟨by rw[Gg,if_neg H];rfl,M.kept⟩
theorem Uk{md:Md}{h:Heap}{p:Ab}(M:Per p h)(s:Str):Aa prog md 199 #[sv s,sv [45]] h fun v O=>v=sv (Gg s)/\Af h O:=by
 refine xdq M func199 fun _ _ _ K=>?_;refine xiq rfl rfl (fun _ V=>Wj V s) ?_;refine ax ?_;exact K.r rfl rfl fun _ H=>⟨rfl,H.kept⟩
theorem c43{md:Md}{h:Heap}{p:Ab}(M:Per p h)(s:Str):Aa prog md 43 #[sv s] h fun v O=>v=.bool (isLet s)/\Af h O:=by
 refine xdq M func43 fun _ _ _ K=>?_;refine xmk rfl rfl rfl sdu sdu (fun e=>by have e:=of_decide_eq_true e;omega) ?_;refine ax ?_;refine xmk rfl rfl rfl sdu sdu (fun e=>by simp at e;omega) ?_;refine ax ?_;exact K.r rfl rfl fun _ H=>⟨congrArg Value.bool (by rw[Bool.eq_iff_iff,xwl];simp;omega),H.kept⟩
theorem P9{md:Md}{h:Heap}{p:Ab}(hp:Per p h)(s:Str)(hs:s.length<=900):Aa prog md 334 #[sv s] h fun v h'=>v=sv s/\Af h h':=by
 refine xdq hp func334 fun _ _ _ K=>?_;refine xlq rfl (fun V=>?_) (fun V=>?_)
 ·have e:s=[]:=List.eq_nil_of_length_eq_zero om;subst e;refine ax ?_;exact K.r rfl rfl fun _ H=>⟨rfl,H.kept⟩
 refine ax ?_;refine yyf (n:=s.length) rfl rfl om fun O Y1 o1=>?_;refine ax ?_;refine yhv rfl rfl o1 s_ om fun Y2 M=>?_;refine ax ?_;refine xzk (i:=0) rfl rfl M (by rw[xbk];omega) ?_;refine ax ?_;refine xfl rfl rfl trivial M (xbk s) ?_;refine ynm M om om (by show _=some ([],Value.pointer (some (El O)));rw[show El O=(El O).add (0*1) from Ox.symm];rfl) rfl k_ k_ ?_;refine ax ?_;exact K.r rfl rfl fun _ H=>⟨rfl,H.kept⟩
section
variable{te tr:TypeId}{ue ur:Value}{tE tR:TypeId}{zE zR:Nat×Nat}
theorem c303{md:Md}{h:Heap}{p:Ab}(M:Per p h)(f s:Str)(hs:s.length<=900)(E:p 8=some (.cells #[.iface te ue] tE zE)):
 Aa prog md 303 #[sv f,sv s] h fun v O=>(∃x,v=.pointer x)/\Af h O:=by
 refine xdq M func303 fun _ _ _ K=>?_;refine xqq [] R4 ?_;refine ex ?_;refine xbv rfl rfl rfl rfl trivial (fun _ V=>P9 V s hs) ?_;refine ex ?_;refine bq fun b1=>?_;refine ax ?_;exact K.r rfl rfl fun _ H=>⟨⟨_,rfl⟩,H.kept⟩
theorem c304{md:Md}{h:Heap}{p:Ab}(M:Per p h)(f s:Str)(hs:s.length<=900)(E:p 9=some (.cells #[.iface tr ur] tR zR)):
 Aa prog md 304 #[sv f,sv s] h fun v O=>(∃x,v=.pointer x)/\Af h O:=by
 refine xdq M func304 fun _ _ _ K=>?_;refine xqq [] R4 ?_;refine ex ?_;refine xbv rfl rfl rfl rfl trivial (fun _ V=>P9 V s hs) ?_;refine ex ?_;refine bq fun b1=>?_;refine ax ?_;exact K.r rfl rfl fun _ H=>⟨⟨_,rfl⟩,H.kept⟩
abbrev eV(n:Int):Value:=.iface 323 (.J n)
theorem c251{md:Md}{h:Heap}{p:Ab}(hp:Per p h){f:Str}(s:Str)(hs:s.length<=900)(n:Int)(hn:n=1\/n=2)(E:p 8=some (.cells #[.iface te ue] tE zE))(R:p 9=some (.cells #[.iface tr ur] tR zR)):
 Aa prog md 251 #[sv f,sv s,.J 0,.J 0,eV n] h fun v h'=>Ar p h (fun v _=>∃t u,v=.iface t u) v h':=by
 refine xdq hp func251 fun _ _ _ K=>?_;refine xib rfl rfl trivial underlying323 ?_;refine ax ?_;refine xt9 rfl rfl rfl trivial trivial underlying227 k_ underlying323 ?_;refine cq (fun H=>?_) (fun H=>?_)
 ·refine ax ?_;refine xdj (Q:=fun v Y=>(∃x,v=.pointer x)/\Y=[]) rfl rfl (fun _ pe=>(c303 pe f s hs E).mono fun _ _⟨q,O⟩=>⟨[],⟨q,rfl⟩,⟨O,fun x V=>(by cases V),List.nodup_nil⟩⟩) ?_;rintro _ _ ⟨⟨x,rfl⟩,rfl⟩;refine xib rfl rfl trivial underlying326 ?_;refine ax ?_;exact K.r rfl rfl fun _ M=>(xwq (p:=p) (p':=p) (Q:=fun v _=>∃t u,v=.iface t u) M (.refl _ _ _) ⟨_,_,rfl⟩)
 have h2:n=1:=om;subst h2;refine ax ?_;refine xib rfl rfl trivial underlying323 ?_;refine ax ?_;refine xt9 rfl rfl rfl trivial trivial underlying227 k_ underlying323 ?_;refine ax ?_;refine xlq rfl (fun H=>?_) (fun H=>absurd rfl H);refine ax ?_;refine xdj (Q:=fun v Y=>(∃x,v=.pointer x)/\Y=[]) rfl rfl (fun _ pe=>(c304 pe f s hs R).mono fun _ _⟨q,O⟩=>⟨[],⟨q,rfl⟩,⟨O,fun x V=>(by cases V),List.nodup_nil⟩⟩) ?_;rintro _ _ ⟨⟨x,rfl⟩,rfl⟩;refine xib rfl rfl trivial underlying326 ?_;refine ax ?_;exact K.r rfl rfl fun _ M=>(xwq (p:=p) (p':=p) (Q:=fun v _=>∃t u,v=.iface t u) M (.refl _ _ _) ⟨_,_,rfl⟩)
end
theorem c347{md:Md}{h:Heap}{p:Ab}(M:Per p h)(c:Nat)(hc:c<256):Aa prog md 347 #[.int .u8 ((c:Nat):Int)] h fun v O=>v=.int .u8 ((c ||| 32:Nat):Int)/\Af h O:=by
 refine xdq M func347 fun _ _ _ K=>?_;refine yrm (b:=32) rfl rfl hc d_ ?_;refine ax ?_;exact K.r rfl rfl fun _ H=>⟨rfl,H.kept⟩
def isE(e:Value):Prop:=e=.nilIface\/e=eV 1\/e=eV 2
set_option maxHeartbeats 1000000 in
theorem Uj{md:Md}{h:Heap}{p:Ab}(hp:Per p h)(s:Str)(hs:s.length<=900):
 Aa prog md 333 #[sv s,.J 10,.J 0] h fun v h'=>Ar p h (fun v _=>∃(n:Nat)(e:Value),v=.tuple #[.int .u64 ((n:Nat):Int),e]/\n<18446744073709551616/\isE e) v h':=by
 have M:∀{h_:Heap}{p':Ab}{L:Pcs}(n:Nat)(e:Value),St h [] p' h_ L->PG h.size [] p p'->n<18446744073709551616->isE e->Ar p h (fun v _=>∃(n:Nat)(e:Value),v=.tuple #[.int .u64 ((n:Nat):Int),e]/\n<18446744073709551616/\isE e) (.tuple #[.int .u64 ((n:Nat):Int),e]) h_:=fun n e H g hn he=>xwq H g ⟨n,e,rfl,hn,he⟩;refine xdq hp func333 fun _ _ _ K=>?_;refine xlq rfl (fun cc=>?_) (fun cc=>?_)
 ·refine ax ?_;refine xib rfl rfl trivial underlying323 ?_;refine ax ?_;exact K.r rfl rfl fun h_ O=>(M 0 (eV 2) O (.refl _ _ _) d_ (.inr (.inr rfl)))
 have a2:0<s.length:=by cases s with|nil=>exact absurd rfl cc|cons a t=>simp
 refine ax ?_;refine xlq rfl (fun _=>?_) (fun cc=>absurd d_ cc);refine ax ?_;refine xlq rfl (fun _=>?_) (fun cc=>absurd d_ cc);refine ax ?_;refine xlq rfl (fun _=>?_) (fun cc=>absurd d_ cc);refine ax ?_;refine xnk (k':=.u64) ⟨_,underlying3⟩ underlying209 rfl d_ ?_;refine yqc (s:=64) (w:=0) rfl rfl d_ ?_;refine ypc 18446744073709551615 rfl rfl d_ ?_;refine ax ?_;refine yhn rfl a2 underlying9 underlying5 fun p' c cap g S a4=>?_;have S1:Sl p' c s.length 1 (bcs s):=S;refine ax ?_;refine xsq (fun m_ l=>∃j n:Nat,m_=s.length-j/\l=[(1,none,.J 10),(8,none,.bool (decide ((10:Int)=0))),(9,none,sv s),(10,none,.int .u64 1844674407370955162),(11,none,.int .u64 18446744073709551615),(12,none,.bool false),(13,none,.int .u64 ((n:Nat):Int)),(99,none,.slice c s.length cap),(100,none,.J ((s.length:Nat):Int)),(101,none,.J ((j:Nat):Int))]/\j<=s.length/\n<18446744073709551616) ⟨0,0,rfl,rfl,Nat.zero_le _,d_⟩ sb ?_;rintro _ _ IH ⟨j,n,rfl,rfl,hj,hn⟩;refine cq (fun cd=>?_) (fun cd=>?_)
 ·have a3:j<s.length:=om;refine ax ?_;refine xoz rfl (Nq.get S a3) ?_;obtain⟨b,hb⟩:∃b,b=(s.getD j 0).toNat:=⟨_,rfl⟩
  have V:b<256:=by rw[hb];exact(s.getD j 0).toNat_lt
  rw[<- hb];refine ax ?_;refine xiz (fun l' p_ L_=>∃x:Nat,l'=[(1,none,.J 10),(8,none,.bool (decide ((10:Int)=0))),(9,none,sv s),(10,none,.int .u64 1844674407370955162),(11,none,.int .u64 18446744073709551615),(12,none,.bool false),(13,none,.int .u64 ((n:Nat):Int)),(16,none,.int .u8 ((x:Nat):Int)),(99,none,.slice c s.length cap),(100,none,.J ((s.length:Nat):Int)),(101,none,.J ((j:Nat):Int))]/\p_=p'/\L_=[]/\x<256) ?_ fun k' H=>?_
  ·rintro _ p' _ ⟨x,rfl,rfl,rfl,hx⟩;refine ax ?_;refine xnk (k':=.u8) ⟨_,underlying3⟩ underlying5 rfl d_ ?_;refine cq (fun ce=>?_) (fun ce=>?_)
   ·refine ax ?_;refine xib rfl rfl trivial underlying323 ?_;refine ax ?_;exact K.r rfl rfl fun h_ O=>(M 0 (eV 2) O g d_ (.inr (.inr rfl)))
   refine cq (fun cf=>?_) (fun cf=>?_)
   ·refine ax ?_;refine xib rfl rfl trivial underlying323 ?_;refine ax ?_;exact K.r rfl rfl fun h_ O=>(M 18446744073709551615 (eV 1) O g d_ (.inr (.inl rfl)))
   refine ax ?_;refine xnk (k':=.u64) ⟨_,underlying3⟩ underlying273 rfl d_ ?_;refine ax ?_;refine xnk (k':=.u64) ⟨_,underlying5⟩ underlying273 rfl (N9 om) ?_;refine ykn (((n*10+x)%18446744073709551616:Nat):Int) rfl rfl (by rw[yfk];omega) ?_;refine cq (fun ch=>?_) (fun ch=>?_)
   ·refine ax ?_;refine xib rfl rfl trivial underlying323 ?_;refine ax ?_;exact K.r rfl rfl fun h_ O=>(M 18446744073709551615 (eV 1) O g d_ (.inr (.inl rfl)))
   refine ax ?_;exact xhq (IH _ om ⟨j+1,(n*10+x)%18446744073709551616,rfl,rfl,om,om⟩)
  ·refine xlq rfl (fun ce=>absurd ce.2 d_) (fun _=>?_);refine cq (fun ce=>?_) (fun ce=>?_)
   ·refine ax ?_;refine xrv rfl rfl ⟨wr8 om,trivial⟩ ?_;refine ax ?_;exact xhq (H _ _ _ ⟨b-48,by rw[show(((b-48:Nat):Int))=((b:Nat):Int)-48 by omega],rfl,rfl,om⟩)
   have a5:b ||| 32<256:=Nat.or_lt_two_pow (n:=8) V d_;refine ax ?_;refine xiq rfl rfl (fun _ pe=>c347 pe b V) ?_;refine ax ?_;refine xfx rfl rfl rfl sdu (fun _ _ pe=>c347 pe b V) ?_;refine cq (fun cf=>?_) (fun cf=>?_)
   ·refine ax ?_;refine xiq rfl rfl (fun _ pe=>c347 pe b V) ?_;refine xrv rfl rfl ⟨wr8 om,trivial⟩ ?_;refine xrv rfl rfl ⟨wr8 om,trivial⟩ ?_;refine ax ?_;exact xhq (H _ _ _ ⟨(b ||| 32)-97+10,by rw[show(((((b ||| 32)-97+10:Nat)):Int))=(((b ||| 32:Nat)):Int)-97+10 by omega],rfl,rfl,om⟩)
   ·refine ax ?_;refine xib rfl rfl trivial underlying323 ?_;refine ax ?_;exact K.r rfl rfl fun h_ O=>(M 0 (eV 2) O g d_ (.inr (.inr rfl)))
 refine ax ?_;refine xob (.bool false) rfl ?_;refine ax ?_;refine xlq rfl (fun ce=>absurd ce s_) (fun _=>?_);refine ax ?_;exact K.r rfl rfl fun h_ O=>(M n .nilIface O g hn (.inl rfl))
theorem c317{md:Md}{h:Heap}{p:Ab}(O:Per p h){q:Prop}[Decidable q]:Aa prog md 317 #[.bool (decide q)] h fun v V=>v=.J (if q then 1 else 0)/\Af h V:=by
 refine xdq O func317 fun _ _ _ K=>?_;refine xlq rfl (fun M=>?_) (fun M=>?_)
 ·refine ax ?_;exact K.r rfl rfl fun _ H=>⟨by rw[if_pos M];rfl,H.kept⟩
 ·refine ax ?_;exact K.r rfl rfl fun _ H=>⟨by rw[if_neg M];rfl,H.kept⟩
theorem c315{md:Md}{h:Heap}{p:Ab}(M:Per p h){x:Nat}(V:x<=64):Aa prog md 315 #[.J ((x:Nat):Int)] h fun v O=>v=.J ((Lib.l10 x:Nat):Int)/\Af h O:=by
 refine xdq M func315 fun _ _ _ K=>?_;refine xmn (a:=x*78913) (s:=18) rfl rfl rfl trivial trivial (show _<=64 from by omega) ?_;refine ax ?_;exact K.r rfl rfl fun _ H=>⟨rfl,H.kept⟩
theorem d316{md:Md}{h:Heap}{p:Ab}(hp:Per p h)(x:Nat)(hx:x<18446744073709551616):Aa prog md 316 #[.int .u64 ((x:Nat):Int)] h fun v h'=>v=.J ((Lib.bitLen x:Nat):Int)/\Af h h':=by
 refine xdq hp func316 fun _ _ _ K=>?_;refine xiz (fun l' p' LL'=>∃y n:Nat,l'=[(0,none,.int .u64 ((y:Nat):Int)),(2,none,.J ((n:Nat):Int))]/\p'=p/\LL'=[]/\y<4294967296/\n<=32/\n+Lib.bitLen y=Lib.bitLen x) ?_ fun k' H=>?_
 ·rintro _ p _ ⟨y,n,rfl,rfl,rfl,V,hn,M⟩;refine ax ?_;refine xiz (fun l' p' LL'=>∃y n:Nat,l'=[(0,none,.int .u64 ((y:Nat):Int)),(2,none,.J ((n:Nat):Int))]/\p'=p/\LL'=[]/\y<65536/\n<=48/\n+Lib.bitLen y=Lib.bitLen x) ?_ fun k' H=>?_
  ·rintro _ p _ ⟨y,n,rfl,rfl,rfl,V,hn,M⟩;refine ax ?_;refine xiz (fun l' p' LL'=>∃y n:Nat,l'=[(0,none,.int .u64 ((y:Nat):Int)),(2,none,.J ((n:Nat):Int))]/\p'=p/\LL'=[]/\y<256/\n<=56/\n+Lib.bitLen y=Lib.bitLen x) ?_ fun k' H=>?_
   ·rintro _ p _ ⟨y,n,rfl,rfl,rfl,V,hn,M⟩;refine ax ?_;refine xnk (k':=.u8) ⟨_,underlying273⟩ underlying5 rfl (wr8 om) ?_;refine xmk (ss:=[]) (a:=Lv) rfl k_ rfl trivial trivial ⟨om,by rw[yox];omega⟩ ?_;rw[Int.toNat_natCast,ymw V];have b8:=ylw V;refine xnk (k':=.i64) ⟨_,underlying5⟩ underlying3 rfl (wrZ om) ?_;refine ax ?_;exact K.r rfl rfl fun _ H_=>⟨by rw[<- M];rfl,H_.kept⟩
   ·refine xlq rfl (fun O=>?_) (fun O=>?_)
    ·refine ax ?_;refine xmn (a:=y) (s:=8) rfl rfl rfl trivial trivial (show _<=64 from by omega) ?_;refine ax ?_;have z:=Lib.bitLen_shift 8 y om om;exact xhq (H _ _ _ ⟨y / 2^8,n+8,rfl,rfl,rfl,om,om,by rw[<- M,z];omega⟩)
    ·refine ax ?_;exact xhq (H _ _ _ ⟨y,n,rfl,rfl,rfl,om,om,M⟩)
  ·refine xlq rfl (fun O=>?_) (fun O=>?_)
   ·refine ax ?_;refine xmn (a:=y) (s:=16) rfl rfl rfl trivial trivial (show _<=64 from by omega) ?_;refine ax ?_;have z:=Lib.bitLen_shift 16 y om om;exact xhq (H _ _ _ ⟨y / 2^16,n+16,rfl,rfl,rfl,om,om,by rw[<- M,z];omega⟩)
   ·refine ax ?_;exact xhq (H _ _ _ ⟨y,n,rfl,rfl,rfl,om,om,M⟩)
 ·refine xlq rfl (fun O=>?_) (fun O=>?_)
  ·refine ax ?_;refine xmn (a:=x) (s:=32) rfl rfl rfl trivial trivial (show _<=64 from by omega) ?_;refine ax ?_;have z:=Lib.bitLen_shift 32 x om om;exact xhq (H _ _ _ ⟨x / 2^32,32,rfl,rfl,rfl,om,om,by rw[z]⟩)
  ·refine ax ?_;exact xhq (H _ _ _ ⟨x,0,rfl,rfl,rfl,om,om,om⟩)
theorem Q1{md:Md}{h:Heap}{p:Ab}(hp:Per p h)(x:Nat)(M:0<x/\x<18446744073709551616){tT:TypeId}{zT:Nat×Nat}(Z:p 5=some (.cells (Lib.pow10Tab.map (Value.int .u64)).toArray tT zT)):
 Aa prog md 270 #[.int .u64 ((x:Nat):Int)] h fun v h'=>v=.J ((Lib.nDigits x:Nat):Int)/\Af h h':=by
 have O:=Lib.numDigits_eq x M.1 M.2;have hb:Lib.bitLen x<=64:=Lib.bitLen_le x 64 (Nat.le_refl _) M.2;refine xdq hp func270 fun _ _ _ K=>?_;refine xiq rfl rfl (fun _ H=>d316 H x M.2) ?_;refine ax ?_;refine xiq rfl rfl (fun _ H=>c315 H hb) ?_;refine ax ?_;refine xp9 (len:=20) (e:=273) (i:=Lib.l10 (Lib.bitLen x)) (c:=⟨5,0,none⟩) k_ rfl rfl om ?_;refine xoz rfl (ysg Z om) ?_;refine ax ?_;refine xiq rfl rfl (fun _ H=>c317 H) ?_;have e:(if((10^Lib.l10 (Lib.bitLen x):Nat):Int)<=((x:Nat):Int)then(1:Int)else 0)=((if 10^Lib.l10 (Lib.bitLen x)<=x then 1 else 0:Nat):Int):=by split<;>split<;>omega
 rw[e];have e2:(if 10^Lib.l10 (Lib.bitLen x)<=x then 1 else 0)<=1:=by split<;>omega
 generalize (if 10^Lib.l10 (Lib.bitLen x)<=x then 1 else 0)=w at O e2;refine ax ?_;exact K.r rfl rfl fun _ V=>⟨by rw[<- O.1];rfl,V.kept⟩
theorem Uq{md:Md}{h:Heap}{p:Ab}(O:Per p h)(x:Nat)(hx:x<100):Aa prog md 269 #[.J ((x:Nat):Int)] h fun v V=>v=sv (Dk x)/\Af h V:=by
 refine xdq O func269 fun _ _ _ K=>?_;refine xlq rfl (fun M=>?_) (fun M=>?_)
 ·refine ax ?_;refine xw9 (ss:=[]) (a:=Lib.digits36.data.toList) x (x+1) rfl k_ rfl rfl trivial trivial trivial ⟨om,by show x+1<=Lib.digits36.size;rw[Lib.digits36_size];omega⟩ ?_;refine ax ?_;exact K.r rfl rfl fun _ H=>⟨by rw[Lib.digits36_piece om,<- xkp];rfl,H.kept⟩
 ·refine ax ?_;refine xw9 (ss:=[]) (a:=Lib.smalls.data.toList) (x*2) (x*2+2) rfl k_ rfl rfl trivial trivial trivial ⟨om,by show x*2+2<=Lib.smalls.size;rw[Lib.smalls_size];omega⟩ ?_;refine ax ?_;exact K.r rfl rfl fun _ H=>⟨by rw[Lib.smalls_piece om om,<- xkp];rfl,H.kept⟩
set_option maxHeartbeats 4000000 in
theorem c271{md:Md}{h z9:Heap}{zz:List Nat}{p:Ab}{zx:Pcs}(b:Nat)(A:List Value){Z:List Value}{V:Array UInt8}(c M u:Nat){T:TypeId}(hn:V.size=M/\M<=20/\u<10^M/\u<18446744073709551616)
 (a3:St z9 zz p h ([(b,.cells (A++(Fr V++Z)).toArray T (0,0))]++zx)):
 Aa prog md 271 #[.slice (some ⟨b,A.length,none⟩) M c,.int .u64 ((u:Nat):Int)] h fun _ h'=>∃X',(∃v d,X'=[(b,.cells (A++(Fr d++Z)).toArray T (0,0))]/\Lib.FmtInv M u 0 v d)/\St z9 zz p h' (X'++zx):=by
 obtain⟨a4,b0,hu,a2⟩:=hn;have F0:Lib.FmtInv M u M u V:=by have z:=Lib.FmtInv.start V u (by rw[a4];exact hu);rwa[a4]at z
 refine xkj a3 func271 fun _ _ _ K=>?_;refine ax ?_;refine xmq (fun m_ l p_ L_=>∃(O v:Nat)(d:Array UInt8),m_=O/\l=[(0,none,.slice (some ⟨b,A.length,none⟩) M c),(1,none,.int .u64 ((v:Nat):Int)),(4,none,.J ((O:Nat):Int))]/\p_=p/\L_=[[(b,.cells (A++(Fr d++Z)).toArray T (0,0))],zx]/\v<18446744073709551616/\Lib.FmtInv M u O v d) ⟨M,u,V,rfl,rfl,rfl,rfl,a2,F0⟩ sb ?_;rintro O _ p _ IH ⟨_,v,d,rfl,rfl,rfl,rfl,a8,F⟩;have zd:=F.size;have le:=F.le;refine cq (fun cc=>?_) (fun cc=>?_)
 ·obtain⟨m,rfl⟩:∃m,O=m+8:=⟨O-8,om⟩
  refine ax ?_;refine xmg 100000000 rfl rfl rfl om ?_;refine xnk (k':=.u32) ⟨_,underlying273⟩ underlying276 rfl (Gb om) ?_;refine ax ?_;refine xng 100000000 rfl rfl rfl om (N9 om) ?_;refine ax ?_;refine xng 10000 rfl rfl rfl om (Gb om) ?_;refine ax ?_;refine xmg 10000 rfl rfl rfl om ?_;refine ax ?_;refine xng 100 rfl rfl rfl om (Gb om) ?_;refine xrv rfl rfl ⟨Gb om,trivial⟩ ?_;refine ax ?_;refine xmg 100 rfl rfl rfl om ?_;refine xrv rfl rfl ⟨Gb om,trivial⟩ ?_;refine ax ?_;refine xng 100 rfl rfl rfl om (Gb om) ?_;refine xrv rfl rfl ⟨Gb om,trivial⟩ ?_;refine ax ?_;refine xmg 100 rfl rfl rfl om ?_;refine xrv rfl rfl ⟨Gb om,trivial⟩ ?_;refine ax ?_;refine xuv [12] R13 b ?_;refine ex ?_;refine xmf rfl rfl rfl ⟨Gb om,trivial⟩ ?_;refine xkk (ss:=[]) (a:=SM) rfl rfl k_ rfl trivial trivial ⟨om,by rw[xew];omega⟩ ?_;refine ex ?_;refine xkk (ss:=[]) (a:=SM) rfl rfl k_ rfl trivial trivial ⟨om,by rw[xew];omega⟩ ?_;refine xe2 rfl rfl rfl om om ?_;refine xch rfl rfl rfl ?_ (hlen:=?_);rotate_left
  ·rw[xvj];show _+1<=_;omega
  refine ex ?_;refine xus rfl rfl om om ?_;refine xnc rfl rfl ?_ (hlen:=?_);rotate_left
  ·rw[xzx,xvj];show _+1<=_;omega
  rw[xzw (d:=d) (j1:=m+6+1) (j2:=m+6) (b1:=Lib.sm (v%100*2+1)) (b2:=Lib.sm (v%100*2)) om om (xdw om) om om (xdw om)];have F1:=F.step2' (k:=m+6);generalize (d.setIfInBounds (m+6+1) (Lib.sm (v%100*2+1))).setIfInBounds (m+6) (Lib.sm (v%100*2))=d1 at F1⊢;have a5:=F1.size;refine ax ?_;refine xuv [12] R13 b ?_;refine ex ?_;refine xmf rfl rfl rfl ⟨Gb om,trivial⟩ ?_;refine xkk (ss:=[]) (a:=SM) rfl rfl k_ rfl trivial trivial ⟨om,by rw[xew];omega⟩ ?_;refine ex ?_;refine xkk (ss:=[]) (a:=SM) rfl rfl k_ rfl trivial trivial ⟨om,by rw[xew];omega⟩ ?_;refine xe2 rfl rfl rfl om om ?_;refine xch rfl rfl rfl ?_ (hlen:=?_);rotate_left
  ·rw[xvj];show _+1<=_;omega
  refine ex ?_;refine xus rfl rfl om om ?_;refine xnc rfl rfl ?_ (hlen:=?_);rotate_left
  ·rw[xzx,xvj];show _+1<=_;omega
  rw[xzw (d:=d1) (j1:=m+4+1) (j2:=m+4) (b1:=Lib.sm (v / 100%100*2+1)) (b2:=Lib.sm (v / 100%100*2)) om om (xdw om) om om (xdw om)];have F2:=F1.step2' (k:=m+4);generalize (d1.setIfInBounds (m+4+1) (Lib.sm (v / 100%100*2+1))).setIfInBounds (m+4) (Lib.sm (v / 100%100*2))=d2 at F2⊢;have a7:=F2.size;refine ax ?_;refine xuv [12] R13 b ?_;refine ex ?_;refine xmf rfl rfl rfl ⟨Gb om,trivial⟩ ?_;refine xkk (ss:=[]) (a:=SM) rfl rfl k_ rfl trivial trivial ⟨om,by rw[xew];omega⟩ ?_;refine ex ?_;refine xkk (ss:=[]) (a:=SM) rfl rfl k_ rfl trivial trivial ⟨om,by rw[xew];omega⟩ ?_;refine xe2 rfl rfl rfl om om ?_;refine xch rfl rfl rfl ?_ (hlen:=?_);rotate_left
  ·rw[xvj];show _+1<=_;omega
  refine ex ?_;refine xus rfl rfl om om ?_;refine xnc rfl rfl ?_ (hlen:=?_);rotate_left
  ·rw[xzx,xvj];show _+1<=_;omega
  rw[xzw (d:=d2) (j1:=m+2+1) (j2:=m+2) (b1:=Lib.sm (v / 100 / 100%100*2+1)) (b2:=Lib.sm (v / 100 / 100%100*2)) om om (xdw om) om om (xdw om)];have F3:=F2.step2' (k:=m+2);generalize (d2.setIfInBounds (m+2+1) (Lib.sm (v / 100 / 100%100*2+1))).setIfInBounds (m+2) (Lib.sm (v / 100 / 100%100*2))=d3 at F3⊢;have b3:=F3.size;refine ax ?_;refine xuv [12] R13 b ?_;refine ex ?_;refine xmf rfl rfl rfl ⟨Gb om,trivial⟩ ?_;refine xkk (ss:=[]) (a:=SM) rfl rfl k_ rfl trivial trivial ⟨om,by rw[xew];omega⟩ ?_;refine ex ?_;refine xkk (ss:=[]) (a:=SM) rfl rfl k_ rfl trivial trivial ⟨om,by rw[xew];omega⟩ ?_;refine xe2 rfl rfl rfl om om ?_;refine xch rfl rfl rfl ?_ (hlen:=?_);rotate_left
  ·rw[xvj];show _+1<=_;omega
  refine ex ?_;refine xus rfl rfl om om ?_;refine xnc rfl rfl ?_ (hlen:=?_);rotate_left
  ·rw[xzx,xvj];show _+1<=_;omega
  rw[xzw (d:=d3) (j1:=m+1) (j2:=m) (b1:=Lib.sm (v / 100 / 100 / 100%100*2+1)) (b2:=Lib.sm (v / 100 / 100 / 100%100*2)) om om (xdw om) om om (xdw om)];have F4:=F3.step2' (k:=m);generalize (d3.setIfInBounds (m+1) (Lib.sm (v / 100 / 100 / 100%100*2+1))).setIfInBounds (m) (Lib.sm (v / 100 / 100 / 100%100*2))=d4 at F4⊢;have a9:=F4.size;refine ax ?_;have e8:v / 100 / 100 / 100 / 100=v / 100000000:=om;rw[e8]at F4;exact xhq (IH _ _ _ (m':=m) om ⟨m,v / 100000000,d4,rfl,by rw[show((m:Nat):Int)=((m+8:Nat):Int)-8 by omega],rfl,rfl,om,F4⟩)
 have v7:=F.lt7 om;refine ax ?_;refine xnk (k':=.u32) ⟨_,underlying273⟩ underlying276 rfl (Gb om) ?_;refine ax ?_;refine xiz (fun l' p' LL'=>∃(O v:Nat)(d:Array UInt8),l'=[(0,none,.slice (some ⟨b,A.length,none⟩) M c),(4,none,.J ((O:Nat):Int)),(12,none,.int .u32 ((v:Nat):Int))]/\p'=p/\LL'=[[(b,.cells (A++(Fr d++Z)).toArray T (0,0))],zx]/\O<4/\Lib.FmtInv M u O v d) ?_ fun k' H=>?_
 ·rintro _ p _ ⟨O,v,d,rfl,rfl,rfl,a6,F⟩;have zd:=F.size;have le:=F.le;have v7:=F.lt7 om;refine ax ?_;refine xiz (fun l' p' LL'=>∃(O v:Nat)(d:Array UInt8),l'=[(0,none,.slice (some ⟨b,A.length,none⟩) M c),(4,none,.J ((O:Nat):Int)),(12,none,.int .u32 ((v:Nat):Int))]/\p'=p/\LL'=[[(b,.cells (A++(Fr d++Z)).toArray T (0,0))],zx]/\O<2/\Lib.FmtInv M u O v d) ?_ fun k' H=>?_
  ·rintro _ p _ ⟨O,v,d,rfl,rfl,rfl,a6,F⟩;have zd:=F.size;have le:=F.le;refine cq (fun cc=>?_) (fun cc=>?_)
   ·obtain rfl:O=1:=om;have v9:v<10:=by simpa using F.small
    refine ax ?_;refine xrv rfl rfl ⟨Gb om,trivial⟩ ?_;refine xnk (k':=.u8) ⟨_,underlying276⟩ underlying5 rfl (wr8 om) ?_;refine xus rfl rfl om om ?_;refine xnc rfl rfl ?_ (hlen:=?_);rotate_left
    ·rw[xvj];show _+1<=_;omega
    rw[xsp (d:=d) (j:=0) (b:=UInt8.ofNat (48+v)) om om (by rw[u8n om];congr 1)];refine ax ?_;exact xrb func271 rfl fun _ H_=>K _ _ ⟨_,⟨_,_,rfl,F.step1⟩,xfg H_⟩
   ·obtain rfl:O=0:=om;refine ax ?_;exact xrb func271 rfl fun _ H_=>K _ _ ⟨_,⟨_,_,rfl,F⟩,xfg H_⟩
  ·refine xlq rfl (fun cc=>?_) (fun cc=>?_)
   ·obtain⟨m,rfl⟩:∃m,O=m+2:=⟨O-2,om⟩
    refine ax ?_;refine xmg 100 rfl rfl rfl om ?_;refine xrv rfl rfl ⟨Gb om,trivial⟩ ?_;refine ax ?_;refine xng 100 rfl rfl rfl om (Gb om) ?_;refine ax ?_;refine xuv [12] R13 b ?_;refine ex ?_;refine xmf rfl rfl rfl ⟨Gb om,trivial⟩ ?_;refine xkk (ss:=[]) (a:=SM) rfl rfl k_ rfl trivial trivial ⟨om,by rw[xew];omega⟩ ?_;refine ex ?_;refine xkk (ss:=[]) (a:=SM) rfl rfl k_ rfl trivial trivial ⟨om,by rw[xew];omega⟩ ?_;refine xe2 rfl rfl rfl om om ?_;refine xch rfl rfl rfl ?_ (hlen:=?_);rotate_left
    ·rw[xvj];show _+1<=_;omega
    refine ex ?_;refine xus rfl rfl om om ?_;refine xnc rfl rfl ?_ (hlen:=?_);rotate_left
    ·rw[xzx,xvj];show _+1<=_;omega
    rw[xzw (d:=d) (j1:=m+1) (j2:=m) (b1:=Lib.sm (v%100*2+1)) (b2:=Lib.sm (v%100*2)) om om (xdw om) om om (xdw om)];have F1:=F.step2' (k:=m);generalize (d.setIfInBounds (m+1) (Lib.sm (v%100*2+1))).setIfInBounds (m) (Lib.sm (v%100*2))=d1 at F1⊢;have a5:=F1.size;refine ax ?_;exact xhq (H _ _ _ ⟨m,v / 100,d1,by rw[show((m:Nat):Int)=((m+2:Nat):Int)-2 by omega],rfl,rfl,om,F1⟩)
   ·refine ax ?_;exact xhq (H _ _ _ ⟨O,v,d,rfl,rfl,rfl,om,F⟩)
 ·refine xlq rfl (fun cc=>?_) (fun cc=>?_)
  ·obtain⟨m,rfl⟩:∃m,O=m+4:=⟨O-4,om⟩
   refine ax ?_;refine xmg 10000 rfl rfl rfl om ?_;refine ax ?_;refine xng 10000 rfl rfl rfl om (Gb om) ?_;refine ax ?_;refine xng 100 rfl rfl rfl om (Gb om) ?_;refine xrv rfl rfl ⟨Gb om,trivial⟩ ?_;refine ax ?_;refine xmg 100 rfl rfl rfl om ?_;refine xrv rfl rfl ⟨Gb om,trivial⟩ ?_;refine ax ?_;refine xuv [12] R13 b ?_;refine ex ?_;refine xmf rfl rfl rfl ⟨Gb om,trivial⟩ ?_;refine xkk (ss:=[]) (a:=SM) rfl rfl k_ rfl trivial trivial ⟨om,by rw[xew];omega⟩ ?_;refine ex ?_;refine xkk (ss:=[]) (a:=SM) rfl rfl k_ rfl trivial trivial ⟨om,by rw[xew];omega⟩ ?_;refine xe2 rfl rfl rfl om om ?_;refine xch rfl rfl rfl ?_ (hlen:=?_);rotate_left
   ·rw[xvj];show _+1<=_;omega
   refine ex ?_;refine xus rfl rfl om om ?_;refine xnc rfl rfl ?_ (hlen:=?_);rotate_left
   ·rw[xzx,xvj];show _+1<=_;omega
   rw[xzw (d:=d) (j1:=m+2+1) (j2:=m+2) (b1:=Lib.sm (v%100*2+1)) (b2:=Lib.sm (v%100*2)) om om (xdw om) om om (xdw om)];have F1:=F.step2' (k:=m+2);generalize (d.setIfInBounds (m+2+1) (Lib.sm (v%100*2+1))).setIfInBounds (m+2) (Lib.sm (v%100*2))=d1 at F1⊢;have a5:=F1.size;refine ax ?_;refine xuv [12] R13 b ?_;refine ex ?_;refine xmf rfl rfl rfl ⟨Gb om,trivial⟩ ?_;refine xkk (ss:=[]) (a:=SM) rfl rfl k_ rfl trivial trivial ⟨om,by rw[xew];omega⟩ ?_;refine ex ?_;refine xkk (ss:=[]) (a:=SM) rfl rfl k_ rfl trivial trivial ⟨om,by rw[xew];omega⟩ ?_;refine xe2 rfl rfl rfl om om ?_;refine xch rfl rfl rfl ?_ (hlen:=?_);rotate_left
   ·rw[xvj];show _+1<=_;omega
   refine ex ?_;refine xus rfl rfl om om ?_;refine xnc rfl rfl ?_ (hlen:=?_);rotate_left
   ·rw[xzx,xvj];show _+1<=_;omega
   rw[xzw (d:=d1) (j1:=m+1) (j2:=m) (b1:=Lib.sm (v / 100%100*2+1)) (b2:=Lib.sm (v / 100%100*2)) om om (xdw om) om om (xdw om)];have F2:=F1.step2' (k:=m);generalize (d1.setIfInBounds (m+1) (Lib.sm (v / 100%100*2+1))).setIfInBounds (m) (Lib.sm (v / 100%100*2))=d2 at F2⊢;have a7:=F2.size;refine ax ?_;have e4:v / 100 / 100=v / 10000:=om;rw[e4]at F2;exact xhq (H _ _ _ ⟨m,v / 10000,d2,by rw[show((m:Nat):Int)=((m+4:Nat):Int)-4 by omega],rfl,rfl,om,F2⟩)
  ·refine ax ?_;exact xhq (H _ _ _ ⟨O,v,d,rfl,rfl,rfl,om,F⟩)
section
variable{tT:TypeId}{zT:Nat×Nat}
theorem V8{md:Md}{h:Heap}{p:Ab}(hp:Per p h)(n:Int)(hn: -9223372036854775808<=n/\n<=9223372036854775807)(Z:p 5=some (.cells (Lib.pow10Tab.map (Value.int .u64)).toArray tT zT)):
 Aa prog md 231 #[.J n,.J 10] h fun v h'=>v=sv (txt n)/\Af h h':=by
 refine xdq hp func231 fun _ _ _ K=>?_;refine xlq rfl (fun _=>?_) (fun M=>absurd rfl M);refine cq (fun M=>?_) (fun M=>?_)
 ·obtain⟨x,rfl⟩:∃x:Nat,n=((x:Nat):Int):=⟨n.toNat,om⟩
  refine ax ?_;refine xiq rfl rfl (fun _ pe=>Uq pe x om) ?_;refine ax ?_;exact K.r rfl rfl fun _ H_=>⟨by rw[xg8];rfl,H_.kept⟩
 refine lq fun V=>?_;refine ax ?_;have key:∀m:Nat,0<m->m<18446744073709551616->Lib.nDigits m<=20/\1<=Lib.nDigits m/\m<10^Lib.nDigits m:=fun m h0 h1=>by
  have hd:=Lib.numDigits_eq m h0 h1;exact⟨by rw[<- hd.1];split<;>omega,Lib.nDigits_pos m,Lib.lt_pow_nDigits m⟩
 by_cases H:n<0
 ·obtain⟨m,rfl⟩:∃m:Nat,n= -((m:Nat):Int):=⟨n.natAbs,om⟩
  obtain⟨k1,k2,k3⟩:=key m om om;refine xil ((18446744073709551616-m:Nat):Int) rfl (by rw[yfk];omega) ?_ (hs:=⟨_,underlying2⟩);refine ax ?_;refine xlq rfl (fun _=>?_) (fun M=>absurd H M);refine ax ?_;refine ysc (a:=18446744073709551616-m) rfl om ?_;rw[show 18446744073709551616-(18446744073709551616-m)=m by omega];refine ax ?_;refine xiq rfl rfl (fun _ pe=>Q1 pe m om Z) ?_;refine ax ?_;refine xf9 (n:=24) (e:=5) (i:=1) (r:=1+Lib.nDigits m) rfl rfl rfl om om d_ k_ ?_;rw[show 1+Lib.nDigits m-1=Lib.nDigits m by omega];refine ax ?_;refine xup (LL':=[[(V,.cells (List.replicate 1 (Value.int .u8 0)++(Fr (Array.replicate (Lib.nDigits m) 0)++List.replicate (24-1-Lib.nDigits m) (Value.int .u8 0))).toArray 293 (0,0))]]) ?_ (fun h s=>by rw[<- xbs om];exact s);refine xjl [(V,.cells (List.replicate 1 (Value.int .u8 0)++(Fr (Array.replicate (Lib.nDigits m) 0)++List.replicate (24-1-Lib.nDigits m) (Value.int .u8 0))).toArray 293 (0,0))] rfl rfl (fun h C s=>c271 V (List.replicate 1 (Value.int .u8 0)) (24-1) (Lib.nDigits m) m ⟨s_,k1,k3,om⟩ s) ?_;rintro v _ ⟨w,d,rfl,F⟩;refine ax ?_;refine xlq rfl (fun _=>?_) (fun M=>absurd H M);refine ax ?_;refine xo3 (len:=24) (e:=5) (i:=0) k_ rfl rfl d_ ?_;refine xnc rfl rfl ?_ (hlen:=?_);rotate_left
  ·show 0+0*1+1<=([_]++_:List Value).length;simp
  refine ax ?_;refine yvf (n:=24) (e:=5) (r:=1+Lib.nDigits m) rfl rfl om d_ k_ ?_;have el:1+Lib.nDigits m=(45::Dk m).length:=by rw[List.length_cons,xo0];omega
  rw[el];refine xw0 rfl (fun j v O=>?_) ?_
  ·rw[xa5 F];rw[show(bcs (45::Dk m)).flatten=Value.int .u8 45::(bcs (Dk m)).flatten from rfl]at O;show(Value.int .u8 45::((bcs (Dk m)).flatten++_)).toArray[0+j]?=some v;rw[Nat.zero_add,List.getElem?_toArray,<- List.cons_append,List.getElem?_append_left (List.getElem?_eq_some_iff.1 O).1];exact O
  refine ax ?_;exact K.r rfl rfl fun _ H_=>⟨by rw[ydf om];rfl,H_.kept⟩
 ·obtain⟨m,rfl⟩:∃m:Nat,n=((m:Nat):Int):=⟨n.toNat,om⟩
  obtain⟨k1,k2,k3⟩:=key m om om;refine xil ((m:Nat):Int) rfl (N9 om) ?_ (hs:=⟨_,underlying2⟩);refine ax ?_;refine xlq rfl (fun M=>absurd M H) (fun _=>?_);refine ax ?_;refine xiq rfl rfl (fun _ pe=>Q1 pe m om Z) ?_;refine ax ?_;refine xf9 (n:=24) (e:=5) (i:=1) (r:=1+Lib.nDigits m) rfl rfl rfl om om d_ k_ ?_;rw[show 1+Lib.nDigits m-1=Lib.nDigits m by omega];refine ax ?_;refine xup (LL':=[[(V,.cells (List.replicate 1 (Value.int .u8 0)++(Fr (Array.replicate (Lib.nDigits m) 0)++List.replicate (24-1-Lib.nDigits m) (Value.int .u8 0))).toArray 293 (0,0))]]) ?_ (fun h s=>by rw[<- xbs om];exact s);refine xjl [(V,.cells (List.replicate 1 (Value.int .u8 0)++(Fr (Array.replicate (Lib.nDigits m) 0)++List.replicate (24-1-Lib.nDigits m) (Value.int .u8 0))).toArray 293 (0,0))] rfl rfl (fun h C s=>c271 V (List.replicate 1 (Value.int .u8 0)) (24-1) (Lib.nDigits m) m ⟨s_,k1,k3,om⟩ s) ?_;rintro v _ ⟨w,d,rfl,F⟩;refine ax ?_;refine xlq rfl (fun M=>absurd M H) (fun _=>?_);refine ax ?_;refine xf9 (n:=24) (e:=5) (i:=1) (r:=1+Lib.nDigits m) rfl rfl rfl om om d_ k_ ?_;rw[show 1+Lib.nDigits m-1=(Dk m).length by rw[xo0];omega];refine xw0 rfl (fun j v O=>?_) ?_
  ·rw[xa5 F];show(Value.int .u8 0::((bcs (Dk m)).flatten++_)).toArray[0+1*1+j]?=some v;rw[show 0+1*1+j=j+1 by omega,List.getElem?_toArray,List.getElem?_cons_succ,List.getElem?_append_left (List.getElem?_eq_some_iff.1 O).1];exact O
  refine ax ?_;exact K.r rfl rfl fun _ H_=>⟨by rw[xg8];rfl,H_.kept⟩
theorem Va{md:Md}{h:Heap}{p:Ab}(M:Per p h)(n:Int)(hn: -9223372036854775808<=n/\n<=9223372036854775807)(Z:p 5=some (.cells (Lib.pow10Tab.map (Value.int .u64)).toArray tT zT)):
 Aa prog md 167 #[.J n] h fun v O=>v=sv (txt n)/\Af h O:=by
 refine xdq M func167 fun _ _ _ K=>?_;refine xiq rfl rfl (fun _ V=>V8 V n hn Z) ?_;refine ax ?_;exact K.r rfl rfl fun _ H=>⟨rfl,H.kept⟩
theorem c82{md:Md}{h:Heap}{p:Ab}(M:Per p h)(n:Int)(hn: -9223372036854775808<=n/\n<=9223372036854775807)(Z:p 5=some (.cells (Lib.pow10Tab.map (Value.int .u64)).toArray tT zT)):
 Aa prog md 82 #[.J n] h fun v O=>v=sv (txt n)/\Af h O:=by
 refine xdq M func82 fun _ _ _ K=>?_;refine xiq rfl rfl (fun _ V=>Va V n hn Z) ?_;refine ax ?_;exact K.r rfl rfl fun _ H=>⟨rfl,H.kept⟩
end
def On(v:Value):Prop:=∃(n:Int)(e:Value),v=.tuple #[.J n,e]/\(-9223372036854775808<=n/\n<=9223372036854775807)/\isE e
set_option maxHeartbeats 1000000 in
theorem c302{md:Md}{h:Heap}{p:Ab}(hp:Per p h)(s:Str)(hs:s.length<=900):
 Aa prog md 302 #[sv s,.J 10,.J 0] h fun v h'=>Ar p h (fun v _=>On v) v h':=by
 have M:∀{V:Heap}{p':Ab}{L:Pcs}(n:Int)(e:Value),St h [] p' V L->PG h.size [] p p'->(-9223372036854775808<=n/\n<=9223372036854775807)->isE e->Ar p h (fun v _=>On v) (.tuple #[.J n,e]) V:=fun n e H g hn he=>xwq H g ⟨n,e,rfl,hn,he⟩;refine xdq hp func302 fun _ _ _ K=>?_;refine xlq rfl (fun cc=>?_) (fun cc=>?_)
 ·refine ax ?_;refine xib rfl rfl trivial underlying323 ?_;refine ax ?_;exact K.r rfl rfl fun V O=>(M 0 (eV 2) O (.refl _ _ _) d_ (.inr (.inr rfl)))
 have a2:0<s.length:=by cases s with|nil=>exact absurd rfl cc|cons a t=>simp
 refine ax ?_;refine xmk rfl rfl rfl trivial trivial ⟨d_,om⟩ ?_;refine ax ?_;refine xiz (fun l' p_ L_=>∃(s':Str)(q:Bool),l'=[(0,none,sv s'),(1,none,.J 10),(2,none,.J 0),(8,none,.bool q)]/\p_=p/\L_=[]/\s'.length<=900) ?_ fun k' H=>?_
 ·rintro _ p _ ⟨s',q,rfl,rfl,rfl,a3⟩;refine ax ?_;refine xvx rfl rfl (fun h pe=>Uj pe s' a3) ?_;rintro _ p' g ⟨n,e,rfl,hn,he⟩;refine ax ?_;rcases he with rfl|rfl|rfl<;>
  ·refine xy0 rfl rfl trivial s_ underlying227 ?_;refine ax ?_;refine xib rfl rfl sdu underlying323 ?_
   first
    |refine yxf rfl rfl rfl sdu sdu underlying227 k_ underlying323 ?_
    |refine xob (.bool false) rfl ?_
   refine cq (fun cd=>?_) (fun cd=>?_)
   ·first
     |(simp[E6]at cd;done)
     |(refine ax ?_
       exact K.r rfl rfl fun V O=>(M 0 (eV 2) O g d_ (.inr (.inr rfl))))
   ·first
     |(simp[E6]at cd;done)
     |(refine ax ?_
       refine xlq rfl (fun _=>?_) (fun cc=>absurd d_ cc);refine ax ?_;refine xnk (k':=.u64) ⟨_,underlying3⟩ underlying209 rfl d_ ?_;refine yqc (s:=63) (w:=9223372036854775808) rfl rfl d_ ?_;refine cq (fun ce=>?_) (fun ce=>?_)
       ·refine ax ?_;refine xil (k':=.i64) 9223372036854775807 rfl d_ ?_ (hs:=⟨_,underlying273⟩);refine xib rfl rfl trivial underlying323 ?_;refine ax ?_;exact K.r rfl rfl fun V O=>(M 9223372036854775807 (eV 1) O g d_ (.inr (.inl rfl)))
       refine cq (fun cf=>?_) (fun cf=>?_)
       ·refine ax ?_;refine xil (k':=.i64) (-9223372036854775808) rfl d_ ?_ (hs:=⟨_,underlying273⟩);refine xn3 (-9223372036854775808) rfl d_ ?_;refine xib rfl rfl trivial underlying323 ?_;refine ax ?_;exact K.r rfl rfl fun V O=>(M (-9223372036854775808) (eV 1) O g d_ (.inr (.inl rfl)))
       refine ax ?_;refine xil (IntKind.i64.wrap ((n:Nat):Int)) rfl rfl ?_ (hs:=⟨_,underlying273⟩);refine cq (fun cf=>?_) (fun cf=>?_)
       ·refine ax ?_;refine xn3 (IntKind.i64.wrap (0-IntKind.i64.wrap ((n:Nat):Int))) rfl rfl ?_;refine ax ?_;exact K.r rfl rfl fun V O=>(M _ .nilIface O g (wrap64 _) (.inl rfl))
       refine ax ?_;exact K.r rfl rfl fun V O=>(M _ .nilIface O g (wrap64 _) (.inl rfl)))
 ·refine xlq rfl (fun cd=>?_) (fun cd=>?_)
  ·refine ax ?_;refine xdc (j:=1) rfl rfl rfl trivial trivial a2 ?_;refine ax ?_;exact xhq (H _ _ _ ⟨s.drop 1,false,rfl,rfl,rfl,by rw[List.length_drop];omega⟩)
  refine cq (fun ce=>?_) (fun ce=>?_)
  ·refine ax ?_;refine xdc (j:=1) rfl rfl rfl trivial trivial a2 ?_;refine ax ?_;exact xhq (H _ _ _ ⟨s.drop 1,true,rfl,rfl,rfl,by rw[List.length_drop];omega⟩)
  ·refine ax ?_;exact xhq (H _ _ _ ⟨s,false,rfl,rfl,rfl,hs⟩)
def Ot(s:Str)(v:Value):Prop:=∃(n:Int)(e:Value),v=.tuple #[.J n,e]/\(-9223372036854775808<=n/\n<=9223372036854775807)/\isE e/\ ∀k,C8 s=some k->n=k/\e=.nilIface
set_option maxHeartbeats 1000000 in
theorem c250{md:Md}{h:Heap}{p:Ab}(hp:Per p h)(s:Str)(hs:s.length<=900):
 Aa prog md 250 #[sv s] h fun v h'=>Ar p h (fun v _=>Ot s v) v h':=by
 have a2:∀{h_:Heap}{p':Ab}{L:Pcs}(n:Int)(e:Value),St h [] p' h_ L->PG h.size [] p p'->(-9223372036854775808<=n/\n<=9223372036854775807)->isE e->(∀k,C8 s=some k->n=k/\e=.nilIface)->Ar p h (fun v _=>Ot s v) (.tuple #[.J n,e]) h_:=fun n e H g hn he O=>xwq H g ⟨n,e,rfl,hn,he,O⟩;refine xdq hp func250 fun _ _ _ K=>?_;refine xlq rfl (fun cc=>?_) (fun cc=>?_)
 ·have hl:0<s.length/\s.length<19:=by simp at cc;omega
  refine ax ?_;refine xmk rfl rfl rfl trivial trivial ⟨d_,om⟩ ?_;refine ax ?_;refine xmk rfl rfl rfl sdu sdu (fun _=>⟨d_,om⟩) ?_;refine ax ?_;have h0:(s.getD (Int.toNat 0) 0).toNat=(s.headD 0).toNat:=by cases s<;>rfl
  rw[h0];have a3:((((s.headD 0).toNat:Nat):Int)=45)<->s.headD 0=45:=by
   constructor
   ·intro z;exact UInt8.toNat_inj.1 (by show _=45;omega)
   ·intro z;rw[z];rfl
  have a7:((((s.headD 0).toNat:Nat):Int)=43)<->s.headD 0=43:=by
   constructor
   ·intro z;exact UInt8.toNat_inj.1 (by show _=43;omega)
   ·intro z;rw[z];rfl
  refine xiz (fun l' p_ L_=>∃M:Str,l'=[(0,none,sv M),(5,none,sv s)]/\p_=p/\L_=[]/\0<M.length/\M.length<=18/\Sp s M) ?_ fun k' H=>?_
  ·rintro _ p _ ⟨M,rfl,rfl,rfl,b3,b6,a5⟩;refine ax ?_;refine yhn rfl b3 underlying9 underlying5 fun p' c cap g S b4=>?_;have S1:Sl p' c M.length 1 (bcs M):=S;refine ax ?_;refine xsq (fun m_ l=>∃j acc:Nat,m_=M.length-j/\l=[(5,none,sv s),(6,none,.J ((acc:Nat):Int)),(47,none,.slice c M.length cap),(48,none,.J ((M.length:Nat):Int)),(49,none,.J ((j:Nat):Int))]/\j<=M.length/\acc<10^j/\Ev 0 M=Ev acc (M.drop j)) ⟨0,0,rfl,rfl,Nat.zero_le _,d_,rfl⟩ sb ?_;rintro _ _ IH ⟨j,acc,rfl,rfl,hj,b5,hN⟩;refine cq (fun V=>?_) (fun V=>?_)
   ·have a4:j<M.length:=om;have b0:10^j<=10^17:=Nat.pow_le_pow_right d_ om;have b8:(10:Nat)^17=100000000000000000:=by decide
    rw[ycx a4]at hN;refine ax ?_;refine xoz rfl (Nq.get S a4) ?_;have a9:(M.getD j 0).toNat<256:=(M.getD j 0).toNat_lt;have a6:=xaf (c:=M.getD j 0);generalize M.getD j 0=b at a9 a6 hN⊢;refine ax ?_;refine ypc (((b.toNat+208)%256:Nat):Int) rfl rfl (by rw[yrr];omega) ?_;refine cq (fun ce=>?_) (fun ce=>?_)
    ·have a8:Ep b=false:=by rw[Bool.eq_false_iff];intro z;have:=a6.1 z;omega
     rw[a8]at hN;refine ax ?_;refine xib rfl rfl trivial underlying323 ?_;refine ax ?_;exact K.r rfl rfl fun h_ H_=>(a2 0 (eV 2) H_ g d_ (.inr (.inr rfl)) fun k O=>by
      obtain⟨m,h1,_⟩:=a5 k O;rw[hN]at h1;cases h1)
    have hd:48<=b.toNat/\b.toNat<=57:=om;rw[a6.2 hd,if_pos rfl]at hN;refine ax ?_;refine xnk (k':=.i64) ⟨_,underlying5⟩ underlying3 rfl (wrZ om) ?_;refine ax ?_;exact xhq (IH _ om ⟨j+1,10*acc+(b.toNat-48),rfl,by rw[show(((10*acc+(b.toNat-48):Nat)):Int)=((acc:Nat):Int)*10+(((b.toNat+208)%256:Nat):Int) by omega],om,by rw[Nat.pow_succ];omega,hN⟩)
   have a4:j=M.length:=om;have b0:10^j<=10^18:=Nat.pow_le_pow_right d_ om;have b7:(10:Nat)^18=1000000000000000000:=by decide
   rw[a4,List.drop_length,Ev]at hN;refine ax ?_;refine xmk rfl rfl rfl trivial trivial ⟨d_,om⟩ ?_;rw[h0];refine cq (fun ce=>?_) (fun ce=>?_)
   ·refine ax ?_;refine xn3 (-((acc:Nat):Int)) rfl (by rw[wrZ om];omega) ?_;refine ax ?_;exact K.r rfl rfl fun h_ H_=>(a2 _ .nilIface H_ g om (.inl rfl) fun k O=>by
     obtain⟨m,h1,h2⟩:=a5 k O;rw[hN]at h1;cases h1;rw[if_pos (a3.1 ce)]at h2;exact⟨h2.symm,rfl⟩)
   ·refine ax ?_;exact K.r rfl rfl fun h_ H_=>(a2 _ .nilIface H_ g om (.inl rfl) fun k O=>by
     obtain⟨m,h1,h2⟩:=a5 k O;rw[hN]at h1;cases h1;rw[if_neg (fun z=>ce (a3.2 z))]at h2;exact⟨h2.symm,rfl⟩)
  ·refine xlq rfl (fun V=>?_) (fun V=>?_)
   ·refine ax ?_;refine xdc (j:=1) rfl rfl rfl trivial trivial hl.1 ?_;refine cq (fun ce=>?_) (fun ce=>?_)
    ·rw[List.length_drop]at ce;refine ax ?_;refine xib rfl rfl trivial underlying323 ?_;refine ax ?_;exact K.r rfl rfl fun h_ H_=>(a2 0 (eV 2) H_ (.refl _ _ _) d_ (.inr (.inr rfl)) fun k O=>by
      exfalso;rcases V with V|V
      ·obtain⟨m,h1,_⟩:=Option.map_eq_some_iff.1 (show(Hz true s.tail).map (fun n:Nat=>-(n:Int))=some k by unfold C8 at O;rwa[if_pos (a3.1 V)]at O);have:=(xsb h1).2.1;rw[List.length_tail]at this;omega
      ·rw[xh4 (a7.1 V)]at O;cases O)
    ·rw[List.length_drop]at ce;refine ax ?_;exact xhq (H _ _ _ ⟨s.drop 1,rfl,rfl,rfl,by rw[List.length_drop];omega,by rw[List.length_drop];omega,by
      rcases V with V|V
      ·exact ytk (a3.1 V)
      ·intro k O;rw[xh4 (a7.1 V)]at O;cases O⟩)
   ·refine ax ?_;exact xhq (H _ _ _ ⟨s,rfl,rfl,rfl,hl.1,om,ysk fun z=>V (.inl (a3.2 z))⟩)
 ·have hl:¬ (0<s.length/\s.length<19):=fun z=>cc (by simp;omega);refine ax ?_;refine xvx rfl rfl (fun h pe=>c302 pe s hs) ?_;rintro _ p' g ⟨n,e,rfl,hn,he⟩;refine ax ?_;exact K.r rfl rfl fun h_ H_=>(a2 n e H_ g hn he fun k O=>absurd (ybw O) om)
section
variable{te tr:TypeId}{ue ur:Value}{tE tR tT:TypeId}{zE zR zT:Nat×Nat}
theorem Tq{md:Md}{h:Heap}{p:Ab}(hp:Per p h)(s:Str)(hs:s.length<=900)(E:p 8=some (.cells #[.iface te ue] tE zE))(R:p 9=some (.cells #[.iface tr ur] tR zR)):
 Aa prog md 198 #[sv s] h fun v h'=>(∃(n:Int)(e:Value),v=.tuple #[.J n,e]/\(-9223372036854775808<=n/\n<=9223372036854775807)/\(e=.nilIface\/ ∃t u,e=.iface t u)/\ ∀k,C8 s=some k->n=k/\e=.nilIface)/\Af h h':=by
 refine xdq hp func198 fun _ _ _ K=>?_;refine xrz rfl rfl (fun h V=>(c250 V s hs).mono fun _ _ x=>x.Cq) ?_;rintro _ ⟨_,n,e,rfl,hn,he,hk⟩;refine ax ?_;have O:∀i:Int,i=1\/i=2->e=eV i-> ∀k,C8 s=some k->False:=fun i _ ei k H=>by have:=(hk k H).2;rw[ei]at this;cases this
 rcases he with rfl|rfl|rfl
 ·refine xy0 rfl rfl trivial (.inl rfl) underlying227 ?_;refine ax ?_;refine xlq rfl (fun cd=>absurd rfl cd) (fun _=>?_);refine ax ?_;exact K.r rfl rfl fun _ M=>⟨⟨n,_,rfl,hn,.inl rfl,hk⟩,M.kept⟩
 all_goals
  refine xy0 rfl rfl trivial (.inr ⟨_,_,rfl⟩) underlying227 ?_;refine ax ?_;refine xlq rfl (fun _=>?_) (fun cd=>absurd (fun z=>by cases z) cd);refine ax ?_
 ·refine xrz rfl rfl (fun h V=>(c251 V s hs 1 (.inl rfl) E R).mono fun _ _ x=>x.Cq) ?_;rintro _ ⟨_,t,u,rfl⟩;refine ax ?_;exact K.r rfl rfl fun _ M=>⟨⟨n,_,rfl,hn,.inr ⟨t,u,rfl⟩,fun k H=>(O 1 (.inl rfl) rfl k H).elim⟩,M.kept⟩
 ·refine xrz rfl rfl (fun h V=>(c251 V s hs 2 (.inr rfl) E R).mono fun _ _ x=>x.Cq) ?_;rintro _ ⟨_,t,u,rfl⟩;refine ax ?_;exact K.r rfl rfl fun _ M=>⟨⟨n,_,rfl,hn,.inr ⟨t,u,rfl⟩,fun k H=>(O 2 (.inr rfl) rfl k H).elim⟩,M.kept⟩
theorem Q4{md:Md}{h:Heap}{p:Ab}(hp:Per p h){s:Str}(hs:s.length<=900)(E:p 8=some (.cells #[.iface te ue] tE zE))(R:p 9=some (.cells #[.iface tr ur] tR zR))(Z:p 5=some (.cells (Lib.pow10Tab.map (Value.int .u64)).toArray tT zT)):
 Aa prog md 131 #[sv s] h fun v h'=>(∃n:Int,v=.tuple #[.J n,.bool (C8 s).isSome]/\ ∀k,C8 s=some k->n=k)/\Af h h':=by
 refine xdq hp func131 fun _ _ _ K=>?_;refine xrz rfl rfl (fun h M=>Tq M s hs E R) ?_;rintro _ ⟨n,e,rfl,hn,he,O⟩;refine ax ?_;refine yfg rfl rfl trivial he underlying227 ?_;refine ax ?_;refine xfx rfl rfl rfl sdu (fun _ _ M=>c82 M n hn Z) ?_;refine ax ?_;refine xfx rfl rfl rfl sdu (fun _ _ M=>Uk M s) ?_;refine ax ?_;have e2:(E6 e&&decide (txt n=s)&&decide ((((Gg s).length:Nat):Int)<=6))=(C8 s).isSome:=by
  rw[Bool.eq_iff_iff,<- yjq (s:=s) (n:=n) fun k H=>(O k H).1];rcases he with rfl|⟨t,u,rfl⟩
  ·simp[E6];intro _;omega
  ·have:(C8 s).isSome=false:=by
    cases hn:C8 s with
    |none=>rfl
    |some k=>exact absurd (O k hn).2 (by intro z;cases z)
   have V:¬ (txt n=s/\(Gg s).length<=6):=fun z=>by rw[(yjq (s:=s) (n:=n) fun k H=>(O k H).1).1 z]at this;cases this
   simp[E6];intro z;exact Nat.not_le.1 fun y=>V ⟨z,y⟩
 exact K.r rfl rfl fun _ H_=>⟨⟨n,by rw[<- e2];rfl,fun k H=>(O k H).1⟩,H_.kept⟩
theorem c46{md:Md}{h:Heap}{p:Ab}(hp:Per p h){a:Option Addr}{n:Nat}(c:Nat)(xs:List Str)(S:B4 p a n xs)(hn:n<=2^20)(hs:∀s∈xs,s.length<=900)(E:p 8=some (.cells #[.iface te ue] tE zE))(R:p 9=some (.cells #[.iface tr ur] tR zR))(Z:p 5=some (.cells (Lib.pow10Tab.map (Value.int .u64)).toArray tT zT)):
 Aa prog md 46 #[.slice a n c] h fun v h'=>v=.bool (xs.all Bb)/\Af h h':=by
 have hl:=S.len;have S1:Sl p a n 1 (scs xs):=S;refine xdq hp func46 fun _ _ _ K=>?_;refine xsq (fun m_ l=>∃j:Nat,m_=n-j/\l=[(7,none,.slice a n c),(8,none,.J ((n:Nat):Int)),(9,none,.J ((j:Nat):Int))]/\j<=n/\ ∀i,i<j->Bb (xs.getD i [])=true) ⟨0,rfl,rfl,Nat.zero_le _,om⟩ sb ?_;rintro _ _ IH ⟨j,rfl,rfl,hj,hq⟩;refine cq (fun cd=>?_) (fun cd=>?_)
 ·have V:j<n:=om;have hm:xs.getD j []∈xs:=by rw[List.getD_eq_getElem?_getD,List.getElem?_eq_getElem om];exact List.getElem_mem _
  refine ax ?_;refine xoz rfl (B4.get S V) ?_;refine ax ?_;refine xrz rfl rfl (fun h pe=>Q4 pe (hs _ hm) E R Z) ?_;rintro _ ⟨m,rfl,_⟩;refine ax ?_;refine xfx rfl rfl rfl sdu (fun _ _ pe=>c43 pe (xs.getD j [])) ?_;refine cq (fun ce=>?_) (fun ce=>?_)
  ·have O:Bb (xs.getD j [])=false:=by
    unfold Bb;cases e1:(C8 (xs.getD j [])).isSome<;>cases e2:isLet (xs.getD j [])<;>simp_all
   refine ax ?_;exact K.r rfl rfl fun _ M=>⟨by
    rw[show xs.all Bb=false from by rw[List.all_eq_false];exact⟨_,hm,by rw[O];simp⟩];rfl,M.kept⟩
  ·have H:Bb (xs.getD j [])=true:=by
    unfold Bb;cases e1:(C8 (xs.getD j [])).isSome<;>cases e2:isLet (xs.getD j [])<;>simp_all
   refine ax ?_;exact xhq (IH _ om ⟨j+1,rfl,rfl,om,fun i hi=>by
    rcases Nat.lt_or_ge i j with z|z
    ·exact hq i z
    ·obtain rfl:i=j:=om;exact H⟩)
 refine ax ?_;exact K.r rfl rfl fun _ M=>⟨by
  rw[show xs.all Bb=true from by
   rw[List.all_eq_true];intro x hx;obtain⟨i,hi,rfl⟩:=List.mem_iff_getElem.1 hx;have:=hq i om;rwa[List.getD_eq_getElem?_getD,List.getElem?_eq_getElem hi]at this];rfl,M.kept⟩
end
end Go.Proofs.YtblcmdjhidhnjaaGreatDoor
