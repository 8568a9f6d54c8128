/-
  Part of proofs about a town's master: a calculus for walks beside goroutines that are only leaving, and the walks. No condition.
-/
import Derived.Test.YtbphcmeebnkmdaaGreatDoorGB1
import Derived.Test.YtbphcmeebnkmdaaGreatDoorGI
import Derived.Lib.ItoaNum
import Derived.Lib.Bytealg
namespace Go.X.Ms
abbrev Str:=List UInt8
def splitS:Str->List Str
 | []=>[[]]
 | c::s=>if c=32 then []::splitS s else ((c::(splitS s).headD [])::(splitS s).tail)
theorem xiz: ∀ s,splitS s≠[]
 | []=>by simp [splitS]
 | c::s=>by unfold splitS;split <;> simp
def txtN (n:Nat):Str:=if n<10 then [UInt8.ofNat (48+n)] else txtN (n / 10)++[UInt8.ofNat (48+n % 10)]
termination_by n
decreasing_by omega
def txt (n:Int):Str:=if n<0 then 45::txtN n.natAbs else txtN n.natAbs
def isDig (c:UInt8):Bool:=decide (48<=c.toNat/\c.toNat<=57)
def isLet (s:Str):Bool:=match s with
 | [c]=>decide (97<=c.toNat/\c.toNat<=122)
 | _=>false
def numN:Nat->Str->Option Nat
 | acc,[]=>some acc
 | acc,c::s=>if isDig c then numN (10*acc+(c.toNat-48)) s else none
def numU (minus:Bool) (t:Str):Option Nat:=if t.length<1\/6<t.length\/(t.headD 0=48/\(1<t.length\/minus=true)) then none else numN 0 t
def numR (s:Str):Option Int:=if s.headD 0=45 then (numU true s.tail).map (fun n:Nat=>-(n:Int)) else (numU false s).map (fun n:Nat=>(n:Int))
theorem u8n {n:Nat} (h:n<256):(UInt8.ofNat n).toNat=n:=by simp [UInt8.toNat_ofNat'];omega
theorem xnj {n:Nat} (h:n<10):txtN n=[UInt8.ofNat (48+n)]:=by rw [txtN,if_pos h]
theorem xuk {n:Nat} (h:10<=n):txtN n=txtN (n / 10)++[UInt8.ofNat (48+n % 10)]:=by rw [txtN,if_neg (by omega)]
theorem xe3: ∀ {s t:Str} {acc m:Nat},numN acc s=some m->numN acc (s++t)=numN m t
  | [],t,acc,m,h=>by cases h;rfl
  | c::s,t,acc,m,h=>by
    unfold numN at h
    rw [List.cons_append,numN]
    split at h
    · rename_i hc;rw [if_pos hc];exact xe3 h
    · cases h
theorem xj4 {n:Nat} (h:n<10):isDig (UInt8.ofNat (48+n))=true/\(UInt8.ofNat (48+n)).toNat-48=n:=by
 have e:=u8n (n:=48+n) (by omega)
 unfold isDig
 rw [e]
 exact ⟨by simp;omega,by omega⟩
theorem yzk (n:Nat):numN 0 (txtN n)=some n:=by
  induction n using Nat.strongRecOn with
  | _ n ih=>
    by_cases h:n<10
    · have:=xj4 h
      rw [xnj h,numN,if_pos this.1,numN,this.2];simp
    · have:=xj4 (n:=n % 10) (by omega)
      rw [xuk (by omega),xe3 (ih (n / 10) (by omega)),numN,if_pos this.1,numN,this.2]
      congr 1;omega
theorem xig (n:Nat):1<=(txtN n).length:=by
 by_cases h:n<10
 ·rw [xnj h];simp
 ·rw [xuk (by omega)];simp
theorem xuz: ∀ {k n:Nat},n<10 ^ (k+1)->(txtN n).length<=k+1
  | 0,n,h=>by rw [xnj (by omega)];simp
  | k+1,n,h=>by
    by_cases c:n<10
    · rw [xnj c];simp
    · have:=xuz (k:=k) (n:=n / 10) (by rw [Nat.pow_succ] at h;omega)
      rw [xuk (by omega)];simp;omega
theorem xfw: ∀ {k n:Nat},10 ^ k<=n->k+1<=(txtN n).length
  | 0,n,h=>xig n
  | k+1,n,h=>by
    have h1:10<=n:=by
      have:10 ^ 1<=10 ^ (k+1):=Nat.pow_le_pow_right (by omega) (by omega)
      omega
    have:=xfw (k:=k) (n:=n / 10) (by rw [Nat.pow_succ] at h;omega)
    rw [xuk h1];simp;omega
theorem xa7: ∀ {n:Nat},0<n-> ∃ c t,txtN n=c::t/\49<=c.toNat/\c.toNat<=57:=fun {n}=>by
  induction n using Nat.strongRecOn with
  | _ n ih=>
    intro h0
    by_cases h:n<10
    · exact ⟨_,[],xnj h,by rw [u8n (by omega)];omega,by rw [u8n (by omega)];omega⟩
    · obtain ⟨c,t,e,h1⟩:=ih (n / 10) (by omega) (by omega)
      exact ⟨c,t++[UInt8.ofNat (48+n % 10)],by rw [xuk (by omega),e];rfl,h1⟩
theorem xjn: ∀ {n:Nat},∀ c∈txtN n,isDig c=true:=fun {n}=>by
  induction n using Nat.strongRecOn with
  | _ n ih=>
    by_cases h:n<10
    · rw [xnj h];intro c hc;rw [List.mem_singleton.1 hc];exact (xj4 h).1
    · rw [xuk (by omega)]
      intro c hc
      rcases List.mem_append.1 hc with hc | hc
      · exact ih (n / 10) (by omega) c hc
      · rw [List.mem_singleton.1 hc];exact (xj4 (by omega)).1
theorem xt1 {c:UInt8} (h:c.toNat=48):c=48:=UInt8.toNat_inj.1 (by rw [h];rfl)
theorem xjr:txtN 0=[48]:=by rw [xnj (by omega)];rfl
theorem xb3 {n:Nat} {b:Bool} (h:n<=999999) (hb:b=true->0<n):numU b (txtN n)=some n:=by
 unfold numU
 rw [if_neg,yzk]
 have h1:=xig n
 have h2:=xuz (k:=5) (n:=n) (by omega)
 rintro (z | z | ⟨z,w⟩)
 ·omega
 ·omega
 ·by_cases c:n=0
  ·subst c
   rw [xjr] at w
   rcases w with w | w
   ·simp at w
   ·exact absurd (hb w) (by omega)
  ·obtain ⟨d,t,e,h3,_⟩:=xa7 (n:=n) (by omega)
   rw [e] at z
   simp at z
   rw [z] at h3
   exact absurd h3 (by decide)
theorem ywk {n:Int} (h: -999999<=n/\n<=999999):numR (txt n)=some n:=by
  unfold numR txt
  by_cases c:n<0
  · rw [if_pos c]
    simp only [List.headD_cons,if_true,List.tail_cons]
    rw [xb3 (by omega) (fun _=>by omega)]
    simp;omega
  · rw [if_neg c,if_neg,xb3 (by omega) (fun z=>by cases z)]
    · simp;omega
    · intro z
      cases e:txtN n.natAbs with
      | nil=>have:=xig n.natAbs;rw [e] at this;simp at this
      | cons d t=>
        have:=xjn d (by rw [e];simp)
        rw [e] at z
        simp at z
        subst z
        exact absurd this (by decide)
theorem xd3: ∀ {s:Str} {acc m:Nat},numN acc s=some m->(0<acc->txtN m=txtN acc++s)/\acc<=m
  | [],acc,m,h=>by cases h;simp
  | c::s,acc,m,h=>by
    unfold numN at h
    split at h
    · rename_i hc
      have ih:=xd3 h
      unfold isDig at hc
      simp only [decide_eq_true_eq] at hc
      refine ⟨fun h0=>?_,by omega⟩
      rw [ih.1 (by omega),xuk (n:=10*acc+(c.toNat-48)) (by omega),show (10*acc+(c.toNat-48)) / 10=acc by omega,show (10*acc+(c.toNat-48)) % 10=c.toNat-48 by omega]
      have:UInt8.ofNat (48+(c.toNat-48))=c:=UInt8.toNat_inj.1 (by rw [u8n (by omega)];omega)
      rw [this,List.append_assoc];rfl
    · cases h
theorem xc3 {b:Bool} {t:Str} {n:Nat} (h:numU b t=some n):t=txtN n/\n<=999999/\(b=true->0<n):=by
  unfold numU at h
  split at h
  · cases h
  · rename_i hc
    simp only [not_or,not_and] at hc
    obtain ⟨h1,h2,h3⟩:=hc
    have key:t=txtN n/\(b=true->0<n):=by
      cases t with
      | nil=>simp at h1
      | cons c t=>
        unfold numN at h
        split at h
        · rename_i hd
          unfold isDig at hd
          simp only [decide_eq_true_eq] at hd
          by_cases z:c.toNat=48
          · have z':=xt1 z
            have h4:=h3 (by simpa using z')
            have:t=[]:=by
              have:=h4.1
              simp at this
              exact List.eq_nil_of_length_eq_zero (by simp;omega)
            subst this
            cases h
            subst z'
            exact ⟨by rw [show 10*0+(UInt8.toNat 48-48)=0 from rfl,xjr],fun hb=>absurd hb h4.2⟩
          · have:=xd3 h
            refine ⟨?_,fun _=>by omega⟩
            rw [this.1 (by omega),xnj (by omega)]
            have:UInt8.ofNat (48+(10*0+(c.toNat-48)))=c:=UInt8.toNat_inj.1 (by rw [u8n (by omega)];omega)
            rw [this];rfl
        · cases h
    refine ⟨key.1,?_,key.2⟩
    rcases Nat.lt_or_ge n 1000000 with z | z
    · omega
    · have:=xfw (k:=6) (n:=n) z
      rw [<- key.1] at this
      omega
theorem yyk {s:Str} {n:Int} (h:numR s=some n):s=txt n/\ -999999<=n/\n<=999999:=by
  unfold numR at h
  split at h
  · rename_i hd
    obtain ⟨m,h1,h2⟩:=Option.map_eq_some_iff.1 h
    have:=xc3 h1
    subst h2
    have hm:=this.2.2 rfl
    refine ⟨?_,by omega,by omega⟩
    unfold txt
    rw [if_pos (by omega)]
    cases s with
    | nil=>simp at hd
    | cons c t=>
      simp at hd
      subst hd
      rw [List.tail_cons] at this
      rw [this.1];congr 2;simp
  · obtain ⟨m,h1,h2⟩:=Option.map_eq_some_iff.1 h
    have:=xc3 h1
    subst h2
    refine ⟨?_,by omega,by omega⟩
    unfold txt
    rw [if_neg (by omega),this.1];simp
end Go.X.Ms
namespace Go.X
open Go.Conc
def rowV (d:Array UInt8):List Value:=d.toList.map fun b=>.int .u8 ((b.toNat:Nat):Int)
theorem xg2 {d:Array UInt8}:(rowV d).length=d.size:=by simp [rowV]
theorem ypd {A Z:List Value} {d:Array UInt8} {j o:Nat} {v:Value} {b:UInt8} (ho:o=A.length+j) (hj:j<d.size) (hv:v= .int .u8 ((b.toNat:Nat):Int)):(A++(rowV d++Z)).set o v=A++(rowV (d.setIfInBounds j b)++Z):=by
 subst ho;subst hv
 rw [List.set_append_right _ _ (by omega),Nat.add_sub_cancel_left,List.set_append_left _ _ (by rw [xg2];exact hj)]
 congr 2
 simp [rowV,List.map_set]
theorem yyj {d:Array UInt8} {l:List UInt8} (hl:l.length=d.size) (h: ∀ t,t<d.size->d[t]! =l.getD t 0):rowV d=(bcs l).flatten:=by
 rw [xjj,rowV]
 congr 1
 refine List.ext_getElem (by simp [hl]) fun i h1 h2=>?_
 have:=h i (by simpa using h1)
 rw [List.getD_eq_getElem?_getD,List.getElem?_eq_getElem h2] at this
 simpa [getElem!_pos d i (by simpa using h1)] using this
theorem wr32 {n:Int} (h:0<=n/\n<=4294967295):IntKind.u32.wrap n=n:=by
 show (n % ((2:Int) ^ 32))=n
 exact Int.emod_eq_of_lt h.1 (by omega)
section
variable {X:Cx} {k:List Item} {ops rest:List Oper} {l:Env} {p:PHeap} {LL LR:List Pcs} {g:Option Bool} {d:Option Tmp} {ty:TypeId} {pos:String} {aft:Array Edge} {gd:Option (Nat × Bool)} {ss ss' ss2:List Prop} {x y z:Operand} {t:TypeId} {a:List UInt8}
theorem xk8 {k1 k2:IntKind} (i r:Nat) (hg:gdc ops l gd=some g) (hx:evS l x=some (ss,sv a)) (hy:evS l y=some (ss',.int k1 ((i:Nat):Int))) (hz:evS l z=some (ss2,.int k2 ((r:Nat):Int))) (hs:cimp g (AllP ss)) (hs':cimp g (AllP ss')) (hs2:cimp g (AllP ss2)) (h1:cimp g (i<=r/\r<=a.length)) (n:RO X k ops rest (ent d g (sv ((a.drop i).take (r-i))) l) p LL)
  (ht:X.P.underlying t=some .string:=by kernel_rfl):RO X k ops (⟨d,.slice t x (some y) (some z) none,ty,pos,aft,gd⟩::rest) l p LL:=
 xdx hg rfl (xpz h1 (xpz hs (xpz hs' hs2 And.intro) And.intro) fun h1 hs _ _ E _=>xtp ht (xfq E hx hs.1) (.nat 0 (xfq E hy hs.2.1)) (.nat _ (xfq E hz hs.2.2)) h1.1 h1.2) n
theorem xyr {e:TypeId} {b off q c w:Nat} {j:Int} {kk:IntKind} (hx:evS l x=some ([],.slice (some ⟨b,off,none⟩) q c)) (hy:evS l y=some ([],.int kk j)) (h0:0<=j) (hi:j<q) [f:SlcC X.P t e] [sz:SizeC X.P e w] (n:RO X k ops rest (ent d none (.pointer (some ⟨b,off+j.toNat*w,none⟩)) l) p LL):
  RO X k ops (⟨d,.indexAddr t x y,ty,pos,aft,none⟩::rest) l p LL:=xzr hx hy h0 hi rfl (by rw [show adr (some ⟨b,off,none⟩)=⟨b,off,none⟩ from rfl,xjx];exact n)
theorem xc1 {m:Ks} {LF:List Pcs} {effs todo:List Nat} {i:Nat} {e:TypeId} {b off q c w:Nat} {j:Int} {kk:IntKind} (ho:ops[i]?=some ⟨d,.indexAddr t x y,ty,pos,aft,none⟩) (hx:evS l x=some ([],.slice (some ⟨b,off,none⟩) q c)) (hy:evS l y=some ([],.int kk j)) (h0:0<=j) (hi:j<q) [f:SlcC X.P t e] [sz:SizeC X.P e w]
  (n:DE X k ops m p LF effs todo (ent d none (.pointer (some ⟨b,off+j.toNat*w,none⟩)) l) LL):DE X k ops m p LF effs (i::todo) l LL:=xcn ho hx hy h0 hi rfl (by rw [show adr (some ⟨b,off,none⟩)=⟨b,off,none⟩ from rfl,xjx];exact n)
theorem xoz {c:Item} (J:Env->PHeap->List Pcs->Prop) (rest: ∀ l' p' LL',J l' p' LL'->RE X k l' p' LL') (br: ∀ k',(∀ l' p' LL',J l' p' LL'->RE X k' l' p' LL')->RE X (c::k') l p LL):RE X (c::k) l p LL:=br k rest
end
namespace Ms
theorem xin (u:Nat):txtN u=Lib.decDigits u:=by
  induction u using Nat.strongRecOn with
  | _ u ih=>
    by_cases h:u<10
    · rw [xnj h,Lib.decDigits,dif_pos h]
    · rw [xuk (by omega),Lib.decDigits,dif_neg h,ih (u / 10) (by omega)]
theorem xpt (u:Nat):(txtN u).length=Lib.nDigits u:=by rw [xin,Lib.decDigits_length]
theorem xt3 {u v:Nat} {d:Array UInt8} (h:Lib.FmtInv (Lib.nDigits u) u 0 v d):rowV d=(bcs (txtN u)).flatten:=by
 refine yyj (by rw [xpt,h.size]) fun t ht=>?_
 rw [h.size] at ht
 rw [h.done t (Nat.zero_le _) ht,xin,Lib.decDigits_eq,List.getD_eq_getElem?_getD,List.getElem?_map,List.getElem?_range ht]
 rfl
end Ms
end Go.X
namespace Go.X
open Go.Conc
section
variable {P:Program} {h:Heap} {tm:List Value} {d:Option Tmp} {ty:TypeId} {pos:String} {aft:Array Edge} {gd:Option (Nat × Bool)}
theorem xud {t e:TypeId} {x:Operand} {lo hi:Option Operand} {n w b o i r:Nat} (ht:P.underlying t=some (.array n e)) (hs:sizeT P e=some w) (hx:evl tm x= .pointer (some ⟨b,o,none⟩)) (bl:Bd tm lo 0 i) (bh:Bd tm hi n r) (h1:i<=r) (h2:r<=n) (h3:i<n):
  Exd P tm ⟨d,.slice t x lo hi none,ty,pos,aft,gd⟩ h (.slice (some ⟨b,o+i*w,none⟩) (r-i) (n-i)):=by
 refine xnz (s:=Instr.sliceAt t (.pointer (some ⟨b,o,none⟩)) (lo.map (evl tm)) (hi.map (evl tm)) none) (by simp only [execOp,hx,Option.map_none]) ?_
 unfold Instr.sliceAt
 refine xbq (xgq ht ?_)
 simp only [Instr.sureAddr]
 refine xbq (xcq ?_)
 refine xbq (xrk (tm:=tm) bl bh h1 h2 ?_)
 simp only
 refine xbq (xtq hs ?_)
 refine xcq ⟨?_,rfl⟩
 rw [if_neg (by omega),xjx]
end
section
variable {X:Cx} {k:List Item} {ops rest:List Oper} {l:Env} {p:PHeap} {LL LR:List Pcs} {d:Option Tmp} {ty:TypeId} {pos:String} {aft:Array Edge} {x y z:Operand} {t:TypeId}
theorem xu7 {e:TypeId} {n w b o i r:Nat} {k1 k2:IntKind} (hx:evS l x=some ([],.pointer (some ⟨b,o,none⟩))) (hy:evS l y=some ([],.int k1 ((i:Nat):Int))) (hz:evS l z=some ([],.int k2 ((r:Nat):Int))) (h1:i<=r) (h2:r<=n) (h3:i<n) (ht:X.P.underlying t=some (.array n e)) [sz:SizeC X.P e w]
  (nx:RO X k ops rest (ent d none (.slice (some ⟨b,o+i*w,none⟩) (r-i) (n-i)) l) p LL):RO X k ops (⟨d,.slice t x (some y) (some z) none,ty,pos,aft,none⟩::rest) l p LL:=
 xdx (g:=none) rfl rfl (fun _ _ E _=>xud ht sz.h (xfq E hx trivial) (.nat 0 (xfq E hy trivial)) (.nat _ (xfq E hz trivial)) h1 h2 h3) nx
theorem ysd {e:TypeId} {n w b o r:Nat} {k2:IntKind} (hx:evS l x=some ([],.pointer (some ⟨b,o,none⟩))) (hz:evS l z=some ([],.int k2 ((r:Nat):Int))) (h2:r<=n) (h3:0<n) (ht:X.P.underlying t=some (.array n e)) [sz:SizeC X.P e w]
  (nx:RO X k ops rest (ent d none (.slice (some ⟨b,o,none⟩) r n) l) p LL):RO X k ops (⟨d,.slice t x none (some z) none,ty,pos,aft,none⟩::rest) l p LL:=
 xdx (g:=none) rfl rfl (fun tm h E _=>by
  have q:=xud (d:=d) (ty:=ty) (pos:=pos) (aft:=aft) (gd:=none) (P:=X.P) (h:=h) ht sz.h (xfq E hx trivial) (.none 0) (.nat n (xfq (x:=z) E hz trivial)) (Nat.zero_le _) h2 h3
  simpa using q) nx
theorem xj2 {e:TypeId} {w len i b o:Nat} {k1:IntKind} (ht:X.P.underlying t=some (.array len e)) (hx:evS l x=some ([],.pointer (some ⟨b,o,none⟩))) (hy:evS l y=some ([],.int k1 ((i:Nat):Int))) (h:i<len) [sz:SizeC X.P e w] (n:RO X k ops rest (ent d none (.pointer (some ⟨b,o+i*w,none⟩)) l) p LL):
  RO X k ops (⟨d,.indexAddr t x y,ty,pos,aft,none⟩::rest) l p LL:=xd8 ht hx hy h (by rw [xjx];exact n)
end
theorem xcr {a b n:Nat} (h:a+b<=n):List.replicate n (Value.int .u8 0)=List.replicate a (Value.int .u8 0)++(rowV (Array.replicate b 0)++List.replicate (n-a-b) (Value.int .u8 0)):=by
 have e:rowV (Array.replicate b 0)=List.replicate b (Value.int .u8 0):=by simp [rowV]
 rw [e,List.replicate_append_replicate,List.replicate_append_replicate]
 congr 1;omega
namespace Ms
theorem yad {m:Nat} (h:0<m):txt (-((m:Nat):Int))=45::txtN m:=by unfold txt;rw [if_pos (by omega)];simp
theorem xy6 (m:Nat):txt ((m:Nat):Int)=txtN m:=by unfold txt;rw [if_neg (by omega)];simp
end Ms
end Go.X
namespace Go.X
open Go.Conc
section
variable {P:Program} {h:Heap} {l:List UInt8} {c:UInt8}
theorem xw6 (c:UInt8):((c.toNat:Nat):Int).toNat.toUInt8=c:=by rw [Int.toNat_natCast];simp
theorem xfn:wpS P (Extern.BytealgIndexByte.indexByte #[sv l,.int .u8 ((c.toNat:Nat):Int)]) h fun v' h'=>v'= .int .i64 (Lib.indexByte l c)/\h'=h:=by
 have e:=Lib.firstIdx_eq (bs l) c
 change wpS P (do
  let b <- Extern.Bytes.bytesOf (.string (bs l))
  let c' <- Extern.Bytes.asByte (.int .u8 ((c.toNat:Nat):Int))
  match (List.range b.size).find? fun i=>b[i]! == c' with
  | some i=>pure (goInt i)
  | none=>pure (goInt (-1))) h _
 simp only [Extern.Bytes.bytesOf,Extern.Bytes.asByte,xw6]
 refine xbq (xcq ?_)
 refine xbq (xcq ?_)
 have e2:(bs l).data.toList=l:=by simp [bs]
 rw [e2] at e
 rw [<- e]
 unfold firstIdx
 split <;> rename_i hq <;> rw [hq] <;> exact xcq ⟨rfl,rfl⟩
theorem xu6:wpS P (Extern.BytealgCount.count #[sv l,.int .u8 ((c.toNat:Nat):Int)]) h fun v' h'=>v'= .int .i64 ((l.count c:Nat):Int)/\h'=h:=by
 change wpS P (do
  let b <- Extern.Bytes.bytesOf (.string (bs l))
  let c' <- Extern.Bytes.asByte (.int .u8 ((c.toNat:Nat):Int))
  pure (goInt (b.foldl (fun n x=>if x == c' then n+1 else n) (0:Nat)))) h _
 simp only [Extern.Bytes.bytesOf,Extern.Bytes.asByte,xw6]
 refine xbq (xcq ?_)
 refine xbq (xcq ?_)
 refine xcq ⟨?_,rfl⟩
 have e2:(bs l).data.toList=l:=by simp [bs]
 rw [Lib.foldl_data,e2]
 have cf:=Lib.count_foldl c l 0
 simp only [Lib.countByte,Int.zero_add] at cf
 exact congrArg (Value.int .i64) cf
end
def scs (xs:List (List UInt8)):List (List Value):=xs.map fun t=>[sv t]
def Strs (p:PHeap) (a:Option Addr) (n:Nat) (xs:List (List UInt8)):Prop:=Sl p a n 1 (scs xs)
theorem xxx (xs:List (List UInt8)):(scs xs).length=xs.length:=by simp [scs]
section
variable {p p':PHeap} {a:Option Addr} {n i:Nat} {xs:List (List UInt8)}
theorem Strs.len (s:Strs p a n xs):xs.length=n:=by have:=Sl.len s;simpa [scs] using this
theorem Strs.mono (hp:PLe p p') (s:Strs p a n xs):Strs p' a n xs:=Sl.mono hp s
theorem Strs.ne (s:Strs p a n xs) (hk:0<n):a=some (adr a):=Sl.ne s hk
theorem Strs.get (s:Strs p a n xs) (hk:i<n):pcell p ((adr a).add (i*1))=some (sv (xs.getD i [])):=by
 have hl:=s.len
 have:=Sl.get s i [sv (xs.getD i [])] (by rw [scs,List.getElem?_map,List.getD_eq_getElem?_getD,List.getElem?_eq_getElem (by omega)];rfl) 0 _ rfl
 rwa [show ∀ a:Addr,(a.add (i*1)).add 0=a.add (i*1) from fun a=>xmx] at this
end
namespace Ms
open Lib (indexByte)
theorem xjp {b c:UInt8} {l:List UInt8}:indexByte (b::l) c=if b=c then 0 else if indexByte l c= -1 then -1 else indexByte l c+1:=by
 rw [indexByte];simp only [beq_iff_eq]
theorem xah: ∀ {l:Str},indexByte l 32<0->splitS l=[l]
  | [],_=>rfl
  | b::l,h=>by
    rw [xjp] at h
    have ge:=Lib.indexByte_ge l 32
    by_cases e:b=32
    · rw [if_pos e] at h;omega
    · rw [if_neg e] at h
      rw [splitS,if_neg e,xah (l:=l) (by split at h <;> omega)];rfl
theorem xch: ∀ {l:Str} {m:Nat},indexByte l 32=m->m<l.length/\splitS l=l.take m::splitS (l.drop (m+1))
  | [],m,h=>by rw [indexByte] at h;omega
  | b::l,m,h=>by
    rw [xjp] at h
    by_cases e:b=32
    · rw [if_pos e] at h
      obtain rfl:m=0:=by omega
      rw [splitS,if_pos e]
      exact ⟨by simp,by simp⟩
    · rw [if_neg e] at h
      have ge:=Lib.indexByte_ge l 32
      split at h
      · omega
      · obtain ⟨k,rfl⟩: ∃ k,m=k+1:=⟨m-1,by omega⟩
        have ih:=xch (l:=l) (m:=k) (by omega)
        rw [splitS,if_neg e,ih.2]
        exact ⟨by simp;omega,by simp⟩
theorem xik: ∀ l:Str,(splitS l).length=l.count 32+1
  | []=>rfl
  | b::l=>by
    have ih:=xik l
    rw [splitS,List.count_cons]
    by_cases e:b=32
    · rw [if_pos e,List.length_cons,ih,e];rfl
    · rw [if_neg e,List.length_cons,List.length_tail,ih]
      simp [e]
end Ms
end Go.X
namespace Go.Proofs.YtbphcmeebnkmdaaGreatDoor
open Go.X Go.X.Ms Go.Conc
set_option maxRecDepth 20000
set_option synthInstance.maxSize 2000
theorem c272 (md:Md) (h:Heap) (p:PHeap) (hp:Per p h) (l:List UInt8) (c:UInt8):CallsX Tryz.prog md 272 #[sv l,.int .u8 ((c.toNat:Nat):Int)] h fun v h'=>v= .int .i64 (Lib.indexByte l c)/\Keep h h':=by
 refine xeq hp Tryz.func272 fun _ _ _ K=>?_
 refine ax ?_
 refine xf8 Tryz.func316 (e:=Extern.BytealgIndexByte.indexByte) (by kernel_rfl) rfl rfl (fun h=>xfn) ?_
 refine ax ?_
 exact xdq Tryz.func272 rfl rfl fun _ H_=>K _ _ ⟨rfl,H_.kept⟩
theorem c243 (md:Md) (h:Heap) (p:PHeap) (hp:Per p h) (l:List UInt8) (c:UInt8):CallsX Tryz.prog md 243 #[sv l,sv [c]] h fun v h'=>v= .int .i64 (Lib.indexByte l c)/\Keep h h':=by
 refine xeq hp Tryz.func243 fun _ _ _ K=>?_
 refine ax ?_
 refine xhq rfl (fun cc=>?_) (fun cc=>?_)
 ·have e:l=[c]:=by
   rcases cc with cc | cc
   ·simp at cc
   ·exact cc.symm
  subst e
  refine ax ?_
  exact xdq Tryz.func243 rfl rfl fun _ H_=>K _ _ ⟨by rw [xjp,if_pos rfl];rfl,H_.kept⟩
 refine ax ?_
 refine xhq rfl (fun _=>?_) (fun cc=>absurd rfl cc)
 refine ax ?_
 refine xyj rfl rfl rfl trivial trivial ⟨by decide,by simp⟩ ?_
 refine ax ?_
 refine xoq rfl rfl (fun _ pe=>c272 md _ _ pe l c) ?_
 refine ax ?_
 exact xdq Tryz.func243 rfl rfl fun _ H_=>K _ _ ⟨rfl,H_.kept⟩
theorem c194 (md:Md) (h:Heap) (p:PHeap) (hp:Per p h) (l:List UInt8) (c:UInt8):CallsX Tryz.prog md 194 #[sv l,sv [c]] h fun v h'=>v= .int .i64 (Lib.indexByte l c)/\Keep h h':=by
 refine xeq hp Tryz.func194 fun _ _ _ K=>?_
 refine ax ?_
 refine xoq rfl rfl (fun _ pe=>c243 md _ _ pe l c) ?_
 refine ax ?_
 exact xdq Tryz.func194 rfl rfl fun _ H_=>K _ _ ⟨rfl,H_.kept⟩
theorem c193 (md:Md) (h:Heap) (p:PHeap) (hp:Per p h) (l:List UInt8) (c:UInt8):CallsX Tryz.prog md 193 #[sv l,sv [c]] h fun v h'=>v= .int .i64 ((l.count c:Nat):Int)/\Keep h h':=by
 refine xeq hp Tryz.func193 fun _ _ _ K=>?_
 refine ax ?_
 refine xhq rfl (fun cc=>absurd cc (by simp)) (fun _=>?_)
 refine ax ?_
 refine xhq rfl (fun _=>?_) (fun cc=>absurd rfl cc)
 refine ax ?_
 refine xyj rfl rfl rfl trivial trivial ⟨by decide,by simp⟩ ?_
 refine ax ?_
 refine xf8 Tryz.func242 (e:=Extern.BytealgCount.count) (by kernel_rfl) rfl rfl (fun h=>xu6) ?_
 refine ax ?_
 exact xdq Tryz.func193 rfl rfl fun _ H_=>K _ _ ⟨rfl,H_.kept⟩
theorem c109 (md:Md) (h:Heap) (p:PHeap) (hp:Per p h) (s:Str) (hs:s.length<=900):
  CallsX Tryz.prog md 109 #[sv s,sv [32],.int .i64 0,.int .i64 (-1)] h fun v h'=>LastR p h (fun v p'=>∃ a cap,v= .slice a (splitS s).length cap/\(splitS s).length<=cap/\Strs p' a (splitS s).length (splitS s)) v h':=by
 have hc:=xik s
 have hcl:s.count 32<=s.length:=List.count_le_length
 refine xeq hp Tryz.func109 fun _ _ _ K=>?_
 refine ax ?_
 refine xhq rfl (fun cc=>absurd cc (by decide)) (fun _=>?_)
 refine ax ?_
 refine xhq rfl (fun cc=>absurd cc (by simp)) (fun _=>?_)
 refine ax ?_
 refine xhq rfl (fun _=>?_) (fun cc=>absurd (by decide) cc)
 refine ax ?_
 refine xoq rfl rfl (fun _ pe=>c193 md _ _ pe s 32) ?_
 refine ax ?_
 have em:min (((s.count 32:Nat):Int)+1) (((s.length:Nat):Int)+1)=(((splitS s).length:Nat):Int):=by rw [hc];omega
 rw [em]
 obtain ⟨N,hN⟩: ∃ N,N=(splitS s).length:=⟨_,rfl⟩
 rw [<- hN] at hc ⊢
 refine yvd (n:=N) rfl rfl (by omega) fun v1 Y1 o1=>?_
 have o1:OwnS 9 1 v1 (scs (List.replicate N [])) Y1:=o1.as (by simp [scs];exact .inr rfl)
 refine ax ?_
 refine xrq (fun m_ l p_ L_=>∃ (i:Nat) (s':Str) (pre:List Str) (Y:Pcs),m_=N-i/\l=[(0,none,sv s'),(1,none,sv [32]),(2,none,.int .i64 0),(3,none,.int .i64 ((N:Nat)-1)),(9,none,v1),(10,none,.int .i64 ((i:Nat):Int))]/\p_=p/\L_=[Y]/\pre.length=i/\pre++splitS s'=splitS s/\s'.length<=900/\OwnS 9 1 v1 (scs (pre++List.replicate (N-i) [])) Y) ⟨0,s,[],Y1,rfl,rfl,rfl,rfl,rfl,rfl,hs,o1⟩ sb ?_
 clear o1
 rintro _ _ p _ IH ⟨i,s',pre,Y,rfl,rfl,rfl,rfl,hpre,hsp,hs',o1⟩
 have hlen:i+(splitS s').length=N:=by rw [hN,<- hsp,List.length_append,hpre]
 have h1:=xik s'
 refine ax ?_
 refine xhq rfl (fun cc=>?_) (fun cc=>?_)
 ·refine ax ?_
  refine xoq rfl rfl (fun _ pe=>c194 md _ _ pe s' 32) ?_
  refine ax ?_
  refine xhq rfl (fun cd=>?_) (fun cd=>?_)
  ·have z:=xah cd
   rw [z,List.length_singleton] at hlen
   omega
  obtain ⟨m,hm⟩: ∃ m:Nat,Lib.indexByte s' 32=((m:Nat):Int):=⟨(Lib.indexByte s' 32).toNat,by omega⟩
  obtain ⟨hml,hms⟩:=xch hm
  rw [hm]
  refine ax ?_
  refine xh2 (j:=m) rfl rfl rfl trivial trivial (Nat.le_of_lt hml) ?_
  refine xnv rfl rfl o1 (by rw [xxx,List.length_append,List.length_replicate];omega) ?_
  refine xyk (e:=[sv []]) rfl rfl o1 xmx rfl rfl rfl (by rw [scs,List.getElem?_map,List.getElem?_append_right (by omega),List.getElem?_replicate,if_pos (by omega)];rfl) (Nat.le_refl _) fun Y' o'=>?_
  have o':OwnS 9 1 v1 (scs ((pre++[s'.take m])++List.replicate (N-(i+1)) [])) Y':=o'.as (by
   rw [show N-i=(N-(i+1))+1 by omega,List.replicate_succ,<- hpre]
   simp [scs,setl])
  refine ax ?_
  refine xzk rfl rfl ⟨wrZ (by rw [List.length_singleton];omega),trivial⟩ ?_
  refine xtb (j:=m+1) rfl rfl rfl trivial trivial hml ?_
  refine ax ?_
  exact xqq (IH _ _ _ (by omega) ⟨i+1,s'.drop (m+1),pre++[s'.take m],Y',rfl,rfl,rfl,rfl,by rw [List.length_append,hpre];rfl,by rw [List.append_assoc,List.singleton_append,<- hms,hsp],by rw [List.length_drop];omega,o'⟩)
 have hi:i+1=N:=by omega
 have hs1:splitS s'=[s']:=by
  have ge:=Lib.indexByte_ge s' 32
  by_cases z:Lib.indexByte s' 32<0
  ·exact xah z
  ·obtain ⟨m,hm⟩: ∃ m:Nat,Lib.indexByte s' 32=((m:Nat):Int):=⟨(Lib.indexByte s' 32).toNat,by omega⟩
   have z2:=(xch hm).2
   have z3:=xik (s'.drop (m+1))
   rw [z2,List.length_cons] at hlen
   omega
 refine ax ?_
 refine xnv rfl rfl o1 (by rw [xxx,List.length_append,List.length_replicate];omega) ?_
 refine xyk (e:=[sv []]) rfl rfl o1 xmx rfl rfl rfl (by rw [scs,List.getElem?_map,List.getElem?_append_right (by omega),List.getElem?_replicate,if_pos (by omega)];rfl) (Nat.le_refl _) fun Y' o'=>?_
 have o':OwnS 9 1 v1 (scs (splitS s)) Y':=o'.as (by
  rw [show N-i=0+1 by omega,List.replicate_succ,<- hsp,hs1,<- hpre]
  simp [scs,setl])
 refine xqx o' (m:=N) (by rw [xxx,hN]) (by decide) fun p' a cap g ev hcap S=>?_
 subst ev
 refine ax ?_
 refine xwr (j:=i+1) rfl rfl (by omega) ?_
 refine ax ?_
 rw [hi]
 subst hN
 exact xdq Tryz.func109 rfl rfl fun _ H_=>K _ _ (xvx (p:=p) (p':=p') (Q:=fun v p'=>∃ a cap,v= .slice a (splitS s).length cap/\(splitS s).length<=cap/\Strs p' a (splitS s).length (splitS s)) H_ g ⟨a,cap,rfl,hcap,S⟩)
theorem c57 (md:Md) (h:Heap) (p:PHeap) (hp:Per p h) (s:Str) (hs:s.length<=900):
  CallsX Tryz.prog md 57 #[sv s,sv [32]] h fun v h'=>LastR p h (fun v p'=>∃ a cap,v= .slice a (splitS s).length cap/\(splitS s).length<=cap/\Strs p' a (splitS s).length (splitS s)) v h':=by
 refine xeq hp Tryz.func57 fun _ _ _ K=>?_
 refine ax ?_
 refine xrj rfl rfl (fun h pe=>c109 md h _ pe s hs) ?_
 rintro _ p' g ⟨a,cap,rfl,hcap,S⟩
 refine ax ?_
 exact xdq Tryz.func57 rfl rfl fun _ H_=>K _ _ (xvx (p:=p) (p':=p') (Q:=fun v p'=>∃ a cap,v= .slice a (splitS s).length cap/\(splitS s).length<=cap/\Strs p' a (splitS s).length (splitS s)) H_ g ⟨a,cap,rfl,hcap,S⟩)
end Go.Proofs.YtbphcmeebnkmdaaGreatDoor
namespace Go.X.Ms
def trimM (s:Str):Str:=if s.headD 0=45 then s.tail else s
theorem yhp {s:Str} {c:UInt8} (h:c≠0):(0<s.length/\s.take 1=[c])<->s.headD 0=c:=by
 cases s with
 | nil=>simp;exact fun e=>h e.symm
 | cons a t=>simp
theorem xnd {s:Str}:isLet s=true<->s.length=1/\97<=(s.getD 0 0).toNat/\(s.getD 0 0).toNat<=122:=by
 match s with
 | []=>simp [isLet]
 | [c]=>simp [isLet]
 | _::_::_=>simp [isLet]
end Go.X.Ms
namespace Go.Proofs.YtbphcmeebnkmdaaGreatDoor
open Go.X Go.X.Ms Go.Conc
set_option maxRecDepth 20000
set_option synthInstance.maxSize 2000
theorem c314 (md:Md) (h:Heap) (p:PHeap) (hp:Per p h) (s:Str):CallsX Tryz.prog md 314 #[sv s,sv [45]] h fun v h'=>v= .bool (decide (s.headD 0=45))/\Keep h h':=by
 refine xeq hp Tryz.func314 fun _ _ _ K=>?_
 refine ax ?_
 refine xh2 (j:=1) rfl rfl rfl sdu sdu (fun e=>by have e:(1:Int)<=s.length:=(by simpa using e);omega) ?_
 refine ax ?_
 exact xdq Tryz.func314 rfl rfl fun _ H_=>K _ _ ⟨congrArg _ (bpe (by rw [<- yhp (by decide)];simp;exact fun _=>by omega)),H_.kept⟩
theorem c265 (md:Md) (h:Heap) (p:PHeap) (hp:Per p h) (s:Str):CallsX Tryz.prog md 265 #[sv s,sv [45]] h fun v h'=>v=sv (trimM s)/\Keep h h':=by
 refine xeq hp Tryz.func265 fun _ _ _ K=>?_
 refine ax ?_
 refine xoq rfl rfl (fun _ pe=>c314 md _ _ pe s) ?_
 refine ax ?_
 refine xhq rfl (fun cc=>?_) (fun cc=>?_)
 ·have hl:1<=s.length:=by cases s with | nil=>simp at cc | cons a t=>simp
  refine ax ?_
  refine xtb (j:=1) rfl rfl rfl trivial trivial hl ?_
  refine ax ?_
  exact xdq Tryz.func265 rfl rfl fun _ H_=>K _ _ ⟨by rw [trimM,if_pos cc,<- List.drop_one];rfl,H_.kept⟩
 ·refine ax ?_
  exact xdq Tryz.func265 rfl rfl fun _ H_=>K _ _ ⟨by rw [trimM,if_neg cc];rfl,H_.kept⟩
theorem c227 (md:Md) (h:Heap) (p:PHeap) (hp:Per p h) (s:Str):CallsX Tryz.prog md 227 #[sv s,sv [45]] h fun v h'=>v=sv (trimM s)/\Keep h h':=by
 refine xeq hp Tryz.func227 fun _ _ _ K=>?_
 refine ax ?_
 refine xoq rfl rfl (fun _ pe=>c265 md _ _ pe s) ?_
 refine ax ?_
 exact xdq Tryz.func227 rfl rfl fun _ H_=>K _ _ ⟨rfl,H_.kept⟩
theorem c58 (md:Md) (h:Heap) (p:PHeap) (hp:Per p h) (s:Str):CallsX Tryz.prog md 58 #[sv s] h fun v h'=>v= .bool (isLet s)/\Keep h h':=by
 refine xeq hp Tryz.func58 fun _ _ _ K=>?_
 refine ax ?_
 refine xyj rfl rfl rfl sdu sdu (fun e=>by have e:=of_decide_eq_true e;omega) ?_
 refine ax ?_
 refine xyj rfl rfl rfl sdu sdu (fun e=>by simp at e;omega) ?_
 refine ax ?_
 exact xdq Tryz.func58 rfl rfl fun _ H_=>K _ _ ⟨congrArg Value.bool (by rw [Bool.eq_iff_iff,xnd];simp;omega),H_.kept⟩
theorem c337 (md:Md) (h:Heap) (p:PHeap) (hp:Per p h) (s:Str) (hs:s.length<=900):CallsX Tryz.prog md 337 #[sv s] h fun v h'=>v=sv s/\Keep h h':=by
 refine xeq hp Tryz.func337 fun _ _ _ K=>?_
 refine ax ?_
 refine xhq rfl (fun cc=>?_) (fun cc=>?_)
 ·have e:s=[]:=List.eq_nil_of_length_eq_zero (by omega)
  subst e
  refine ax ?_
  exact xdq Tryz.func337 rfl rfl fun _ H_=>K _ _ ⟨rfl,H_.kept⟩
 refine ax ?_
 refine yvd (n:=s.length) rfl rfl (by omega) fun v1 Y1 o1=>?_
 refine ax ?_
 refine ybk rfl rfl o1 (by simp) (by omega) fun Y2 o2=>?_
 refine ax ?_
 refine xnv (i:=0) rfl rfl o2 (by rw [xqj];omega) ?_
 refine ax ?_
 refine xsn rfl rfl trivial o2 (xqj s) ?_
 refine yel o2 (by omega) (by omega) (by show _=some ([],Value.pointer (some (adrV v1)));rw [show adrV v1=(adrV v1).add (0*1) from add_z.symm];rfl) rfl (by kernel_rfl) (by kernel_rfl) ?_
 refine ax ?_
 exact xdq Tryz.func337 rfl rfl fun _ H_=>K _ _ ⟨rfl,H_.kept⟩
section
variable {te tr:TypeId} {ue ur:Value} {tE tR:TypeId} {zE zR:Nat × Nat}
theorem c310 (md:Md) (h:Heap) (p:PHeap) (hp:Per p h) (f s:Str) (hs:s.length<=900) (E:p 8=some (.cells #[.iface te ue] tE zE)):
  CallsX Tryz.prog md 310 #[sv f,sv s] h fun v h'=>(∃ x,v= .pointer x)/\Keep h h':=by
 refine xeq hp Tryz.func310 fun _ _ _ K=>?_
 refine ax ?_
 refine xix [] R4 ?_
 refine ex ?_
 refine xlk rfl rfl rfl rfl trivial (fun _ pe=>c337 md _ _ pe s hs) ?_
 refine ex ?_
 refine ax ?_
 refine xjq rfl fun b1=>?_
 refine ax ?_
 exact xdq Tryz.func310 rfl rfl fun _ H_=>K _ _ ⟨⟨_,rfl⟩,H_.kept⟩
theorem c311 (md:Md) (h:Heap) (p:PHeap) (hp:Per p h) (f s:Str) (hs:s.length<=900) (E:p 9=some (.cells #[.iface tr ur] tR zR)):
  CallsX Tryz.prog md 311 #[sv f,sv s] h fun v h'=>(∃ x,v= .pointer x)/\Keep h h':=by
 refine xeq hp Tryz.func311 fun _ _ _ K=>?_
 refine ax ?_
 refine xix [] R4 ?_
 refine ex ?_
 refine xlk rfl rfl rfl rfl trivial (fun _ pe=>c337 md _ _ pe s hs) ?_
 refine ex ?_
 refine ax ?_
 refine xjq rfl fun b1=>?_
 refine ax ?_
 exact xdq Tryz.func311 rfl rfl fun _ H_=>K _ _ ⟨⟨_,rfl⟩,H_.kept⟩
abbrev eV (n:Int):Value:=.iface 327 (.int .i64 n)
theorem c264 (md:Md) (h:Heap) (p:PHeap) (hp:Per p h) (f s:Str) (hs:s.length<=900) (n:Int) (hn:n=1\/n=2) (E:p 8=some (.cells #[.iface te ue] tE zE)) (R:p 9=some (.cells #[.iface tr ur] tR zR)):
  CallsX Tryz.prog md 264 #[sv f,sv s,.int .i64 0,.int .i64 0,eV n] h fun v h'=>LastR p h (fun v _=>∃ t u,v= .iface t u) v h':=by
 refine xeq hp Tryz.func264 fun _ _ _ K=>?_
 refine ax ?_
 refine xrw rfl rfl trivial Tryz.underlying327 ?_
 refine ax ?_
 refine xh8 rfl rfl rfl trivial trivial Tryz.underlying248 (by kernel_rfl) Tryz.underlying327 ?_
 refine ax ?_
 refine xhq rfl (fun cc=>?_) (fun cc=>?_)
 ·refine ax ?_
  refine xxj (Q:=fun v Y=>(∃ x,v= .pointer x)/\Y=[]) rfl rfl (fun _ pe=>(c310 md _ _ pe f s hs E).mono fun _ _ ⟨q,kk⟩=>⟨[],⟨q,rfl⟩,⟨kk,fun x hx=>(by cases hx),List.nodup_nil⟩⟩) ?_
  rintro _ _ ⟨⟨x,rfl⟩,rfl⟩
  refine xrw rfl rfl trivial Tryz.underlying330 ?_
  refine ax ?_
  exact xdq Tryz.func264 rfl rfl fun _ H_=>K _ _ (xvx (p:=p) (p':=p) (Q:=fun v _=>∃ t u,v= .iface t u) H_ (.refl _ _ _) ⟨_,_,rfl⟩)
 have h2:n=1:=by omega
 subst h2
 refine ax ?_
 refine xrw rfl rfl trivial Tryz.underlying327 ?_
 refine ax ?_
 refine xh8 rfl rfl rfl trivial trivial Tryz.underlying248 (by kernel_rfl) Tryz.underlying327 ?_
 refine ax ?_
 refine xhq rfl (fun cc=>?_) (fun cc=>absurd rfl cc)
 refine ax ?_
 refine xxj (Q:=fun v Y=>(∃ x,v= .pointer x)/\Y=[]) rfl rfl (fun _ pe=>(c311 md _ _ pe f s hs R).mono fun _ _ ⟨q,kk⟩=>⟨[],⟨q,rfl⟩,⟨kk,fun x hx=>(by cases hx),List.nodup_nil⟩⟩) ?_
 rintro _ _ ⟨⟨x,rfl⟩,rfl⟩
 refine xrw rfl rfl trivial Tryz.underlying330 ?_
 refine ax ?_
 exact xdq Tryz.func264 rfl rfl fun _ H_=>K _ _ (xvx (p:=p) (p':=p) (Q:=fun v _=>∃ t u,v= .iface t u) H_ (.refl _ _ _) ⟨_,_,rfl⟩)
end
end Go.Proofs.YtbphcmeebnkmdaaGreatDoor
namespace Go.X
theorem wrap64 (z:Int): -9223372036854775808<=IntKind.i64.wrap z/\IntKind.i64.wrap z<=9223372036854775807:=by
 simp only [IntKind.wrap,IntKind.bits,IntKind.signed]
 simp
 omega
end Go.X
namespace Go.Proofs.YtbphcmeebnkmdaaGreatDoor
open Go.X Go.X.Ms Go.Conc
set_option maxRecDepth 20000
set_option synthInstance.maxSize 2000
theorem c349 (md:Md) (h:Heap) (p:PHeap) (hp:Per p h) (c:Nat) (hc:c<256):CallsX Tryz.prog md 349 #[.int .u8 ((c:Nat):Int)] h fun v h'=>v= .int .u8 ((c ||| 32:Nat):Int)/\Keep h h':=by
 refine xeq hp Tryz.func349 fun _ _ _ K=>?_
 refine ax ?_
 refine yil (b:=32) rfl rfl hc (by decide) ?_
 refine ax ?_
 exact xdq Tryz.func349 rfl rfl fun _ H_=>K _ _ ⟨rfl,H_.kept⟩
def isE (e:Value):Prop:=e= .nilIface\/e=eV 1\/e=eV 2
set_option maxHeartbeats 1000000 in
theorem c336 (md:Md) (h:Heap) (p:PHeap) (hp:Per p h) (s:Str) (hs:s.length<=900):
  CallsX Tryz.prog md 336 #[sv s,.int .i64 10,.int .i64 0] h fun v h'=>LastR p h (fun v _=>∃ (n:Nat) (e:Value),v= .tuple #[.int .u64 ((n:Nat):Int),e]/\n<18446744073709551616/\isE e) v h':=by
 have out: ∀ {h_:Heap} {p':PHeap} {L:Pcs} (n:Nat) (e:Value),St h [] p' h_ L->PG h.size [] p p'->n<18446744073709551616->isE e->LastR p h (fun v _=>∃ (n:Nat) (e:Value),v= .tuple #[.int .u64 ((n:Nat):Int),e]/\n<18446744073709551616/\isE e) (.tuple #[.int .u64 ((n:Nat):Int),e]) h_:=fun n e H g hn he=>xvx H g ⟨n,e,rfl,hn,he⟩
 refine xeq hp Tryz.func336 fun _ _ _ K=>?_
 refine ax ?_
 refine xhq rfl (fun cc=>?_) (fun cc=>?_)
 ·refine ax ?_
  refine xrw rfl rfl trivial Tryz.underlying327 ?_
  refine ax ?_
  exact xdq Tryz.func336 rfl rfl fun h_ H_=>K _ _ (out 0 (eV 2) H_ (.refl _ _ _) (by decide) (.inr (.inr rfl)))
 have hpos:0<s.length:=by cases s with | nil=>exact absurd rfl cc | cons a t=>simp
 refine ax ?_
 refine xhq rfl (fun _=>?_) (fun cc=>absurd (by decide) cc)
 refine ax ?_
 refine xhq rfl (fun _=>?_) (fun cc=>absurd (by decide) cc)
 refine ax ?_
 refine xhq rfl (fun _=>?_) (fun cc=>absurd (by decide) cc)
 refine ax ?_
 refine xzj (k':=.u64) ⟨_,Tryz.underlying3⟩ Tryz.underlying232 rfl (by decide) ?_
 refine ypb (s:=64) (w:=0) rfl rfl (by decide) ?_
 refine yob 18446744073709551615 rfl rfl (by decide) ?_
 refine ax ?_
 refine ywl rfl hpos Tryz.underlying9 Tryz.underlying5 fun p' c cap g S hcap=>?_
 have S1:Sl p' c s.length 1 (bcs s):=S
 refine ax ?_
 refine xaz (fun m_ l=>∃ j n:Nat,m_=s.length-j/\l=[(1,none,.int .i64 10),(8,none,.bool (decide ((10:Int)=0))),(9,none,sv s),(10,none,.int .u64 1844674407370955162),(11,none,.int .u64 18446744073709551615),(12,none,.bool false),(13,none,.int .u64 ((n:Nat):Int)),(99,none,.slice c s.length cap),(100,none,.int .i64 ((s.length:Nat):Int)),(101,none,.int .i64 ((j:Nat):Int))]/\j<=s.length/\n<18446744073709551616) ⟨0,0,rfl,rfl,Nat.zero_le _,by decide⟩ sb ?_
 rintro _ _ IH ⟨j,n,rfl,rfl,hj,hn⟩
 refine ax ?_
 refine xhq rfl (fun cd=>?_) (fun cd=>?_)
 ·have hjl:j<s.length:=by omega
  refine ax ?_
  refine xkk rfl (Byts.get S hjl) ?_
  obtain ⟨b,hb⟩: ∃ b,b=(s.getD j 0).toNat:=⟨_,rfl⟩
  have hb8:b<256:=by rw [hb];exact (s.getD j 0).toNat_lt
  rw [<- hb]
  refine ax ?_
  refine xoz (fun l' p_ L_=>∃ x:Nat,l'=[(1,none,.int .i64 10),(8,none,.bool (decide ((10:Int)=0))),(9,none,sv s),(10,none,.int .u64 1844674407370955162),(11,none,.int .u64 18446744073709551615),(12,none,.bool false),(13,none,.int .u64 ((n:Nat):Int)),(16,none,.int .u8 ((x:Nat):Int)),(99,none,.slice c s.length cap),(100,none,.int .i64 ((s.length:Nat):Int)),(101,none,.int .i64 ((j:Nat):Int))]/\p_=p'/\L_=[]/\x<256) ?_ fun k' H=>?_
  ·rintro _ p' _ ⟨x,rfl,rfl,rfl,hx⟩
   refine ax ?_
   refine xzj (k':=.u8) ⟨_,Tryz.underlying3⟩ Tryz.underlying5 rfl (by decide) ?_
   refine ax ?_
   refine xhq rfl (fun ce=>?_) (fun ce=>?_)
   ·refine ax ?_
    refine xrw rfl rfl trivial Tryz.underlying327 ?_
    refine ax ?_
    exact xdq Tryz.func336 rfl rfl fun h_ H_=>K _ _ (out 0 (eV 2) H_ g (by decide) (.inr (.inr rfl)))
   refine ax ?_
   refine xhq rfl (fun cf=>?_) (fun cf=>?_)
   ·refine ax ?_
    refine xrw rfl rfl trivial Tryz.underlying327 ?_
    refine ax ?_
    exact xdq Tryz.func336 rfl rfl fun h_ H_=>K _ _ (out 18446744073709551615 (eV 1) H_ g (by decide) (.inr (.inl rfl)))
   refine ax ?_
   refine xzj (k':=.u64) ⟨_,Tryz.underlying3⟩ Tryz.underlying283 rfl (by decide) ?_
   refine ax ?_
   refine xzj (k':=.u64) ⟨_,Tryz.underlying5⟩ Tryz.underlying283 rfl (wrU0 (by omega)) ?_
   refine yzl (((n*10+x) % 18446744073709551616:Nat):Int) rfl rfl (by rw [yyz];omega) ?_
   refine ax ?_
   refine xhq rfl (fun ch=>?_) (fun ch=>?_)
   ·refine ax ?_
    refine xrw rfl rfl trivial Tryz.underlying327 ?_
    refine ax ?_
    exact xdq Tryz.func336 rfl rfl fun h_ H_=>K _ _ (out 18446744073709551615 (eV 1) H_ g (by decide) (.inr (.inl rfl)))
   refine ax ?_
   exact xqq (IH _ (by omega) ⟨j+1,(n*10+x) % 18446744073709551616,rfl,rfl,by omega,by omega⟩)
  ·refine xhq rfl (fun ce=>absurd ce.2 (by decide)) (fun _=>?_)
   refine ax ?_
   refine xhq rfl (fun ce=>?_) (fun ce=>?_)
   ·refine ax ?_
    refine xzk rfl rfl ⟨wr8 (by omega),trivial⟩ ?_
    refine ax ?_
    exact xqq (H _ _ _ ⟨b-48,by rw [show (((b-48:Nat):Int))=((b:Nat):Int)-48 by omega],rfl,rfl,by omega⟩)
   have hlo:b ||| 32<256:=Nat.or_lt_two_pow (n:=8) hb8 (by decide)
   refine ax ?_
   refine xoq rfl rfl (fun _ pe=>c349 md _ _ pe b hb8) ?_
   refine ax ?_
   refine xex rfl rfl rfl sdu (fun _ _ pe=>c349 md _ _ pe b hb8) ?_
   refine ax ?_
   refine xhq rfl (fun cf=>?_) (fun cf=>?_)
   ·refine ax ?_
    refine xoq rfl rfl (fun _ pe=>c349 md _ _ pe b hb8) ?_
    refine xzk rfl rfl ⟨wr8 (by omega),trivial⟩ ?_
    refine xzk rfl rfl ⟨wr8 (by omega),trivial⟩ ?_
    refine ax ?_
    exact xqq (H _ _ _ ⟨(b ||| 32)-97+10,by rw [show (((((b ||| 32)-97+10:Nat)):Int))=(((b ||| 32:Nat)):Int)-97+10 by omega],rfl,rfl,by omega⟩)
   ·refine ax ?_
    refine xrw rfl rfl trivial Tryz.underlying327 ?_
    refine ax ?_
    exact xdq Tryz.func336 rfl rfl fun h_ H_=>K _ _ (out 0 (eV 2) H_ g (by decide) (.inr (.inr rfl)))
 refine ax ?_
 refine xgh (.bool false) rfl ?_
 refine ax ?_
 refine xhq rfl (fun ce=>absurd ce (by simp)) (fun _=>?_)
 refine ax ?_
 exact xdq Tryz.func336 rfl rfl fun h_ H_=>K _ _ (out n .nilIface H_ g hn (.inl rfl))
end Go.Proofs.YtbphcmeebnkmdaaGreatDoor
namespace Go.X
def len8L:List UInt8:=(List.range 256).map fun n=>UInt8.ofNat (Lib.bitLen n)
theorem ygq:len8L.length=256:=by simp [len8L]
theorem xps: ∀ n:Fin 256,(len8L.getD n.val 0).toNat=Lib.bitLen n.val/\Lib.bitLen n.val<=8:=by decide +kernel
theorem yjv {n:Nat} (h:n<256):(len8L.getD n 0).toNat=Lib.bitLen n:=(xps ⟨n,h⟩).1
theorem yiv {n:Nat} (h:n<256):Lib.bitLen n<=8:=(xps ⟨n,h⟩).2
theorem ynf {p:PHeap} {t:TypeId} {z:Nat × Nat} {g:Nat} (Z:p g=some (.cells (Lib.pow10Tab.map (Value.int .u64)).toArray t z)) {i:Nat} (h:i<20):pcell p ((⟨g,0,none⟩:Addr).add (i*1))=some (.int .u64 ((10 ^ i:Nat):Int)):=by
 rw [xjx]
 unfold pcell
 rw [Z]
 simp [Lib.pow10Tab,h]
end Go.X
namespace Go.Proofs.YtbphcmeebnkmdaaGreatDoor
open Go.X Go.X.Ms Go.Conc
set_option maxRecDepth 20000
set_option synthInstance.maxSize 2000
theorem c320 (md:Md) (h:Heap) (p:PHeap) (hp:Per p h) (q:Prop) [Decidable q]:CallsX Tryz.prog md 320 #[.bool (decide q)] h fun v h'=>v= .int .i64 (if q then 1 else 0)/\Keep h h':=by
 refine xeq hp Tryz.func320 fun _ _ _ K=>?_
 refine ax ?_
 refine xhq rfl (fun cc=>?_) (fun cc=>?_)
 ·refine ax ?_
  exact xdq Tryz.func320 rfl rfl fun _ H_=>K _ _ ⟨by rw [if_pos cc];rfl,H_.kept⟩
 ·refine ax ?_
  exact xdq Tryz.func320 rfl rfl fun _ H_=>K _ _ ⟨by rw [if_neg cc];rfl,H_.kept⟩
theorem c318 (md:Md) (h:Heap) (p:PHeap) (hp:Per p h) (x:Nat) (hx:x<=64):CallsX Tryz.prog md 318 #[.int .i64 ((x:Nat):Int)] h fun v h'=>v= .int .i64 ((Lib.l10 x:Nat):Int)/\Keep h h':=by
 refine xeq hp Tryz.func318 fun _ _ _ K=>?_
 refine ax ?_
 refine xmm (a:=x*78913) (s:=18) rfl rfl rfl trivial trivial (show _<=64 from by omega) ?_
 refine ax ?_
 exact xdq Tryz.func318 rfl rfl fun _ H_=>K _ _ ⟨rfl,H_.kept⟩
theorem d319 (md:Md) (h:Heap) (p:PHeap) (hp:Per p h) (x:Nat) (hx:x<18446744073709551616):CallsX Tryz.prog md 319 #[.int .u64 ((x:Nat):Int)] h fun v h'=>v= .int .i64 ((Lib.bitLen x:Nat):Int)/\Keep h h':=by
 refine xeq hp Tryz.func319 fun _ _ _ K=>?_
 refine ax ?_
 refine xoz (fun l' p' LL'=>∃ y n:Nat,l'=[(0,none,.int .u64 ((y:Nat):Int)),(2,none,.int .i64 ((n:Nat):Int))]/\p'=p/\LL'=[]/\y<4294967296/\n<=32/\n+Lib.bitLen y=Lib.bitLen x) ?_ fun k' H=>?_
 ·rintro _ p _ ⟨y,n,rfl,rfl,rfl,hy,hn,hl⟩
  refine ax ?_
  refine xoz (fun l' p' LL'=>∃ y n:Nat,l'=[(0,none,.int .u64 ((y:Nat):Int)),(2,none,.int .i64 ((n:Nat):Int))]/\p'=p/\LL'=[]/\y<65536/\n<=48/\n+Lib.bitLen y=Lib.bitLen x) ?_ fun k' H=>?_
  ·rintro _ p _ ⟨y,n,rfl,rfl,rfl,hy,hn,hl⟩
   refine ax ?_
   refine xoz (fun l' p' LL'=>∃ y n:Nat,l'=[(0,none,.int .u64 ((y:Nat):Int)),(2,none,.int .i64 ((n:Nat):Int))]/\p'=p/\LL'=[]/\y<256/\n<=56/\n+Lib.bitLen y=Lib.bitLen x) ?_ fun k' H=>?_
   ·rintro _ p _ ⟨y,n,rfl,rfl,rfl,hy,hn,hl⟩
    refine ax ?_
    refine xzj (k':=.u8) ⟨_,Tryz.underlying283⟩ Tryz.underlying5 rfl (wr8 (by omega)) ?_
    refine xyj (ss:=[]) (a:=len8L) rfl (by kernel_rfl) rfl trivial trivial ⟨by omega,by rw [ygq];omega⟩ ?_
    rw [Int.toNat_natCast,yjv hy]
    have b8:=yiv hy
    refine xzj (k':=.i64) ⟨_,Tryz.underlying5⟩ Tryz.underlying3 rfl (wrZ (by omega)) ?_
    refine ax ?_
    exact xdq Tryz.func319 rfl rfl fun _ H_=>K _ _ ⟨by rw [<- hl];rfl,H_.kept⟩
   ·refine xhq rfl (fun cc=>?_) (fun cc=>?_)
    ·refine ax ?_
     refine xmm (a:=y) (s:=8) rfl rfl rfl trivial trivial (show _<=64 from by omega) ?_
     refine ax ?_
     have z:=Lib.bitLen_shift 8 y (by omega) (by omega)
     exact xqq (H _ _ _ ⟨y / 2 ^ 8,n+8,rfl,rfl,rfl,by omega,by omega,by rw [<- hl,z];omega⟩)
    ·refine ax ?_
     exact xqq (H _ _ _ ⟨y,n,rfl,rfl,rfl,by omega,by omega,hl⟩)
  ·refine xhq rfl (fun cc=>?_) (fun cc=>?_)
   ·refine ax ?_
    refine xmm (a:=y) (s:=16) rfl rfl rfl trivial trivial (show _<=64 from by omega) ?_
    refine ax ?_
    have z:=Lib.bitLen_shift 16 y (by omega) (by omega)
    exact xqq (H _ _ _ ⟨y / 2 ^ 16,n+16,rfl,rfl,rfl,by omega,by omega,by rw [<- hl,z];omega⟩)
   ·refine ax ?_
    exact xqq (H _ _ _ ⟨y,n,rfl,rfl,rfl,by omega,by omega,hl⟩)
 ·refine xhq rfl (fun cc=>?_) (fun cc=>?_)
  ·refine ax ?_
   refine xmm (a:=x) (s:=32) rfl rfl rfl trivial trivial (show _<=64 from by omega) ?_
   refine ax ?_
   have z:=Lib.bitLen_shift 32 x (by omega) (by omega)
   exact xqq (H _ _ _ ⟨x / 2 ^ 32,32,rfl,rfl,rfl,by omega,by omega,by rw [z]⟩)
  ·refine ax ?_
   exact xqq (H _ _ _ ⟨x,0,rfl,rfl,rfl,by omega,by omega,by omega⟩)
theorem c277 (md:Md) (h:Heap) (p:PHeap) (hp:Per p h) (x:Nat) (hx:0<x/\x<18446744073709551616) {tT:TypeId} {zT:Nat × Nat} (Z:p 5=some (.cells (Lib.pow10Tab.map (Value.int .u64)).toArray tT zT)):
  CallsX Tryz.prog md 277 #[.int .u64 ((x:Nat):Int)] h fun v h'=>v= .int .i64 ((Lib.nDigits x:Nat):Int)/\Keep h h':=by
 have hd:=Lib.numDigits_eq x hx.1 hx.2
 have hb:Lib.bitLen x<=64:=Lib.bitLen_le x 64 (Nat.le_refl _) hx.2
 refine xeq hp Tryz.func277 fun _ _ _ K=>?_
 refine ax ?_
 refine xoq rfl rfl (fun _ pe=>d319 md _ _ pe x hx.2) ?_
 refine ax ?_
 refine xoq rfl rfl (fun _ pe=>c318 md _ _ pe _ hb) ?_
 refine ax ?_
 refine xd8 (len:=20) (e:=283) (i:=Lib.l10 (Lib.bitLen x)) (c:=⟨5,0,none⟩) (by kernel_rfl) rfl rfl (by omega) ?_
 refine xkk rfl (ynf Z (by omega)) ?_
 refine ax ?_
 refine xoq rfl rfl (fun _ pe=>c320 md _ _ pe _) ?_
 have e:(if ((10 ^ Lib.l10 (Lib.bitLen x):Nat):Int)<=((x:Nat):Int) then (1:Int) else 0)=((if 10 ^ Lib.l10 (Lib.bitLen x)<=x then 1 else 0:Nat):Int):=by split <;> split <;> omega
 rw [e]
 have e2:(if 10 ^ Lib.l10 (Lib.bitLen x)<=x then 1 else 0)<=1:=by split <;> omega
 generalize (if 10 ^ Lib.l10 (Lib.bitLen x)<=x then 1 else 0)=w at hd e2
 refine ax ?_
 exact xdq Tryz.func277 rfl rfl fun _ H_=>K _ _ ⟨by rw [<- hd.1];rfl,H_.kept⟩
theorem c276 (md:Md) (h:Heap) (p:PHeap) (hp:Per p h) (x:Nat) (hx:x<100):CallsX Tryz.prog md 276 #[.int .i64 ((x:Nat):Int)] h fun v h'=>v=sv (txtN x)/\Keep h h':=by
 refine xeq hp Tryz.func276 fun _ _ _ K=>?_
 refine ax ?_
 refine xhq rfl (fun cc=>?_) (fun cc=>?_)
 ·refine ax ?_
  refine xk8 (ss:=[]) (a:=Lib.digits36.data.toList) x (x+1) rfl (by kernel_rfl) rfl rfl trivial trivial trivial ⟨by omega,by show x+1<=Lib.digits36.size;rw [Lib.digits36_size];omega⟩ ?_
  refine ax ?_
  exact xdq Tryz.func276 rfl rfl fun _ H_=>K _ _ ⟨by rw [Lib.digits36_piece (by omega),<- xin];rfl,H_.kept⟩
 ·refine ax ?_
  refine xk8 (ss:=[]) (a:=Lib.smalls.data.toList) (x*2) (x*2+2) rfl (by kernel_rfl) rfl rfl trivial trivial trivial ⟨by omega,by show x*2+2<=Lib.smalls.size;rw [Lib.smalls_size];omega⟩ ?_
  refine ax ?_
  exact xdq Tryz.func276 rfl rfl fun _ H_=>K _ _ ⟨by rw [Lib.smalls_piece (by omega) (by omega),<- xin];rfl,H_.kept⟩
end Go.Proofs.YtbphcmeebnkmdaaGreatDoor
namespace Go.X
abbrev SM:List UInt8:=Lib.smalls.data.toList
theorem xmv:SM.length=200:=by decide +kernel
theorem xlv {j:Int} {i:Nat} (h:j=((i:Nat):Int)):Value.int .u8 ((((SM.getD j.toNat 0).toNat:Nat):Int))= .int .u8 (((Lib.sm i).toNat:Nat):Int):=by subst h;rfl
theorem xoj {A Z:List Value} {d:Array UInt8}:(A++(rowV d++Z)).length=A.length+(d.size+Z.length):=by rw [List.length_append,List.length_append,xg2]
theorem xrn {A Z:List Value} {d:Array UInt8} {j o:Nat} {z:Int} {b:UInt8} (ho:o=A.length+j) (hj:j<d.size) (hv:Value.int .u8 z= .int .u8 ((b.toNat:Nat):Int)):setl (A++(rowV d++Z)) o (Value.int .u8 z).cells.toList=A++(rowV (d.setIfInBounds j b)++Z):=ypd ho hj hv
theorem xhw {A Z:List Value} {d:Array UInt8} {j1 j2 o1 o2:Nat} {z1 z2:Int} {b1 b2:UInt8} (h1:o1=A.length+j1) (h2:j1<d.size) (h3:Value.int .u8 z1= .int .u8 ((b1.toNat:Nat):Int)) (h4:o2=A.length+j2) (h5:j2<d.size) (h6:Value.int .u8 z2= .int .u8 ((b2.toNat:Nat):Int)):
  setl (setl (A++(rowV d++Z)) o1 (Value.int .u8 z1).cells.toList) o2 (Value.int .u8 z2).cells.toList=A++(rowV ((d.setIfInBounds j1 b1).setIfInBounds j2 b2)++Z):=by
 rw [xrn h1 h2 h3,xrn h4 (by simpa using h5) h6]
end Go.X
namespace Go.Proofs.YtbphcmeebnkmdaaGreatDoor
open Go.X Go.X.Ms Go.Conc
set_option maxRecDepth 20000
set_option synthInstance.maxSize 2000
set_option maxHeartbeats 4000000 in
theorem c278 (md:Md) {h h₀:Heap} {B₀:List Nat} {p:PHeap} {C₀:Pcs} (b:Nat) (A Z:List Value) (d₀:Array UInt8) (c nd0 u:Nat) (T:TypeId) (hn:d₀.size=nd0/\nd0<=20/\u<10 ^ nd0/\u<18446744073709551616)
  (s₀:St h₀ B₀ p h ([(b,.cells (A++(rowV d₀++Z)).toArray T (0,0))]++C₀)):
  CallsX Tryz.prog md 278 #[.slice (some ⟨b,A.length,none⟩) nd0 c,.int .u64 ((u:Nat):Int)] h fun _ h'=>∃ X',(∃ v d,X'=[(b,.cells (A++(rowV d++Z)).toArray T (0,0))]/\Lib.FmtInv nd0 u 0 v d)/\St h₀ B₀ p h' (X'++C₀):=by
 obtain ⟨hd0,h20,hu,hu64⟩:=hn
 have F0:Lib.FmtInv nd0 u nd0 u d₀:=by have z:=Lib.FmtInv.start d₀ u (by rw [hd0];exact hu);rwa [hd0] at z
 refine xcj s₀ Tryz.func278 fun _ _ _ K=>?_
 refine ax ?_
 refine xrq (fun m_ l p_ L_=>∃ (nd v:Nat) (d:Array UInt8),m_=nd/\l=[(0,none,.slice (some ⟨b,A.length,none⟩) nd0 c),(1,none,.int .u64 ((v:Nat):Int)),(4,none,.int .i64 ((nd:Nat):Int))]/\p_=p/\L_=[[(b,.cells (A++(rowV d++Z)).toArray T (0,0))],C₀]/\v<18446744073709551616/\Lib.FmtInv nd0 u nd v d) ⟨nd0,u,d₀,rfl,rfl,rfl,rfl,hu64,F0⟩ sb ?_
 rintro nd _ p _ IH ⟨_,v,d,rfl,rfl,rfl,rfl,hv64,F⟩
 have zd:=F.size
 have le:=F.le
 refine ax ?_
 refine xhq rfl (fun cc=>?_) (fun cc=>?_)
 ·obtain ⟨m,rfl⟩: ∃ m,nd=m+8:=⟨nd-8,by omega⟩
  refine ax ?_
  refine xyf 100000000 rfl rfl rfl (by omega) ?_
  refine xzj (k':=.u32) ⟨_,Tryz.underlying283⟩ Tryz.underlying286 rfl (wr32 (by omega)) ?_
  refine ax ?_
  refine xzf 100000000 rfl rfl rfl (by omega) (wrU0 (by omega)) ?_
  refine ax ?_
  refine xzf 10000 rfl rfl rfl (by omega) (wr32 (by omega)) ?_
  refine ax ?_
  refine xyf 10000 rfl rfl rfl (by omega) ?_
  refine ax ?_
  refine xzf 100 rfl rfl rfl (by omega) (wr32 (by omega)) ?_
  refine xzk rfl rfl ⟨wr32 (by omega),trivial⟩ ?_
  refine ax ?_
  refine xyf 100 rfl rfl rfl (by omega) ?_
  refine xzk rfl rfl ⟨wr32 (by omega),trivial⟩ ?_
  refine ax ?_
  refine xzf 100 rfl rfl rfl (by omega) (wr32 (by omega)) ?_
  refine xzk rfl rfl ⟨wr32 (by omega),trivial⟩ ?_
  refine ax ?_
  refine xyf 100 rfl rfl rfl (by omega) ?_
  refine xzk rfl rfl ⟨wr32 (by omega),trivial⟩ ?_
  refine ax ?_
  refine xpw [12] R13 b ?_
  refine ex ?_
  refine xaf rfl rfl rfl ⟨wr32 (by omega),trivial⟩ ?_
  refine xwj (ss:=[]) (a:=SM) rfl rfl (by kernel_rfl) rfl trivial trivial ⟨by omega,by rw [xmv];omega⟩ ?_
  refine ex ?_
  refine xwj (ss:=[]) (a:=SM) rfl rfl (by kernel_rfl) rfl trivial trivial ⟨by omega,by rw [xmv];omega⟩ ?_
  refine xc1 rfl rfl rfl (by omega) (by omega) ?_
  refine xil rfl rfl rfl ?_ (hlen:=?_)
  rotate_left
  ·rw [xoj];show _+1<=_;omega
  refine ex ?_
  refine xyr rfl rfl (by omega) (by omega) ?_
  refine xcc rfl rfl ?_ (hlen:=?_)
  rotate_left
  ·rw [xwx,xoj];show _+1<=_;omega
  rw [xhw (d:=d) (j1:=m+6+1) (j2:=m+6) (b1:=Lib.sm (v % 100*2+1)) (b2:=Lib.sm (v % 100*2)) (by omega) (by omega) (xlv (by omega)) (by omega) (by omega) (xlv (by omega))]
  have F1:=F.step2' (k:=m+6)
  generalize (d.setIfInBounds (m+6+1) (Lib.sm (v % 100*2+1))).setIfInBounds (m+6) (Lib.sm (v % 100*2))=d1 at F1 ⊢
  have zd1:=F1.size
  refine ax ?_
  refine xpw [12] R13 b ?_
  refine ex ?_
  refine xaf rfl rfl rfl ⟨wr32 (by omega),trivial⟩ ?_
  refine xwj (ss:=[]) (a:=SM) rfl rfl (by kernel_rfl) rfl trivial trivial ⟨by omega,by rw [xmv];omega⟩ ?_
  refine ex ?_
  refine xwj (ss:=[]) (a:=SM) rfl rfl (by kernel_rfl) rfl trivial trivial ⟨by omega,by rw [xmv];omega⟩ ?_
  refine xc1 rfl rfl rfl (by omega) (by omega) ?_
  refine xil rfl rfl rfl ?_ (hlen:=?_)
  rotate_left
  ·rw [xoj];show _+1<=_;omega
  refine ex ?_
  refine xyr rfl rfl (by omega) (by omega) ?_
  refine xcc rfl rfl ?_ (hlen:=?_)
  rotate_left
  ·rw [xwx,xoj];show _+1<=_;omega
  rw [xhw (d:=d1) (j1:=m+4+1) (j2:=m+4) (b1:=Lib.sm (v / 100 % 100*2+1)) (b2:=Lib.sm (v / 100 % 100*2)) (by omega) (by omega) (xlv (by omega)) (by omega) (by omega) (xlv (by omega))]
  have F2:=F1.step2' (k:=m+4)
  generalize (d1.setIfInBounds (m+4+1) (Lib.sm (v / 100 % 100*2+1))).setIfInBounds (m+4) (Lib.sm (v / 100 % 100*2))=d2 at F2 ⊢
  have zd2:=F2.size
  refine ax ?_
  refine xpw [12] R13 b ?_
  refine ex ?_
  refine xaf rfl rfl rfl ⟨wr32 (by omega),trivial⟩ ?_
  refine xwj (ss:=[]) (a:=SM) rfl rfl (by kernel_rfl) rfl trivial trivial ⟨by omega,by rw [xmv];omega⟩ ?_
  refine ex ?_
  refine xwj (ss:=[]) (a:=SM) rfl rfl (by kernel_rfl) rfl trivial trivial ⟨by omega,by rw [xmv];omega⟩ ?_
  refine xc1 rfl rfl rfl (by omega) (by omega) ?_
  refine xil rfl rfl rfl ?_ (hlen:=?_)
  rotate_left
  ·rw [xoj];show _+1<=_;omega
  refine ex ?_
  refine xyr rfl rfl (by omega) (by omega) ?_
  refine xcc rfl rfl ?_ (hlen:=?_)
  rotate_left
  ·rw [xwx,xoj];show _+1<=_;omega
  rw [xhw (d:=d2) (j1:=m+2+1) (j2:=m+2) (b1:=Lib.sm (v / 100 / 100 % 100*2+1)) (b2:=Lib.sm (v / 100 / 100 % 100*2)) (by omega) (by omega) (xlv (by omega)) (by omega) (by omega) (xlv (by omega))]
  have F3:=F2.step2' (k:=m+2)
  generalize (d2.setIfInBounds (m+2+1) (Lib.sm (v / 100 / 100 % 100*2+1))).setIfInBounds (m+2) (Lib.sm (v / 100 / 100 % 100*2))=d3 at F3 ⊢
  have zd3:=F3.size
  refine ax ?_
  refine xpw [12] R13 b ?_
  refine ex ?_
  refine xaf rfl rfl rfl ⟨wr32 (by omega),trivial⟩ ?_
  refine xwj (ss:=[]) (a:=SM) rfl rfl (by kernel_rfl) rfl trivial trivial ⟨by omega,by rw [xmv];omega⟩ ?_
  refine ex ?_
  refine xwj (ss:=[]) (a:=SM) rfl rfl (by kernel_rfl) rfl trivial trivial ⟨by omega,by rw [xmv];omega⟩ ?_
  refine xc1 rfl rfl rfl (by omega) (by omega) ?_
  refine xil rfl rfl rfl ?_ (hlen:=?_)
  rotate_left
  ·rw [xoj];show _+1<=_;omega
  refine ex ?_
  refine xyr rfl rfl (by omega) (by omega) ?_
  refine xcc rfl rfl ?_ (hlen:=?_)
  rotate_left
  ·rw [xwx,xoj];show _+1<=_;omega
  rw [xhw (d:=d3) (j1:=m+1) (j2:=m) (b1:=Lib.sm (v / 100 / 100 / 100 % 100*2+1)) (b2:=Lib.sm (v / 100 / 100 / 100 % 100*2)) (by omega) (by omega) (xlv (by omega)) (by omega) (by omega) (xlv (by omega))]
  have F4:=F3.step2' (k:=m)
  generalize (d3.setIfInBounds (m+1) (Lib.sm (v / 100 / 100 / 100 % 100*2+1))).setIfInBounds (m) (Lib.sm (v / 100 / 100 / 100 % 100*2))=d4 at F4 ⊢
  have zd4:=F4.size
  refine ax ?_
  have e8:v / 100 / 100 / 100 / 100=v / 100000000:=by omega
  rw [e8] at F4
  exact xqq (IH _ _ _ (m':=m) (by omega) ⟨m,v / 100000000,d4,rfl,by rw [show ((m:Nat):Int)=((m+8:Nat):Int)-8 by omega],rfl,rfl,by omega,F4⟩)
 have v7:=F.lt7 (by omega)
 refine ax ?_
 refine xzj (k':=.u32) ⟨_,Tryz.underlying283⟩ Tryz.underlying286 rfl (wr32 (by omega)) ?_
 refine ax ?_
 refine xoz (fun l' p' LL'=>∃ (nd v:Nat) (d:Array UInt8),l'=[(0,none,.slice (some ⟨b,A.length,none⟩) nd0 c),(4,none,.int .i64 ((nd:Nat):Int)),(12,none,.int .u32 ((v:Nat):Int))]/\p'=p/\LL'=[[(b,.cells (A++(rowV d++Z)).toArray T (0,0))],C₀]/\nd<4/\Lib.FmtInv nd0 u nd v d) ?_ fun k' H=>?_
 ·rintro _ p _ ⟨nd,v,d,rfl,rfl,rfl,hnd,F⟩
  have zd:=F.size
  have le:=F.le
  have v7:=F.lt7 (by omega)
  refine ax ?_
  refine xoz (fun l' p' LL'=>∃ (nd v:Nat) (d:Array UInt8),l'=[(0,none,.slice (some ⟨b,A.length,none⟩) nd0 c),(4,none,.int .i64 ((nd:Nat):Int)),(12,none,.int .u32 ((v:Nat):Int))]/\p'=p/\LL'=[[(b,.cells (A++(rowV d++Z)).toArray T (0,0))],C₀]/\nd<2/\Lib.FmtInv nd0 u nd v d) ?_ fun k' H=>?_
  ·rintro _ p _ ⟨nd,v,d,rfl,rfl,rfl,hnd,F⟩
   have zd:=F.size
   have le:=F.le
   refine ax ?_
   refine xhq rfl (fun cc=>?_) (fun cc=>?_)
   ·obtain rfl:nd=1:=by omega
    have v9:v<10:=by simpa using F.small
    refine ax ?_
    refine xzk rfl rfl ⟨wr32 (by omega),trivial⟩ ?_
    refine xzj (k':=.u8) ⟨_,Tryz.underlying286⟩ Tryz.underlying5 rfl (wr8 (by omega)) ?_
    refine xyr rfl rfl (by omega) (by omega) ?_
    refine xcc rfl rfl ?_ (hlen:=?_)
    rotate_left
    ·rw [xoj];show _+1<=_;omega
    rw [xrn (d:=d) (j:=0) (b:=UInt8.ofNat (48+v)) (by omega) (by omega) (by rw [u8n (by omega)];congr 1)]
    refine ax ?_
    exact xcb Tryz.func278 rfl fun _ H_=>K _ _ ⟨_,⟨_,_,rfl,F.step1⟩,xqf H_⟩
   ·obtain rfl:nd=0:=by omega
    refine ax ?_
    exact xcb Tryz.func278 rfl fun _ H_=>K _ _ ⟨_,⟨_,_,rfl,F⟩,xqf H_⟩
  ·refine xhq rfl (fun cc=>?_) (fun cc=>?_)
   ·obtain ⟨m,rfl⟩: ∃ m,nd=m+2:=⟨nd-2,by omega⟩
    refine ax ?_
    refine xyf 100 rfl rfl rfl (by omega) ?_
    refine xzk rfl rfl ⟨wr32 (by omega),trivial⟩ ?_
    refine ax ?_
    refine xzf 100 rfl rfl rfl (by omega) (wr32 (by omega)) ?_
    refine ax ?_
    refine xpw [12] R13 b ?_
    refine ex ?_
    refine xaf rfl rfl rfl ⟨wr32 (by omega),trivial⟩ ?_
    refine xwj (ss:=[]) (a:=SM) rfl rfl (by kernel_rfl) rfl trivial trivial ⟨by omega,by rw [xmv];omega⟩ ?_
    refine ex ?_
    refine xwj (ss:=[]) (a:=SM) rfl rfl (by kernel_rfl) rfl trivial trivial ⟨by omega,by rw [xmv];omega⟩ ?_
    refine xc1 rfl rfl rfl (by omega) (by omega) ?_
    refine xil rfl rfl rfl ?_ (hlen:=?_)
    rotate_left
    ·rw [xoj];show _+1<=_;omega
    refine ex ?_
    refine xyr rfl rfl (by omega) (by omega) ?_
    refine xcc rfl rfl ?_ (hlen:=?_)
    rotate_left
    ·rw [xwx,xoj];show _+1<=_;omega
    rw [xhw (d:=d) (j1:=m+1) (j2:=m) (b1:=Lib.sm (v % 100*2+1)) (b2:=Lib.sm (v % 100*2)) (by omega) (by omega) (xlv (by omega)) (by omega) (by omega) (xlv (by omega))]
    have F1:=F.step2' (k:=m)
    generalize (d.setIfInBounds (m+1) (Lib.sm (v % 100*2+1))).setIfInBounds (m) (Lib.sm (v % 100*2))=d1 at F1 ⊢
    have zd1:=F1.size
    refine ax ?_
    exact xqq (H _ _ _ ⟨m,v / 100,d1,by rw [show ((m:Nat):Int)=((m+2:Nat):Int)-2 by omega],rfl,rfl,by omega,F1⟩)
   ·refine ax ?_
    exact xqq (H _ _ _ ⟨nd,v,d,rfl,rfl,rfl,by omega,F⟩)
 ·refine xhq rfl (fun cc=>?_) (fun cc=>?_)
  ·obtain ⟨m,rfl⟩: ∃ m,nd=m+4:=⟨nd-4,by omega⟩
   refine ax ?_
   refine xyf 10000 rfl rfl rfl (by omega) ?_
   refine ax ?_
   refine xzf 10000 rfl rfl rfl (by omega) (wr32 (by omega)) ?_
   refine ax ?_
   refine xzf 100 rfl rfl rfl (by omega) (wr32 (by omega)) ?_
   refine xzk rfl rfl ⟨wr32 (by omega),trivial⟩ ?_
   refine ax ?_
   refine xyf 100 rfl rfl rfl (by omega) ?_
   refine xzk rfl rfl ⟨wr32 (by omega),trivial⟩ ?_
   refine ax ?_
   refine xpw [12] R13 b ?_
   refine ex ?_
   refine xaf rfl rfl rfl ⟨wr32 (by omega),trivial⟩ ?_
   refine xwj (ss:=[]) (a:=SM) rfl rfl (by kernel_rfl) rfl trivial trivial ⟨by omega,by rw [xmv];omega⟩ ?_
   refine ex ?_
   refine xwj (ss:=[]) (a:=SM) rfl rfl (by kernel_rfl) rfl trivial trivial ⟨by omega,by rw [xmv];omega⟩ ?_
   refine xc1 rfl rfl rfl (by omega) (by omega) ?_
   refine xil rfl rfl rfl ?_ (hlen:=?_)
   rotate_left
   ·rw [xoj];show _+1<=_;omega
   refine ex ?_
   refine xyr rfl rfl (by omega) (by omega) ?_
   refine xcc rfl rfl ?_ (hlen:=?_)
   rotate_left
   ·rw [xwx,xoj];show _+1<=_;omega
   rw [xhw (d:=d) (j1:=m+2+1) (j2:=m+2) (b1:=Lib.sm (v % 100*2+1)) (b2:=Lib.sm (v % 100*2)) (by omega) (by omega) (xlv (by omega)) (by omega) (by omega) (xlv (by omega))]
   have F1:=F.step2' (k:=m+2)
   generalize (d.setIfInBounds (m+2+1) (Lib.sm (v % 100*2+1))).setIfInBounds (m+2) (Lib.sm (v % 100*2))=d1 at F1 ⊢
   have zd1:=F1.size
   refine ax ?_
   refine xpw [12] R13 b ?_
   refine ex ?_
   refine xaf rfl rfl rfl ⟨wr32 (by omega),trivial⟩ ?_
   refine xwj (ss:=[]) (a:=SM) rfl rfl (by kernel_rfl) rfl trivial trivial ⟨by omega,by rw [xmv];omega⟩ ?_
   refine ex ?_
   refine xwj (ss:=[]) (a:=SM) rfl rfl (by kernel_rfl) rfl trivial trivial ⟨by omega,by rw [xmv];omega⟩ ?_
   refine xc1 rfl rfl rfl (by omega) (by omega) ?_
   refine xil rfl rfl rfl ?_ (hlen:=?_)
   rotate_left
   ·rw [xoj];show _+1<=_;omega
   refine ex ?_
   refine xyr rfl rfl (by omega) (by omega) ?_
   refine xcc rfl rfl ?_ (hlen:=?_)
   rotate_left
   ·rw [xwx,xoj];show _+1<=_;omega
   rw [xhw (d:=d1) (j1:=m+1) (j2:=m) (b1:=Lib.sm (v / 100 % 100*2+1)) (b2:=Lib.sm (v / 100 % 100*2)) (by omega) (by omega) (xlv (by omega)) (by omega) (by omega) (xlv (by omega))]
   have F2:=F1.step2' (k:=m)
   generalize (d1.setIfInBounds (m+1) (Lib.sm (v / 100 % 100*2+1))).setIfInBounds (m) (Lib.sm (v / 100 % 100*2))=d2 at F2 ⊢
   have zd2:=F2.size
   refine ax ?_
   have e4:v / 100 / 100=v / 10000:=by omega
   rw [e4] at F2
   exact xqq (H _ _ _ ⟨m,v / 10000,d2,by rw [show ((m:Nat):Int)=((m+4:Nat):Int)-4 by omega],rfl,rfl,by omega,F2⟩)
  ·refine ax ?_
   exact xqq (H _ _ _ ⟨nd,v,d,rfl,rfl,rfl,by omega,F⟩)
section
variable {tT:TypeId} {zT:Nat × Nat}
theorem c244 (md:Md) (h:Heap) (p:PHeap) (hp:Per p h) (n:Int) (hn: -9223372036854775808<=n/\n<=9223372036854775807) (Z:p 5=some (.cells (Lib.pow10Tab.map (Value.int .u64)).toArray tT zT)):
  CallsX Tryz.prog md 244 #[.int .i64 n,.int .i64 10] h fun v h'=>v=sv (txt n)/\Keep h h':=by
 refine xeq hp Tryz.func244 fun _ _ _ K=>?_
 refine ax ?_
 refine xhq rfl (fun _=>?_) (fun cc=>absurd rfl cc)
 refine ax ?_
 refine xhq rfl (fun cc=>?_) (fun cc=>?_)
 ·obtain ⟨x,rfl⟩: ∃ x:Nat,n=((x:Nat):Int):=⟨n.toNat,by omega⟩
  refine ax ?_
  refine xoq rfl rfl (fun _ pe=>c276 md _ _ pe x (by omega)) ?_
  refine ax ?_
  exact xdq Tryz.func244 rfl rfl fun _ H_=>K _ _ ⟨by rw [xy6];rfl,H_.kept⟩
 refine ax ?_
 refine xiq fun b5=>?_
 refine ax ?_
 have key: ∀ m:Nat,0<m->m<18446744073709551616->Lib.nDigits m<=20/\1<=Lib.nDigits m/\m<10 ^ Lib.nDigits m:=fun m h0 h1=>by
  have hd:=Lib.numDigits_eq m h0 h1
  exact ⟨by rw [<- hd.1];split <;> omega,Lib.nDigits_pos m,Lib.lt_pow_nDigits m⟩
 by_cases hneg:n<0
 ·obtain ⟨m,rfl⟩: ∃ m:Nat,n= -((m:Nat):Int):=⟨n.natAbs,by omega⟩
  obtain ⟨k1,k2,k3⟩:=key m (by omega) (by omega)
  refine xjh ((18446744073709551616-m:Nat):Int) rfl (by rw [yyz];omega) ?_ (hs:=⟨_,Tryz.underlying2⟩)
  refine ax ?_
  refine xhq rfl (fun _=>?_) (fun cc=>absurd hneg cc)
  refine ax ?_
  refine yrb (a:=18446744073709551616-m) rfl (by omega) ?_
  rw [show 18446744073709551616-(18446744073709551616-m)=m by omega]
  refine ax ?_
  refine xoq rfl rfl (fun _ pe=>c277 md _ _ pe m (by omega) Z) ?_
  refine ax ?_
  refine xu7 (n:=24) (e:=5) (i:=1) (r:=1+Lib.nDigits m) rfl rfl rfl (by omega) (by omega) (by decide) (by kernel_rfl) ?_
  rw [show 1+Lib.nDigits m-1=Lib.nDigits m by omega]
  refine ax ?_
  refine xa0 (LL':=[[(b5,.cells (List.replicate 1 (Value.int .u8 0)++(rowV (Array.replicate (Lib.nDigits m) 0)++List.replicate (24-1-Lib.nDigits m) (Value.int .u8 0))).toArray 297 (0,0))]]) ?_ (fun h s=>by rw [<- xcr (by omega)];exact s)
  refine xkh [(b5,.cells (List.replicate 1 (Value.int .u8 0)++(rowV (Array.replicate (Lib.nDigits m) 0)++List.replicate (24-1-Lib.nDigits m) (Value.int .u8 0))).toArray 297 (0,0))] rfl rfl (fun h C s=>c278 md b5 (List.replicate 1 (Value.int .u8 0)) _ _ (24-1) (Lib.nDigits m) m _ ⟨by simp,k1,k3,by omega⟩ s) ?_
  rintro v _ ⟨w,d,rfl,F⟩
  refine ax ?_
  refine xhq rfl (fun _=>?_) (fun cc=>absurd hneg cc)
  refine ax ?_
  refine xj2 (len:=24) (e:=5) (i:=0) (by kernel_rfl) rfl rfl (by decide) ?_
  refine xcc rfl rfl ?_ (hlen:=?_)
  rotate_left
  ·show 0+0*1+1<=([_]++_:List Value).length
   simp
  refine ax ?_
  refine ysd (n:=24) (e:=5) (r:=1+Lib.nDigits m) rfl rfl (by omega) (by decide) (by kernel_rfl) ?_
  have el:1+Lib.nDigits m=(45::txtN m).length:=by rw [List.length_cons,xpt];omega
  rw [el]
  refine xwt rfl (fun j v hj=>?_) ?_
  ·rw [xt3 F]
   rw [show (bcs (45::txtN m)).flatten=Value.int .u8 45::(bcs (txtN m)).flatten from rfl] at hj
   show (Value.int .u8 45::((bcs (txtN m)).flatten++_)).toArray[0+j]?=some v
   rw [Nat.zero_add,List.getElem?_toArray,<- List.cons_append,List.getElem?_append_left (List.getElem?_eq_some_iff.1 hj).1]
   exact hj
  refine ax ?_
  exact xdq Tryz.func244 rfl rfl fun _ H_=>K _ _ ⟨by rw [yad (by omega)];rfl,H_.kept⟩
 ·obtain ⟨m,rfl⟩: ∃ m:Nat,n=((m:Nat):Int):=⟨n.toNat,by omega⟩
  obtain ⟨k1,k2,k3⟩:=key m (by omega) (by omega)
  refine xjh ((m:Nat):Int) rfl (wrU0 (by omega)) ?_ (hs:=⟨_,Tryz.underlying2⟩)
  refine ax ?_
  refine xhq rfl (fun cc=>absurd cc hneg) (fun _=>?_)
  refine ax ?_
  refine xoq rfl rfl (fun _ pe=>c277 md _ _ pe m (by omega) Z) ?_
  refine ax ?_
  refine xu7 (n:=24) (e:=5) (i:=1) (r:=1+Lib.nDigits m) rfl rfl rfl (by omega) (by omega) (by decide) (by kernel_rfl) ?_
  rw [show 1+Lib.nDigits m-1=Lib.nDigits m by omega]
  refine ax ?_
  refine xa0 (LL':=[[(b5,.cells (List.replicate 1 (Value.int .u8 0)++(rowV (Array.replicate (Lib.nDigits m) 0)++List.replicate (24-1-Lib.nDigits m) (Value.int .u8 0))).toArray 297 (0,0))]]) ?_ (fun h s=>by rw [<- xcr (by omega)];exact s)
  refine xkh [(b5,.cells (List.replicate 1 (Value.int .u8 0)++(rowV (Array.replicate (Lib.nDigits m) 0)++List.replicate (24-1-Lib.nDigits m) (Value.int .u8 0))).toArray 297 (0,0))] rfl rfl (fun h C s=>c278 md b5 (List.replicate 1 (Value.int .u8 0)) _ _ (24-1) (Lib.nDigits m) m _ ⟨by simp,k1,k3,by omega⟩ s) ?_
  rintro v _ ⟨w,d,rfl,F⟩
  refine ax ?_
  refine xhq rfl (fun cc=>absurd cc hneg) (fun _=>?_)
  refine ax ?_
  refine xu7 (n:=24) (e:=5) (i:=1) (r:=1+Lib.nDigits m) rfl rfl rfl (by omega) (by omega) (by decide) (by kernel_rfl) ?_
  rw [show 1+Lib.nDigits m-1=(txtN m).length by rw [xpt];omega]
  refine xwt rfl (fun j v hj=>?_) ?_
  ·rw [xt3 F]
   show (Value.int .u8 0::((bcs (txtN m)).flatten++_)).toArray[0+1*1+j]?=some v
   rw [show 0+1*1+j=j+1 by omega,List.getElem?_toArray,List.getElem?_cons_succ,List.getElem?_append_left (List.getElem?_eq_some_iff.1 hj).1]
   exact hj
  refine ax ?_
  exact xdq Tryz.func244 rfl rfl fun _ H_=>K _ _ ⟨by rw [xy6];rfl,H_.kept⟩
theorem c195 (md:Md) (h:Heap) (p:PHeap) (hp:Per p h) (n:Int) (hn: -9223372036854775808<=n/\n<=9223372036854775807) (Z:p 5=some (.cells (Lib.pow10Tab.map (Value.int .u64)).toArray tT zT)):
  CallsX Tryz.prog md 195 #[.int .i64 n] h fun v h'=>v=sv (txt n)/\Keep h h':=by
 refine xeq hp Tryz.func195 fun _ _ _ K=>?_
 refine ax ?_
 refine xoq rfl rfl (fun _ pe=>c244 md _ _ pe n hn Z) ?_
 refine ax ?_
 exact xdq Tryz.func195 rfl rfl fun _ H_=>K _ _ ⟨rfl,H_.kept⟩
theorem c110 (md:Md) (h:Heap) (p:PHeap) (hp:Per p h) (n:Int) (hn: -9223372036854775808<=n/\n<=9223372036854775807) (Z:p 5=some (.cells (Lib.pow10Tab.map (Value.int .u64)).toArray tT zT)):
  CallsX Tryz.prog md 110 #[.int .i64 n] h fun v h'=>v=sv (txt n)/\Keep h h':=by
 refine xeq hp Tryz.func110 fun _ _ _ K=>?_
 refine ax ?_
 refine xoq rfl rfl (fun _ pe=>c195 md _ _ pe n hn Z) ?_
 refine ax ?_
 exact xdq Tryz.func110 rfl rfl fun _ H_=>K _ _ ⟨rfl,H_.kept⟩
end
end Go.Proofs.YtbphcmeebnkmdaaGreatDoor
namespace Go.X
theorem yfp (z:Int):IntKind.u8.wrap z=z % 256:=by simp [IntKind.wrap,IntKind.bits,IntKind.signed]
namespace Ms
theorem xdb {b:Bool} {t:Str} {m:Nat} (h:numU b t=some m):numN 0 t=some m/\0<t.length/\t.length<=6:=by
 unfold numU at h
 split at h
 ·cases h
 ·rename_i hc
  exact ⟨h,by omega,by omega⟩
theorem yxk {s:Str} {k:Int} (h:numR s=some k):0<s.length/\s.length<=7:=by
 unfold numR at h
 split at h
 ·obtain ⟨m,h1,_⟩:=Option.map_eq_some_iff.1 h
  have:=xdb h1
  rw [List.length_tail] at this
  omega
 ·obtain ⟨m,h1,_⟩:=Option.map_eq_some_iff.1 h
  have:=xdb h1
  omega
def Sp (s s':Str):Prop:=∀ k,numR s=some k-> ∃ m:Nat,numN 0 s'=some m/\k=if s.headD 0=45 then -(m:Int) else (m:Int)
theorem ymj {s:Str} (h:s.headD 0=45):Sp s (s.drop 1):=fun k hk=>by
 unfold numR at hk
 rw [if_pos h] at hk
 obtain ⟨m,h1,h2⟩:=Option.map_eq_some_iff.1 hk
 exact ⟨m,by rw [List.drop_one];exact (xdb h1).1,by rw [if_pos h];exact h2.symm⟩
theorem ylj {s:Str} (h: ¬ s.headD 0=45):Sp s s:=fun k hk=>by
 unfold numR at hk
 rw [if_neg h] at hk
 obtain ⟨m,h1,h2⟩:=Option.map_eq_some_iff.1 hk
 exact ⟨m,(xdb h1).1,by rw [if_neg h];exact h2.symm⟩
theorem xa3 {s:Str} (h:s.headD 0=43):numR s=none:=by
  cases s with
  | nil=>simp at h
  | cons c t=>
    simp at h
    subst h
    unfold numR
    rw [if_neg (by simp)]
    have:numU false (43::t)=none:=by
      unfold numU
      split
      · rfl
      · unfold numN;rfl
    rw [this];rfl
theorem xv9 {acc:Nat} {s:Str} {j:Nat} (h:j<s.length):numN acc (s.drop j)=if isDig (s.getD j 0) then numN (10*acc+((s.getD j 0).toNat-48)) (s.drop (j+1)) else none:=by
 rw [List.drop_eq_getElem_cons h,numN,List.getD_eq_getElem?_getD,List.getElem?_eq_getElem h];rfl
theorem xod {c:UInt8}:isDig c=true<->48<=c.toNat/\c.toNat<=57:=by unfold isDig;simp
end Ms
end Go.X
namespace Go.Proofs.YtbphcmeebnkmdaaGreatDoor
open Go.X Go.X.Ms Go.Conc
set_option maxRecDepth 20000
set_option synthInstance.maxSize 2000
def pairE (v:Value):Prop:=∃ (n:Int) (e:Value),v= .tuple #[.int .i64 n,e]/\(-9223372036854775808<=n/\n<=9223372036854775807)/\isE e
set_option maxHeartbeats 1000000 in
theorem c309 (md:Md) (h:Heap) (p:PHeap) (hp:Per p h) (s:Str) (hs:s.length<=900):
    CallsX Tryz.prog md 309 #[sv s,.int .i64 10,.int .i64 0] h fun v h'=>LastR p h (fun v _=>pairE v) v h':=by
  have out: ∀ {h_:Heap} {p':PHeap} {L:Pcs} (n:Int) (e:Value),St h [] p' h_ L->PG h.size [] p p'->(-9223372036854775808<=n/\n<=9223372036854775807)->isE e->LastR p h (fun v _=>pairE v) (.tuple #[.int .i64 n,e]) h_:=fun n e H g hn he=>xvx H g ⟨n,e,rfl,hn,he⟩
  refine xeq hp Tryz.func309 fun _ _ _ K=>?_
  refine ax ?_
  refine xhq rfl (fun cc=>?_) (fun cc=>?_)
  · refine ax ?_
    refine xrw rfl rfl trivial Tryz.underlying327 ?_
    refine ax ?_
    exact xdq Tryz.func309 rfl rfl fun h_ H_=>K _ _ (out 0 (eV 2) H_ (.refl _ _ _) (by decide) (.inr (.inr rfl)))
  have hpos:0<s.length:=by cases s with | nil=>exact absurd rfl cc | cons a t=>simp
  refine ax ?_
  refine xyj rfl rfl rfl trivial trivial ⟨by decide,by omega⟩ ?_
  refine ax ?_
  refine xoz (fun l' p_ L_=>∃ (s':Str) (q:Bool),l'=[(0,none,sv s'),(1,none,.int .i64 10),(2,none,.int .i64 0),(8,none,.bool q)]/\p_=p/\L_=[]/\s'.length<=900) ?_ fun k' H=>?_
  · rintro _ p _ ⟨s',q,rfl,rfl,rfl,hs'⟩
    refine ax ?_
    refine xrj rfl rfl (fun h pe=>c336 md h _ pe s' hs') ?_
    rintro _ p' g ⟨n,e,rfl,hn,he⟩
    refine ax ?_
    rcases he with rfl | rfl | rfl <;>
    · refine xyt rfl rfl trivial (by simp) Tryz.underlying248 ?_
      refine ax ?_
      refine xrw rfl rfl sdu Tryz.underlying327 ?_
      first
        | refine yud rfl rfl rfl sdu sdu Tryz.underlying248 (by kernel_rfl) Tryz.underlying327 ?_
        | refine xgh (.bool false) rfl ?_
      refine ax ?_
      refine xhq rfl (fun cd=>?_) (fun cd=>?_)
      · first
          | (simp [isNilI] at cd;done)
          | (refine ax ?_
             exact xdq Tryz.func309 rfl rfl fun h_ H_=>K _ _ (out 0 (eV 2) H_ g (by decide) (.inr (.inr rfl))))
      · first
          | (simp [isNilI] at cd;done)
          | (refine ax ?_
             refine xhq rfl (fun _=>?_) (fun cc=>absurd (by decide) cc)
             refine ax ?_
             refine xzj (k':=.u64) ⟨_,Tryz.underlying3⟩ Tryz.underlying232 rfl (by decide) ?_
             refine ypb (s:=63) (w:=9223372036854775808) rfl rfl (by decide) ?_
             refine ax ?_
             refine xhq rfl (fun ce=>?_) (fun ce=>?_)
             · refine ax ?_
               refine xjh (k':=.i64) 9223372036854775807 rfl (by decide) ?_ (hs:=⟨_,Tryz.underlying283⟩)
               refine xrw rfl rfl trivial Tryz.underlying327 ?_
               refine ax ?_
               exact xdq Tryz.func309 rfl rfl fun h_ H_=>K _ _ (out 9223372036854775807 (eV 1) H_ g (by decide) (.inr (.inl rfl)))
             refine ax ?_
             refine xhq rfl (fun cf=>?_) (fun cf=>?_)
             · refine ax ?_
               refine xjh (k':=.i64) (-9223372036854775808) rfl (by decide) ?_ (hs:=⟨_,Tryz.underlying283⟩)
               refine xi2 (-9223372036854775808) rfl (by decide) ?_
               refine xrw rfl rfl trivial Tryz.underlying327 ?_
               refine ax ?_
               exact xdq Tryz.func309 rfl rfl fun h_ H_=>K _ _ (out (-9223372036854775808) (eV 1) H_ g (by decide) (.inr (.inl rfl)))
             refine ax ?_
             refine xjh (IntKind.i64.wrap ((n:Nat):Int)) rfl rfl ?_ (hs:=⟨_,Tryz.underlying283⟩)
             refine ax ?_
             refine xhq rfl (fun cf=>?_) (fun cf=>?_)
             · refine ax ?_
               refine xi2 (IntKind.i64.wrap (0-IntKind.i64.wrap ((n:Nat):Int))) rfl rfl ?_
               refine ax ?_
               exact xdq Tryz.func309 rfl rfl fun h_ H_=>K _ _ (out _ .nilIface H_ g (wrap64 _) (.inl rfl))
             refine ax ?_
             exact xdq Tryz.func309 rfl rfl fun h_ H_=>K _ _ (out _ .nilIface H_ g (wrap64 _) (.inl rfl)))
  · refine xhq rfl (fun cd=>?_) (fun cd=>?_)
    · refine ax ?_
      refine xtb (j:=1) rfl rfl rfl trivial trivial hpos ?_
      refine ax ?_
      exact xqq (H _ _ _ ⟨s.drop 1,false,rfl,rfl,rfl,by rw [List.length_drop];omega⟩)
    refine ax ?_
    refine xhq rfl (fun ce=>?_) (fun ce=>?_)
    · refine ax ?_
      refine xtb (j:=1) rfl rfl rfl trivial trivial hpos ?_
      refine ax ?_
      exact xqq (H _ _ _ ⟨s.drop 1,true,rfl,rfl,rfl,by rw [List.length_drop];omega⟩)
    · refine ax ?_
      exact xqq (H _ _ _ ⟨s,false,rfl,rfl,rfl,hs⟩)
def pairS (s:Str) (v:Value):Prop:=∃ (n:Int) (e:Value),v= .tuple #[.int .i64 n,e]/\(-9223372036854775808<=n/\n<=9223372036854775807)/\isE e/\ ∀ k,numR s=some k->n=k/\e= .nilIface
set_option maxHeartbeats 1000000 in
theorem c263 (md:Md) (h:Heap) (p:PHeap) (hp:Per p h) (s:Str) (hs:s.length<=900):
  CallsX Tryz.prog md 263 #[sv s] h fun v h'=>LastR p h (fun v _=>pairS s v) v h':=by
 have out: ∀ {h_:Heap} {p':PHeap} {L:Pcs} (n:Int) (e:Value),St h [] p' h_ L->PG h.size [] p p'->(-9223372036854775808<=n/\n<=9223372036854775807)->isE e->(∀ k,numR s=some k->n=k/\e= .nilIface)->LastR p h (fun v _=>pairS s v) (.tuple #[.int .i64 n,e]) h_:=fun n e H g hn he hk=>xvx H g ⟨n,e,rfl,hn,he,hk⟩
 refine xeq hp Tryz.func263 fun _ _ _ K=>?_
 refine ax ?_
 refine xhq rfl (fun cc=>?_) (fun cc=>?_)
 ·have hl:0<s.length/\s.length<19:=by simp at cc;omega
  refine ax ?_
  refine xyj rfl rfl rfl trivial trivial ⟨by decide,by omega⟩ ?_
  refine ax ?_
  refine xyj rfl rfl rfl sdu sdu (fun _=>⟨by decide,by omega⟩) ?_
  refine ax ?_
  have h0:(s.getD (Int.toNat 0) 0).toNat=(s.headD 0).toNat:=by cases s <;> rfl
  rw [h0]
  have e45:((((s.headD 0).toNat:Nat):Int)=45)<->s.headD 0=45:=by
   constructor
   ·intro z;exact UInt8.toNat_inj.1 (by show _=45;omega)
   ·intro z;rw [z];rfl
  have e43:((((s.headD 0).toNat:Nat):Int)=43)<->s.headD 0=43:=by
   constructor
   ·intro z;exact UInt8.toNat_inj.1 (by show _=43;omega)
   ·intro z;rw [z];rfl
  refine xoz (fun l' p_ L_=>∃ s':Str,l'=[(0,none,sv s'),(5,none,sv s)]/\p_=p/\L_=[]/\0<s'.length/\s'.length<=18/\Sp s s') ?_ fun k' H=>?_
  ·rintro _ p _ ⟨s',rfl,rfl,rfl,hp1,hp2,hsp⟩
   refine ax ?_
   refine ywl rfl hp1 Tryz.underlying9 Tryz.underlying5 fun p' c cap g S hcap=>?_
   have S1:Sl p' c s'.length 1 (bcs s'):=S
   refine ax ?_
   refine xaz (fun m_ l=>∃ j acc:Nat,m_=s'.length-j/\l=[(5,none,sv s),(6,none,.int .i64 ((acc:Nat):Int)),(47,none,.slice c s'.length cap),(48,none,.int .i64 ((s'.length:Nat):Int)),(49,none,.int .i64 ((j:Nat):Int))]/\j<=s'.length/\acc<10 ^ j/\numN 0 s'=numN acc (s'.drop j)) ⟨0,0,rfl,rfl,Nat.zero_le _,by decide,rfl⟩ sb ?_
   rintro _ _ IH ⟨j,acc,rfl,rfl,hj,hacc,hN⟩
   refine ax ?_
   refine xhq rfl (fun cd=>?_) (fun cd=>?_)
   ·have hjl:j<s'.length:=by omega
    have hpw:10 ^ j<=10 ^ 17:=Nat.pow_le_pow_right (by decide) (by omega)
    have h17:(10:Nat) ^ 17=100000000000000000:=by decide
    rw [xv9 hjl] at hN
    refine ax ?_
    refine xkk rfl (Byts.get S hjl) ?_
    have hb8:(s'.getD j 0).toNat<256:=(s'.getD j 0).toNat_lt
    have hdg:=xod (c:=s'.getD j 0)
    generalize s'.getD j 0=b at hb8 hdg hN ⊢
    refine ax ?_
    refine yob (((b.toNat+208) % 256:Nat):Int) rfl rfl (by rw [yfp];omega) ?_
    refine ax ?_
    refine xhq rfl (fun ce=>?_) (fun ce=>?_)
    ·have hno:isDig b=false:=by rw [Bool.eq_false_iff];intro z;have:=hdg.1 z;omega
     rw [hno] at hN
     refine ax ?_
     refine xrw rfl rfl trivial Tryz.underlying327 ?_
     refine ax ?_
     exact xdq Tryz.func263 rfl rfl fun h_ H_=>K _ _ (out 0 (eV 2) H_ g (by decide) (.inr (.inr rfl)) fun k hk=>by
      obtain ⟨m,h1,_⟩:=hsp k hk
      rw [hN] at h1;cases h1)
    have hd:48<=b.toNat/\b.toNat<=57:=by omega
    rw [hdg.2 hd,if_pos rfl] at hN
    refine ax ?_
    refine xzj (k':=.i64) ⟨_,Tryz.underlying5⟩ Tryz.underlying3 rfl (wrZ (by omega)) ?_
    refine ax ?_
    exact xqq (IH _ (by omega) ⟨j+1,10*acc+(b.toNat-48),rfl,by rw [show (((10*acc+(b.toNat-48):Nat)):Int)=((acc:Nat):Int)*10+(((b.toNat+208) % 256:Nat):Int) by omega],by omega,by rw [Nat.pow_succ];omega,hN⟩)
   have hjl:j=s'.length:=by omega
   have hpw:10 ^ j<=10 ^ 18:=Nat.pow_le_pow_right (by decide) (by omega)
   have h18:(10:Nat) ^ 18=1000000000000000000:=by decide
   rw [hjl,List.drop_length,numN] at hN
   refine ax ?_
   refine xyj rfl rfl rfl trivial trivial ⟨by decide,by omega⟩ ?_
   rw [h0]
   refine ax ?_
   refine xhq rfl (fun ce=>?_) (fun ce=>?_)
   ·refine ax ?_
    refine xi2 (-((acc:Nat):Int)) rfl (by rw [wrZ (by omega)];omega) ?_
    refine ax ?_
    exact xdq Tryz.func263 rfl rfl fun h_ H_=>K _ _ (out _ .nilIface H_ g (by omega) (.inl rfl) fun k hk=>by
     obtain ⟨m,h1,h2⟩:=hsp k hk
     rw [hN] at h1;cases h1
     rw [if_pos (e45.1 ce)] at h2
     exact ⟨h2.symm,rfl⟩)
   ·refine ax ?_
    exact xdq Tryz.func263 rfl rfl fun h_ H_=>K _ _ (out _ .nilIface H_ g (by omega) (.inl rfl) fun k hk=>by
     obtain ⟨m,h1,h2⟩:=hsp k hk
     rw [hN] at h1;cases h1
     rw [if_neg (fun z=>ce (e45.2 z))] at h2
     exact ⟨h2.symm,rfl⟩)
  ·refine xhq rfl (fun cd=>?_) (fun cd=>?_)
   ·refine ax ?_
    refine xtb (j:=1) rfl rfl rfl trivial trivial hl.1 ?_
    refine ax ?_
    refine xhq rfl (fun ce=>?_) (fun ce=>?_)
    ·rw [List.length_drop] at ce
     refine ax ?_
     refine xrw rfl rfl trivial Tryz.underlying327 ?_
     refine ax ?_
     exact xdq Tryz.func263 rfl rfl fun h_ H_=>K _ _ (out 0 (eV 2) H_ (.refl _ _ _) (by decide) (.inr (.inr rfl)) fun k hk=>by
      exfalso
      rcases cd with cd | cd
      ·obtain ⟨m,h1,_⟩:=Option.map_eq_some_iff.1 (show (numU true s.tail).map (fun n:Nat=>-(n:Int))=some k by unfold numR at hk;rwa [if_pos (e45.1 cd)] at hk)
       have:=(xdb h1).2.1
       rw [List.length_tail] at this
       omega
      ·rw [xa3 (e43.1 cd)] at hk;cases hk)
    ·rw [List.length_drop] at ce
     refine ax ?_
     exact xqq (H _ _ _ ⟨s.drop 1,rfl,rfl,rfl,by rw [List.length_drop];omega,by rw [List.length_drop];omega,by
      rcases cd with cd | cd
      ·exact ymj (e45.1 cd)
      ·intro k hk;rw [xa3 (e43.1 cd)] at hk;cases hk⟩)
   ·refine ax ?_
    exact xqq (H _ _ _ ⟨s,rfl,rfl,rfl,hl.1,by omega,ylj fun z=>cd (.inl (e45.2 z))⟩)
 ·have hl: ¬ (0<s.length/\s.length<19):=fun z=>cc (by simp;omega)
  refine ax ?_
  refine xrj rfl rfl (fun h pe=>c309 md h _ pe s hs) ?_
  rintro _ p' g ⟨n,e,rfl,hn,he⟩
  refine ax ?_
  exact xdq Tryz.func263 rfl rfl fun h_ H_=>K _ _ (out n e H_ g hn he fun k hk=>absurd (yxk hk) (by omega))
end Go.Proofs.YtbphcmeebnkmdaaGreatDoor
namespace Go.X.Ms
theorem xq1 {n:Int}:(trimM (txt n)).length<=6<-> -999999<=n/\n<=999999:=by
  have e:trimM (txt n)=txtN n.natAbs:=by
    unfold trimM txt
    by_cases c:n<0
    · rw [if_pos c];simp
    · rw [if_neg c,if_neg]
      intro z
      cases e:txtN n.natAbs with
      | nil=>rw [e] at z;simp at z
      | cons d t=>
        have:=xjn d (by rw [e];simp)
        rw [e] at z
        simp at z
        subst z
        exact absurd this (by decide)
  rw [e]
  constructor
  · intro z
    rcases Nat.lt_or_ge n.natAbs 1000000 with y | y
    · omega
    · have:=xfw (k:=6) (n:=n.natAbs) y
      omega
  · intro z
    exact xuz (k:=5) (by omega)
theorem xy8 {s:Str} {n:Int} (h: ∀ k,numR s=some k->n=k):(txt n=s/\(trimM s).length<=6)<->(numR s).isSome=true:=by
 constructor
 ·rintro ⟨e,hl⟩
  subst e
  rw [ywk (xq1.1 hl)];rfl
 ·intro z
  obtain ⟨k,hk⟩:=Option.isSome_iff_exists.1 z
  obtain rfl:=h k hk
  have y:=yyk hk
  refine ⟨y.1.symm,?_⟩
  rw [y.1]
  exact xq1.2 ⟨by omega,by omega⟩
def clearS (s:Str):Bool:=(numR s).isSome || isLet s
end Go.X.Ms
namespace Go.Proofs.YtbphcmeebnkmdaaGreatDoor
open Go.X Go.X.Ms Go.Conc
set_option maxRecDepth 20000
set_option synthInstance.maxSize 2000
section
variable {te tr:TypeId} {ue ur:Value} {tE tR tT:TypeId} {zE zR zT:Nat × Nat}
theorem c226 (md:Md) (h:Heap) (p:PHeap) (hp:Per p h) (s:Str) (hs:s.length<=900) (E:p 8=some (.cells #[.iface te ue] tE zE)) (R:p 9=some (.cells #[.iface tr ur] tR zR)):
  CallsX Tryz.prog md 226 #[sv s] h fun v h'=>(∃ (n:Int) (e:Value),v= .tuple #[.int .i64 n,e]/\(-9223372036854775808<=n/\n<=9223372036854775807)/\(e= .nilIface\/ ∃ t u,e= .iface t u)/\ ∀ k,numR s=some k->n=k/\e= .nilIface)/\Keep h h':=by
 refine xeq hp Tryz.func226 fun _ _ _ K=>?_
 refine ax ?_
 refine xun rfl rfl (fun h pe=>(c263 md h _ pe s hs).mono fun _ _ x=>x.keep) ?_
 rintro _ ⟨_,n,e,rfl,hn,he,hk⟩
 refine ax ?_
 have err: ∀ i:Int,i=1\/i=2->e=eV i-> ∀ k,numR s=some k->False:=fun i _ ei k hks=>by have:=(hk k hks).2;rw [ei] at this;cases this
 rcases he with rfl | rfl | rfl
 ·refine xyt rfl rfl trivial (.inl rfl) Tryz.underlying248 ?_
  refine ax ?_
  refine xhq rfl (fun cd=>absurd rfl cd) (fun _=>?_)
  refine ax ?_
  exact xdq Tryz.func226 rfl rfl fun _ H_=>K _ _ ⟨⟨n,_,rfl,hn,.inl rfl,hk⟩,H_.kept⟩
 all_goals
  refine xyt rfl rfl trivial (.inr ⟨_,_,rfl⟩) Tryz.underlying248 ?_
  refine ax ?_
  refine xhq rfl (fun _=>?_) (fun cd=>absurd (fun z=>by cases z) cd)
  refine ax ?_
 ·refine xun rfl rfl (fun h pe=>(c264 md h _ pe _ s hs 1 (.inl rfl) E R).mono fun _ _ x=>x.keep) ?_
  rintro _ ⟨_,t,u,rfl⟩
  refine ax ?_
  exact xdq Tryz.func226 rfl rfl fun _ H_=>K _ _ ⟨⟨n,_,rfl,hn,.inr ⟨t,u,rfl⟩,fun k hks=>(err 1 (.inl rfl) rfl k hks).elim⟩,H_.kept⟩
 ·refine xun rfl rfl (fun h pe=>(c264 md h _ pe _ s hs 2 (.inr rfl) E R).mono fun _ _ x=>x.keep) ?_
  rintro _ ⟨_,t,u,rfl⟩
  refine ax ?_
  exact xdq Tryz.func226 rfl rfl fun _ H_=>K _ _ ⟨⟨n,_,rfl,hn,.inr ⟨t,u,rfl⟩,fun k hks=>(err 2 (.inr rfl) rfl k hks).elim⟩,H_.kept⟩
theorem c159 (md:Md) (h:Heap) (p:PHeap) (hp:Per p h) (s:Str) (hs:s.length<=900) (E:p 8=some (.cells #[.iface te ue] tE zE)) (R:p 9=some (.cells #[.iface tr ur] tR zR)) (Z:p 5=some (.cells (Lib.pow10Tab.map (Value.int .u64)).toArray tT zT)):
  CallsX Tryz.prog md 159 #[sv s] h fun v h'=>(∃ n:Int,v= .tuple #[.int .i64 n,.bool (numR s).isSome]/\ ∀ k,numR s=some k->n=k)/\Keep h h':=by
 refine xeq hp Tryz.func159 fun _ _ _ K=>?_
 refine ax ?_
 refine xun rfl rfl (fun h pe=>c226 md h _ pe s hs E R) ?_
 rintro _ ⟨n,e,rfl,hn,he,hk⟩
 refine ax ?_
 refine ycf rfl rfl trivial he Tryz.underlying248 ?_
 refine ax ?_
 refine xex rfl rfl rfl sdu (fun _ _ pe=>c110 md _ _ pe n hn Z) ?_
 refine ax ?_
 refine xex rfl rfl rfl sdu (fun _ _ pe=>c227 md _ _ pe s) ?_
 refine ax ?_
 have e2:(isNilI e && decide (txt n=s) && decide ((((trimM s).length:Nat):Int)<=6))=(numR s).isSome:=by
  rw [Bool.eq_iff_iff,<- xy8 (s:=s) (n:=n) fun k hks=>(hk k hks).1]
  rcases he with rfl | ⟨t,u,rfl⟩
  ·simp [isNilI];intro _;omega
  ·have:(numR s).isSome=false:=by
    cases hn:numR s with
    | none=>rfl
    | some k=>exact absurd (hk k hn).2 (by intro z;cases z)
   have hno: ¬ (txt n=s/\(trimM s).length<=6):=fun z=>by rw [(xy8 (s:=s) (n:=n) fun k hks=>(hk k hks).1).1 z] at this;cases this
   simp [isNilI]
   intro z
   exact Nat.not_le.1 fun y=>hno ⟨z,y⟩
 exact xdq Tryz.func159 rfl rfl fun _ H_=>K _ _ ⟨⟨n,by rw [<- e2];rfl,fun k hks=>(hk k hks).1⟩,H_.kept⟩
theorem c61 (md:Md) (h:Heap) (p:PHeap) (hp:Per p h) (a:Option Addr) (n c:Nat) (xs:List Str) (S:Strs p a n xs) (hn:n<=2 ^ 20) (hs: ∀ s∈xs,s.length<=900) (E:p 8=some (.cells #[.iface te ue] tE zE)) (R:p 9=some (.cells #[.iface tr ur] tR zR)) (Z:p 5=some (.cells (Lib.pow10Tab.map (Value.int .u64)).toArray tT zT)):
  CallsX Tryz.prog md 61 #[.slice a n c] h fun v h'=>v= .bool (xs.all clearS)/\Keep h h':=by
 have hl:=S.len
 have S1:Sl p a n 1 (scs xs):=S
 refine xeq hp Tryz.func61 fun _ _ _ K=>?_
 refine ax ?_
 refine xaz (fun m_ l=>∃ j:Nat,m_=n-j/\l=[(7,none,.slice a n c),(8,none,.int .i64 ((n:Nat):Int)),(9,none,.int .i64 ((j:Nat):Int))]/\j<=n/\ ∀ i,i<j->clearS (xs.getD i [])=true) ⟨0,rfl,rfl,Nat.zero_le _,by omega⟩ sb ?_
 rintro _ _ IH ⟨j,rfl,rfl,hj,hq⟩
 refine ax ?_
 refine xhq rfl (fun cd=>?_) (fun cd=>?_)
 ·have hjl:j<n:=by omega
  have hm:xs.getD j []∈xs:=by rw [List.getD_eq_getElem?_getD,List.getElem?_eq_getElem (by omega)];exact List.getElem_mem _
  refine ax ?_
  refine xkk rfl (Strs.get S hjl) ?_
  refine ax ?_
  refine xun rfl rfl (fun h pe=>c159 md h _ pe _ (hs _ hm) E R Z) ?_
  rintro _ ⟨m,rfl,_⟩
  refine ax ?_
  refine xex rfl rfl rfl sdu (fun _ _ pe=>c58 md _ _ pe (xs.getD j [])) ?_
  refine ax ?_
  refine xhq rfl (fun ce=>?_) (fun ce=>?_)
  ·have hno:clearS (xs.getD j [])=false:=by
    unfold clearS
    cases e1:(numR (xs.getD j [])).isSome <;> cases e2:isLet (xs.getD j []) <;> simp_all
   refine ax ?_
   exact xdq Tryz.func61 rfl rfl fun _ H_=>K _ _ ⟨by
    rw [show xs.all clearS=false from by rw [List.all_eq_false];exact ⟨_,hm,by rw [hno];simp⟩];rfl,H_.kept⟩
  ·have hyes:clearS (xs.getD j [])=true:=by
    unfold clearS
    cases e1:(numR (xs.getD j [])).isSome <;> cases e2:isLet (xs.getD j []) <;> simp_all
   refine ax ?_
   exact xqq (IH _ (by omega) ⟨j+1,rfl,rfl,by omega,fun i hi=>by
    rcases Nat.lt_or_ge i j with z | z
    ·exact hq i z
    ·obtain rfl:i=j:=by omega
     exact hyes⟩)
 refine ax ?_
 exact xdq Tryz.func61 rfl rfl fun _ H_=>K _ _ ⟨by
  rw [show xs.all clearS=true from by
   rw [List.all_eq_true]
   intro x hx
   obtain ⟨i,hi,rfl⟩:=List.mem_iff_getElem.1 hx
   have:=hq i (by omega)
   rwa [List.getD_eq_getElem?_getD,List.getElem?_eq_getElem hi] at this];rfl,H_.kept⟩
end
end Go.Proofs.YtbphcmeebnkmdaaGreatDoor
