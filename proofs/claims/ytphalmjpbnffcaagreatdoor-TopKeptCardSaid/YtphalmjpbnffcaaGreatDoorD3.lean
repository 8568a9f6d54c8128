/-
  Part of proofs about cords and rosters in a file: a lone run, and what it computes. No condition.
-/
import Derived.Test.YtphalmjpbnffcaaGreatDoorD2
import Derived.Test.YtphalmjpbnffcaaGreatDoorD1
namespace Go.X
open Go.Conc

def SW3 (F:Nat→Oper→List Value→Value→Prop):Nat→List Oper→List Value→List Value→Prop
  | _,[],tm,tm'=>tm=tm'
  | i,o::rest,tm,tm'=>∃ v,F i o tm v∧SW3 F (i+1) rest (putl tm o.dst v) tm'

theorem ysk {F:Nat→Oper→List Value→Value→Prop}: ∀ {rest:List Oper} {b:Nat} {tm tmF:List Value},SW3 F b rest tm tmF→
    (∀ (i j:Nat) (o o':Oper) (d:Nat),rest[i]?=some o→rest[j]?=some o'→o.dst=some d→o'.dst=some d→i=j)→
    tmF.length=tm.length∧(∀ x,(∀ (j:Nat) (o:Oper),rest[j]?=some o→o.dst≠some x)→tmF[x]?=tm[x]?)∧
    ∀ (i:Nat) (o:Oper),rest[i]?=some o→ ∃ tmi v,F (b+i) o tmi v∧tmi.length=tm.length∧(∀ x,(∃ (j:Nat) (o':Oper),j<i∧rest[j]?=some o'∧o'.dst=some x)→tmi[x]?=tmF[x]?)∧
      (∀ x,(∀ (j:Nat) (o':Oper),j<i→rest[j]?=some o'→o'.dst≠some x)→tmi[x]?=tm[x]?)∧ ∀ x,o.dst=some x→tmF[x]?=(putl tmi o.dst v)[x]?
  | [],b,tm,tmF,h,_=>by
    subst h
    exact ⟨rfl,fun _ _=>rfl,fun i o hi=>by simp at hi⟩
  | o₀::rest,b,tm,tmF,h,hd=>by
    obtain ⟨v,ht,hs⟩:=h
    obtain ⟨h1,h2,h3⟩:=ysk hs fun i j o o' d hi hj ho ho'=>by
      have:=hd (i+1) (j+1) o o' d (by simpa using hi) (by simpa using hj) ho ho'
      omega
    have hfresh: ∀ x,o₀.dst=some x→ ∀ (j:Nat) (o:Oper),rest[j]?=some o→o.dst≠some x:=fun x hx j o hj ho=>by
      have:=hd 0 (j+1) o₀ o x rfl (by simpa using hj) hx ho
      omega
    have hF0: ∀ x,o₀.dst=some x→tmF[x]?=(putl tm o₀.dst v)[x]?:=fun x hx=>h2 x (hfresh x hx)
    refine ⟨by rw [h1,xlz],fun x hx=>?_,fun i o hi=>?_⟩
    · rw [h2 x fun j o hj=>hx (j+1) o (by simpa using hj),xpj (hx 0 o₀ rfl)]
    · cases i with
      | zero=>
        simp at hi;subst hi
        refine ⟨tm,v,ht,rfl,fun x hx=>?_,fun _ _=>rfl,hF0⟩
        obtain ⟨j,_,hj,_⟩:=hx
        omega
      | succ i=>
        obtain ⟨tmi,v',t1,t2,t3,t4,t5⟩:=h3 i o (by simpa using hi)
        refine ⟨tmi,v',by rw [show b+(i+1)=b+1+i from by omega];exact t1,by rw [t2,xlz],fun x hx=>?_,fun x hx=>?_,t5⟩
        · obtain ⟨j,o',hj,ho',hx'⟩:=hx
          cases j with
          | zero=>
            simp at ho';subst ho'
            rw [t4 x fun j o' _ hj'=>hfresh x hx' j o' hj',hF0 x hx']
          | succ j=>exact t3 x ⟨j,o',by omega,by simpa using ho',hx'⟩
        · rw [t4 x fun j o' hj ho'=>hx (j+1) o' (by omega) (by simpa using ho'),xpj (hx 0 o₀ (by omega) rfl)]

def afterI (cl:List (List Nat)) (ops:List Oper) (s i:Nat):Bool:=match ops[s]? with
  | some os=>behind cl os i
  | none=>false

def Op3 (P:Program) (md:Md) (ops:List Oper) (cl:List (List Nat)) (s:Nat) (Base0 Base1:Heap→Prop) (i:Nat) (o:Oper) (tm:List Value) (v:Value):Prop:=
  noDefer o.op=true∧((i=s∧Met ops tm o true∧ ∀ h,Base0 h→(v=undef∧wpS P (execOp (evl tm) o) h fun n h'=>n= .skip∧Base1 h')∨
      ∀ (c:Frame) (cs:List Frame) (Stop:Goroutine→Heap→Prop),(∀ v' h',v'=v∧Base1 h'→Reach P md (G (c.finish v') cs) h' Stop)→wpS P (execOp (evl tm) o) h (Upon P md c cs Stop))∨
    (i≠s∧Met ops tm o true∧(behind cl o s=false→OpTo P md tm o Base0 v)∧(afterI cl ops s i=false→OpTo P md tm o Base1 v))∨
    (i≠s∧Met ops tm o false∧v=undef))

section
variable {P:Program} {md:Md} {Base0 Base1:Heap→Prop} {ops:List Oper} {m s:Nat} {cl:List (List Nat)} {f:FuncId} {r:Rd} {df:List Deferred} {k:List Item} {cs:List Frame} {Stop:Goroutine→Heap→Prop} {tm tmF:List Value}

theorem zqw [Stb Base0] [Stb Base1] {id:Nat} (m s:Nat) (cl:List (List Nat)) (hmix:P.follows .mixedOrders=true) (hst:stable ops m cl=true) (hm:m≤ops.length) (hsm:s<m) (sw:SW3 (Op3 P md ops cl s Base0 Base1) 0 (ops.take m) tm tmF)
    (n:RL P md f r df k cs Stop ops (ops.drop m) tmF Base1):RS P md (G (FL f r tm df (.code (.region id ops.toArray true)::k)) cs) Base0 Stop:=by
  refine yoq fun t=>?_
  unfold Region.schedule
  rw [hmix]
  simp only [Bool.true_or,if_true]
  obtain ⟨so,e,hord⟩:=yiz hst hm t
  rw [e]
  have hget: ∀ {i:Nat} {o:Oper},i<m→ops[i]?=some o→(ops.take m)[i]?=some o:=fun hi ho=>by rw [List.getElem?_take,if_pos hi];exact ho
  have hget': ∀ {i:Nat} {o:Oper},(ops.take m)[i]?=some o→i<m∧ops[i]?=some o:=fun ho=>by
    rw [List.getElem?_take] at ho
    split at ho
    · exact ⟨by assumption,ho⟩
    · cases ho
  have hdist: ∀ (i j:Nat) (o o':Oper) (d:Nat),(ops.take m)[i]?=some o→(ops.take m)[j]?=some o'→o.dst=some d→o'.dst=some d→i=j:=fun i j o o' d hi hj ho ho'=>by
    obtain ⟨hi,hio⟩:=hget' hi
    obtain ⟨hj,hjo⟩:=hget' hj
    exact (((xgv hst hio).2.2 hi).2 j o' d hj hjo ho').1.resolve_right fun hne=>hne ho
  obtain ⟨hlen,hrest,hturn⟩:=ysk sw hdist
  have stb: ∀ b:Bool,Stb (if b=true then Base1 else Base0):=fun b=>by cases b <;> simp only [Bool.false_eq_true,if_false,if_true] <;> infer_instance
  have main: ∀ (so:List Nat) (l:Array Bool) (tmc:List Value),Ord ops m l so→l.size=ops.length→tmc.length=tm.length→
      (∀ x,(∃ (j:Nat) (o:Oper),j<m∧l.getD j false=true∧ops[j]?=some o∧o.dst=some x)→tmc[x]?=tmF[x]?)→
      (∀ x,(∀ (j:Nat) (o:Oper),j<m→l.getD j false=true→ops[j]?=some o→o.dst≠some x)→tmc[x]?=tm[x]?)→
      (∀ (k:Nat) (o:Oper),l.getD k false=true→ops[k]?=some o→ ∀ x∈preds o,l.getD x false=true)→
      RS P md (G (FL f r tmc df (.inRegion ops.toArray (so++List.range' m (ops.length-m))::k)) cs) (if l.getD s false=true then Base1 else Base0) Stop:=by
    intro so
    induction so with
    | nil=>
      intro l tmc hord _ hl h1 h2 _
      cases hord with
      | nil hall=>
      have:tmc=tmF:=by
        refine List.ext_getElem? fun x=>?_
        by_cases hx: ∃ (j:Nat) (o:Oper),j<m∧ops[j]?=some o∧o.dst=some x
        · obtain ⟨j,o,hj,ho,hd⟩:=hx
          exact h1 x ⟨j,o,hj,hall j hj,ho,hd⟩
        · rw [h2 x fun j o hj _ ho hd=>hx ⟨j,o,hj,ho,hd⟩]
          exact (hrest x fun j o hjo hd=>hx ⟨j,o,(hget' hjo).1,(hget' hjo).2,hd⟩).symm
      subst this
      rw [List.nil_append,if_pos (hall s hsm)]
      have:=n (ops.take m) (List.take_append_drop m ops).symm
      rw [List.length_take,Nat.min_eq_left hm,List.length_drop] at this
      exact this
    | cons i so ih=>
      intro l tmc hord hsz hl h1 h2 hpc
      cases hord with
      | @cons _ _ _ o hi ho hn hp hs=>
      have hil:=(List.getElem?_eq_some_iff.1 ho).1
      have hlooks:=((xgv hst ho).2.2 hi)
      obtain ⟨tmi,v,ht,t2,t3,t4,t5⟩:=hturn i o (hget hi ho)
      rw [Nat.zero_add] at ht
      have hni:l.getD i false=false:=by rw [← xyk (by omega)];exact hn
      have hself:(l.setIfInBounds i true).getD i false=true:=by simp [Array.getD,hsz,hil]
      have hag: ∀ x∈looks ops o,tmc[x]?=tmi[x]?:=by
        intro x hx
        by_cases hw: ∃ (j:Nat) (o':Oper),j<m∧ops[j]?=some o'∧o'.dst=some x
        · obtain ⟨j,o',hj,ho',hd⟩:=hw
          have hpj:=(hlooks.2 j o' x hj ho' hd).2 hx
          rw [h1 x ⟨j,o',hj,hp j hpj,ho',hd⟩,t3 x ⟨j,o',(xgv hst ho).1 j hpj,hget hj ho',hd⟩]
        · rw [h2 x fun j o' hj _ ho' hd=>hw ⟨j,o',hj,ho',hd⟩,t4 x fun j o' _ ho' hd=>hw ⟨j,o',(hget' ho').1,(hget' ho').2,hd⟩]
      have next:RS P md (G (FL f r (putl tmc o.dst v) df (.inRegion ops.toArray (so++List.range' m (ops.length-m))::k)) cs) (if (l.setIfInBounds i true).getD s false=true then Base1 else Base0) Stop:=by
        refine ih (l.setIfInBounds i true) _ hs (by simpa using hsz) (by rw [xlz];exact hl) (fun x hx=>?_) (fun x hx=>?_) (fun k' o' hd ho' y hy=>?_)
        · obtain ⟨j,o',hj,hlj,ho',hd⟩:=hx
          by_cases e:i=j
          · subst e
            rw [ho] at ho';cases ho'
            rw [t5 x hd,hd]
            simp only [putl]
            by_cases hxl:x<tm.length
            · rw [List.getElem?_set_self (by rw [hl];exact hxl),List.getElem?_set_self (by rw [t2];exact hxl)]
            · rw [List.getElem?_eq_none (by rw [List.length_set,hl];exact Nat.le_of_not_lt hxl),List.getElem?_eq_none (by rw [List.length_set,t2];exact Nat.le_of_not_lt hxl)]
          · have hne:o.dst≠some x:=(hlooks.2 j o' x hj ho' hd).1.resolve_left e
            rw [getD_set_ne false e] at hlj
            rw [xpj hne]
            exact h1 x ⟨j,o',hj,hlj,ho',hd⟩
        · have hne:o.dst≠some x:=hx i o hi hself ho
          rw [xpj hne]
          refine h2 x fun j o' hj hlj ho'=>hx j o' hj ?_ ho'
          by_cases e:i=j
          · subst e;exact hself
          · rw [getD_set_ne false e];exact hlj
        · have hy2:l.getD y false=true:=by
            by_cases e:i=k'
            · subst e;rw [ho] at ho';cases ho';exact hp y hy
            · rw [getD_set_ne false e] at hd;exact hpc k' o' hd ho' y hy
          by_cases e':i=y
          · subst e';exact hself
          · rw [getD_set_ne false e'];exact hy2
      have ho2:ops.toArray[i]?=some o:=by simpa using ho
      have hnd:=ht.1
      rcases ht.2 with ⟨his,hmet,hop⟩ | ⟨his,hmet,hx0,hx1⟩ | ⟨his,hmet,hv⟩
      ·
        subst his
        rw [hni]
        have:=stb false
        rw [if_pos hself] at next
        refine ytz ho2 (xgk (yij hag hmet)) xxz (.inr (by revert hnd;cases o.op <;> simp [noDefer])) fun h hb=>?_
        rw [xkx,yqq (ops:=ops) hlooks.1 hag]
        rcases hop h (by simpa using hb) with ⟨hv,hx⟩ | hx
        · refine xhk hx fun n' h' ⟨e',hb'⟩=>?_
          subst e'
          show Reach P md (G ((F (B f r) tmc.toArray df _).finish undef) cs) h' Stop
          rw [xev ho2,xfx,← hv]
          exact next h' hb'
        · refine hx _ _ _ fun v' h' ⟨e2,hb'⟩=>?_
          subst e2
          rw [xev ho2,xfx]
          exact next h' hb'
      · rw [getD_set_ne false his] at next
        have hexd:OpTo P md tmi o (if l.getD s false=true then Base1 else Base0) v:=by
          by_cases hls:l.getD s false=true
          · rw [if_pos hls]
            refine hx1 ?_
            refine Bool.eq_false_iff.2 fun hbe=>?_
            unfold afterI at hbe
            split at hbe
            · rename_i os hos
              have:=xoq hst hsz hpc s os i (fun x hx=>⟨(xgv hst hos).1 x hx,hpc s os hls hos x hx⟩) hbe
              rw [hni] at this;cases this
            · cases hbe
          · rw [if_neg hls]
            refine hx0 ?_
            refine Bool.eq_false_iff.2 fun hbe=>?_
            exact hls (xoq hst hsz hpc i o s (fun x hx=>⟨(xgv hst ho).1 x hx,hp x hx⟩) hbe)
        have:=stb (l.getD s false)
        refine ytz ho2 (xgk (yij hag hmet)) xxz (.inr (by revert hnd;cases o.op <;> simp [noDefer])) fun h hb=>?_
        rw [xkx,yqq (ops:=ops) hlooks.1 hag]
        rcases hexd h hb with hx | ⟨g,args,hx,hc⟩ | hx
        · refine xhk hx fun n' h' ⟨v',e',e2,hb'⟩=>?_
          subst e';subst e2
          show Reach P md (G ((F (B f r) tmc.toArray df _).finish v') cs) h' Stop
          rw [xev ho2,xfx]
          exact next h' hb'
        · refine xhk hx fun n' h' ⟨e',e2⟩=>?_
          subst e';subst e2
          refine hc _ _ _ fun v' h' ⟨e2,hb'⟩=>?_
          subst e2
          rw [xev ho2,xfx]
          exact next h' hb'
        · refine hx _ _ _ fun v' h' ⟨e2,hb'⟩=>?_
          subst e2
          rw [xev ho2,xfx]
          exact next h' hb'
      · rw [getD_set_ne false his] at next
        have:=stb (l.getD s false)
        refine ynw ho2 (xgk (yij hag hmet)) ?_
        rw [xfx,← hv]
        exact next
  have:=main so _ tm hord (by simp) rfl (fun x hx=>by obtain ⟨j,o,hj,hl,_⟩:=hx;simp [Array.getD] at hl) (fun _ _=>rfl) (fun k _ hl=>by simp [Array.getD] at hl)
  rw [if_neg (by simp [Array.getD])] at this
  exact this

def SWR3 (P:Program) (md:Md) (f:FuncId) (r:Rd) (df:List Deferred) (k:List Item) (cs:List Frame) (Stop:Goroutine→Heap→Prop) (cl:List (List Nat)) (s:Nat) (Base0 Base1:Heap→Prop) (ops full:List Oper) (i:Nat) (rest:List Oper) (tm:List Value):Prop:=
  ∃ tmF,SW3 (Op3 P md ops cl s Base0 Base1) i rest tm tmF∧RL P md f r df k cs Stop ops full tmF Base1
theorem zqv [Stb Base0] [Stb Base1] {id:Nat} (m s:Nat) (cl:List (List Nat)) (hmix:P.follows .mixedOrders=true) (hst:stable ops m cl=true) (hm:m≤ops.length) (hsm:s<m)
    (sw:SWR3 P md f r df k cs Stop cl s Base0 Base1 ops (ops.drop m) 0 (ops.take m) tm):RS P md (G (FL f r tm df (.code (.region id ops.toArray true)::k)) cs) Base0 Stop:=by
  obtain ⟨tmF,h,n⟩:=sw
  exact zqw m s cl hmix hst hm hsm h n
variable {full rest:List Oper} {i:Nat} {tm':List Value} {o:Oper} {v:Value}
theorem wcw (e:rest=[]) (n:RL P md f r df k cs Stop ops full tm Base1):SWR3 P md f r df k cs Stop cl s Base0 Base1 ops full i rest tm:=by subst e;exact ⟨tm,rfl,n⟩
theorem xkw {Base:Heap→Prop} (hx: ∀ h,Base h→Exd P tm o h v):OpTo P md tm o Base v:=fun h hb=>.inl (xhk (hx h hb) fun _ _ ⟨v',e1,e2,e3⟩=>⟨v',e1,e2,by rw [e3];exact hb⟩)
theorem yev (hm:Met ops tm o true) (h0:OpTo P md tm o Base0 v) (h1:OpTo P md tm o Base1 v) (ht:putl tm o.dst v=tm') (n:SWR3 P md f r df k cs Stop cl s Base0 Base1 ops full (i+1) rest tm')
    (hi:i≠s:=by exact Nat.ne_of_beq_eq_false rfl) (hd:noDefer o.op=true:=by rfl):SWR3 P md f r df k cs Stop cl s Base0 Base1 ops full i (o::rest) tm:=by
  obtain ⟨tmF,h,n⟩:=n
  exact ⟨tmF,⟨v,⟨hd,.inr (.inl ⟨hi,hm,fun _=>h0,fun _=>h1⟩)⟩,by rw [ht];exact h⟩,n⟩
theorem xyx (hm:Met ops tm o true) (hb:afterI cl ops s i=true) (h0:OpTo P md tm o Base0 v) (ht:putl tm o.dst v=tm') (n:SWR3 P md f r df k cs Stop cl s Base0 Base1 ops full (i+1) rest tm')
    (hi:i≠s:=by exact Nat.ne_of_beq_eq_false rfl) (hd:noDefer o.op=true:=by rfl):SWR3 P md f r df k cs Stop cl s Base0 Base1 ops full i (o::rest) tm:=by
  obtain ⟨tmF,h,n⟩:=n
  exact ⟨tmF,⟨v,⟨hd,.inr (.inl ⟨hi,hm,fun _=>h0,fun e=>by rw [hb] at e;cases e⟩)⟩,by rw [ht];exact h⟩,n⟩
theorem zkk (hi:i=s) (hm:Met ops tm o true) (hx: ∀ h,Base0 h→wpS P (execOp (evl tm) o) h fun n h'=>n= .skip∧Base1 h') (ht:putl tm o.dst undef=tm')
    (n:SWR3 P md f r df k cs Stop cl s Base0 Base1 ops full (i+1) rest tm') (hd:noDefer o.op=true:=by rfl):SWR3 P md f r df k cs Stop cl s Base0 Base1 ops full i (o::rest) tm:=by
  obtain ⟨tmF,h,n⟩:=n
  exact ⟨tmF,⟨undef,⟨hd,.inl ⟨hi,hm,fun h hb=>.inl ⟨rfl,hx h hb⟩⟩⟩,by rw [ht];exact h⟩,n⟩
end

section
variable {P:Program} {tm:List Value} {h₀:Heap} {B₀:List Nat} {p:PHeap} {A X C:Pcs} {T:TypeId} {w:Nat} {v:Value} {es:List (List Value)} {ty:TypeId} {pos:String} {aft:Array Edge} {gd:Option (Nat × Bool)} {h:Heap}
theorem zjx {T':TypeId} {x y:Operand} {i j:Nat} {e:List Value} {u:Value} {a:Addr} (o:OwnS T w v es X) (hs:sizeT P T'=some 1) (hx:evl tm x= .pointer (some a)) (ha:((adrV v).add (i*w)).add j=a)
    (hy:evl tm y=u) (hv:u.cells=#[u]∧isOne u=true) (hi:es[i]?=some e) (hj:j<e.length) (s:St h₀ B₀ p h (A++(X++C))):
    wpS P (execOp (evl tm) ⟨none,.store T' x y,ty,pos,aft,gd⟩) h fun n h'=>n= .skip∧ ∃ X',OwnS T w v (es.set i (e.set j u)) X'∧St h₀ B₀ p h' (A++(X'++C)):=by
  have hil:=(List.getElem?_eq_some_iff.1 hi).1
  obtain ⟨b,cs',cap,rs,e1,e2,e3,e4,ec⟩:=o.has hil
  have hlt:i*w+j<es.flatten.length:=(List.getElem?_eq_some_iff.1 (xjk o.1 hi (List.getElem?_eq_getElem hj))).1
  have he:e.length=w:=o.1 e (List.mem_of_getElem? hi)
  subst e1;subst e2;subst ha
  have e5:cs'.set (i*w+j) u=(es.set i (e.set j u)).flatten++rs:=by
    rw [e3,List.set_append_left _ _ hlt,xyv o.1 hi hj]
  have o':OwnS T w (.slice (some ⟨b,0,none⟩) es.length cap) (es.set i (e.set j u)) [(b,.cells (cs'.set (i*w+j) u).toArray T (0,0))]:=by
    refine ⟨fun z hz=>?_,.inr ⟨b,cs'.set (i*w+j) u,cap,rs,by simp,rfl,e5,by simpa using e4,ec⟩⟩
    rcases List.mem_or_eq_of_mem_set hz with h | h
    · exact o.1 z h
    · subst h;simpa using he
  have hx':evl tm x= .pointer (some ⟨b,i*w+j,none⟩):=by
    rw [hx];simp only [adrV];rw [xkz,xkz,Nat.zero_add]
  have hL:(A++([(b,Obj.cells (List.toArray cs') T (0,0))]++C))[A.length]?=some (b,.cells cs'.toArray T (0,0)):=by rw [List.getElem?_append_right (Nat.le_refl _)];simp
  simp only [execOp,hx',hy]
  refine xbq ?_
  unfold Instr.storeAt
  refine xbq (xbx ?_)
  unfold storeVar
  refine xbq (xjz hs ?_)
  rw [if_neg (by rw [hv.1];simp)]
  refine xmx s hL (by rw [hv.1];show _+0+1≤_;rw [e3,List.length_append];omega) (fun u' hu=>by rw [hv.1] at hu;simp at hu;subst hu;exact hv.2) fun h' s'=>?_
  refine xbx ⟨rfl,_,o',?_⟩
  have e6:(A++([(b,Obj.cells (List.toArray cs') T (0,0))]++C)).set A.length (b,.cells (setl cs' (i*w+j) u.cells.toList).toArray T (0,0))=A++([(b,.cells (cs'.set (i*w+j) u).toArray T (0,0))]++C):=by
    rw [List.set_append_right _ _ (Nat.le_refl _),hv.1];simp [setl]
  rw [Nat.add_zero,e6] at s'
  exact s'
end
end Go.X
namespace Go.X
open Go.Conc
section
variable {P:Program} {md:Md} {f:FuncId} {r:Rd} {df:List Deferred} {k:List Item} {cs:List Frame} {Stop:Goroutine→Heap→Prop} {ops rest:List Oper} {tm:List Value}
  {h₀:Heap} {B₀:List Nat} {p:PHeap} {A C:Pcs} {ty:TypeId} {pos:String} {aft:Array Edge} {gd:Option (Nat × Bool)}
theorem zdx (z:Value): ∀ n:Nat,(List.replicate n [z]).flatten=List.replicate n z
  | 0=>rfl
  | n+1=>by simp [List.replicate_succ,zdx z n]
theorem zvv {dd:Nat} {sT eT:TypeId} {x y:Operand} {n by':Nat} {z z1:Value} (A:Pcs) (hm:Met ops tm ⟨some dd,.makeSlice sT x y,ty,pos,aft,gd⟩ true) (hT:P.underlying sT=some (.slice eT)) (hs:sizeT P eT=some 1) (hz:zeroT P eT=some z) (hzs:z.cells=#[z1])
    (hb:bytesT P eT=some by') (hx:evl tm x= .int .i64 ((n:Nat):Int)) (hy:evl tm y= .int .i64 ((n:Nat):Int)) (hn:n≤1000) (hb2:by'≤2 ^ 20)
    (nx: ∀ v X,OwnS eT 1 v (List.replicate n [z1]) X→RL P md f r df k cs Stop ops rest (tm.set dd v) (fun h=>St h₀ B₀ p h (A++(X++C)))):
    RL P md f r df k cs Stop ops (⟨some dd,.makeSlice sT x y,ty,pos,aft,gd⟩::rest) tm (fun h=>St h₀ B₀ p h (A++C)):=by
  refine xsk (K:=fun v h'=>∃ X,OwnS eT 1 v (List.replicate n [z1]) X∧St h₀ B₀ p h' (A++(X++C))) hm rfl (fun h s=>?_) fun v=>xgj fun X=>xez fun o=>nx v X o
  have hbuild: ∀ b,OwnS eT 1 (.slice (some ⟨b,0,none⟩) n n) (List.replicate n [z1]) [(b,.cells (List.replicate n z1).toArray eT (0,0))]:=fun b=>
    OwnS.build (by rw [zdx]) (fun e he=>by rw [List.eq_of_mem_replicate he];rfl) (by simp) (by omega)
  obtain ⟨info,hi,hib⟩: ∃ i,P.info? eT=some i∧i.bytes=by':=by
    unfold bytesT at hb
    cases e:P.info? eT with
    | none=>rw [e] at hb;cases hb
    | some i=>rw [e] at hb;exact ⟨i,rfl,Option.some.inj hb⟩
  have hw:IntKind.i64.wrap ((n:Nat):Int)=((n:Nat):Int):=wr (by omega)
  have hmul:by'*n≤2 ^ 20*1000:=Nat.mul_le_mul hb2 hn
  unfold Ex
  simp only [execOp,hx,hy]
  refine xbq ?_
  unfold Instr.makeSlice
  refine xbq (xcv hT ?_)
  simp only [asInt]
  refine xbq (xbx ?_)
  refine xbq (xbx ?_)
  refine xbq (xnq hi ?_)
  simp only [hw,hib]
  rw [if_neg (by
    have h1: ¬ ((n:Nat):Int)<0:=by omega
    have h2: ¬ ((by':Nat):Int)*((n:Nat):Int)>2 ^ 48:=by
      have:((by':Nat):Int)*((n:Nat):Int)=((by'*n:Nat):Int):=by simp
      rw [this];omega
    simp only [Bool.or_eq_true,decide_eq_true_eq]
    rintro ((z | z) | z)
    · rcases z with z | z
      · exact h1 z
      · exact h2 z
    · exact h1 z
    · omega)]
  have ask: ∀ (b:Nat) (K:Unit→Heap→Prop),K () h→wpS P (askRoom b) h K:=by
    intro b K hK
    unfold askRoom
    split
    · exact ⟨rfl,hK⟩
    · exact xbx hK
  refine xbq (ask _ _ ?_)
  refine xbq (xjz hs ?_)
  simp only [Int.toNat_natCast,Nat.mul_one]
  have fin: ∀ h':Heap,St h₀ B₀ p h' ((h.size,.cells (List.replicate n z1).toArray eT (0,0))::(A++C))→St h₀ B₀ p h' (A++([(h.size,Obj.cells (List.replicate n z1).toArray eT (0,0))]++C)):=fun h' s'=>s'.perm (by simpa using (List.perm_middle (l₁:=A) (l₂:=C)).symm)
  by_cases h0:n=0
  · subst h0
    simp only [if_true]
    refine xbq (xbx ?_)
    rw [show (Array.range 0).map ((#[]:Array Value)[· % (#[]:Array Value).size]!)=(List.replicate 0 z1).toArray from by rw [show Array.range 0=(#[]:Array Nat) from by simp,Array.map_empty];rfl]
    refine xbq (xnx ?_)
    refine xbx ?_
    exact xbx ⟨_,rfl,_,hbuild h.size,fin _ (s.push _)⟩
  · rw [if_neg h0]
    refine xbq (xkj hz ?_)
    refine xbq (xbx ?_)
    have hc:(Array.range n).map (z.cells[· % z.cells.size]!)=(List.replicate n z1).toArray:=by
      rw [hzs]
      apply Array.ext'
      simp only [Array.toList_map,Array.toList_range,List.size_toArray,List.length_cons,List.length_nil]
      have e:(fun x:Nat=>(#[z1][x % (0+1)]!:Value))=fun _=>z1:=funext fun x=>by rw [Nat.zero_add,Nat.mod_one];rfl
      rw [e,List.map_const',List.length_range]
    rw [hc]
    refine xbq (xnx ?_)
    refine xbx ?_
    exact xbx ⟨_,rfl,_,hbuild h.size,fin _ (s.push _)⟩
theorem zvk {dd:Nat} {sT eT:TypeId} {x y:Operand} {m:Int} {by':Nat} {z z1:Value} (A:Pcs) (hm:Met ops tm ⟨some dd,.makeSlice sT x y,ty,pos,aft,gd⟩ true) (hT:P.underlying sT=some (.slice eT)) (hs:sizeT P eT=some 1) (hz:zeroT P eT=some z) (hzs:z.cells=#[z1])
    (hb:bytesT P eT=some by') (hx:evl tm x= .int .i64 m) (hy:evl tm y= .int .i64 m) (h0:0≤m) (hn:m≤1000) (hb2:by'≤2 ^ 20)
    (nx: ∀ v X,OwnS eT 1 v (List.replicate m.toNat [z1]) X→RL P md f r df k cs Stop ops rest (tm.set dd v) (fun h=>St h₀ B₀ p h (A++(X++C)))):
    RL P md f r df k cs Stop ops (⟨some dd,.makeSlice sT x y,ty,pos,aft,gd⟩::rest) tm (fun h=>St h₀ B₀ p h (A++C)):=by
  have e:m=((m.toNat:Nat):Int):=by omega
  exact zvv A hm hT hs hz hzs hb (by rw [hx,← e]) (by rw [hy,← e]) (by omega) hb2 nx
end
end Go.X
namespace Go.Proofs.YtphalmjpbnffcaaGreatDoor
open Go.X Go.X.Kn Go.Conc
set_option maxRecDepth 10000
set_option synthInstance.maxSize 2000

set_option maxHeartbeats 2000000
theorem c36 (md:Md) (h:Heap) (w:Value) (es:List (List Value)) (X:Pcs) (o:OwnS 3 1 w es X):CallsX Tryz.prog md 36 #[w] h fun v h'=>∃ b:Nat,v= .func (.func 59) #[] #[.pointer (some ⟨b,0,none⟩)]∧New h h' [(b,.cells #[w] 26 (0,0))]:=by
 refine xbk (Φ:=fun h_=>St h [] (fun _=>none) h_ []) Tryz.func36 rfl (tm:=[_,_,_,_]) rfl ?_ (St.start h _ (fun _ _ e=>by cases e))
 intro c₀ cs Stop K
 refine fsr ?_
 refine xnv mn (v:=w) rfl fun b1=>xdx (L':=[(b1,.cells #[w] 26 (0,0))]) (by rw [o.one.1]) ?_
 refine ro (xax (v:=.nilFunc) rfl) <| ren <| xak <| rt (xpz (a:=[]) (b:=[.pointer (some ⟨b1,0,none⟩)]) rfl rfl) (tm':=[_,_,_,_]) rfl <| ro (xax (v:=.func (.func 59) #[] #[.pointer (some ⟨b1,0,none⟩)]) rfl) <| xav ?_
 refine xck Tryz.func36 rfl (vs:=[.func (.func 59) #[] #[.pointer (some ⟨b1,0,none⟩)]]) (fun h_ H_=>⟨.func (.func 59) #[] #[.pointer (some ⟨b1,0,none⟩)],_,rfl,rfl,rfl⟩) (v:=.func (.func 59) #[] #[.pointer (some ⟨b1,0,none⟩)]) rfl ?_
 exact fun h_ H_=>K _ _ ⟨_,rfl,H_.new⟩
theorem c59 (md:Md) (h h₀:Heap) (B₀:List Nat) (p:PHeap) (yv w:Value) (n:Nat) (bS:Nat) (E:List Nat) (X₀:Pcs) (I:List Nat→Pcs→Prop) (hE:(List.range n).reverse=E) (hn:n≤2 ^ 40) (hR: ∀ out X,I out X→ ∃ (xs:List Int) (Y Z:Pcs),X.Perm (Y++Z)∧xs.length=n∧OwnS 3 1 w (ics xs) Y) (hI0:I [] X₀)
  (hy: ∀ out x z h A X,out++[x] <+: E→I out X→St h₀ B₀ p h (A++(X++[]))→CallV Tryz.prog md yv [.int .i64 ((x:Nat):Int),.int .i64 z] h fun v h'=>∃ X',v= .bool true∧I (out++[x]) X'∧St h₀ B₀ p h' (A++(X'++[]))) (s₀:St h₀ B₀ p h (([(bS,.cells #[w] 26 (0,0))]:Pcs)++(X₀++[]))):CallsX Tryz.prog md 59 #[yv,.pointer (some ⟨bS,0,none⟩)] h fun _ h'=>∃ X',I E X'∧St h₀ B₀ p h' X':=by
 refine xbk (Φ:=fun h_=>St h₀ B₀ p h_ (([(bS,.cells #[w] 26 (0,0))]:Pcs)++(X₀++[]))) Tryz.func59 rfl (tm:=zq1 (zq2 (zq16 []))) rfl ?_ s₀
 intro c₀ cs Stop K
 refine xaw ?_
 obtain ⟨xs0,Y0,Z0,hXe0_,hlx0,oY0⟩:=hR _ _ hI0
 refine xak <| rd (fun h_ H_=>xbj H_ tA26 rfl (i:=0) rfl (v:=w) rfl) <| rt (xrq oY0 ((xoj _).trans hlx0) Tryz.underlying26 rfl) (tm':=zq2 (zq4 _)) rfl ?_
 refine ro (xlq rfl rfl (wr (by omega))) ?_
 refine ro (xax (v:=.int .i64 (((n:Nat):Int)-1)) rfl) <| xav <| xcw ?_
 refine xhw (m₀:=n-0) (fun m_ tm_ h_=>∃ (j:Nat) (z:Int) (X:Pcs),m_=n-j∧(∃ y1:Nat→Value,tm_=[yv,.pointer (some ⟨bS,0,none⟩),undef,.int .i64 (z),w,.int .i64 (((n:Nat):Int)),.int .i64 (((n:Nat):Int)-1),(y1 7),(y1 8),(y1 9),(y1 10),(y1 11),(y1 12),(y1 13),(y1 14),(y1 15),(y1 16),(y1 17),(y1 18)])∧(j≤n)∧(z=((n:Nat):Int)-1-((j:Nat):Int))∧(I (revK n j) X)∧St h₀ B₀ p h_ (([(bS,.cells #[w] 26 (0,0))]:Pcs)++(X++[]))) (fun h_ H_=>⟨0,((n:Nat):Int)-1,_,rfl,(y_of rfl),Nat.zero_le _,(by omega),hI0,H_⟩) ?_
 intro m_ tm_ IH2
 refine xhv fun j=>xhv fun z=>xhv fun X=>xcq fun hm_=>xcq fun ht_=>xcq fun hj=>xcq fun hz=>xcq fun hI=>?_
 subst hm_;obtain ⟨y1,ht_⟩:=ht_;subst ht_
 obtain ⟨xs,Y,Z,hXe_,hlx,oY⟩:=hR _ _ hI
 refine xhq (L':=([(bS,.cells #[w] 26 (0,0))]:Pcs)++(Y++(Z++[]))) (List.Perm.append_left _ (by simpa using hXe_)) ?_
 refine xaw <| fsr <| rt (xaz (v:=.int .i64 (z)) rfl) (tm':=zq8 _) rfl <| ro (xvj rfl rfl) <| xav ?_
 by_cases cc3:0≤z
 ·
  refine xbv rfl (dtt cc3) <| xcj <| xaw <| xcw <| fsr <| ro (xaz (v:=yv) rfl) ?_
  refine rt (xaz (v:=.int .i64 (z)) rfl) (tm':=zq1 (zq2 (zq16 []))) rfl <| rd (fun h_ H_=>xbj H_ tA26 rfl (i:=0) rfl (v:=w) rfl) <| ro (xaz (v:=.int .i64 (z)) rfl) ?_
  refine rt (yjv oY Tryz.underlying26 tS3 rfl rfl (by omega) (by rw [((xoj _).trans hlx)];omega)) (tm':=zq1 (zq2 (zq16 []))) rfl ?_
  refine rd (fun h_ H_=>yvj (A:=([(bS,.cells #[w] 26 (0,0))]:Pcs)) (i:=(z).toNat) (j:=0) (e:=[.int .i64 (xs.getD ((z).toNat) 0)]) oY H_ tA3 rfl rfl (wbv (by omega)) (u:=.int .i64 (xs.getD ((z).toNat) 0)) rfl) ?_
  refine yfq mn rfl (vs:=[.int .i64 (z),.int .i64 (xs.getD ((z).toNat) 0)]) rfl (R:=fun v_ h_=>∃ X_,v_= .bool true∧I (revK n j++[n-1-j]) X_∧St h₀ B₀ p h_ (([(bS,.cells #[w] 26 (0,0))]:Pcs)++(X_++[]))) (fun h_ H_=>(show CallV Tryz.prog md yv [.int .i64 z,.int .i64 (xs.getD ((z).toNat) 0)] h_ (fun v_ h_=>∃ X_,v_= .bool true∧I (revK n j++[n-1-j]) X_∧St h₀ B₀ p h_ (([(bS,.cells #[w] 26 (0,0))]:Pcs)++(X_++[]))) from by rw [show z=((n-1-j:Nat):Int) by omega];exact hy _ _ _ h_ _ X (show revK n j++[n-1-j] <+: E from hE ▸ (by rw [← yuq (show j<n by omega)];exact zwq n (j+1))) hI (H_.perm (List.Perm.append_left _ (by simpa using hXe_.symm))))) fun v_=>?_
  refine xgj fun X4=>xez fun ev_=>xez fun hI5=>?_
  subst ev_
  refine rt (xgw rfl) (tm':=zq1 (zq2 (zq16 []))) rfl <| xav <| xcx rfl (xfz rfl) <| xcj <| xdq <| xak ?_
  refine ro (xaz (v:=.int .i64 (z)) rfl) ?_
  refine ro (xlq rfl rfl (wr (by omega))) ?_
  refine rt (xax (v:=.int .i64 (z-1)) rfl) (tm':=zq4 _) rfl <| xav ?_
  exact fun h_ H_=>IH2 _ _ (by omega) h_ ⟨j+1,z-1,X4,rfl,(y_of rfl),(by omega),(by omega),(by rw [yuq (by omega)];exact hI5),H_⟩
 ·
  refine xcx rfl (dff cc3) <| xhz rfl ?_
  refine zqk Tryz.func59 rfl (vs:=[]) (fun h_ H_=>rfl) (v:=.tuple #[]) rfl ?_
  have ej_:j=n:=by omega
  exact fun h_ H_=>K _ _ ⟨_,(by rw [← hE,← zwx];rw [ej_] at hI;exact hI),(show St h₀ B₀ p h_ (Y++Z) from by simpa using H_.dropA).perm hXe_.symm⟩
theorem c10 (md:Md) (h:Heap) (p:PHeap) (hp:Per p h) (a:Option Addr) (ca:Nat) (A:Nat→Option Addr) (C:Nat→Nat) (b:Option Addr) (cb:Nat) (k:Bk) (B:BookP p a k.cords.length A C b k.top.length k) (hn:k.cords.length≤40∧k.top.length≤40∧ ∀ l∈k.cords,l.length≤40) (hk:bookB k) (n:Int) (hn0:0≤n) (hn1:n≤k.base ^ k.places.toNat-1):CallsX Tryz.prog md 10 #[.agg #[.int .i64 (k.base),.int .i64 (k.places),.slice a k.cords.length ca,.slice b k.top.length cb],.int .i64 (n)] h fun v h'=>∃ w X,v= .tuple #[w,.int .i64 0]∧OwnS 3 1 w (ics (digs k.base k.places.toNat n)) X∧New h h' X:=by
 refine xbk (Φ:=fun h_=>St h [] p h_ []) Tryz.func10 rfl (tm:=zq1 (zq2 (zq16 (zq32 [])))) rfl ?_ (St.start h _ hp)
 intro c₀ cs Stop K
 have hb:=hk.1
 have hp4:=hk.2.1
 have hpw_:=ylz hb (j:=k.places.toNat) (by omega)
 have hn9_:n≤9999:=by omega
 refine fsr ?_
 refine xnv mn (v:=.agg #[.int .i64 (k.base),.int .i64 (k.places),.slice a k.cords.length ca,.slice b k.top.length cb]) rfl fun b1=>xdx (L':=[(b1,.cells #[.int .i64 (k.base),.int .i64 (k.places),.slice a k.cords.length ca,.slice b k.top.length cb] 25 (0,0))]) rfl ?_
 refine xnv mn (v:=.int .i64 (n)) rfl fun b2=>xdx (L':=[(b2,.cells #[.int .i64 (n)] 3 (0,0)),(b1,.cells #[.int .i64 (k.base),.int .i64 (k.places),.slice a k.cords.length ca,.slice b k.top.length cb] 25 (0,0))]) rfl ?_
 refine rt (xax (v:=.slice none 0 0) rfl) (tm':=zq1 (zq4 _)) rfl <| ro (xax (v:=.int .i64 0) rfl) <| ren <| xak <| ro (xax (v:=.int .i64 1) rfl) <| ren ?_
 refine fsr <| rt (xbz xww rfl (a':=⟨b1,1,none⟩) rfl) (tm':=zq1 (zq2 (zq8 _))) rfl <| rd (fun h_ H_=>xbj H_ tA3 rfl (i:=1) rfl (v:=.int .i64 (k.places)) rfl) <| ro (zrj rfl rfl) <| rt (zrz rfl rfl) (tm':=zq2 (zq4 (zq8 _))) rfl <| ro (xaz (v:=.int .i64 0) rfl) ?_
 refine xav <| xcw ?_
 refine xhw (m₀:=k.places.toNat-0) (fun m_ tm_ h_=>∃ (j:Nat) (s:Int),m_=k.places.toNat-j∧(∃ y3:Nat→Value,tm_=(.agg #[.int .i64 (k.base),.int .i64 (k.places),.slice a k.cords.length ca,.slice b k.top.length cb]::.int .i64 (n)::.pointer (some ⟨b1,0,none⟩)::.pointer (some ⟨b2,0,none⟩)::.slice none 0 0::.int .i64 0::.int .i64 (s)::undef::undef::undef::.pointer (some ⟨b1,1,none⟩)::.int .i64 (k.places)::.int .i64 (max 0 k.places)::.int .i64 (min 4 (max 0 k.places))::.int .i64 (((j:Nat):Int))::(y3 15)::(y3 16)::(y3 17)::(y3 18)::(y3 19)::(y3 20)::(y3 21)::(y3 22)::zu4 (zu8 (zu16 []))))∧(j≤k.places.toNat)∧(s=k.base ^ j)∧St h [] p h_ ([(b2,.cells #[.int .i64 (n)] 3 (0,0)),(b1,.cells #[.int .i64 (k.base),.int .i64 (k.places),.slice a k.cords.length ca,.slice b k.top.length cb] 25 (0,0))])) (fun h_ H_=>⟨0,1,rfl,(y_of rfl),Nat.zero_le _,(Int.pow_zero _).symm,H_⟩) ?_
 intro m_ tm_ IH4
 refine xhv fun j=>xhv fun s=>xcq fun hm_=>xcq fun ht_=>xcq fun hj=>xcq fun hs_=>?_
 subst hm_;obtain ⟨y3,ht_⟩:=ht_;subst ht_
 have hd1_:=ylz hb (j:=j) (by omega)
 have hd2_:=ylk hd1_ (show 1≤k.base∧k.base≤10 by omega)
 have hmx_:min 10 (max 1 k.base)=k.base:=by omega
 rw [← hs_] at hd1_ hd2_
 refine fsr <| ro (xgz rfl rfl) <| ren ?_
 by_cases cc5:((j:Nat):Int)<min 4 (max 0 k.places)
 ·
  refine xbv rfl (dtt cc5) <| xcj <| xaw <| xcw <| xak <| rt (xaz (v:=.int .i64 (s)) rfl) (tm':=zq1 (zq16 _)) rfl ?_
  refine ro (xbz xrv rfl (a':=⟨b1,0,none⟩) rfl) <| rd (fun h_ H_=>xbj H_ tA3 rfl (i:=1) rfl (v:=.int .i64 (k.base)) rfl) <| rt (zrj rfl rfl) (tm':=zq4 (zq16 _)) rfl <| ro (zrz rfl rfl) ?_
  refine ro (ycx rfl rfl (wr (by rw [hmx_];omega))) ?_
  refine rt (xax (v:=.int .i64 (s*(min 10 (max 1 k.base)))) rfl) (tm':=zq1 (zq2 (zq4 _))) rfl <| xav <| xdq <| xak ?_
  refine ro (xfj rfl rfl (n:=((j+1:Nat):Int)) (wr (by omega))) ?_
  refine ro (xaz (v:=.int .i64 (((j+1:Nat):Int))) rfl) <| xav ?_
  exact fun h_ H_=>IH4 _ _ (by omega) h_ ⟨j+1,s*(min 10 (max 1 k.base)),rfl,(y_of rfl),(by omega),(by rw [Int.pow_succ,← hs_,hmx_]),H_⟩
 ·
  refine xcx rfl (dff cc5) <| xhz rfl <| xaw <| xaw ?_
  refine xiw 5 [[],[],[],[2],[1,2,3],[],[]] mixed (by kernel_rfl) (Nat.le_of_ble_eq_true rfl) ?_
  refine xej mn (fun h_ H_=>xeq H_ tA25 tS25 rfl (i:=1) rfl (vs:=[.int .i64 (k.base),.int .i64 (k.places),.slice a k.cords.length ca,.slice b k.top.length cb]) rfl rfl) (tm':=zq8 (zq16 _)) rfl ?_
  refine wd (fun h_ H_=>xbj H_ tA3 rfl (i:=0) rfl (v:=.int .i64 (n)) rfl) <| wt (xaz (v:=.int .i64 (s)) rfl) (tm':=zq2 (zq8 (zq16 _))) rfl ?_
  refine wo (xlq rfl rfl (wr (by omega))) ?_
  refine xpq mn (first:=[]) (cap:=[]) rfl rfl fC35 (fun h_ H_=>(c35 md _ (n) (0) (s-1)).mono fun v_ h2_ ⟨e_,k_⟩=>⟨e_,H_.call k_⟩) (tm':=zq4 (zq8 (zq16 _))) rfl ?_
  refine xmk rfl ?_
  refine xdj mn (first:=[]) (cap:=[]) rfl rfl fC34 (fun h_ H_=>c34 md _ _ H_.pe _ _ _ _ _ _ k (show BookP _ _ _ _ _ _ _ k from ⟨B.t,B.u⟩) hn (decide (0≤n∧n≤s-1))) rfl ?_
  refine rt (xax (v:=.int .i64 (askK k (decide (0≤n∧n≤s-1)))) rfl) (tm':=zq8 _) rfl <| ren ?_
  have ej_:j=k.places.toNat:=by omega
  rw [ej_] at hs_
  have ask0_:askK k (decide (0≤n∧n≤s-1))=0:=zfj hk (by omega)
  refine xak <| ro (xaz (v:=.int .i64 (askK k (decide (0≤n∧n≤s-1)))) rfl) <| ro (xix rfl rfl) <| xav <| xcx rfl (decide_eq_false (fun z_=>z_ ask0_)) <| xcj ?_
  refine fsr <| rt (xbz xww rfl (a':=⟨b1,1,none⟩) rfl) (tm':=zq1 (zq32 _)) rfl <| rd (fun h_ H_=>xbj H_ tA3 rfl (i:=1) rfl (v:=.int .i64 (k.places)) rfl) ?_
  refine xdx (L':=([(b2,.cells #[.int .i64 (n)] 3 (0,0)),(b1,.cells #[.int .i64 (k.base),.int .i64 (k.places),.slice a k.cords.length ca,.slice b k.top.length cb] 25 (0,0))]:Pcs)++[]) rfl ?_
  refine zvk ([(b2,.cells #[.int .i64 (n)] 3 (0,0)),(b1,.cells #[.int .i64 (k.base),.int .i64 (k.places),.slice a k.cords.length ca,.slice b k.top.length cb] 25 (0,0))]:Pcs) mn Tryz.underlying26 tS3 tZ3 (z1:=.int .i64 0) rfl tB3 (m:=k.places) rfl rfl (by omega) (by omega) (by decide) fun v6 X7 o8=>?_
  refine xmj mn tZ26 rfl fun b9=>xdx (L':=([(b9,.cells #[.slice none 0 0] 26 (0,0)),(b2,.cells #[.int .i64 (n)] 3 (0,0)),(b1,.cells #[.int .i64 (k.base),.int .i64 (k.places),.slice a k.cords.length ca,.slice b k.top.length cb] 25 (0,0))]:Pcs)++(X7++[])) rfl ?_
  refine xew (tm':=zq1 (zq8 _)) rfl ?_
  refine xuw mn tS26 rfl (v:=v6) rfl o8.one (i:=0) rfl (Nat.succ_le_iff.1 (Nat.le_of_ble_eq_true rfl)) (cs2:=[v6]) rfl (xdx (L':=([(b9,.cells #[v6] 26 (0,0)),(b2,.cells #[.int .i64 (n)] 3 (0,0)),(b1,.cells #[.int .i64 (k.base),.int .i64 (k.places),.slice a k.cords.length ca,.slice b k.top.length cb] 25 (0,0))]:Pcs)++(X7++[])) rfl ?_)
  refine ren <| fsr <| rd (fun h_ H_=>xbj H_ tA26 rfl (i:=0) rfl (v:=v6) rfl) ?_
  refine xhx mn (first:=[]) (cap:=[]) rfl rfl fC36 (R:=fun v_ h_=>∃ bs10:Nat,v_= .func (.func 59) #[] #[.pointer (some ⟨bs10,0,none⟩)]∧St h [] p h_ (([(bs10,.cells #[v6] 26 (0,0)),(b9,.cells #[v6] 26 (0,0)),(b2,.cells #[.int .i64 (n)] 3 (0,0)),(b1,.cells #[.int .i64 (k.base),.int .i64 (k.places),.slice a k.cords.length ca,.slice b k.top.length cb] 25 (0,0))]:Pcs)++(X7++[]))) (fun h_ H_=>(c36 md _ _ _ _ o8).mono fun v_ h2_ ⟨bs10,e_,N_⟩=>⟨bs10,e_,H_.callN N_⟩) fun v_=>?_
  refine xgj fun bs10=>xez fun ev_=>?_
  have ev_:=ev_.symm;subst ev_
  refine xav <| xcw ?_
  refine ypx (R:=fun r_ l_ lp_ _ h_=>∃ X_,(∃ X1:Pcs,∃ y1:Int,X_=([(l_,.loop lp_),(r_,.deferred (some [])),(b9,.cells #[v6] 26 (0,0)),(b2,.cells #[.int .i64 (y1)] 3 (0,0)),(b1,.cells #[.int .i64 (k.base),.int .i64 (k.places),.slice a k.cords.length ca,.slice b k.top.length cb] 25 (0,0))]:Pcs)++(X1++[])∧(OwnS 3 1 v6 (ics (tieJ k.base n k.places.toNat (List.range k.places.toNat).reverse.length)) X1)∧(y1=leftN k.base n (List.range k.places.toNat).reverse.length)∧((List.range k.places.toNat).reverse.length≤k.places.toNat))∧St h [] p h_ X_) ?_ ?_
  ·
   intro r_ l_ lp_ h_ hlp_ s_
   show CallV _ md (.func (.func 59) ([]:List Value).toArray ([.pointer (some ⟨bs10,0,none⟩)]:List Value).toArray) _ h_ _
   refine xtw fC59 ?_
   refine c59 md _ _ _ _ (.func (.yield l_) #[] #[]) v6 k.places.toNat bs10 (List.range k.places.toNat).reverse _ (fun rd_ X_=>∃ X1:Pcs,∃ y1:Int,X_=([(l_,.loop lp_),(r_,.deferred (some [])),(b9,.cells #[v6] 26 (0,0)),(b2,.cells #[.int .i64 (y1)] 3 (0,0)),(b1,.cells #[.int .i64 (k.base),.int .i64 (k.places),.slice a k.cords.length ca,.slice b k.top.length cb] 25 (0,0))]:Pcs)++(X1++[])∧(OwnS 3 1 v6 (ics (tieJ k.base n k.places.toNat rd_.length)) X1)∧(y1=leftN k.base n rd_.length)∧(rd_.length≤k.places.toNat)) rfl (by omega) (by rintro out_ X_ ⟨X1,y1,rfl,o1,_,hle_⟩;exact ⟨_,X1,_,zww,ymv hle_,o1⟩) ⟨_,_,rfl,(o8.as (by simp [tieJ,digs,wev])),rfl,(Nat.zero_le _)⟩ ?_ (St.lendB s_ (i:=2) rfl rfl)
   intro rd_ x_ z_ h_ Z_ X_ hi_ hI_ s_
   obtain ⟨X1,y1,rfl,o1,hy1_,hle_⟩:=hI_
   refine xyw (Φ:=fun h_=>St h [] p h_ (([(l_,.loop lp_),(r_,.deferred (some [])),(b9,.cells #[v6] 26 (0,0)),(b2,.cells #[.int .i64 (y1)] 3 (0,0)),(b1,.cells #[.int .i64 (k.base),.int .i64 (k.places),.slice a k.cords.length ca,.slice b k.top.length cb] 25 (0,0))]:Pcs)++(X1++(Z_++[])))) (s_.rot.at (i:=0) rfl) hlp_ rfl (tm':=(.agg #[.int .i64 (k.base),.int .i64 (k.places),.slice a k.cords.length ca,.slice b k.top.length cb]::.int .i64 (n)::.pointer (some ⟨b1,0,none⟩)::.pointer (some ⟨b2,0,none⟩)::.slice none 0 0::.int .i64 0::.int .i64 (s)::.int .i64 (askK k (decide (0≤n∧n≤s-1)))::.pointer (some ⟨b9,0,none⟩)::undef::.pointer (some ⟨b1,1,none⟩)::.int .i64 (k.places)::.int .i64 (max 0 k.places)::.int .i64 (min 4 (max 0 k.places))::.int .i64 (((j:Nat):Int))::.bool (decide (((j:Nat):Int)<min 4 (max 0 k.places)))::(y3 16)::(y3 17)::(y3 18)::(y3 19)::(y3 20)::(y3 21)::(y3 22)::.agg #[.int .i64 (k.base),.int .i64 (k.places),.slice a k.cords.length ca,.slice b k.top.length cb]::.int .i64 (n)::.int .i64 (s)::.int .i64 (s-1)::.bool (decide (0≤n∧n≤s-1))::.int .i64 (askK k (decide (0≤n∧n≤s-1)))::.int .i64 (askK k (decide (0≤n∧n≤s-1)))::.bool (decide (askK k (decide (0≤n∧n≤s-1))≠0))::undef::.pointer (some ⟨b1,1,none⟩)::.int .i64 (k.places)::v6::v6::(.func (.func 59) #[] #[.pointer (some ⟨bs10,0,none⟩)])::.int .i64 (((x_:Nat):Int))::.int .i64 (z_)::zu4 (zu8 []))) rfl ?_ (by simpa using s_.rot)
   intro c₁ cs₁ Stop₁ K₁
   obtain ⟨hrl_,hrx_⟩:=wek hi_
   have hlb_:=yoj (show 2≤k.base by omega) hn0 rd_.length
   rw [← hy1_] at hlb_
   have htb_:=wiz (show 2≤k.base by omega) hn0 hn9_ rd_.length
   rw [← hy1_] at htb_
   refine xak <| rt (xax (v:=.int .i64 (((x_:Nat):Int))) rfl) (tm':=zq2 (zq8 _)) rfl <| xav ?_
   refine ypz (i:=0) rfl (by rw [hlp_];rfl) ?_
   refine xjv (L':=([(l_,.loop { lp_ with state:=.busy }),(r_,.deferred (some [])),(b9,.cells #[v6] 26 (0,0)),(b2,.cells #[.int .i64 (y1)] 3 (0,0)),(b1,.cells #[.int .i64 (k.base),.int .i64 (k.places),.slice a k.cords.length ca,.slice b k.top.length cb] 25 (0,0))]:Pcs)++(X1++(Z_++[]))) rfl ?_
   refine xcw ?_
   refine zqv (Base1:=fun h_=>∃ X3_,OwnS 3 1 v6 ((ics (tieJ k.base n k.places.toNat rd_.length)).set x_ ([.int .i64 ((tieJ k.base n k.places.toNat rd_.length).getD x_ 0)].set 0 (.int .i64 (y1 % k.base)))) X3_∧St h [] p h_ (([(l_,.loop { lp_ with state:=.busy }),(r_,.deferred (some [])),(b9,.cells #[v6] 26 (0,0)),(b2,.cells #[.int .i64 (y1)] 3 (0,0)),(b1,.cells #[.int .i64 (k.base),.int .i64 (k.places),.slice a k.cords.length ca,.slice b k.top.length cb] 25 (0,0))]:Pcs)++(X3_++(Z_++[])))) 12 11 [[],[],[],[],[3],[2,3,4],[],[],[7],[6,7,8],[0,1,2,3,4,5],[0,1,2,3,4,5,10],[0,1,2,3,4,5,6,7,8,9,10,11]] mixed (by kernel_rfl) (Nat.le_of_ble_eq_true rfl) (Nat.le_of_ble_eq_true rfl) ?_
   refine xyx mn (by kernel_rfl) (xkw fun h_ H_=>xbj H_ tA26 rfl (i:=2) rfl (v:=v6) rfl) (tm':=zq1 (zq2 (zq16 (zq32 [])))) rfl ?_
   refine xyx mn (by kernel_rfl) (xkw fun h_ H_=>xaz (v:=.int .i64 (((x_:Nat):Int))) rfl) rfl ?_
   refine xyx mn (by kernel_rfl) (xkw fun h_ H_=>xbj H_ tA3 rfl (i:=3) rfl (v:=.int .i64 (y1)) rfl) (tm':=zq1 (zq2 (zq16 (zq32 [])))) rfl ?_
   refine xyx mn (by kernel_rfl) (xkw fun h_ H_=>xbz xrv rfl (a':=⟨b1,0,none⟩) rfl) rfl ?_
   refine xyx mn (by kernel_rfl) (xkw fun h_ H_=>xbj H_ tA3 rfl (i:=4) rfl (v:=.int .i64 (k.base)) rfl) (tm':=zq1 (zq2 (zq16 (zq32 [])))) rfl ?_
   refine xyx mn (by kernel_rfl) (xkw fun h_ H_=>yzv rfl rfl (by omega) (n:=y1 % k.base) (Int.tmod_eq_emod_of_nonneg (by omega))) rfl ?_
   refine yev mn (xkw fun h_ H_=>xbj H_ tA3 rfl (i:=3) rfl (v:=.int .i64 (y1)) rfl) (xkw fun h_ ⟨X3_,o3_,H_⟩=>xbj H_ tA3 rfl (i:=3) rfl (v:=.int .i64 (y1)) rfl) (tm':=zq1 (zq2 (zq16 (zq32 [])))) rfl ?_
   refine yev mn (xkw fun h_ H_=>xbz xrv rfl (a':=⟨b1,0,none⟩) rfl) (xkw fun h_ ⟨X3_,o3_,H_⟩=>xbz xrv rfl (a':=⟨b1,0,none⟩) rfl) rfl ?_
   refine yev mn (xkw fun h_ H_=>xbj H_ tA3 rfl (i:=4) rfl (v:=.int .i64 (k.base)) rfl) (xkw fun h_ ⟨X3_,o3_,H_⟩=>xbj H_ tA3 rfl (i:=4) rfl (v:=.int .i64 (k.base)) rfl) (tm':=zq1 (zq2 (zq16 (zq32 [])))) rfl ?_
   refine yev mn (xkw fun h_ H_=>yzw rfl rfl (by omega) (n:=y1 / k.base) ((congrArg _ (Int.tdiv_eq_ediv_of_nonneg (by omega))).trans (wr (by omega)))) (xkw fun h_ ⟨X3_,o3_,H_⟩=>yzw rfl rfl (by omega) (n:=y1 / k.base) ((congrArg _ (Int.tdiv_eq_ediv_of_nonneg (by omega))).trans (wr (by omega)))) rfl ?_
   refine xyx mn (by kernel_rfl) (xkw fun h_ H_=>xwx o1 Tryz.underlying26 tS3 rfl rfl (by rw [((xoj _).trans (ymv (by omega)))];first | omega | (simp only [List.length_set];omega))) (tm':=zq1 (zq2 (zq16 (zq32 [])))) rfl ?_
   refine zkk rfl mn (fun h_ H_=>zjx (A:=([(l_,.loop { lp_ with state:=.busy }),(r_,.deferred (some [])),(b9,.cells #[v6] 26 (0,0)),(b2,.cells #[.int .i64 (y1)] 3 (0,0)),(b1,.cells #[.int .i64 (k.base),.int .i64 (k.places),.slice a k.cords.length ca,.slice b k.top.length cb] 25 (0,0))]:Pcs)) (i:=x_) (j:=0) (e:=[.int .i64 ((tieJ k.base n k.places.toNat rd_.length).getD x_ 0)]) (u:=.int .i64 (y1 % k.base)) o1 tS3 rfl rfl rfl ⟨rfl,rfl⟩ (wbv (by rw [ymv (by omega)];omega)) (Nat.succ_le_iff.1 (Nat.le_of_ble_eq_true rfl)) H_) rfl ?_
   refine wcw rfl (xgj fun X11=>xez fun o12=>?_)
   have o13:OwnS 3 1 v6 (ics ((tieJ k.base n k.places.toNat rd_.length).set x_ (y1 % k.base))) X11:=o12.as whz
   refine xjq mn tS3 rfl (v:=.int .i64 (y1 / k.base)) rfl (i:=3) rfl rfl rfl (Nat.le_of_ble_eq_true rfl) (cs2:=[.int .i64 (y1 / k.base)]) rfl (xdx (L':=([(l_,.loop { lp_ with state:=.busy }),(r_,.deferred (some [])),(b9,.cells #[v6] 26 (0,0)),(b2,.cells #[.int .i64 (y1 / k.base)] 3 (0,0)),(b1,.cells #[.int .i64 (k.base),.int .i64 (k.places),.slice a k.cords.length ca,.slice b k.top.length cb] 25 (0,0))]:Pcs)++(X11++(Z_++[]))) rfl ?_)
   refine xav <| xdq ?_
   refine yjx (i:=0) rfl (lp':=lp_) (by rw [hlp_];rfl) ?_
   refine xjv (L':=([(l_,.loop lp_),(r_,.deferred (some [])),(b9,.cells #[v6] 26 (0,0)),(b2,.cells #[.int .i64 (y1 / k.base)] 3 (0,0)),(b1,.cells #[.int .i64 (k.base),.int .i64 (k.places),.slice a k.cords.length ca,.slice b k.top.length cb] 25 (0,0))]:Pcs)++(X11++(Z_++[]))) rfl ?_
   exact fun h_ H_=>K₁ _ _ ⟨([(l_,.loop lp_),(r_,.deferred (some [])),(b9,.cells #[v6] 26 (0,0)),(b2,.cells #[.int .i64 (y1 / k.base)] 3 (0,0)),(b1,.cells #[.int .i64 (k.base),.int .i64 (k.places),.slice a k.cords.length ca,.slice b k.top.length cb] 25 (0,0))]:Pcs)++(X11++[]),rfl,⟨X11,y1 / k.base,rfl,(o13.as (by rw [List.length_append,List.length_singleton,← zux hrl_,hrx_,hy1_])),(by rw [List.length_append,List.length_singleton,leftN,hy1_]),(by rw [List.length_append,List.length_singleton];omega)⟩,St.rot' (by simpa using (H_))⟩
  ·
   intro r_ l_ lp_ v_ hlp_
   refine xhv fun X_=>xcq fun hIJ_=>?_
   obtain ⟨X1,y1,rfl,o1,hy1_,hle_⟩:=hIJ_
   ·
    refine ycq (i:=0) rfl (by rw [hlp_];simp [loopOf]) (by rw [hlp_];rfl) ?_
    refine xjv (L':=([(l_,.loop { lp_ with state:=.exhausted }),(r_,.deferred (some [])),(b9,.cells #[v6] 26 (0,0)),(b2,.cells #[.int .i64 (y1)] 3 (0,0)),(b1,.cells #[.int .i64 (k.base),.int .i64 (k.places),.slice a k.cords.length ca,.slice b k.top.length cb] 25 (0,0))]:Pcs)++(X1++[])) rfl ?_
    refine xdq <| fsr ?_
    refine xaj mn (fun h_ H_=>xbj H_ tA26 rfl (i:=2) rfl (v:=v6) rfl) (tm':=zq1 (zq2 (zq16 (zq32 [])))) rfl ?_
    refine ro (xax (v:=v6) rfl) <| ro (xax (v:=.int .i64 0) rfl) <| xav ?_
    refine yzz (i:=1) Tryz.func10 rfl rfl (vs:=[v6,.int .i64 0]) (fun h_ H_=>⟨v6,_,rfl,rfl,⟨.int .i64 0,_,rfl,rfl,rfl⟩⟩) (v:=.tuple #[v6,.int .i64 0]) rfl ?_
    refine xjv (L':=([(l_,.loop { lp_ with state:=.exhausted }),(r_,.deferred none),(b9,.cells #[v6] 26 (0,0)),(b2,.cells #[.int .i64 (y1)] 3 (0,0)),(b1,.cells #[.int .i64 (k.base),.int .i64 (k.places),.slice a k.cords.length ca,.slice b k.top.length cb] 25 (0,0))]:Pcs)++(X1++[])) rfl ?_
    exact fun h_ H_=>K _ _ ⟨_,_,rfl,o1.as (by rw [List.length_reverse,List.length_range,zuz]),by simpa using H_.dropA.new⟩
end Go.Proofs.YtphalmjpbnffcaaGreatDoor
namespace Go.Proofs.YtphalmjpbnffcaaGreatDoor
open Go.X Go.X.Cent Go.Conc
set_option maxRecDepth 10000

theorem c64 (h:Heap) (p:PHeap) (hp:Per p h) (a:Option Addr) (n c:Nat) (ts:List By) (T:Strs p a n ts) (hn:n≤60) (ht: ∀ t∈ts,t.length≤200):CallsX Tryz.prog .lone 64 #[.slice a n c] h fun v h'=>v=sv (wholeB ts)∧Keep h h':=by
  refine xbk (Φ:=fun h_=>St h [] p h_ []) Tryz.func64 rfl (tm:=[_,_,_,_,_,_,_,_,_,_,_,_,_,_,_,_,_]) rfl ?_ (St.start h _ hp)
  intro c₀ cs Stop K
  refine xaw ?_
  refine xak ?_
  refine xaj (xaq rfl) (fun h_ H_=>xax (v:=sv ([]:List UInt8)) rfl) rfl ?_
  refine xav ?_
  refine xaw ?_
  refine xak ?_
  refine xmj (xaq rfl) wij rfl fun b1=>xdx (L':=[(b1,.cells #[.pointer none,.slice none 0 0] 108 (0,0))]) rfl ?_
  refine xav ?_
  refine xaw ?_
  refine xaw ?_
  refine xak ?_
  refine xaj (xaq rfl) (fun h_ H_=>xaz (v:=.slice a n c) rfl) (tm':=_::_::_::_::_::_::_::_) rfl ?_
  refine xaj (xaq rfl) (fun h_ H_=>xfv Tryz.underlying33 rfl) rfl ?_
  refine xaj (xaq rfl) (fun h_ H_=>xaz (v:=.int .i64 0) rfl) rfl ?_
  refine xav ?_
  refine xcw ?_
  refine xhw (m₀:=n-0) (fun m_ tm_ h_=>∃ (k:Nat) (X:Pcs),m_=n-k∧(∃ y2:Nat→Value,tm_=[.slice a n c,undef,sv ([]:List UInt8),.pointer (some ⟨b1,0,none⟩),undef,(y2 5),.slice a n c,.int .i64 (((n:Nat):Int)),.int .i64 (((k:Nat):Int)),(y2 9),(y2 10),(y2 11),(y2 12),(y2 13),(y2 14),(y2 15),undef])∧(k≤n)∧(Bld b1 (wholeB (ts.take k)) X)∧St h [] p h_ (([]:Pcs)++(X++[]))) (fun h_ H_=>⟨0,[(b1,.cells #[.pointer none,.slice none 0 0] 108 (0,0))],rfl,(y_of rfl),Nat.zero_le _,Bld.new _,H_⟩) ?_
  intro m_ tm_ IH3
  refine xhv fun k=>xhv fun X=>xcq fun hm_=>xcq fun ht_=>xcq fun hk=>xcq fun B=>?_
  subst hm_;obtain ⟨y2,ht_⟩:=ht_;subst ht_
  have hl:=T.len
  have hw:=ykk (ts:=ts.take k) (m:=200) (fun t z=>ht t (List.mem_of_mem_take z))
  have ht1:k<n→(ts.getD k []).length≤200:=fun z=>ht _ (zyx (by omega))
  have hq:(ts.take k).length≤60:=by rw [List.length_take];omega
  have hq2:=Nat.mul_le_mul_right 201 hq
  refine xaw ?_
  refine xak ?_
  refine xaj (xaq rfl) (fun h_ H_=>xgz rfl rfl) (tm':=_::_::_::_::_::_::_::_::_::_::_) rfl ?_
  refine xav ?_
  refine xaw ?_
  by_cases cc4:((k:Nat):Int)<((n:Nat):Int)
  · refine xbv rfl (decide_eq_true cc4) ?_
    refine xcj ?_
    refine xaw ?_
    refine xcw ?_
    refine xaw ?_
    refine xak ?_
    refine xaj (xaq rfl) (fun h_ H_=>xbw (i:=k) Tryz.underlying33 tS9 (xmz a n c (T.ne (by omega))) rfl (by omega)) rfl ?_
    refine xaj (xaq rfl) (fun h_ H_=>xcz H_ tA9 rfl (v:=sv (ts.getD k [])) (T.get (by omega))) rfl ?_
    refine xaj (xaq rfl) (fun h_ H_=>xax (v:=sv (ts.getD k [])) rfl) (tm':=_::_::_::_::_::_::_) rfl ?_
    refine xav ?_
    refine xaw ?_
    refine xak ?_
    refine xaj (xaq rfl) (fun h_ H_=>xaz (v:=sv (ts.getD k [])) rfl) rfl ?_
    refine xhx (xaq rfl) (first:=[]) (cap:=[]) rfl rfl fC92 (fun h_ H_=>whk B H_ (by first | omega | (rw [List.length_append];omega)) (ts.getD k []) (by omega)) ?_
    refine fun v_=>xez fun ev_=>xgj fun X5=>xez fun B6=>?_
    subst ev_
    refine xav ?_
    refine xak ?_
    refine xhx (xaq rfl) (first:=[]) (cap:=[]) rfl rfl fC65 (fun h_ H_=>yrx B6 H_ (by first | omega | (rw [List.length_append];omega)) 10) ?_
    refine fun v_=>xez fun ev_=>xgj fun X7=>xez fun B8=>?_
    subst ev_
    refine xew (tm':=[_,_,_,_,_,_,_,_,_,_,_,_,_,_,_,_,_]) rfl ?_
    refine xav ?_
    refine xdq ?_
    refine xak ?_
    refine xaj (xaq rfl) (fun h_ H_=>xfj rfl rfl (n:=((k+1:Nat):Int)) (wr (by omega))) rfl ?_
    refine xaj (xaq rfl) (fun h_ H_=>xaz (v:=.int .i64 (((k+1:Nat):Int))) rfl) rfl ?_
    refine xav ?_
    exact fun h_ H_=>IH3 _ _ (by omega) h_ ⟨k+1,X7,rfl,(y_of rfl),(by omega),(by have e_:=ywv (ts:=ts) (k:=k) (by omega);rw [e_];exact B8),H_⟩
  · refine xcx rfl (decide_eq_false cc4) ?_
    refine xhz rfl ?_
    refine xaw ?_
    refine xak ?_
    refine xhx (xaq rfl) (first:=[]) (cap:=[]) rfl rfl fC66 (fun h_ H_=>c66 B H_) ?_
    refine fun v_=>xez fun ev_=>?_
    subst ev_
    refine wej (fun h_ k_=>(⟨fun b_ hb_ _=>k_.keep b_ hb_,k_.size,fun b_ o_ e_=>(k_.keep b_ (xlj (hp b_ o_ e_))).trans (hp b_ o_ e_),by simp,by simp⟩:St h [] p h_ [])) ?_
    refine xew (tm':=[_,_,_,_,_,_,_,_,_,_,_,_,_,_,_,_,_]) rfl ?_
    refine xaj (xaq rfl) (fun h_ H_=>xax (v:=sv (wholeB (ts.take k))) rfl) rfl ?_
    refine xav ?_
    refine xck Tryz.func64 rfl (vs:=[sv (wholeB (ts.take k))]) (fun h_ H_=>⟨sv (wholeB (ts.take k)),_,rfl,rfl,rfl⟩) (v:=sv (wholeB (ts.take k))) rfl ?_
    obtain rfl:k=n:=by omega
    exact fun h_ H_=>K _ _ ⟨by rw [← hl,List.take_length],H_.kept⟩
theorem c40 (h:Heap) (ht:Tab h) (l:By) (hl:l.length≤4096):CallsX Tryz.prog .lone 40 #[sv l] h fun v h'=>v=sv (sealB l)∧Keep h h':=by
  refine xbk (Φ:=fun h_=>St h [] (fun _=>none) h_ []) Tryz.func40 rfl (tm:=[_,_,_,_,_,_,_,_,_,_,_,_,_,_,_,_]) rfl ?_ (St.start h _ (fun _ _ e=>by cases e))
  intro c₀ cs Stop K
  have hq:=yuv (n:=total l % 9973) (by omega)
  refine xaw ?_
  refine xak ?_
  refine xaj (xaq rfl) (fun h_ H_=>xax (v:=sv ([]:List UInt8)) rfl) rfl ?_
  refine xav ?_
  refine xaw ?_
  refine xak ?_
  refine xaj (xaq rfl) (fun h_ H_=>xaz (v:=sv l) rfl) (tm':=_::_::_::_::_::_) rfl ?_
  refine xdj (xaq rfl) (first:=[]) (cap:=[]) rfl rfl fC69 (fun h_ H_=>c69 .lone _ l (by omega)) rfl ?_
  refine xdj (xaq rfl) (first:=[]) (cap:=[]) rfl rfl fC68 (fun h_ H_=>c68 _ (ht.keep H_.kept) (((total l % 9973:Nat):Int)) (by omega) (by omega)) rfl ?_
  refine xaj (xaq rfl) (fun h_ H_=>xax (v:=sv (Lib.itoa (((total l % 9973:Nat):Int)))) rfl) (tm':=_::_::_::_::_) rfl ?_
  refine xav ?_
  refine xaw ?_
  refine xak ?_
  refine xaj (xaq rfl) (fun h_ H_=>xaz (v:=sv l) rfl) rfl ?_
  refine xaj (xaq rfl) (fun h_ H_=>xtj (l:=l) (m:=([61]:List UInt8)) rfl rfl (by first | omega | (simp only [List.length_singleton];omega) | (simp only [List.length_append,List.length_singleton,Lib.repeatL_length];omega))) rfl ?_
  refine xaj (xaq rfl) (fun h_ H_=>xaz (v:=sv (Lib.itoa (((total l % 9973:Nat):Int)))) rfl) (tm':=_::_::_::_::_::_::_::_::_::_::_) rfl ?_
  refine xaj (xaq rfl) (fun h_ H_=>xjx (l:=Lib.itoa (((total l % 9973:Nat):Int))) Tryz.underlying9 rfl) rfl ?_
  refine xaj (xaq rfl) (fun h_ H_=>xlq rfl rfl (wr (by first | omega | (simp only [List.length_singleton];omega) | (simp only [List.length_append,List.length_singleton,Lib.repeatL_length];omega)))) rfl ?_
  refine xdj (xaq rfl) (first:=[]) (cap:=[]) rfl rfl fC70 (fun h_ H_=>c70i _ ([48]:List UInt8) (4-(((Lib.itoa (((total l % 9973:Nat):Int))).length:Nat):Int)) (by omega) (by omega) (by simp)) (tm':=[_,_,_,_,_,_,_,_,_,_,_,_,_,_,_,_]) rfl ?_
  refine xaj (xaq rfl) (fun h_ H_=>xtj (l:=l++([61]:List UInt8)) (m:=Lib.repeatL ([48]:List UInt8) (4-(((Lib.itoa (((total l % 9973:Nat):Int))).length:Nat):Int)).toNat) rfl rfl (by first | omega | (simp only [List.length_singleton];omega) | (simp only [List.length_append,List.length_singleton,Lib.repeatL_length];omega))) rfl ?_
  refine xaj (xaq rfl) (fun h_ H_=>xaz (v:=sv (Lib.itoa (((total l % 9973:Nat):Int)))) rfl) rfl ?_
  refine xaj (xaq rfl) (fun h_ H_=>xtj (l:=(l++([61]:List UInt8))++(Lib.repeatL ([48]:List UInt8) (4-(((Lib.itoa (((total l % 9973:Nat):Int))).length:Nat):Int)).toNat)) (m:=Lib.itoa (((total l % 9973:Nat):Int))) rfl rfl (by first | omega | (simp only [List.length_singleton];omega) | (simp only [List.length_append,List.length_singleton,Lib.repeatL_length];omega))) (tm':=[_,_,_,_,_,_,_,_,_,_,_,_,_,_,_,_]) rfl ?_
  refine xaj (xaq rfl) (fun h_ H_=>xax (v:=sv (((l++([61]:List UInt8))++(Lib.repeatL ([48]:List UInt8) (4-(((Lib.itoa (((total l % 9973:Nat):Int))).length:Nat):Int)).toNat))++(Lib.itoa (((total l % 9973:Nat):Int))))) rfl) rfl ?_
  refine xav ?_
  refine xck Tryz.func40 rfl (vs:=[sv (((l++([61]:List UInt8))++(Lib.repeatL ([48]:List UInt8) (4-(((Lib.itoa (((total l % 9973:Nat):Int))).length:Nat):Int)).toNat))++(Lib.itoa (((total l % 9973:Nat):Int))))]) (fun h_ H_=>⟨sv (((l++([61]:List UInt8))++(Lib.repeatL ([48]:List UInt8) (4-(((Lib.itoa (((total l % 9973:Nat):Int))).length:Nat):Int)).toNat))++(Lib.itoa (((total l % 9973:Nat):Int)))),_,rfl,rfl,rfl⟩) (v:=sv (((l++([61]:List UInt8))++(Lib.repeatL ([48]:List UInt8) (4-(((Lib.itoa (((total l % 9973:Nat):Int))).length:Nat):Int)).toNat))++(Lib.itoa (((total l % 9973:Nat):Int))))) rfl ?_
  exact fun h_ H_=>K _ _ ⟨congrArg sv (ziv l),H_.kept⟩
end Go.Proofs.YtphalmjpbnffcaaGreatDoor
namespace Go.Proofs.YtphalmjpbnffcaaGreatDoor
open Go.X Go.X.Cent Go.Conc
set_option maxRecDepth 10000
set_option synthInstance.maxSize 2000
set_option synthInstance.maxHeartbeats 400000

theorem c33 (md:Md) (h:Heap) (p:PHeap) (hp:Per p h) (a b:Option Addr) (m n c d:Nat) (xs ys:List By) (A:Strs p a m xs) (B:Strs p b n ys) (hm:m≤2 ^ 60):CallsX Tryz.prog md 33 #[.slice a m c,.slice b n d] h fun v h'=>v= .bool (decide (xs=ys))∧Keep h h':=by
  refine xbk (Φ:=fun h_=>St h [] p h_ []) Tryz.func33 rfl (tm:=[_,_,_,_,_,_,_,_,_,_,_,_,_,_,_,_,_,_,_,_,_,_,_,_,_,_]) rfl ?_ (St.start h _ hp)
  intro c₀ cs Stop K
  refine xaw ?_
  refine xak ?_
  refine xaj (xaq rfl) (fun h_ H_=>xax (v:=.bool (false)) rfl) rfl ?_
  refine xav ?_
  refine xaw ?_
  refine xaw ?_
  refine xak ?_
  refine xaj (xaq rfl) (fun h_ H_=>xaz (v:=.slice a m c) rfl) rfl ?_
  refine xaj (xaq rfl) (fun h_ H_=>xfv Tryz.underlying33 rfl) (tm':=_::_::_::_::_::_::_::_::_) rfl ?_
  refine xaj (xaq rfl) (fun h_ H_=>xaz (v:=.slice b n d) rfl) rfl ?_
  refine xaj (xaq rfl) (fun h_ H_=>xfv Tryz.underlying33 rfl) rfl ?_
  refine xaj (xaq rfl) (fun h_ H_=>xix rfl rfl) (tm':=_::_::_::_::_::_::_::_::_::_::_::_) rfl ?_
  refine xav ?_
  by_cases cc1:((m:Nat):Int)≠((n:Nat):Int)
  · refine xbv rfl (decide_eq_true cc1) ?_
    refine xaw ?_
    refine xak ?_
    refine xaj (xaq rfl) (fun h_ H_=>xax (v:=.bool (false)) rfl) rfl ?_
    refine xav ?_
    refine xck Tryz.func33 rfl (vs:=[.bool (false)]) (fun h_ H_=>⟨.bool (false),_,rfl,rfl,rfl⟩) (v:=.bool (false)) rfl ?_
    have l1:=A.len
    have l2:=B.len
    exact fun h_ H_=>K _ _ ⟨by first | rw [decide_eq_false (fun e=>by subst e;omega)] | rw [decide_eq_true (gext (by omega) (fun i hi=>hs i (by omega)))] | rw [decide_eq_false (fun e=>‹¬ _› (by rw [e]))],H_.kept⟩
  · refine xcx rfl (decide_eq_false cc1) ?_
    refine xcj ?_
    refine xaw ?_
    refine xaw ?_
    refine xak ?_
    refine xaj (xaq rfl) (fun h_ H_=>xax (v:=.int .i64 0) rfl) rfl ?_
    refine xav ?_
    refine xcw ?_
    refine xhw (m₀:=m-0) (fun m_ tm_ h_=>∃ (k:Nat),m_=m-k∧(∃ y2:Nat→Value,tm_=[.slice a m c,.slice b n d,undef,undef,(y2 4),.int .i64 (((k:Nat):Int)),.slice a m c,.int .i64 (((m:Nat):Int)),.slice b n d,.int .i64 (((n:Nat):Int)),.bool (decide (((m:Nat):Int)≠((n:Nat):Int))),(y2 11),(y2 12),(y2 13),(y2 14),(y2 15),(y2 16),(y2 17),(y2 18),(y2 19),(y2 20),(y2 21),(y2 22),(y2 23),(y2 24),(y2 25)])∧(k≤m)∧(∀ i,i<k→xs.getD i []=ys.getD i [])∧St h [] p h_ ([])) (fun h_ H_=>⟨0,rfl,(y_of rfl),Nat.zero_le _,(fun i hi=>absurd hi (Nat.not_lt_zero i)),H_⟩) ?_
    intro m_ tm_ IH3
    refine xhv fun k=>xcq fun hm_=>xcq fun ht_=>xcq fun hk=>xcq fun hs=>?_
    subst hm_;obtain ⟨y2,ht_⟩:=ht_;subst ht_
    refine xaw ?_
    refine xaw ?_
    refine xak ?_
    refine xaj (xaq rfl) (fun h_ H_=>xaz (v:=.int .i64 (((k:Nat):Int))) rfl) (tm':=_::_::_::_::_::_::_::_::_::_::_::_::_) rfl ?_
    refine xaj (xaq rfl) (fun h_ H_=>xaz (v:=.slice a m c) rfl) rfl ?_
    refine xaj (xaq rfl) (fun h_ H_=>xfv Tryz.underlying33 rfl) rfl ?_
    refine xaj (xaq rfl) (fun h_ H_=>xgz rfl rfl) (tm':=_::_::_::_::_::_::_::_::_::_::_::_::_::_::_::_) rfl ?_
    refine xav ?_
    by_cases cc4:((k:Nat):Int)<((m:Nat):Int)
    · refine xbv rfl (decide_eq_true cc4) ?_
      refine xcj ?_
      refine xaw ?_
      refine xcw ?_
      refine xaw ?_
      refine xiw 8 [[],[],[0,1],[0,1,2],[],[],[4,5],[4,5,6],[]] mixed (by kernel_rfl) (Nat.le_of_ble_eq_true rfl) ?_
      refine xej (xaq rfl) (fun h_ H_=>xaz (v:=.slice a m c) rfl) (tm':=[_,_,_,_,_,_,_,_,_,_,_,_,_,_,_,_,_,_,_,_,_,_,_,_,_,_]) rfl ?_
      refine xej (xaq rfl) (fun h_ H_=>xaz (v:=.int .i64 (((k:Nat):Int))) rfl) rfl ?_
      refine xej (xaq rfl) (fun h_ H_=>xbw (i:=k) Tryz.underlying33 tS9 (xmz a m c (A.ne (by omega))) rfl (by omega)) (tm':=[_,_,_,_,_,_,_,_,_,_,_,_,_,_,_,_,_,_,_,_,_,_,_,_,_,_]) rfl ?_
      refine xej (xaq rfl) (fun h_ H_=>xcz H_ tA9 rfl (v:=sv (xs.getD k [])) (A.get (by omega))) rfl ?_
      refine xej (xaq rfl) (fun h_ H_=>xaz (v:=.slice b n d) rfl) (tm':=[_,_,_,_,_,_,_,_,_,_,_,_,_,_,_,_,_,_,_,_,_,_,_,_,_,_]) rfl ?_
      refine xej (xaq rfl) (fun h_ H_=>xaz (v:=.int .i64 (((k:Nat):Int))) rfl) rfl ?_
      refine xej (xaq rfl) (fun h_ H_=>xbw (i:=k) Tryz.underlying33 tS9 (xmz b n d (B.ne (by omega))) rfl (by omega)) (tm':=[_,_,_,_,_,_,_,_,_,_,_,_,_,_,_,_,_,_,_,_,_,_,_,_,_,_]) rfl ?_
      refine xej (xaq rfl) (fun h_ H_=>xcz H_ tA9 rfl (v:=sv (ys.getD k [])) (B.get (by omega))) rfl ?_
      refine xmk rfl ?_
      refine xaj (xaq rfl) (fun h_ H_=>xwq (l:=xs.getD k []) (m:=ys.getD k []) rfl rfl) (tm':=[_,_,_,_,_,_,_,_,_,_,_,_,_,_,_,_,_,_,_,_,_,_,_,_,_,_]) rfl ?_
      refine xav ?_
      by_cases cc5:xs.getD k []=ys.getD k []
      · refine xcx rfl (xfz (decide_eq_true cc5)) ?_
        refine xcj ?_
        refine xdq ?_
        refine xak ?_
        refine xaj (xaq rfl) (fun h_ H_=>xaz (v:=.int .i64 (((k:Nat):Int))) rfl) rfl ?_
        refine xaj (xaq rfl) (fun h_ H_=>xfj rfl rfl (n:=((k+1:Nat):Int)) (wr (by omega))) rfl ?_
        refine xaj (xaq rfl) (fun h_ H_=>xax (v:=.int .i64 (((k+1:Nat):Int))) rfl) (tm':=_::_::_::_::_::_::_) rfl ?_
        refine xav ?_
        exact fun h_ H_=>IH3 _ _ (by omega) h_ ⟨k+1,rfl,(y_of rfl),(by omega),(wmq hs (by assumption)),H_⟩
      · refine xbv rfl (xgx (decide_eq_false cc5)) ?_
        refine xaw ?_
        refine xak ?_
        refine xaj (xaq rfl) (fun h_ H_=>xax (v:=.bool (false)) rfl) rfl ?_
        refine xav ?_
        refine xck Tryz.func33 rfl (vs:=[.bool (false)]) (fun h_ H_=>⟨.bool (false),_,rfl,rfl,rfl⟩) (v:=.bool (false)) rfl ?_
        have l1:=A.len
        have l2:=B.len
        exact fun h_ H_=>K _ _ ⟨by first | rw [decide_eq_false (fun e=>by subst e;omega)] | rw [decide_eq_true (gext (by omega) (fun i hi=>hs i (by omega)))] | rw [decide_eq_false (fun e=>‹¬ _› (by rw [e]))],H_.kept⟩
    · refine xcx rfl (decide_eq_false cc4) ?_
      refine xhz rfl ?_
      refine xaw ?_
      refine xak ?_
      refine xaj (xaq rfl) (fun h_ H_=>xax (v:=.bool (true)) rfl) rfl ?_
      refine xav ?_
      refine xck Tryz.func33 rfl (vs:=[.bool (true)]) (fun h_ H_=>⟨.bool (true),_,rfl,rfl,rfl⟩) (v:=.bool (true)) rfl ?_
      have l1:=A.len
      have l2:=B.len
      exact fun h_ H_=>K _ _ ⟨by first | rw [decide_eq_false (fun e=>by subst e;omega)] | rw [decide_eq_true (gext (by omega) (fun i hi=>hs i (by omega)))] | rw [decide_eq_false (fun e=>‹¬ _› (by rw [e]))],H_.kept⟩
end Go.Proofs.YtphalmjpbnffcaaGreatDoor
namespace Go.Proofs.YtphalmjpbnffcaaGreatDoor
open Go.X Go.X.Cent Go.Conc
set_option maxRecDepth 10000

theorem c62 (h:Heap) (t:By) (hn:t.length≤2 ^ 60):CallsX Tryz.prog .lone 62 #[sv t] h fun v h'=>v= .bool (decide (isText t))∧Keep h h':=by
  refine xbk (Φ:=fun h_=>St h [] (fun _=>none) h_ []) Tryz.func62 rfl (tm:=[_,_,_,_,_,_,_,_,_,_,_,_,_,_,_,_,_,_,_,_,_,_]) rfl ?_ (St.start h _ (fun _ _ e=>by cases e))
  intro c₀ cs Stop K
  refine xaw ?_
  refine xak ?_
  refine xaj (xaq rfl) (fun h_ H_=>xax (v:=.bool (false)) rfl) rfl ?_
  refine xav ?_
  refine xaw ?_
  refine xaw ?_
  refine xak ?_
  refine xaj (xaq rfl) (fun h_ H_=>xaz (v:=sv t) rfl) rfl ?_
  refine ytv (xaq rfl) Tryz.underlying9 Tryz.underlying47 Tryz.underlying5 (l:=t) rfl fun p1 a2 cp3 le4 D5 _=>?_
  refine xew (tm':=_::_::_::_::_::_::_::_) rfl ?_
  refine xaj (xaq rfl) (fun h_ H_=>xfv Tryz.underlying47 rfl) rfl ?_
  refine xaj (xaq rfl) (fun h_ H_=>xaz (v:=.int .i64 0) rfl) rfl ?_
  refine xav ?_
  refine xcw ?_
  refine xhw (m₀:=t.length-0) (fun m_ tm_ h_=>∃ (k:Nat),m_=t.length-k∧(∃ y6:Nat→Value,tm_=[sv t,undef,(y6 2),undef,(y6 4),sv t,.slice a2 t.length cp3,.int .i64 (((t.length:Nat):Int)),.int .i64 (((k:Nat):Int)),(y6 9),(y6 10),(y6 11),(y6 12),(y6 13),(y6 14),(y6 15),(y6 16),(y6 17),(y6 18),undef,undef,undef])∧(k≤t.length)∧(∀ i,i<k→32≤(t.getD i 0).toNat∧(t.getD i 0).toNat≤125)∧St h [] p1 h_ ([])) (fun h_ H_=>⟨0,rfl,(y_of rfl),Nat.zero_le _,(fun i hi=>absurd hi (Nat.not_lt_zero i)),H_⟩) ?_
  intro m_ tm_ IH7
  refine xhv fun k=>xcq fun hm_=>xcq fun ht_=>xcq fun hk=>xcq fun hs=>?_
  subst hm_;obtain ⟨y6,ht_⟩:=ht_;subst ht_
  refine xaw ?_
  refine xak ?_
  refine xaj (xaq rfl) (fun h_ H_=>xgz rfl rfl) (tm':=_::_::_::_::_::_::_::_::_::_::_) rfl ?_
  refine xav ?_
  refine xaw ?_
  by_cases cc8:((k:Nat):Int)<((t.length:Nat):Int)
  · refine xbv rfl (decide_eq_true cc8) ?_
    refine xcj ?_
    refine xaw ?_
    refine xcw ?_
    refine xaw ?_
    refine xak ?_
    refine xaj (xaq rfl) (fun h_ H_=>xbw (i:=k) Tryz.underlying47 tS5 (xmz a2 t.length cp3 (D5.ne (by omega))) rfl (by omega)) rfl ?_
    refine xaj (xaq rfl) (fun h_ H_=>xcz H_ tA5 rfl (v:=.int .u8 ((((t.getD k 0).toNat:Nat):Int))) (D5.get (by omega))) rfl ?_
    refine xaj (xaq rfl) (fun h_ H_=>xax (v:=.int .u8 ((((t.getD k 0).toNat:Nat):Int))) rfl) (tm':=_::_::_::_::_::_) rfl ?_
    refine xav ?_
    refine xaw ?_
    refine xak ?_
    refine xaj (xaq rfl) (fun h_ H_=>xaz (v:=.int .u8 ((((t.getD k 0).toNat:Nat):Int))) rfl) rfl ?_
    refine xaj (xaq rfl) (fun h_ H_=>xgz rfl rfl) rfl ?_
    refine xaj (xaq rfl) (fun h_ H_=>xaz (v:=.bool (decide ((((t.getD k 0).toNat:Nat):Int)<32))) rfl) (tm':=[_,_,_,_,_,_,_,_,_,_,_,_,_,_,_,_,_,_,_,_,_,_]) rfl ?_
    by_cases cc9:(((t.getD k 0).toNat:Nat):Int)<32
    · refine xdk (xfk rfl rfl (decide_eq_true cc9)) rfl ?_
      refine xdk (xfk rfl rfl (decide_eq_true cc9)) rfl ?_
      refine xaj (xaq rfl) (fun h_ H_=>xdz rfl (decide_eq_true cc9) (v:=.bool (true)) rfl) (tm':=[_,_,_,_,_,_,_,_,_,_,_,_,_,_,_,_,_,_,_,_,_,_]) rfl ?_
      refine xav ?_
      refine xbv rfl rfl ?_
      refine xaw ?_
      refine xak ?_
      refine xaj (xaq rfl) (fun h_ H_=>xax (v:=.bool (false)) rfl) rfl ?_
      refine xav ?_
      refine xck Tryz.func62 rfl (vs:=[.bool (false)]) (fun h_ H_=>⟨.bool (false),_,rfl,rfl,rfl⟩) (v:=.bool (false)) rfl ?_
      exact fun h_ H_=>K _ _ ⟨by first | rw [decide_eq_false (ymw (k:=k) (by omega) ‹_›)] | rw [decide_eq_false (yhz (k:=k) (by omega) ‹_›)] | rw [ynq (by omega) hs],H_.kept⟩
    · refine xaj (xfw rfl rfl (decide_eq_false cc9)) (fun h_ H_=>xaz (v:=.int .u8 ((((t.getD k 0).toNat:Nat):Int))) rfl) rfl ?_
      refine xaj (xfw rfl rfl (decide_eq_false cc9)) (fun h_ H_=>xmw rfl rfl) (tm':=[_,_,_,_,_,_,_,_,_,_,_,_,_,_,_,_,_,_,_,_,_,_]) rfl ?_
      refine xaj (xaq rfl) (fun h_ H_=>xdw rfl (decide_eq_false cc9) (v:=.bool (decide (125<(((t.getD k 0).toNat:Nat):Int)))) rfl) rfl ?_
      refine xav ?_
      by_cases cc10:125<(((t.getD k 0).toNat:Nat):Int)
      · refine xbv rfl (decide_eq_true cc10) ?_
        refine xaw ?_
        refine xak ?_
        refine xaj (xaq rfl) (fun h_ H_=>xax (v:=.bool (false)) rfl) rfl ?_
        refine xav ?_
        refine xck Tryz.func62 rfl (vs:=[.bool (false)]) (fun h_ H_=>⟨.bool (false),_,rfl,rfl,rfl⟩) (v:=.bool (false)) rfl ?_
        exact fun h_ H_=>K _ _ ⟨by first | rw [decide_eq_false (ymw (k:=k) (by omega) ‹_›)] | rw [decide_eq_false (yhz (k:=k) (by omega) ‹_›)] | rw [ynq (by omega) hs],H_.kept⟩
      · refine xcx rfl (decide_eq_false cc10) ?_
        refine xcj ?_
        refine xdq ?_
        refine xak ?_
        refine xaj (xaq rfl) (fun h_ H_=>xfj rfl rfl (n:=((k+1:Nat):Int)) (wr (by omega))) (tm':=[_,_,_,_,_,_,_,_,_,_,_,_,_,_,_,_,_,_,_,_,_,_]) rfl ?_
        refine xaj (xaq rfl) (fun h_ H_=>xaz (v:=.int .i64 (((k+1:Nat):Int))) rfl) rfl ?_
        refine xav ?_
        exact fun h_ H_=>IH7 _ _ (by omega) h_ ⟨k+1,rfl,(y_of rfl),(by omega),(ygw hs (by omega)),H_⟩
  · refine xcx rfl (decide_eq_false cc8) ?_
    refine xhz rfl ?_
    refine xaw ?_
    refine xak ?_
    refine xaj (xaq rfl) (fun h_ H_=>xaz (v:=sv t) rfl) rfl ?_
    refine xaj (xaq rfl) (fun h_ H_=>xjx (l:=t) Tryz.underlying9 rfl) (tm':=[_,_,_,_,_,_,_,_,_,_,_,_,_,_,_,_,_,_,_,_,_,_]) rfl ?_
    refine xaj (xaq rfl) (fun h_ H_=>ycj rfl rfl) rfl ?_
    refine xaj (xaq rfl) (fun h_ H_=>xax (v:=.bool (decide (((t.length:Nat):Int)≤40))) rfl) rfl ?_
    refine xav ?_
    refine xck Tryz.func62 rfl (vs:=[.bool (decide (((t.length:Nat):Int)≤40))]) (fun h_ H_=>⟨.bool (decide (((t.length:Nat):Int)≤40)),_,rfl,rfl,rfl⟩) (v:=.bool (decide (((t.length:Nat):Int)≤40))) rfl ?_
    exact fun h_ H_=>K _ _ ⟨by first | rw [decide_eq_false (ymw (k:=k) (by omega) ‹_›)] | rw [decide_eq_false (yhz (k:=k) (by omega) ‹_›)] | rw [ynq (by omega) hs],H_.kept⟩
end Go.Proofs.YtphalmjpbnffcaaGreatDoor
namespace Go.Proofs.YtphalmjpbnffcaaGreatDoor
open Go.X Go.X.Cent Go.Conc
set_option maxRecDepth 10000

theorem c61 (h:Heap) (t:By) (ht:t.length≤2 ^ 60):CallsX Tryz.prog .lone 61 #[sv t] h fun v h'=>v= .bool (badT t)∧Keep h h':=by
  refine xbk (Φ:=fun h_=>St h [] (fun _=>none) h_ []) Tryz.func61 rfl (tm:=[_,_,_,_,_,_]) rfl ?_ (St.start h _ (fun _ _ e=>by cases e))
  intro c₀ cs Stop K
  refine xaw ?_
  refine xak ?_
  refine xaj (xaq rfl) (fun h_ H_=>xax (v:=.bool (false)) rfl) rfl ?_
  refine xav ?_
  refine xaw ?_
  refine xak ?_
  refine xaj (xaq rfl) (fun h_ H_=>xaz (v:=sv t) rfl) rfl ?_
  refine xdj (xaq rfl) (first:=[]) (cap:=[]) rfl rfl fC62 (fun h_ H_=>c62 _ t (by omega)) (tm':=[_,_,_,_,_,_]) rfl ?_
  refine xaj (xaq rfl) (fun h_ H_=>xgw rfl) rfl ?_
  refine xaj (xaq rfl) (fun h_ H_=>xax (v:=.bool (!(decide (isText t)))) rfl) rfl ?_
  refine xav ?_
  refine xck Tryz.func61 rfl (vs:=[.bool (!(decide (isText t)))]) (fun h_ H_=>⟨.bool (!(decide (isText t))),_,rfl,rfl,rfl⟩) (v:=.bool (!(decide (isText t)))) rfl ?_
  exact fun h_ H_=>K _ _ ⟨rfl,H_.kept⟩
theorem c90 (h:Heap) (p:PHeap) (hp:Per p h) (fv:Value) (a:Option Addr) (n c:Nat) (ts:List By) (T:Strs p a n ts) (hn:n≤2 ^ 60) (q:By→Bool) (hf: ∀ h,Per p h→ ∀ i,i<n→CallV Tryz.prog .lone fv [sv (ts.getD i [])] h fun v h'=>v= .bool (q (ts.getD i []))∧Keep h h'):CallsX Tryz.prog .lone 90 #[.slice a n c,fv] h fun v h'=>v= .int .i64 (idxT q ts)∧Keep h h':=by
  refine xbk (Φ:=fun h_=>St h [] p h_ []) Tryz.func90 rfl (tm:=[_,_,_,_,_,_,_,_,_,_,_,_,_,_,_,_,_,_,_]) rfl ?_ (St.start h _ hp)
  intro c₀ cs Stop K
  refine xaw ?_
  refine xak ?_
  refine xaj (xaq rfl) (fun h_ H_=>xax (v:=.int .i64 0) rfl) (tm':=_::_::_::_::_::_) rfl ?_
  refine xav ?_
  refine xaw ?_
  refine xaw ?_
  refine xak ?_
  refine xaj (xaq rfl) (fun h_ H_=>xaz (v:=.slice a n c) rfl) rfl ?_
  refine xaj (xaq rfl) (fun h_ H_=>xfv Tryz.underlying33 rfl) rfl ?_
  refine xaj (xaq rfl) (fun h_ H_=>xaz (v:=.int .i64 0) rfl) (tm':=_::_::_::_::_::_::_::_::_::_) rfl ?_
  refine xav ?_
  refine xcw ?_
  refine xhw (m₀:=n-0) (fun m_ tm_ h_=>∃ (k:Nat),m_=n-k∧(∃ y1:Nat→Value,tm_=[.slice a n c,fv,undef,undef,(y1 4),(y1 5),.slice a n c,.int .i64 (((n:Nat):Int)),.int .i64 (((k:Nat):Int)),(y1 9),(y1 10),(y1 11),(y1 12),(y1 13),(y1 14),(y1 15),(y1 16),(y1 17),(y1 18)])∧(k≤n)∧(∀ i,i<k→q (ts.getD i [])=false)∧St h [] p h_ ([])) (fun h_ H_=>⟨0,rfl,(y_of rfl),Nat.zero_le _,(fun i hi=>absurd hi (Nat.not_lt_zero i)),H_⟩) ?_
  intro m_ tm_ IH2
  refine xhv fun k=>xcq fun hm_=>xcq fun ht_=>xcq fun hk=>xcq fun hs=>?_
  subst hm_;obtain ⟨y1,ht_⟩:=ht_;subst ht_
  refine xaw ?_
  refine xak ?_
  refine xaj (xaq rfl) (fun h_ H_=>xgz rfl rfl) rfl ?_
  refine xav ?_
  refine xaw ?_
  by_cases cc3:((k:Nat):Int)<((n:Nat):Int)
  · refine xbv rfl (decide_eq_true cc3) ?_
    refine xcj ?_
    refine xaw ?_
    refine xcw ?_
    refine xaw ?_
    refine xak ?_
    refine xaj (xaq rfl) (fun h_ H_=>xaz (v:=.int .i64 (((k:Nat):Int))) rfl) rfl ?_
    refine xaj (xaq rfl) (fun h_ H_=>xax (v:=.int .i64 (((k:Nat):Int))) rfl) (tm':=_::_::_::_::_::_::_) rfl ?_
    refine xav ?_
    refine xaw ?_
    refine xak ?_
    refine xaj (xaq rfl) (fun h_ H_=>xaz (v:=fv) rfl) rfl ?_
    refine xaj (xaq rfl) (fun h_ H_=>xaz (v:=.slice a n c) rfl) rfl ?_
    refine xaj (xaq rfl) (fun h_ H_=>xaz (v:=.int .i64 (((k:Nat):Int))) rfl) (tm':=[_,_,_,_,_,_,_,_,_,_,_,_,_,_,_,_,_,_,_]) rfl ?_
    refine xaj (xaq rfl) (fun h_ H_=>xbw (i:=k) Tryz.underlying33 tS9 (xmz a n c (T.ne (by omega))) rfl (by omega)) rfl ?_
    refine xaj (xaq rfl) (fun h_ H_=>xcz H_ tA9 rfl (v:=sv (ts.getD k [])) (T.get (by omega))) rfl ?_
    refine xzk (xaq rfl) rfl (vs:=[sv (ts.getD k [])]) rfl (fun h_ H_=>hf h_ H_.per k (show k<n by omega)) (tm':=[_,_,_,_,_,_,_,_,_,_,_,_,_,_,_,_,_,_,_]) rfl ?_
    refine xav ?_
    rcases xxx ((q (ts.getD k []))) with cc4 | cc4
    · refine xbv rfl cc4 ?_
      refine xaw ?_
      refine xak ?_
      refine xaj (xaq rfl) (fun h_ H_=>xaz (v:=.int .i64 (((k:Nat):Int))) rfl) rfl ?_
      refine xaj (xaq rfl) (fun h_ H_=>xax (v:=.int .i64 (((k:Nat):Int))) rfl) rfl ?_
      refine xav ?_
      refine xck Tryz.func90 rfl (vs:=[.int .i64 (((k:Nat):Int))]) (fun h_ H_=>⟨.int .i64 (((k:Nat):Int)),_,rfl,rfl,rfl⟩) (v:=.int .i64 (((k:Nat):Int))) rfl ?_
      have hl:=T.len
      exact fun h_ H_=>K _ _ ⟨by first | (rw [yiw (k:=k) (by omega) ‹_› hs]) | (rw [yjq (fun i hi=>hs i (by omega))]),H_.kept⟩
    · refine xcx rfl cc4 ?_
      refine xcj ?_
      refine xdq ?_
      refine xak ?_
      refine xaj (xaq rfl) (fun h_ H_=>xfj rfl rfl (n:=((k+1:Nat):Int)) (wr (by omega))) (tm':=[_,_,_,_,_,_,_,_,_,_,_,_,_,_,_,_,_,_,_]) rfl ?_
      refine xaj (xaq rfl) (fun h_ H_=>xaz (v:=.int .i64 (((k+1:Nat):Int))) rfl) rfl ?_
      refine xav ?_
      exact fun h_ H_=>IH2 _ _ (by omega) h_ ⟨k+1,rfl,(y_of rfl),(by omega),(ygw hs ‹_›),H_⟩
  · refine xcx rfl (decide_eq_false cc3) ?_
    refine xhz rfl ?_
    refine xaw ?_
    refine xak ?_
    refine xaj (xaq rfl) (fun h_ H_=>xax (v:=.int .i64 (-1)) rfl) rfl ?_
    refine xav ?_
    refine xck Tryz.func90 rfl (vs:=[.int .i64 (-1)]) (fun h_ H_=>⟨.int .i64 (-1),_,rfl,rfl,rfl⟩) (v:=.int .i64 (-1)) rfl ?_
    have hl:=T.len
    exact fun h_ H_=>K _ _ ⟨by first | (rw [yiw (k:=k) (by omega) ‹_› hs]) | (rw [yjq (fun i hi=>hs i (by omega))]),H_.kept⟩
theorem c60 (h:Heap) (p:PHeap) (hp:Per p h) (fv:Value) (a:Option Addr) (n c:Nat) (ts:List By) (T:Strs p a n ts) (hn:n≤2 ^ 60) (q:By→Bool) (hf: ∀ h,Per p h→ ∀ i,i<n→CallV Tryz.prog .lone fv [sv (ts.getD i [])] h fun v h'=>v= .bool (q (ts.getD i []))∧Keep h h'):CallsX Tryz.prog .lone 60 #[.slice a n c,fv] h fun v h'=>v= .bool (decide (0≤idxT q ts))∧Keep h h':=by
  refine xbk (Φ:=fun h_=>St h [] p h_ []) Tryz.func60 rfl (tm:=[_,_,_,_,_,_,_,_,_]) rfl ?_ (St.start h _ hp)
  intro c₀ cs Stop K
  refine xaw ?_
  refine xak ?_
  refine xaj (xaq rfl) (fun h_ H_=>xax (v:=.bool (false)) rfl) (tm':=_::_::_::_::_::_) rfl ?_
  refine xav ?_
  refine xaw ?_
  refine xak ?_
  refine xaj (xaq rfl) (fun h_ H_=>xaz (v:=.slice a n c) rfl) rfl ?_
  refine xaj (xaq rfl) (fun h_ H_=>xaz (v:=fv) rfl) rfl ?_
  refine xdj (xaq rfl) (first:=[]) (cap:=[]) rfl rfl fC90 (fun h_ H_=>c90 _ _ (fun b_ o_ e_=>H_.per b_ o_ e_) fv _ _ _ _ T (by omega) q hf) (tm':=[_,_,_,_,_,_,_,_,_]) rfl ?_
  refine xaj (xaq rfl) (fun h_ H_=>xvj rfl rfl) rfl ?_
  refine xaj (xaq rfl) (fun h_ H_=>xax (v:=.bool (decide (0≤idxT q ts))) rfl) rfl ?_
  refine xav ?_
  refine xck Tryz.func60 rfl (vs:=[.bool (decide (0≤idxT q ts))]) (fun h_ H_=>⟨.bool (decide (0≤idxT q ts)),_,rfl,rfl,rfl⟩) (v:=.bool (decide (0≤idxT q ts))) rfl ?_
  exact fun h_ H_=>K _ _ ⟨rfl,H_.kept⟩
theorem c37 (h:Heap) (p:PHeap) (hp:Per p h) (a:Option Addr) (n c:Nat) (ts:List By) (T:Strs p a n ts) (hn:n≤2 ^ 60) (ht: ∀ i,i<n→(ts.getD i []).length≤2 ^ 60):CallsX Tryz.prog .lone 37 #[.slice a n c] h fun v h'=>v= .int .i64 (chkT ts)∧Keep h h':=by
  refine xbk (Φ:=fun h_=>St h [] p h_ []) Tryz.func37 rfl (tm:=[_,_,_,_,_,_,_,_]) rfl ?_ (St.start h _ hp)
  intro c₀ cs Stop K
  refine xaw ?_
  refine xak ?_
  refine xaj (xaq rfl) (fun h_ H_=>xax (v:=.int .i64 0) rfl) (tm':=_::_::_::_) rfl ?_
  refine xav ?_
  refine xaw ?_
  refine xaw ?_
  refine xak ?_
  refine xaj (xaq rfl) (fun h_ H_=>xaz (v:=.slice a n c) rfl) rfl ?_
  refine xaj (xaq rfl) (fun h_ H_=>xfv Tryz.underlying33 rfl) rfl ?_
  refine xaj (xaq rfl) (fun h_ H_=>xmw rfl rfl) (tm':=[_,_,_,_,_,_,_,_]) rfl ?_
  refine xav ?_
  by_cases cc1:20<((n:Nat):Int)
  · refine xbv rfl (decide_eq_true cc1) ?_
    refine xaw ?_
    refine xak ?_
    refine xaj (xaq rfl) (fun h_ H_=>xax (v:=.int .i64 2) rfl) rfl ?_
    refine xav ?_
    refine xck Tryz.func37 rfl (vs:=[.int .i64 2]) (fun h_ H_=>⟨.int .i64 2,_,rfl,rfl,rfl⟩) (v:=.int .i64 2) rfl ?_
    have hl:=T.len
    exact fun h_ H_=>K _ _ ⟨by unfold chkT;first | (rw [if_pos (by omega)]) | (rw [if_neg (by omega),if_pos ‹_›]) | (rw [if_neg (by omega),if_neg ‹_›]),H_.kept⟩
  · refine xcx rfl (decide_eq_false cc1) ?_
    refine xcj ?_
    refine xaw ?_
    refine xaw ?_
    refine xak ?_
    refine xaj (xaq rfl) (fun h_ H_=>xaz (v:=.slice a n c) rfl) rfl ?_
    refine xdj (xaq rfl) (first:=[]) (cap:=[]) rfl rfl fC60 (fun h_ H_=>c60 _ _ (fun b_ o_ e_=>H_.per b_ o_ e_) (.func (.func 61) #[] #[]) _ _ _ _ T (by omega) badT (fun h_ hp_ i_ hi_=>xtw fC61 (c61 _ _ (ht i_ hi_)))) (tm':=[_,_,_,_,_,_,_,_]) rfl ?_
    refine xav ?_
    by_cases cc2:0≤idxT badT ts
    · refine xbv rfl (decide_eq_true cc2) ?_
      refine xaw ?_
      refine xak ?_
      refine xaj (xaq rfl) (fun h_ H_=>xax (v:=.int .i64 1) rfl) rfl ?_
      refine xav ?_
      refine xck Tryz.func37 rfl (vs:=[.int .i64 1]) (fun h_ H_=>⟨.int .i64 1,_,rfl,rfl,rfl⟩) (v:=.int .i64 1) rfl ?_
      have hl:=T.len
      exact fun h_ H_=>K _ _ ⟨by unfold chkT;first | (rw [if_pos (by omega)]) | (rw [if_neg (by omega),if_pos ‹_›]) | (rw [if_neg (by omega),if_neg ‹_›]),H_.kept⟩
    · refine xcx rfl (decide_eq_false cc2) ?_
      refine xcj ?_
      refine xaw ?_
      refine xak ?_
      refine xaj (xaq rfl) (fun h_ H_=>xax (v:=.int .i64 0) rfl) rfl ?_
      refine xav ?_
      refine xck Tryz.func37 rfl (vs:=[.int .i64 0]) (fun h_ H_=>⟨.int .i64 0,_,rfl,rfl,rfl⟩) (v:=.int .i64 0) rfl ?_
      have hl:=T.len
      exact fun h_ H_=>K _ _ ⟨by unfold chkT;first | (rw [if_pos (by omega)]) | (rw [if_neg (by omega),if_pos ‹_›]) | (rw [if_neg (by omega),if_neg ‹_›]),H_.kept⟩
end Go.Proofs.YtphalmjpbnffcaaGreatDoor
namespace Go.Proofs.YtphalmjpbnffcaaGreatDoor
open Go.X Go.X.Cent Go.Conc
set_option maxRecDepth 10000
set_option synthInstance.maxSize 2000
set_option synthInstance.maxHeartbeats 400000

theorem c91 (md:Md) (h h₀:Heap) (B₀:List Nat) (p:PHeap) (yv:Value) (bS:Nat) (s:By) (E:List Pie) (X₀:Pcs) (hs:s.length≤2 ^ 30) (I:List Pie→Pcs→Prop) (hE₀:encS [[]] s=E) (hI0:I [] X₀)
    (hy: ∀ out x h A X,out++[x] <+: E→I out X→St h₀ B₀ p h (A++(X++[]))→CallV Tryz.prog md yv [.agg #[.int .i64 x.1,.int .i64 x.2]] h fun v h'=>∃ X',v= .bool true∧I (out++[x]) X'∧St h₀ B₀ p h' (A++(X'++[]))) (s₀:St h₀ B₀ p h (([(bS,.cells #[sv s] 9 (0,0))]:Pcs)++(X₀++[]))):CallsX Tryz.prog md 91 #[yv,.pointer (some ⟨bS,0,none⟩)] h fun _ h'=>∃ X',I E X'∧St h₀ B₀ p h' X':=by
  refine xbk (Φ:=fun h_=>St h₀ B₀ p h_ (([(bS,.cells #[sv s] 9 (0,0))]:Pcs)++(X₀++[]))) Tryz.func91 rfl (tm:=[_,_,_,_,_,_,_,_,_,_,_,_,_,_,_,_,_,_,_,_,_,_,_,_,_,_,_,_,_,_,_,_,_,_,_,_,_,_,_,_,_,_,_,_,_,_,_,_,_,_,_,_,_,_,_,_,_,_,_,_]) rfl ?_ s₀
  intro c₀ cs Stop K
  refine xaw ?_
  refine xak ?_
  refine zhz (xaq rfl) fun b1=>xdx (L':=([(b1,.map #[] 0),(bS,.cells #[sv s] 9 (0,0))]:Pcs)++(X₀++[])) rfl ?_
  refine ytk (z:=0) (key:=([]:List UInt8)) (.inr rfl) (xaq rfl) Tryz.underlying145 Tryz.underlying9 (i:=0) rfl MapO.nil rfl rfl rfl rfl fun ob2 o3=>xdx (L':=([(b1,ob2),(bS,.cells #[sv s] 9 (0,0))]:Pcs)++(X₀++[])) rfl ?_
  refine xaj (xaq rfl) (fun h_ H_=>xaz (v:=.map (some b1)) rfl) rfl ?_
  refine xaj (xaq rfl) (fun h_ H_=>xax (v:=.map (some b1)) rfl) (tm':=_::_::_::_::_) rfl ?_
  refine xav ?_
  refine xcw ?_
  refine xhw (m₀:=s.length) (fun m_ tm_ h_=>∃ (ph:List By) (rest:By) (out:List Pie) (X:Pcs) (o:Obj),m_=rest.length∧(∃ y4:Nat→Value,tm_=[yv,.pointer (some ⟨bS,0,none⟩),undef,.map (some b1),(y4 4),(y4 5),(y4 6),(y4 7),.map (some b1),.map (some b1),(y4 10),(y4 11),(y4 12),(y4 13),(y4 14),(y4 15),(y4 16),(y4 17),(y4 18),(y4 19),(y4 20),(y4 21),(y4 22),(y4 23),(y4 24),(y4 25),(y4 26),(y4 27),(y4 28),(y4 29),(y4 30),(y4 31),(y4 32),(y4 33),(y4 34),(y4 35),(y4 36),(y4 37),(y4 38),(y4 39),(y4 40),(y4 41),(y4 42),(y4 43),(y4 44),(y4 45),(y4 46),(y4 47),(y4 48),(y4 49),(y4 50),(y4 51),(y4 52),(y4 53),(y4 54),(y4 55),(y4 56),(y4 57),(y4 58),(y4 59)])∧(out++encS ph rest=E)∧(Phr ph)∧(MapO (mapFrom 0 ph) o)∧(I out X)∧(rest.length≤2 ^ 30)∧St h₀ B₀ p h_ (([(b1,o),(bS,.cells #[sv rest] 9 (0,0))]:Pcs)++(X++[]))) (fun h_ H_=>⟨[[]],s,[],X₀,_,rfl,(y_of rfl),hE₀,Phr.one,o3,hI0,hs,H_⟩) ?_
  intro m_ tm_ IH5
  refine xhv fun ph=>xhv fun rest=>xhv fun out=>xhv fun X=>xhv fun o=>xcq fun hm_=>xcq fun ht_=>xcq fun hE=>xcq fun hP=>xcq fun hM=>xcq fun hI=>xcq fun hr=>?_
  subst hm_;obtain ⟨y4,ht_⟩:=ht_;subst ht_
  refine xaw ?_
  refine xaw ?_
  refine xak ?_
  refine xaj (xaq rfl) (fun h_ H_=>xbj H_ tA9 rfl (i:=1) rfl (v:=sv rest) rfl) rfl ?_
  refine xaj (xaq rfl) (fun h_ H_=>xwq (l:=rest) (m:=([]:List UInt8)) rfl rfl) rfl ?_
  refine xav ?_
  by_cases cc6:rest=([]:List UInt8)
  · refine xcx rfl (xfz (decide_eq_true cc6)) ?_
    refine xhz rfl ?_
    refine zqk Tryz.func91 rfl (vs:=[]) (fun h_ H_=>rfl) (v:=.tuple #[]) rfl ?_
    have hr0:rest=[]:=‹rest=[]›
    obtain rfl:out=E:=by rw [hr0,yqj,List.append_nil] at hE;exact hE
    exact fun h_ H_=>K _ _ ⟨_,hI,by simpa using H_.dropA⟩
  · refine xbv rfl (xgx (decide_eq_false cc6)) ?_
    refine xcj ?_
    refine xcw ?_
    refine xaw ?_
    have hne:=List.length_pos_iff.2 ‹¬ rest=[]›
    refine xak ?_
    refine xaj (xaq rfl) (fun h_ H_=>xax (v:=.int .i64 0) rfl) (tm':=_::_::_::_::_::_) rfl ?_
    refine xav ?_
    refine xaw ?_
    refine xcw ?_
    refine xhw (m₀:=rest.length-0) (fun m_ tm_ h_=>∃ (k:Nat),m_=rest.length-k∧(∃ y7:Nat→Value,tm_=[yv,.pointer (some ⟨bS,0,none⟩),undef,.map (some b1),.int .i64 (((k:Nat):Int)),(y7 5),(y7 6),(y4 7),.map (some b1),.map (some b1),sv rest,.bool (!decide (rest=([]:List UInt8))),(y7 12),(y7 13),(y7 14),(y7 15),(y7 16),(y7 17),(y7 18),(y7 19),(y7 20),(y7 21),(y7 22),(y7 23),(y7 24),(y7 25),(y7 26),(y7 27),(y7 28),(y4 29),(y4 30),(y4 31),(y4 32),(y4 33),(y4 34),(y4 35),(y4 36),(y4 37),(y4 38),(y4 39),(y4 40),(y4 41),(y4 42),(y4 43),(y4 44),(y4 45),(y4 46),(y4 47),(y4 48),(y4 49),(y4 50),(y4 51),(y4 52),(y4 53),(y4 54),(y4 55),(y4 56),(y4 57),(y4 58),(y4 59)])∧(k≤rest.length)∧(∀ i,i≤k→rest.take i∈ph)∧St h₀ B₀ p h_ (([(b1,o),(bS,.cells #[sv rest] 9 (0,0))]:Pcs)++(X++[]))) (fun h_ H_=>⟨0,rfl,(y_of rfl),Nat.zero_le _,(fun i hi=>by obtain rfl:i=0:=(by omega);simpa using hP.mem),H_⟩) ?_
    intro m_ tm_ IH8
    refine xhv fun k=>xcq fun hm_=>xcq fun ht_=>xcq fun hk=>xcq fun hpk=>?_
    subst hm_;obtain ⟨y7,ht_⟩:=ht_;subst ht_
    refine xaw ?_
    refine xaw ?_
    refine xak ?_
    refine xaj (xaq rfl) (fun h_ H_=>xaz (v:=.int .i64 (((k:Nat):Int))) rfl) rfl ?_
    refine xaj (xaq rfl) (fun h_ H_=>xbj H_ tA9 rfl (i:=1) rfl (v:=sv rest) rfl) rfl ?_
    refine xaj (xaq rfl) (fun h_ H_=>xjx (l:=rest) Tryz.underlying9 rfl) (tm':=_::_::_::_::_::_::_::_::_::_::_::_::_::_::_::_) rfl ?_
    refine xaj (xaq rfl) (fun h_ H_=>xgz rfl rfl) rfl ?_
    refine xav ?_
    by_cases cc9:((k:Nat):Int)<((rest.length:Nat):Int)
    · refine xbv rfl (decide_eq_true cc9) ?_
      refine xcj ?_
      refine xcw ?_
      refine xaw ?_
      refine xaw ?_
      refine xak ?_
      refine xaj (xaq rfl) (fun h_ H_=>xaz (v:=.map (some b1)) rfl) rfl ?_
      refine xaj (xaq rfl) (fun h_ H_=>xbj H_ tA9 rfl (i:=1) rfl (v:=sv rest) rfl) (tm':=_::_::_::_::_::_::_::_::_::_::_::_::_::_::_::_::_::_::_::_) rfl ?_
      refine xaj (xaq rfl) (fun h_ H_=>xaz (v:=.int .i64 (((k:Nat):Int))) rfl) rfl ?_
      refine xaj (xaq rfl) (fun h_ H_=>xfj rfl rfl (n:=((k+1:Nat):Int)) (wr (by omega))) rfl ?_
      refine xaj (xaq rfl) (fun h_ H_=>xrw (l:=rest) (r:=k+1) Tryz.underlying9 rfl (.nat (z:=k+1) _ rfl) (by omega)) (tm':=_::_::_::_::_::_::_::_::_::_::_::_::_::_::_::_::_::_::_::_::_::_::_) rfl ?_
      refine xaj (xaq rfl) (fun h_ H_=>ycz H_ (i:=0) rfl hM Tryz.underlying145 Tryz.underlying9 tZ3 rfl rfl (v:=.tuple #[.int .i64 ((findM (mapFrom 0 ph) (rest.take (k+1))).getD 0),.bool ((findM (mapFrom 0 ph) (rest.take (k+1))).isSome)]) rfl) rfl ?_
      refine xaj (xaq rfl) (fun h_ H_=>xaz (v:=.tuple #[.int .i64 ((findM (mapFrom 0 ph) (rest.take (k+1))).getD 0),.bool ((findM (mapFrom 0 ph) (rest.take (k+1))).isSome)]) rfl) rfl ?_
      refine xaj (xaq rfl) (fun h_ H_=>xdv rfl (v:=.int .i64 ((findM (mapFrom 0 ph) (rest.take (k+1))).getD 0)) rfl) (tm':=_::_::_::_::_::_::_::_::_::_::_::_::_::_::_::_::_::_::_::_::_::_::_::_::_) rfl ?_
      refine xaj (xaq rfl) (fun h_ H_=>xdv rfl (v:=.bool ((findM (mapFrom 0 ph) (rest.take (k+1))).isSome)) rfl) rfl ?_
      refine xaj (xaq rfl) (fun h_ H_=>xax (v:=.int .i64 ((findM (mapFrom 0 ph) (rest.take (k+1))).getD 0)) rfl) rfl ?_
      refine xaj (xaq rfl) (fun h_ H_=>xax (v:=.bool ((findM (mapFrom 0 ph) (rest.take (k+1))).isSome)) rfl) (tm':=_::_::_::_::_::_::_::_) rfl ?_
      refine xav ?_
      refine xaw ?_
      refine xak ?_
      refine xaj (xaq rfl) (fun h_ H_=>xaz (v:=.bool ((findM (mapFrom 0 ph) (rest.take (k+1))).isSome)) rfl) rfl ?_
      refine xaj (xaq rfl) (fun h_ H_=>xgw rfl) rfl ?_
      refine xav ?_
      rcases xxx ((findM (mapFrom 0 ph) (rest.take (k+1))).isSome) with cc10 | cc10
      · refine xcx rfl (xfz cc10) ?_
        refine xcj ?_
        refine xak ?_
        refine xaj (xaq rfl) (fun h_ H_=>xaz (v:=.int .i64 (((k:Nat):Int))) rfl) (tm':=_::_::_::_::_::_::_::_::_::_::_::_::_::_::_::_::_::_::_::_::_::_::_::_::_::_::_::_::_) rfl ?_
        refine xaj (xaq rfl) (fun h_ H_=>xfj rfl rfl (n:=((k+1:Nat):Int)) (wr (by omega))) rfl ?_
        refine xaj (xaq rfl) (fun h_ H_=>xax (v:=.int .i64 (((k+1:Nat):Int))) rfl) rfl ?_
        refine xav ?_
        refine xdq ?_
        exact fun h_ H_=>IH8 _ _ (by omega) h_ ⟨k+1,rfl,(y_of rfl),(by omega),(zuq hpk (nfS ‹_›)),H_⟩
      · refine xbv rfl (xgx cc10) ?_
        refine xhz rfl ?_
        refine xaw ?_
        have hlp:lp ph rest=k:=yoz hP.mem hk hpk (by first | exact fun hl_=>absurd hl_ (by omega) | exact fun _=>nf ‹_›)
        refine xak ?_
        refine xaj (xaq rfl) (fun h_ H_=>xaz (v:=.map (some b1)) rfl) (tm':=_::_::_::_::_::_::_::_::_::_::_::_::_::_::_::_::_::_::_::_::_::_::_::_::_::_::_::_::_::_::_) rfl ?_
        refine xaj (xaq rfl) (fun h_ H_=>xbj H_ tA9 rfl (i:=1) rfl (v:=sv rest) rfl) rfl ?_
        refine xaj (xaq rfl) (fun h_ H_=>xaz (v:=.int .i64 (((k:Nat):Int))) rfl) rfl ?_
        refine xaj (xaq rfl) (fun h_ H_=>xrw (l:=rest) (r:=k) Tryz.underlying9 rfl (.nat (z:=k) _ rfl) (by omega)) (tm':=_::_::_::_::_::_::_::_::_::_::_::_::_::_::_::_::_::_::_::_::_::_::_::_::_::_::_::_::_::_::_::_::_::_) rfl ?_
        refine xaj (xaq rfl) (fun h_ H_=>ycz H_ (i:=0) rfl hM Tryz.underlying145 Tryz.underlying9 tZ3 rfl rfl (v:=.int .i64 ((findM (mapFrom 0 ph) (rest.take k)).getD 0)) rfl) rfl ?_
        refine xaj (xaq rfl) (fun h_ H_=>xjj xuv wcj (vs:=[(0,.int .i64 ((findM (mapFrom 0 ph) (rest.take k)).getD 0)),(1,.int .i64 (-1))]) rfl (cells:=#[.int .i64 ((findM (mapFrom 0 ph) (rest.take k)).getD 0),.int .i64 (-1)]) rfl) rfl ?_
        refine xmj (xaq rfl) xuv rfl fun b11=>xdx (L':=([(b11,.cells #[.int .i64 0,.int .i64 0] 112 (0,0)),(b1,o),(bS,.cells #[sv rest] 9 (0,0))]:Pcs)++(X++[])) rfl ?_
        refine xew (tm':=_::_::_::_::_::_::_::_::_) rfl ?_
        refine xjq (xaq rfl) xqk rfl (v:=.agg #[.int .i64 ((findM (mapFrom 0 ph) (rest.take k)).getD 0),.int .i64 (-1)]) rfl (i:=0) rfl rfl rfl (Nat.le_of_ble_eq_true rfl) (cs2:=[.int .i64 ((findM (mapFrom 0 ph) (rest.take k)).getD 0),.int .i64 (-1)]) rfl (xdx (L':=([(b11,.cells #[.int .i64 ((findM (mapFrom 0 ph) (rest.take k)).getD 0),.int .i64 (-1)] 112 (0,0)),(b1,o),(bS,.cells #[sv rest] 9 (0,0))]:Pcs)++(X++[])) rfl ?_)
        refine xav ?_
        refine xaw ?_
        refine xaw ?_
        refine xak ?_
        refine xaj (xaq rfl) (fun h_ H_=>xaz (v:=.int .i64 (((k:Nat):Int))) rfl) rfl ?_
        refine xaj (xaq rfl) (fun h_ H_=>xbj H_ tA9 rfl (i:=2) rfl (v:=sv rest) rfl) rfl ?_
        refine xaj (xaq rfl) (fun h_ H_=>xjx (l:=rest) Tryz.underlying9 rfl) (tm':=_::_::_::_::_::_::_::_::_::_::_::_::_::_::_::_::_::_::_::_::_::_::_::_::_::_::_::_::_::_::_::_::_::_::_::_::_::_::_) rfl ?_
        refine xaj (xaq rfl) (fun h_ H_=>xgz rfl rfl) rfl ?_
        refine xav ?_
        refine xbv rfl (decide_eq_true cc9) ?_
        refine xaw ?_
        refine xak ?_
        refine xaj (xaq rfl) (fun h_ H_=>xbj H_ tA9 rfl (i:=2) rfl (v:=sv rest) rfl) rfl ?_
        refine xaj (xaq rfl) (fun h_ H_=>xaz (v:=.int .i64 (((k:Nat):Int))) rfl) (tm':=[_,_,_,_,_,_,_,_,_,_,_,_,_,_,_,_,_,_,_,_,_,_,_,_,_,_,_,_,_,_,_,_,_,_,_,_,_,_,_,_,_,_,_,_,_,_,_,_,_,_,_,_,_,_,_,_,_,_,_,_]) rfl ?_
        refine xaj (xaq rfl) (fun h_ H_=>xlv (l:=rest) (i:=k) Tryz.underlying9 rfl rfl (by omega)) rfl ?_
        refine xaj (xaq rfl) (fun h_ H_=>xmq ⟨_,Tryz.underlying5⟩ Tryz.underlying3 rfl (n:=(((rest.getD k 0).toNat:Nat):Int)) (wrB _)) rfl ?_
        refine xaj (xaq rfl) (fun h_ H_=>xbz xyq rfl (a':=⟨b11,1,none⟩) rfl) (tm':=[_,_,_,_,_,_,_,_,_,_,_,_,_,_,_,_,_,_,_,_,_,_,_,_,_,_,_,_,_,_,_,_,_,_,_,_,_,_,_,_,_,_,_,_,_,_,_,_,_,_,_,_,_,_,_,_,_,_,_,_]) rfl ?_
        refine xjq (xaq rfl) tS3 rfl (v:=.int .i64 ((((rest.getD k 0).toNat:Nat):Int))) rfl (i:=0) rfl rfl rfl (Nat.le_of_ble_eq_true rfl) (cs2:=[.int .i64 ((findM (mapFrom 0 ph) (rest.take k)).getD 0),.int .i64 ((((rest.getD k 0).toNat:Nat):Int))]) rfl (xdx (L':=([(b11,.cells #[.int .i64 ((findM (mapFrom 0 ph) (rest.take k)).getD 0),.int .i64 ((((rest.getD k 0).toNat:Nat):Int))] 112 (0,0)),(b1,o),(bS,.cells #[sv rest] 9 (0,0))]:Pcs)++(X++[])) rfl ?_)
        refine xav ?_
        refine xaw ?_
        refine xiw 7 [] mixed (by kernel_rfl) (Nat.le_of_ble_eq_true rfl) ?_
        refine xej (xaq rfl) (fun h_ H_=>xaz (v:=.map (some b1)) rfl) rfl ?_
        refine xej (xaq rfl) (fun h_ H_=>xbj H_ tA9 rfl (i:=2) rfl (v:=sv rest) rfl) (tm':=[_,_,_,_,_,_,_,_,_,_,_,_,_,_,_,_,_,_,_,_,_,_,_,_,_,_,_,_,_,_,_,_,_,_,_,_,_,_,_,_,_,_,_,_,_,_,_,_,_,_,_,_,_,_,_,_,_,_,_,_]) rfl ?_
        refine xej (xaq rfl) (fun h_ H_=>xaz (v:=.int .i64 (((k:Nat):Int))) rfl) rfl ?_
        refine xej (xaq rfl) (fun h_ H_=>xfj rfl rfl (n:=((k+1:Nat):Int)) (wr (by omega))) (tm':=[_,_,_,_,_,_,_,_,_,_,_,_,_,_,_,_,_,_,_,_,_,_,_,_,_,_,_,_,_,_,_,_,_,_,_,_,_,_,_,_,_,_,_,_,_,_,_,_,_,_,_,_,_,_,_,_,_,_,_,_]) rfl ?_
        refine xej (xaq rfl) (fun h_ H_=>xrw (l:=rest) (r:=k+1) Tryz.underlying9 rfl (.nat (z:=k+1) _ rfl) (by omega)) rfl ?_
        refine xej (xaq rfl) (fun h_ H_=>xaz (v:=.map (some b1)) rfl) (tm':=[_,_,_,_,_,_,_,_,_,_,_,_,_,_,_,_,_,_,_,_,_,_,_,_,_,_,_,_,_,_,_,_,_,_,_,_,_,_,_,_,_,_,_,_,_,_,_,_,_,_,_,_,_,_,_,_,_,_,_,_]) rfl ?_
        refine xej (xaq rfl) (fun h_ H_=>zzz H_ (i:=1) rfl hM Tryz.underlying145 rfl) rfl ?_
        refine xmk rfl ?_
        refine ytk (z:=(((mapFrom 0 ph).length:Nat):Int)) (key:=rest.take (k+1)) (.inl rfl) (xaq rfl) Tryz.underlying145 Tryz.underlying9 (i:=1) rfl hM rfl rfl rfl (nfN ‹_›) fun ob12 o13=>xdx (L':=([(b11,.cells #[.int .i64 ((findM (mapFrom 0 ph) (rest.take k)).getD 0),.int .i64 ((((rest.getD k 0).toNat:Nat):Int))] 112 (0,0)),(b1,ob12),(bS,.cells #[sv rest] 9 (0,0))]:Pcs)++(X++[])) rfl ?_
        refine xav ?_
        refine xak ?_
        refine xaj (xaq rfl) (fun h_ H_=>xaz (v:=.int .i64 (((k:Nat):Int))) rfl) rfl ?_
        refine xaj (xaq rfl) (fun h_ H_=>xfj rfl rfl (n:=((k+1:Nat):Int)) (wr (by omega))) (tm':=[_,_,_,_,_,_,_,_,_,_,_,_,_,_,_,_,_,_,_,_,_,_,_,_,_,_,_,_,_,_,_,_,_,_,_,_,_,_,_,_,_,_,_,_,_,_,_,_,_,_,_,_,_,_,_,_,_,_,_,_]) rfl ?_
        refine xaj (xaq rfl) (fun h_ H_=>xax (v:=.int .i64 (((k+1:Nat):Int))) rfl) rfl ?_
        refine xav ?_
        refine xaw ?_
        have hx:=zrv hlp hP.mem (show k<rest.length by omega)
        refine xak ?_
        refine xaj (xaq rfl) (fun h_ H_=>xbj H_ tA9 rfl (i:=2) rfl (v:=sv rest) rfl) rfl ?_
        refine xaj (xaq rfl) (fun h_ H_=>xaz (v:=.int .i64 (((k+1:Nat):Int))) rfl) (tm':=[_,_,_,_,_,_,_,_,_,_,_,_,_,_,_,_,_,_,_,_,_,_,_,_,_,_,_,_,_,_,_,_,_,_,_,_,_,_,_,_,_,_,_,_,_,_,_,_,_,_,_,_,_,_,_,_,_,_,_,_]) rfl ?_
        refine xaj (xaq rfl) (fun h_ H_=>xsq (l:=rest) (a:=k+1) Tryz.underlying9 rfl (.nat (z:=k+1) _ rfl) (by omega)) rfl ?_
        refine xjq (xaq rfl) tS9 rfl (v:=sv (rest.drop (k+1))) rfl (i:=2) rfl rfl rfl (Nat.le_of_ble_eq_true rfl) (cs2:=[sv (rest.drop (k+1))]) rfl (xdx (L':=([(b11,.cells #[.int .i64 ((findM (mapFrom 0 ph) (rest.take k)).getD 0),.int .i64 ((((rest.getD k 0).toNat:Nat):Int))] 112 (0,0)),(b1,ob12),(bS,.cells #[sv (rest.drop (k+1))] 9 (0,0))]:Pcs)++(X++[])) rfl ?_)
        refine xav ?_
        refine xaw ?_
        refine xak ?_
        refine xaj (xaq rfl) (fun h_ H_=>xaz (v:=yv) rfl) rfl ?_
        refine xaj (xaq rfl) (fun h_ H_=>xeq H_ yxx xqk rfl (i:=0) rfl (vs:=[.int .i64 ((findM (mapFrom 0 ph) (rest.take k)).getD 0),.int .i64 ((((rest.getD k 0).toNat:Nat):Int))]) rfl rfl) (tm':=[_,_,_,_,_,_,_,_,_,_,_,_,_,_,_,_,_,_,_,_,_,_,_,_,_,_,_,_,_,_,_,_,_,_,_,_,_,_,_,_,_,_,_,_,_,_,_,_,_,_,_,_,_,_,_,_,_,_,_,_]) rfl ?_
        refine yfq (xaq rfl) rfl (vs:=[.agg #[.int .i64 ((findM (mapFrom 0 ph) (rest.take k)).getD 0),.int .i64 ((((rest.getD k 0).toNat:Nat):Int))]]) rfl (R:=fun v_ h_=>∃ X_,v_= .bool true∧I (out++[((findM (mapFrom 0 ph) (rest.take k)).getD 0,(((rest.getD k 0).toNat:Nat):Int))]) X_∧St h₀ B₀ p h_ (([(b11,.cells #[.int .i64 ((findM (mapFrom 0 ph) (rest.take k)).getD 0),.int .i64 ((((rest.getD k 0).toNat:Nat):Int))] 112 (0,0)),(b1,ob12),(bS,.cells #[sv (rest.drop (k+1))] 9 (0,0))]:Pcs)++(X_++[]))) (fun h_ H_=>hy out ((findM (mapFrom 0 ph) (rest.take k)).getD 0,(((rest.getD k 0).toNat:Nat):Int)) h_ _ _ (hE ▸ hx ▸ znj _ _ _) hI H_) fun v_=>?_
        refine xgj fun X14=>xez fun ev_=>xez fun hI15=>?_
        subst ev_
        refine xaj (xaq rfl) (fun h_ H_=>xgw rfl) rfl ?_
        refine xav ?_
        refine xcx rfl (xfz rfl) ?_
        refine xcj ?_
        refine xdq ?_
        exact fun h_ H_=>IH5 _ _ (by simp only [List.length_drop];omega) h_ ⟨(ph++[rest.take (k+1)]),(rest.drop (k+1)),(out++[((findM (mapFrom 0 ph) (rest.take k)).getD 0,(((rest.getD k 0).toNat:Nat):Int))]),X14,_,rfl,(y_of rfl),(by rw [List.append_assoc,List.singleton_append,← hx];exact hE),(by have h_:=hP.snoc (s:=rest) (by omega);rwa [hlp] at h_),(zpq o13),hI15,(by simp only [List.length_drop];omega),H_.drop⟩
    · refine xcx rfl (decide_eq_false cc9) ?_
      refine xhz rfl ?_
      refine xaw ?_
      have hlp:lp ph rest=k:=yoz hP.mem hk hpk (by first | exact fun hl_=>absurd hl_ (by omega) | exact fun _=>nf ‹_›)
      refine xak ?_
      refine xaj (xaq rfl) (fun h_ H_=>xaz (v:=.map (some b1)) rfl) (tm':=_::_::_::_::_::_::_::_::_::_::_::_::_::_::_::_::_::_::_::_::_::_::_::_::_::_::_::_::_::_::_) rfl ?_
      refine xaj (xaq rfl) (fun h_ H_=>xbj H_ tA9 rfl (i:=1) rfl (v:=sv rest) rfl) rfl ?_
      refine xaj (xaq rfl) (fun h_ H_=>xaz (v:=.int .i64 (((k:Nat):Int))) rfl) rfl ?_
      refine xaj (xaq rfl) (fun h_ H_=>xrw (l:=rest) (r:=k) Tryz.underlying9 rfl (.nat (z:=k) _ rfl) (by omega)) (tm':=_::_::_::_::_::_::_::_::_::_::_::_::_::_::_::_::_::_::_::_::_::_::_::_::_::_::_::_::_::_::_::_::_::_) rfl ?_
      refine xaj (xaq rfl) (fun h_ H_=>ycz H_ (i:=0) rfl hM Tryz.underlying145 Tryz.underlying9 tZ3 rfl rfl (v:=.int .i64 ((findM (mapFrom 0 ph) (rest.take k)).getD 0)) rfl) rfl ?_
      refine xaj (xaq rfl) (fun h_ H_=>xjj xuv wcj (vs:=[(0,.int .i64 ((findM (mapFrom 0 ph) (rest.take k)).getD 0)),(1,.int .i64 (-1))]) rfl (cells:=#[.int .i64 ((findM (mapFrom 0 ph) (rest.take k)).getD 0),.int .i64 (-1)]) rfl) rfl ?_
      refine xmj (xaq rfl) xuv rfl fun b16=>xdx (L':=([(b16,.cells #[.int .i64 0,.int .i64 0] 112 (0,0)),(b1,o),(bS,.cells #[sv rest] 9 (0,0))]:Pcs)++(X++[])) rfl ?_
      refine xew (tm':=_::_::_::_::_::_::_::_::_) rfl ?_
      refine xjq (xaq rfl) xqk rfl (v:=.agg #[.int .i64 ((findM (mapFrom 0 ph) (rest.take k)).getD 0),.int .i64 (-1)]) rfl (i:=0) rfl rfl rfl (Nat.le_of_ble_eq_true rfl) (cs2:=[.int .i64 ((findM (mapFrom 0 ph) (rest.take k)).getD 0),.int .i64 (-1)]) rfl (xdx (L':=([(b16,.cells #[.int .i64 ((findM (mapFrom 0 ph) (rest.take k)).getD 0),.int .i64 (-1)] 112 (0,0)),(b1,o),(bS,.cells #[sv rest] 9 (0,0))]:Pcs)++(X++[])) rfl ?_)
      refine xav ?_
      refine xaw ?_
      refine xaw ?_
      refine xak ?_
      refine xaj (xaq rfl) (fun h_ H_=>xaz (v:=.int .i64 (((k:Nat):Int))) rfl) rfl ?_
      refine xaj (xaq rfl) (fun h_ H_=>xbj H_ tA9 rfl (i:=2) rfl (v:=sv rest) rfl) rfl ?_
      refine xaj (xaq rfl) (fun h_ H_=>xjx (l:=rest) Tryz.underlying9 rfl) (tm':=_::_::_::_::_::_::_::_::_::_::_::_::_::_::_::_::_::_::_::_::_::_::_::_::_::_::_::_::_::_::_::_::_::_::_::_::_::_::_) rfl ?_
      refine xaj (xaq rfl) (fun h_ H_=>xgz rfl rfl) rfl ?_
      refine xav ?_
      refine xcx rfl (decide_eq_false cc9) ?_
      refine xcj ?_
      refine xaw ?_
      have hx:=zsx hlp hP.mem (List.length_pos_iff.1 hne) (show ¬ k<rest.length by omega)
      refine xak ?_
      refine xaj (xaq rfl) (fun h_ H_=>xbj H_ tA9 rfl (i:=2) rfl (v:=sv rest) rfl) rfl ?_
      refine xaj (xaq rfl) (fun h_ H_=>xaz (v:=.int .i64 (((k:Nat):Int))) rfl) (tm':=[_,_,_,_,_,_,_,_,_,_,_,_,_,_,_,_,_,_,_,_,_,_,_,_,_,_,_,_,_,_,_,_,_,_,_,_,_,_,_,_,_,_,_,_,_,_,_,_,_,_,_,_,_,_,_,_,_,_,_,_]) rfl ?_
      refine xaj (xaq rfl) (fun h_ H_=>xsq (l:=rest) (a:=k) Tryz.underlying9 rfl (.nat (z:=k) _ rfl) (by omega)) rfl ?_
      refine xjq (xaq rfl) tS9 rfl (v:=sv (rest.drop k)) rfl (i:=2) rfl rfl rfl (Nat.le_of_ble_eq_true rfl) (cs2:=[sv (rest.drop k)]) rfl (xdx (L':=([(b16,.cells #[.int .i64 ((findM (mapFrom 0 ph) (rest.take k)).getD 0),.int .i64 (-1)] 112 (0,0)),(b1,o),(bS,.cells #[sv (rest.drop k)] 9 (0,0))]:Pcs)++(X++[])) rfl ?_)
      refine xav ?_
      refine xaw ?_
      refine xak ?_
      refine xaj (xaq rfl) (fun h_ H_=>xaz (v:=yv) rfl) rfl ?_
      refine xaj (xaq rfl) (fun h_ H_=>xeq H_ yxx xqk rfl (i:=0) rfl (vs:=[.int .i64 ((findM (mapFrom 0 ph) (rest.take k)).getD 0),.int .i64 (-1)]) rfl rfl) (tm':=[_,_,_,_,_,_,_,_,_,_,_,_,_,_,_,_,_,_,_,_,_,_,_,_,_,_,_,_,_,_,_,_,_,_,_,_,_,_,_,_,_,_,_,_,_,_,_,_,_,_,_,_,_,_,_,_,_,_,_,_]) rfl ?_
      refine yfq (xaq rfl) rfl (vs:=[.agg #[.int .i64 ((findM (mapFrom 0 ph) (rest.take k)).getD 0),.int .i64 (-1)]]) rfl (R:=fun v_ h_=>∃ X_,v_= .bool true∧I (out++[((findM (mapFrom 0 ph) (rest.take k)).getD 0,(-1))]) X_∧St h₀ B₀ p h_ (([(b16,.cells #[.int .i64 ((findM (mapFrom 0 ph) (rest.take k)).getD 0),.int .i64 (-1)] 112 (0,0)),(b1,o),(bS,.cells #[sv (rest.drop k)] 9 (0,0))]:Pcs)++(X_++[]))) (fun h_ H_=>hy out ((findM (mapFrom 0 ph) (rest.take k)).getD 0,(-1)) h_ _ _ (hE ▸ hx ▸ znj _ _ _) hI H_) fun v_=>?_
      refine xgj fun X17=>xez fun ev_=>xez fun hI18=>?_
      subst ev_
      refine xaj (xaq rfl) (fun h_ H_=>xgw rfl) rfl ?_
      refine xav ?_
      refine xcx rfl (xfz rfl) ?_
      refine xcj ?_
      refine xdq ?_
      exact fun h_ H_=>IH5 _ _ (by simp only [List.length_drop];omega) h_ ⟨ph,(rest.drop k),(out++[((findM (mapFrom 0 ph) (rest.take k)).getD 0,(-1))]),X17,_,rfl,(y_of rfl),(by rw [List.append_assoc,List.singleton_append,← hx];exact hE),hP,hM,hI18,(by simp only [List.length_drop];omega),H_.drop⟩
end Go.Proofs.YtphalmjpbnffcaaGreatDoor
namespace Go.Proofs.YtphalmjpbnffcaaGreatDoor
open Go.X Go.X.Cent Go.Conc
set_option maxRecDepth 10000
set_option synthInstance.maxSize 2000
set_option synthInstance.maxHeartbeats 400000

theorem c104 (md:Md) (h h₀:Heap) (B₀:List Nat) (p:PHeap) (bS:Nat) (s:By) (X₀:Pcs) (hs:s.length≤2 ^ 30) (s₀:St h₀ B₀ p h (([(bS,.cells #[sv s] 9 (0,0))]:Pcs)++(X₀++[]))):CallsX Tryz.prog md 104 #[.slice none 0 0,.func (.func 91) #[] #[.pointer (some ⟨bS,0,none⟩)]] h fun v_ h'=>∃ w X1,v_=w∧OwnS 112 2 w (pies (encS [[]] s)) X1∧St h₀ B₀ p h' (X1++(X₀++[])):=by
  refine xbk (Φ:=fun h_=>St h₀ B₀ p h_ (([(bS,.cells #[sv s] 9 (0,0))]:Pcs)++(X₀++[]))) Tryz.func104 rfl (tm:=[_,_,_,_,_,_,_,_,_,_,_,_,_]) rfl ?_ s₀
  intro c₀ cs Stop K
  refine xaw ?_
  refine xak ?_
  refine xnv (xaq rfl) (v:=.slice none 0 0) rfl fun b1=>xdx (L':=([(b1,.cells #[.slice none 0 0] 79 (0,0)),(bS,.cells #[sv s] 9 (0,0))]:Pcs)++(X₀++[])) rfl ?_
  refine xaj (xaq rfl) (fun h_ H_=>xax (v:=.slice none 0 0) rfl) rfl ?_
  refine xav ?_
  refine xaw ?_
  refine xaw ?_
  refine xak ?_
  refine xaj (xaq rfl) (fun h_ H_=>xaz (v:=.func (.func 91) #[] #[.pointer (some ⟨bS,0,none⟩)]) rfl) (tm':=_::_::_::_::_::_::_::_) rfl ?_
  refine xav ?_
  refine xcw ?_
  refine ypx (R:=fun r_ l_ lp_ _ h_=>∃ X_,(∃ w:Value,∃ X1:Pcs,X_=([(l_,.loop lp_),(r_,.deferred (some [])),(b1,.cells #[w] 79 (0,0))]:Pcs)++(X1++(X₀++[]))∧(OwnS 112 2 w (pies (encS [[]] s)) X1))∧St h₀ B₀ p h_ X_) ?_ ?_
  · intro r_ l_ lp_ h_ hlp_ s_
    show CallV _ md (.func (.func 91) ([]:List Value).toArray ([.pointer (some ⟨bS,0,none⟩)]:List Value).toArray) _ h_ _
    refine xtw fC91 ?_
    refine c91 md _ _ _ _ (.func (.yield l_) #[] #[]) bS s (encS [[]] s) _ hs (fun rd_ X_=>∃ w:Value,∃ X1:Pcs,X_=([(l_,.loop lp_),(r_,.deferred (some [])),(b1,.cells #[w] 79 (0,0))]:Pcs)++(X1++(X₀++[]))∧(OwnS 112 2 w (pies rd_) X1)) rfl ⟨_,[],rfl,(OwnS.empty _ _)⟩ ?_ (St.lend s_ (i:=3) rfl rfl)
    intro rd_ x_ h_ Z_ X_ hi_ hI_ s_
    obtain ⟨w,X1,rfl,o1⟩:=hI_
    refine xyw (Φ:=fun h_=>St h₀ B₀ p h_ (([(l_,.loop lp_),(r_,.deferred (some [])),(b1,.cells #[w] 79 (0,0))]:Pcs)++(X1++(X₀++(Z_++[]))))) (s_.rot.at (i:=0) rfl) hlp_ rfl (tm':=[.slice none 0 0,.func (.func 91) #[] #[.pointer (some ⟨bS,0,none⟩)],.pointer (some ⟨b1,0,none⟩),undef,.slice none 0 0,undef,.func (.func 91) #[] #[.pointer (some ⟨bS,0,none⟩)],.agg #[.int .i64 (x_.1),.int .i64 (x_.2)],undef,undef,undef,undef,undef]) rfl ?_ (by simpa using s_.rot)
    intro c₁ cs₁ Stop₁ K₁
    have hi2:=znk hi_
    have hi3:=yfw (ph:=[[]]) (s:=s)
    refine xak ?_
    refine xmj (xaq rfl) xuv rfl fun b2=>xdx (L':=([(b2,.cells #[.int .i64 0,.int .i64 0] 112 (0,0)),(l_,.loop lp_),(r_,.deferred (some [])),(b1,.cells #[w] 79 (0,0))]:Pcs)++(X1++(X₀++(Z_++[])))) rfl ?_
    refine xjq (xaq rfl) xqk rfl (v:=.agg #[.int .i64 (x_.1),.int .i64 (x_.2)]) rfl (i:=0) rfl rfl rfl (Nat.le_of_ble_eq_true rfl) (cs2:=[.int .i64 (x_.1),.int .i64 (x_.2)]) rfl (xdx (L':=([(b2,.cells #[.int .i64 (x_.1),.int .i64 (x_.2)] 112 (0,0)),(l_,.loop lp_),(r_,.deferred (some [])),(b1,.cells #[w] 79 (0,0))]:Pcs)++(X1++(X₀++(Z_++[])))) rfl ?_)
    refine xav ?_
    refine ypz (i:=1) rfl (by rw [hlp_];rfl) ?_
    refine xjv (L':=([(b2,.cells #[.int .i64 (x_.1),.int .i64 (x_.2)] 112 (0,0)),(l_,.loop { lp_ with state:=.busy }),(r_,.deferred (some [])),(b1,.cells #[w] 79 (0,0))]:Pcs)++(X1++(X₀++(Z_++[])))) rfl ?_
    refine xcw ?_
    refine xak ?_
    refine xaj (xaq rfl) (fun h_ H_=>xbj H_ tA79 rfl (i:=3) rfl (v:=w) rfl) rfl ?_
    refine xaj (xaq rfl) (fun h_ H_=>xeq H_ yxx xqk rfl (i:=0) rfl (vs:=[.int .i64 (x_.1),.int .i64 (x_.2)]) rfl rfl) (tm':=[_,_,_,_,_,_,_,_,_,_,_,_,_]) rfl ?_
    refine xfq ([(b2,.cells #[.int .i64 (x_.1),.int .i64 (x_.2)] 112 (0,0)),(l_,.loop { lp_ with state:=.busy }),(r_,.deferred (some [])),(b1,.cells #[w] 79 (0,0))]:Pcs) (xaq rfl) Tryz.underlying79 xqk xuv (Nat.le_of_ble_eq_true rfl) (vs:=[(0,.agg #[.int .i64 (x_.1),.int .i64 (x_.2)])]) rfl rfl (es:=[[.int .i64 (x_.1),.int .i64 (x_.2)]]) rfl rfl rfl fun v3 X4 o5=>?_
    refine xjw (List.Perm.append_left _ (List.perm_append_comm_assoc _ _ _)) ?_
    refine xdx (L':=([(b2,.cells #[.int .i64 (x_.1),.int .i64 (x_.2)] 112 (0,0)),(l_,.loop { lp_ with state:=.busy }),(r_,.deferred (some [])),(b1,.cells #[w] 79 (0,0))]:Pcs)++(X1++(X4++(X₀++(Z_++[]))))) rfl ?_
    refine xkq ([(b2,.cells #[.int .i64 (x_.1),.int .i64 (x_.2)] 112 (0,0)),(l_,.loop { lp_ with state:=.busy }),(r_,.deferred (some [])),(b1,.cells #[w] 79 (0,0))]:Pcs) X1 X4 (xaq rfl) Tryz.underlying79 xqk xuv rfl zuk Tryz.underlying79 rfl rfl o1 o5 (xrj rfl) (by rw [xoz];simp only [List.length_cons,List.length_nil];omega) (by decide) fun v6 X7 o8=>?_
    refine xuw (xaq rfl) tS79 rfl (v:=v6) rfl o8.one (i:=3) rfl (Nat.succ_le_iff.1 (Nat.le_of_ble_eq_true rfl)) (cs2:=[v6]) rfl (xdx (L':=([(b2,.cells #[.int .i64 (x_.1),.int .i64 (x_.2)] 112 (0,0)),(l_,.loop { lp_ with state:=.busy }),(r_,.deferred (some [])),(b1,.cells #[v6] 79 (0,0))]:Pcs)++(X7++(X₀++(Z_++[])))) rfl ?_)
    refine xav ?_
    refine xdq ?_
    refine yjx (i:=1) rfl (lp':=lp_) (by rw [hlp_];rfl) ?_
    refine xjv (L':=([(b2,.cells #[.int .i64 (x_.1),.int .i64 (x_.2)] 112 (0,0)),(l_,.loop lp_),(r_,.deferred (some [])),(b1,.cells #[v6] 79 (0,0))]:Pcs)++(X7++(X₀++(Z_++[])))) rfl ?_
    exact fun h_ H_=>K₁ _ _ ⟨([(l_,.loop lp_),(r_,.deferred (some [])),(b1,.cells #[v6] 79 (0,0))]:Pcs)++(X7++(X₀++[])),rfl,⟨v6,X7,rfl,(o8.as (yaq rd_ x_))⟩,St.rot' (by simpa using (H_.drop))⟩
  · intro r_ l_ lp_ v_ hlp_
    refine xhv fun X_=>xcq fun hIJ_=>?_
    obtain ⟨w,X1,rfl,o1⟩:=hIJ_
    · refine ycq (i:=0) rfl (by rw [hlp_];simp [loopOf]) (by rw [hlp_];rfl) ?_
      refine xjv (L':=([(l_,.loop { lp_ with state:=.exhausted }),(r_,.deferred (some [])),(b1,.cells #[w] 79 (0,0))]:Pcs)++(X1++(X₀++[]))) rfl ?_
      refine xdq ?_
      refine xaw ?_
      refine xak ?_
      refine xaj (xaq rfl) (fun h_ H_=>xbj H_ tA79 rfl (i:=2) rfl (v:=w) rfl) (tm':=[_,_,_,_,_,_,_,_,_,_,_,_,_]) rfl ?_
      refine xaj (xaq rfl) (fun h_ H_=>xax (v:=w) rfl) rfl ?_
      refine xav ?_
      refine yzz (i:=1) Tryz.func104 rfl rfl (vs:=[w]) (fun h_ H_=>⟨w,_,rfl,rfl,rfl⟩) (v:=w) rfl ?_
      refine xjv (L':=([(l_,.loop { lp_ with state:=.exhausted }),(r_,.deferred none),(b1,.cells #[w] 79 (0,0))]:Pcs)++(X1++(X₀++[]))) rfl ?_
      exact fun h_ H_=>K _ _ ⟨_,_,rfl,o1,by simpa using H_.dropA⟩
theorem c75 (md:Md) (h h₀:Heap) (B₀:List Nat) (p:PHeap) (bS:Nat) (s:By) (X₀:Pcs) (hs:s.length≤2 ^ 30) (s₀:St h₀ B₀ p h (([(bS,.cells #[sv s] 9 (0,0))]:Pcs)++(X₀++[]))):CallsX Tryz.prog md 75 #[.func (.func 91) #[] #[.pointer (some ⟨bS,0,none⟩)]] h fun v_ h'=>∃ w X1,v_=w∧OwnS 112 2 w (pies (encS [[]] s)) X1∧St h₀ B₀ p h' (X1++(X₀++[])):=by
  refine xbk (Φ:=fun h_=>St h₀ B₀ p h_ (([(bS,.cells #[sv s] 9 (0,0))]:Pcs)++(X₀++[]))) Tryz.func75 rfl (tm:=[_,_,_,_,_]) rfl ?_ s₀
  intro c₀ cs Stop K
  refine xaw ?_
  refine xak ?_
  refine xaj (xaq rfl) (fun h_ H_=>xax (v:=.slice none 0 0) rfl) rfl ?_
  refine xav ?_
  refine xaw ?_
  refine xak ?_
  refine xaj (xaq rfl) (fun h_ H_=>xaz (v:=.func (.func 91) #[] #[.pointer (some ⟨bS,0,none⟩)]) rfl) (tm':=[_,_,_,_,_]) rfl ?_
  refine xhx (xaq rfl) (first:=[]) (cap:=[]) rfl rfl wmv (fun h_ H_=>c104 md _ _ _ _ bS s X₀ hs H_) ?_
  refine fun v_=>xgj fun w1=>xgj fun X2=>xez fun ev_=>xez fun o3=>?_
  have ev_:=ev_.symm;subst ev_
  refine xdx (L':=([]:Pcs)++(X2++(X₀++[]))) (by simp) ?_
  refine xaj (xaq rfl) (fun h_ H_=>xax (v:=w1) rfl) rfl ?_
  refine xav ?_
  refine xck Tryz.func75 rfl (vs:=[w1]) (fun h_ H_=>⟨w1,_,rfl,rfl,rfl⟩) (v:=w1) rfl ?_
  exact fun h_ H_=>K _ _ ⟨_,_,rfl,o3,by simpa using H_⟩
theorem c63 (md:Md) (h:Heap) (s:By):CallsX Tryz.prog md 63 #[sv s] h fun v h'=>∃ b:Nat,v= .func (.func 91) #[] #[.pointer (some ⟨b,0,none⟩)]∧New h h' [(b,.cells #[sv s] 9 (0,0))]:=by
  refine xbk (Φ:=fun h_=>St h [] (fun _=>none) h_ []) Tryz.func63 rfl (tm:=[_,_,_,_]) rfl ?_ (St.start h _ (fun _ _ e=>by cases e))
  intro c₀ cs Stop K
  refine xaw ?_
  refine xak ?_
  refine xnv (xaq rfl) (v:=sv s) rfl fun b1=>xdx (L':=[(b1,.cells #[sv s] 9 (0,0))]) rfl ?_
  refine xew (tm':=_::_::_) rfl ?_
  refine xaj (xaq rfl) (fun h_ H_=>xax (v:=.nilFunc) rfl) rfl ?_
  refine xav ?_
  refine xaw ?_
  refine xak ?_
  refine xaj (xaq rfl) (fun h_ H_=>xpz (a:=[]) (b:=[.pointer (some ⟨b1,0,none⟩)]) rfl rfl) rfl ?_
  refine xaj (xaq rfl) (fun h_ H_=>xax (v:=.func (.func 91) #[] #[.pointer (some ⟨b1,0,none⟩)]) rfl) (tm':=[_,_,_,_]) rfl ?_
  refine xav ?_
  refine xck Tryz.func63 rfl (vs:=[.func (.func 91) #[] #[.pointer (some ⟨b1,0,none⟩)]]) (fun h_ H_=>⟨.func (.func 91) #[] #[.pointer (some ⟨b1,0,none⟩)],_,rfl,rfl,rfl⟩) (v:=.func (.func 91) #[] #[.pointer (some ⟨b1,0,none⟩)]) rfl ?_
  exact fun h_ H_=>K _ _ ⟨_,rfl,H_.new⟩
end Go.Proofs.YtphalmjpbnffcaaGreatDoor
namespace Go.Proofs.YtphalmjpbnffcaaGreatDoor
open Go.X Go.X.Cent Go.Conc
set_option maxRecDepth 10000
set_option synthInstance.maxSize 2000
set_option synthInstance.maxHeartbeats 400000

theorem c46 (h:Heap) (p:PHeap) (hp:Per p h) (a:Option Addr) (n c:Nat) (ts:List By) (T:Strs p a n ts) (hn:n≤2 ^ 60) (ht: ∀ i,i<n→(ts.getD i []).length≤2 ^ 60):CallsX Tryz.prog .lone 46 #[.slice a n c] h fun v h'=>∃ w X,v= .tuple #[w,.int .i64 (chkT ts)]∧(chkT ts=0→OwnS 112 2 w (pies (encS [[]] (wholeB ts))) X)∧(chkT ts≠0→w= .slice none 0 0∧X=[])∧New h h' X:=by
  refine xbk (Φ:=fun h_=>St h [] p h_ []) Tryz.func46 rfl (tm:=[_,_,_,_,_,_,_,_,_,_,_,_,_,_]) rfl ?_ (St.start h _ hp)
  intro c₀ cs Stop K
  refine xaw ?_
  refine xak ?_
  refine xaj (xaq rfl) (fun h_ H_=>xax (v:=.slice none 0 0) rfl) rfl ?_
  refine xaj (xaq rfl) (fun h_ H_=>xax (v:=.int .i64 0) rfl) rfl ?_
  refine xav ?_
  refine xaw ?_
  refine xaw ?_
  refine xak ?_
  refine xaj (xaq rfl) (fun h_ H_=>xaz (v:=.slice a n c) rfl) (tm':=_::_::_::_::_::_::_) rfl ?_
  refine xdj (xaq rfl) (first:=[]) (cap:=[]) rfl rfl fC37 (fun h_ H_=>c37 _ _ (fun b_ o_ e_=>H_.per b_ o_ e_) a n _ _ T (by omega) (fun i_ h_=>ht i_ h_)) rfl ?_
  refine xaj (xaq rfl) (fun h_ H_=>xax (v:=.int .i64 (chkT ts)) rfl) rfl ?_
  refine xav ?_
  refine xaw ?_
  refine xak ?_
  refine xaj (xaq rfl) (fun h_ H_=>xaz (v:=.int .i64 (chkT ts)) rfl) (tm':=_::_::_::_::_::_::_::_::_) rfl ?_
  refine xaj (xaq rfl) (fun h_ H_=>xix rfl rfl) rfl ?_
  refine xav ?_
  by_cases cc1:chkT ts≠0
  · refine xbv rfl (decide_eq_true cc1) ?_
    refine xaw ?_
    refine xak ?_
    refine xaj (xaq rfl) (fun h_ H_=>xaz (v:=.int .i64 (chkT ts)) rfl) rfl ?_
    refine xaj (xaq rfl) (fun h_ H_=>xax (v:=.slice none 0 0) rfl) (tm':=_::_::_::_) rfl ?_
    refine xaj (xaq rfl) (fun h_ H_=>xax (v:=.int .i64 (chkT ts)) rfl) rfl ?_
    refine xav ?_
    refine xck Tryz.func46 rfl (vs:=[.slice none 0 0,.int .i64 (chkT ts)]) (fun h_ H_=>⟨.slice none 0 0,_,rfl,rfl,⟨.int .i64 (chkT ts),_,rfl,rfl,rfl⟩⟩) (v:=.tuple #[.slice none 0 0,.int .i64 (chkT ts)]) rfl ?_
    exact fun h_ H_=>K _ _ ⟨.slice none 0 0,[],rfl,fun e_=>absurd e_ ‹_›,fun _=>⟨rfl,rfl⟩,(H_.sub (List.nil_sublist _)).new⟩
  · refine xcx rfl (decide_eq_false cc1) ?_
    refine xcj ?_
    refine xaw ?_
    have hk0:chkT ts=0:=Decidable.not_not.1 ‹_›
    have hl:=T.len
    have hg:=xpv hk0
    have hw200: ∀ t∈ts,t.length≤200:=fun t z=>by have:=(hg.2 t z).1;omega
    have hws:(wholeB ts).length≤2 ^ 30:=by have:=xzx hg.1 (fun t z=>(hg.2 t z).1);omega
    refine xak ?_
    refine xaj (xaq rfl) (fun h_ H_=>xaz (v:=.slice a n c) rfl) rfl ?_
    refine xdj (xaq rfl) (first:=[]) (cap:=[]) rfl rfl fC64 (fun h_ H_=>c64 _ _ (fun b_ o_ e_=>H_.per b_ o_ e_) a n _ _ T (by omega) hw200) (tm':=[_,_,_,_,_,_,_,_,_,_,_,_,_,_]) rfl ?_
    refine xhx (xaq rfl) (first:=[]) (cap:=[]) rfl rfl fC63 (R:=fun v_ h_=>∃ bs2:Nat,v_= .func (.func 91) #[] #[.pointer (some ⟨bs2,0,none⟩)]∧St h [] p h_ ([(bs2,.cells #[sv (wholeB ts)] 9 (0,0))])) (fun h_ H_=>(c63 .lone _ (wholeB ts)).mono fun v_ h2_ ⟨bs2,e_,N_⟩=>⟨bs2,e_,H_.callN N_⟩) fun v_=>?_
    refine xgj fun bs2=>xez fun ev_=>?_
    have ev_:=ev_.symm;subst ev_
    refine xdx (L':=([(bs2,.cells #[sv (wholeB ts)] 9 (0,0))]:Pcs)++([]++[])) rfl ?_
    refine xhx (xaq rfl) (first:=[]) (cap:=[]) rfl rfl fC75 (fun h_ H_=>c75 .lone _ _ _ _ bs2 (wholeB ts) ([]) hws H_) ?_
    refine fun v_=>xgj fun w3=>xgj fun X4=>xez fun ev_=>xez fun o5=>?_
    have ev_:=ev_.symm;subst ev_
    refine xdx (L':=([]:Pcs)++(X4++[])) rfl ?_
    refine xaj (xaq rfl) (fun h_ H_=>xax (v:=w3) rfl) (tm':=_::_::_::_) rfl ?_
    refine xaj (xaq rfl) (fun h_ H_=>xax (v:=.int .i64 0) rfl) rfl ?_
    refine xav ?_
    refine xck Tryz.func46 rfl (vs:=[w3,.int .i64 0]) (fun h_ H_=>⟨w3,_,rfl,rfl,⟨.int .i64 0,_,rfl,rfl,rfl⟩⟩) (v:=.tuple #[w3,.int .i64 0]) rfl ?_
    exact fun h_ H_=>K _ _ ⟨_,_,by rw [hk0],fun _=>o5,fun e_=>absurd hk0 e_,(by simpa using H_.dropA.new)⟩
theorem c38 (h:Heap) (p:PHeap) (hp:Per p h) (htab:Tab h) (a:Option Addr) (n c:Nat) (ts:List By) (T:Strs p a n ts) (hn:n≤20) (ht: ∀ t∈ts,t.length≤40):CallsX Tryz.prog .lone 38 #[.slice a n c] h fun v h'=>v=sv (fileB ts)∧Keep h h':=by
  refine xbk (Φ:=fun h_=>St h [] p h_ []) Tryz.func38 rfl (tm:=[_,_,_,_,_,_,_,_,_,_,_,_,_,_,_,_,_,_,_,_,_,_,_,_,_,_,_,_,_,_,_,_,_,_]) rfl ?_ (St.start h _ hp)
  intro c₀ cs Stop K
  have hl:=T.len
  have hws:=xzx (ts:=ts) (by omega) ht
  have hw200: ∀ t∈ts,t.length≤200:=fun t z=>by have:=ht t z;omega
  refine xaw ?_
  refine xak ?_
  refine xaj (xaq rfl) (fun h_ H_=>xax (v:=sv ([]:List UInt8)) rfl) rfl ?_
  refine xav ?_
  refine xaw ?_
  refine xak ?_
  refine xmj (xaq rfl) wij rfl fun b1=>xdx (L':=[(b1,.cells #[.pointer none,.slice none 0 0] 108 (0,0))]) rfl ?_
  refine xew (tm':=_::_::_::_::_) rfl ?_
  refine xav ?_
  refine xaw ?_
  refine xaw ?_
  refine xak ?_
  refine xaj (xaq rfl) (fun h_ H_=>xaz (v:=.slice a n c) rfl) rfl ?_
  refine xdj (xaq rfl) (first:=[]) (cap:=[]) rfl rfl fC64 (fun h_ H_=>c64 _ _ (fun b_ o_ e_=>H_.per b_ o_ e_) a n _ _ T (by omega) hw200) rfl ?_
  refine xhx (xaq rfl) (first:=[]) (cap:=[]) rfl rfl fC63 (R:=fun v_ h_=>∃ bs2:Nat,v_= .func (.func 91) #[] #[.pointer (some ⟨bs2,0,none⟩)]∧St h [] p h_ ([(bs2,.cells #[sv (wholeB ts)] 9 (0,0)),(b1,.cells #[.pointer none,.slice none 0 0] 108 (0,0))])) (fun h_ H_=>(c63 .lone _ (wholeB ts)).mono fun v_ h2_ ⟨bs2,e_,N_⟩=>⟨bs2,e_,H_.callN N_⟩) fun v_=>?_
  refine xgj fun bs2=>xez fun ev_=>?_
  have ev_:=ev_.symm;subst ev_
  refine xew (tm':=_::_::_::_::_::_::_::_::_) rfl ?_
  refine xav ?_
  refine xcw ?_
  refine ypx (R:=fun r_ l_ lp_ _ h_=>∃ X_,(∃ X:Pcs,X_=([(l_,.loop lp_),(r_,.deferred (some []))]:Pcs)++(X++[])∧(Bld b1 (filP (encS [[]] (wholeB ts))) X))∧St h [] p h_ X_) ?_ ?_
  · intro r_ l_ lp_ h_ hlp_ s_
    show CallV _ .lone (.func (.func 91) ([]:List Value).toArray ([.pointer (some ⟨bs2,0,none⟩)]:List Value).toArray) _ h_ _
    refine xtw fC91 ?_
    refine c91 _ _ _ _ _ (.func (.yield l_) #[] #[]) bs2 (wholeB ts) (encS [[]] (wholeB ts)) _ (by omega) (fun rd_ X_=>∃ X:Pcs,X_=([(l_,.loop lp_),(r_,.deferred (some []))]:Pcs)++(X++[])∧(Bld b1 (filP rd_) X)) rfl ⟨_,rfl,(Bld.new _)⟩ ?_ (St.lend s_ (i:=2) rfl rfl)
    intro rd_ x_ h_ Z_ X_ hi_ hI_ s_
    obtain ⟨X,rfl,B⟩:=hI_
    refine xyw (Φ:=fun h_=>St h [] p h_ (([(l_,.loop lp_),(r_,.deferred (some []))]:Pcs)++(X++(Z_++[])))) (s_.rot.at (i:=0) rfl) hlp_ rfl (tm':=[.slice a n c,undef,sv ([]:List UInt8),.pointer (some ⟨b1,0,none⟩),undef,.slice a n c,sv (wholeB ts),.func (.func 91) #[] #[.pointer (some ⟨bs2,0,none⟩)],.agg #[.int .i64 (x_.1),.int .i64 (x_.2)],undef,undef,undef,undef,undef,undef,undef,undef,undef,undef,undef,undef,undef,undef,undef,undef,undef,undef,undef,undef,undef,undef,undef,undef,undef]) rfl ?_ (by simpa using s_.rot)
    intro c₁ cs₁ Stop₁ K₁
    have hi2:=znk hi_
    have hi3:=yfw (ph:=[[]]) (s:=wholeB ts)
    have hi4:=zez (wfj hi_)
    have hi5:=yfk rd_
    refine xak ?_
    refine xmj (xaq rfl) xuv rfl fun b3=>xdx (L':=([(b3,.cells #[.int .i64 0,.int .i64 0] 112 (0,0)),(l_,.loop lp_),(r_,.deferred (some []))]:Pcs)++(X++(Z_++[]))) rfl ?_
    refine xjq (xaq rfl) xqk rfl (v:=.agg #[.int .i64 (x_.1),.int .i64 (x_.2)]) rfl (i:=0) rfl rfl rfl (Nat.le_of_ble_eq_true rfl) (cs2:=[.int .i64 (x_.1),.int .i64 (x_.2)]) rfl (xdx (L':=([(b3,.cells #[.int .i64 (x_.1),.int .i64 (x_.2)] 112 (0,0)),(l_,.loop lp_),(r_,.deferred (some []))]:Pcs)++(X++(Z_++[]))) rfl ?_)
    refine xav ?_
    refine ypz (i:=1) rfl (by rw [hlp_];rfl) ?_
    refine xjv (L':=([(b3,.cells #[.int .i64 (x_.1),.int .i64 (x_.2)] 112 (0,0)),(l_,.loop { lp_ with state:=.busy }),(r_,.deferred (some []))]:Pcs)++(X++(Z_++[]))) rfl ?_
    refine xcw ?_
    refine xaw ?_
    refine xak ?_
    refine xaj (xaq rfl) (fun h_ H_=>xbz ynx rfl (a':=⟨b3,0,none⟩) rfl) rfl ?_
    refine xaj (xaq rfl) (fun h_ H_=>xbj H_ tA3 rfl (i:=0) rfl (v:=.int .i64 (x_.1)) rfl) (tm':=_::_::_::_::_::_::_::_::_::_::_::_) rfl ?_
    refine xaj (xaq rfl) (fun h_ H_=>yzw rfl rfl (by decide) (n:=x_.1 / 26) ((congrArg _ (Int.tdiv_eq_ediv_of_nonneg (by omega))).trans (wr (by omega)))) rfl ?_
    refine xaj (xaq rfl) (fun h_ H_=>xmq ⟨_,Tryz.underlying3⟩ Tryz.underlying5 rfl (n:=x_.1 / 26) (wr8 (by omega))) rfl ?_
    refine xaj (xaq rfl) (fun h_ H_=>xfj rfl rfl (wr8 (by omega))) (tm':=_::_::_::_::_::_::_::_::_::_::_::_::_::_::_) rfl ?_
    refine xhx (xaq rfl) (first:=[]) (cap:=[]) rfl rfl fC65 (fun h_ H_=>ykj B H_ (by first | omega | (simp only [List.length_append,List.length_singleton];omega)) (65+(x_.1 / 26)) (by omega) (by omega)) ?_
    refine fun v_=>xez fun ev_=>xgj fun X4=>xez fun B5=>?_
    subst ev_
    refine xav ?_
    refine xaw ?_
    refine xak ?_
    refine xaj (xaq rfl) (fun h_ H_=>xbz ynx rfl (a':=⟨b3,0,none⟩) rfl) rfl ?_
    refine xaj (xaq rfl) (fun h_ H_=>xbj H_ tA3 rfl (i:=0) rfl (v:=.int .i64 (x_.1)) rfl) (tm':=_::_::_::_::_::_::_::_::_::_::_::_::_::_::_::_::_::_) rfl ?_
    refine xaj (xaq rfl) (fun h_ H_=>yzv rfl rfl (by decide) (n:=x_.1 % 26) (Int.tmod_eq_emod_of_nonneg (by omega))) rfl ?_
    refine xaj (xaq rfl) (fun h_ H_=>xmq ⟨_,Tryz.underlying3⟩ Tryz.underlying5 rfl (n:=x_.1 % 26) (wr8 (by omega))) rfl ?_
    refine xaj (xaq rfl) (fun h_ H_=>xfj rfl rfl (wr8 (by omega))) (tm':=_::_::_::_::_::_::_::_::_::_::_::_::_::_::_::_::_::_::_::_::_) rfl ?_
    refine xhx (xaq rfl) (first:=[]) (cap:=[]) rfl rfl fC65 (fun h_ H_=>ykj B5 H_ (by first | omega | (simp only [List.length_append,List.length_singleton];omega)) (65+(x_.1 % 26)) (by omega) (by omega)) ?_
    refine fun v_=>xez fun ev_=>xgj fun X6=>xez fun B7=>?_
    subst ev_
    refine xav ?_
    refine xaw ?_
    refine xak ?_
    refine xaj (xaq rfl) (fun h_ H_=>xbz xyq rfl (a':=⟨b3,1,none⟩) rfl) rfl ?_
    refine xaj (xaq rfl) (fun h_ H_=>xbj H_ tA3 rfl (i:=0) rfl (v:=.int .i64 (x_.2)) rfl) (tm':=[_,_,_,_,_,_,_,_,_,_,_,_,_,_,_,_,_,_,_,_,_,_,_,_,_,_,_,_,_,_,_,_,_,_]) rfl ?_
    refine xav ?_
    refine xcw ?_
    refine xaw ?_
    refine xak ?_
    refine xaj (xaq rfl) (fun h_ H_=>xtz rfl rfl) rfl ?_
    refine xaj (xaq rfl) (fun h_ H_=>xax (v:=.bool (decide (x_.2=(-1)))) rfl) rfl ?_
    refine xav ?_
    by_cases cc8:x_.2=(-1)
    · refine xbv rfl (decide_eq_true cc8) ?_
      refine xcj ?_
      refine xdq ?_
      refine xdq ?_
      refine yjx (i:=1) rfl (lp':=lp_) (by rw [hlp_];rfl) ?_
      refine xjv (L':=([(b3,.cells #[.int .i64 (x_.1),.int .i64 (x_.2)] 112 (0,0)),(l_,.loop lp_),(r_,.deferred (some []))]:Pcs)++(X6++(Z_++[]))) rfl ?_
      exact fun h_ H_=>K₁ _ _ ⟨([(l_,.loop lp_),(r_,.deferred (some []))]:Pcs)++(X6++[]),rfl,⟨X6,rfl,(B7.as (by first | exact ypk ‹_› | exact ypv ‹_› | exact ypw ‹_› ‹_›))⟩,St.rot' (by simpa using (H_.drop))⟩
    · refine xcx rfl (decide_eq_false cc8) ?_
      refine xaw ?_
      refine xak ?_
      refine xaj (xaq rfl) (fun h_ H_=>xtz rfl rfl) (tm':=[_,_,_,_,_,_,_,_,_,_,_,_,_,_,_,_,_,_,_,_,_,_,_,_,_,_,_,_,_,_,_,_,_,_]) rfl ?_
      refine xaj (xaq rfl) (fun h_ H_=>xax (v:=.bool (decide (x_.2=10))) rfl) rfl ?_
      refine xav ?_
      by_cases cc9:x_.2=10
      · refine xbv rfl (decide_eq_true cc9) ?_
        refine xak ?_
        refine xhx (xaq rfl) (first:=[]) (cap:=[]) rfl rfl fC65 (fun h_ H_=>yrx B7 H_ (by first | omega | (simp only [List.length_append,List.length_singleton];omega)) 126) ?_
        refine fun v_=>xez fun ev_=>xgj fun X10=>xez fun B11=>?_
        subst ev_
        refine xav ?_
        refine xdq ?_
        refine xdq ?_
        refine yjx (i:=1) rfl (lp':=lp_) (by rw [hlp_];rfl) ?_
        refine xjv (L':=([(b3,.cells #[.int .i64 (x_.1),.int .i64 (x_.2)] 112 (0,0)),(l_,.loop lp_),(r_,.deferred (some []))]:Pcs)++(X10++(Z_++[]))) rfl ?_
        exact fun h_ H_=>K₁ _ _ ⟨([(l_,.loop lp_),(r_,.deferred (some []))]:Pcs)++(X10++[]),rfl,⟨X10,rfl,(B11.as (by first | exact ypk ‹_› | exact ypv ‹_› | exact ypw ‹_› ‹_›))⟩,St.rot' (by simpa using (H_.drop))⟩
      · refine xcx rfl (decide_eq_false cc9) ?_
        refine xak ?_
        refine xaj (xaq rfl) (fun h_ H_=>xbz xyq rfl (a':=⟨b3,1,none⟩) rfl) (tm':=[_,_,_,_,_,_,_,_,_,_,_,_,_,_,_,_,_,_,_,_,_,_,_,_,_,_,_,_,_,_,_,_,_,_]) rfl ?_
        refine xaj (xaq rfl) (fun h_ H_=>xbj H_ tA3 rfl (i:=0) rfl (v:=.int .i64 (x_.2)) rfl) rfl ?_
        refine xaj (xaq rfl) (fun h_ H_=>xmq ⟨_,Tryz.underlying3⟩ Tryz.underlying5 rfl (n:=x_.2) (wr8 (by omega))) rfl ?_
        refine xhx (xaq rfl) (first:=[]) (cap:=[]) rfl rfl fC65 (fun h_ H_=>ykj B7 H_ (by first | omega | (simp only [List.length_append,List.length_singleton];omega)) (x_.2) (by omega) (by omega)) ?_
        refine fun v_=>xez fun ev_=>xgj fun X12=>xez fun B13=>?_
        subst ev_
        refine xew (tm':=[_,_,_,_,_,_,_,_,_,_,_,_,_,_,_,_,_,_,_,_,_,_,_,_,_,_,_,_,_,_,_,_,_,_]) rfl ?_
        refine xav ?_
        refine xdq ?_
        refine xdq ?_
        refine yjx (i:=1) rfl (lp':=lp_) (by rw [hlp_];rfl) ?_
        refine xjv (L':=([(b3,.cells #[.int .i64 (x_.1),.int .i64 (x_.2)] 112 (0,0)),(l_,.loop lp_),(r_,.deferred (some []))]:Pcs)++(X12++(Z_++[]))) rfl ?_
        exact fun h_ H_=>K₁ _ _ ⟨([(l_,.loop lp_),(r_,.deferred (some []))]:Pcs)++(X12++[]),rfl,⟨X12,rfl,(B13.as (by first | exact ypk ‹_› | exact ypv ‹_› | exact ypw ‹_› ‹_›))⟩,St.rot' (by simpa using (H_.drop))⟩
  · intro r_ l_ lp_ v_ hlp_
    refine xhv fun X_=>xcq fun hIJ_=>?_
    obtain ⟨X,rfl,B⟩:=hIJ_
    · refine ycq (i:=0) rfl (by rw [hlp_];simp [loopOf]) (by rw [hlp_];rfl) ?_
      refine xjv (L':=([(l_,.loop { lp_ with state:=.exhausted }),(r_,.deferred (some []))]:Pcs)++(X++[])) rfl ?_
      have hi3:=yfw (ph:=[[]]) (s:=wholeB ts)
      have hi5:=yfk (encS [[]] (wholeB ts))
      refine xdq ?_
      refine xaw ?_
      refine xak ?_
      refine xhx (xaq rfl) (first:=[]) (cap:=[]) rfl rfl fC66 (fun h_ H_=>c66k B hp (fun x hx c z e=>by simp at hx;rcases hx with rfl | rfl <;> cases e) (H_.perm (List.perm_append_comm_assoc _ _ _))) ?_
      refine fun v_=>xez fun ev_=>?_
      subst ev_
      refine xdx (L':=[(l_,.loop { lp_ with state:=.exhausted }),(r_,.deferred (some []))]) rfl ?_
      refine xdj (xaq rfl) (first:=[]) (cap:=[]) rfl rfl fC40 (fun h_ H_=>c40 _ (htab.keep H_.kept) (filP (encS [[]] (wholeB ts))) (by omega)) rfl ?_
      refine xaj (xaq rfl) (fun h_ H_=>xax (v:=sv (sealB (filP (encS [[]] (wholeB ts))))) rfl) (tm':=_::_::_::_) rfl ?_
      refine xav ?_
      refine yzz (i:=1) Tryz.func38 rfl rfl (vs:=[sv (sealB (filP (encS [[]] (wholeB ts))))]) (fun h_ H_=>⟨sv (sealB (filP (encS [[]] (wholeB ts)))),_,rfl,rfl,rfl⟩) (v:=sv (sealB (filP (encS [[]] (wholeB ts))))) rfl ?_
      refine xjv (L':=[(l_,.loop { lp_ with state:=.exhausted }),(r_,.deferred none)]) rfl ?_
      exact fun h_ H_=>K _ _ ⟨rfl,H_.kept⟩
end Go.Proofs.YtphalmjpbnffcaaGreatDoor
namespace Go.Proofs.YtphalmjpbnffcaaGreatDoor
open Go.X Go.X.Cent Go.Conc
set_option maxRecDepth 10000
set_option synthInstance.maxSize 2000
set_option synthInstance.maxHeartbeats 400000

theorem c41 (md:Md) (h:Heap) (p:PHeap) (hp:Per p h) (a:Option Addr) (n c:Nat) (xs:List Pie) (D:Pies p a n xs) (hn:n≤1000) (hx: ∀ x∈xs,0≤x.1∧ -1≤x.2∧x.2≤255):CallsX Tryz.prog md 41 #[.slice a n c] h fun v h'=>∃ w X,v= .tuple #[sv ((rdTo [] xs).getD []).flatten,w,.bool (rdTo [] xs).isSome]∧OwnS 9 1 w (scs ((rdTo [] xs).getD [])) X∧New h h' X:=by
  refine xbk (Φ:=fun h_=>St h [] p h_ []) Tryz.func41 rfl (tm:=[_,_,_,_,_,_,_,_,_,_,_,_,_,_,_,_,_,_,_,_,_,_,_,_,_,_,_,_,_,_,_,_,_,_,_,_,_,_,_,_,_,_,_,_,_,_,_,_,_,_,_,_]) rfl ?_ (St.start h _ hp)
  intro c₀ cs Stop K
  have hl:=D.len
  refine xaw ?_
  refine xak ?_
  refine xaj (xaq rfl) (fun h_ H_=>xax (v:=sv ([]:List UInt8)) rfl) rfl ?_
  refine xaj (xaq rfl) (fun h_ H_=>xax (v:=.slice none 0 0) rfl) rfl ?_
  refine xaj (xaq rfl) (fun h_ H_=>xax (v:=.bool (false)) rfl) (tm':=_::_::_::_::_::_) rfl ?_
  refine xav ?_
  refine xaw ?_
  refine xak ?_
  refine xdx (L':=([]:Pcs)++[]) rfl ?_
  refine xfq ([]:Pcs) (xaq rfl) Tryz.underlying33 tS9 tZ9 (Nat.le_of_ble_eq_true rfl) (vs:=[(0,sv ([]:List UInt8))]) rfl rfl (es:=[[sv ([]:List UInt8)]]) rfl rfl rfl fun v1 X2 o3=>?_
  refine xaj (xaq rfl) (fun h_ H_=>xax (v:=v1) rfl) rfl ?_
  refine xav ?_
  refine xaw ?_
  refine xaw ?_
  refine xak ?_
  refine xaj (xaq rfl) (fun h_ H_=>xaz (v:=.slice a n c) rfl) (tm':=_::_::_::_::_::_::_::_::_::_::_::_) rfl ?_
  refine xaj (xaq rfl) (fun h_ H_=>xfv Tryz.underlying79 rfl) rfl ?_
  refine xaj (xaq rfl) (fun h_ H_=>xaz (v:=.int .i64 0) rfl) rfl ?_
  refine xav ?_
  refine xcw ?_
  refine xhw (m₀:=n-0) (fun m_ tm_ h_=>∃ (k:Nat) (e:List By) (w1:Value) (X1:Pcs) (w2:Value) (X2:Pcs) (al:By),m_=n-k∧(∃ y4:Nat→Value,tm_=[.slice a n c,undef,sv al,w2,(y4 4),w1,undef,(y4 7),(y4 8),v1,.slice a n c,.int .i64 (((n:Nat):Int)),.int .i64 (((k:Nat):Int)),(y4 13),(y4 14),(y4 15),(y4 16),(y4 17),(y4 18),(y4 19),(y4 20),(y4 21),(y4 22),(y4 23),(y4 24),(y4 25),(y4 26),(y4 27),(y4 28),(y4 29),(y4 30),(y4 31),(y4 32),(y4 33),(y4 34),(y4 35),(y4 36),(y4 37),(y4 38),(y4 39),(y4 40),(y4 41),(y4 42),(y4 43),(y4 44),(y4 45),(y4 46),(y4 47),(y4 48),(y4 49),undef,undef])∧(k≤n)∧(e.length=k∧(∀ t∈e,t.length≤k)∧al.length≤k*1001∧al=e.flatten)∧(rdTo e (xs.drop k)=rdTo [] xs)∧(OwnS 9 1 w1 (scs ([]::e)) X1)∧(OwnS 9 1 w2 (scs e) X2)∧St h [] p h_ (([]:Pcs)++(X1++(X2++[])))) (fun h_ H_=>⟨0,[],v1,X2,(.slice none 0 0),[],[],rfl,(y_of rfl),Nat.zero_le _,⟨rfl,by simp,by simp,rfl⟩,rfl,o3,(OwnS.empty _ _),H_⟩) ?_
  intro m_ tm_ IH5
  refine xhv fun k=>xhv fun e=>xhv fun w1=>xhv fun X1=>xhv fun w2=>xhv fun X2=>xhv fun al=>xcq fun hm_=>xcq fun ht_=>xcq fun hk=>xcq fun hq=>xcq fun hR=>xcq fun o1=>xcq fun o2=>?_
  subst hm_;obtain ⟨y4,ht_⟩:=ht_;subst ht_
  obtain ⟨he,hm,hf,hal⟩:=hq
  refine xaw ?_
  refine xak ?_
  refine xaj (xaq rfl) (fun h_ H_=>xgz rfl rfl) (tm':=_::_::_::_::_::_::_::_::_::_::_::_::_::_::_) rfl ?_
  refine xav ?_
  refine xaw ?_
  by_cases cc6:((k:Nat):Int)<((n:Nat):Int)
  · refine xbv rfl (decide_eq_true cc6) ?_
    refine xcj ?_
    refine xaw ?_
    refine xcw ?_
    refine xaw ?_
    have hxk:=hx _ (gmem (d:=pz) (show k<xs.length by omega))
    have hpl:=waw (i:=(xs.getD k pz).1.toNat) hm
    refine xak ?_
    refine xaj (xaq rfl) (fun h_ H_=>xbw (i:=k) Tryz.underlying79 xqk (xmz a n c (D.ne (by omega))) rfl (by omega)) rfl ?_
    refine xaj (xaq rfl) (fun h_ H_=>xtx H_ yxx xqk rfl (vs:=[.int .i64 ((xs.getD k pz).1),.int .i64 ((xs.getD k pz).2)]) rfl (D.all (by omega))) rfl ?_
    refine xmj (xaq rfl) xuv rfl fun b7=>xdx (L':=([(b7,.cells #[.int .i64 0,.int .i64 0] 112 (0,0))]:Pcs)++(X1++(X2++[]))) rfl ?_
    refine xew (tm':=_::_::_::_::_::_::_::_::_) rfl ?_
    refine xjq (xaq rfl) xqk rfl (v:=.agg #[.int .i64 ((xs.getD k pz).1),.int .i64 ((xs.getD k pz).2)]) rfl (i:=0) rfl rfl rfl (Nat.le_of_ble_eq_true rfl) (cs2:=[.int .i64 ((xs.getD k pz).1),.int .i64 ((xs.getD k pz).2)]) rfl (xdx (L':=([(b7,.cells #[.int .i64 ((xs.getD k pz).1),.int .i64 ((xs.getD k pz).2)] 112 (0,0))]:Pcs)++(X1++(X2++[]))) rfl ?_)
    refine xav ?_
    refine xaw ?_
    refine xaw ?_
    refine xak ?_
    refine xaj (xaq rfl) (fun h_ H_=>xbz ynx rfl (a':=⟨b7,0,none⟩) rfl) rfl ?_
    refine xaj (xaq rfl) (fun h_ H_=>xbj H_ tA3 rfl (i:=0) rfl (v:=.int .i64 ((xs.getD k pz).1)) rfl) rfl ?_
    refine xaj (xaq rfl) (fun h_ H_=>xaz (v:=w1) rfl) (tm':=_::_::_::_::_::_::_::_::_::_::_::_::_::_::_::_::_::_::_::_) rfl ?_
    refine xaj (xaq rfl) (fun h_ H_=>xrq o1 (ydk he) Tryz.underlying33 rfl) rfl ?_
    refine xaj (xaq rfl) (fun h_ H_=>xvj rfl rfl) rfl ?_
    refine xav ?_
    by_cases cc8:((k+1:Nat):Int)≤(xs.getD k pz).1
    · refine xbv rfl (decide_eq_true cc8) ?_
      refine xaw ?_
      refine xak ?_
      refine xaj (xaq rfl) (fun h_ H_=>xax (v:=sv ([]:List UInt8)) rfl) (tm':=_::_::_::_) rfl ?_
      refine xaj (xaq rfl) (fun h_ H_=>xax (v:=.slice none 0 0) rfl) rfl ?_
      refine xaj (xaq rfl) (fun h_ H_=>xax (v:=.bool (false)) rfl) rfl ?_
      refine xav ?_
      refine xck Tryz.func41 rfl (vs:=[sv ([]:List UInt8),.slice none 0 0,.bool (false)]) (fun h_ H_=>⟨sv ([]:List UInt8),_,rfl,rfl,⟨.slice none 0 0,_,rfl,rfl,⟨.bool (false),_,rfl,rfl,rfl⟩⟩⟩) (v:=.tuple #[sv ([]:List UInt8),.slice none 0 0,.bool (false)]) rfl ?_
      have hN:rdTo [] xs=none:=hR.symm.trans (by first | exact znq he (by omega) ‹_› | exact yyz he (by omega) ‹_› (by omega) ‹_› | exact absurd ‹([]::e).getD (xs.getD k pz).1.toNat []++[UInt8.ofNat (xs.getD k pz).2.toNat]=[]› (by simp))
      exact fun h_ H_=>K _ _ ⟨.slice none 0 0,[],by rw [hN];rfl,by rw [hN];exact OwnS.empty _ _,(H_.sub (List.nil_sublist _)).new⟩
    · refine xcx rfl (decide_eq_false cc8) ?_
      refine xcj ?_
      refine xaw ?_
      refine xak ?_
      refine xaj (xaq rfl) (fun h_ H_=>xaz (v:=w1) rfl) (tm':=_::_::_::_::_::_::_::_::_::_::_::_::_::_::_::_::_::_::_::_::_::_::_) rfl ?_
      refine xaj (xaq rfl) (fun h_ H_=>xbz ynx rfl (a':=⟨b7,0,none⟩) rfl) rfl ?_
      refine xaj (xaq rfl) (fun h_ H_=>xbj H_ tA3 rfl (i:=0) rfl (v:=.int .i64 ((xs.getD k pz).1)) rfl) rfl ?_
      refine xaj (xaq rfl) (fun h_ H_=>yjv o1 Tryz.underlying33 tS9 rfl rfl (by omega) (by rw [(ydk he)];omega)) (tm':=_::_::_::_::_::_::_::_::_::_::_::_::_::_::_::_::_::_::_::_::_::_::_::_::_::_) rfl ?_
      refine xaj (xaq rfl) (fun h_ H_=>yvj (A:=([(b7,.cells #[.int .i64 ((xs.getD k pz).1),.int .i64 ((xs.getD k pz).2)] 112 (0,0))]:Pcs)) (i:=(((xs.getD k pz).1)).toNat) (j:=0) (e:=[sv (([]::e).getD ((((xs.getD k pz).1)).toNat) [])]) o1 H_ tA9 rfl rfl (waj (by simp only [List.length_cons];omega)) (u:=sv (([]::e).getD ((((xs.getD k pz).1)).toNat) [])) rfl) rfl ?_
      refine xaj (xaq rfl) (fun h_ H_=>xax (v:=sv (([]::e).getD ((((xs.getD k pz).1)).toNat) [])) rfl) rfl ?_
      refine xav ?_
      refine xaw ?_
      refine xaw ?_
      refine xak ?_
      refine xaj (xaq rfl) (fun h_ H_=>xbz xyq rfl (a':=⟨b7,1,none⟩) rfl) (tm':=_::_::_::_::_::_::_::_::_::_::_::_::_::_::_::_::_::_::_::_::_::_::_::_::_::_::_::_) rfl ?_
      refine xaj (xaq rfl) (fun h_ H_=>xbj H_ tA3 rfl (i:=0) rfl (v:=.int .i64 ((xs.getD k pz).2)) rfl) rfl ?_
      refine xaj (xaq rfl) (fun h_ H_=>xix rfl rfl) rfl ?_
      refine xav ?_
      by_cases cc9:(xs.getD k pz).2≠(-1)
      · refine xbv rfl (decide_eq_true cc9) ?_
        refine xak ?_
        refine xaj (xaq rfl) (fun h_ H_=>xaz (v:=sv (([]::e).getD ((((xs.getD k pz).1)).toNat) [])) rfl) (tm':=_::_::_::_::_::_::_::_::_::_::_::_::_::_::_::_::_::_::_::_::_::_::_::_::_::_::_::_::_::_::_) rfl ?_
        refine xaj (xaq rfl) (fun h_ H_=>xbz xyq rfl (a':=⟨b7,1,none⟩) rfl) rfl ?_
        refine xaj (xaq rfl) (fun h_ H_=>xbj H_ tA3 rfl (i:=0) rfl (v:=.int .i64 ((xs.getD k pz).2)) rfl) rfl ?_
        refine xaj (xaq rfl) (fun h_ H_=>xmq ⟨_,Tryz.underlying3⟩ Tryz.underlying5 rfl (n:=(xs.getD k pz).2) (wr8 (by first | omega | (simp only [List.length_singleton];omega)))) (tm':=_::_::_::_::_::_::_::_::_::_::_::_::_::_::_::_::_::_::_::_::_::_::_::_::_::_::_::_::_::_::_::_::_::_) rfl ?_
        refine xfq ([(b7,.cells #[.int .i64 ((xs.getD k pz).1),.int .i64 ((xs.getD k pz).2)] 112 (0,0))]:Pcs) (xaq rfl) Tryz.underlying47 tS5 tZ5 (Nat.le_of_ble_eq_true rfl) (vs:=[(0,.int .u8 ((xs.getD k pz).2))]) rfl rfl (es:=[[.int .u8 ((xs.getD k pz).2)]]) rfl rfl rfl fun v10 X11 o12=>?_
        refine xaj (xaq rfl) (fun h_ H_=>xvw (A:=([(b7,.cells #[.int .i64 ((xs.getD k pz).1),.int .i64 ((xs.getD k pz).2)] 112 (0,0))]:Pcs)) (o12.as (zfx (by omega) (by omega))) H_ Tryz.underlying47 Tryz.underlying9 Tryz.underlying5 rfl) rfl ?_
        refine xaj (xaq rfl) (fun h_ H_=>xtj (l:=([]::e).getD ((((xs.getD k pz).1)).toNat) []) (m:=[UInt8.ofNat (xs.getD k pz).2.toNat]) rfl rfl (by first | omega | (simp only [List.length_singleton];omega))) (tm':=[_,_,_,_,_,_,_,_,_,_,_,_,_,_,_,_,_,_,_,_,_,_,_,_,_,_,_,_,_,_,_,_,_,_,_,_,_,_,_,_,_,_,_,_,_,_,_,_,_,_,_,_]) rfl ?_
        refine xaj (xaq rfl) (fun h_ H_=>xax (v:=sv ((([]::e).getD ((((xs.getD k pz).1)).toNat) [])++([UInt8.ofNat (xs.getD k pz).2.toNat]))) rfl) rfl ?_
        refine xav ?_
        refine xaw ?_
        refine xaw ?_
        refine xak ?_
        refine xaj (xaq rfl) (fun h_ H_=>xaz (v:=sv ((([]::e).getD ((((xs.getD k pz).1)).toNat) [])++([UInt8.ofNat (xs.getD k pz).2.toNat]))) rfl) rfl ?_
        refine xaj (xaq rfl) (fun h_ H_=>zdj (l:=(([]::e).getD ((((xs.getD k pz).1)).toNat) [])++([UInt8.ofNat (xs.getD k pz).2.toNat])) (m:=([]:List UInt8)) rfl rfl) (tm':=[_,_,_,_,_,_,_,_,_,_,_,_,_,_,_,_,_,_,_,_,_,_,_,_,_,_,_,_,_,_,_,_,_,_,_,_,_,_,_,_,_,_,_,_,_,_,_,_,_,_,_,_]) rfl ?_
        refine xav ?_
        by_cases cc13:(([]::e).getD ((((xs.getD k pz).1)).toNat) [])++([UInt8.ofNat (xs.getD k pz).2.toNat])=([]:List UInt8)
        · refine xbv rfl (decide_eq_true cc13) ?_
          refine xaw ?_
          refine xak ?_
          refine xaj (xaq rfl) (fun h_ H_=>xax (v:=sv ([]:List UInt8)) rfl) rfl ?_
          refine xaj (xaq rfl) (fun h_ H_=>xax (v:=.slice none 0 0) rfl) rfl ?_
          refine xaj (xaq rfl) (fun h_ H_=>xax (v:=.bool (false)) rfl) (tm':=_::_::_::_::_::_) rfl ?_
          refine xav ?_
          refine xck Tryz.func41 rfl (vs:=[sv ([]:List UInt8),.slice none 0 0,.bool (false)]) (fun h_ H_=>⟨sv ([]:List UInt8),_,rfl,rfl,⟨.slice none 0 0,_,rfl,rfl,⟨.bool (false),_,rfl,rfl,rfl⟩⟩⟩) (v:=.tuple #[sv ([]:List UInt8),.slice none 0 0,.bool (false)]) rfl ?_
          have hN:rdTo [] xs=none:=hR.symm.trans (by first | exact znq he (by omega) ‹_› | exact yyz he (by omega) ‹_› (by omega) ‹_› | exact absurd ‹([]::e).getD (xs.getD k pz).1.toNat []++[UInt8.ofNat (xs.getD k pz).2.toNat]=[]› (by simp))
          exact fun h_ H_=>K _ _ ⟨.slice none 0 0,[],by rw [hN];rfl,by rw [hN];exact OwnS.empty _ _,(H_.sub (List.nil_sublist _)).new⟩
        · refine xcx rfl (decide_eq_false cc13) ?_
          refine xcj ?_
          refine xaw ?_
          refine xak ?_
          refine xaj (xaq rfl) (fun h_ H_=>xaz (v:=w1) rfl) rfl ?_
          refine xaj (xaq rfl) (fun h_ H_=>xaz (v:=sv ((([]::e).getD ((((xs.getD k pz).1)).toNat) [])++([UInt8.ofNat (xs.getD k pz).2.toNat]))) rfl) rfl ?_
          refine xfq ([(b7,.cells #[.int .i64 ((xs.getD k pz).1),.int .i64 ((xs.getD k pz).2)] 112 (0,0))]:Pcs) (xaq rfl) Tryz.underlying33 tS9 tZ9 (Nat.le_of_ble_eq_true rfl) (vs:=[(0,sv ((([]::e).getD ((((xs.getD k pz).1)).toNat) [])++([UInt8.ofNat (xs.getD k pz).2.toNat])))]) rfl rfl (es:=[[sv ((([]::e).getD ((((xs.getD k pz).1)).toNat) [])++([UInt8.ofNat (xs.getD k pz).2.toNat]))]]) rfl rfl rfl fun v14 X15 o16=>?_
          refine xew (tm':=[_,_,_,_,_,_,_,_,_,_,_,_,_,_,_,_,_,_,_,_,_,_,_,_,_,_,_,_,_,_,_,_,_,_,_,_,_,_,_,_,_,_,_,_,_,_,_,_,_,_,_,_]) rfl ?_
          refine xjw (List.Perm.append_left _ (List.Perm.append_left _ (List.perm_append_comm_assoc _ _ _))) ?_
          refine xjw (List.Perm.append_left _ (List.perm_append_comm_assoc _ _ _)) ?_
          refine xdx (L':=([(b7,.cells #[.int .i64 ((xs.getD k pz).1),.int .i64 ((xs.getD k pz).2)] 112 (0,0))]:Pcs)++(X1++(X15++(X11++(X2++[]))))) rfl ?_
          refine xkq ([(b7,.cells #[.int .i64 ((xs.getD k pz).1),.int .i64 ((xs.getD k pz).2)] 112 (0,0))]:Pcs) X1 X15 (xaq rfl) Tryz.underlying33 tS9 tZ9 rfl tB9 Tryz.underlying33 rfl rfl o1 o16 (xrj rfl) (by rw [xek];simp only [List.length_cons,List.length_nil];omega) (by decide) fun v17 X18 o19=>?_
          refine xaj (xaq rfl) (fun h_ H_=>xaz (v:=w2) rfl) rfl ?_
          refine xaj (xaq rfl) (fun h_ H_=>xaz (v:=sv ((([]::e).getD ((((xs.getD k pz).1)).toNat) [])++([UInt8.ofNat (xs.getD k pz).2.toNat]))) rfl) (tm':=[_,_,_,_,_,_,_,_,_,_,_,_,_,_,_,_,_,_,_,_,_,_,_,_,_,_,_,_,_,_,_,_,_,_,_,_,_,_,_,_,_,_,_,_,_,_,_,_,_,_,_,_]) rfl ?_
          refine xfq ([(b7,.cells #[.int .i64 ((xs.getD k pz).1),.int .i64 ((xs.getD k pz).2)] 112 (0,0))]:Pcs) (xaq rfl) Tryz.underlying33 tS9 tZ9 (Nat.le_of_ble_eq_true rfl) (vs:=[(0,sv ((([]::e).getD ((((xs.getD k pz).1)).toNat) [])++([UInt8.ofNat (xs.getD k pz).2.toNat])))]) rfl rfl (es:=[[sv ((([]::e).getD ((((xs.getD k pz).1)).toNat) [])++([UInt8.ofNat (xs.getD k pz).2.toNat]))]]) rfl rfl rfl fun v20 X21 o22=>?_
          refine xjw (List.Perm.append_left _ (List.Perm.append_left _ (List.Perm.append_left _ (List.perm_append_comm_assoc _ _ _)))) ?_
          refine xjw (List.Perm.append_left _ (List.Perm.append_left _ (List.perm_append_comm_assoc _ _ _))) ?_
          refine xjw (List.Perm.append_left _ (List.perm_append_comm_assoc _ _ _)) ?_
          refine xdx (L':=([(b7,.cells #[.int .i64 ((xs.getD k pz).1),.int .i64 ((xs.getD k pz).2)] 112 (0,0))]:Pcs)++(X2++(X21++(X18++(X11++[]))))) rfl ?_
          refine xkq ([(b7,.cells #[.int .i64 ((xs.getD k pz).1),.int .i64 ((xs.getD k pz).2)] 112 (0,0))]:Pcs) X2 X21 (xaq rfl) Tryz.underlying33 tS9 tZ9 rfl tB9 Tryz.underlying33 rfl rfl o2 o22 (xrj rfl) (by rw [xek];simp only [List.length_cons,List.length_nil];omega) (by decide) fun v23 X24 o25=>?_
          refine xaj (xaq rfl) (fun h_ H_=>xax (v:=v17) rfl) (tm':=_::_::_::_::_::_::_) rfl ?_
          refine xaj (xaq rfl) (fun h_ H_=>xax (v:=v23) rfl) rfl ?_
          refine xav ?_
          refine xak ?_
          refine xaj (xaq rfl) (fun h_ H_=>xaz (v:=sv al) rfl) rfl ?_
          refine xaj (xaq rfl) (fun h_ H_=>xaz (v:=sv ((([]::e).getD ((((xs.getD k pz).1)).toNat) [])++([UInt8.ofNat (xs.getD k pz).2.toNat]))) rfl) (tm':=[_,_,_,_,_,_,_,_,_,_,_,_,_,_,_,_,_,_,_,_,_,_,_,_,_,_,_,_,_,_,_,_,_,_,_,_,_,_,_,_,_,_,_,_,_,_,_,_,_,_,_,_]) rfl ?_
          refine xaj (xaq rfl) (fun h_ H_=>xtj (l:=al) (m:=(([]::e).getD ((((xs.getD k pz).1)).toNat) [])++([UInt8.ofNat (xs.getD k pz).2.toNat])) rfl rfl (by first | omega | (simp only [List.length_append,List.length_singleton];omega))) rfl ?_
          refine xaj (xaq rfl) (fun h_ H_=>xax (v:=sv (al++((([]::e).getD ((((xs.getD k pz).1)).toNat) [])++([UInt8.ofNat (xs.getD k pz).2.toNat])))) rfl) rfl ?_
          refine xav ?_
          refine xdq ?_
          refine xak ?_
          refine xaj (xaq rfl) (fun h_ H_=>xfj rfl rfl (n:=((k+1:Nat):Int)) (wr (by omega))) (tm':=[_,_,_,_,_,_,_,_,_,_,_,_,_,_,_,_,_,_,_,_,_,_,_,_,_,_,_,_,_,_,_,_,_,_,_,_,_,_,_,_,_,_,_,_,_,_,_,_,_,_,_,_]) rfl ?_
          refine xaj (xaq rfl) (fun h_ H_=>xaz (v:=.int .i64 (((k+1:Nat):Int))) rfl) rfl ?_
          refine xav ?_
          refine xhq (List.Perm.append_left _ (List.Perm.append_left _ (List.perm_append_comm_assoc _ _ _))) ?_
          refine xhq (List.Perm.append_left _ (List.perm_append_comm_assoc _ _ _)) ?_
          refine xhq (List.Perm.append_left _ (List.Perm.append_left _ (List.perm_append_comm_assoc _ _ _))) ?_
          refine xjv (L':=([(b7,.cells #[.int .i64 ((xs.getD k pz).1),.int .i64 ((xs.getD k pz).2)] 112 (0,0))]:Pcs)++(X11++(X18++(X24++[])))) rfl ?_
          exact fun h_ H_=>IH5 _ _ (by omega) h_ ⟨k+1,(e++[((([]::e).getD ((((xs.getD k pz).1)).toNat) [])++([UInt8.ofNat (xs.getD k pz).2.toNat]))]),v17,X18,v23,X24,al++((([]::e).getD ((((xs.getD k pz).1)).toNat) [])++([UInt8.ofNat (xs.getD k pz).2.toNat])),rfl,(y_of rfl),(by omega),⟨by rw [List.length_append,he];rfl,yrj hm (by simp only [List.length_append,List.length_singleton];omega),by rw [List.length_append];simp only [List.length_append,List.length_singleton];omega,by rw [yvx,hal]⟩,((zwz he (by omega) ‹_› (by omega)).symm.trans hR),(o19.as (ytx _ _)),(o25.as (zbx _ _)),H_.dropX.drop⟩
      · refine xcx rfl (decide_eq_false cc9) ?_
        refine xcj ?_
        refine xaw ?_
        refine xaw ?_
        refine xak ?_
        refine xaj (xaq rfl) (fun h_ H_=>xaz (v:=sv (([]::e).getD ((((xs.getD k pz).1)).toNat) [])) rfl) rfl ?_
        refine xaj (xaq rfl) (fun h_ H_=>zdj (l:=([]::e).getD ((((xs.getD k pz).1)).toNat) []) (m:=([]:List UInt8)) rfl rfl) (tm':=[_,_,_,_,_,_,_,_,_,_,_,_,_,_,_,_,_,_,_,_,_,_,_,_,_,_,_,_,_,_,_,_,_,_,_,_,_,_,_,_,_,_,_,_,_,_,_,_,_,_,_,_]) rfl ?_
        refine xav ?_
        by_cases cc26:([]::e).getD ((((xs.getD k pz).1)).toNat) []=([]:List UInt8)
        · refine xbv rfl (decide_eq_true cc26) ?_
          refine xaw ?_
          refine xak ?_
          refine xaj (xaq rfl) (fun h_ H_=>xax (v:=sv ([]:List UInt8)) rfl) rfl ?_
          refine xaj (xaq rfl) (fun h_ H_=>xax (v:=.slice none 0 0) rfl) rfl ?_
          refine xaj (xaq rfl) (fun h_ H_=>xax (v:=.bool (false)) rfl) (tm':=_::_::_::_::_::_) rfl ?_
          refine xav ?_
          refine xck Tryz.func41 rfl (vs:=[sv ([]:List UInt8),.slice none 0 0,.bool (false)]) (fun h_ H_=>⟨sv ([]:List UInt8),_,rfl,rfl,⟨.slice none 0 0,_,rfl,rfl,⟨.bool (false),_,rfl,rfl,rfl⟩⟩⟩) (v:=.tuple #[sv ([]:List UInt8),.slice none 0 0,.bool (false)]) rfl ?_
          have hN:rdTo [] xs=none:=hR.symm.trans (by first | exact znq he (by omega) ‹_› | exact yyz he (by omega) ‹_› (by omega) ‹_› | exact absurd ‹([]::e).getD (xs.getD k pz).1.toNat []++[UInt8.ofNat (xs.getD k pz).2.toNat]=[]› (by simp))
          exact fun h_ H_=>K _ _ ⟨.slice none 0 0,[],by rw [hN];rfl,by rw [hN];exact OwnS.empty _ _,(H_.sub (List.nil_sublist _)).new⟩
        · refine xcx rfl (decide_eq_false cc26) ?_
          refine xcj ?_
          refine xaw ?_
          refine xak ?_
          refine xaj (xaq rfl) (fun h_ H_=>xaz (v:=w1) rfl) rfl ?_
          refine xaj (xaq rfl) (fun h_ H_=>xaz (v:=sv (([]::e).getD ((((xs.getD k pz).1)).toNat) [])) rfl) rfl ?_
          refine xfq ([(b7,.cells #[.int .i64 ((xs.getD k pz).1),.int .i64 ((xs.getD k pz).2)] 112 (0,0))]:Pcs) (xaq rfl) Tryz.underlying33 tS9 tZ9 (Nat.le_of_ble_eq_true rfl) (vs:=[(0,sv (([]::e).getD ((((xs.getD k pz).1)).toNat) []))]) rfl rfl (es:=[[sv (([]::e).getD ((((xs.getD k pz).1)).toNat) [])]]) rfl rfl rfl fun v27 X28 o29=>?_
          refine xew (tm':=[_,_,_,_,_,_,_,_,_,_,_,_,_,_,_,_,_,_,_,_,_,_,_,_,_,_,_,_,_,_,_,_,_,_,_,_,_,_,_,_,_,_,_,_,_,_,_,_,_,_,_,_]) rfl ?_
          refine xjw (List.Perm.append_left _ (List.perm_append_comm_assoc _ _ _)) ?_
          refine xdx (L':=([(b7,.cells #[.int .i64 ((xs.getD k pz).1),.int .i64 ((xs.getD k pz).2)] 112 (0,0))]:Pcs)++(X1++(X28++(X2++[])))) rfl ?_
          refine xkq ([(b7,.cells #[.int .i64 ((xs.getD k pz).1),.int .i64 ((xs.getD k pz).2)] 112 (0,0))]:Pcs) X1 X28 (xaq rfl) Tryz.underlying33 tS9 tZ9 rfl tB9 Tryz.underlying33 rfl rfl o1 o29 (xrj rfl) (by rw [xek];simp only [List.length_cons,List.length_nil];omega) (by decide) fun v30 X31 o32=>?_
          refine xaj (xaq rfl) (fun h_ H_=>xaz (v:=w2) rfl) rfl ?_
          refine xaj (xaq rfl) (fun h_ H_=>xaz (v:=sv (([]::e).getD ((((xs.getD k pz).1)).toNat) [])) rfl) (tm':=[_,_,_,_,_,_,_,_,_,_,_,_,_,_,_,_,_,_,_,_,_,_,_,_,_,_,_,_,_,_,_,_,_,_,_,_,_,_,_,_,_,_,_,_,_,_,_,_,_,_,_,_]) rfl ?_
          refine xfq ([(b7,.cells #[.int .i64 ((xs.getD k pz).1),.int .i64 ((xs.getD k pz).2)] 112 (0,0))]:Pcs) (xaq rfl) Tryz.underlying33 tS9 tZ9 (Nat.le_of_ble_eq_true rfl) (vs:=[(0,sv (([]::e).getD ((((xs.getD k pz).1)).toNat) []))]) rfl rfl (es:=[[sv (([]::e).getD ((((xs.getD k pz).1)).toNat) [])]]) rfl rfl rfl fun v33 X34 o35=>?_
          refine xjw (List.Perm.append_left _ (List.Perm.append_left _ (List.perm_append_comm_assoc _ _ _))) ?_
          refine xjw (List.Perm.append_left _ (List.perm_append_comm_assoc _ _ _)) ?_
          refine xdx (L':=([(b7,.cells #[.int .i64 ((xs.getD k pz).1),.int .i64 ((xs.getD k pz).2)] 112 (0,0))]:Pcs)++(X2++(X34++(X31++[])))) rfl ?_
          refine xkq ([(b7,.cells #[.int .i64 ((xs.getD k pz).1),.int .i64 ((xs.getD k pz).2)] 112 (0,0))]:Pcs) X2 X34 (xaq rfl) Tryz.underlying33 tS9 tZ9 rfl tB9 Tryz.underlying33 rfl rfl o2 o35 (xrj rfl) (by rw [xek];simp only [List.length_cons,List.length_nil];omega) (by decide) fun v36 X37 o38=>?_
          refine xaj (xaq rfl) (fun h_ H_=>xax (v:=v30) rfl) (tm':=_::_::_::_::_::_::_) rfl ?_
          refine xaj (xaq rfl) (fun h_ H_=>xax (v:=v36) rfl) rfl ?_
          refine xav ?_
          refine xak ?_
          refine xaj (xaq rfl) (fun h_ H_=>xaz (v:=sv al) rfl) rfl ?_
          refine xaj (xaq rfl) (fun h_ H_=>xaz (v:=sv (([]::e).getD ((((xs.getD k pz).1)).toNat) [])) rfl) (tm':=[_,_,_,_,_,_,_,_,_,_,_,_,_,_,_,_,_,_,_,_,_,_,_,_,_,_,_,_,_,_,_,_,_,_,_,_,_,_,_,_,_,_,_,_,_,_,_,_,_,_,_,_]) rfl ?_
          refine xaj (xaq rfl) (fun h_ H_=>xtj (l:=al) (m:=([]::e).getD ((((xs.getD k pz).1)).toNat) []) rfl rfl (by first | omega | (simp only [List.length_append,List.length_singleton];omega))) rfl ?_
          refine xaj (xaq rfl) (fun h_ H_=>xax (v:=sv (al++(([]::e).getD ((((xs.getD k pz).1)).toNat) []))) rfl) rfl ?_
          refine xav ?_
          refine xdq ?_
          refine xak ?_
          refine xaj (xaq rfl) (fun h_ H_=>xfj rfl rfl (n:=((k+1:Nat):Int)) (wr (by omega))) (tm':=[_,_,_,_,_,_,_,_,_,_,_,_,_,_,_,_,_,_,_,_,_,_,_,_,_,_,_,_,_,_,_,_,_,_,_,_,_,_,_,_,_,_,_,_,_,_,_,_,_,_,_,_]) rfl ?_
          refine xaj (xaq rfl) (fun h_ H_=>xaz (v:=.int .i64 (((k+1:Nat):Int))) rfl) rfl ?_
          refine xav ?_
          refine xhq (List.Perm.append_left _ (List.perm_append_comm_assoc _ _ _)) ?_
          refine xjv (L':=([(b7,.cells #[.int .i64 ((xs.getD k pz).1),.int .i64 ((xs.getD k pz).2)] 112 (0,0))]:Pcs)++(X31++(X37++[]))) rfl ?_
          exact fun h_ H_=>IH5 _ _ (by omega) h_ ⟨k+1,(e++[(([]::e).getD ((((xs.getD k pz).1)).toNat) [])]),v30,X31,v36,X37,al++(([]::e).getD ((((xs.getD k pz).1)).toNat) []),rfl,(y_of rfl),(by omega),⟨by rw [List.length_append,he];rfl,yrj hm (by omega),by rw [List.length_append];omega,by rw [yvx,hal]⟩,((zwj he (by omega) ‹_› (by omega) ‹_›).symm.trans hR),(o32.as (ytx _ _)),(o38.as (zbx _ _)),H_.drop⟩
  · refine xcx rfl (decide_eq_false cc6) ?_
    refine xhz rfl ?_
    refine xaw ?_
    refine xak ?_
    refine xaj (xaq rfl) (fun h_ H_=>xaz (v:=sv al) rfl) rfl ?_
    refine xaj (xaq rfl) (fun h_ H_=>xaz (v:=w2) rfl) (tm':=[_,_,_,_,_,_,_,_,_,_,_,_,_,_,_,_,_,_,_,_,_,_,_,_,_,_,_,_,_,_,_,_,_,_,_,_,_,_,_,_,_,_,_,_,_,_,_,_,_,_,_,_]) rfl ?_
    refine xaj (xaq rfl) (fun h_ H_=>xax (v:=sv al) rfl) rfl ?_
    refine xaj (xaq rfl) (fun h_ H_=>xax (v:=w2) rfl) rfl ?_
    refine xaj (xaq rfl) (fun h_ H_=>xax (v:=.bool (true)) rfl) (tm':=_::_::_::_::_::_) rfl ?_
    refine xav ?_
    refine xck Tryz.func41 rfl (vs:=[sv al,w2,.bool (true)]) (fun h_ H_=>⟨sv al,_,rfl,rfl,⟨w2,_,rfl,rfl,⟨.bool (true),_,rfl,rfl,rfl⟩⟩⟩) (v:=.tuple #[sv al,w2,.bool (true)]) rfl ?_
    have hS:=wjk (by omega) hR
    exact fun h_ H_=>K _ _ ⟨_,_,by rw [hS,hal];rfl,by rw [hS];exact o2,by simpa using H_.dropA.dropA.new⟩
end Go.Proofs.YtphalmjpbnffcaaGreatDoor
namespace Go.Proofs.YtphalmjpbnffcaaGreatDoor
open Go.X Go.X.Cent Go.Conc
theorem c41o (md:Md) {v:Value} {xs:List Pie} {X L:Pcs} {p:PHeap} {h₀ h:Heap} {B₀:List Nat} (o:OwnS 112 2 v (pies xs) X) (s:St h₀ B₀ p h L) (hX: ∀ x∈X,x∈L) (hn:xs.length≤1000) (hx: ∀ x∈xs,0≤x.1∧ -1≤x.2∧x.2≤255):
    CallsX Tryz.prog md 41 #[v] h fun v h'=>∃ w X,v= .tuple #[sv ((rdTo [] xs).getD []).flatten,w,.bool (rdTo [] xs).isSome]∧OwnS 9 1 w (scs ((rdTo [] xs).getD [])) X∧New h h' X:=
  yzx o (xoz _) s hX fun p' a cap hp' _ hv D=>by
    subst hv
    exact c41 md h p' hp' a _ cap xs D hn hx
end Go.Proofs.YtphalmjpbnffcaaGreatDoor
namespace Go.Proofs.YtphalmjpbnffcaaGreatDoor
open Go.X Go.X.Cent Go.Conc
set_option maxRecDepth 10000
set_option synthInstance.maxSize 2000
set_option synthInstance.maxHeartbeats 400000

set_option maxHeartbeats 4000000
theorem c39 (h:Heap) (s:By) (hs:s.length≤2 ^ 60):CallsX Tryz.prog .lone 39 #[sv s] h fun v h'=>∃ w X,v= .tuple #[w,.bool (formB s).isSome]∧OwnS 112 2 w (pies ((formB s).getD [])) X∧New h h' X:=by
  refine xbk (Φ:=fun h_=>St h [] (fun _=>none) h_ []) Tryz.func39 rfl (tm:=[_,_,_,_,_,_,_,_,_,_,_,_,_,_,_,_,_,_,_,_,_,_,_,_,_,_,_,_,_,_,_,_,_,_,_,_,_,_,_,_,_,_,_,_,_,_,_,_,_,_,_,_,_,_,_,_,_,_,_,_,_,_,_,_,_,_,_,_,_,_,_,_,_,_,_,_,_,_,_,_,_,_,_,_,_,_,_,_,_,_,_,_,_,_,_,_,_,_,_,_,_,_]) rfl ?_ (St.start h _ (fun _ _ e=>by cases e))
  intro c₀ cs Stop K
  have e5:(((s.length:Nat):Int)-5).toNat=s.length-5:=by omega
  have e4:5≤s.length→(((s.length:Nat):Int)-5+1).toNat=s.length-4:=by omega
  refine xaw ?_
  refine xak ?_
  refine xaj (xaq rfl) (fun h_ H_=>xax (v:=.slice none 0 0) rfl) rfl ?_
  refine xaj (xaq rfl) (fun h_ H_=>xax (v:=.bool (false)) rfl) rfl ?_
  refine xav ?_
  refine xaw ?_
  refine xak ?_
  refine xaj (xaq rfl) (fun h_ H_=>xaz (v:=sv s) rfl) (tm':=_::_::_::_::_::_::_::_::_::_::_::_::_) rfl ?_
  refine xaj (xaq rfl) (fun h_ H_=>xjx (l:=s) Tryz.underlying9 rfl) rfl ?_
  refine xaj (xaq rfl) (fun h_ H_=>xlq rfl rfl (wr (by omega))) rfl ?_
  refine xaj (xaq rfl) (fun h_ H_=>xax (v:=.int .i64 (((s.length:Nat):Int)-5)) rfl) (tm':=_::_::_::_::_::_) rfl ?_
  refine xav ?_
  refine xaw ?_
  refine xaw ?_
  refine xak ?_
  refine xaj (xaq rfl) (fun h_ H_=>xaz (v:=sv s) rfl) rfl ?_
  refine xaj (xaq rfl) (fun h_ H_=>xjx (l:=s) Tryz.underlying9 rfl) rfl ?_
  refine xaj (xaq rfl) (fun h_ H_=>xmw rfl rfl) (tm':=_::_::_::_::_::_::_::_::_::_::_::_::_::_::_::_::_::_) rfl ?_
  refine xaj (xaq rfl) (fun h_ H_=>xaz (v:=.bool (decide (1400<((s.length:Nat):Int)))) rfl) rfl ?_
  by_cases cc1:1400<((s.length:Nat):Int)
  · refine xdk (xfk rfl rfl (decide_eq_true cc1)) rfl ?_
    refine xdk (xfk rfl rfl (decide_eq_true cc1)) (tm':=_::_::_::_::_::_::_::_::_::_::_::_::_::_::_::_::_::_::_::_::_) rfl ?_
    refine xaj (xaq rfl) (fun h_ H_=>xdz rfl (decide_eq_true cc1) (v:=.bool (true)) rfl) rfl ?_
    refine xaj (xaq rfl) (fun h_ H_=>xaz (v:=.bool (true)) rfl) rfl ?_
    refine xdk (xfk rfl rfl rfl) (tm':=_::_::_::_::_::_::_::_::_::_::_::_::_::_::_::_::_::_::_::_::_::_::_::_) rfl ?_
    refine xdk (xfk rfl rfl rfl) rfl ?_
    refine xdk (xfk rfl rfl rfl) rfl ?_
    refine xdk (xfk rfl rfl rfl) (tm':=_::_::_::_::_::_::_::_::_::_::_::_::_::_::_::_::_::_::_::_::_::_::_::_::_::_::_) rfl ?_
    refine xaj (xaq rfl) (fun h_ H_=>xdz rfl rfl (v:=.bool (true)) rfl) rfl ?_
    refine xav ?_
    refine xbv rfl rfl ?_
    refine xaw ?_
    refine xak ?_
    refine xaj (xaq rfl) (fun h_ H_=>xax (v:=.slice none 0 0) rfl) rfl ?_
    refine xaj (xaq rfl) (fun h_ H_=>xax (v:=.bool (false)) rfl) (tm':=_::_::_::_::_) rfl ?_
    refine xav ?_
    refine xck Tryz.func39 rfl (vs:=[.slice none 0 0,.bool (false)]) (fun h_ H_=>⟨.slice none 0 0,_,rfl,rfl,⟨.bool (false),_,rfl,rfl,rfl⟩⟩) (v:=.tuple #[.slice none 0 0,.bool (false)]) rfl ?_
    have hN:formB s=none:=by rw [formB,if_pos];first | exact .inl (by omega) | exact .inr (.inl (by omega)) | exact .inr (.inr (by rw [← e5];omega))
    exact fun h_ H_=>K _ _ ⟨.slice none 0 0,[],by rw [hN];rfl,by rw [hN];exact OwnS.empty _ _,(H_.sub (List.nil_sublist _)).new⟩
  · refine xaj (xfw rfl rfl (decide_eq_false cc1)) (fun h_ H_=>xaz (v:=.int .i64 (((s.length:Nat):Int)-5)) rfl) rfl ?_
    refine xaj (xfw rfl rfl (decide_eq_false cc1)) (fun h_ H_=>xgz rfl rfl) rfl ?_
    refine xaj (xaq rfl) (fun h_ H_=>xdw rfl (decide_eq_false cc1) (v:=.bool (decide (((s.length:Nat):Int)-5<0))) rfl) (tm':=_::_::_::_::_::_::_::_::_::_::_::_::_::_::_::_::_::_::_::_::_::_) rfl ?_
    refine xaj (xaq rfl) (fun h_ H_=>xaz (v:=.bool (decide (((s.length:Nat):Int)-5<0))) rfl) rfl ?_
    by_cases cc2:((s.length:Nat):Int)-5<0
    · refine xdk (xfk rfl rfl (decide_eq_true cc2)) rfl ?_
      refine xdk (xfk rfl rfl (decide_eq_true cc2)) (tm':=_::_::_::_::_::_::_::_::_::_::_::_::_::_::_::_::_::_::_::_::_::_::_::_::_) rfl ?_
      refine xdk (xfk rfl rfl (decide_eq_true cc2)) rfl ?_
      refine xdk (xfk rfl rfl (decide_eq_true cc2)) rfl ?_
      refine xaj (xaq rfl) (fun h_ H_=>xdz rfl (decide_eq_true cc2) (v:=.bool (true)) rfl) (tm':=_::_::_::_::_::_::_::_::_::_::_::_::_::_::_::_::_::_::_::_::_::_::_::_::_::_::_::_) rfl ?_
      refine xav ?_
      refine xbv rfl rfl ?_
      refine xaw ?_
      refine xak ?_
      refine xaj (xaq rfl) (fun h_ H_=>xax (v:=.slice none 0 0) rfl) rfl ?_
      refine xaj (xaq rfl) (fun h_ H_=>xax (v:=.bool (false)) rfl) rfl ?_
      refine xav ?_
      refine xck Tryz.func39 rfl (vs:=[.slice none 0 0,.bool (false)]) (fun h_ H_=>⟨.slice none 0 0,_,rfl,rfl,⟨.bool (false),_,rfl,rfl,rfl⟩⟩) (v:=.tuple #[.slice none 0 0,.bool (false)]) rfl ?_
      have hN:formB s=none:=by rw [formB,if_pos];first | exact .inl (by omega) | exact .inr (.inl (by omega)) | exact .inr (.inr (by rw [← e5];omega))
      exact fun h_ H_=>K _ _ ⟨.slice none 0 0,[],by rw [hN];rfl,by rw [hN];exact OwnS.empty _ _,(H_.sub (List.nil_sublist _)).new⟩
    · refine xaj (xfw rfl rfl (decide_eq_false cc2)) (fun h_ H_=>xaz (v:=sv s) rfl) (tm':=_::_::_::_::_::_::_::_::_::_::_::_::_::_::_::_::_::_::_::_::_::_::_::_) rfl ?_
      refine xaj (xfw rfl rfl (decide_eq_false cc2)) (fun h_ H_=>xaz (v:=.int .i64 (((s.length:Nat):Int)-5)) rfl) rfl ?_
      refine xaj (xfw rfl rfl (decide_eq_false cc2)) (fun h_ H_=>yck (l:=s) (i:=((s.length:Nat):Int)-5) Tryz.underlying9 rfl rfl (by omega) (by omega)) rfl ?_
      refine xaj (xfw rfl rfl (decide_eq_false cc2)) (fun h_ H_=>xix rfl rfl) (tm':=_::_::_::_::_::_::_::_::_::_::_::_::_::_::_::_::_::_::_::_::_::_::_::_::_::_::_) rfl ?_
      refine xaj (xaq rfl) (fun h_ H_=>xdw rfl (decide_eq_false cc2) (v:=.bool (decide ((((s.getD (((s.length:Nat):Int)-5).toNat 0).toNat:Nat):Int)≠61))) rfl) rfl ?_
      refine xav ?_
      by_cases cc3:(((s.getD (((s.length:Nat):Int)-5).toNat 0).toNat:Nat):Int)≠61
      · refine xbv rfl (decide_eq_true cc3) ?_
        refine xaw ?_
        refine xak ?_
        refine xaj (xaq rfl) (fun h_ H_=>xax (v:=.slice none 0 0) rfl) rfl ?_
        refine xaj (xaq rfl) (fun h_ H_=>xax (v:=.bool (false)) rfl) (tm':=_::_::_::_::_) rfl ?_
        refine xav ?_
        refine xck Tryz.func39 rfl (vs:=[.slice none 0 0,.bool (false)]) (fun h_ H_=>⟨.slice none 0 0,_,rfl,rfl,⟨.bool (false),_,rfl,rfl,rfl⟩⟩) (v:=.tuple #[.slice none 0 0,.bool (false)]) rfl ?_
        have hN:formB s=none:=by rw [formB,if_pos];first | exact .inl (by omega) | exact .inr (.inl (by omega)) | exact .inr (.inr (by rw [← e5];omega))
        exact fun h_ H_=>K _ _ ⟨.slice none 0 0,[],by rw [hN];rfl,by rw [hN];exact OwnS.empty _ _,(H_.sub (List.nil_sublist _)).new⟩
      · refine xcx rfl (decide_eq_false cc3) ?_
        refine xcj ?_
        refine xaw ?_
        refine xaw ?_
        have e4:=e4 (by omega)
        have hdl:(s.drop (((s.length:Nat):Int)-5+1).toNat).length≤5:=by rw [List.length_drop];omega
        have hf1: ¬ (1400<s.length∨s.length<5∨(s.getD (s.length-5) 0).toNat≠61):=by rw [← e5];omega
        refine xak ?_
        refine xaj (xaq rfl) (fun h_ H_=>xaz (v:=sv s) rfl) rfl ?_
        refine xaj (xaq rfl) (fun h_ H_=>xaz (v:=.int .i64 (((s.length:Nat):Int)-5)) rfl) rfl ?_
        refine xaj (xaq rfl) (fun h_ H_=>xfj rfl rfl (wr (by omega))) (tm':=_::_::_::_::_::_::_::_::_::_::_::_::_::_::_::_::_::_::_::_::_::_::_::_::_::_::_::_::_::_::_) rfl ?_
        refine xaj (xaq rfl) (fun h_ H_=>xsq (l:=s) (a:=(((((s.length:Nat):Int)-5)+1)).toNat) Tryz.underlying9 rfl (.some _ rfl (by omega)) (by omega)) rfl ?_
        refine ytv (xaq rfl) Tryz.underlying9 Tryz.underlying47 Tryz.underlying5 (l:=s.drop ((((((s.length:Nat):Int)-5)+1)).toNat)) rfl fun p4 a5 cp6 le7 D8 _=>?_
        refine xaj (xaq rfl) (fun h_ H_=>xfv Tryz.underlying47 rfl) (tm':=_::_::_::_::_::_::_::_::_::_::_::_::_::_::_::_::_::_::_::_::_::_::_::_::_::_::_::_::_::_::_::_::_::_) rfl ?_
        refine xaj (xaq rfl) (fun h_ H_=>xaz (v:=.int .i64 0) rfl) rfl ?_
        refine xav ?_
        refine xcw ?_
        refine xhw (m₀:=(s.drop (((s.length:Nat):Int)-5+1).toNat).length-0) (fun m_ tm_ h_=>∃ (k:Nat),m_=(s.drop (((s.length:Nat):Int)-5+1).toNat).length-k∧(∃ y9:Nat→Value,tm_=[sv s,undef,(y9 2),(y9 3),.int .i64 (((s.length:Nat):Int)-5),undef,(y9 6),undef,undef,undef,undef,sv s,.int .i64 (((s.length:Nat):Int)),.int .i64 (((s.length:Nat):Int)-5),sv s,.int .i64 (((s.length:Nat):Int)),.bool (decide (1400<((s.length:Nat):Int))),.bool (decide (1400<((s.length:Nat):Int))),.int .i64 (((s.length:Nat):Int)-5),.bool (decide (((s.length:Nat):Int)-5<0)),.bool (decide (((s.length:Nat):Int)-5<0)),.bool (decide (((s.length:Nat):Int)-5<0)),sv s,.int .i64 (((s.length:Nat):Int)-5),.int .u8 ((((s.getD (((s.length:Nat):Int)-5).toNat 0).toNat:Nat):Int)),.bool (decide ((((s.getD (((s.length:Nat):Int)-5).toNat 0).toNat:Nat):Int)≠61)),.bool (decide ((((s.getD (((s.length:Nat):Int)-5).toNat 0).toNat:Nat):Int)≠61)),sv s,.int .i64 (((s.length:Nat):Int)-5),.int .i64 ((((s.length:Nat):Int)-5)+1),sv (s.drop ((((((s.length:Nat):Int)-5)+1)).toNat)),.slice a5 ((s.drop ((((((s.length:Nat):Int)-5)+1)).toNat)).length) cp6,.int .i64 ((((s.drop ((((((s.length:Nat):Int)-5)+1)).toNat)).length:Nat):Int)),.int .i64 (((k:Nat):Int)),(y9 34),(y9 35),(y9 36),(y9 37),(y9 38),(y9 39),(y9 40),(y9 41),(y9 42),(y9 43),undef,undef,undef,undef,undef,undef,undef,undef,undef,undef,undef,undef,undef,undef,undef,undef,undef,undef,undef,undef,undef,undef,undef,undef,undef,undef,undef,undef,undef,undef,undef,undef,undef,undef,undef,undef,undef,undef,undef,undef,undef,undef,undef,undef,undef,undef,undef,undef,undef,undef,undef,undef,undef,undef,undef,undef,undef,undef])∧(k≤(s.drop (((s.length:Nat):Int)-5+1).toNat).length)∧(∀ i,i<k→48≤((s.drop (((s.length:Nat):Int)-5+1).toNat).getD i 0).toNat∧((s.drop (((s.length:Nat):Int)-5+1).toNat).getD i 0).toNat≤57)∧St h [] p4 h_ ([])) (fun h_ H_=>⟨0,rfl,(y_of rfl),Nat.zero_le _,(fun i hi=>absurd hi (Nat.not_lt_zero i)),H_⟩) ?_
        intro m_ tm_ IH10
        refine xhv fun k=>xcq fun hm_=>xcq fun ht_=>xcq fun hk=>xcq fun hd=>?_
        subst hm_;obtain ⟨y9,ht_⟩:=ht_;subst ht_
        refine xaw ?_
        refine xak ?_
        refine xaj (xaq rfl) (fun h_ H_=>xgz rfl rfl) rfl ?_
        refine xav ?_
        refine xaw ?_
        by_cases cc11:((k:Nat):Int)<(((s.drop ((((((s.length:Nat):Int)-5)+1)).toNat)).length:Nat):Int)
        · refine xbv rfl (decide_eq_true cc11) ?_
          refine xcj ?_
          refine xaw ?_
          refine xcw ?_
          refine xaw ?_
          refine xak ?_
          refine xaj (xaq rfl) (fun h_ H_=>xbw (i:=k) Tryz.underlying47 tS5 (xmz a5 ((s.drop ((((((s.length:Nat):Int)-5)+1)).toNat)).length) cp6 (D8.ne (by omega))) rfl (by omega)) (tm':=_::_::_::_::_::_::_::_::_::_::_::_::_::_::_::_::_::_::_::_::_::_::_::_::_::_::_::_::_::_::_::_::_::_::_::_::_) rfl ?_
          refine xaj (xaq rfl) (fun h_ H_=>xcz H_ tA5 rfl (v:=.int .u8 (((((s.drop ((((((s.length:Nat):Int)-5)+1)).toNat)).getD k 0).toNat:Nat):Int))) (D8.get (by omega))) rfl ?_
          refine xaj (xaq rfl) (fun h_ H_=>xax (v:=.int .u8 (((((s.drop ((((((s.length:Nat):Int)-5)+1)).toNat)).getD k 0).toNat:Nat):Int))) rfl) rfl ?_
          refine xav ?_
          refine xaw ?_
          refine xak ?_
          refine xaj (xaq rfl) (fun h_ H_=>xaz (v:=.int .u8 (((((s.drop ((((((s.length:Nat):Int)-5)+1)).toNat)).getD k 0).toNat:Nat):Int))) rfl) (tm':=_::_::_::_::_::_::_::_::_::_::_::_::_::_::_::_::_::_::_::_::_::_::_::_::_::_::_::_::_::_::_::_::_::_::_::_::_::_::_) rfl ?_
          refine xaj (xaq rfl) (fun h_ H_=>xgz rfl rfl) rfl ?_
          refine xaj (xaq rfl) (fun h_ H_=>xaz (v:=.bool (decide (((((s.drop ((((((s.length:Nat):Int)-5)+1)).toNat)).getD k 0).toNat:Nat):Int)<48))) rfl) rfl ?_
          by_cases cc12:((((s.drop ((((((s.length:Nat):Int)-5)+1)).toNat)).getD k 0).toNat:Nat):Int)<48
          · refine xdk (xfk rfl rfl (decide_eq_true cc12)) (tm':=_::_::_::_::_::_::_::_::_::_::_::_::_::_::_::_::_::_::_::_::_::_::_::_::_::_::_::_::_::_::_::_::_::_::_::_::_::_::_::_::_::_) rfl ?_
            refine xdk (xfk rfl rfl (decide_eq_true cc12)) rfl ?_
            refine xaj (xaq rfl) (fun h_ H_=>xdz rfl (decide_eq_true cc12) (v:=.bool (true)) rfl) rfl ?_
            refine xav ?_
            refine xbv rfl rfl ?_
            refine xaw ?_
            refine xak ?_
            refine xaj (xaq rfl) (fun h_ H_=>xax (v:=.slice none 0 0) rfl) (tm':=_::_::_::_) rfl ?_
            refine xaj (xaq rfl) (fun h_ H_=>xax (v:=.bool (false)) rfl) rfl ?_
            refine xav ?_
            refine xck Tryz.func39 rfl (vs:=[.slice none 0 0,.bool (false)]) (fun h_ H_=>⟨.slice none 0 0,_,rfl,rfl,⟨.bool (false),_,rfl,rfl,rfl⟩⟩) (v:=.tuple #[.slice none 0 0,.bool (false)]) rfl ?_
            have hN:formB s=none:=by rw [formB,if_neg hf1,if_pos ⟨(s.drop (s.length-4)).getD k 0,gmem (by rw [← e4];omega),by rw [← e4];omega⟩]
            exact fun h_ H_=>K _ _ ⟨.slice none 0 0,[],by rw [hN];rfl,by rw [hN];exact OwnS.empty _ _,(H_.sub (List.nil_sublist _)).new⟩
          · refine xaj (xfw rfl rfl (decide_eq_false cc12)) (fun h_ H_=>xaz (v:=.int .u8 (((((s.drop ((((((s.length:Nat):Int)-5)+1)).toNat)).getD k 0).toNat:Nat):Int))) rfl) rfl ?_
            refine xaj (xfw rfl rfl (decide_eq_false cc12)) (fun h_ H_=>xmw rfl rfl) (tm':=_::_::_::_::_::_::_::_::_::_::_::_::_::_::_::_::_::_::_::_::_::_::_::_::_::_::_::_::_::_::_::_::_::_::_::_::_::_::_::_::_::_::_) rfl ?_
            refine xaj (xaq rfl) (fun h_ H_=>xdw rfl (decide_eq_false cc12) (v:=.bool (decide (57<((((s.drop ((((((s.length:Nat):Int)-5)+1)).toNat)).getD k 0).toNat:Nat):Int)))) rfl) rfl ?_
            refine xav ?_
            by_cases cc13:57<((((s.drop ((((((s.length:Nat):Int)-5)+1)).toNat)).getD k 0).toNat:Nat):Int)
            · refine xbv rfl (decide_eq_true cc13) ?_
              refine xaw ?_
              refine xak ?_
              refine xaj (xaq rfl) (fun h_ H_=>xax (v:=.slice none 0 0) rfl) rfl ?_
              refine xaj (xaq rfl) (fun h_ H_=>xax (v:=.bool (false)) rfl) (tm':=_::_::_::_::_) rfl ?_
              refine xav ?_
              refine xck Tryz.func39 rfl (vs:=[.slice none 0 0,.bool (false)]) (fun h_ H_=>⟨.slice none 0 0,_,rfl,rfl,⟨.bool (false),_,rfl,rfl,rfl⟩⟩) (v:=.tuple #[.slice none 0 0,.bool (false)]) rfl ?_
              have hN:formB s=none:=by rw [formB,if_neg hf1,if_pos ⟨(s.drop (s.length-4)).getD k 0,gmem (by rw [← e4];omega),by rw [← e4];omega⟩]
              exact fun h_ H_=>K _ _ ⟨.slice none 0 0,[],by rw [hN];rfl,by rw [hN];exact OwnS.empty _ _,(H_.sub (List.nil_sublist _)).new⟩
            · refine xcx rfl (decide_eq_false cc13) ?_
              refine xcj ?_
              refine xdq ?_
              refine xak ?_
              refine xaj (xaq rfl) (fun h_ H_=>xfj rfl rfl (n:=((k+1:Nat):Int)) (wr (by omega))) rfl ?_
              refine xaj (xaq rfl) (fun h_ H_=>xaz (v:=.int .i64 (((k+1:Nat):Int))) rfl) rfl ?_
              refine xav ?_
              exact fun h_ H_=>IH10 _ _ (by omega) h_ ⟨k+1,rfl,(y_of rfl),(by omega),(ygw hd (by omega)),H_⟩
        · refine xcx rfl (decide_eq_false cc11) ?_
          refine xhz rfl ?_
          refine xaw ?_
          have hf2: ¬ ∃ c∈s.drop (s.length-4),c.toNat<48∨57<c.toNat:=by
            rintro ⟨c,hc,hz⟩
            have hd':=hd
            rw [e4] at hd'
            have hk3:(s.drop (s.length-4)).length≤k:=by rw [← e4];omega
            have hq:=gall (d:=0) (P:=fun c:UInt8=>48≤c.toNat∧c.toNat≤57) (fun i hi=>hd' i (by omega)) c hc
            omega
          refine xak ?_
          refine xaj (xaq rfl) (fun h_ H_=>xax (v:=.slice none 0 0) rfl) (tm':=_::_::_::_::_::_::_::_::_) rfl ?_
          refine xav ?_
          refine xaw ?_
          refine xaw ?_
          refine xak ?_
          refine xaj (xaq rfl) (fun h_ H_=>xaz (v:=sv s) rfl) rfl ?_
          refine xaj (xaq rfl) (fun h_ H_=>xaz (v:=.int .i64 (((s.length:Nat):Int)-5)) rfl) rfl ?_
          refine xaj (xaq rfl) (fun h_ H_=>xrw (l:=s) (r:=((((s.length:Nat):Int)-5)).toNat) Tryz.underlying9 rfl (.some _ rfl (by omega)) (by omega)) (tm':=_::_::_::_::_::_::_::_::_::_::_::_::_::_::_::_::_::_::_::_::_::_::_::_::_::_::_::_::_::_::_::_::_::_::_::_::_::_::_::_::_::_::_::_::_::_::_::_) rfl ?_
          refine xaj (xaq rfl) (fun h_ H_=>xax (v:=sv (s.take (((((s.length:Nat):Int)-5)).toNat))) rfl) rfl ?_
          refine xav ?_
          refine xcw ?_
          refine xhw (m₀:=_) (fun m_ tm_ h_=>∃ (out:List Pie) (rest:By) (w1:Value) (X1:Pcs),m_=rest.length∧(∃ y14:Nat→Value,tm_=[sv s,undef,(y14 2),(y14 3),.int .i64 (((s.length:Nat):Int)-5),undef,(y9 6),w1,sv rest,(y14 9),(y14 10),sv s,.int .i64 (((s.length:Nat):Int)),.int .i64 (((s.length:Nat):Int)-5),sv s,.int .i64 (((s.length:Nat):Int)),.bool (decide (1400<((s.length:Nat):Int))),.bool (decide (1400<((s.length:Nat):Int))),.int .i64 (((s.length:Nat):Int)-5),.bool (decide (((s.length:Nat):Int)-5<0)),.bool (decide (((s.length:Nat):Int)-5<0)),.bool (decide (((s.length:Nat):Int)-5<0)),sv s,.int .i64 (((s.length:Nat):Int)-5),.int .u8 ((((s.getD (((s.length:Nat):Int)-5).toNat 0).toNat:Nat):Int)),.bool (decide ((((s.getD (((s.length:Nat):Int)-5).toNat 0).toNat:Nat):Int)≠61)),.bool (decide ((((s.getD (((s.length:Nat):Int)-5).toNat 0).toNat:Nat):Int)≠61)),sv s,.int .i64 (((s.length:Nat):Int)-5),.int .i64 ((((s.length:Nat):Int)-5)+1),sv (s.drop ((((((s.length:Nat):Int)-5)+1)).toNat)),.slice a5 ((s.drop ((((((s.length:Nat):Int)-5)+1)).toNat)).length) cp6,.int .i64 ((((s.drop ((((((s.length:Nat):Int)-5)+1)).toNat)).length:Nat):Int)),.int .i64 (((k:Nat):Int)),.bool (decide (((k:Nat):Int)<(((s.drop ((((((s.length:Nat):Int)-5)+1)).toNat)).length:Nat):Int))),(y9 35),(y9 36),(y9 37),(y9 38),(y9 39),(y9 40),(y9 41),(y9 42),(y9 43),sv s,.int .i64 (((s.length:Nat):Int)-5),sv (s.take (((((s.length:Nat):Int)-5)).toNat)),(y14 47),(y14 48),(y14 49),(y14 50),(y14 51),(y14 52),(y14 53),(y14 54),(y14 55),(y14 56),(y14 57),(y14 58),(y14 59),(y14 60),(y14 61),(y14 62),(y14 63),(y14 64),(y14 65),(y14 66),(y14 67),(y14 68),(y14 69),(y14 70),(y14 71),(y14 72),(y14 73),(y14 74),(y14 75),(y14 76),(y14 77),(y14 78),(y14 79),(y14 80),(y14 81),(y14 82),(y14 83),(y14 84),(y14 85),(y14 86),(y14 87),(y14 88),(y14 89),(y14 90),(y14 91),(y14 92),(y14 93),(y14 94),(y14 95),(y14 96),(y14 97),(y14 98),(y14 99),(y14 100),undef])∧(2*out.length+rest.length≤1400)∧(prsS out rest=prsS [] (s.take (s.length-5)))∧(OwnS 112 2 w1 (pies out) X1)∧St h [] p4 h_ (([]:Pcs)++(X1++[]))) (fun h_ H_=>⟨[],_,(.slice none 0 0),[],rfl,(y_of rfl),(by simp only [List.length_nil,List.length_take];omega),(by rw [e5]),(OwnS.empty _ _),H_⟩) ?_
          intro m_ tm_ IH15
          refine xhv fun out=>xhv fun rest=>xhv fun w1=>xhv fun X1=>xcq fun hm_=>xcq fun ht_=>xcq fun hb=>xcq fun hR=>xcq fun o1=>?_
          subst hm_;obtain ⟨y14,ht_⟩:=ht_;subst ht_
          refine xaw ?_
          refine xaw ?_
          refine xak ?_
          refine xaj (xaq rfl) (fun h_ H_=>xaz (v:=sv rest) rfl) rfl ?_
          refine xaj (xaq rfl) (fun h_ H_=>xwq (l:=rest) (m:=([]:List UInt8)) rfl rfl) (tm':=_::_::_::_::_::_::_::_::_::_::_::_::_::_::_::_::_::_::_::_::_::_::_::_::_::_::_::_::_::_::_::_::_::_::_::_::_::_::_::_::_::_::_::_::_::_::_::_::_::_) rfl ?_
          refine xav ?_
          by_cases cc16:rest=([]:List UInt8)
          · refine xcx rfl (xfz (decide_eq_true cc16)) ?_
            refine xhz rfl ?_
            refine xaw ?_
            refine xak ?_
            refine xaj (xaq rfl) (fun h_ H_=>xaz (v:=w1) rfl) rfl ?_
            refine xaj (xaq rfl) (fun h_ H_=>xax (v:=w1) rfl) rfl ?_
            refine xaj (xaq rfl) (fun h_ H_=>xax (v:=.bool (true)) rfl) (tm':=_::_::_::_::_) rfl ?_
            refine xav ?_
            refine xck Tryz.func39 rfl (vs:=[w1,.bool (true)]) (fun h_ H_=>⟨w1,_,rfl,rfl,⟨.bool (true),_,rfl,rfl,rfl⟩⟩) (v:=.tuple #[w1,.bool (true)]) rfl ?_
            have hr0:rest=[]:=‹rest=[]›
            have hS:formB s=some out:=by rw [formB,if_neg hf1,if_neg hf2,← hR,hr0,wfz]
            exact fun h_ H_=>K _ _ ⟨_,_,by rw [hS];rfl,by rw [hS];exact o1,by simpa using H_.dropA.new⟩
          · refine xbv rfl (xgx (decide_eq_false cc16)) ?_
            refine xcj ?_
            refine xcw ?_
            refine xaw ?_
            refine xaw ?_
            have hne:=List.length_pos_iff.2 ‹¬ rest=[]›
            refine xak ?_
            refine xaj (xaq rfl) (fun h_ H_=>xaz (v:=sv rest) rfl) rfl ?_
            refine xaj (xaq rfl) (fun h_ H_=>xjx (l:=rest) Tryz.underlying9 rfl) rfl ?_
            refine xaj (xaq rfl) (fun h_ H_=>xgz rfl rfl) (tm':=_::_::_::_::_::_::_::_::_::_::_::_::_::_::_::_::_::_::_::_::_::_::_::_::_::_::_::_::_::_::_::_::_::_::_::_::_::_::_::_::_::_::_::_::_::_::_::_::_::_::_::_::_) rfl ?_
            refine xaj (xaq rfl) (fun h_ H_=>xaz (v:=.bool (decide (((rest.length:Nat):Int)<2))) rfl) rfl ?_
            by_cases cc17:((rest.length:Nat):Int)<2
            · refine xdk (xfk rfl rfl (decide_eq_true cc17)) rfl ?_
              refine xdk (xfk rfl rfl (decide_eq_true cc17)) (tm':=_::_::_::_::_::_::_::_::_::_::_::_::_::_::_::_::_::_::_::_::_::_::_::_::_::_::_::_::_::_::_::_::_::_::_::_::_::_::_::_::_::_::_::_::_::_::_::_::_::_::_::_::_::_::_::_) rfl ?_
              refine xdk (xfk rfl rfl (decide_eq_true cc17)) rfl ?_
              refine xdk (xfk rfl rfl (decide_eq_true cc17)) rfl ?_
              refine xaj (xaq rfl) (fun h_ H_=>xdz rfl (decide_eq_true cc17) (v:=.bool (true)) rfl) (tm':=_::_::_::_::_::_::_::_::_::_::_::_::_::_::_::_::_::_::_::_::_::_::_::_::_::_::_::_::_::_::_::_::_::_::_::_::_::_::_::_::_::_::_::_::_::_::_::_::_::_::_::_::_::_::_::_::_::_::_) rfl ?_
              refine xaj (xaq rfl) (fun h_ H_=>xaz (v:=.bool (true)) rfl) rfl ?_
              refine xdk (xfk rfl rfl rfl) rfl ?_
              refine xdk (xfk rfl rfl rfl) (tm':=_::_::_::_::_::_::_::_::_::_::_::_::_::_::_::_::_::_::_::_::_::_::_::_::_::_::_::_::_::_::_::_::_::_::_::_::_::_::_::_::_::_::_::_::_::_::_::_::_::_::_::_::_::_::_::_::_::_::_::_::_::_) rfl ?_
              refine xdk (xfk rfl rfl rfl) rfl ?_
              refine xdk (xfk rfl rfl rfl) rfl ?_
              refine xaj (xaq rfl) (fun h_ H_=>xdz rfl rfl (v:=.bool (true)) rfl) (tm':=_::_::_::_::_::_::_::_::_::_::_::_::_::_::_::_::_::_::_::_::_::_::_::_::_::_::_::_::_::_::_::_::_::_::_::_::_::_::_::_::_::_::_::_::_::_::_::_::_::_::_::_::_::_::_::_::_::_::_::_::_::_::_::_::_) rfl ?_
              refine xav ?_
              refine xbv rfl rfl ?_
              refine xaw ?_
              refine xak ?_
              refine xaj (xaq rfl) (fun h_ H_=>xax (v:=.slice none 0 0) rfl) rfl ?_
              refine xaj (xaq rfl) (fun h_ H_=>xax (v:=.bool (false)) rfl) rfl ?_
              refine xav ?_
              refine xck Tryz.func39 rfl (vs:=[.slice none 0 0,.bool (false)]) (fun h_ H_=>⟨.slice none 0 0,_,rfl,rfl,⟨.bool (false),_,rfl,rfl,rfl⟩⟩) (v:=.tuple #[.slice none 0 0,.bool (false)]) rfl ?_
              have hN:formB s=none:=by
                rw [formB,if_neg hf1,if_neg hf2,← hR]
                refine xzw (List.length_pos_iff.1 hne) ?_
                first | exact xmv (.inl (by omega)) | exact xmv (.inr (.inl (by assumption))) | exact xmv (.inr (.inr (by assumption))) | (rw [hp2,if_neg ‹_›,if_neg (by omega),if_pos (by omega)])
              exact fun h_ H_=>K _ _ ⟨.slice none 0 0,[],by rw [hN];rfl,by rw [hN];exact OwnS.empty _ _,(H_.sub (List.nil_sublist _)).new⟩
            · refine xaj (xfw rfl rfl (decide_eq_false cc17)) (fun h_ H_=>xaz (v:=sv rest) rfl) (tm':=_::_::_::_::_::_::_::_::_::_::_::_::_::_::_::_::_::_::_::_::_::_::_::_::_::_::_::_::_::_::_::_::_::_::_::_::_::_::_::_::_::_::_::_::_::_::_::_::_::_::_::_::_::_::_) rfl ?_
              refine xaj (xfw rfl rfl (decide_eq_false cc17)) (fun h_ H_=>xlv (l:=rest) (i:=0) Tryz.underlying9 rfl rfl (by omega)) rfl ?_
              refine xdj (xfw rfl rfl (decide_eq_false cc17)) (first:=[]) (cap:=[]) rfl rfl fC67 (fun h_ H_=>c67 .lone _ ((((rest.getD 0 0).toNat:Nat):Int))) rfl ?_
              refine xaj (xfw rfl rfl (decide_eq_false cc17)) (fun h_ H_=>xgw rfl) (tm':=_::_::_::_::_::_::_::_::_::_::_::_::_::_::_::_::_::_::_::_::_::_::_::_::_::_::_::_::_::_::_::_::_::_::_::_::_::_::_::_::_::_::_::_::_::_::_::_::_::_::_::_::_::_::_::_::_::_) rfl ?_
              refine xaj (xaq rfl) (fun h_ H_=>xdw rfl (decide_eq_false cc17) (v:=.bool (!(decide (65≤(((rest.getD 0 0).toNat:Nat):Int)∧(((rest.getD 0 0).toNat:Nat):Int)≤90)))) rfl) rfl ?_
              refine xaj (xaq rfl) (fun h_ H_=>xaz (v:=.bool (!(decide (65≤(((rest.getD 0 0).toNat:Nat):Int)∧(((rest.getD 0 0).toNat:Nat):Int)≤90)))) rfl) rfl ?_
              by_cases cc18:65≤(((rest.getD 0 0).toNat:Nat):Int)∧(((rest.getD 0 0).toNat:Nat):Int)≤90
              · refine xaj (xfw rfl rfl (xfz (decide_eq_true cc18))) (fun h_ H_=>xaz (v:=sv rest) rfl) (tm':=_::_::_::_::_::_::_::_::_::_::_::_::_::_::_::_::_::_::_::_::_::_::_::_::_::_::_::_::_::_::_::_::_::_::_::_::_::_::_::_::_::_::_::_::_::_::_::_::_::_::_::_::_::_::_::_::_::_::_::_::_) rfl ?_
                refine xaj (xfw rfl rfl (xfz (decide_eq_true cc18))) (fun h_ H_=>xlv (l:=rest) (i:=1) Tryz.underlying9 rfl rfl (by omega)) rfl ?_
                refine xdj (xfw rfl rfl (xfz (decide_eq_true cc18))) (first:=[]) (cap:=[]) rfl rfl fC67 (fun h_ H_=>c67 .lone _ ((((rest.getD 1 0).toNat:Nat):Int))) rfl ?_
                refine xaj (xfw rfl rfl (xfz (decide_eq_true cc18))) (fun h_ H_=>xgw rfl) (tm':=_::_::_::_::_::_::_::_::_::_::_::_::_::_::_::_::_::_::_::_::_::_::_::_::_::_::_::_::_::_::_::_::_::_::_::_::_::_::_::_::_::_::_::_::_::_::_::_::_::_::_::_::_::_::_::_::_::_::_::_::_::_::_::_) rfl ?_
                refine xaj (xaq rfl) (fun h_ H_=>xdw rfl (xfz (decide_eq_true cc18)) (v:=.bool (!(decide (65≤(((rest.getD 1 0).toNat:Nat):Int)∧(((rest.getD 1 0).toNat:Nat):Int)≤90)))) rfl) rfl ?_
                refine xav ?_
                by_cases cc19:65≤(((rest.getD 1 0).toNat:Nat):Int)∧(((rest.getD 1 0).toNat:Nat):Int)≤90
                · refine xcx rfl (xfz (decide_eq_true cc19)) ?_
                  refine xcj ?_
                  refine xaw ?_
                  have hp2:=wav (s:=rest) (by omega) (by assumption) (by assumption)
                  obtain ⟨Gb22,hG11_⟩:=sk1 (fun (v_:Value) (x_:Pcs) (b22:Nat)=>v_= .pointer (some ⟨b22,0,none⟩)∧x_=(([(b22,.cells #[.int .i64 0,.int .i64 0] 112 (0,0))]:Pcs)++[]))
                  refine zlk (yaj (C:=[]) (A:=([]:Pcs)) 12 [] [12] [12,11] [0,1,2,3,4,5,6,7,8,9,10] (fun i_=>match i_ with | 12=>X1 | _=>[]) (fun _=>[]) (fun i_=>match i_ with | 0=>[] | 1=>[0] | 2=>[1] | 3=>[2] | 4=>[3] | 5=>[] | 6=>[5] | 7=>[6] | 8=>[7] | 9=>[4,8] | 10=>[9] | 11=>[] | _=>[]) (fun i_ val_ pc_ v_ x_=>match i_ with | 0=>v_=sv rest∧x_=[] | 1=>v_= .int .u8 ((((rest.getD 0 0).toNat:Nat):Int))∧x_=[] | 2=>v_= .int .u8 ((((rest.getD 0 0).toNat:Nat):Int)-65)∧x_=[] | 3=>v_= .int .i64 ((((rest.getD 0 0).toNat:Nat):Int)-65)∧x_=[] | 4=>v_= .int .i64 (((((rest.getD 0 0).toNat:Nat):Int)-65)*26)∧x_=[] | 5=>v_=sv rest∧x_=[] | 6=>v_= .int .u8 ((((rest.getD 1 0).toNat:Nat):Int))∧x_=[] | 7=>v_= .int .u8 ((((rest.getD 1 0).toNat:Nat):Int)-65)∧x_=[] | 8=>v_= .int .i64 ((((rest.getD 1 0).toNat:Nat):Int)-65)∧x_=[] | 9=>v_= .int .i64 ((((((rest.getD 0 0).toNat:Nat):Int)-65)*26)+((((rest.getD 1 0).toNat:Nat):Int)-65))∧x_=[] | 10=>v_= .agg #[.int .i64 ((((((rest.getD 0 0).toNat:Nat):Int)-65)*26)+((((rest.getD 1 0).toNat:Nat):Int)-65)),.int .i64 (-1)]∧x_=[] | 11=>∃ b22:Nat,v_= .pointer (some ⟨b22,0,none⟩)∧x_=(([(b22,.cells #[.int .i64 0,.int .i64 0] 112 (0,0))]:Pcs)++[]) | _=>True) (fun val20=>[sv s,undef,(y14 2),(y14 3),.int .i64 (((s.length:Nat):Int)-5),undef,(y9 6),w1,sv rest,(val20 11),(y14 10),sv s,.int .i64 (((s.length:Nat):Int)),.int .i64 (((s.length:Nat):Int)-5),sv s,.int .i64 (((s.length:Nat):Int)),.bool (decide (1400<((s.length:Nat):Int))),.bool (decide (1400<((s.length:Nat):Int))),.int .i64 (((s.length:Nat):Int)-5),.bool (decide (((s.length:Nat):Int)-5<0)),.bool (decide (((s.length:Nat):Int)-5<0)),.bool (decide (((s.length:Nat):Int)-5<0)),sv s,.int .i64 (((s.length:Nat):Int)-5),.int .u8 ((((s.getD (((s.length:Nat):Int)-5).toNat 0).toNat:Nat):Int)),.bool (decide ((((s.getD (((s.length:Nat):Int)-5).toNat 0).toNat:Nat):Int)≠61)),.bool (decide ((((s.getD (((s.length:Nat):Int)-5).toNat 0).toNat:Nat):Int)≠61)),sv s,.int .i64 (((s.length:Nat):Int)-5),.int .i64 ((((s.length:Nat):Int)-5)+1),sv (s.drop ((((((s.length:Nat):Int)-5)+1)).toNat)),.slice a5 ((s.drop ((((((s.length:Nat):Int)-5)+1)).toNat)).length) cp6,.int .i64 ((((s.drop ((((((s.length:Nat):Int)-5)+1)).toNat)).length:Nat):Int)),.int .i64 (((k:Nat):Int)),.bool (decide (((k:Nat):Int)<(((s.drop ((((((s.length:Nat):Int)-5)+1)).toNat)).length:Nat):Int))),(y9 35),(y9 36),(y9 37),(y9 38),(y9 39),(y9 40),(y9 41),(y9 42),(y9 43),sv s,.int .i64 (((s.length:Nat):Int)-5),sv (s.take (((((s.length:Nat):Int)-5)).toNat)),sv rest,.bool (!decide (rest=([]:List UInt8))),sv rest,.int .i64 (((rest.length:Nat):Int)),.bool (decide (((rest.length:Nat):Int)<2)),.bool (decide (((rest.length:Nat):Int)<2)),sv rest,.int .u8 ((((rest.getD 0 0).toNat:Nat):Int)),.bool (decide (65≤(((rest.getD 0 0).toNat:Nat):Int)∧(((rest.getD 0 0).toNat:Nat):Int)≤90)),.bool (!(decide (65≤(((rest.getD 0 0).toNat:Nat):Int)∧(((rest.getD 0 0).toNat:Nat):Int)≤90))),.bool (!(decide (65≤(((rest.getD 0 0).toNat:Nat):Int)∧(((rest.getD 0 0).toNat:Nat):Int)≤90))),.bool (!(decide (65≤(((rest.getD 0 0).toNat:Nat):Int)∧(((rest.getD 0 0).toNat:Nat):Int)≤90))),sv rest,.int .u8 ((((rest.getD 1 0).toNat:Nat):Int)),.bool (decide (65≤(((rest.getD 1 0).toNat:Nat):Int)∧(((rest.getD 1 0).toNat:Nat):Int)≤90)),.bool (!(decide (65≤(((rest.getD 1 0).toNat:Nat):Int)∧(((rest.getD 1 0).toNat:Nat):Int)≤90))),.bool (!(decide (65≤(((rest.getD 1 0).toNat:Nat):Int)∧(((rest.getD 1 0).toNat:Nat):Int)≤90))),(val20 0),(val20 1),(val20 2),(val20 3),(val20 4),(val20 5),(val20 6),(val20 7),(val20 8),(val20 9),(val20 10),(y14 75),(y14 76),(y14 77),(y14 78),(y14 79),(y14 80),(y14 81),(y14 82),(y14 83),(y14 84),(y14 85),(y14 86),(y14 87),(y14 88),(y14 89),(y14 90),(y14 91),(y14 92),(y14 93),(y14 94),(y14 95),(y14 96),(y14 97),(y14 98),(y14 99),(y14 100),undef]) mixed (by kernel_rfl) (Nat.le_of_ble_eq_true rfl) (by kernel_rfl) (by kernel_rfl) (by kernel_rfl) (fun _ _=>⟨fun _ _ h=>h.2,⟨fun _ _ h=>h.2,⟨fun _ _ h=>h.2,⟨fun _ _ h=>h.2,⟨fun _ _ h=>h.2,⟨fun _ _ h=>h.2,⟨fun _ _ h=>h.2,⟨fun _ _ h=>h.2,⟨fun _ _ h=>h.2,⟨fun _ _ h=>h.2,⟨fun _ _ h=>h.2,trivial⟩⟩⟩⟩⟩⟩⟩⟩⟩⟩⟩) (fun _=>by kernel_rfl) (by kernel_rfl) ?_ ?_) (fun h_ H_=>St.swap (A:=([]:Pcs)) (U:=(X1++[])) H_)
                  · refine xex rfl (xij ?_) ?_
                    · intro val20 pc21 hQ_ hX_
                      obtain ⟨q_,hq0_⟩: ∃ q_:Value→Pcs→Prop,q_=(fun v_ x_=>v_=sv rest∧x_=[]):=⟨_,rfl⟩
                      refine ⟨[sv s,undef,(y14 2),(y14 3),.int .i64 (((s.length:Nat):Int)-5),undef,(y9 6),w1,sv rest,(val20 11),(y14 10),sv s,.int .i64 (((s.length:Nat):Int)),.int .i64 (((s.length:Nat):Int)-5),sv s,.int .i64 (((s.length:Nat):Int)),.bool (decide (1400<((s.length:Nat):Int))),.bool (decide (1400<((s.length:Nat):Int))),.int .i64 (((s.length:Nat):Int)-5),.bool (decide (((s.length:Nat):Int)-5<0)),.bool (decide (((s.length:Nat):Int)-5<0)),.bool (decide (((s.length:Nat):Int)-5<0)),sv s,.int .i64 (((s.length:Nat):Int)-5),.int .u8 ((((s.getD (((s.length:Nat):Int)-5).toNat 0).toNat:Nat):Int)),.bool (decide ((((s.getD (((s.length:Nat):Int)-5).toNat 0).toNat:Nat):Int)≠61)),.bool (decide ((((s.getD (((s.length:Nat):Int)-5).toNat 0).toNat:Nat):Int)≠61)),sv s,.int .i64 (((s.length:Nat):Int)-5),.int .i64 ((((s.length:Nat):Int)-5)+1),sv (s.drop ((((((s.length:Nat):Int)-5)+1)).toNat)),.slice a5 ((s.drop ((((((s.length:Nat):Int)-5)+1)).toNat)).length) cp6,.int .i64 ((((s.drop ((((((s.length:Nat):Int)-5)+1)).toNat)).length:Nat):Int)),.int .i64 (((k:Nat):Int)),.bool (decide (((k:Nat):Int)<(((s.drop ((((((s.length:Nat):Int)-5)+1)).toNat)).length:Nat):Int))),(y9 35),(y9 36),(y9 37),(y9 38),(y9 39),(y9 40),(y9 41),(y9 42),(y9 43),sv s,.int .i64 (((s.length:Nat):Int)-5),sv (s.take (((((s.length:Nat):Int)-5)).toNat)),sv rest,.bool (!decide (rest=([]:List UInt8))),sv rest,.int .i64 (((rest.length:Nat):Int)),.bool (decide (((rest.length:Nat):Int)<2)),.bool (decide (((rest.length:Nat):Int)<2)),sv rest,.int .u8 ((((rest.getD 0 0).toNat:Nat):Int)),.bool (decide (65≤(((rest.getD 0 0).toNat:Nat):Int)∧(((rest.getD 0 0).toNat:Nat):Int)≤90)),.bool (!(decide (65≤(((rest.getD 0 0).toNat:Nat):Int)∧(((rest.getD 0 0).toNat:Nat):Int)≤90))),.bool (!(decide (65≤(((rest.getD 0 0).toNat:Nat):Int)∧(((rest.getD 0 0).toNat:Nat):Int)≤90))),.bool (!(decide (65≤(((rest.getD 0 0).toNat:Nat):Int)∧(((rest.getD 0 0).toNat:Nat):Int)≤90))),sv rest,.int .u8 ((((rest.getD 1 0).toNat:Nat):Int)),.bool (decide (65≤(((rest.getD 1 0).toNat:Nat):Int)∧(((rest.getD 1 0).toNat:Nat):Int)≤90)),.bool (!(decide (65≤(((rest.getD 1 0).toNat:Nat):Int)∧(((rest.getD 1 0).toNat:Nat):Int)≤90))),.bool (!(decide (65≤(((rest.getD 1 0).toNat:Nat):Int)∧(((rest.getD 1 0).toNat:Nat):Int)≤90))),(val20 0),(val20 1),(val20 2),(val20 3),(val20 4),(val20 5),(val20 6),(val20 7),(val20 8),(val20 9),(val20 10),(y14 75),(y14 76),(y14 77),(y14 78),(y14 79),(y14 80),(y14 81),(y14 82),(y14 83),(y14 84),(y14 85),(y14 86),(y14 87),(y14 88),(y14 89),(y14 90),(y14 91),(y14 92),(y14 93),(y14 94),(y14 95),(y14 96),(y14 97),(y14 98),(y14 99),(y14 100),undef],[],q_,rfl,rfl,(fun _ _ z_=>by subst hq0_;exact z_),?_⟩
                      subst hq0_
                      exact xiq (xaq rfl) (fun _ h_ H_=>xaz (v:=sv rest) rfl) ⟨rfl,rfl⟩
                    refine xex rfl (xij ?_) ?_
                    · intro val20 pc21 hQ_ hX_
                      have e0_:val20 0=sv rest:=(hQ_ 0 rfl).1
                      obtain ⟨q_,hq0_⟩: ∃ q_:Value→Pcs→Prop,q_=(fun v_ x_=>v_= .int .u8 ((((rest.getD 0 0).toNat:Nat):Int))∧x_=[]):=⟨_,rfl⟩
                      refine ⟨[sv s,undef,(y14 2),(y14 3),.int .i64 (((s.length:Nat):Int)-5),undef,(y9 6),w1,sv rest,(val20 11),(y14 10),sv s,.int .i64 (((s.length:Nat):Int)),.int .i64 (((s.length:Nat):Int)-5),sv s,.int .i64 (((s.length:Nat):Int)),.bool (decide (1400<((s.length:Nat):Int))),.bool (decide (1400<((s.length:Nat):Int))),.int .i64 (((s.length:Nat):Int)-5),.bool (decide (((s.length:Nat):Int)-5<0)),.bool (decide (((s.length:Nat):Int)-5<0)),.bool (decide (((s.length:Nat):Int)-5<0)),sv s,.int .i64 (((s.length:Nat):Int)-5),.int .u8 ((((s.getD (((s.length:Nat):Int)-5).toNat 0).toNat:Nat):Int)),.bool (decide ((((s.getD (((s.length:Nat):Int)-5).toNat 0).toNat:Nat):Int)≠61)),.bool (decide ((((s.getD (((s.length:Nat):Int)-5).toNat 0).toNat:Nat):Int)≠61)),sv s,.int .i64 (((s.length:Nat):Int)-5),.int .i64 ((((s.length:Nat):Int)-5)+1),sv (s.drop ((((((s.length:Nat):Int)-5)+1)).toNat)),.slice a5 ((s.drop ((((((s.length:Nat):Int)-5)+1)).toNat)).length) cp6,.int .i64 ((((s.drop ((((((s.length:Nat):Int)-5)+1)).toNat)).length:Nat):Int)),.int .i64 (((k:Nat):Int)),.bool (decide (((k:Nat):Int)<(((s.drop ((((((s.length:Nat):Int)-5)+1)).toNat)).length:Nat):Int))),(y9 35),(y9 36),(y9 37),(y9 38),(y9 39),(y9 40),(y9 41),(y9 42),(y9 43),sv s,.int .i64 (((s.length:Nat):Int)-5),sv (s.take (((((s.length:Nat):Int)-5)).toNat)),sv rest,.bool (!decide (rest=([]:List UInt8))),sv rest,.int .i64 (((rest.length:Nat):Int)),.bool (decide (((rest.length:Nat):Int)<2)),.bool (decide (((rest.length:Nat):Int)<2)),sv rest,.int .u8 ((((rest.getD 0 0).toNat:Nat):Int)),.bool (decide (65≤(((rest.getD 0 0).toNat:Nat):Int)∧(((rest.getD 0 0).toNat:Nat):Int)≤90)),.bool (!(decide (65≤(((rest.getD 0 0).toNat:Nat):Int)∧(((rest.getD 0 0).toNat:Nat):Int)≤90))),.bool (!(decide (65≤(((rest.getD 0 0).toNat:Nat):Int)∧(((rest.getD 0 0).toNat:Nat):Int)≤90))),.bool (!(decide (65≤(((rest.getD 0 0).toNat:Nat):Int)∧(((rest.getD 0 0).toNat:Nat):Int)≤90))),sv rest,.int .u8 ((((rest.getD 1 0).toNat:Nat):Int)),.bool (decide (65≤(((rest.getD 1 0).toNat:Nat):Int)∧(((rest.getD 1 0).toNat:Nat):Int)≤90)),.bool (!(decide (65≤(((rest.getD 1 0).toNat:Nat):Int)∧(((rest.getD 1 0).toNat:Nat):Int)≤90))),.bool (!(decide (65≤(((rest.getD 1 0).toNat:Nat):Int)∧(((rest.getD 1 0).toNat:Nat):Int)≤90))),sv rest,(val20 1),(val20 2),(val20 3),(val20 4),(val20 5),(val20 6),(val20 7),(val20 8),(val20 9),(val20 10),(y14 75),(y14 76),(y14 77),(y14 78),(y14 79),(y14 80),(y14 81),(y14 82),(y14 83),(y14 84),(y14 85),(y14 86),(y14 87),(y14 88),(y14 89),(y14 90),(y14 91),(y14 92),(y14 93),(y14 94),(y14 95),(y14 96),(y14 97),(y14 98),(y14 99),(y14 100),undef],[],q_,(by simp only [e0_]),rfl,(fun _ _ z_=>by subst hq0_;exact z_),?_⟩
                      subst hq0_
                      exact xiq (xaq rfl) (fun _ h_ H_=>xlv (l:=rest) (i:=0) Tryz.underlying9 rfl rfl (by omega)) ⟨rfl,rfl⟩
                    refine xex rfl (xij ?_) ?_
                    · intro val20 pc21 hQ_ hX_
                      have e1_:val20 1= .int .u8 ((((rest.getD 0 0).toNat:Nat):Int)):=(hQ_ 1 rfl).1
                      obtain ⟨q_,hq0_⟩: ∃ q_:Value→Pcs→Prop,q_=(fun v_ x_=>v_= .int .u8 ((((rest.getD 0 0).toNat:Nat):Int)-65)∧x_=[]):=⟨_,rfl⟩
                      refine ⟨[sv s,undef,(y14 2),(y14 3),.int .i64 (((s.length:Nat):Int)-5),undef,(y9 6),w1,sv rest,(val20 11),(y14 10),sv s,.int .i64 (((s.length:Nat):Int)),.int .i64 (((s.length:Nat):Int)-5),sv s,.int .i64 (((s.length:Nat):Int)),.bool (decide (1400<((s.length:Nat):Int))),.bool (decide (1400<((s.length:Nat):Int))),.int .i64 (((s.length:Nat):Int)-5),.bool (decide (((s.length:Nat):Int)-5<0)),.bool (decide (((s.length:Nat):Int)-5<0)),.bool (decide (((s.length:Nat):Int)-5<0)),sv s,.int .i64 (((s.length:Nat):Int)-5),.int .u8 ((((s.getD (((s.length:Nat):Int)-5).toNat 0).toNat:Nat):Int)),.bool (decide ((((s.getD (((s.length:Nat):Int)-5).toNat 0).toNat:Nat):Int)≠61)),.bool (decide ((((s.getD (((s.length:Nat):Int)-5).toNat 0).toNat:Nat):Int)≠61)),sv s,.int .i64 (((s.length:Nat):Int)-5),.int .i64 ((((s.length:Nat):Int)-5)+1),sv (s.drop ((((((s.length:Nat):Int)-5)+1)).toNat)),.slice a5 ((s.drop ((((((s.length:Nat):Int)-5)+1)).toNat)).length) cp6,.int .i64 ((((s.drop ((((((s.length:Nat):Int)-5)+1)).toNat)).length:Nat):Int)),.int .i64 (((k:Nat):Int)),.bool (decide (((k:Nat):Int)<(((s.drop ((((((s.length:Nat):Int)-5)+1)).toNat)).length:Nat):Int))),(y9 35),(y9 36),(y9 37),(y9 38),(y9 39),(y9 40),(y9 41),(y9 42),(y9 43),sv s,.int .i64 (((s.length:Nat):Int)-5),sv (s.take (((((s.length:Nat):Int)-5)).toNat)),sv rest,.bool (!decide (rest=([]:List UInt8))),sv rest,.int .i64 (((rest.length:Nat):Int)),.bool (decide (((rest.length:Nat):Int)<2)),.bool (decide (((rest.length:Nat):Int)<2)),sv rest,.int .u8 ((((rest.getD 0 0).toNat:Nat):Int)),.bool (decide (65≤(((rest.getD 0 0).toNat:Nat):Int)∧(((rest.getD 0 0).toNat:Nat):Int)≤90)),.bool (!(decide (65≤(((rest.getD 0 0).toNat:Nat):Int)∧(((rest.getD 0 0).toNat:Nat):Int)≤90))),.bool (!(decide (65≤(((rest.getD 0 0).toNat:Nat):Int)∧(((rest.getD 0 0).toNat:Nat):Int)≤90))),.bool (!(decide (65≤(((rest.getD 0 0).toNat:Nat):Int)∧(((rest.getD 0 0).toNat:Nat):Int)≤90))),sv rest,.int .u8 ((((rest.getD 1 0).toNat:Nat):Int)),.bool (decide (65≤(((rest.getD 1 0).toNat:Nat):Int)∧(((rest.getD 1 0).toNat:Nat):Int)≤90)),.bool (!(decide (65≤(((rest.getD 1 0).toNat:Nat):Int)∧(((rest.getD 1 0).toNat:Nat):Int)≤90))),.bool (!(decide (65≤(((rest.getD 1 0).toNat:Nat):Int)∧(((rest.getD 1 0).toNat:Nat):Int)≤90))),(val20 0),.int .u8 ((((rest.getD 0 0).toNat:Nat):Int)),(val20 2),(val20 3),(val20 4),(val20 5),(val20 6),(val20 7),(val20 8),(val20 9),(val20 10),(y14 75),(y14 76),(y14 77),(y14 78),(y14 79),(y14 80),(y14 81),(y14 82),(y14 83),(y14 84),(y14 85),(y14 86),(y14 87),(y14 88),(y14 89),(y14 90),(y14 91),(y14 92),(y14 93),(y14 94),(y14 95),(y14 96),(y14 97),(y14 98),(y14 99),(y14 100),undef],[],q_,(by simp only [e1_]),rfl,(fun _ _ z_=>by subst hq0_;exact z_),?_⟩
                      subst hq0_
                      exact xiq (xaq rfl) (fun _ h_ H_=>xlq rfl rfl (wr8 (by omega))) ⟨rfl,rfl⟩
                    refine xex rfl (xij ?_) ?_
                    · intro val20 pc21 hQ_ hX_
                      have e2_:val20 2= .int .u8 ((((rest.getD 0 0).toNat:Nat):Int)-65):=(hQ_ 2 rfl).1
                      obtain ⟨q_,hq0_⟩: ∃ q_:Value→Pcs→Prop,q_=(fun v_ x_=>v_= .int .i64 ((((rest.getD 0 0).toNat:Nat):Int)-65)∧x_=[]):=⟨_,rfl⟩
                      refine ⟨[sv s,undef,(y14 2),(y14 3),.int .i64 (((s.length:Nat):Int)-5),undef,(y9 6),w1,sv rest,(val20 11),(y14 10),sv s,.int .i64 (((s.length:Nat):Int)),.int .i64 (((s.length:Nat):Int)-5),sv s,.int .i64 (((s.length:Nat):Int)),.bool (decide (1400<((s.length:Nat):Int))),.bool (decide (1400<((s.length:Nat):Int))),.int .i64 (((s.length:Nat):Int)-5),.bool (decide (((s.length:Nat):Int)-5<0)),.bool (decide (((s.length:Nat):Int)-5<0)),.bool (decide (((s.length:Nat):Int)-5<0)),sv s,.int .i64 (((s.length:Nat):Int)-5),.int .u8 ((((s.getD (((s.length:Nat):Int)-5).toNat 0).toNat:Nat):Int)),.bool (decide ((((s.getD (((s.length:Nat):Int)-5).toNat 0).toNat:Nat):Int)≠61)),.bool (decide ((((s.getD (((s.length:Nat):Int)-5).toNat 0).toNat:Nat):Int)≠61)),sv s,.int .i64 (((s.length:Nat):Int)-5),.int .i64 ((((s.length:Nat):Int)-5)+1),sv (s.drop ((((((s.length:Nat):Int)-5)+1)).toNat)),.slice a5 ((s.drop ((((((s.length:Nat):Int)-5)+1)).toNat)).length) cp6,.int .i64 ((((s.drop ((((((s.length:Nat):Int)-5)+1)).toNat)).length:Nat):Int)),.int .i64 (((k:Nat):Int)),.bool (decide (((k:Nat):Int)<(((s.drop ((((((s.length:Nat):Int)-5)+1)).toNat)).length:Nat):Int))),(y9 35),(y9 36),(y9 37),(y9 38),(y9 39),(y9 40),(y9 41),(y9 42),(y9 43),sv s,.int .i64 (((s.length:Nat):Int)-5),sv (s.take (((((s.length:Nat):Int)-5)).toNat)),sv rest,.bool (!decide (rest=([]:List UInt8))),sv rest,.int .i64 (((rest.length:Nat):Int)),.bool (decide (((rest.length:Nat):Int)<2)),.bool (decide (((rest.length:Nat):Int)<2)),sv rest,.int .u8 ((((rest.getD 0 0).toNat:Nat):Int)),.bool (decide (65≤(((rest.getD 0 0).toNat:Nat):Int)∧(((rest.getD 0 0).toNat:Nat):Int)≤90)),.bool (!(decide (65≤(((rest.getD 0 0).toNat:Nat):Int)∧(((rest.getD 0 0).toNat:Nat):Int)≤90))),.bool (!(decide (65≤(((rest.getD 0 0).toNat:Nat):Int)∧(((rest.getD 0 0).toNat:Nat):Int)≤90))),.bool (!(decide (65≤(((rest.getD 0 0).toNat:Nat):Int)∧(((rest.getD 0 0).toNat:Nat):Int)≤90))),sv rest,.int .u8 ((((rest.getD 1 0).toNat:Nat):Int)),.bool (decide (65≤(((rest.getD 1 0).toNat:Nat):Int)∧(((rest.getD 1 0).toNat:Nat):Int)≤90)),.bool (!(decide (65≤(((rest.getD 1 0).toNat:Nat):Int)∧(((rest.getD 1 0).toNat:Nat):Int)≤90))),.bool (!(decide (65≤(((rest.getD 1 0).toNat:Nat):Int)∧(((rest.getD 1 0).toNat:Nat):Int)≤90))),(val20 0),(val20 1),.int .u8 ((((rest.getD 0 0).toNat:Nat):Int)-65),(val20 3),(val20 4),(val20 5),(val20 6),(val20 7),(val20 8),(val20 9),(val20 10),(y14 75),(y14 76),(y14 77),(y14 78),(y14 79),(y14 80),(y14 81),(y14 82),(y14 83),(y14 84),(y14 85),(y14 86),(y14 87),(y14 88),(y14 89),(y14 90),(y14 91),(y14 92),(y14 93),(y14 94),(y14 95),(y14 96),(y14 97),(y14 98),(y14 99),(y14 100),undef],[],q_,(by simp only [e2_]),rfl,(fun _ _ z_=>by subst hq0_;exact z_),?_⟩
                      subst hq0_
                      exact xiq (xaq rfl) (fun _ h_ H_=>xmq ⟨_,Tryz.underlying5⟩ Tryz.underlying3 rfl (n:=(((rest.getD 0 0).toNat:Nat):Int)-65) (wr (by omega))) ⟨rfl,rfl⟩
                    refine xex rfl (xij ?_) ?_
                    · intro val20 pc21 hQ_ hX_
                      have e3_:val20 3= .int .i64 ((((rest.getD 0 0).toNat:Nat):Int)-65):=(hQ_ 3 rfl).1
                      obtain ⟨q_,hq0_⟩: ∃ q_:Value→Pcs→Prop,q_=(fun v_ x_=>v_= .int .i64 (((((rest.getD 0 0).toNat:Nat):Int)-65)*26)∧x_=[]):=⟨_,rfl⟩
                      refine ⟨[sv s,undef,(y14 2),(y14 3),.int .i64 (((s.length:Nat):Int)-5),undef,(y9 6),w1,sv rest,(val20 11),(y14 10),sv s,.int .i64 (((s.length:Nat):Int)),.int .i64 (((s.length:Nat):Int)-5),sv s,.int .i64 (((s.length:Nat):Int)),.bool (decide (1400<((s.length:Nat):Int))),.bool (decide (1400<((s.length:Nat):Int))),.int .i64 (((s.length:Nat):Int)-5),.bool (decide (((s.length:Nat):Int)-5<0)),.bool (decide (((s.length:Nat):Int)-5<0)),.bool (decide (((s.length:Nat):Int)-5<0)),sv s,.int .i64 (((s.length:Nat):Int)-5),.int .u8 ((((s.getD (((s.length:Nat):Int)-5).toNat 0).toNat:Nat):Int)),.bool (decide ((((s.getD (((s.length:Nat):Int)-5).toNat 0).toNat:Nat):Int)≠61)),.bool (decide ((((s.getD (((s.length:Nat):Int)-5).toNat 0).toNat:Nat):Int)≠61)),sv s,.int .i64 (((s.length:Nat):Int)-5),.int .i64 ((((s.length:Nat):Int)-5)+1),sv (s.drop ((((((s.length:Nat):Int)-5)+1)).toNat)),.slice a5 ((s.drop ((((((s.length:Nat):Int)-5)+1)).toNat)).length) cp6,.int .i64 ((((s.drop ((((((s.length:Nat):Int)-5)+1)).toNat)).length:Nat):Int)),.int .i64 (((k:Nat):Int)),.bool (decide (((k:Nat):Int)<(((s.drop ((((((s.length:Nat):Int)-5)+1)).toNat)).length:Nat):Int))),(y9 35),(y9 36),(y9 37),(y9 38),(y9 39),(y9 40),(y9 41),(y9 42),(y9 43),sv s,.int .i64 (((s.length:Nat):Int)-5),sv (s.take (((((s.length:Nat):Int)-5)).toNat)),sv rest,.bool (!decide (rest=([]:List UInt8))),sv rest,.int .i64 (((rest.length:Nat):Int)),.bool (decide (((rest.length:Nat):Int)<2)),.bool (decide (((rest.length:Nat):Int)<2)),sv rest,.int .u8 ((((rest.getD 0 0).toNat:Nat):Int)),.bool (decide (65≤(((rest.getD 0 0).toNat:Nat):Int)∧(((rest.getD 0 0).toNat:Nat):Int)≤90)),.bool (!(decide (65≤(((rest.getD 0 0).toNat:Nat):Int)∧(((rest.getD 0 0).toNat:Nat):Int)≤90))),.bool (!(decide (65≤(((rest.getD 0 0).toNat:Nat):Int)∧(((rest.getD 0 0).toNat:Nat):Int)≤90))),.bool (!(decide (65≤(((rest.getD 0 0).toNat:Nat):Int)∧(((rest.getD 0 0).toNat:Nat):Int)≤90))),sv rest,.int .u8 ((((rest.getD 1 0).toNat:Nat):Int)),.bool (decide (65≤(((rest.getD 1 0).toNat:Nat):Int)∧(((rest.getD 1 0).toNat:Nat):Int)≤90)),.bool (!(decide (65≤(((rest.getD 1 0).toNat:Nat):Int)∧(((rest.getD 1 0).toNat:Nat):Int)≤90))),.bool (!(decide (65≤(((rest.getD 1 0).toNat:Nat):Int)∧(((rest.getD 1 0).toNat:Nat):Int)≤90))),(val20 0),(val20 1),(val20 2),.int .i64 ((((rest.getD 0 0).toNat:Nat):Int)-65),(val20 4),(val20 5),(val20 6),(val20 7),(val20 8),(val20 9),(val20 10),(y14 75),(y14 76),(y14 77),(y14 78),(y14 79),(y14 80),(y14 81),(y14 82),(y14 83),(y14 84),(y14 85),(y14 86),(y14 87),(y14 88),(y14 89),(y14 90),(y14 91),(y14 92),(y14 93),(y14 94),(y14 95),(y14 96),(y14 97),(y14 98),(y14 99),(y14 100),undef],[],q_,(by simp only [e3_]),rfl,(fun _ _ z_=>by subst hq0_;exact z_),?_⟩
                      subst hq0_
                      exact xiq (xaq rfl) (fun _ h_ H_=>ycx rfl rfl (wr (by omega))) ⟨rfl,rfl⟩
                    refine xex rfl (xij ?_) ?_
                    · intro val20 pc21 hQ_ hX_
                      obtain ⟨q_,hq0_⟩: ∃ q_:Value→Pcs→Prop,q_=(fun v_ x_=>v_=sv rest∧x_=[]):=⟨_,rfl⟩
                      refine ⟨[sv s,undef,(y14 2),(y14 3),.int .i64 (((s.length:Nat):Int)-5),undef,(y9 6),w1,sv rest,(val20 11),(y14 10),sv s,.int .i64 (((s.length:Nat):Int)),.int .i64 (((s.length:Nat):Int)-5),sv s,.int .i64 (((s.length:Nat):Int)),.bool (decide (1400<((s.length:Nat):Int))),.bool (decide (1400<((s.length:Nat):Int))),.int .i64 (((s.length:Nat):Int)-5),.bool (decide (((s.length:Nat):Int)-5<0)),.bool (decide (((s.length:Nat):Int)-5<0)),.bool (decide (((s.length:Nat):Int)-5<0)),sv s,.int .i64 (((s.length:Nat):Int)-5),.int .u8 ((((s.getD (((s.length:Nat):Int)-5).toNat 0).toNat:Nat):Int)),.bool (decide ((((s.getD (((s.length:Nat):Int)-5).toNat 0).toNat:Nat):Int)≠61)),.bool (decide ((((s.getD (((s.length:Nat):Int)-5).toNat 0).toNat:Nat):Int)≠61)),sv s,.int .i64 (((s.length:Nat):Int)-5),.int .i64 ((((s.length:Nat):Int)-5)+1),sv (s.drop ((((((s.length:Nat):Int)-5)+1)).toNat)),.slice a5 ((s.drop ((((((s.length:Nat):Int)-5)+1)).toNat)).length) cp6,.int .i64 ((((s.drop ((((((s.length:Nat):Int)-5)+1)).toNat)).length:Nat):Int)),.int .i64 (((k:Nat):Int)),.bool (decide (((k:Nat):Int)<(((s.drop ((((((s.length:Nat):Int)-5)+1)).toNat)).length:Nat):Int))),(y9 35),(y9 36),(y9 37),(y9 38),(y9 39),(y9 40),(y9 41),(y9 42),(y9 43),sv s,.int .i64 (((s.length:Nat):Int)-5),sv (s.take (((((s.length:Nat):Int)-5)).toNat)),sv rest,.bool (!decide (rest=([]:List UInt8))),sv rest,.int .i64 (((rest.length:Nat):Int)),.bool (decide (((rest.length:Nat):Int)<2)),.bool (decide (((rest.length:Nat):Int)<2)),sv rest,.int .u8 ((((rest.getD 0 0).toNat:Nat):Int)),.bool (decide (65≤(((rest.getD 0 0).toNat:Nat):Int)∧(((rest.getD 0 0).toNat:Nat):Int)≤90)),.bool (!(decide (65≤(((rest.getD 0 0).toNat:Nat):Int)∧(((rest.getD 0 0).toNat:Nat):Int)≤90))),.bool (!(decide (65≤(((rest.getD 0 0).toNat:Nat):Int)∧(((rest.getD 0 0).toNat:Nat):Int)≤90))),.bool (!(decide (65≤(((rest.getD 0 0).toNat:Nat):Int)∧(((rest.getD 0 0).toNat:Nat):Int)≤90))),sv rest,.int .u8 ((((rest.getD 1 0).toNat:Nat):Int)),.bool (decide (65≤(((rest.getD 1 0).toNat:Nat):Int)∧(((rest.getD 1 0).toNat:Nat):Int)≤90)),.bool (!(decide (65≤(((rest.getD 1 0).toNat:Nat):Int)∧(((rest.getD 1 0).toNat:Nat):Int)≤90))),.bool (!(decide (65≤(((rest.getD 1 0).toNat:Nat):Int)∧(((rest.getD 1 0).toNat:Nat):Int)≤90))),(val20 0),(val20 1),(val20 2),(val20 3),(val20 4),(val20 5),(val20 6),(val20 7),(val20 8),(val20 9),(val20 10),(y14 75),(y14 76),(y14 77),(y14 78),(y14 79),(y14 80),(y14 81),(y14 82),(y14 83),(y14 84),(y14 85),(y14 86),(y14 87),(y14 88),(y14 89),(y14 90),(y14 91),(y14 92),(y14 93),(y14 94),(y14 95),(y14 96),(y14 97),(y14 98),(y14 99),(y14 100),undef],[],q_,rfl,rfl,(fun _ _ z_=>by subst hq0_;exact z_),?_⟩
                      subst hq0_
                      exact xiq (xaq rfl) (fun _ h_ H_=>xaz (v:=sv rest) rfl) ⟨rfl,rfl⟩
                    refine xex rfl (xij ?_) ?_
                    · intro val20 pc21 hQ_ hX_
                      have e5_:val20 5=sv rest:=(hQ_ 5 rfl).1
                      obtain ⟨q_,hq0_⟩: ∃ q_:Value→Pcs→Prop,q_=(fun v_ x_=>v_= .int .u8 ((((rest.getD 1 0).toNat:Nat):Int))∧x_=[]):=⟨_,rfl⟩
                      refine ⟨[sv s,undef,(y14 2),(y14 3),.int .i64 (((s.length:Nat):Int)-5),undef,(y9 6),w1,sv rest,(val20 11),(y14 10),sv s,.int .i64 (((s.length:Nat):Int)),.int .i64 (((s.length:Nat):Int)-5),sv s,.int .i64 (((s.length:Nat):Int)),.bool (decide (1400<((s.length:Nat):Int))),.bool (decide (1400<((s.length:Nat):Int))),.int .i64 (((s.length:Nat):Int)-5),.bool (decide (((s.length:Nat):Int)-5<0)),.bool (decide (((s.length:Nat):Int)-5<0)),.bool (decide (((s.length:Nat):Int)-5<0)),sv s,.int .i64 (((s.length:Nat):Int)-5),.int .u8 ((((s.getD (((s.length:Nat):Int)-5).toNat 0).toNat:Nat):Int)),.bool (decide ((((s.getD (((s.length:Nat):Int)-5).toNat 0).toNat:Nat):Int)≠61)),.bool (decide ((((s.getD (((s.length:Nat):Int)-5).toNat 0).toNat:Nat):Int)≠61)),sv s,.int .i64 (((s.length:Nat):Int)-5),.int .i64 ((((s.length:Nat):Int)-5)+1),sv (s.drop ((((((s.length:Nat):Int)-5)+1)).toNat)),.slice a5 ((s.drop ((((((s.length:Nat):Int)-5)+1)).toNat)).length) cp6,.int .i64 ((((s.drop ((((((s.length:Nat):Int)-5)+1)).toNat)).length:Nat):Int)),.int .i64 (((k:Nat):Int)),.bool (decide (((k:Nat):Int)<(((s.drop ((((((s.length:Nat):Int)-5)+1)).toNat)).length:Nat):Int))),(y9 35),(y9 36),(y9 37),(y9 38),(y9 39),(y9 40),(y9 41),(y9 42),(y9 43),sv s,.int .i64 (((s.length:Nat):Int)-5),sv (s.take (((((s.length:Nat):Int)-5)).toNat)),sv rest,.bool (!decide (rest=([]:List UInt8))),sv rest,.int .i64 (((rest.length:Nat):Int)),.bool (decide (((rest.length:Nat):Int)<2)),.bool (decide (((rest.length:Nat):Int)<2)),sv rest,.int .u8 ((((rest.getD 0 0).toNat:Nat):Int)),.bool (decide (65≤(((rest.getD 0 0).toNat:Nat):Int)∧(((rest.getD 0 0).toNat:Nat):Int)≤90)),.bool (!(decide (65≤(((rest.getD 0 0).toNat:Nat):Int)∧(((rest.getD 0 0).toNat:Nat):Int)≤90))),.bool (!(decide (65≤(((rest.getD 0 0).toNat:Nat):Int)∧(((rest.getD 0 0).toNat:Nat):Int)≤90))),.bool (!(decide (65≤(((rest.getD 0 0).toNat:Nat):Int)∧(((rest.getD 0 0).toNat:Nat):Int)≤90))),sv rest,.int .u8 ((((rest.getD 1 0).toNat:Nat):Int)),.bool (decide (65≤(((rest.getD 1 0).toNat:Nat):Int)∧(((rest.getD 1 0).toNat:Nat):Int)≤90)),.bool (!(decide (65≤(((rest.getD 1 0).toNat:Nat):Int)∧(((rest.getD 1 0).toNat:Nat):Int)≤90))),.bool (!(decide (65≤(((rest.getD 1 0).toNat:Nat):Int)∧(((rest.getD 1 0).toNat:Nat):Int)≤90))),(val20 0),(val20 1),(val20 2),(val20 3),(val20 4),sv rest,(val20 6),(val20 7),(val20 8),(val20 9),(val20 10),(y14 75),(y14 76),(y14 77),(y14 78),(y14 79),(y14 80),(y14 81),(y14 82),(y14 83),(y14 84),(y14 85),(y14 86),(y14 87),(y14 88),(y14 89),(y14 90),(y14 91),(y14 92),(y14 93),(y14 94),(y14 95),(y14 96),(y14 97),(y14 98),(y14 99),(y14 100),undef],[],q_,(by simp only [e5_]),rfl,(fun _ _ z_=>by subst hq0_;exact z_),?_⟩
                      subst hq0_
                      exact xiq (xaq rfl) (fun _ h_ H_=>xlv (l:=rest) (i:=1) Tryz.underlying9 rfl rfl (by omega)) ⟨rfl,rfl⟩
                    refine xex rfl (xij ?_) ?_
                    · intro val20 pc21 hQ_ hX_
                      have e6_:val20 6= .int .u8 ((((rest.getD 1 0).toNat:Nat):Int)):=(hQ_ 6 rfl).1
                      obtain ⟨q_,hq0_⟩: ∃ q_:Value→Pcs→Prop,q_=(fun v_ x_=>v_= .int .u8 ((((rest.getD 1 0).toNat:Nat):Int)-65)∧x_=[]):=⟨_,rfl⟩
                      refine ⟨[sv s,undef,(y14 2),(y14 3),.int .i64 (((s.length:Nat):Int)-5),undef,(y9 6),w1,sv rest,(val20 11),(y14 10),sv s,.int .i64 (((s.length:Nat):Int)),.int .i64 (((s.length:Nat):Int)-5),sv s,.int .i64 (((s.length:Nat):Int)),.bool (decide (1400<((s.length:Nat):Int))),.bool (decide (1400<((s.length:Nat):Int))),.int .i64 (((s.length:Nat):Int)-5),.bool (decide (((s.length:Nat):Int)-5<0)),.bool (decide (((s.length:Nat):Int)-5<0)),.bool (decide (((s.length:Nat):Int)-5<0)),sv s,.int .i64 (((s.length:Nat):Int)-5),.int .u8 ((((s.getD (((s.length:Nat):Int)-5).toNat 0).toNat:Nat):Int)),.bool (decide ((((s.getD (((s.length:Nat):Int)-5).toNat 0).toNat:Nat):Int)≠61)),.bool (decide ((((s.getD (((s.length:Nat):Int)-5).toNat 0).toNat:Nat):Int)≠61)),sv s,.int .i64 (((s.length:Nat):Int)-5),.int .i64 ((((s.length:Nat):Int)-5)+1),sv (s.drop ((((((s.length:Nat):Int)-5)+1)).toNat)),.slice a5 ((s.drop ((((((s.length:Nat):Int)-5)+1)).toNat)).length) cp6,.int .i64 ((((s.drop ((((((s.length:Nat):Int)-5)+1)).toNat)).length:Nat):Int)),.int .i64 (((k:Nat):Int)),.bool (decide (((k:Nat):Int)<(((s.drop ((((((s.length:Nat):Int)-5)+1)).toNat)).length:Nat):Int))),(y9 35),(y9 36),(y9 37),(y9 38),(y9 39),(y9 40),(y9 41),(y9 42),(y9 43),sv s,.int .i64 (((s.length:Nat):Int)-5),sv (s.take (((((s.length:Nat):Int)-5)).toNat)),sv rest,.bool (!decide (rest=([]:List UInt8))),sv rest,.int .i64 (((rest.length:Nat):Int)),.bool (decide (((rest.length:Nat):Int)<2)),.bool (decide (((rest.length:Nat):Int)<2)),sv rest,.int .u8 ((((rest.getD 0 0).toNat:Nat):Int)),.bool (decide (65≤(((rest.getD 0 0).toNat:Nat):Int)∧(((rest.getD 0 0).toNat:Nat):Int)≤90)),.bool (!(decide (65≤(((rest.getD 0 0).toNat:Nat):Int)∧(((rest.getD 0 0).toNat:Nat):Int)≤90))),.bool (!(decide (65≤(((rest.getD 0 0).toNat:Nat):Int)∧(((rest.getD 0 0).toNat:Nat):Int)≤90))),.bool (!(decide (65≤(((rest.getD 0 0).toNat:Nat):Int)∧(((rest.getD 0 0).toNat:Nat):Int)≤90))),sv rest,.int .u8 ((((rest.getD 1 0).toNat:Nat):Int)),.bool (decide (65≤(((rest.getD 1 0).toNat:Nat):Int)∧(((rest.getD 1 0).toNat:Nat):Int)≤90)),.bool (!(decide (65≤(((rest.getD 1 0).toNat:Nat):Int)∧(((rest.getD 1 0).toNat:Nat):Int)≤90))),.bool (!(decide (65≤(((rest.getD 1 0).toNat:Nat):Int)∧(((rest.getD 1 0).toNat:Nat):Int)≤90))),(val20 0),(val20 1),(val20 2),(val20 3),(val20 4),(val20 5),.int .u8 ((((rest.getD 1 0).toNat:Nat):Int)),(val20 7),(val20 8),(val20 9),(val20 10),(y14 75),(y14 76),(y14 77),(y14 78),(y14 79),(y14 80),(y14 81),(y14 82),(y14 83),(y14 84),(y14 85),(y14 86),(y14 87),(y14 88),(y14 89),(y14 90),(y14 91),(y14 92),(y14 93),(y14 94),(y14 95),(y14 96),(y14 97),(y14 98),(y14 99),(y14 100),undef],[],q_,(by simp only [e6_]),rfl,(fun _ _ z_=>by subst hq0_;exact z_),?_⟩
                      subst hq0_
                      exact xiq (xaq rfl) (fun _ h_ H_=>xlq rfl rfl (wr8 (by omega))) ⟨rfl,rfl⟩
                    refine xex rfl (xij ?_) ?_
                    · intro val20 pc21 hQ_ hX_
                      have e7_:val20 7= .int .u8 ((((rest.getD 1 0).toNat:Nat):Int)-65):=(hQ_ 7 rfl).1
                      obtain ⟨q_,hq0_⟩: ∃ q_:Value→Pcs→Prop,q_=(fun v_ x_=>v_= .int .i64 ((((rest.getD 1 0).toNat:Nat):Int)-65)∧x_=[]):=⟨_,rfl⟩
                      refine ⟨[sv s,undef,(y14 2),(y14 3),.int .i64 (((s.length:Nat):Int)-5),undef,(y9 6),w1,sv rest,(val20 11),(y14 10),sv s,.int .i64 (((s.length:Nat):Int)),.int .i64 (((s.length:Nat):Int)-5),sv s,.int .i64 (((s.length:Nat):Int)),.bool (decide (1400<((s.length:Nat):Int))),.bool (decide (1400<((s.length:Nat):Int))),.int .i64 (((s.length:Nat):Int)-5),.bool (decide (((s.length:Nat):Int)-5<0)),.bool (decide (((s.length:Nat):Int)-5<0)),.bool (decide (((s.length:Nat):Int)-5<0)),sv s,.int .i64 (((s.length:Nat):Int)-5),.int .u8 ((((s.getD (((s.length:Nat):Int)-5).toNat 0).toNat:Nat):Int)),.bool (decide ((((s.getD (((s.length:Nat):Int)-5).toNat 0).toNat:Nat):Int)≠61)),.bool (decide ((((s.getD (((s.length:Nat):Int)-5).toNat 0).toNat:Nat):Int)≠61)),sv s,.int .i64 (((s.length:Nat):Int)-5),.int .i64 ((((s.length:Nat):Int)-5)+1),sv (s.drop ((((((s.length:Nat):Int)-5)+1)).toNat)),.slice a5 ((s.drop ((((((s.length:Nat):Int)-5)+1)).toNat)).length) cp6,.int .i64 ((((s.drop ((((((s.length:Nat):Int)-5)+1)).toNat)).length:Nat):Int)),.int .i64 (((k:Nat):Int)),.bool (decide (((k:Nat):Int)<(((s.drop ((((((s.length:Nat):Int)-5)+1)).toNat)).length:Nat):Int))),(y9 35),(y9 36),(y9 37),(y9 38),(y9 39),(y9 40),(y9 41),(y9 42),(y9 43),sv s,.int .i64 (((s.length:Nat):Int)-5),sv (s.take (((((s.length:Nat):Int)-5)).toNat)),sv rest,.bool (!decide (rest=([]:List UInt8))),sv rest,.int .i64 (((rest.length:Nat):Int)),.bool (decide (((rest.length:Nat):Int)<2)),.bool (decide (((rest.length:Nat):Int)<2)),sv rest,.int .u8 ((((rest.getD 0 0).toNat:Nat):Int)),.bool (decide (65≤(((rest.getD 0 0).toNat:Nat):Int)∧(((rest.getD 0 0).toNat:Nat):Int)≤90)),.bool (!(decide (65≤(((rest.getD 0 0).toNat:Nat):Int)∧(((rest.getD 0 0).toNat:Nat):Int)≤90))),.bool (!(decide (65≤(((rest.getD 0 0).toNat:Nat):Int)∧(((rest.getD 0 0).toNat:Nat):Int)≤90))),.bool (!(decide (65≤(((rest.getD 0 0).toNat:Nat):Int)∧(((rest.getD 0 0).toNat:Nat):Int)≤90))),sv rest,.int .u8 ((((rest.getD 1 0).toNat:Nat):Int)),.bool (decide (65≤(((rest.getD 1 0).toNat:Nat):Int)∧(((rest.getD 1 0).toNat:Nat):Int)≤90)),.bool (!(decide (65≤(((rest.getD 1 0).toNat:Nat):Int)∧(((rest.getD 1 0).toNat:Nat):Int)≤90))),.bool (!(decide (65≤(((rest.getD 1 0).toNat:Nat):Int)∧(((rest.getD 1 0).toNat:Nat):Int)≤90))),(val20 0),(val20 1),(val20 2),(val20 3),(val20 4),(val20 5),(val20 6),.int .u8 ((((rest.getD 1 0).toNat:Nat):Int)-65),(val20 8),(val20 9),(val20 10),(y14 75),(y14 76),(y14 77),(y14 78),(y14 79),(y14 80),(y14 81),(y14 82),(y14 83),(y14 84),(y14 85),(y14 86),(y14 87),(y14 88),(y14 89),(y14 90),(y14 91),(y14 92),(y14 93),(y14 94),(y14 95),(y14 96),(y14 97),(y14 98),(y14 99),(y14 100),undef],[],q_,(by simp only [e7_]),rfl,(fun _ _ z_=>by subst hq0_;exact z_),?_⟩
                      subst hq0_
                      exact xiq (xaq rfl) (fun _ h_ H_=>xmq ⟨_,Tryz.underlying5⟩ Tryz.underlying3 rfl (n:=(((rest.getD 1 0).toNat:Nat):Int)-65) (wr (by omega))) ⟨rfl,rfl⟩
                    refine xex rfl (xij ?_) ?_
                    · intro val20 pc21 hQ_ hX_
                      have e4_:val20 4= .int .i64 (((((rest.getD 0 0).toNat:Nat):Int)-65)*26):=(hQ_ 4 rfl).1
                      have e8_:val20 8= .int .i64 ((((rest.getD 1 0).toNat:Nat):Int)-65):=(hQ_ 8 rfl).1
                      obtain ⟨q_,hq0_⟩: ∃ q_:Value→Pcs→Prop,q_=(fun v_ x_=>v_= .int .i64 ((((((rest.getD 0 0).toNat:Nat):Int)-65)*26)+((((rest.getD 1 0).toNat:Nat):Int)-65))∧x_=[]):=⟨_,rfl⟩
                      refine ⟨[sv s,undef,(y14 2),(y14 3),.int .i64 (((s.length:Nat):Int)-5),undef,(y9 6),w1,sv rest,(val20 11),(y14 10),sv s,.int .i64 (((s.length:Nat):Int)),.int .i64 (((s.length:Nat):Int)-5),sv s,.int .i64 (((s.length:Nat):Int)),.bool (decide (1400<((s.length:Nat):Int))),.bool (decide (1400<((s.length:Nat):Int))),.int .i64 (((s.length:Nat):Int)-5),.bool (decide (((s.length:Nat):Int)-5<0)),.bool (decide (((s.length:Nat):Int)-5<0)),.bool (decide (((s.length:Nat):Int)-5<0)),sv s,.int .i64 (((s.length:Nat):Int)-5),.int .u8 ((((s.getD (((s.length:Nat):Int)-5).toNat 0).toNat:Nat):Int)),.bool (decide ((((s.getD (((s.length:Nat):Int)-5).toNat 0).toNat:Nat):Int)≠61)),.bool (decide ((((s.getD (((s.length:Nat):Int)-5).toNat 0).toNat:Nat):Int)≠61)),sv s,.int .i64 (((s.length:Nat):Int)-5),.int .i64 ((((s.length:Nat):Int)-5)+1),sv (s.drop ((((((s.length:Nat):Int)-5)+1)).toNat)),.slice a5 ((s.drop ((((((s.length:Nat):Int)-5)+1)).toNat)).length) cp6,.int .i64 ((((s.drop ((((((s.length:Nat):Int)-5)+1)).toNat)).length:Nat):Int)),.int .i64 (((k:Nat):Int)),.bool (decide (((k:Nat):Int)<(((s.drop ((((((s.length:Nat):Int)-5)+1)).toNat)).length:Nat):Int))),(y9 35),(y9 36),(y9 37),(y9 38),(y9 39),(y9 40),(y9 41),(y9 42),(y9 43),sv s,.int .i64 (((s.length:Nat):Int)-5),sv (s.take (((((s.length:Nat):Int)-5)).toNat)),sv rest,.bool (!decide (rest=([]:List UInt8))),sv rest,.int .i64 (((rest.length:Nat):Int)),.bool (decide (((rest.length:Nat):Int)<2)),.bool (decide (((rest.length:Nat):Int)<2)),sv rest,.int .u8 ((((rest.getD 0 0).toNat:Nat):Int)),.bool (decide (65≤(((rest.getD 0 0).toNat:Nat):Int)∧(((rest.getD 0 0).toNat:Nat):Int)≤90)),.bool (!(decide (65≤(((rest.getD 0 0).toNat:Nat):Int)∧(((rest.getD 0 0).toNat:Nat):Int)≤90))),.bool (!(decide (65≤(((rest.getD 0 0).toNat:Nat):Int)∧(((rest.getD 0 0).toNat:Nat):Int)≤90))),.bool (!(decide (65≤(((rest.getD 0 0).toNat:Nat):Int)∧(((rest.getD 0 0).toNat:Nat):Int)≤90))),sv rest,.int .u8 ((((rest.getD 1 0).toNat:Nat):Int)),.bool (decide (65≤(((rest.getD 1 0).toNat:Nat):Int)∧(((rest.getD 1 0).toNat:Nat):Int)≤90)),.bool (!(decide (65≤(((rest.getD 1 0).toNat:Nat):Int)∧(((rest.getD 1 0).toNat:Nat):Int)≤90))),.bool (!(decide (65≤(((rest.getD 1 0).toNat:Nat):Int)∧(((rest.getD 1 0).toNat:Nat):Int)≤90))),(val20 0),(val20 1),(val20 2),(val20 3),.int .i64 (((((rest.getD 0 0).toNat:Nat):Int)-65)*26),(val20 5),(val20 6),(val20 7),.int .i64 ((((rest.getD 1 0).toNat:Nat):Int)-65),(val20 9),(val20 10),(y14 75),(y14 76),(y14 77),(y14 78),(y14 79),(y14 80),(y14 81),(y14 82),(y14 83),(y14 84),(y14 85),(y14 86),(y14 87),(y14 88),(y14 89),(y14 90),(y14 91),(y14 92),(y14 93),(y14 94),(y14 95),(y14 96),(y14 97),(y14 98),(y14 99),(y14 100),undef],[],q_,(by simp only [e4_,e8_]),rfl,(fun _ _ z_=>by subst hq0_;exact z_),?_⟩
                      subst hq0_
                      exact xiq (xaq rfl) (fun _ h_ H_=>xfj rfl rfl (wr (by omega))) ⟨rfl,rfl⟩
                    refine xex rfl (xij ?_) ?_
                    · intro val20 pc21 hQ_ hX_
                      have e9_:val20 9= .int .i64 ((((((rest.getD 0 0).toNat:Nat):Int)-65)*26)+((((rest.getD 1 0).toNat:Nat):Int)-65)):=(hQ_ 9 rfl).1
                      obtain ⟨q_,hq0_⟩: ∃ q_:Value→Pcs→Prop,q_=(fun v_ x_=>v_= .agg #[.int .i64 ((((((rest.getD 0 0).toNat:Nat):Int)-65)*26)+((((rest.getD 1 0).toNat:Nat):Int)-65)),.int .i64 (-1)]∧x_=[]):=⟨_,rfl⟩
                      refine ⟨[sv s,undef,(y14 2),(y14 3),.int .i64 (((s.length:Nat):Int)-5),undef,(y9 6),w1,sv rest,(val20 11),(y14 10),sv s,.int .i64 (((s.length:Nat):Int)),.int .i64 (((s.length:Nat):Int)-5),sv s,.int .i64 (((s.length:Nat):Int)),.bool (decide (1400<((s.length:Nat):Int))),.bool (decide (1400<((s.length:Nat):Int))),.int .i64 (((s.length:Nat):Int)-5),.bool (decide (((s.length:Nat):Int)-5<0)),.bool (decide (((s.length:Nat):Int)-5<0)),.bool (decide (((s.length:Nat):Int)-5<0)),sv s,.int .i64 (((s.length:Nat):Int)-5),.int .u8 ((((s.getD (((s.length:Nat):Int)-5).toNat 0).toNat:Nat):Int)),.bool (decide ((((s.getD (((s.length:Nat):Int)-5).toNat 0).toNat:Nat):Int)≠61)),.bool (decide ((((s.getD (((s.length:Nat):Int)-5).toNat 0).toNat:Nat):Int)≠61)),sv s,.int .i64 (((s.length:Nat):Int)-5),.int .i64 ((((s.length:Nat):Int)-5)+1),sv (s.drop ((((((s.length:Nat):Int)-5)+1)).toNat)),.slice a5 ((s.drop ((((((s.length:Nat):Int)-5)+1)).toNat)).length) cp6,.int .i64 ((((s.drop ((((((s.length:Nat):Int)-5)+1)).toNat)).length:Nat):Int)),.int .i64 (((k:Nat):Int)),.bool (decide (((k:Nat):Int)<(((s.drop ((((((s.length:Nat):Int)-5)+1)).toNat)).length:Nat):Int))),(y9 35),(y9 36),(y9 37),(y9 38),(y9 39),(y9 40),(y9 41),(y9 42),(y9 43),sv s,.int .i64 (((s.length:Nat):Int)-5),sv (s.take (((((s.length:Nat):Int)-5)).toNat)),sv rest,.bool (!decide (rest=([]:List UInt8))),sv rest,.int .i64 (((rest.length:Nat):Int)),.bool (decide (((rest.length:Nat):Int)<2)),.bool (decide (((rest.length:Nat):Int)<2)),sv rest,.int .u8 ((((rest.getD 0 0).toNat:Nat):Int)),.bool (decide (65≤(((rest.getD 0 0).toNat:Nat):Int)∧(((rest.getD 0 0).toNat:Nat):Int)≤90)),.bool (!(decide (65≤(((rest.getD 0 0).toNat:Nat):Int)∧(((rest.getD 0 0).toNat:Nat):Int)≤90))),.bool (!(decide (65≤(((rest.getD 0 0).toNat:Nat):Int)∧(((rest.getD 0 0).toNat:Nat):Int)≤90))),.bool (!(decide (65≤(((rest.getD 0 0).toNat:Nat):Int)∧(((rest.getD 0 0).toNat:Nat):Int)≤90))),sv rest,.int .u8 ((((rest.getD 1 0).toNat:Nat):Int)),.bool (decide (65≤(((rest.getD 1 0).toNat:Nat):Int)∧(((rest.getD 1 0).toNat:Nat):Int)≤90)),.bool (!(decide (65≤(((rest.getD 1 0).toNat:Nat):Int)∧(((rest.getD 1 0).toNat:Nat):Int)≤90))),.bool (!(decide (65≤(((rest.getD 1 0).toNat:Nat):Int)∧(((rest.getD 1 0).toNat:Nat):Int)≤90))),(val20 0),(val20 1),(val20 2),(val20 3),(val20 4),(val20 5),(val20 6),(val20 7),(val20 8),.int .i64 ((((((rest.getD 0 0).toNat:Nat):Int)-65)*26)+((((rest.getD 1 0).toNat:Nat):Int)-65)),(val20 10),(y14 75),(y14 76),(y14 77),(y14 78),(y14 79),(y14 80),(y14 81),(y14 82),(y14 83),(y14 84),(y14 85),(y14 86),(y14 87),(y14 88),(y14 89),(y14 90),(y14 91),(y14 92),(y14 93),(y14 94),(y14 95),(y14 96),(y14 97),(y14 98),(y14 99),(y14 100),undef],[],q_,(by simp only [e9_]),rfl,(fun _ _ z_=>by subst hq0_;exact z_),?_⟩
                      subst hq0_
                      exact xiq (xaq rfl) (fun _ h_ H_=>xjj xuv wcj (vs:=[(0,.int .i64 ((((((rest.getD 0 0).toNat:Nat):Int)-65)*26)+((((rest.getD 1 0).toNat:Nat):Int)-65))),(1,.int .i64 (-1))]) rfl (cells:=#[.int .i64 ((((((rest.getD 0 0).toNat:Nat):Int)-65)*26)+((((rest.getD 1 0).toNat:Nat):Int)-65)),.int .i64 (-1)]) rfl) ⟨rfl,rfl⟩
                    refine xex rfl (xij ?_) ?_
                    · intro val20 pc21 hQ_ hX_
                      obtain ⟨q_,hq0_⟩: ∃ q_:Value→Pcs→Prop,q_=(fun v_ x_=>∃ b22:Nat,v_= .pointer (some ⟨b22,0,none⟩)∧x_=(([(b22,.cells #[.int .i64 0,.int .i64 0] 112 (0,0))]:Pcs)++[])):=⟨_,rfl⟩
                      refine ⟨[sv s,undef,(y14 2),(y14 3),.int .i64 (((s.length:Nat):Int)-5),undef,(y9 6),w1,sv rest,(val20 11),(y14 10),sv s,.int .i64 (((s.length:Nat):Int)),.int .i64 (((s.length:Nat):Int)-5),sv s,.int .i64 (((s.length:Nat):Int)),.bool (decide (1400<((s.length:Nat):Int))),.bool (decide (1400<((s.length:Nat):Int))),.int .i64 (((s.length:Nat):Int)-5),.bool (decide (((s.length:Nat):Int)-5<0)),.bool (decide (((s.length:Nat):Int)-5<0)),.bool (decide (((s.length:Nat):Int)-5<0)),sv s,.int .i64 (((s.length:Nat):Int)-5),.int .u8 ((((s.getD (((s.length:Nat):Int)-5).toNat 0).toNat:Nat):Int)),.bool (decide ((((s.getD (((s.length:Nat):Int)-5).toNat 0).toNat:Nat):Int)≠61)),.bool (decide ((((s.getD (((s.length:Nat):Int)-5).toNat 0).toNat:Nat):Int)≠61)),sv s,.int .i64 (((s.length:Nat):Int)-5),.int .i64 ((((s.length:Nat):Int)-5)+1),sv (s.drop ((((((s.length:Nat):Int)-5)+1)).toNat)),.slice a5 ((s.drop ((((((s.length:Nat):Int)-5)+1)).toNat)).length) cp6,.int .i64 ((((s.drop ((((((s.length:Nat):Int)-5)+1)).toNat)).length:Nat):Int)),.int .i64 (((k:Nat):Int)),.bool (decide (((k:Nat):Int)<(((s.drop ((((((s.length:Nat):Int)-5)+1)).toNat)).length:Nat):Int))),(y9 35),(y9 36),(y9 37),(y9 38),(y9 39),(y9 40),(y9 41),(y9 42),(y9 43),sv s,.int .i64 (((s.length:Nat):Int)-5),sv (s.take (((((s.length:Nat):Int)-5)).toNat)),sv rest,.bool (!decide (rest=([]:List UInt8))),sv rest,.int .i64 (((rest.length:Nat):Int)),.bool (decide (((rest.length:Nat):Int)<2)),.bool (decide (((rest.length:Nat):Int)<2)),sv rest,.int .u8 ((((rest.getD 0 0).toNat:Nat):Int)),.bool (decide (65≤(((rest.getD 0 0).toNat:Nat):Int)∧(((rest.getD 0 0).toNat:Nat):Int)≤90)),.bool (!(decide (65≤(((rest.getD 0 0).toNat:Nat):Int)∧(((rest.getD 0 0).toNat:Nat):Int)≤90))),.bool (!(decide (65≤(((rest.getD 0 0).toNat:Nat):Int)∧(((rest.getD 0 0).toNat:Nat):Int)≤90))),.bool (!(decide (65≤(((rest.getD 0 0).toNat:Nat):Int)∧(((rest.getD 0 0).toNat:Nat):Int)≤90))),sv rest,.int .u8 ((((rest.getD 1 0).toNat:Nat):Int)),.bool (decide (65≤(((rest.getD 1 0).toNat:Nat):Int)∧(((rest.getD 1 0).toNat:Nat):Int)≤90)),.bool (!(decide (65≤(((rest.getD 1 0).toNat:Nat):Int)∧(((rest.getD 1 0).toNat:Nat):Int)≤90))),.bool (!(decide (65≤(((rest.getD 1 0).toNat:Nat):Int)∧(((rest.getD 1 0).toNat:Nat):Int)≤90))),(val20 0),(val20 1),(val20 2),(val20 3),(val20 4),(val20 5),(val20 6),(val20 7),(val20 8),(val20 9),(val20 10),(y14 75),(y14 76),(y14 77),(y14 78),(y14 79),(y14 80),(y14 81),(y14 82),(y14 83),(y14 84),(y14 85),(y14 86),(y14 87),(y14 88),(y14 89),(y14 90),(y14 91),(y14 92),(y14 93),(y14 94),(y14 95),(y14 96),(y14 97),(y14 98),(y14 99),(y14 100),undef],[],q_,rfl,rfl,(fun _ _ z_=>by subst hq0_;exact z_),?_⟩
                      subst hq0_
                      exact zow (xaq rfl) xuv rfl fun b_=>⟨b_,rfl,rfl⟩
                    exact yax rfl
                  intro val20 pc21 hQ_ hX_
                  have e0_:val20 0=sv rest:=(hQ_ 0 (by decide)).1
                  have e1_:val20 1= .int .u8 ((((rest.getD 0 0).toNat:Nat):Int)):=(hQ_ 1 (by decide)).1
                  have e2_:val20 2= .int .u8 ((((rest.getD 0 0).toNat:Nat):Int)-65):=(hQ_ 2 (by decide)).1
                  have e3_:val20 3= .int .i64 ((((rest.getD 0 0).toNat:Nat):Int)-65):=(hQ_ 3 (by decide)).1
                  have e4_:val20 4= .int .i64 (((((rest.getD 0 0).toNat:Nat):Int)-65)*26):=(hQ_ 4 (by decide)).1
                  have e5_:val20 5=sv rest:=(hQ_ 5 (by decide)).1
                  have e6_:val20 6= .int .u8 ((((rest.getD 1 0).toNat:Nat):Int)):=(hQ_ 6 (by decide)).1
                  have e7_:val20 7= .int .u8 ((((rest.getD 1 0).toNat:Nat):Int)-65):=(hQ_ 7 (by decide)).1
                  have e8_:val20 8= .int .i64 ((((rest.getD 1 0).toNat:Nat):Int)-65):=(hQ_ 8 (by decide)).1
                  have e9_:val20 9= .int .i64 ((((((rest.getD 0 0).toNat:Nat):Int)-65)*26)+((((rest.getD 1 0).toNat:Nat):Int)-65)):=(hQ_ 9 (by decide)).1
                  have e10_:val20 10= .agg #[.int .i64 ((((((rest.getD 0 0).toNat:Nat):Int)-65)*26)+((((rest.getD 1 0).toNat:Nat):Int)-65)),.int .i64 (-1)]:=(hQ_ 10 (by decide)).1
                  obtain ⟨e11_,x11_⟩:=hG11_ _ _ (hQ_ 11 (by decide))
                  have x12_:pc21 12=X1:=hX_ 12 (by decide)
                  clear hQ_ hX_
                  generalize Gb22 (val20 11) (pc21 11)=b22 at*
                  refine zmz (Φ:=fun h_=>St h [] p4 h_ (([]:Pcs)++(pc21 12++(pc21 11++[])))) ?_ (fun h_ H_=>H_.swap')
                  rw [x12_,x11_]
                  refine xdx (L':=([]:Pcs)++(X1++(([(b22,.cells #[.int .i64 0,.int .i64 0] 112 (0,0))]:Pcs)++[]))) (by simp) ?_
                  refine xew (tm':=[sv s,undef,(y14 2),(y14 3),.int .i64 (((s.length:Nat):Int)-5),undef,(y9 6),w1,sv rest,.pointer (some ⟨b22,0,none⟩),(y14 10),sv s,.int .i64 (((s.length:Nat):Int)),.int .i64 (((s.length:Nat):Int)-5),sv s,.int .i64 (((s.length:Nat):Int)),.bool (decide (1400<((s.length:Nat):Int))),.bool (decide (1400<((s.length:Nat):Int))),.int .i64 (((s.length:Nat):Int)-5),.bool (decide (((s.length:Nat):Int)-5<0)),.bool (decide (((s.length:Nat):Int)-5<0)),.bool (decide (((s.length:Nat):Int)-5<0)),sv s,.int .i64 (((s.length:Nat):Int)-5),.int .u8 ((((s.getD (((s.length:Nat):Int)-5).toNat 0).toNat:Nat):Int)),.bool (decide ((((s.getD (((s.length:Nat):Int)-5).toNat 0).toNat:Nat):Int)≠61)),.bool (decide ((((s.getD (((s.length:Nat):Int)-5).toNat 0).toNat:Nat):Int)≠61)),sv s,.int .i64 (((s.length:Nat):Int)-5),.int .i64 ((((s.length:Nat):Int)-5)+1),sv (s.drop ((((((s.length:Nat):Int)-5)+1)).toNat)),.slice a5 ((s.drop ((((((s.length:Nat):Int)-5)+1)).toNat)).length) cp6,.int .i64 ((((s.drop ((((((s.length:Nat):Int)-5)+1)).toNat)).length:Nat):Int)),.int .i64 (((k:Nat):Int)),.bool (decide (((k:Nat):Int)<(((s.drop ((((((s.length:Nat):Int)-5)+1)).toNat)).length:Nat):Int))),(y9 35),(y9 36),(y9 37),(y9 38),(y9 39),(y9 40),(y9 41),(y9 42),(y9 43),sv s,.int .i64 (((s.length:Nat):Int)-5),sv (s.take (((((s.length:Nat):Int)-5)).toNat)),sv rest,.bool (!decide (rest=([]:List UInt8))),sv rest,.int .i64 (((rest.length:Nat):Int)),.bool (decide (((rest.length:Nat):Int)<2)),.bool (decide (((rest.length:Nat):Int)<2)),sv rest,.int .u8 ((((rest.getD 0 0).toNat:Nat):Int)),.bool (decide (65≤(((rest.getD 0 0).toNat:Nat):Int)∧(((rest.getD 0 0).toNat:Nat):Int)≤90)),.bool (!(decide (65≤(((rest.getD 0 0).toNat:Nat):Int)∧(((rest.getD 0 0).toNat:Nat):Int)≤90))),.bool (!(decide (65≤(((rest.getD 0 0).toNat:Nat):Int)∧(((rest.getD 0 0).toNat:Nat):Int)≤90))),.bool (!(decide (65≤(((rest.getD 0 0).toNat:Nat):Int)∧(((rest.getD 0 0).toNat:Nat):Int)≤90))),sv rest,.int .u8 ((((rest.getD 1 0).toNat:Nat):Int)),.bool (decide (65≤(((rest.getD 1 0).toNat:Nat):Int)∧(((rest.getD 1 0).toNat:Nat):Int)≤90)),.bool (!(decide (65≤(((rest.getD 1 0).toNat:Nat):Int)∧(((rest.getD 1 0).toNat:Nat):Int)≤90))),.bool (!(decide (65≤(((rest.getD 1 0).toNat:Nat):Int)∧(((rest.getD 1 0).toNat:Nat):Int)≤90))),sv rest,.int .u8 ((((rest.getD 0 0).toNat:Nat):Int)),.int .u8 ((((rest.getD 0 0).toNat:Nat):Int)-65),.int .i64 ((((rest.getD 0 0).toNat:Nat):Int)-65),.int .i64 (((((rest.getD 0 0).toNat:Nat):Int)-65)*26),sv rest,.int .u8 ((((rest.getD 1 0).toNat:Nat):Int)),.int .u8 ((((rest.getD 1 0).toNat:Nat):Int)-65),.int .i64 ((((rest.getD 1 0).toNat:Nat):Int)-65),.int .i64 ((((((rest.getD 0 0).toNat:Nat):Int)-65)*26)+((((rest.getD 1 0).toNat:Nat):Int)-65)),.agg #[.int .i64 ((((((rest.getD 0 0).toNat:Nat):Int)-65)*26)+((((rest.getD 1 0).toNat:Nat):Int)-65)),.int .i64 (-1)],(y14 75),(y14 76),(y14 77),(y14 78),(y14 79),(y14 80),(y14 81),(y14 82),(y14 83),(y14 84),(y14 85),(y14 86),(y14 87),(y14 88),(y14 89),(y14 90),(y14 91),(y14 92),(y14 93),(y14 94),(y14 95),(y14 96),(y14 97),(y14 98),(y14 99),(y14 100),undef]) (by simp only [e0_,e1_,e2_,e3_,e4_,e5_,e6_,e7_,e8_,e9_,e10_,e11_]) ?_
                  refine xdx (L':=([]:Pcs)++(X1++(([(b22,.cells #[.int .i64 0,.int .i64 0] 112 (0,0))]:Pcs)++[]))) rfl ?_
                  refine xjw (List.Perm.append_left _ (List.perm_append_comm_assoc _ _ _)) ?_
                  refine xdx (L':=([]:Pcs)++(([(b22,.cells #[.int .i64 0,.int .i64 0] 112 (0,0))]:Pcs)++(X1++[]))) rfl ?_
                  refine xjw (List.perm_append_comm_assoc ([]:Pcs) ([(b22,.cells #[.int .i64 0,.int .i64 0] 112 (0,0))]:Pcs) _) ?_
                  refine xdx (L':=([(b22,.cells #[.int .i64 0,.int .i64 0] 112 (0,0))]:Pcs)++(X1++[])) rfl ?_
                  refine xjq (xaq rfl) xqk rfl (v:=.agg #[.int .i64 ((((((rest.getD 0 0).toNat:Nat):Int)-65)*26)+((((rest.getD 1 0).toNat:Nat):Int)-65)),.int .i64 (-1)]) rfl (i:=0) rfl rfl rfl (Nat.le_of_ble_eq_true rfl) (cs2:=[.int .i64 ((((((rest.getD 0 0).toNat:Nat):Int)-65)*26)+((((rest.getD 1 0).toNat:Nat):Int)-65)),.int .i64 (-1)]) rfl (xdx (L':=([(b22,.cells #[.int .i64 ((((((rest.getD 0 0).toNat:Nat):Int)-65)*26)+((((rest.getD 1 0).toNat:Nat):Int)-65)),.int .i64 (-1)] 112 (0,0))]:Pcs)++(X1++[])) rfl ?_)
                  refine xav ?_
                  refine xaw ?_
                  refine xak ?_
                  refine xaj (xaq rfl) (fun h_ H_=>xaz (v:=sv rest) rfl) rfl ?_
                  refine xaj (xaq rfl) (fun h_ H_=>xsq (l:=rest) (a:=2) Tryz.underlying9 rfl (.nat (z:=2) _ rfl) (by omega)) rfl ?_
                  refine xaj (xaq rfl) (fun h_ H_=>xax (v:=sv (rest.drop 2)) rfl) (tm':=_::_::_::_::_::_::_::_::_::_) rfl ?_
                  refine xav ?_
                  refine xaw ?_
                  refine xaw ?_
                  refine xak ?_
                  refine xaj (xaq rfl) (fun h_ H_=>xaz (v:=sv (rest.drop 2)) rfl) rfl ?_
                  refine xaj (xaq rfl) (fun h_ H_=>xwq (l:=rest.drop 2) (m:=([]:List UInt8)) rfl rfl) rfl ?_
                  refine xav ?_
                  by_cases cc25:rest.drop 2=([]:List UInt8)
                  · refine xcx rfl (xfz (decide_eq_true cc25)) ?_
                    refine xcj ?_
                    refine xak ?_
                    refine xaj (xaq rfl) (fun h_ H_=>xaz (v:=w1) rfl) (tm':=[_,_,_,_,_,_,_,_,_,_,_,_,_,_,_,_,_,_,_,_,_,_,_,_,_,_,_,_,_,_,_,_,_,_,_,_,_,_,_,_,_,_,_,_,_,_,_,_,_,_,_,_,_,_,_,_,_,_,_,_,_,_,_,_,_,_,_,_,_,_,_,_,_,_,_,_,_,_,_,_,_,_,_,_,_,_,_,_,_,_,_,_,_,_,_,_,_,_,_,_,_,_]) rfl ?_
                    refine xaj (xaq rfl) (fun h_ H_=>xeq H_ yxx xqk rfl (i:=0) rfl (vs:=[.int .i64 ((((((rest.getD 0 0).toNat:Nat):Int)-65)*26)+((((rest.getD 1 0).toNat:Nat):Int)-65)),.int .i64 (-1)]) rfl rfl) rfl ?_
                    refine xfq ([(b22,.cells #[.int .i64 ((((((rest.getD 0 0).toNat:Nat):Int)-65)*26)+((((rest.getD 1 0).toNat:Nat):Int)-65)),.int .i64 (-1)] 112 (0,0))]:Pcs) (xaq rfl) Tryz.underlying79 xqk xuv (Nat.le_of_ble_eq_true rfl) (vs:=[(0,.agg #[.int .i64 ((((((rest.getD 0 0).toNat:Nat):Int)-65)*26)+((((rest.getD 1 0).toNat:Nat):Int)-65)),.int .i64 (-1)])]) rfl rfl (es:=[[.int .i64 ((((((rest.getD 0 0).toNat:Nat):Int)-65)*26)+((((rest.getD 1 0).toNat:Nat):Int)-65)),.int .i64 (-1)]]) rfl rfl rfl fun v26 X27 o28=>?_
                    refine xjw (List.Perm.append_left _ (List.perm_append_comm_assoc _ _ _)) ?_
                    refine xdx (L':=([(b22,.cells #[.int .i64 ((((((rest.getD 0 0).toNat:Nat):Int)-65)*26)+((((rest.getD 1 0).toNat:Nat):Int)-65)),.int .i64 (-1)] 112 (0,0))]:Pcs)++(X1++(X27++[]))) rfl ?_
                    refine xkq ([(b22,.cells #[.int .i64 ((((((rest.getD 0 0).toNat:Nat):Int)-65)*26)+((((rest.getD 1 0).toNat:Nat):Int)-65)),.int .i64 (-1)] 112 (0,0))]:Pcs) X1 X27 (xaq rfl) Tryz.underlying79 xqk xuv rfl zuk Tryz.underlying79 rfl rfl o1 o28 (xrj rfl) (by rw [xoz];simp only [List.length_cons,List.length_nil];omega) (by decide) fun v29 X30 o31=>?_
                    refine xew (tm':=[_,_,_,_,_,_,_,_,_,_,_,_,_,_,_,_,_,_,_,_,_,_,_,_,_,_,_,_,_,_,_,_,_,_,_,_,_,_,_,_,_,_,_,_,_,_,_,_,_,_,_,_,_,_,_,_,_,_,_,_,_,_,_,_,_,_,_,_,_,_,_,_,_,_,_,_,_,_,_,_,_,_,_,_,_,_,_,_,_,_,_,_,_,_,_,_,_,_,_,_,_,_]) rfl ?_
                    refine xaj (xaq rfl) (fun h_ H_=>xax (v:=v29) rfl) rfl ?_
                    refine xav ?_
                    refine xdq ?_
                    exact fun h_ H_=>IH15 _ _ (by simp only [List.length_drop];omega) h_ ⟨(out++[((((((rest.getD 0 0).toNat:Nat):Int)-65)*26)+((((rest.getD 1 0).toNat:Nat):Int)-65),(-1))]),(rest.drop 2),v29,X30,rfl,(y_of rfl),(by rw [List.length_append];simp only [List.length_drop,List.length_singleton];omega),(by rw [← hR];exact (yfx (by rw [hp2,if_pos ‹_›];rfl)).symm),(o31.as (yaq out ((((((rest.getD 0 0).toNat:Nat):Int)-65)*26)+((((rest.getD 1 0).toNat:Nat):Int)-65),(-1)))),H_.drop⟩
                  · refine xbv rfl (xgx (decide_eq_false cc25)) ?_
                    refine xaw ?_
                    refine xaw ?_
                    have hne2:=List.length_pos_iff.2 ‹¬ rest.drop 2=[]›
                    have hne3:3≤rest.length:=by rw [List.length_drop] at hne2;omega
                    refine xak ?_
                    refine xaj (xaq rfl) (fun h_ H_=>xaz (v:=sv (rest.drop 2)) rfl) rfl ?_
                    refine xaj (xaq rfl) (fun h_ H_=>xlv (l:=rest.drop 2) (i:=0) Tryz.underlying9 rfl rfl (by omega)) (tm':=[_,_,_,_,_,_,_,_,_,_,_,_,_,_,_,_,_,_,_,_,_,_,_,_,_,_,_,_,_,_,_,_,_,_,_,_,_,_,_,_,_,_,_,_,_,_,_,_,_,_,_,_,_,_,_,_,_,_,_,_,_,_,_,_,_,_,_,_,_,_,_,_,_,_,_,_,_,_,_,_,_,_,_,_,_,_,_,_,_,_,_,_,_,_,_,_,_,_,_,_,_,_]) rfl ?_
                    refine xaj (xaq rfl) (fun h_ H_=>xax (v:=.int .u8 (((((rest.drop 2).getD 0 0).toNat:Nat):Int))) rfl) rfl ?_
                    refine xav ?_
                    refine xcw ?_
                    refine xaw ?_
                    refine xak ?_
                    refine xaj (xaq rfl) (fun h_ H_=>xaz (v:=.int .u8 (((((rest.drop 2).getD 0 0).toNat:Nat):Int))) rfl) rfl ?_
                    refine xaj (xaq rfl) (fun h_ H_=>xtz rfl rfl) (tm':=[_,_,_,_,_,_,_,_,_,_,_,_,_,_,_,_,_,_,_,_,_,_,_,_,_,_,_,_,_,_,_,_,_,_,_,_,_,_,_,_,_,_,_,_,_,_,_,_,_,_,_,_,_,_,_,_,_,_,_,_,_,_,_,_,_,_,_,_,_,_,_,_,_,_,_,_,_,_,_,_,_,_,_,_,_,_,_,_,_,_,_,_,_,_,_,_,_,_,_,_,_,_]) rfl ?_
                    refine xaj (xaq rfl) (fun h_ H_=>xax (v:=.bool (decide (((((rest.drop 2).getD 0 0).toNat:Nat):Int)=126))) rfl) rfl ?_
                    refine xav ?_
                    by_cases cc32:((((rest.drop 2).getD 0 0).toNat:Nat):Int)=126
                    · refine xbv rfl (decide_eq_true cc32) ?_
                      refine xak ?_
                      refine xaj (xaq rfl) (fun h_ H_=>xbz xyq rfl (a':=⟨b22,1,none⟩) rfl) rfl ?_
                      refine xjq (xaq rfl) tS3 rfl (v:=.int .i64 10) rfl (i:=0) rfl rfl rfl (Nat.le_of_ble_eq_true rfl) (cs2:=[.int .i64 ((((((rest.getD 0 0).toNat:Nat):Int)-65)*26)+((((rest.getD 1 0).toNat:Nat):Int)-65)),.int .i64 10]) rfl (xdx (L':=([(b22,.cells #[.int .i64 ((((((rest.getD 0 0).toNat:Nat):Int)-65)*26)+((((rest.getD 1 0).toNat:Nat):Int)-65)),.int .i64 10] 112 (0,0))]:Pcs)++(X1++[])) rfl ?_)
                      refine xav ?_
                      refine xdq ?_
                      refine xak ?_
                      refine xaj (xaq rfl) (fun h_ H_=>xaz (v:=sv (rest.drop 2)) rfl) (tm':=[_,_,_,_,_,_,_,_,_,_,_,_,_,_,_,_,_,_,_,_,_,_,_,_,_,_,_,_,_,_,_,_,_,_,_,_,_,_,_,_,_,_,_,_,_,_,_,_,_,_,_,_,_,_,_,_,_,_,_,_,_,_,_,_,_,_,_,_,_,_,_,_,_,_,_,_,_,_,_,_,_,_,_,_,_,_,_,_,_,_,_,_,_,_,_,_,_,_,_,_,_,_]) rfl ?_
                      refine xaj (xaq rfl) (fun h_ H_=>xsq (l:=rest.drop 2) (a:=1) Tryz.underlying9 rfl (.nat (z:=1) _ rfl) (by omega)) rfl ?_
                      refine xaj (xaq rfl) (fun h_ H_=>xax (v:=sv ((rest.drop 2).drop 1)) rfl) rfl ?_
                      refine xav ?_
                      refine xak ?_
                      refine xaj (xaq rfl) (fun h_ H_=>xaz (v:=w1) rfl) (tm':=[_,_,_,_,_,_,_,_,_,_,_,_,_,_,_,_,_,_,_,_,_,_,_,_,_,_,_,_,_,_,_,_,_,_,_,_,_,_,_,_,_,_,_,_,_,_,_,_,_,_,_,_,_,_,_,_,_,_,_,_,_,_,_,_,_,_,_,_,_,_,_,_,_,_,_,_,_,_,_,_,_,_,_,_,_,_,_,_,_,_,_,_,_,_,_,_,_,_,_,_,_,_]) rfl ?_
                      refine xaj (xaq rfl) (fun h_ H_=>xeq H_ yxx xqk rfl (i:=0) rfl (vs:=[.int .i64 ((((((rest.getD 0 0).toNat:Nat):Int)-65)*26)+((((rest.getD 1 0).toNat:Nat):Int)-65)),.int .i64 10]) rfl rfl) rfl ?_
                      refine xfq ([(b22,.cells #[.int .i64 ((((((rest.getD 0 0).toNat:Nat):Int)-65)*26)+((((rest.getD 1 0).toNat:Nat):Int)-65)),.int .i64 10] 112 (0,0))]:Pcs) (xaq rfl) Tryz.underlying79 xqk xuv (Nat.le_of_ble_eq_true rfl) (vs:=[(0,.agg #[.int .i64 ((((((rest.getD 0 0).toNat:Nat):Int)-65)*26)+((((rest.getD 1 0).toNat:Nat):Int)-65)),.int .i64 10])]) rfl rfl (es:=[[.int .i64 ((((((rest.getD 0 0).toNat:Nat):Int)-65)*26)+((((rest.getD 1 0).toNat:Nat):Int)-65)),.int .i64 10]]) rfl rfl rfl fun v33 X34 o35=>?_
                      refine xjw (List.Perm.append_left _ (List.perm_append_comm_assoc _ _ _)) ?_
                      refine xdx (L':=([(b22,.cells #[.int .i64 ((((((rest.getD 0 0).toNat:Nat):Int)-65)*26)+((((rest.getD 1 0).toNat:Nat):Int)-65)),.int .i64 10] 112 (0,0))]:Pcs)++(X1++(X34++[]))) rfl ?_
                      refine xkq ([(b22,.cells #[.int .i64 ((((((rest.getD 0 0).toNat:Nat):Int)-65)*26)+((((rest.getD 1 0).toNat:Nat):Int)-65)),.int .i64 10] 112 (0,0))]:Pcs) X1 X34 (xaq rfl) Tryz.underlying79 xqk xuv rfl zuk Tryz.underlying79 rfl rfl o1 o35 (xrj rfl) (by rw [xoz];simp only [List.length_cons,List.length_nil];omega) (by decide) fun v36 X37 o38=>?_
                      refine xew (tm':=[_,_,_,_,_,_,_,_,_,_,_,_,_,_,_,_,_,_,_,_,_,_,_,_,_,_,_,_,_,_,_,_,_,_,_,_,_,_,_,_,_,_,_,_,_,_,_,_,_,_,_,_,_,_,_,_,_,_,_,_,_,_,_,_,_,_,_,_,_,_,_,_,_,_,_,_,_,_,_,_,_,_,_,_,_,_,_,_,_,_,_,_,_,_,_,_,_,_,_,_,_,_]) rfl ?_
                      refine xaj (xaq rfl) (fun h_ H_=>xax (v:=v36) rfl) rfl ?_
                      refine xav ?_
                      refine xdq ?_
                      exact fun h_ H_=>IH15 _ _ (by simp only [List.length_drop];omega) h_ ⟨(out++[((((((rest.getD 0 0).toNat:Nat):Int)-65)*26)+((((rest.getD 1 0).toNat:Nat):Int)-65),10)]),((rest.drop 2).drop 1),v36,X37,rfl,(y_of rfl),(by rw [List.length_append];simp only [List.length_drop,List.length_singleton];omega),(by rw [← hR];exact (yfx (by rw [hp2,if_neg ‹_›,if_pos (by omega)];rfl)).symm),(o38.as (yaq out ((((((rest.getD 0 0).toNat:Nat):Int)-65)*26)+((((rest.getD 1 0).toNat:Nat):Int)-65),10))),H_.drop⟩
                    · refine xcx rfl (decide_eq_false cc32) ?_
                      refine xaw ?_
                      refine xak ?_
                      refine xaj (xaq rfl) (fun h_ H_=>xaz (v:=.int .u8 (((((rest.drop 2).getD 0 0).toNat:Nat):Int))) rfl) rfl ?_
                      refine xaj (xaq rfl) (fun h_ H_=>xgz rfl rfl) (tm':=[_,_,_,_,_,_,_,_,_,_,_,_,_,_,_,_,_,_,_,_,_,_,_,_,_,_,_,_,_,_,_,_,_,_,_,_,_,_,_,_,_,_,_,_,_,_,_,_,_,_,_,_,_,_,_,_,_,_,_,_,_,_,_,_,_,_,_,_,_,_,_,_,_,_,_,_,_,_,_,_,_,_,_,_,_,_,_,_,_,_,_,_,_,_,_,_,_,_,_,_,_,_]) rfl ?_
                      refine xaj (xaq rfl) (fun h_ H_=>xaz (v:=.bool (decide (((((rest.drop 2).getD 0 0).toNat:Nat):Int)<32))) rfl) rfl ?_
                      by_cases cc39:((((rest.drop 2).getD 0 0).toNat:Nat):Int)<32
                      · refine xdk (xfk rfl rfl (decide_eq_true cc39)) rfl ?_
                        refine xdk (xfk rfl rfl (decide_eq_true cc39)) (tm':=[_,_,_,_,_,_,_,_,_,_,_,_,_,_,_,_,_,_,_,_,_,_,_,_,_,_,_,_,_,_,_,_,_,_,_,_,_,_,_,_,_,_,_,_,_,_,_,_,_,_,_,_,_,_,_,_,_,_,_,_,_,_,_,_,_,_,_,_,_,_,_,_,_,_,_,_,_,_,_,_,_,_,_,_,_,_,_,_,_,_,_,_,_,_,_,_,_,_,_,_,_,_]) rfl ?_
                        refine xaj (xaq rfl) (fun h_ H_=>xdz rfl (decide_eq_true cc39) (v:=.bool (true)) rfl) rfl ?_
                        refine xaj (xaq rfl) (fun h_ H_=>xax (v:=.bool (true)) rfl) rfl ?_
                        refine xav ?_
                        refine xbv rfl rfl ?_
                        refine xaw ?_
                        refine xak ?_
                        refine xaj (xaq rfl) (fun h_ H_=>xax (v:=.slice none 0 0) rfl) (tm':=_::_::_::_) rfl ?_
                        refine xaj (xaq rfl) (fun h_ H_=>xax (v:=.bool (false)) rfl) rfl ?_
                        refine xav ?_
                        refine xck Tryz.func39 rfl (vs:=[.slice none 0 0,.bool (false)]) (fun h_ H_=>⟨.slice none 0 0,_,rfl,rfl,⟨.bool (false),_,rfl,rfl,rfl⟩⟩) (v:=.tuple #[.slice none 0 0,.bool (false)]) rfl ?_
                        have hN:formB s=none:=by
                          rw [formB,if_neg hf1,if_neg hf2,← hR]
                          refine xzw (List.length_pos_iff.1 hne) ?_
                          first | exact xmv (.inl (by omega)) | exact xmv (.inr (.inl (by assumption))) | exact xmv (.inr (.inr (by assumption))) | (rw [hp2,if_neg ‹_›,if_neg (by omega),if_pos (by omega)])
                        exact fun h_ H_=>K _ _ ⟨.slice none 0 0,[],by rw [hN];rfl,by rw [hN];exact OwnS.empty _ _,(H_.sub (List.nil_sublist _)).new⟩
                      · refine xaj (xfw rfl rfl (decide_eq_false cc39)) (fun h_ H_=>xaz (v:=.int .u8 (((((rest.drop 2).getD 0 0).toNat:Nat):Int))) rfl) rfl ?_
                        refine xaj (xfw rfl rfl (decide_eq_false cc39)) (fun h_ H_=>xmw rfl rfl) (tm':=[_,_,_,_,_,_,_,_,_,_,_,_,_,_,_,_,_,_,_,_,_,_,_,_,_,_,_,_,_,_,_,_,_,_,_,_,_,_,_,_,_,_,_,_,_,_,_,_,_,_,_,_,_,_,_,_,_,_,_,_,_,_,_,_,_,_,_,_,_,_,_,_,_,_,_,_,_,_,_,_,_,_,_,_,_,_,_,_,_,_,_,_,_,_,_,_,_,_,_,_,_,_]) rfl ?_
                        refine xaj (xaq rfl) (fun h_ H_=>xdw rfl (decide_eq_false cc39) (v:=.bool (decide (125<((((rest.drop 2).getD 0 0).toNat:Nat):Int)))) rfl) rfl ?_
                        refine xaj (xaq rfl) (fun h_ H_=>xax (v:=.bool (decide (125<((((rest.drop 2).getD 0 0).toNat:Nat):Int)))) rfl) rfl ?_
                        refine xav ?_
                        by_cases cc40:125<((((rest.drop 2).getD 0 0).toNat:Nat):Int)
                        · refine xbv rfl (decide_eq_true cc40) ?_
                          refine xaw ?_
                          refine xak ?_
                          refine xaj (xaq rfl) (fun h_ H_=>xax (v:=.slice none 0 0) rfl) (tm':=_::_::_::_) rfl ?_
                          refine xaj (xaq rfl) (fun h_ H_=>xax (v:=.bool (false)) rfl) rfl ?_
                          refine xav ?_
                          refine xck Tryz.func39 rfl (vs:=[.slice none 0 0,.bool (false)]) (fun h_ H_=>⟨.slice none 0 0,_,rfl,rfl,⟨.bool (false),_,rfl,rfl,rfl⟩⟩) (v:=.tuple #[.slice none 0 0,.bool (false)]) rfl ?_
                          have hN:formB s=none:=by
                            rw [formB,if_neg hf1,if_neg hf2,← hR]
                            refine xzw (List.length_pos_iff.1 hne) ?_
                            first | exact xmv (.inl (by omega)) | exact xmv (.inr (.inl (by assumption))) | exact xmv (.inr (.inr (by assumption))) | (rw [hp2,if_neg ‹_›,if_neg (by omega),if_pos (by omega)])
                          exact fun h_ H_=>K _ _ ⟨.slice none 0 0,[],by rw [hN];rfl,by rw [hN];exact OwnS.empty _ _,(H_.sub (List.nil_sublist _)).new⟩
                        · refine xcx rfl (decide_eq_false cc40) ?_
                          refine xak ?_
                          refine xaj (xaq rfl) (fun h_ H_=>xaz (v:=.int .u8 (((((rest.drop 2).getD 0 0).toNat:Nat):Int))) rfl) rfl ?_
                          refine xaj (xaq rfl) (fun h_ H_=>xmq ⟨_,Tryz.underlying5⟩ Tryz.underlying3 rfl (n:=((((rest.drop 2).getD 0 0).toNat:Nat):Int)) (wrB _)) (tm':=[_,_,_,_,_,_,_,_,_,_,_,_,_,_,_,_,_,_,_,_,_,_,_,_,_,_,_,_,_,_,_,_,_,_,_,_,_,_,_,_,_,_,_,_,_,_,_,_,_,_,_,_,_,_,_,_,_,_,_,_,_,_,_,_,_,_,_,_,_,_,_,_,_,_,_,_,_,_,_,_,_,_,_,_,_,_,_,_,_,_,_,_,_,_,_,_,_,_,_,_,_,_]) rfl ?_
                          refine xaj (xaq rfl) (fun h_ H_=>xbz xyq rfl (a':=⟨b22,1,none⟩) rfl) rfl ?_
                          refine xjq (xaq rfl) tS3 rfl (v:=.int .i64 (((((rest.drop 2).getD 0 0).toNat:Nat):Int))) rfl (i:=0) rfl rfl rfl (Nat.le_of_ble_eq_true rfl) (cs2:=[.int .i64 ((((((rest.getD 0 0).toNat:Nat):Int)-65)*26)+((((rest.getD 1 0).toNat:Nat):Int)-65)),.int .i64 (((((rest.drop 2).getD 0 0).toNat:Nat):Int))]) rfl (xdx (L':=([(b22,.cells #[.int .i64 ((((((rest.getD 0 0).toNat:Nat):Int)-65)*26)+((((rest.getD 1 0).toNat:Nat):Int)-65)),.int .i64 (((((rest.drop 2).getD 0 0).toNat:Nat):Int))] 112 (0,0))]:Pcs)++(X1++[])) rfl ?_)
                          refine xav ?_
                          refine xdq ?_
                          refine xak ?_
                          refine xaj (xaq rfl) (fun h_ H_=>xaz (v:=sv (rest.drop 2)) rfl) rfl ?_
                          refine xaj (xaq rfl) (fun h_ H_=>xsq (l:=rest.drop 2) (a:=1) Tryz.underlying9 rfl (.nat (z:=1) _ rfl) (by omega)) (tm':=[_,_,_,_,_,_,_,_,_,_,_,_,_,_,_,_,_,_,_,_,_,_,_,_,_,_,_,_,_,_,_,_,_,_,_,_,_,_,_,_,_,_,_,_,_,_,_,_,_,_,_,_,_,_,_,_,_,_,_,_,_,_,_,_,_,_,_,_,_,_,_,_,_,_,_,_,_,_,_,_,_,_,_,_,_,_,_,_,_,_,_,_,_,_,_,_,_,_,_,_,_,_]) rfl ?_
                          refine xaj (xaq rfl) (fun h_ H_=>xax (v:=sv ((rest.drop 2).drop 1)) rfl) rfl ?_
                          refine xav ?_
                          refine xak ?_
                          refine xaj (xaq rfl) (fun h_ H_=>xaz (v:=w1) rfl) rfl ?_
                          refine xaj (xaq rfl) (fun h_ H_=>xeq H_ yxx xqk rfl (i:=0) rfl (vs:=[.int .i64 ((((((rest.getD 0 0).toNat:Nat):Int)-65)*26)+((((rest.getD 1 0).toNat:Nat):Int)-65)),.int .i64 (((((rest.drop 2).getD 0 0).toNat:Nat):Int))]) rfl rfl) (tm':=[_,_,_,_,_,_,_,_,_,_,_,_,_,_,_,_,_,_,_,_,_,_,_,_,_,_,_,_,_,_,_,_,_,_,_,_,_,_,_,_,_,_,_,_,_,_,_,_,_,_,_,_,_,_,_,_,_,_,_,_,_,_,_,_,_,_,_,_,_,_,_,_,_,_,_,_,_,_,_,_,_,_,_,_,_,_,_,_,_,_,_,_,_,_,_,_,_,_,_,_,_,_]) rfl ?_
                          refine xfq ([(b22,.cells #[.int .i64 ((((((rest.getD 0 0).toNat:Nat):Int)-65)*26)+((((rest.getD 1 0).toNat:Nat):Int)-65)),.int .i64 (((((rest.drop 2).getD 0 0).toNat:Nat):Int))] 112 (0,0))]:Pcs) (xaq rfl) Tryz.underlying79 xqk xuv (Nat.le_of_ble_eq_true rfl) (vs:=[(0,.agg #[.int .i64 ((((((rest.getD 0 0).toNat:Nat):Int)-65)*26)+((((rest.getD 1 0).toNat:Nat):Int)-65)),.int .i64 (((((rest.drop 2).getD 0 0).toNat:Nat):Int))])]) rfl rfl (es:=[[.int .i64 ((((((rest.getD 0 0).toNat:Nat):Int)-65)*26)+((((rest.getD 1 0).toNat:Nat):Int)-65)),.int .i64 (((((rest.drop 2).getD 0 0).toNat:Nat):Int))]]) rfl rfl rfl fun v41 X42 o43=>?_
                          refine xjw (List.Perm.append_left _ (List.perm_append_comm_assoc _ _ _)) ?_
                          refine xdx (L':=([(b22,.cells #[.int .i64 ((((((rest.getD 0 0).toNat:Nat):Int)-65)*26)+((((rest.getD 1 0).toNat:Nat):Int)-65)),.int .i64 (((((rest.drop 2).getD 0 0).toNat:Nat):Int))] 112 (0,0))]:Pcs)++(X1++(X42++[]))) rfl ?_
                          refine xkq ([(b22,.cells #[.int .i64 ((((((rest.getD 0 0).toNat:Nat):Int)-65)*26)+((((rest.getD 1 0).toNat:Nat):Int)-65)),.int .i64 (((((rest.drop 2).getD 0 0).toNat:Nat):Int))] 112 (0,0))]:Pcs) X1 X42 (xaq rfl) Tryz.underlying79 xqk xuv rfl zuk Tryz.underlying79 rfl rfl o1 o43 (xrj rfl) (by rw [xoz];simp only [List.length_cons,List.length_nil];omega) (by decide) fun v44 X45 o46=>?_
                          refine xaj (xaq rfl) (fun h_ H_=>xax (v:=v44) rfl) (tm':=_::_::_::_::_::_::_::_::_) rfl ?_
                          refine xav ?_
                          refine xdq ?_
                          exact fun h_ H_=>IH15 _ _ (by simp only [List.length_drop];omega) h_ ⟨(out++[((((((rest.getD 0 0).toNat:Nat):Int)-65)*26)+((((rest.getD 1 0).toNat:Nat):Int)-65),((((rest.drop 2).getD 0 0).toNat:Nat):Int))]),((rest.drop 2).drop 1),v44,X45,rfl,(y_of rfl),(by rw [List.length_append];simp only [List.length_drop,List.length_singleton];omega),(by rw [← hR];exact (yfx (by rw [hp2,if_neg ‹_›,if_neg (by omega),if_neg (by omega)];rfl)).symm),(o46.as (yaq out ((((((rest.getD 0 0).toNat:Nat):Int)-65)*26)+((((rest.getD 1 0).toNat:Nat):Int)-65),((((rest.drop 2).getD 0 0).toNat:Nat):Int)))),H_.drop⟩
                · refine xbv rfl (xgx (decide_eq_false cc19)) ?_
                  refine xaw ?_
                  refine xak ?_
                  refine xaj (xaq rfl) (fun h_ H_=>xax (v:=.slice none 0 0) rfl) rfl ?_
                  refine xaj (xaq rfl) (fun h_ H_=>xax (v:=.bool (false)) rfl) rfl ?_
                  refine xav ?_
                  refine xck Tryz.func39 rfl (vs:=[.slice none 0 0,.bool (false)]) (fun h_ H_=>⟨.slice none 0 0,_,rfl,rfl,⟨.bool (false),_,rfl,rfl,rfl⟩⟩) (v:=.tuple #[.slice none 0 0,.bool (false)]) rfl ?_
                  have hN:formB s=none:=by
                    rw [formB,if_neg hf1,if_neg hf2,← hR]
                    refine xzw (List.length_pos_iff.1 hne) ?_
                    first | exact xmv (.inl (by omega)) | exact xmv (.inr (.inl (by assumption))) | exact xmv (.inr (.inr (by assumption))) | (rw [hp2,if_neg ‹_›,if_neg (by omega),if_pos (by omega)])
                  exact fun h_ H_=>K _ _ ⟨.slice none 0 0,[],by rw [hN];rfl,by rw [hN];exact OwnS.empty _ _,(H_.sub (List.nil_sublist _)).new⟩
              · refine xdk (xfk rfl rfl (xgx (decide_eq_false cc18))) (tm':=_::_::_::_::_::_::_::_::_::_::_::_::_::_::_::_::_::_::_::_::_::_::_::_::_::_::_::_::_::_::_::_::_::_::_::_::_::_::_::_::_::_::_::_::_::_::_::_::_::_::_::_::_::_::_::_::_::_::_::_::_) rfl ?_
                refine xdk (xfk rfl rfl (xgx (decide_eq_false cc18))) rfl ?_
                refine xdk (xfk rfl rfl (xgx (decide_eq_false cc18))) rfl ?_
                refine xdk (xfk rfl rfl (xgx (decide_eq_false cc18))) (tm':=_::_::_::_::_::_::_::_::_::_::_::_::_::_::_::_::_::_::_::_::_::_::_::_::_::_::_::_::_::_::_::_::_::_::_::_::_::_::_::_::_::_::_::_::_::_::_::_::_::_::_::_::_::_::_::_::_::_::_::_::_::_::_::_) rfl ?_
                refine xaj (xaq rfl) (fun h_ H_=>xdz rfl (xgx (decide_eq_false cc18)) (v:=.bool (true)) rfl) rfl ?_
                refine xav ?_
                refine xbv rfl rfl ?_
                refine xaw ?_
                refine xak ?_
                refine xaj (xaq rfl) (fun h_ H_=>xax (v:=.slice none 0 0) rfl) rfl ?_
                refine xaj (xaq rfl) (fun h_ H_=>xax (v:=.bool (false)) rfl) (tm':=_::_::_::_::_) rfl ?_
                refine xav ?_
                refine xck Tryz.func39 rfl (vs:=[.slice none 0 0,.bool (false)]) (fun h_ H_=>⟨.slice none 0 0,_,rfl,rfl,⟨.bool (false),_,rfl,rfl,rfl⟩⟩) (v:=.tuple #[.slice none 0 0,.bool (false)]) rfl ?_
                have hN:formB s=none:=by
                  rw [formB,if_neg hf1,if_neg hf2,← hR]
                  refine xzw (List.length_pos_iff.1 hne) ?_
                  first | exact xmv (.inl (by omega)) | exact xmv (.inr (.inl (by assumption))) | exact xmv (.inr (.inr (by assumption))) | (rw [hp2,if_neg ‹_›,if_neg (by omega),if_pos (by omega)])
                exact fun h_ H_=>K _ _ ⟨.slice none 0 0,[],by rw [hN];rfl,by rw [hN];exact OwnS.empty _ _,(H_.sub (List.nil_sublist _)).new⟩
end Go.Proofs.YtphalmjpbnffcaaGreatDoor
namespace Go.Proofs.YtphalmjpbnffcaaGreatDoor
open Go.X Go.X.Cent Go.Conc
set_option maxRecDepth 10000
set_option synthInstance.maxSize 2000
set_option synthInstance.maxHeartbeats 400000

theorem c42 (h:Heap) (l:By) (c:UInt8) (hl:l.length<4294967281):CallsX Tryz.prog .lone 42 #[sv l,sv ([c])] h fun v h'=>∃ w X,v=w∧OwnS 9 1 w (scs (cutAfter c l)) X∧New h h' X:=by
  refine xbk (Φ:=fun h_=>St h [] (fun _=>none) h_ []) Tryz.func42 rfl (tm:=[_,_,_,_,_,_,_,_,_,_]) rfl ?_ (St.start h _ (fun _ _ e=>by cases e))
  intro c₀ cs Stop K
  refine xaw ?_
  refine xak ?_
  refine xaj (xaq rfl) (fun h_ H_=>xax (v:=.slice none 0 0) rfl) rfl ?_
  refine xav ?_
  refine xaw ?_
  refine xak ?_
  refine xaj (xaq rfl) (fun h_ H_=>xaz (v:=sv l) rfl) rfl ?_
  refine xaj (xaq rfl) (fun h_ H_=>xaz (v:=sv ([c])) rfl) (tm':=[_,_,_,_,_,_,_,_,_,_]) rfl ?_
  refine xaj (xaq rfl) (fun h_ H_=>xaz (v:=sv ([c])) rfl) rfl ?_
  refine xaj (xaq rfl) (fun h_ H_=>xjx (l:=[c]) Tryz.underlying9 rfl) rfl ?_
  refine xdx (L':=([]:Pcs)++[]) rfl ?_
  refine xhx (xaq rfl) (first:=[]) (cap:=[]) rfl rfl fC71 (R:=fun v_ h_=>∃ w1:Value,∃ X2:Pcs,v_=w1∧(OwnS 9 1 w1 (scs (cutAfter c l)) X2)∧St h [] (fun _=>none) h_ (([]:Pcs)++(X2++[]))) (fun h_ H_=>(c71 _ l c (by omega)).mono fun v_ h2_ ⟨w1,X2,e_,o3,N_⟩=>⟨w1,X2,e_,o3,H_.callNA N_⟩) fun v_=>?_
  refine xgj fun w1=>xgj fun X2=>xez fun ev_=>xez fun o3=>?_
  have ev_:=ev_.symm;subst ev_
  refine xdx (L':=([]:Pcs)++(X2++[])) rfl ?_
  refine xew (tm':=[_,_,_,_,_,_,_,_,_,_]) rfl ?_
  refine xaj (xaq rfl) (fun h_ H_=>xax (v:=w1) rfl) rfl ?_
  refine xav ?_
  refine xck Tryz.func42 rfl (vs:=[w1]) (fun h_ H_=>⟨w1,_,rfl,rfl,rfl⟩) (v:=w1) rfl ?_
  exact fun h_ H_=>K _ _ ⟨_,_,rfl,o3,by simpa using H_.new⟩
end Go.Proofs.YtphalmjpbnffcaaGreatDoor
