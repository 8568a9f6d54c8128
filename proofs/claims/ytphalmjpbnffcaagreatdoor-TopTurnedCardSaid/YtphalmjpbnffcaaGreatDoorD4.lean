/-
  Part of proofs about cords and rosters in a file: a lone run, and what it computes. No condition.
-/
import Derived.Test.YtphalmjpbnffcaaGreatDoorD1
import Derived.Test.YtphalmjpbnffcaaGreatDoorD2
namespace Go.X
open Go.Conc
section
variable {P:Program} {md:Md} {f:FuncId} {r:Rd} {df:List Deferred} {k:List Item} {cs:List Frame} {Stop:Goroutine→Heap→Prop} {ops rest:List Oper} {tm:List Value}
  {h₀:Heap} {B₀:List Nat} {p:PHeap} {A C:Pcs} {ty:TypeId} {pos:String} {aft:Array Edge} {gd:Option (Nat × Bool)}
theorem zlq (z:Value): ∀ n:Nat,(List.replicate n [z]).flatten=List.replicate n z
  | 0=>rfl
  | n+1=>by simp [List.replicate_succ,zlq z n]
theorem wdw {dd:Nat} {sT eT:TypeId} {x y:Operand} {n by':Nat} {z z1:Value} (A:Pcs) (hm:Met ops tm ⟨some dd,.makeSlice sT x y,ty,pos,aft,gd⟩ true) (hT:P.underlying sT=some (.slice eT)) (hs:sizeT P eT=some 1) (hz:zeroT P eT=some z) (hzs:z.cells=#[z1])
    (hb:bytesT P eT=some by') (hx:evl tm x= .int .i64 ((n:Nat):Int)) (hy:evl tm y= .int .i64 ((n:Nat):Int)) (hn:n≤1000) (hb2:by'≤2 ^ 20)
    (nx: ∀ v X,OwnS eT 1 v (List.replicate n [z1]) X→RL P md f r df k cs Stop ops rest (tm.set dd v) (fun h=>St h₀ B₀ p h (A++(X++C)))):
    RL P md f r df k cs Stop ops (⟨some dd,.makeSlice sT x y,ty,pos,aft,gd⟩::rest) tm (fun h=>St h₀ B₀ p h (A++C)):=by
  refine xtw (K:=fun v h'=>∃ X,OwnS eT 1 v (List.replicate n [z1]) X∧St h₀ B₀ p h' (A++(X++C))) hm rfl (fun h s=>?_) fun v=>xgx fun X=>xez fun o=>nx v X o
  have hbuild: ∀ b,OwnS eT 1 (.slice (some ⟨b,0,none⟩) n n) (List.replicate n [z1]) [(b,.cells (List.replicate n z1).toArray eT (0,0))]:=fun b=>
    OwnS.build (by rw [zlq]) (fun e he=>by rw [List.eq_of_mem_replicate he];rfl) (by simp) (by omega)
  obtain ⟨info,hi,hib⟩: ∃ i,P.info? eT=some i∧i.bytes=by':=by
    unfold bytesT at hb
    cases e:P.info? eT with
    | none=>rw [e] at hb;cases hb
    | some i=>rw [e] at hb;exact ⟨i,rfl,Option.some.inj hb⟩
  have hw:IntKind.i64.wrap ((n:Nat):Int)=((n:Nat):Int):=wr (by omega)
  have hmul:by'*n≤2 ^ 20*1000:=Nat.mul_le_mul hb2 hn
  unfold Ex
  simp only [execOp,hx,hy]
  refine xbq ?_
  unfold Instr.makeSlice
  refine xbq (xdv hT ?_)
  simp only [asInt]
  refine xbq (xbz ?_)
  refine xbq (xbz ?_)
  refine xbq (xow hi ?_)
  simp only [hw,hib]
  rw [if_neg (by
    have h1: ¬ ((n:Nat):Int)<0:=by omega
    have h2: ¬ ((by':Nat):Int)*((n:Nat):Int)>2 ^ 48:=by
      have:((by':Nat):Int)*((n:Nat):Int)=((by'*n:Nat):Int):=by simp
      rw [this];omega
    simp only [Bool.or_eq_true,decide_eq_true_eq]
    rintro ((z | z) | z)
    · rcases z with z | z
      · exact h1 z
      · exact h2 z
    · exact h1 z
    · omega)]
  have ask: ∀ (b:Nat) (K:Unit→Heap→Prop),K () h→wpS P (askRoom b) h K:=by
    intro b K hK
    unfold askRoom
    split
    · exact ⟨rfl,hK⟩
    · exact xbz hK
  refine xbq (ask _ _ ?_)
  refine xbq (xik hs ?_)
  simp only [Int.toNat_natCast,Nat.mul_one]
  have fin: ∀ h':Heap,St h₀ B₀ p h' ((h.size,.cells (List.replicate n z1).toArray eT (0,0))::(A++C))→St h₀ B₀ p h' (A++([(h.size,Obj.cells (List.replicate n z1).toArray eT (0,0))]++C)):=fun h' s'=>s'.perm (by simpa using (List.perm_middle (l₁:=A) (l₂:=C)).symm)
  by_cases h0:n=0
  · subst h0
    simp only [if_true]
    refine xbq (xbz ?_)
    rw [show (Array.range 0).map ((#[]:Array Value)[· % (#[]:Array Value).size]!)=(List.replicate 0 z1).toArray from by rw [show Array.range 0=(#[]:Array Nat) from by simp,Array.map_empty];rfl]
    refine xbq (xpq ?_)
    refine xbz ?_
    exact xbz ⟨_,rfl,_,hbuild h.size,fin _ (s.push _)⟩
  · rw [if_neg h0]
    refine xbq (xlz hz ?_)
    refine xbq (xbz ?_)
    have hc:(Array.range n).map (z.cells[· % z.cells.size]!)=(List.replicate n z1).toArray:=by
      rw [hzs]
      apply Array.ext'
      simp only [Array.toList_map,Array.toList_range,List.size_toArray,List.length_cons,List.length_nil]
      have e:(fun x:Nat=>(#[z1][x % (0+1)]!:Value))=fun _=>z1:=funext fun x=>by rw [Nat.zero_add,Nat.mod_one];rfl
      rw [e,List.map_const',List.length_range]
    rw [hc]
    refine xbq (xpq ?_)
    refine xbz ?_
    exact xbz ⟨_,rfl,_,hbuild h.size,fin _ (s.push _)⟩
theorem wdv {dd:Nat} {sT eT:TypeId} {x y:Operand} {m:Int} {by':Nat} {z z1:Value} (A:Pcs) (hm:Met ops tm ⟨some dd,.makeSlice sT x y,ty,pos,aft,gd⟩ true) (hT:P.underlying sT=some (.slice eT)) (hs:sizeT P eT=some 1) (hz:zeroT P eT=some z) (hzs:z.cells=#[z1])
    (hb:bytesT P eT=some by') (hx:evl tm x= .int .i64 m) (hy:evl tm y= .int .i64 m) (h0:0≤m) (hn:m≤1000) (hb2:by'≤2 ^ 20)
    (nx: ∀ v X,OwnS eT 1 v (List.replicate m.toNat [z1]) X→RL P md f r df k cs Stop ops rest (tm.set dd v) (fun h=>St h₀ B₀ p h (A++(X++C)))):
    RL P md f r df k cs Stop ops (⟨some dd,.makeSlice sT x y,ty,pos,aft,gd⟩::rest) tm (fun h=>St h₀ B₀ p h (A++C)):=by
  have e:m=((m.toNat:Nat):Int):=by omega
  exact wdw A hm hT hs hz hzs hb (by rw [hx,← e]) (by rw [hy,← e]) (by omega) hb2 nx
end
end Go.X
namespace Go.X
open Go.Conc

def SW3 (F:Nat→Oper→List Value→Value→Prop):Nat→List Oper→List Value→List Value→Prop
  | _,[],tm,tm'=>tm=tm'
  | i,o::rest,tm,tm'=>∃ v,F i o tm v∧SW3 F (i+1) rest (putl tm o.dst v) tm'

theorem yxk {F:Nat→Oper→List Value→Value→Prop}: ∀ {rest:List Oper} {b:Nat} {tm tmF:List Value},SW3 F b rest tm tmF→
    (∀ (i j:Nat) (o o':Oper) (d:Nat),rest[i]?=some o→rest[j]?=some o'→o.dst=some d→o'.dst=some d→i=j)→
    tmF.length=tm.length∧(∀ x,(∀ (j:Nat) (o:Oper),rest[j]?=some o→o.dst≠some x)→tmF[x]?=tm[x]?)∧
    ∀ (i:Nat) (o:Oper),rest[i]?=some o→ ∃ tmi v,F (b+i) o tmi v∧tmi.length=tm.length∧(∀ x,(∃ (j:Nat) (o':Oper),j<i∧rest[j]?=some o'∧o'.dst=some x)→tmi[x]?=tmF[x]?)∧
      (∀ x,(∀ (j:Nat) (o':Oper),j<i→rest[j]?=some o'→o'.dst≠some x)→tmi[x]?=tm[x]?)∧ ∀ x,o.dst=some x→tmF[x]?=(putl tmi o.dst v)[x]?
  | [],b,tm,tmF,h,_=>by
    subst h
    exact ⟨rfl,fun _ _=>rfl,fun i o hi=>by simp at hi⟩
  | o₀::rest,b,tm,tmF,h,hd=>by
    obtain ⟨v,ht,hs⟩:=h
    obtain ⟨h1,h2,h3⟩:=yxk hs fun i j o o' d hi hj ho ho'=>by
      have:=hd (i+1) (j+1) o o' d (by simpa using hi) (by simpa using hj) ho ho'
      omega
    have hfresh: ∀ x,o₀.dst=some x→ ∀ (j:Nat) (o:Oper),rest[j]?=some o→o.dst≠some x:=fun x hx j o hj ho=>by
      have:=hd 0 (j+1) o₀ o x rfl (by simpa using hj) hx ho
      omega
    have hF0: ∀ x,o₀.dst=some x→tmF[x]?=(putl tm o₀.dst v)[x]?:=fun x hx=>h2 x (hfresh x hx)
    refine ⟨by rw [h1,xnx],fun x hx=>?_,fun i o hi=>?_⟩
    · rw [h2 x fun j o hj=>hx (j+1) o (by simpa using hj),xrj (hx 0 o₀ rfl)]
    · cases i with
      | zero=>
        simp at hi;subst hi
        refine ⟨tm,v,ht,rfl,fun x hx=>?_,fun _ _=>rfl,hF0⟩
        obtain ⟨j,_,hj,_⟩:=hx
        omega
      | succ i=>
        obtain ⟨tmi,v',t1,t2,t3,t4,t5⟩:=h3 i o (by simpa using hi)
        refine ⟨tmi,v',by rw [show b+(i+1)=b+1+i from by omega];exact t1,by rw [t2,xnx],fun x hx=>?_,fun x hx=>?_,t5⟩
        · obtain ⟨j,o',hj,ho',hx'⟩:=hx
          cases j with
          | zero=>
            simp at ho';subst ho'
            rw [t4 x fun j o' _ hj'=>hfresh x hx' j o' hj',hF0 x hx']
          | succ j=>exact t3 x ⟨j,o',by omega,by simpa using ho',hx'⟩
        · rw [t4 x fun j o' hj ho'=>hx (j+1) o' (by omega) (by simpa using ho'),xrj (hx 0 o₀ (by omega) rfl)]

def afterI (cl:List (List Nat)) (ops:List Oper) (s i:Nat):Bool:=match ops[s]? with
  | some os=>behind cl os i
  | none=>false

def Op3 (P:Program) (md:Md) (ops:List Oper) (cl:List (List Nat)) (s:Nat) (Base0 Base1:Heap→Prop) (i:Nat) (o:Oper) (tm:List Value) (v:Value):Prop:=
  noDefer o.op=true∧((i=s∧Met ops tm o true∧ ∀ h,Base0 h→(v=undef∧wpS P (execOp (evl tm) o) h fun n h'=>n= .skip∧Base1 h')∨
      ∀ (c:Frame) (cs:List Frame) (Stop:Goroutine→Heap→Prop),(∀ v' h',v'=v∧Base1 h'→Reach P md (G (c.finish v') cs) h' Stop)→wpS P (execOp (evl tm) o) h (Upon P md c cs Stop))∨
    (i≠s∧Met ops tm o true∧(behind cl o s=false→OpTo P md tm o Base0 v)∧(afterI cl ops s i=false→OpTo P md tm o Base1 v))∨
    (i≠s∧Met ops tm o false∧v=undef))

section
variable {P:Program} {md:Md} {Base0 Base1:Heap→Prop} {ops:List Oper} {m s:Nat} {cl:List (List Nat)} {f:FuncId} {r:Rd} {df:List Deferred} {k:List Item} {cs:List Frame} {Stop:Goroutine→Heap→Prop} {tm tmF:List Value}

theorem zyj [Stb Base0] [Stb Base1] {id:Nat} (m s:Nat) (cl:List (List Nat)) (hmix:P.follows .mixedOrders=true) (hst:stable ops m cl=true) (hm:m≤ops.length) (hsm:s<m) (sw:SW3 (Op3 P md ops cl s Base0 Base1) 0 (ops.take m) tm tmF)
    (n:RL P md f r df k cs Stop ops (ops.drop m) tmF Base1):RS P md (G (FL f r tm df (.code (.region id ops.toArray true)::k)) cs) Base0 Stop:=by
  refine ytq fun t=>?_
  unfold Region.schedule
  rw [hmix]
  simp only [Bool.true_or,if_true]
  obtain ⟨so,e,hord⟩:=ylj hst hm t
  rw [e]
  have hget: ∀ {i:Nat} {o:Oper},i<m→ops[i]?=some o→(ops.take m)[i]?=some o:=fun hi ho=>by rw [List.getElem?_take,if_pos hi];exact ho
  have hget': ∀ {i:Nat} {o:Oper},(ops.take m)[i]?=some o→i<m∧ops[i]?=some o:=fun ho=>by
    rw [List.getElem?_take] at ho
    split at ho
    · exact ⟨by assumption,ho⟩
    · cases ho
  have hdist: ∀ (i j:Nat) (o o':Oper) (d:Nat),(ops.take m)[i]?=some o→(ops.take m)[j]?=some o'→o.dst=some d→o'.dst=some d→i=j:=fun i j o o' d hi hj ho ho'=>by
    obtain ⟨hi,hio⟩:=hget' hi
    obtain ⟨hj,hjo⟩:=hget' hj
    exact (((xiz hst hio).2.2 hi).2 j o' d hj hjo ho').1.resolve_right fun hne=>hne ho
  obtain ⟨hlen,hrest,hturn⟩:=yxk sw hdist
  have stb: ∀ b:Bool,Stb (if b=true then Base1 else Base0):=fun b=>by cases b <;> simp only [Bool.false_eq_true,if_false,if_true] <;> infer_instance
  have main: ∀ (so:List Nat) (l:Array Bool) (tmc:List Value),Ord ops m l so→l.size=ops.length→tmc.length=tm.length→
      (∀ x,(∃ (j:Nat) (o:Oper),j<m∧l.getD j false=true∧ops[j]?=some o∧o.dst=some x)→tmc[x]?=tmF[x]?)→
      (∀ x,(∀ (j:Nat) (o:Oper),j<m→l.getD j false=true→ops[j]?=some o→o.dst≠some x)→tmc[x]?=tm[x]?)→
      (∀ (k:Nat) (o:Oper),l.getD k false=true→ops[k]?=some o→ ∀ x∈preds o,l.getD x false=true)→
      RS P md (G (FL f r tmc df (.inRegion ops.toArray (so++List.range' m (ops.length-m))::k)) cs) (if l.getD s false=true then Base1 else Base0) Stop:=by
    intro so
    induction so with
    | nil=>
      intro l tmc hord _ hl h1 h2 _
      cases hord with
      | nil hall=>
      have:tmc=tmF:=by
        refine List.ext_getElem? fun x=>?_
        by_cases hx: ∃ (j:Nat) (o:Oper),j<m∧ops[j]?=some o∧o.dst=some x
        · obtain ⟨j,o,hj,ho,hd⟩:=hx
          exact h1 x ⟨j,o,hj,hall j hj,ho,hd⟩
        · rw [h2 x fun j o hj _ ho hd=>hx ⟨j,o,hj,ho,hd⟩]
          exact (hrest x fun j o hjo hd=>hx ⟨j,o,(hget' hjo).1,(hget' hjo).2,hd⟩).symm
      subst this
      rw [List.nil_append,if_pos (hall s hsm)]
      have:=n (ops.take m) (List.take_append_drop m ops).symm
      rw [List.length_take,Nat.min_eq_left hm,List.length_drop] at this
      exact this
    | cons i so ih=>
      intro l tmc hord hsz hl h1 h2 hpc
      cases hord with
      | @cons _ _ _ o hi ho hn hp hs=>
      have hil:=(List.getElem?_eq_some_iff.1 ho).1
      have hlooks:=((xiz hst ho).2.2 hi)
      obtain ⟨tmi,v,ht,t2,t3,t4,t5⟩:=hturn i o (hget hi ho)
      rw [Nat.zero_add] at ht
      have hni:l.getD i false=false:=by rw [← ybw (by omega)];exact hn
      have hself:(l.setIfInBounds i true).getD i false=true:=by simp [Array.getD,hsz,hil]
      have hag: ∀ x∈looks ops o,tmc[x]?=tmi[x]?:=by
        intro x hx
        by_cases hw: ∃ (j:Nat) (o':Oper),j<m∧ops[j]?=some o'∧o'.dst=some x
        · obtain ⟨j,o',hj,ho',hd⟩:=hw
          have hpj:=(hlooks.2 j o' x hj ho' hd).2 hx
          rw [h1 x ⟨j,o',hj,hp j hpj,ho',hd⟩,t3 x ⟨j,o',(xiz hst ho).1 j hpj,hget hj ho',hd⟩]
        · rw [h2 x fun j o' hj _ ho' hd=>hw ⟨j,o',hj,ho',hd⟩,t4 x fun j o' _ ho' hd=>hw ⟨j,o',(hget' ho').1,(hget' ho').2,hd⟩]
      have next:RS P md (G (FL f r (putl tmc o.dst v) df (.inRegion ops.toArray (so++List.range' m (ops.length-m))::k)) cs) (if (l.setIfInBounds i true).getD s false=true then Base1 else Base0) Stop:=by
        refine ih (l.setIfInBounds i true) _ hs (by simpa using hsz) (by rw [xnx];exact hl) (fun x hx=>?_) (fun x hx=>?_) (fun k' o' hd ho' y hy=>?_)
        · obtain ⟨j,o',hj,hlj,ho',hd⟩:=hx
          by_cases e:i=j
          · subst e
            rw [ho] at ho';cases ho'
            rw [t5 x hd,hd]
            simp only [putl]
            by_cases hxl:x<tm.length
            · rw [List.getElem?_set_self (by rw [hl];exact hxl),List.getElem?_set_self (by rw [t2];exact hxl)]
            · rw [List.getElem?_eq_none (by rw [List.length_set,hl];exact Nat.le_of_not_lt hxl),List.getElem?_eq_none (by rw [List.length_set,t2];exact Nat.le_of_not_lt hxl)]
          · have hne:o.dst≠some x:=(hlooks.2 j o' x hj ho' hd).1.resolve_left e
            rw [getD_set_ne false e] at hlj
            rw [xrj hne]
            exact h1 x ⟨j,o',hj,hlj,ho',hd⟩
        · have hne:o.dst≠some x:=hx i o hi hself ho
          rw [xrj hne]
          refine h2 x fun j o' hj hlj ho'=>hx j o' hj ?_ ho'
          by_cases e:i=j
          · subst e;exact hself
          · rw [getD_set_ne false e];exact hlj
        · have hy2:l.getD y false=true:=by
            by_cases e:i=k'
            · subst e;rw [ho] at ho';cases ho';exact hp y hy
            · rw [getD_set_ne false e] at hd;exact hpc k' o' hd ho' y hy
          by_cases e':i=y
          · subst e';exact hself
          · rw [getD_set_ne false e'];exact hy2
      have ho2:ops.toArray[i]?=some o:=by simpa using ho
      have hnd:=ht.1
      rcases ht.2 with ⟨his,hmet,hop⟩ | ⟨his,hmet,hx0,hx1⟩ | ⟨his,hmet,hv⟩
      ·
        subst his
        rw [hni]
        have:=stb false
        rw [if_pos hself] at next
        refine yyk ho2 (xix (ylk hag hmet)) yaz (.inr (by revert hnd;cases o.op <;> simp [noDefer])) fun h hb=>?_
        rw [xlw,yuk (ops:=ops) hlooks.1 hag]
        rcases hop h (by simpa using hb) with ⟨hv,hx⟩ | hx
        · refine xjk hx fun n' h' ⟨e',hb'⟩=>?_
          subst e'
          show Reach P md (G ((F (B f r) tmc.toArray df _).finish undef) cs) h' Stop
          rw [xgz ho2,xgj,← hv]
          exact next h' hb'
        · refine hx _ _ _ fun v' h' ⟨e2,hb'⟩=>?_
          subst e2
          rw [xgz ho2,xgj]
          exact next h' hb'
      · rw [getD_set_ne false his] at next
        have hexd:OpTo P md tmi o (if l.getD s false=true then Base1 else Base0) v:=by
          by_cases hls:l.getD s false=true
          · rw [if_pos hls]
            refine hx1 ?_
            refine Bool.eq_false_iff.2 fun hbe=>?_
            unfold afterI at hbe
            split at hbe
            · rename_i os hos
              have:=xqj hst hsz hpc s os i (fun x hx=>⟨(xiz hst hos).1 x hx,hpc s os hls hos x hx⟩) hbe
              rw [hni] at this;cases this
            · cases hbe
          · rw [if_neg hls]
            refine hx0 ?_
            refine Bool.eq_false_iff.2 fun hbe=>?_
            exact hls (xqj hst hsz hpc i o s (fun x hx=>⟨(xiz hst ho).1 x hx,hp x hx⟩) hbe)
        have:=stb (l.getD s false)
        refine yyk ho2 (xix (ylk hag hmet)) yaz (.inr (by revert hnd;cases o.op <;> simp [noDefer])) fun h hb=>?_
        rw [xlw,yuk (ops:=ops) hlooks.1 hag]
        rcases hexd h hb with hx | ⟨g,args,hx,hc⟩ | hx
        · refine xjk hx fun n' h' ⟨v',e',e2,hb'⟩=>?_
          subst e';subst e2
          show Reach P md (G ((F (B f r) tmc.toArray df _).finish v') cs) h' Stop
          rw [xgz ho2,xgj]
          exact next h' hb'
        · refine xjk hx fun n' h' ⟨e',e2⟩=>?_
          subst e';subst e2
          refine hc _ _ _ fun v' h' ⟨e2,hb'⟩=>?_
          subst e2
          rw [xgz ho2,xgj]
          exact next h' hb'
        · refine hx _ _ _ fun v' h' ⟨e2,hb'⟩=>?_
          subst e2
          rw [xgz ho2,xgj]
          exact next h' hb'
      · rw [getD_set_ne false his] at next
        have:=stb (l.getD s false)
        refine ysv ho2 (xix (ylk hag hmet)) ?_
        rw [xgj,← hv]
        exact next
  have:=main so _ tm hord (by simp) rfl (fun x hx=>by obtain ⟨j,o,hj,hl,_⟩:=hx;simp [Array.getD] at hl) (fun _ _=>rfl) (fun k _ hl=>by simp [Array.getD] at hl)
  rw [if_neg (by simp [Array.getD])] at this
  exact this

def SWR3 (P:Program) (md:Md) (f:FuncId) (r:Rd) (df:List Deferred) (k:List Item) (cs:List Frame) (Stop:Goroutine→Heap→Prop) (cl:List (List Nat)) (s:Nat) (Base0 Base1:Heap→Prop) (ops full:List Oper) (i:Nat) (rest:List Oper) (tm:List Value):Prop:=
  ∃ tmF,SW3 (Op3 P md ops cl s Base0 Base1) i rest tm tmF∧RL P md f r df k cs Stop ops full tmF Base1
theorem zyz [Stb Base0] [Stb Base1] {id:Nat} (m s:Nat) (cl:List (List Nat)) (hmix:P.follows .mixedOrders=true) (hst:stable ops m cl=true) (hm:m≤ops.length) (hsm:s<m)
    (sw:SWR3 P md f r df k cs Stop cl s Base0 Base1 ops (ops.drop m) 0 (ops.take m) tm):RS P md (G (FL f r tm df (.code (.region id ops.toArray true)::k)) cs) Base0 Stop:=by
  obtain ⟨tmF,h,n⟩:=sw
  exact zyj m s cl hmix hst hm hsm h n
variable {full rest:List Oper} {i:Nat} {tm':List Value} {o:Oper} {v:Value}
theorem wkq (e:rest=[]) (n:RL P md f r df k cs Stop ops full tm Base1):SWR3 P md f r df k cs Stop cl s Base0 Base1 ops full i rest tm:=by subst e;exact ⟨tm,rfl,n⟩
theorem xmx {Base:Heap→Prop} (hx: ∀ h,Base h→Exd P tm o h v):OpTo P md tm o Base v:=fun h hb=>.inl (xjk (hx h hb) fun _ _ ⟨v',e1,e2,e3⟩=>⟨v',e1,e2,by rw [e3];exact hb⟩)
theorem zhj (hm:Met ops tm o true) (h0:OpTo P md tm o Base0 v) (h1:OpTo P md tm o Base1 v) (ht:putl tm o.dst v=tm') (n:SWR3 P md f r df k cs Stop cl s Base0 Base1 ops full (i+1) rest tm')
    (hi:i≠s:=by exact Nat.ne_of_beq_eq_false rfl) (hd:noDefer o.op=true:=by rfl):SWR3 P md f r df k cs Stop cl s Base0 Base1 ops full i (o::rest) tm:=by
  obtain ⟨tmF,h,n⟩:=n
  exact ⟨tmF,⟨v,⟨hd,.inr (.inl ⟨hi,hm,fun _=>h0,fun _=>h1⟩)⟩,by rw [ht];exact h⟩,n⟩
theorem xsk (hm:Met ops tm o true) (hb:afterI cl ops s i=true) (h0:OpTo P md tm o Base0 v) (ht:putl tm o.dst v=tm') (n:SWR3 P md f r df k cs Stop cl s Base0 Base1 ops full (i+1) rest tm')
    (hi:i≠s:=by exact Nat.ne_of_beq_eq_false rfl) (hd:noDefer o.op=true:=by rfl):SWR3 P md f r df k cs Stop cl s Base0 Base1 ops full i (o::rest) tm:=by
  obtain ⟨tmF,h,n⟩:=n
  exact ⟨tmF,⟨v,⟨hd,.inr (.inl ⟨hi,hm,fun _=>h0,fun e=>by rw [hb] at e;cases e⟩)⟩,by rw [ht];exact h⟩,n⟩
theorem zsk (hi:i=s) (hm:Met ops tm o true) (hx: ∀ h,Base0 h→wpS P (execOp (evl tm) o) h fun n h'=>n= .skip∧Base1 h') (ht:putl tm o.dst undef=tm')
    (n:SWR3 P md f r df k cs Stop cl s Base0 Base1 ops full (i+1) rest tm') (hd:noDefer o.op=true:=by rfl):SWR3 P md f r df k cs Stop cl s Base0 Base1 ops full i (o::rest) tm:=by
  obtain ⟨tmF,h,n⟩:=n
  exact ⟨tmF,⟨undef,⟨hd,.inl ⟨hi,hm,fun h hb=>.inl ⟨rfl,hx h hb⟩⟩⟩,by rw [ht];exact h⟩,n⟩
end

section
variable {P:Program} {tm:List Value} {h₀:Heap} {B₀:List Nat} {p:PHeap} {A X C:Pcs} {T:TypeId} {w:Nat} {v:Value} {es:List (List Value)} {ty:TypeId} {pos:String} {aft:Array Edge} {gd:Option (Nat × Bool)} {h:Heap}
theorem zrx {T':TypeId} {x y:Operand} {i j:Nat} {e:List Value} {u:Value} {a:Addr} (o:OwnS T w v es X) (hs:sizeT P T'=some 1) (hx:evl tm x= .pointer (some a)) (ha:((adrV v).add (i*w)).add j=a)
    (hy:evl tm y=u) (hv:u.cells=#[u]∧isOne u=true) (hi:es[i]?=some e) (hj:j<e.length) (s:St h₀ B₀ p h (A++(X++C))):
    wpS P (execOp (evl tm) ⟨none,.store T' x y,ty,pos,aft,gd⟩) h fun n h'=>n= .skip∧ ∃ X',OwnS T w v (es.set i (e.set j u)) X'∧St h₀ B₀ p h' (A++(X'++C)):=by
  have hil:=(List.getElem?_eq_some_iff.1 hi).1
  obtain ⟨b,cs',cap,rs,e1,e2,e3,e4,ec⟩:=o.has hil
  have hlt:i*w+j<es.flatten.length:=(List.getElem?_eq_some_iff.1 (xlk o.1 hi (List.getElem?_eq_getElem hj))).1
  have he:e.length=w:=o.1 e (List.mem_of_getElem? hi)
  subst e1;subst e2;subst ha
  have e5:cs'.set (i*w+j) u=(es.set i (e.set j u)).flatten++rs:=by
    rw [e3,List.set_append_left _ _ hlt,ycq o.1 hi hj]
  have o':OwnS T w (.slice (some ⟨b,0,none⟩) es.length cap) (es.set i (e.set j u)) [(b,.cells (cs'.set (i*w+j) u).toArray T (0,0))]:=by
    refine ⟨fun z hz=>?_,.inr ⟨b,cs'.set (i*w+j) u,cap,rs,by simp,rfl,e5,by simpa using e4,ec⟩⟩
    rcases List.mem_or_eq_of_mem_set hz with h | h
    · exact o.1 z h
    · subst h;simpa using he
  have hx':evl tm x= .pointer (some ⟨b,i*w+j,none⟩):=by
    rw [hx];simp only [adrV];rw [xjv,xjv,Nat.zero_add]
  have hL:(A++([(b,Obj.cells (List.toArray cs') T (0,0))]++C))[A.length]?=some (b,.cells cs'.toArray T (0,0)):=by rw [List.getElem?_append_right (Nat.le_refl _)];simp
  simp only [execOp,hx',hy]
  refine xbq ?_
  unfold Instr.storeAt
  refine xbq (xbz ?_)
  unfold storeVar
  refine xbq (xik hs ?_)
  rw [if_neg (by rw [hv.1];simp)]
  refine xmv s hL (by rw [hv.1];show _+0+1≤_;rw [e3,List.length_append];omega) (fun u' hu=>by rw [hv.1] at hu;simp at hu;subst hu;exact hv.2) fun h' s'=>?_
  refine xbz ⟨rfl,_,o',?_⟩
  have e6:(A++([(b,Obj.cells (List.toArray cs') T (0,0))]++C)).set A.length (b,.cells (setl cs' (i*w+j) u.cells.toList).toArray T (0,0))=A++([(b,.cells (cs'.set (i*w+j) u).toArray T (0,0))]++C):=by
    rw [List.set_append_right _ _ (Nat.le_refl _),hv.1];simp [setl]
  rw [Nat.add_zero,e6] at s'
  exact s'
end
end Go.X
namespace Go.Proofs.YtphalmjpbnffcaaGreatDoor
open Go.X Go.X.Kn Go.X.Hr Go.Conc
set_option maxRecDepth 10000
set_option synthInstance.maxSize 2000

set_option maxHeartbeats 2000000
theorem c48 (md:Md) (h:Heap) (n lo hi:Int):CallsX Tryz.prog md 48 #[.int .i64 (n),.int .i64 (lo),.int .i64 (hi)] h fun v h'=>v= .bool (decide (lo≤n∧n≤hi))∧Keep h h':=by
 refine xbv (Φ:=fun h_=>St h [] (fun _=>none) h_ []) Tryz.func48 rfl (tm:=zq1 (zq2 (zq8 []))) rfl ?_ (St.start h _ (fun _ _ e=>by cases e))
 intro c₀ cs Stop K
 refine fsr <| ro (xaq (v:=.bool (false)) rfl) <| ren <| xav <| ro (xax (v:=.int .i64 (n)) rfl) <| rt (xax (v:=.int .i64 (lo)) rfl) (tm':=zq1 (zq2 (zq8 []))) rfl ?_
 refine ro (xax (v:=.int .i64 (hi)) rfl) ?_
 refine xcw mn (first:=[]) (cap:=[]) rfl rfl fC8 (fun h_ H_=>c8 md _ (n) (lo) (hi)) rfl ?_
 refine rt (xaq (v:=.bool (decide (lo≤n∧n≤hi))) rfl) (tm':=zq1 (zq2 (zq4 _))) rfl <| xak ?_
 refine xcj Tryz.func48 rfl (vs:=[.bool (decide (lo≤n∧n≤hi))]) (fun h_ H_=>⟨.bool (decide (lo≤n∧n≤hi)),_,rfl,rfl,rfl⟩) (v:=.bool (decide (lo≤n∧n≤hi))) rfl ?_
 exact fun h_ H_=>K _ _ ⟨by first | rfl | simp [*],H_.kept⟩
theorem c86 (md:Md) (h:Heap) (n lo hi:Int):CallsX Tryz.prog md 86 #[.int .i64 (n),.int .i64 (lo),.int .i64 (hi)] h fun v h'=>v= .bool (decide (lo≤n∧n≤hi))∧Keep h h':=by
 refine xbv (Φ:=fun h_=>St h [] (fun _=>none) h_ []) Tryz.func86 rfl (tm:=zq1 (zq2 (zq4 (zq8 [])))) rfl ?_ (St.start h _ (fun _ _ e=>by cases e))
 intro c₀ cs Stop K
 refine fsr <| ro (xaq (v:=.bool (false)) rfl) <| ren <| xav <| ro (xax (v:=.int .i64 (n)) rfl) <| rt (xax (v:=.int .i64 (lo)) rfl) (tm':=zq1 (zq8 _)) rfl ?_
 refine ro (xuq rfl rfl) <| ro (xax (v:=.bool (decide (lo≤n))) rfl) ?_
 by_cases cc1:lo≤n
 ·
  refine xaj (ms rfl rfl (dtt cc1)) (fun h_ H_=>xax (v:=.int .i64 (n)) rfl) (tm':=zq1 (zq2 (zq4 (zq8 [])))) rfl ?_
  refine xaj (ms rfl rfl (dtt cc1)) (fun h_ H_=>xax (v:=.int .i64 (hi)) rfl) rfl ?_
  refine xaj (ms rfl rfl (dtt cc1)) (fun h_ H_=>xyk rfl rfl) rfl ?_
  refine rt (xbw rfl (dtt cc1) (v:=.bool (decide (n≤hi))) rfl) (tm':=zq1 (zq2 (zq4 (zq8 [])))) rfl <| ro (xaq (v:=.bool (decide (n≤hi))) rfl) <| xak ?_
  refine xcj Tryz.func86 rfl (vs:=[.bool (decide (n≤hi))]) (fun h_ H_=>⟨.bool (decide (n≤hi)),_,rfl,rfl,rfl⟩) (v:=.bool (decide (n≤hi))) rfl ?_
  exact fun h_ H_=>K _ _ ⟨by first | rfl | simp [*],H_.kept⟩
 ·
  refine rp (mo rfl rfl (dff cc1)) <| xck (mo rfl rfl (dff cc1)) (tm':=zq1 (zq2 (zq4 (zq8 [])))) rfl <| rp (mo rfl rfl (dff cc1)) <| ro (xdq rfl (dff cc1) (v:=.bool (false)) rfl) <| rt (xaq (v:=.bool (false)) rfl) (tm':=zq1 (zq2 (zq4 _))) rfl <| xak ?_
  refine xcj Tryz.func86 rfl (vs:=[.bool (false)]) (fun h_ H_=>⟨.bool (false),_,rfl,rfl,rfl⟩) (v:=.bool (false)) rfl ?_
  exact fun h_ H_=>K _ _ ⟨by first | rfl | simp [*],H_.kept⟩
theorem c49 (md:Md) (h:Heap) (p:PHeap) (hp:Per p h) (a:Option Addr) (ca:Nat) (b:Option Addr) (cb:Nat) (r:Rst) (_R:RstP p a r.room.length b r.sts.length r) (hn:r.room.length≤40∧r.sts.length≤40) (x:Int):CallsX Tryz.prog md 49 #[.agg #[.slice a r.room.length ca,.slice b r.sts.length cb],.int .i64 (x)] h fun v h'=>v= .bool (decide (0≤x∧x≤(r.room.length:Int)-1))∧Keep h h':=by
 refine xbv (Φ:=fun h_=>St h [] p h_ []) Tryz.func49 rfl (tm:=zq1 (zq2 (zq8 []))) rfl ?_ (St.start h _ hp)
 intro c₀ cs Stop K
 refine fsr ?_
 refine xjq mn (v:=.agg #[.slice a r.room.length ca,.slice b r.sts.length cb]) rfl fun b1=>xcz (L':=[(b1,.cells #[.slice a r.room.length ca,.slice b r.sts.length cb] 51 (0,0))]) rfl ?_
 refine ro (xaq (v:=.bool (false)) rfl) <| ren <| xav <| rt (xax (v:=.int .i64 (x)) rfl) (tm':=zq2 (zq4 _)) rfl <| ro (xaw xtz rfl (a':=⟨b1,0,none⟩) rfl) <| rd (fun h_ H_=>xbx H_ tA26 rfl (i:=0) rfl (v:=.slice a r.room.length ca) rfl) ?_
 refine rt (xfj Tryz.underlying26 rfl) (tm':=zq1 (zq2 (zq8 []))) rfl ?_
 refine ro (xlv rfl rfl (wr (by omega))) ?_
 refine xcw mn (first:=[]) (cap:=[]) rfl rfl fC48 (fun h_ H_=>c48 md _ (x) (0) (((r.room.length:Nat):Int)-1)) rfl ?_
 refine rt (xaq (v:=.bool (decide (0≤x∧x≤((r.room.length:Nat):Int)-1))) rfl) (tm':=zq1 (zq4 _)) rfl <| xak ?_
 refine xcj Tryz.func49 rfl (vs:=[.bool (decide (0≤x∧x≤((r.room.length:Nat):Int)-1))]) (fun h_ H_=>⟨.bool (decide (0≤x∧x≤((r.room.length:Nat):Int)-1)),_,rfl,rfl,rfl⟩) (v:=.bool (decide (0≤x∧x≤((r.room.length:Nat):Int)-1))) rfl ?_
 exact fun h_ H_=>K _ _ ⟨rfl,H_.kept⟩
theorem c108 (md:Md) (h:Heap) (p:PHeap) (hp:Per p h) (a:Option Addr) (ca:Nat) (b:Option Addr) (cb:Nat) (r:Rst) (_R:RstP p a r.room.length b r.sts.length r) (hn:r.room.length≤40∧r.sts.length≤40) (x:Int):CallsX Tryz.prog md 108 #[.agg #[.slice a r.room.length ca,.slice b r.sts.length cb],.int .i64 (x)] h fun v h'=>v= .bool (decide (0≤x∧x≤(r.room.length:Int)-1))∧Keep h h':=by
 refine xbv (Φ:=fun h_=>St h [] p h_ []) Tryz.func108 rfl (tm:=zq1 (zq2 (zq8 []))) rfl ?_ (St.start h _ hp)
 intro c₀ cs Stop K
 refine fsr ?_
 refine xjq mn (v:=.agg #[.slice a r.room.length ca,.slice b r.sts.length cb]) rfl fun b1=>xcz (L':=[(b1,.cells #[.slice a r.room.length ca,.slice b r.sts.length cb] 51 (0,0))]) rfl ?_
 refine ro (xaq (v:=.bool (false)) rfl) <| ren <| xav <| rt (xax (v:=.int .i64 (x)) rfl) (tm':=zq2 (zq4 _)) rfl <| ro (xaw xtz rfl (a':=⟨b1,0,none⟩) rfl) <| rd (fun h_ H_=>xbx H_ tA26 rfl (i:=0) rfl (v:=.slice a r.room.length ca) rfl) ?_
 refine rt (xfj Tryz.underlying26 rfl) (tm':=zq1 (zq2 (zq8 []))) rfl ?_
 refine ro (xlv rfl rfl (wr (by omega))) ?_
 refine xcw mn (first:=[]) (cap:=[]) rfl rfl fC86 (fun h_ H_=>c86 md _ (x) (0) (((r.room.length:Nat):Int)-1)) rfl ?_
 refine rt (xaq (v:=.bool (decide (0≤x∧x≤((r.room.length:Nat):Int)-1))) rfl) (tm':=zq1 (zq4 _)) rfl <| xak ?_
 refine xcj Tryz.func108 rfl (vs:=[.bool (decide (0≤x∧x≤((r.room.length:Nat):Int)-1))]) (fun h_ H_=>⟨.bool (decide (0≤x∧x≤((r.room.length:Nat):Int)-1)),_,rfl,rfl,rfl⟩) (v:=.bool (decide (0≤x∧x≤((r.room.length:Nat):Int)-1))) rfl ?_
 exact fun h_ H_=>K _ _ ⟨rfl,H_.kept⟩
theorem c81 (md:Md) (h:Heap) (s:Str4) (x:Int) (hs: -100≤s.has∧s.has≤100∧ -100≤x∧x≤100∧0≤s.cost∧s.cost≤9):CallsX Tryz.prog md 81 #[.agg #[.int .i64 (s.has),.int .i64 (s.lo),.int .i64 (s.hi),.int .i64 (s.cost)],.int .i64 (x)] h fun v h'=>v= .int .i64 (moveI s x)∧Keep h h':=by
 refine xbv (Φ:=fun h_=>St h [] (fun _=>none) h_ []) Tryz.func81 rfl (tm:=zq1 (zq16 [])) rfl ?_ (St.start h _ (fun _ _ e=>by cases e))
 intro c₀ cs Stop K
 refine fsr ?_
 refine xjq mn (v:=.agg #[.int .i64 (s.has),.int .i64 (s.lo),.int .i64 (s.hi),.int .i64 (s.cost)]) rfl fun b1=>xcz (L':=[(b1,.cells #[.int .i64 (s.has),.int .i64 (s.lo),.int .i64 (s.hi),.int .i64 (s.cost)] 91 (0,0))]) rfl ?_
 refine ro (xaq (v:=.int .i64 0) rfl) <| ren <| fsr <| rt (xaw ykj rfl (a':=⟨b1,0,none⟩) rfl) (tm':=zq2 (zq4 _)) rfl <| rd (fun h_ H_=>xbx H_ tA3 rfl (i:=0) rfl (v:=.int .i64 (s.has)) rfl) <| ro (xmj rfl rfl) ?_
 refine xak ?_
 by_cases cc2:s.has=(-1)
 ·
  refine xcx rfl (dtt cc2) <| fsr <| rt (xaq (v:=.int .i64 0) rfl) (tm':=zq1 (zq4 _)) rfl <| xak ?_
  refine xcj Tryz.func81 rfl (vs:=[.int .i64 0]) (fun h_ H_=>⟨.int .i64 0,_,rfl,rfl,rfl⟩) (v:=.int .i64 0) rfl ?_
  exact fun h_ H_=>K _ _ ⟨by first | exact congrArg (Value.int .i64) (zaq (by omega)).symm | exact congrArg (Value.int .i64) (yzw (by omega)).symm,H_.kept⟩
 ·
  refine xcv rfl (dff cc2) <| xdz <| fsr <| ro (xaw ykj rfl (a':=⟨b1,0,none⟩) rfl) <| rd (fun h_ H_=>xbx H_ tA3 rfl (i:=0) rfl (v:=.int .i64 (s.has)) rfl) <| rt (xax (v:=.int .i64 (x)) rfl) (tm':=zq1 (zq2 (zq8 _))) rfl ?_
  refine ro (xlv rfl rfl (wr (by omega))) ?_
  refine ro (xax (v:=.int .i64 (x)) rfl) <| rt (xaw ykj rfl (a':=⟨b1,0,none⟩) rfl) (tm':=zq1 (zq16 [])) rfl <| rd (fun h_ H_=>xbx H_ tA3 rfl (i:=0) rfl (v:=.int .i64 (s.has)) rfl) ?_
  refine ro (xlv rfl rfl (wr (by omega))) ?_
  refine rt (woj rfl rfl) (tm':=zq1 (zq16 [])) rfl <| ro (xaq (v:=.int .i64 (max (s.has-x) (x-s.has))) rfl) <| xak ?_
  refine xcj Tryz.func81 rfl (vs:=[.int .i64 (max (s.has-x) (x-s.has))]) (fun h_ H_=>⟨.int .i64 (max (s.has-x) (x-s.has)),_,rfl,rfl,rfl⟩) (v:=.int .i64 (max (s.has-x) (x-s.has))) rfl ?_
  exact fun h_ H_=>K _ _ ⟨by first | exact congrArg (Value.int .i64) (zaq (by omega)).symm | exact congrArg (Value.int .i64) (yzw (by omega)).symm,H_.kept⟩
theorem c52 (md:Md) (h:Heap) (s:Str4) (x:Int) (hs: -100≤s.has∧s.has≤100∧ -100≤x∧x≤100∧0≤s.cost∧s.cost≤9):CallsX Tryz.prog md 52 #[.agg #[.int .i64 (s.has),.int .i64 (s.lo),.int .i64 (s.hi),.int .i64 (s.cost)],.int .i64 (x)] h fun v h'=>v= .int .i64 (stepsI s x)∧Keep h h':=by
 refine xbv (Φ:=fun h_=>St h [] (fun _=>none) h_ []) Tryz.func52 rfl (tm:=zq1 (zq2 (zq8 []))) rfl ?_ (St.start h _ (fun _ _ e=>by cases e))
 intro c₀ cs Stop K
 have hm:=yhk hs
 refine fsr ?_
 refine xjq mn (v:=.agg #[.int .i64 (s.has),.int .i64 (s.lo),.int .i64 (s.hi),.int .i64 (s.cost)]) rfl fun b1=>xcz (L':=[(b1,.cells #[.int .i64 (s.has),.int .i64 (s.lo),.int .i64 (s.hi),.int .i64 (s.cost)] 91 (0,0))]) rfl ?_
 refine rt (xaq (v:=.int .i64 0) rfl) (tm':=zq1 (zq4 _)) rfl <| ren ?_
 refine xhw 5 [[],[],[0,1],[],[3],[],[]] mixed (by kernel_rfl) (Nat.le_of_ble_eq_true rfl) ?_
 refine xfq mn (fun h_ H_=>xbk H_ tA91 tS91 rfl (i:=0) rfl (vs:=[.int .i64 (s.has),.int .i64 (s.lo),.int .i64 (s.hi),.int .i64 (s.cost)]) rfl rfl) (tm':=zq2 (zq4 _)) rfl ?_
 refine wo (xax (v:=.int .i64 (x)) rfl) ?_
 refine xox mn (first:=[]) (cap:=[]) rfl rfl fC81 (fun h_ H_=>(c81 md _ s x hs).mono fun v_ h2_ ⟨e_,k_⟩=>⟨e_,H_.call k_⟩) (tm':=zq1 (zq2 (zq8 []))) rfl ?_
 refine wo (xaw yxj rfl (a':=⟨b1,3,none⟩) rfl) ?_
 refine xfq mn (fun h_ H_=>xbx H_ tA3 rfl (i:=0) rfl (v:=.int .i64 (s.cost)) rfl) (tm':=zq1 (zq2 (zq8 []))) rfl ?_
 refine xlq rfl ?_
 refine rt (xwk rfl rfl (wr (by omega))) (tm':=zq1 (zq2 (zq8 []))) rfl ?_
 refine ro (xaq (v:=.int .i64 ((moveI s x)*s.cost)) rfl) <| xak ?_
 refine xcj Tryz.func52 rfl (vs:=[.int .i64 ((moveI s x)*s.cost)]) (fun h_ H_=>⟨.int .i64 ((moveI s x)*s.cost),_,rfl,rfl,rfl⟩) (v:=.int .i64 ((moveI s x)*s.cost)) rfl ?_
 exact fun h_ H_=>K _ _ ⟨rfl,H_.kept⟩
theorem c106 (md:Md) (h:Heap) (x:Int):CallsX Tryz.prog md 106 #[.int .i64 (x)] h fun v h'=>v= .bool (badR x)∧Keep h h':=by
 refine xbv (Φ:=fun h_=>St h [] (fun _=>none) h_ []) Tryz.func106 rfl (tm:=zq2 (zq4 [])) rfl ?_ (St.start h _ (fun _ _ e=>by cases e))
 intro c₀ cs Stop K
 refine fsr <| ro (xaq (v:=.bool (false)) rfl) <| ren <| xav <| rt (xax (v:=.int .i64 (x)) rfl) (tm':=zq4 _) rfl ?_
 refine xcw mn (first:=[]) (cap:=[]) rfl rfl fC86 (fun h_ H_=>c86 md _ (x) (0) (6)) rfl ?_
 refine ro (xfw rfl) <| rt (xaq (v:=.bool (!(decide (0≤x∧x≤6)))) rfl) (tm':=_::_::_::_) rfl <| xak ?_
 refine xcj Tryz.func106 rfl (vs:=[.bool (!(decide (0≤x∧x≤6)))]) (fun h_ H_=>⟨.bool (!(decide (0≤x∧x≤6))),_,rfl,rfl,rfl⟩) (v:=.bool (!(decide (0≤x∧x≤6)))) rfl ?_
 exact fun h_ H_=>K _ _ ⟨rfl,H_.kept⟩
theorem c107 (md:Md) (h:Heap) (p:PHeap) (hp:Per p h) (a:Option Addr) (ca:Nat) (b:Option Addr) (cb:Nat) (r:Rst) (R:RstP p a r.room.length b r.sts.length r) (hn:r.room.length≤40∧r.sts.length≤40) (bt:Nat) (hbt:p bt=some (.cells #[.slice a r.room.length ca,.slice b r.sts.length cb] 51 (0,0))) (s:Str4):CallsX Tryz.prog md 107 #[.agg #[.int .i64 (s.has),.int .i64 (s.lo),.int .i64 (s.hi),.int .i64 (s.cost)],.pointer (some ⟨bt,0,none⟩)] h fun v h'=>v= .bool (badT r s)∧Keep h h':=by
 refine xbv (Φ:=fun h_=>St h [] p h_ []) Tryz.func107 rfl (tm:=zq1 (zq8 (zq32 []))) rfl ?_ (St.start h _ hp)
 intro c₀ cs Stop K
 refine fsr ?_
 refine xjq mn (v:=.agg #[.int .i64 (s.has),.int .i64 (s.lo),.int .i64 (s.hi),.int .i64 (s.cost)]) rfl fun b1=>xcz (L':=[(b1,.cells #[.int .i64 (s.has),.int .i64 (s.lo),.int .i64 (s.hi),.int .i64 (s.cost)] 91 (0,0))]) rfl ?_
 refine ro (xaq (v:=.bool (false)) rfl) <| ren <| xav <| rt (xaw ykj rfl (a':=⟨b1,0,none⟩) rfl) (tm':=zq1 (zq4 _)) rfl <| rd (fun h_ H_=>xbx H_ tA3 rfl (i:=0) rfl (v:=.int .i64 (s.has)) rfl) <| ro (xgw rfl rfl) ?_
 refine rt (xax (v:=.bool (decide (s.has≠(-1)))) rfl) (tm':=zq8 _) rfl ?_
 by_cases cc2:s.has≠(-1)
 ·
  refine xaj (ms rfl rfl (dtt cc2)) (fun h_ H_=>xiw H_ tA51 tS51 rfl (vs:=[.slice a r.room.length ca,.slice b r.sts.length cb]) rfl (xvq (n:=2) hbt rfl)) rfl ?_
  refine xaj (ms rfl rfl (dtt cc2)) (fun h_ H_=>xaw ykj rfl (a':=⟨b1,0,none⟩) rfl) rfl ?_
  refine xaj (ms rfl rfl (dtt cc2)) (fun h_ H_=>xbx H_ tA3 rfl (i:=0) rfl (v:=.int .i64 (s.has)) rfl) (tm':=zq1 (zq2 (zq8 _))) rfl ?_
  refine xcw (ms rfl rfl (dtt cc2)) (first:=[]) (cap:=[]) rfl rfl zyw (fun h_ H_=>c108 md _ _ H_.pe _ _ _ _ r (show RstP _ _ _ _ _ r from ⟨R.r,R.s⟩) hn s.has) rfl ?_
  refine xaj (ms rfl rfl (dtt cc2)) (fun h_ H_=>xfw rfl) rfl ?_
  refine rt (xbw rfl (dtt cc2) (v:=.bool (!(decide (0≤s.has∧s.has≤(r.room.length:Int)-1)))) rfl) (tm':=zq2 (zq4 (zq8 _))) rfl <| ro (xax (v:=.bool (!(decide (0≤s.has∧s.has≤(r.room.length:Int)-1)))) rfl) ?_
  by_cases cc3:0≤s.has∧s.has≤(r.room.length:Int)-1
  ·
   refine xaj (ms rfl rfl (xej (dtt cc3))) (fun h_ H_=>xiw H_ tA51 tS51 rfl (vs:=[.slice a r.room.length ca,.slice b r.sts.length cb]) rfl (xvq (n:=2) hbt rfl)) rfl ?_
   refine xaj (ms rfl rfl (xej (dtt cc3))) (fun h_ H_=>xaw xuv rfl (a':=⟨b1,1,none⟩) rfl) (tm':=zq1 (zq16 _)) rfl ?_
   refine xaj (ms rfl rfl (xej (dtt cc3))) (fun h_ H_=>xbx H_ tA3 rfl (i:=0) rfl (v:=.int .i64 (s.lo)) rfl) rfl ?_
   refine xcw (ms rfl rfl (xej (dtt cc3))) (first:=[]) (cap:=[]) rfl rfl zyw (fun h_ H_=>c108 md _ _ H_.pe _ _ _ _ r (show RstP _ _ _ _ _ r from ⟨R.r,R.s⟩) hn s.lo) rfl ?_
   refine xaj (ms rfl rfl (xej (dtt cc3))) (fun h_ H_=>xfw rfl) (tm':=zq4 (zq16 _)) rfl ?_
   refine ro (xdq rfl (xej (dtt cc3)) (v:=.bool (!(decide (0≤s.lo∧s.lo≤(r.room.length:Int)-1)))) rfl) <| ro (xax (v:=.bool (!(decide (0≤s.lo∧s.lo≤(r.room.length:Int)-1)))) rfl) ?_
   by_cases cc4:0≤s.lo∧s.lo≤(r.room.length:Int)-1
   ·
    refine xaj (ms rfl rfl (xej (dtt cc4))) (fun h_ H_=>xiw H_ tA51 tS51 rfl (vs:=[.slice a r.room.length ca,.slice b r.sts.length cb]) rfl (xvq (n:=2) hbt rfl)) (tm':=zq1 (zq2 (zq4 (zq16 _)))) rfl ?_
    refine xaj (ms rfl rfl (xej (dtt cc4))) (fun h_ H_=>xaw xuk rfl (a':=⟨b1,2,none⟩) rfl) rfl ?_
    refine xaj (ms rfl rfl (xej (dtt cc4))) (fun h_ H_=>xbx H_ tA3 rfl (i:=0) rfl (v:=.int .i64 (s.hi)) rfl) rfl ?_
    refine xcw (ms rfl rfl (xej (dtt cc4))) (first:=[]) (cap:=[]) rfl rfl zyw (fun h_ H_=>c108 md _ _ H_.pe _ _ _ _ r (show RstP _ _ _ _ _ r from ⟨R.r,R.s⟩) hn s.hi) (tm':=zq2 (zq8 (zq16 _))) rfl ?_
    refine xaj (ms rfl rfl (xej (dtt cc4))) (fun h_ H_=>xfw rfl) rfl ?_
    refine ro (xdq rfl (xej (dtt cc4)) (v:=.bool (!(decide (0≤s.hi∧s.hi≤(r.room.length:Int)-1)))) rfl) <| rt (xax (v:=.bool (!(decide (0≤s.hi∧s.hi≤(r.room.length:Int)-1)))) rfl) (tm':=zq1 (zq8 (zq32 []))) rfl ?_
    by_cases cc5:0≤s.hi∧s.hi≤(r.room.length:Int)-1
    ·
     refine xaj (ms rfl rfl (xej (dtt cc5))) (fun h_ H_=>xaw xuv rfl (a':=⟨b1,1,none⟩) rfl) rfl ?_
     refine xaj (ms rfl rfl (xej (dtt cc5))) (fun h_ H_=>xbx H_ tA3 rfl (i:=0) rfl (v:=.int .i64 (s.lo)) rfl) rfl ?_
     refine xaj (ms rfl rfl (xej (dtt cc5))) (fun h_ H_=>xaw xuk rfl (a':=⟨b1,2,none⟩) rfl) (tm':=zq1 (zq8 (zq32 []))) rfl ?_
     refine xaj (ms rfl rfl (xej (dtt cc5))) (fun h_ H_=>xbx H_ tA3 rfl (i:=0) rfl (v:=.int .i64 (s.hi)) rfl) rfl ?_
     refine xaj (ms rfl rfl (xej (dtt cc5))) (fun h_ H_=>xjx rfl rfl) rfl ?_
     refine rt (xdq rfl (xej (dtt cc5)) (v:=.bool (decide (s.hi<s.lo))) rfl) (tm':=zq1 (zq8 (zq32 []))) rfl <| ro (xax (v:=.bool (decide (s.hi<s.lo))) rfl) ?_
     by_cases cc6:s.hi<s.lo
     ·
      refine rp (mo rfl rfl (dtt cc6)) <| xck (mo rfl rfl (dtt cc6)) (tm':=zq1 (zq8 (zq32 []))) rfl <| rp (mo rfl rfl (dtt cc6)) <| rp (mo rfl rfl (dtt cc6)) <| rt (xbw rfl (dtt cc6) (v:=.bool (true)) rfl) (tm':=zq1 (zq8 (zq32 []))) rfl <| ro (xaq (v:=.bool (true)) rfl) ?_
      refine xak ?_
      refine xcj Tryz.func107 rfl (vs:=[.bool (true)]) (fun h_ H_=>⟨.bool (true),_,rfl,rfl,rfl⟩) (v:=.bool (true)) rfl ?_
      exact fun h_ H_=>K _ _ ⟨congrArg Value.bool (by unfold badT okS;rw [Bool.eq_iff_iff];first | (simp [*];done) | (simp [*];omega) | (simp;omega)),H_.kept⟩
     ·
      refine xaj (ms rfl rfl (dff cc6)) (fun h_ H_=>xaw yxj rfl (a':=⟨b1,3,none⟩) rfl) rfl ?_
      refine xaj (ms rfl rfl (dff cc6)) (fun h_ H_=>xbx H_ tA3 rfl (i:=0) rfl (v:=.int .i64 (s.cost)) rfl) (tm':=zq1 (zq8 (zq32 []))) rfl ?_
      refine xcw (ms rfl rfl (dff cc6)) (first:=[]) (cap:=[]) rfl rfl fC86 (fun h_ H_=>c86 md _ (s.cost) (0) (9)) rfl ?_
      refine xaj (ms rfl rfl (dff cc6)) (fun h_ H_=>xfw rfl) rfl ?_
      refine rt (xdq rfl (dff cc6) (v:=.bool (!(decide (0≤s.cost∧s.cost≤9)))) rfl) (tm':=zq1 (zq8 (zq32 []))) rfl <| ro (xaq (v:=.bool (!(decide (0≤s.cost∧s.cost≤9)))) rfl) <| xak ?_
      refine xcj Tryz.func107 rfl (vs:=[.bool (!(decide (0≤s.cost∧s.cost≤9)))]) (fun h_ H_=>⟨.bool (!(decide (0≤s.cost∧s.cost≤9))),_,rfl,rfl,rfl⟩) (v:=.bool (!(decide (0≤s.cost∧s.cost≤9)))) rfl ?_
      exact fun h_ H_=>K _ _ ⟨congrArg Value.bool (by unfold badT okS;rw [Bool.eq_iff_iff];first | (simp [*];done) | (simp [*];omega) | (simp;omega)),H_.kept⟩
    ·
     refine rp (mo rfl rfl (xek (dff cc5))) <| xck (mo rfl rfl (xek (dff cc5))) (tm':=zq1 (zq8 (zq32 []))) rfl <| rp (mo rfl rfl (xek (dff cc5))) <| rp (mo rfl rfl (xek (dff cc5))) <| xck (mo rfl rfl (xek (dff cc5))) (tm':=zq1 (zq8 (zq32 []))) rfl <| ro (xbw rfl (xek (dff cc5)) (v:=.bool (true)) rfl) ?_
     refine ro (xax (v:=.bool (true)) rfl) <| xck (mo rfl rfl rfl) (tm':=zq1 (zq8 (zq32 []))) rfl <| rp (mo rfl rfl rfl) <| rp (mo rfl rfl rfl) <| xck (mo rfl rfl rfl) (tm':=zq1 (zq8 (zq32 []))) rfl <| ro (xbw rfl rfl (v:=.bool (true)) rfl) ?_
     refine ro (xaq (v:=.bool (true)) rfl) <| xak ?_
     refine xcj Tryz.func107 rfl (vs:=[.bool (true)]) (fun h_ H_=>⟨.bool (true),_,rfl,rfl,rfl⟩) (v:=.bool (true)) rfl ?_
     exact fun h_ H_=>K _ _ ⟨congrArg Value.bool (by unfold badT okS;rw [Bool.eq_iff_iff];first | (simp [*];done) | (simp [*];omega) | (simp;omega)),H_.kept⟩
   ·
    refine xck (mo rfl rfl (xek (dff cc4))) (tm':=zq1 (zq2 (zq4 (zq16 _)))) rfl <| rp (mo rfl rfl (xek (dff cc4))) <| rp (mo rfl rfl (xek (dff cc4))) <| xck (mo rfl rfl (xek (dff cc4))) (tm':=zq2 (zq8 (zq16 _))) rfl <| rp (mo rfl rfl (xek (dff cc4))) <| ro (xbw rfl (xek (dff cc4)) (v:=.bool (true)) rfl) ?_
    refine rt (xax (v:=.bool (true)) rfl) (tm':=zq1 (zq8 (zq32 []))) rfl <| rp (mo rfl rfl rfl) <| rp (mo rfl rfl rfl) <| xck (mo rfl rfl rfl) (tm':=zq1 (zq8 (zq32 []))) rfl <| rp (mo rfl rfl rfl) <| rp (mo rfl rfl rfl) ?_
    refine rt (xbw rfl rfl (v:=.bool (true)) rfl) (tm':=zq1 (zq8 (zq32 []))) rfl <| ro (xax (v:=.bool (true)) rfl) <| rp (mo rfl rfl rfl) <| xck (mo rfl rfl rfl) (tm':=zq1 (zq8 (zq32 []))) rfl <| rp (mo rfl rfl rfl) <| rp (mo rfl rfl rfl) ?_
    refine rt (xbw rfl rfl (v:=.bool (true)) rfl) (tm':=zq1 (zq8 (zq32 []))) rfl <| ro (xaq (v:=.bool (true)) rfl) <| xak ?_
    refine xcj Tryz.func107 rfl (vs:=[.bool (true)]) (fun h_ H_=>⟨.bool (true),_,rfl,rfl,rfl⟩) (v:=.bool (true)) rfl ?_
    exact fun h_ H_=>K _ _ ⟨congrArg Value.bool (by unfold badT okS;rw [Bool.eq_iff_iff];first | (simp [*];done) | (simp [*];omega) | (simp;omega)),H_.kept⟩
  ·
   refine rp (mo rfl rfl (xek (dff cc3))) <| xck (mo rfl rfl (xek (dff cc3))) (tm':=zq1 (zq16 _)) rfl <| rp (mo rfl rfl (xek (dff cc3))) <| rp (mo rfl rfl (xek (dff cc3))) <| xck (mo rfl rfl (xek (dff cc3))) (tm':=zq4 (zq16 _)) rfl <| ro (xbw rfl (xek (dff cc3)) (v:=.bool (true)) rfl) ?_
   refine ro (xax (v:=.bool (true)) rfl) <| xck (mo rfl rfl rfl) (tm':=zq1 (zq2 (zq4 (zq16 _)))) rfl <| rp (mo rfl rfl rfl) <| rp (mo rfl rfl rfl) <| xck (mo rfl rfl rfl) (tm':=zq2 (zq8 (zq16 _))) rfl <| rp (mo rfl rfl rfl) ?_
   refine ro (xbw rfl rfl (v:=.bool (true)) rfl) <| rt (xax (v:=.bool (true)) rfl) (tm':=zq1 (zq8 (zq32 []))) rfl <| rp (mo rfl rfl rfl) <| rp (mo rfl rfl rfl) <| xck (mo rfl rfl rfl) (tm':=zq1 (zq8 (zq32 []))) rfl <| rp (mo rfl rfl rfl) ?_
   refine rp (mo rfl rfl rfl) <| rt (xbw rfl rfl (v:=.bool (true)) rfl) (tm':=zq1 (zq8 (zq32 []))) rfl <| ro (xax (v:=.bool (true)) rfl) <| rp (mo rfl rfl rfl) <| xck (mo rfl rfl rfl) (tm':=zq1 (zq8 (zq32 []))) rfl <| rp (mo rfl rfl rfl) ?_
   refine rp (mo rfl rfl rfl) <| rt (xbw rfl rfl (v:=.bool (true)) rfl) (tm':=zq1 (zq8 (zq32 []))) rfl <| ro (xaq (v:=.bool (true)) rfl) <| xak ?_
   refine xcj Tryz.func107 rfl (vs:=[.bool (true)]) (fun h_ H_=>⟨.bool (true),_,rfl,rfl,rfl⟩) (v:=.bool (true)) rfl ?_
   exact fun h_ H_=>K _ _ ⟨congrArg Value.bool (by unfold badT okS;rw [Bool.eq_iff_iff];first | (simp [*];done) | (simp [*];omega) | (simp;omega)),H_.kept⟩
 ·
  refine rp (mo rfl rfl (dff cc2)) <| xck (mo rfl rfl (dff cc2)) (tm':=zq2 (zq8 _)) rfl <| rp (mo rfl rfl (dff cc2)) <| rp (mo rfl rfl (dff cc2)) <| xck (mo rfl rfl (dff cc2)) (tm':=zq1 (zq4 (zq8 _))) rfl <| ro (xdq rfl (dff cc2) (v:=.bool (false)) rfl) ?_
  refine ro (xax (v:=.bool (false)) rfl) ?_
  refine xaj (ms rfl rfl rfl) (fun h_ H_=>xiw H_ tA51 tS51 rfl (vs:=[.slice a r.room.length ca,.slice b r.sts.length cb]) rfl (xvq (n:=2) hbt rfl)) (tm':=zq16 _) rfl ?_
  refine xaj (ms rfl rfl rfl) (fun h_ H_=>xaw xuv rfl (a':=⟨b1,1,none⟩) rfl) rfl ?_
  refine xaj (ms rfl rfl rfl) (fun h_ H_=>xbx H_ tA3 rfl (i:=0) rfl (v:=.int .i64 (s.lo)) rfl) rfl ?_
  refine xcw (ms rfl rfl rfl) (first:=[]) (cap:=[]) rfl rfl zyw (fun h_ H_=>c108 md _ _ H_.pe _ _ _ _ r (show RstP _ _ _ _ _ r from ⟨R.r,R.s⟩) hn s.lo) (tm':=zq1 (zq2 (zq16 _))) rfl ?_
  refine xaj (ms rfl rfl rfl) (fun h_ H_=>xfw rfl) rfl ?_
  refine ro (xdq rfl rfl (v:=.bool (!(decide (0≤s.lo∧s.lo≤(r.room.length:Int)-1)))) rfl) <| rt (xax (v:=.bool (!(decide (0≤s.lo∧s.lo≤(r.room.length:Int)-1)))) rfl) (tm':=zq2 (zq4 (zq16 _))) rfl ?_
  by_cases cc7:0≤s.lo∧s.lo≤(r.room.length:Int)-1
  ·
   refine xaj (ms rfl rfl (xej (dtt cc7))) (fun h_ H_=>xiw H_ tA51 tS51 rfl (vs:=[.slice a r.room.length ca,.slice b r.sts.length cb]) rfl (xvq (n:=2) hbt rfl)) rfl ?_
   refine xaj (ms rfl rfl (xej (dtt cc7))) (fun h_ H_=>xaw xuk rfl (a':=⟨b1,2,none⟩) rfl) rfl ?_
   refine xaj (ms rfl rfl (xej (dtt cc7))) (fun h_ H_=>xbx H_ tA3 rfl (i:=0) rfl (v:=.int .i64 (s.hi)) rfl) (tm':=zq1 (zq8 (zq16 _))) rfl ?_
   refine xcw (ms rfl rfl (xej (dtt cc7))) (first:=[]) (cap:=[]) rfl rfl zyw (fun h_ H_=>c108 md _ _ H_.pe _ _ _ _ r (show RstP _ _ _ _ _ r from ⟨R.r,R.s⟩) hn s.hi) rfl ?_
   refine xaj (ms rfl rfl (xej (dtt cc7))) (fun h_ H_=>xfw rfl) rfl ?_
   refine rt (xdq rfl (xej (dtt cc7)) (v:=.bool (!(decide (0≤s.hi∧s.hi≤(r.room.length:Int)-1)))) rfl) (tm':=zq1 (zq8 (zq32 []))) rfl <| ro (xax (v:=.bool (!(decide (0≤s.hi∧s.hi≤(r.room.length:Int)-1)))) rfl) ?_
   by_cases cc8:0≤s.hi∧s.hi≤(r.room.length:Int)-1
   ·
    refine xaj (ms rfl rfl (xej (dtt cc8))) (fun h_ H_=>xaw xuv rfl (a':=⟨b1,1,none⟩) rfl) rfl ?_
    refine xaj (ms rfl rfl (xej (dtt cc8))) (fun h_ H_=>xbx H_ tA3 rfl (i:=0) rfl (v:=.int .i64 (s.lo)) rfl) (tm':=zq1 (zq8 (zq32 []))) rfl ?_
    refine xaj (ms rfl rfl (xej (dtt cc8))) (fun h_ H_=>xaw xuk rfl (a':=⟨b1,2,none⟩) rfl) rfl ?_
    refine xaj (ms rfl rfl (xej (dtt cc8))) (fun h_ H_=>xbx H_ tA3 rfl (i:=0) rfl (v:=.int .i64 (s.hi)) rfl) rfl ?_
    refine xaj (ms rfl rfl (xej (dtt cc8))) (fun h_ H_=>xjx rfl rfl) (tm':=zq1 (zq8 (zq32 []))) rfl ?_
    refine ro (xdq rfl (xej (dtt cc8)) (v:=.bool (decide (s.hi<s.lo))) rfl) <| ro (xax (v:=.bool (decide (s.hi<s.lo))) rfl) ?_
    by_cases cc9:s.hi<s.lo
    ·
     refine xck (mo rfl rfl (dtt cc9)) (tm':=zq1 (zq8 (zq32 []))) rfl <| rp (mo rfl rfl (dtt cc9)) <| rp (mo rfl rfl (dtt cc9)) <| xck (mo rfl rfl (dtt cc9)) (tm':=zq1 (zq8 (zq32 []))) rfl <| ro (xbw rfl (dtt cc9) (v:=.bool (true)) rfl) <| ro (xaq (v:=.bool (true)) rfl) ?_
     refine xak ?_
     refine xcj Tryz.func107 rfl (vs:=[.bool (true)]) (fun h_ H_=>⟨.bool (true),_,rfl,rfl,rfl⟩) (v:=.bool (true)) rfl ?_
     exact fun h_ H_=>K _ _ ⟨congrArg Value.bool (by unfold badT okS;rw [Bool.eq_iff_iff];first | (simp [*];done) | (simp [*];omega) | (simp;omega)),H_.kept⟩
    ·
     refine xaj (ms rfl rfl (dff cc9)) (fun h_ H_=>xaw yxj rfl (a':=⟨b1,3,none⟩) rfl) (tm':=zq1 (zq8 (zq32 []))) rfl ?_
     refine xaj (ms rfl rfl (dff cc9)) (fun h_ H_=>xbx H_ tA3 rfl (i:=0) rfl (v:=.int .i64 (s.cost)) rfl) rfl ?_
     refine xcw (ms rfl rfl (dff cc9)) (first:=[]) (cap:=[]) rfl rfl fC86 (fun h_ H_=>c86 md _ (s.cost) (0) (9)) rfl ?_
     refine xaj (ms rfl rfl (dff cc9)) (fun h_ H_=>xfw rfl) (tm':=zq1 (zq8 (zq32 []))) rfl ?_
     refine ro (xdq rfl (dff cc9) (v:=.bool (!(decide (0≤s.cost∧s.cost≤9)))) rfl) <| ro (xaq (v:=.bool (!(decide (0≤s.cost∧s.cost≤9)))) rfl) <| xak ?_
     refine xcj Tryz.func107 rfl (vs:=[.bool (!(decide (0≤s.cost∧s.cost≤9)))]) (fun h_ H_=>⟨.bool (!(decide (0≤s.cost∧s.cost≤9))),_,rfl,rfl,rfl⟩) (v:=.bool (!(decide (0≤s.cost∧s.cost≤9)))) rfl ?_
     exact fun h_ H_=>K _ _ ⟨congrArg Value.bool (by unfold badT okS;rw [Bool.eq_iff_iff];first | (simp [*];done) | (simp [*];omega) | (simp;omega)),H_.kept⟩
   ·
    refine xck (mo rfl rfl (xek (dff cc8))) (tm':=zq1 (zq8 (zq32 []))) rfl <| rp (mo rfl rfl (xek (dff cc8))) <| rp (mo rfl rfl (xek (dff cc8))) <| xck (mo rfl rfl (xek (dff cc8))) (tm':=zq1 (zq8 (zq32 []))) rfl <| rp (mo rfl rfl (xek (dff cc8))) <| ro (xbw rfl (xek (dff cc8)) (v:=.bool (true)) rfl) ?_
    refine rt (xax (v:=.bool (true)) rfl) (tm':=zq1 (zq8 (zq32 []))) rfl <| rp (mo rfl rfl rfl) <| rp (mo rfl rfl rfl) <| xck (mo rfl rfl rfl) (tm':=zq1 (zq8 (zq32 []))) rfl <| rp (mo rfl rfl rfl) <| ro (xbw rfl rfl (v:=.bool (true)) rfl) ?_
    refine rt (xaq (v:=.bool (true)) rfl) (tm':=zq4 _) rfl <| xak ?_
    refine xcj Tryz.func107 rfl (vs:=[.bool (true)]) (fun h_ H_=>⟨.bool (true),_,rfl,rfl,rfl⟩) (v:=.bool (true)) rfl ?_
    exact fun h_ H_=>K _ _ ⟨congrArg Value.bool (by unfold badT okS;rw [Bool.eq_iff_iff];first | (simp [*];done) | (simp [*];omega) | (simp;omega)),H_.kept⟩
  ·
   refine rp (mo rfl rfl (xek (dff cc7))) <| rp (mo rfl rfl (xek (dff cc7))) <| xck (mo rfl rfl (xek (dff cc7))) (tm':=zq1 (zq8 (zq16 _))) rfl <| rp (mo rfl rfl (xek (dff cc7))) <| rp (mo rfl rfl (xek (dff cc7))) <| rt (xbw rfl (xek (dff cc7)) (v:=.bool (true)) rfl) (tm':=zq1 (zq8 (zq32 []))) rfl ?_
   refine ro (xax (v:=.bool (true)) rfl) <| rp (mo rfl rfl rfl) <| xck (mo rfl rfl rfl) (tm':=zq1 (zq8 (zq32 []))) rfl <| rp (mo rfl rfl rfl) <| rp (mo rfl rfl rfl) <| xck (mo rfl rfl rfl) (tm':=zq1 (zq8 (zq32 []))) rfl ?_
   refine ro (xbw rfl rfl (v:=.bool (true)) rfl) <| ro (xax (v:=.bool (true)) rfl) <| xck (mo rfl rfl rfl) (tm':=zq1 (zq8 (zq32 []))) rfl <| rp (mo rfl rfl rfl) <| rp (mo rfl rfl rfl) <| xck (mo rfl rfl rfl) (tm':=zq1 (zq8 (zq32 []))) rfl ?_
   refine ro (xbw rfl rfl (v:=.bool (true)) rfl) <| ro (xaq (v:=.bool (true)) rfl) <| xak ?_
   refine xcj Tryz.func107 rfl (vs:=[.bool (true)]) (fun h_ H_=>⟨.bool (true),_,rfl,rfl,rfl⟩) (v:=.bool (true)) rfl ?_
   exact fun h_ H_=>K _ _ ⟨congrArg Value.bool (by unfold badT okS;rw [Bool.eq_iff_iff];first | (simp [*];done) | (simp [*];omega) | (simp;omega)),H_.kept⟩
theorem c123 (md:Md) (h:Heap) (p:PHeap) (hp:Per p h) (fv:Value) (e:Option Addr) (n ce:Nat) (xs:List Str4) (S:Sts p e n xs) (hn:n≤2 ^ 40) (q:Str4→Bool) (hf: ∀ h,Per p h→ ∀ i,i<n→CallV Tryz.prog md fv [.agg #[.int .i64 (xs.getD i sz).has,.int .i64 (xs.getD i sz).lo,.int .i64 (xs.getD i sz).hi,.int .i64 (xs.getD i sz).cost]] h fun v h'=>v= .bool (q ((xs.getD i sz)))∧Keep h h'):CallsX Tryz.prog md 123 #[.slice e n ce,fv] h fun v h'=>v= .int .i64 (idxA q xs)∧Keep h h':=by
 refine xbv (Φ:=fun h_=>St h [] p h_ []) Tryz.func123 rfl (tm:=zq1 (zq2 (zq16 []))) rfl ?_ (St.start h _ hp)
 intro c₀ cs Stop K
 refine fsr <| rt (xaq (v:=.int .i64 0) rfl) (tm':=zq1 (zq4 _)) rfl <| ren <| fsr <| ro (xax (v:=.slice e n ce) rfl) <| ro (xfj Tryz.underlying49 rfl) ?_
 refine rt (xax (v:=.int .i64 0) rfl) (tm':=zq1 (zq8 _)) rfl <| xak <| xeq ?_
 refine xhk (m₀:=n-0) (fun m_ tm_ h_=>∃ (j:Nat),m_=n-j∧(∃ y1:Nat→Value,tm_=[.slice e n ce,fv,undef,undef,(y1 4),(y1 5),.slice e n ce,.int .i64 (((n:Nat):Int)),.int .i64 (((j:Nat):Int)),(y1 9),(y1 10),(y1 11),(y1 12),(y1 13),(y1 14),(y1 15),(y1 16),(y1 17),(y1 18)])∧(j≤n)∧(∀ i,i<j→q ((xs.getD i sz))=false)∧St h [] p h_ ([])) (fun h_ H_=>⟨0,rfl,(y_of rfl),Nat.zero_le _,(fun i hi=>absurd hi (Nat.not_lt_zero i)),H_⟩) ?_
 intro m_ tm_ IH2
 refine xhq fun j=>xdj fun hm_=>xdj fun ht_=>xdj fun hk=>xdj fun hs=>?_
 subst hm_;obtain ⟨y1,ht_⟩:=ht_;subst ht_
 refine fsr <| ro (xfk rfl rfl) <| ren ?_
 by_cases cc3:((j:Nat):Int)<((n:Nat):Int)
 ·
  refine xcx rfl (dtt cc3) <| xdz <| xbj <| xeq <| fsr <| ro (xax (v:=.int .i64 (((j:Nat):Int))) rfl) ?_
  refine rt (xaq (v:=.int .i64 (((j:Nat):Int))) rfl) (tm':=zq2 (zq4 _)) rfl <| ren <| xav <| ro (xax (v:=fv) rfl) <| ro (xax (v:=.slice e n ce) rfl) <| rt (xax (v:=.int .i64 (((j:Nat):Int))) rfl) (tm':=zq1 (zq2 (zq16 []))) rfl ?_
  refine ro (xdx (i:=j) Tryz.underlying49 tS91 (xlx e n ce (S.ne (by omega))) rfl (by omega)) ?_
  refine rd (fun h_ H_=>xiw H_ tA91 tS91 rfl (vs:=[.int .i64 ((xs.getD j sz).has),.int .i64 ((xs.getD j sz).lo),.int .i64 ((xs.getD j sz).hi),.int .i64 ((xs.getD j sz).cost)]) rfl (S.all (by omega))) ?_
  refine xyx mn rfl (vs:=[.agg #[.int .i64 ((xs.getD j sz).has),.int .i64 ((xs.getD j sz).lo),.int .i64 ((xs.getD j sz).hi),.int .i64 ((xs.getD j sz).cost)]]) rfl (fun h_ H_=>hf h_ H_.per j (show j<n by omega)) (tm':=zq1 (zq2 (zq16 []))) rfl ?_
  refine xak ?_
  rcases xtx ((q ((xs.getD j sz)))) with cc4 | cc4
  ·
   refine xcx rfl cc4 <| fsr <| ro (xax (v:=.int .i64 (((j:Nat):Int))) rfl) <| ro (xaq (v:=.int .i64 (((j:Nat):Int))) rfl) <| xak ?_
   refine xcj Tryz.func123 rfl (vs:=[.int .i64 (((j:Nat):Int))]) (fun h_ H_=>⟨.int .i64 (((j:Nat):Int)),_,rfl,rfl,rfl⟩) (v:=.int .i64 (((j:Nat):Int))) rfl ?_
   have hl:=S.len
   exact fun h_ H_=>K _ _ ⟨by first | (rw [xpv (z:=sz) (k:=j) (by omega) ‹_› hs]) | (rw [xpw (z:=sz) (fun i hi=>hs i (by omega))]),H_.kept⟩
  ·
   refine xcv rfl cc4 <| xdz <| xex <| xav ?_
   refine rt (xev rfl rfl (n:=((j+1:Nat):Int)) (wr (by omega))) (tm':=zq1 (zq2 (zq16 []))) rfl ?_
   refine ro (xax (v:=.int .i64 (((j+1:Nat):Int))) rfl) <| xak ?_
   exact fun h_ H_=>IH2 _ _ (by omega) h_ ⟨j+1,rfl,(y_of rfl),(by omega),(xrz (q:=fun i=>q ((xs.getD i sz))=false) hs ‹_›),H_⟩
 ·
  refine xcv rfl (dff cc3) <| xgk rfl <| fsr <| ro (xaq (v:=.int .i64 (-1)) rfl) <| xak ?_
  refine xcj Tryz.func123 rfl (vs:=[.int .i64 (-1)]) (fun h_ H_=>⟨.int .i64 (-1),_,rfl,rfl,rfl⟩) (v:=.int .i64 (-1)) rfl ?_
  have hl:=S.len
  exact fun h_ H_=>K _ _ ⟨by first | (rw [xpv (z:=sz) (k:=j) (by omega) ‹_› hs]) | (rw [xpw (z:=sz) (fun i hi=>hs i (by omega))]),H_.kept⟩
theorem c109 (md:Md) (h:Heap) (p:PHeap) (hp:Per p h) (fv:Value) (e:Option Addr) (n ce:Nat) (xs:List Str4) (S:Sts p e n xs) (hn:n≤2 ^ 40) (q:Str4→Bool) (hf: ∀ h,Per p h→ ∀ i,i<n→CallV Tryz.prog md fv [.agg #[.int .i64 (xs.getD i sz).has,.int .i64 (xs.getD i sz).lo,.int .i64 (xs.getD i sz).hi,.int .i64 (xs.getD i sz).cost]] h fun v h'=>v= .bool (q ((xs.getD i sz)))∧Keep h h'):CallsX Tryz.prog md 109 #[.slice e n ce,fv] h fun v h'=>v= .bool (decide (0≤idxA q xs))∧Keep h h':=by
 refine xbv (Φ:=fun h_=>St h [] p h_ []) Tryz.func109 rfl (tm:=zq1 (zq8 [])) rfl ?_ (St.start h _ hp)
 intro c₀ cs Stop K
 refine fsr <| rt (xaq (v:=.bool (false)) rfl) (tm':=zq1 (zq4 _)) rfl <| ren <| xav <| ro (xax (v:=.slice e n ce) rfl) <| ro (xax (v:=fv) rfl) ?_
 refine xcw mn (first:=[]) (cap:=[]) rfl rfl wuq (fun h_ H_=>c123 md _ _ H_.pe fv _ _ _ _ S (by omega) q hf) (tm':=zq1 (zq8 [])) rfl ?_
 refine ro (xuq rfl rfl) <| ro (xaq (v:=.bool (decide (0≤idxA q xs))) rfl) <| xak ?_
 refine xcj Tryz.func109 rfl (vs:=[.bool (decide (0≤idxA q xs))]) (fun h_ H_=>⟨.bool (decide (0≤idxA q xs)),_,rfl,rfl,rfl⟩) (v:=.bool (decide (0≤idxA q xs))) rfl ?_
 exact fun h_ H_=>K _ _ ⟨rfl,H_.kept⟩
theorem c85 (md:Md) (h:Heap) (p:PHeap) (hp:Per p h) (a:Option Addr) (ca:Nat) (b:Option Addr) (cb:Nat) (r:Rst) (R:RstP p a r.room.length b r.sts.length r) (hn:r.room.length≤40∧r.sts.length≤40):CallsX Tryz.prog md 85 #[.agg #[.slice a r.room.length ca,.slice b r.sts.length cb]] h fun v h'=>v= .int .i64 (chkH r)∧Keep h h':=by
 refine xbv (Φ:=fun h_=>St h [] p h_ []) Tryz.func85 rfl (tm:=zq4 (zq8 (zq16 []))) rfl ?_ (St.start h _ hp)
 intro c₀ cs Stop K
 refine fsr ?_
 refine xjq mn (v:=.agg #[.slice a r.room.length ca,.slice b r.sts.length cb]) rfl fun b1=>xcz (L':=[(b1,.cells #[.slice a r.room.length ca,.slice b r.sts.length cb] 51 (0,0))]) rfl ?_
 refine xfz (tm':=_::_::_) rfl ?_
 refine ro (xaq (v:=.int .i64 0) rfl) <| ren ?_
 refine ysw 0 rfl (L':=[]) rfl fun p2 le3 hb4=>?_
 refine xav <| ro (xaq (v:=.func (.func 106) #[] #[]) rfl) <| ren <| xav <| rt (xrx (a:=[]) (b:=[.pointer (some ⟨b1,0,none⟩)]) rfl rfl) (tm':=zq2 (zq4 _)) rfl <| ro (xaq (v:=.func (.func 107) #[] #[.pointer (some ⟨b1,0,none⟩)]) rfl) ?_
 refine ren <| fsr <| ro (xaw xtz rfl (a':=⟨b1,0,none⟩) rfl) ?_
 refine xaj mn (fun h_ H_=>xdk H_ tA26 rfl (v:=.slice a r.room.length ca) (xnq hb4 rfl)) (tm':=zq8 _) rfl ?_
 refine ro (xfj Tryz.underlying26 rfl) <| ro (xjx rfl rfl) <| rt (xax (v:=.bool (decide (8<((r.room.length:Nat):Int)))) rfl) (tm':=zq1 (zq2 (zq8 _))) rfl ?_
 by_cases cc5:8<((r.room.length:Nat):Int)
 ·
  refine rp (mo rfl rfl (dtt cc5)) <| rp (mo rfl rfl (dtt cc5)) <| xck (mo rfl rfl (dtt cc5)) (tm':=zq2 (zq4 (zq8 _))) rfl <| rp (mo rfl rfl (dtt cc5)) <| ro (xbw rfl (dtt cc5) (v:=.bool (true)) rfl) <| rt (xax (v:=.bool (true)) rfl) (tm':=zq1 (zq16 _)) rfl ?_
  refine rp (mo rfl rfl rfl) <| rp (mo rfl rfl rfl) <| xck (mo rfl rfl rfl) (tm':=zq4 (zq8 (zq16 []))) rfl <| rp (mo rfl rfl rfl) <| ro (xbw rfl rfl (v:=.bool (true)) rfl) <| rt (xax (v:=.bool (true)) rfl) (tm':=zq4 (zq8 (zq16 []))) rfl ?_
  refine rp (mo rfl rfl rfl) <| rp (mo rfl rfl rfl) <| xck (mo rfl rfl rfl) (tm':=zq4 (zq8 (zq16 []))) rfl <| rp (mo rfl rfl rfl) <| ro (xbw rfl rfl (v:=.bool (true)) rfl) <| xak ?_
  refine xcx rfl rfl <| fsr <| rt (xaq (v:=.int .i64 80) rfl) (tm':=_::_::_::_) rfl <| xak ?_
  refine xcj Tryz.func85 rfl (vs:=[.int .i64 80]) (fun h_ H_=>⟨.int .i64 80,_,rfl,rfl,rfl⟩) (v:=.int .i64 80) rfl ?_
  exact fun h_ H_=>K _ _ ⟨congrArg (Value.int .i64) (by first | exact (yeq (by omega) ‹_› (by omega) ‹_›).symm | exact (xjz (by first | exact .inl (by omega) | exact .inr (.inl ‹_›) | exact .inr (.inr (.inl (by omega))) | exact .inr (.inr (.inr ‹_›)))).symm),H_.kept⟩
 ·
  refine xaj (ms rfl rfl (dff cc5)) (fun h_ H_=>xaw xtz rfl (a':=⟨b1,0,none⟩) rfl) rfl ?_
  refine xaj (ms rfl rfl (dff cc5)) (fun h_ H_=>xdk H_ tA26 rfl (v:=.slice a r.room.length ca) (xnq hb4 rfl)) rfl ?_
  refine xaj (ms rfl rfl (dff cc5)) (fun h_ H_=>xax (v:=.func (.func 106) #[] #[]) rfl) (tm':=zq2 (zq4 (zq8 _))) rfl ?_
  refine xcw (ms rfl rfl (dff cc5)) (first:=[]) (cap:=[]) rfl rfl fC73 (fun h_ H_=>c73 md _ _ H_.pe (.func (.func 106) #[] #[]) _ _ _ _ (R.r.mono le3) (by omega) badR (fun h_ hp_ i_ hi_=>xxz wuw (c106 md _ _))) rfl ?_
  refine ro (xdq rfl (dff cc5) (v:=.bool (decide (0≤idxA badR r.room))) rfl) <| rt (xax (v:=.bool (decide (0≤idxA badR r.room))) rfl) (tm':=zq1 (zq16 _)) rfl ?_
  by_cases cc6:0≤idxA badR r.room
  ·
   refine rp (mo rfl rfl (dtt cc6)) <| rp (mo rfl rfl (dtt cc6)) <| xck (mo rfl rfl (dtt cc6)) (tm':=zq4 (zq8 (zq16 []))) rfl <| rp (mo rfl rfl (dtt cc6)) <| ro (xbw rfl (dtt cc6) (v:=.bool (true)) rfl) <| rt (xax (v:=.bool (true)) rfl) (tm':=zq4 (zq8 (zq16 []))) rfl ?_
   refine rp (mo rfl rfl rfl) <| rp (mo rfl rfl rfl) <| xck (mo rfl rfl rfl) (tm':=zq4 (zq8 (zq16 []))) rfl <| rp (mo rfl rfl rfl) <| ro (xbw rfl rfl (v:=.bool (true)) rfl) <| xak ?_
   refine xcx rfl rfl <| fsr <| rt (xaq (v:=.int .i64 80) rfl) (tm':=_::_::_::_) rfl <| xak ?_
   refine xcj Tryz.func85 rfl (vs:=[.int .i64 80]) (fun h_ H_=>⟨.int .i64 80,_,rfl,rfl,rfl⟩) (v:=.int .i64 80) rfl ?_
   exact fun h_ H_=>K _ _ ⟨congrArg (Value.int .i64) (by first | exact (yeq (by omega) ‹_› (by omega) ‹_›).symm | exact (xjz (by first | exact .inl (by omega) | exact .inr (.inl ‹_›) | exact .inr (.inr (.inl (by omega))) | exact .inr (.inr (.inr ‹_›)))).symm),H_.kept⟩
  ·
   refine xaj (ms rfl rfl (dff cc6)) (fun h_ H_=>xaw xoq rfl (a':=⟨b1,1,none⟩) rfl) rfl ?_
   refine xaj (ms rfl rfl (dff cc6)) (fun h_ H_=>xdk H_ tA49 rfl (v:=.slice b r.sts.length cb) (xnq hb4 rfl)) rfl ?_
   refine xaj (ms rfl rfl (dff cc6)) (fun h_ H_=>xfj Tryz.underlying49 rfl) (tm':=zq4 (zq8 (zq16 []))) rfl ?_
   refine xaj (ms rfl rfl (dff cc6)) (fun h_ H_=>xjx rfl rfl) rfl ?_
   refine ro (xdq rfl (dff cc6) (v:=.bool (decide (6<((r.sts.length:Nat):Int)))) rfl) <| rt (xax (v:=.bool (decide (6<((r.sts.length:Nat):Int)))) rfl) (tm':=zq4 (zq8 (zq16 []))) rfl ?_
   by_cases cc7:6<((r.sts.length:Nat):Int)
   ·
    refine rp (mo rfl rfl (dtt cc7)) <| rp (mo rfl rfl (dtt cc7)) <| xck (mo rfl rfl (dtt cc7)) (tm':=zq4 (zq8 (zq16 []))) rfl <| rp (mo rfl rfl (dtt cc7)) <| ro (xbw rfl (dtt cc7) (v:=.bool (true)) rfl) <| xak ?_
    refine xcx rfl rfl <| fsr <| rt (xaq (v:=.int .i64 80) rfl) (tm':=_::_::_::_) rfl <| xak ?_
    refine xcj Tryz.func85 rfl (vs:=[.int .i64 80]) (fun h_ H_=>⟨.int .i64 80,_,rfl,rfl,rfl⟩) (v:=.int .i64 80) rfl ?_
    exact fun h_ H_=>K _ _ ⟨congrArg (Value.int .i64) (by first | exact (yeq (by omega) ‹_› (by omega) ‹_›).symm | exact (xjz (by first | exact .inl (by omega) | exact .inr (.inl ‹_›) | exact .inr (.inr (.inl (by omega))) | exact .inr (.inr (.inr ‹_›)))).symm),H_.kept⟩
   ·
    refine xaj (ms rfl rfl (dff cc7)) (fun h_ H_=>xaw xoq rfl (a':=⟨b1,1,none⟩) rfl) rfl ?_
    refine xaj (ms rfl rfl (dff cc7)) (fun h_ H_=>xdk H_ tA49 rfl (v:=.slice b r.sts.length cb) (xnq hb4 rfl)) rfl ?_
    refine xaj (ms rfl rfl (dff cc7)) (fun h_ H_=>xax (v:=.func (.func 107) #[] #[.pointer (some ⟨b1,0,none⟩)]) rfl) (tm':=zq4 (zq8 (zq16 []))) rfl ?_
    refine xcw (ms rfl rfl (dff cc7)) (first:=[]) (cap:=[]) rfl rfl wuk (fun h_ H_=>c109 md _ _ H_.pe (.func (.func 107) #[] #[.pointer (some ⟨b1,0,none⟩)]) _ _ _ _ (R.s.mono le3) (by omega) (badT r) (fun h_ hp_ i_ hi_=>xxz wuv (c107 md _ _ hp_ _ _ _ _ r (show RstP _ _ _ _ _ r from ⟨(R.r.mono le3),(R.s.mono le3)⟩) hn _ hb4 _))) rfl ?_
    refine ro (xdq rfl (dff cc7) (v:=.bool (decide (0≤idxA (badT r) r.sts))) rfl) <| xak ?_
    by_cases cc8:0≤idxA (badT r) r.sts
    ·
     refine xcx rfl (dtt cc8) <| fsr <| rt (xaq (v:=.int .i64 80) rfl) (tm':=_::_::_::_) rfl <| xak ?_
     refine xcj Tryz.func85 rfl (vs:=[.int .i64 80]) (fun h_ H_=>⟨.int .i64 80,_,rfl,rfl,rfl⟩) (v:=.int .i64 80) rfl ?_
     exact fun h_ H_=>K _ _ ⟨congrArg (Value.int .i64) (by first | exact (yeq (by omega) ‹_› (by omega) ‹_›).symm | exact (xjz (by first | exact .inl (by omega) | exact .inr (.inl ‹_›) | exact .inr (.inr (.inl (by omega))) | exact .inr (.inr (.inr ‹_›)))).symm),H_.kept⟩
    ·
     refine xcv rfl (dff cc8) <| xdz <| fsr <| ro (xaq (v:=.int .i64 0) rfl) <| xak ?_
     refine xcj Tryz.func85 rfl (vs:=[.int .i64 0]) (fun h_ H_=>⟨.int .i64 0,_,rfl,rfl,rfl⟩) (v:=.int .i64 0) rfl ?_
     exact fun h_ H_=>K _ _ ⟨congrArg (Value.int .i64) (by first | exact (yeq (by omega) ‹_› (by omega) ‹_›).symm | exact (xjz (by first | exact .inl (by omega) | exact .inr (.inl ‹_›) | exact .inr (.inr (.inl (by omega))) | exact .inr (.inr (.inr ‹_›)))).symm),H_.kept⟩
theorem c78 (md:Md) (h:Heap) (p:PHeap) (hp:Per p h) (a:Option Addr) (ca:Nat) (b:Option Addr) (cb:Nat) (r:Rst) (R:RstP p a r.room.length b r.sts.length r) (hn:r.room.length≤40∧r.sts.length≤40) (q:Bool):CallsX Tryz.prog md 78 #[.agg #[.slice a r.room.length ca,.slice b r.sts.length cb],.bool (q)] h fun v h'=>v= .int .i64 (askH r q)∧Keep h h':=by
 refine xbv (Φ:=fun h_=>St h [] p h_ []) Tryz.func78 rfl (tm:=zq1 (zq4 (zq8 []))) rfl ?_ (St.start h _ hp)
 intro c₀ cs Stop K
 refine fsr ?_
 refine xjq mn (v:=.agg #[.slice a r.room.length ca,.slice b r.sts.length cb]) rfl fun b1=>xcz (L':=[(b1,.cells #[.slice a r.room.length ca,.slice b r.sts.length cb] 51 (0,0))]) rfl ?_
 refine rt (xaq (v:=.int .i64 0) rfl) (tm':=zq1 (zq4 _)) rfl <| ren <| fsr <| rd (fun h_ H_=>xbk H_ tA51 tS51 rfl (i:=0) rfl (vs:=[.slice a r.room.length ca,.slice b r.sts.length cb]) rfl rfl) ?_
 refine xcw mn (first:=[]) (cap:=[]) rfl rfl fC85 (fun h_ H_=>c85 md _ _ H_.pe _ _ _ _ r (show RstP _ _ _ _ _ r from ⟨R.r,R.s⟩) hn) rfl ?_
 refine rt (xaq (v:=.int .i64 (chkH r)) rfl) (tm':=zq2 (zq4 _)) rfl <| ren <| xav <| ro (xax (v:=.int .i64 (chkH r)) rfl) <| ro (xgw rfl rfl) <| xak ?_
 by_cases cc2:chkH r≠0
 ·
  refine xcx rfl (dtt cc2) <| fsr <| rt (xax (v:=.int .i64 (chkH r)) rfl) (tm':=zq1 (zq4 (zq8 []))) rfl <| ro (xaq (v:=.int .i64 (chkH r)) rfl) <| xak ?_
  refine xcj Tryz.func78 rfl (vs:=[.int .i64 (chkH r)]) (fun h_ H_=>⟨.int .i64 (chkH r),_,rfl,rfl,rfl⟩) (v:=.int .i64 (chkH r)) rfl ?_
  exact fun h_ H_=>K _ _ ⟨by unfold askH;first | (rw [if_pos (by omega)];simp [*];done) | (rw [if_neg (by omega)];rcases ynk r with e | e <;> simp_all),H_.kept⟩
 ·
  refine xcv rfl (dff cc2) <| xdz <| xbj <| fsr <| ro (xax (v:=.bool (q)) rfl) <| rt (xfw rfl) (tm':=zq1 (zq4 (zq8 []))) rfl ?_
  refine xak ?_
  rcases xtx (q) with cc3 | cc3
  ·
   refine xcv rfl (xej cc3) <| xdz <| fsr <| ro (xaq (v:=.int .i64 0) rfl) <| xak ?_
   refine xcj Tryz.func78 rfl (vs:=[.int .i64 0]) (fun h_ H_=>⟨.int .i64 0,_,rfl,rfl,rfl⟩) (v:=.int .i64 0) rfl ?_
   exact fun h_ H_=>K _ _ ⟨by unfold askH;first | (rw [if_pos (by omega)];simp [*];done) | (rw [if_neg (by omega)];rcases ynk r with e | e <;> simp_all),H_.kept⟩
  ·
   refine xcx rfl (xek cc3) <| fsr <| ro (xaq (v:=.int .i64 1) rfl) <| xak ?_
   refine xcj Tryz.func78 rfl (vs:=[.int .i64 1]) (fun h_ H_=>⟨.int .i64 1,_,rfl,rfl,rfl⟩) (v:=.int .i64 1) rfl ?_
   exact fun h_ H_=>K _ _ ⟨by unfold askH;first | (rw [if_pos (by omega)];simp [*];done) | (rw [if_neg (by omega)];rcases ynk r with e | e <;> simp_all),H_.kept⟩
theorem c18 (md:Md) (h:Heap) (p:PHeap) (hp:Per p h) (a:Option Addr) (ca:Nat) (b:Option Addr) (cb:Nat) (r:Rst) (R:RstP p a r.room.length b r.sts.length r) (hn:r.room.length≤40∧r.sts.length≤40):CallsX Tryz.prog md 18 #[.agg #[.slice a r.room.length ca,.slice b r.sts.length cb]] h fun v h'=>v= .int .i64 (chkH r)∧Keep h h':=by
 refine xbv (Φ:=fun h_=>St h [] p h_ []) Tryz.func18 rfl (tm:=zq1 (zq2 (zq4 (zq8 (zq32 (zq32 [])))))) rfl ?_ (St.start h _ hp)
 intro c₀ cs Stop K
 refine fsr ?_
 refine xjq mn (v:=.agg #[.slice a r.room.length ca,.slice b r.sts.length cb]) rfl fun b1=>xcz (L':=[(b1,.cells #[.slice a r.room.length ca,.slice b r.sts.length cb] 51 (0,0))]) rfl ?_
 refine xfz (tm':=_::_::_) rfl ?_
 refine ro (xaq (v:=.int .i64 0) rfl) <| ren <| fsr <| ro (xaw xtz rfl (a':=⟨b1,0,none⟩) rfl) ?_
 refine xaj mn (fun h_ H_=>xbx H_ tA26 rfl (i:=0) rfl (v:=.slice a r.room.length ca) rfl) (tm':=zq8 _) rfl ?_
 refine ro (xfj Tryz.underlying26 rfl) <| ro (xjx rfl rfl) <| rt (xax (v:=.bool (decide (8<((r.room.length:Nat):Int)))) rfl) (tm':=zq1 (zq2 (zq8 _))) rfl ?_
 by_cases cc2:8<((r.room.length:Nat):Int)
 ·
  refine rp (mo rfl rfl (dtt cc2)) <| rp (mo rfl rfl (dtt cc2)) <| xck (mo rfl rfl (dtt cc2)) (tm':=zq2 (zq4 (zq8 _))) rfl <| rp (mo rfl rfl (dtt cc2)) <| ro (xbw rfl (dtt cc2) (v:=.bool (true)) rfl) <| xak ?_
  refine xcx rfl rfl <| fsr <| rt (xaq (v:=.int .i64 80) rfl) (tm':=_::_::_::_) rfl <| xak ?_
  refine xcj Tryz.func18 rfl (vs:=[.int .i64 80]) (fun h_ H_=>⟨.int .i64 80,_,rfl,rfl,rfl⟩) (v:=.int .i64 80) rfl ?_
  exact fun h_ H_=>K _ _ ⟨congrArg (Value.int .i64) (by first | exact (xnw (by omega) (fun i hi=>h1 i (by omega)) (by omega) (fun i hi=>h2 i (by omega))).symm | exact (xjz (.inl (by omega))).symm | exact (xjz (.inr (.inr (.inl (by omega))))).symm | exact (xnv (i:=j) (by omega) (by omega)).symm | exact (xnk (i:=k) (by omega) (by unfold okS;omega)).symm),H_.kept⟩
 ·
  refine xaj (ms rfl rfl (dff cc2)) (fun h_ H_=>xaw xoq rfl (a':=⟨b1,1,none⟩) rfl) rfl ?_
  refine xaj (ms rfl rfl (dff cc2)) (fun h_ H_=>xbx H_ tA49 rfl (i:=0) rfl (v:=.slice b r.sts.length cb) rfl) rfl ?_
  refine xaj (ms rfl rfl (dff cc2)) (fun h_ H_=>xfj Tryz.underlying49 rfl) (tm':=zq2 (zq4 (zq8 _))) rfl ?_
  refine xaj (ms rfl rfl (dff cc2)) (fun h_ H_=>xjx rfl rfl) rfl ?_
  refine ro (xdq rfl (dff cc2) (v:=.bool (decide (6<((r.sts.length:Nat):Int)))) rfl) <| xak ?_
  by_cases cc3:6<((r.sts.length:Nat):Int)
  ·
   refine xcx rfl (dtt cc3) <| fsr <| rt (xaq (v:=.int .i64 80) rfl) (tm':=_::_::_::_) rfl <| xak ?_
   refine xcj Tryz.func18 rfl (vs:=[.int .i64 80]) (fun h_ H_=>⟨.int .i64 80,_,rfl,rfl,rfl⟩) (v:=.int .i64 80) rfl ?_
   exact fun h_ H_=>K _ _ ⟨congrArg (Value.int .i64) (by first | exact (xnw (by omega) (fun i hi=>h1 i (by omega)) (by omega) (fun i hi=>h2 i (by omega))).symm | exact (xjz (.inl (by omega))).symm | exact (xjz (.inr (.inr (.inl (by omega))))).symm | exact (xnv (i:=j) (by omega) (by omega)).symm | exact (xnk (i:=k) (by omega) (by unfold okS;omega)).symm),H_.kept⟩
  ·
   refine xcv rfl (dff cc3) <| xdz <| xbj <| fsr <| ro (xaq (v:=.int .i64 0) rfl) <| xak ?_
   refine xeq ?_
   refine xhk (m₀:=r.room.length-0) (fun m_ tm_ h_=>∃ (j:Nat),m_=r.room.length-j∧(∃ y4:Nat→Value,tm_=(.agg #[.slice a r.room.length ca,.slice b r.sts.length cb]::.pointer (some ⟨b1,0,none⟩)::(y4 2)::.int .i64 (((j:Nat):Int))::undef::undef::.pointer (some ⟨b1,0,none⟩)::.slice a r.room.length ca::.int .i64 (((r.room.length:Nat):Int))::.bool (decide (8<((r.room.length:Nat):Int)))::.bool (decide (8<((r.room.length:Nat):Int)))::.pointer (some ⟨b1,1,none⟩)::.slice b r.sts.length cb::.int .i64 (((r.sts.length:Nat):Int))::.bool (decide (6<((r.sts.length:Nat):Int)))::.bool (decide (6<((r.sts.length:Nat):Int)))::(y4 16)::(y4 17)::(y4 18)::(y4 19)::(y4 20)::(y4 21)::(y4 22)::(y4 23)::(y4 24)::(y4 25)::(y4 26)::(y4 27)::(y4 28)::(y4 29)::undef::zu16 (zu16 (zu16 []))))∧(j≤r.room.length)∧(∀ i,i<j→badR (r.room.getD i 0)=false)∧St h [] p h_ ([(b1,.cells #[.slice a r.room.length ca,.slice b r.sts.length cb] 51 (0,0))])) (fun h_ H_=>⟨0,rfl,(y_of rfl),Nat.zero_le _,(fun i hi=>absurd hi (Nat.not_lt_zero i)),H_⟩) ?_
   intro m_ tm_ IH5
   refine xhq fun j=>xdj fun hm_=>xdj fun ht_=>xdj fun hkj=>xdj fun h1=>?_
   subst hm_;obtain ⟨y4,ht_⟩:=ht_;subst ht_
   refine xbj <| fsr <| ro (xax (v:=.int .i64 (((j:Nat):Int))) rfl) <| rt (xaw xtz rfl (a':=⟨b1,0,none⟩) rfl) (tm':=zq2 (zq16 _)) rfl <| rd (fun h_ H_=>xbx H_ tA26 rfl (i:=0) rfl (v:=.slice a r.room.length ca) rfl) <| ro (xfj Tryz.underlying26 rfl) ?_
   refine rt (xfk rfl rfl) (tm':=zq1 (zq4 (zq16 _))) rfl <| xak ?_
   by_cases cc6:((j:Nat):Int)<((r.room.length:Nat):Int)
   ·
    refine xcx rfl (dtt cc6) <| xdz <| xbj <| xeq <| fsr <| ro (xaw xtz rfl (a':=⟨b1,0,none⟩) rfl) ?_
    refine rd (fun h_ H_=>xbx H_ tA26 rfl (i:=0) rfl (v:=.slice a r.room.length ca) rfl) <| rt (xax (v:=.int .i64 (((j:Nat):Int))) rfl) (tm':=zq2 (zq8 (zq16 _))) rfl ?_
    refine ro (xdx (i:=j) Tryz.underlying26 tS3 (xlx a r.room.length ca (R.r.ne (by omega))) rfl (by omega)) ?_
    refine rd (fun h_ H_=>xdk H_ tA3 rfl (v:=.int .i64 (r.room.getD j 0)) (R.r.get (by omega))) ?_
    refine xcw mn (first:=[]) (cap:=[]) rfl rfl fC48 (fun h_ H_=>c48 md _ (r.room.getD j 0) (0) (6)) (tm':=zq1 (zq4 (zq8 (zq16 _)))) rfl ?_
    refine ro (xfw rfl) <| xak ?_
    by_cases cc7:0≤r.room.getD j 0∧r.room.getD j 0≤6
    ·
     refine xcv rfl (xej (dtt cc7)) <| xdz <| xex <| xav <| ro (xax (v:=.int .i64 (((j:Nat):Int))) rfl) ?_
     refine rt (xev rfl rfl (n:=((j+1:Nat):Int)) (wr (by omega))) (tm':=zq1 (zq2 (zq4 (zq16 _)))) rfl ?_
     refine ro (xaq (v:=.int .i64 (((j+1:Nat):Int))) rfl) <| xak ?_
     exact fun h_ H_=>IH5 _ _ (by omega) h_ ⟨j+1,rfl,(y_of rfl),(by omega),(xrz h1 (wpj (by omega))),H_⟩
    ·
     refine xcx rfl (xek (dff cc7)) <| fsr <| ro (xaq (v:=.int .i64 80) rfl) <| xak ?_
     refine xcj Tryz.func18 rfl (vs:=[.int .i64 80]) (fun h_ H_=>⟨.int .i64 80,_,rfl,rfl,rfl⟩) (v:=.int .i64 80) rfl ?_
     exact fun h_ H_=>K _ _ ⟨congrArg (Value.int .i64) (by first | exact (xnw (by omega) (fun i hi=>h1 i (by omega)) (by omega) (fun i hi=>h2 i (by omega))).symm | exact (xjz (.inl (by omega))).symm | exact (xjz (.inr (.inr (.inl (by omega))))).symm | exact (xnv (i:=j) (by omega) (by omega)).symm | exact (xnk (i:=k) (by omega) (by unfold okS;omega)).symm),H_.kept⟩
   ·
    refine xcv rfl (dff cc6) <| xgk rfl <| xbj <| fsr <| rt (xaq (v:=.int .i64 0) rfl) (tm':=zq1 (zq4 _)) rfl <| xak ?_
    refine xeq ?_
    refine xhk (m₀:=r.sts.length-0) (fun m_ tm_ h_=>∃ (k:Nat),m_=r.sts.length-k∧(∃ y8:Nat→Value,tm_=[.agg #[.slice a r.room.length ca,.slice b r.sts.length cb],.pointer (some ⟨b1,0,none⟩),(y8 2),.int .i64 (((j:Nat):Int)),.int .i64 (((k:Nat):Int)),(y8 5),.pointer (some ⟨b1,0,none⟩),.slice a r.room.length ca,.int .i64 (((r.room.length:Nat):Int)),.bool (decide (8<((r.room.length:Nat):Int))),.bool (decide (8<((r.room.length:Nat):Int))),.pointer (some ⟨b1,1,none⟩),.slice b r.sts.length cb,.int .i64 (((r.sts.length:Nat):Int)),.bool (decide (6<((r.sts.length:Nat):Int))),.bool (decide (6<((r.sts.length:Nat):Int))),.int .i64 (((j:Nat):Int)),.pointer (some ⟨b1,0,none⟩),.slice a r.room.length ca,.int .i64 (((r.room.length:Nat):Int)),.bool (decide (((j:Nat):Int)<((r.room.length:Nat):Int))),(y4 21),(y4 22),(y4 23),(y4 24),(y4 25),(y4 26),(y4 27),(y4 28),(y4 29),(y8 30),(y8 31),(y8 32),(y8 33),(y8 34),(y8 35),(y8 36),(y8 37),(y8 38),(y8 39),(y8 40),(y8 41),(y8 42),(y8 43),(y8 44),(y8 45),(y8 46),(y8 47),(y8 48),(y8 49),(y8 50),(y8 51),(y8 52),(y8 53),(y8 54),(y8 55),(y8 56),(y8 57),(y8 58),(y8 59),(y8 60),(y8 61),(y8 62),(y8 63),(y8 64),(y8 65),(y8 66),(y8 67),(y8 68),(y8 69),(y8 70),(y8 71),(y8 72),(y8 73),(y8 74),(y8 75),(y8 76),(y8 77),(y8 78)])∧(k≤r.sts.length)∧(∀ i,i<k→okS r.room.length (r.sts.getD i sz))∧St h [] p h_ ([(b1,.cells #[.slice a r.room.length ca,.slice b r.sts.length cb] 51 (0,0))])) (fun h_ H_=>⟨0,rfl,(y_of rfl),Nat.zero_le _,(fun i hi=>absurd hi (Nat.not_lt_zero i)),H_⟩) ?_
    intro m_ tm_ IH9
    refine xhq fun k=>xdj fun hm_=>xdj fun ht_=>xdj fun hkk=>xdj fun h2=>?_
    subst hm_;obtain ⟨y8,ht_⟩:=ht_;subst ht_
    refine xbj <| fsr <| ro (xax (v:=.int .i64 (((k:Nat):Int))) rfl) <| ro (xaw xoq rfl (a':=⟨b1,1,none⟩) rfl) ?_
    refine xaj mn (fun h_ H_=>xbx H_ tA49 rfl (i:=0) rfl (v:=.slice b r.sts.length cb) rfl) (tm':=zq1 (zq32 _)) rfl ?_
    refine ro (xfj Tryz.underlying49 rfl) <| ro (xfk rfl rfl) <| xak ?_
    by_cases cc10:((k:Nat):Int)<((r.sts.length:Nat):Int)
    ·
     refine xcx rfl (dtt cc10) <| xdz <| xbj <| xeq <| fsr <| rt (xaw xoq rfl (a':=⟨b1,1,none⟩) rfl) (tm':=zq2 (zq4 (zq32 _))) rfl ?_
     refine rd (fun h_ H_=>xbx H_ tA49 rfl (i:=0) rfl (v:=.slice b r.sts.length cb) rfl) <| ro (xax (v:=.int .i64 (((k:Nat):Int))) rfl) ?_
     refine rt (xdx (i:=k) Tryz.underlying49 tS91 (xlx b r.sts.length cb (R.s.ne (by omega))) rfl (by omega)) (tm':=zq1 (zq8 (zq32 _))) rfl ?_
     refine rd (fun h_ H_=>xiw H_ tA91 tS91 rfl (vs:=[.int .i64 ((r.sts.getD k sz).has),.int .i64 ((r.sts.getD k sz).lo),.int .i64 ((r.sts.getD k sz).hi),.int .i64 ((r.sts.getD k sz).cost)]) rfl (R.s.all (by omega))) ?_
     refine xjj mn tZ91 rfl fun b11=>xcz (L':=[(b11,.cells #[.int .i64 0,.int .i64 0,.int .i64 0,.int .i64 0] 91 (0,0)),(b1,.cells #[.slice a r.room.length ca,.slice b r.sts.length cb] 51 (0,0))]) rfl ?_
     refine xfv mn tS91 rfl (v:=.agg #[.int .i64 ((r.sts.getD k sz).has),.int .i64 ((r.sts.getD k sz).lo),.int .i64 ((r.sts.getD k sz).hi),.int .i64 ((r.sts.getD k sz).cost)]) rfl (i:=0) rfl rfl rfl (Nat.le_of_ble_eq_true rfl) (cs2:=[.int .i64 ((r.sts.getD k sz).has),.int .i64 ((r.sts.getD k sz).lo),.int .i64 ((r.sts.getD k sz).hi),.int .i64 ((r.sts.getD k sz).cost)]) rfl (xcz (L':=[(b11,.cells #[.int .i64 ((r.sts.getD k sz).has),.int .i64 ((r.sts.getD k sz).lo),.int .i64 ((r.sts.getD k sz).hi),.int .i64 ((r.sts.getD k sz).cost)] 91 (0,0)),(b1,.cells #[.slice a r.room.length ca,.slice b r.sts.length cb] 51 (0,0))]) rfl ?_)
     refine ren <| xav <| rt (xaw ykj rfl (a':=⟨b11,0,none⟩) rfl) (tm':=zq1 (zq2 (zq8 (zq32 _)))) rfl <| rd (fun h_ H_=>xbx H_ tA3 rfl (i:=0) rfl (v:=.int .i64 ((r.sts.getD k sz).has)) rfl) <| ro (xgw rfl rfl) <| rt (xax (v:=.bool (decide ((r.sts.getD k sz).has≠(-1)))) rfl) (tm':=zq2 (zq4 (zq8 (zq32 _)))) rfl ?_
     by_cases cc12:(r.sts.getD k sz).has≠(-1)
     ·
      refine xaj (ms rfl rfl (dtt cc12)) (fun h_ H_=>xbk H_ tA51 tS51 rfl (i:=1) rfl (vs:=[.slice a r.room.length ca,.slice b r.sts.length cb]) rfl rfl) rfl ?_
      refine xaj (ms rfl rfl (dtt cc12)) (fun h_ H_=>xaw ykj rfl (a':=⟨b11,0,none⟩) rfl) rfl ?_
      refine xaj (ms rfl rfl (dtt cc12)) (fun h_ H_=>xbx H_ tA3 rfl (i:=0) rfl (v:=.int .i64 ((r.sts.getD k sz).has)) rfl) (tm':=zq1 (zq16 (zq32 _))) rfl ?_
      refine xcw (ms rfl rfl (dtt cc12)) (first:=[]) (cap:=[]) rfl rfl fC49 (fun h_ H_=>c49 md _ _ H_.pe _ _ _ _ r (show RstP _ _ _ _ _ r from ⟨R.r,R.s⟩) hn ((r.sts.getD k sz).has)) rfl ?_
      refine xaj (ms rfl rfl (dtt cc12)) (fun h_ H_=>xfw rfl) rfl ?_
      refine rt (xbw rfl (dtt cc12) (v:=.bool (!(decide (0≤(r.sts.getD k sz).has∧(r.sts.getD k sz).has≤(r.room.length:Int)-1)))) rfl) (tm':=zq4 (zq16 (zq32 _))) rfl <| ro (xax (v:=.bool (!(decide (0≤(r.sts.getD k sz).has∧(r.sts.getD k sz).has≤(r.room.length:Int)-1)))) rfl) ?_
      by_cases cc13:0≤(r.sts.getD k sz).has∧(r.sts.getD k sz).has≤(r.room.length:Int)-1
      ·
       refine xaj (ms rfl rfl (xej (dtt cc13))) (fun h_ H_=>xbk H_ tA51 tS51 rfl (i:=1) rfl (vs:=[.slice a r.room.length ca,.slice b r.sts.length cb]) rfl rfl) rfl ?_
       refine xaj (ms rfl rfl (xej (dtt cc13))) (fun h_ H_=>xaw xuv rfl (a':=⟨b11,1,none⟩) rfl) (tm':=zq1 (zq2 (zq4 (zq8 (zq32 (zq32 [])))))) rfl ?_
       refine xaj (ms rfl rfl (xej (dtt cc13))) (fun h_ H_=>xbx H_ tA3 rfl (i:=0) rfl (v:=.int .i64 ((r.sts.getD k sz).lo)) rfl) rfl ?_
       refine xcw (ms rfl rfl (xej (dtt cc13))) (first:=[]) (cap:=[]) rfl rfl fC49 (fun h_ H_=>c49 md _ _ H_.pe _ _ _ _ r (show RstP _ _ _ _ _ r from ⟨R.r,R.s⟩) hn ((r.sts.getD k sz).lo)) rfl ?_
       refine xaj (ms rfl rfl (xej (dtt cc13))) (fun h_ H_=>xfw rfl) (tm':=zq1 (zq2 (zq4 (zq8 (zq32 (zq32 [])))))) rfl ?_
       refine ro (xdq rfl (xej (dtt cc13)) (v:=.bool (!(decide (0≤(r.sts.getD k sz).lo∧(r.sts.getD k sz).lo≤(r.room.length:Int)-1)))) rfl) <| ro (xax (v:=.bool (!(decide (0≤(r.sts.getD k sz).lo∧(r.sts.getD k sz).lo≤(r.room.length:Int)-1)))) rfl) ?_
       by_cases cc14:0≤(r.sts.getD k sz).lo∧(r.sts.getD k sz).lo≤(r.room.length:Int)-1
       ·
        refine xaj (ms rfl rfl (xej (dtt cc14))) (fun h_ H_=>xbk H_ tA51 tS51 rfl (i:=1) rfl (vs:=[.slice a r.room.length ca,.slice b r.sts.length cb]) rfl rfl) (tm':=zq1 (zq2 (zq4 (zq8 (zq32 (zq32 [])))))) rfl ?_
        refine xaj (ms rfl rfl (xej (dtt cc14))) (fun h_ H_=>xaw xuk rfl (a':=⟨b11,2,none⟩) rfl) rfl ?_
        refine xaj (ms rfl rfl (xej (dtt cc14))) (fun h_ H_=>xbx H_ tA3 rfl (i:=0) rfl (v:=.int .i64 ((r.sts.getD k sz).hi)) rfl) rfl ?_
        refine xcw (ms rfl rfl (xej (dtt cc14))) (first:=[]) (cap:=[]) rfl rfl fC49 (fun h_ H_=>c49 md _ _ H_.pe _ _ _ _ r (show RstP _ _ _ _ _ r from ⟨R.r,R.s⟩) hn ((r.sts.getD k sz).hi)) (tm':=zq1 (zq2 (zq4 (zq8 (zq32 (zq32 [])))))) rfl ?_
        refine xaj (ms rfl rfl (xej (dtt cc14))) (fun h_ H_=>xfw rfl) rfl ?_
        refine ro (xdq rfl (xej (dtt cc14)) (v:=.bool (!(decide (0≤(r.sts.getD k sz).hi∧(r.sts.getD k sz).hi≤(r.room.length:Int)-1)))) rfl) <| rt (xax (v:=.bool (!(decide (0≤(r.sts.getD k sz).hi∧(r.sts.getD k sz).hi≤(r.room.length:Int)-1)))) rfl) (tm':=zq1 (zq2 (zq4 (zq8 (zq32 (zq32 [])))))) rfl ?_
        by_cases cc15:0≤(r.sts.getD k sz).hi∧(r.sts.getD k sz).hi≤(r.room.length:Int)-1
        ·
         refine xaj (ms rfl rfl (xej (dtt cc15))) (fun h_ H_=>xaw xuv rfl (a':=⟨b11,1,none⟩) rfl) rfl ?_
         refine xaj (ms rfl rfl (xej (dtt cc15))) (fun h_ H_=>xbx H_ tA3 rfl (i:=0) rfl (v:=.int .i64 ((r.sts.getD k sz).lo)) rfl) rfl ?_
         refine xaj (ms rfl rfl (xej (dtt cc15))) (fun h_ H_=>xaw xuk rfl (a':=⟨b11,2,none⟩) rfl) (tm':=zq1 (zq2 (zq4 (zq8 (zq32 (zq32 [])))))) rfl ?_
         refine xaj (ms rfl rfl (xej (dtt cc15))) (fun h_ H_=>xbx H_ tA3 rfl (i:=0) rfl (v:=.int .i64 ((r.sts.getD k sz).hi)) rfl) rfl ?_
         refine xaj (ms rfl rfl (xej (dtt cc15))) (fun h_ H_=>xjx rfl rfl) rfl ?_
         refine rt (xdq rfl (xej (dtt cc15)) (v:=.bool (decide ((r.sts.getD k sz).hi<(r.sts.getD k sz).lo))) rfl) (tm':=zq1 (zq2 (zq4 (zq8 (zq32 (zq32 [])))))) rfl <| ro (xax (v:=.bool (decide ((r.sts.getD k sz).hi<(r.sts.getD k sz).lo))) rfl) ?_
         by_cases cc16:(r.sts.getD k sz).hi<(r.sts.getD k sz).lo
         ·
          refine rp (mo rfl rfl (dtt cc16)) <| xck (mo rfl rfl (dtt cc16)) (tm':=zq1 (zq2 (zq4 (zq8 (zq32 (zq32 [])))))) rfl <| rp (mo rfl rfl (dtt cc16)) <| rp (mo rfl rfl (dtt cc16)) <| rt (xbw rfl (dtt cc16) (v:=.bool (true)) rfl) (tm':=zq1 (zq2 (zq4 (zq8 (zq32 (zq32 [])))))) rfl <| xak ?_
          refine xcx rfl rfl <| fsr <| ro (xaq (v:=.int .i64 80) rfl) <| xak ?_
          refine xcj Tryz.func18 rfl (vs:=[.int .i64 80]) (fun h_ H_=>⟨.int .i64 80,_,rfl,rfl,rfl⟩) (v:=.int .i64 80) rfl ?_
          exact fun h_ H_=>K _ _ ⟨congrArg (Value.int .i64) (by first | exact (xnw (by omega) (fun i hi=>h1 i (by omega)) (by omega) (fun i hi=>h2 i (by omega))).symm | exact (xjz (.inl (by omega))).symm | exact (xjz (.inr (.inr (.inl (by omega))))).symm | exact (xnv (i:=j) (by omega) (by omega)).symm | exact (xnk (i:=k) (by omega) (by unfold okS;omega)).symm),H_.kept⟩
         ·
          refine xaj (ms rfl rfl (dff cc16)) (fun h_ H_=>xaw yxj rfl (a':=⟨b11,3,none⟩) rfl) rfl ?_
          refine xaj (ms rfl rfl (dff cc16)) (fun h_ H_=>xbx H_ tA3 rfl (i:=0) rfl (v:=.int .i64 ((r.sts.getD k sz).cost)) rfl) (tm':=zq1 (zq2 (zq4 (zq8 (zq32 (zq32 [])))))) rfl ?_
          refine xcw (ms rfl rfl (dff cc16)) (first:=[]) (cap:=[]) rfl rfl fC48 (fun h_ H_=>c48 md _ ((r.sts.getD k sz).cost) (0) (9)) rfl ?_
          refine xaj (ms rfl rfl (dff cc16)) (fun h_ H_=>xfw rfl) rfl ?_
          refine rt (xdq rfl (dff cc16) (v:=.bool (!(decide (0≤(r.sts.getD k sz).cost∧(r.sts.getD k sz).cost≤9)))) rfl) (tm':=zq1 (zq2 (zq4 (zq8 (zq32 (zq32 [])))))) rfl <| xak ?_
          by_cases cc17:0≤(r.sts.getD k sz).cost∧(r.sts.getD k sz).cost≤9
          ·
           refine xcv rfl (xej (dtt cc17)) <| xdz <| xex <| xav <| ro (xax (v:=.int .i64 (((k:Nat):Int))) rfl) ?_
           refine ro (xev rfl rfl (n:=((k+1:Nat):Int)) (wr (by omega))) ?_
           refine rt (xaq (v:=.int .i64 (((k+1:Nat):Int))) rfl) (tm':=zq1 (zq4 _)) rfl <| xak ?_
           exact fun h_ H_=>IH9 _ _ (by omega) h_ ⟨k+1,rfl,(y_of rfl),(by omega),(xrz h2 (by unfold okS;omega)),H_.drop⟩
          ·
           refine xcx rfl (xek (dff cc17)) <| fsr <| ro (xaq (v:=.int .i64 80) rfl) <| xak ?_
           refine xcj Tryz.func18 rfl (vs:=[.int .i64 80]) (fun h_ H_=>⟨.int .i64 80,_,rfl,rfl,rfl⟩) (v:=.int .i64 80) rfl ?_
           exact fun h_ H_=>K _ _ ⟨congrArg (Value.int .i64) (by first | exact (xnw (by omega) (fun i hi=>h1 i (by omega)) (by omega) (fun i hi=>h2 i (by omega))).symm | exact (xjz (.inl (by omega))).symm | exact (xjz (.inr (.inr (.inl (by omega))))).symm | exact (xnv (i:=j) (by omega) (by omega)).symm | exact (xnk (i:=k) (by omega) (by unfold okS;omega)).symm),H_.kept⟩
        ·
         refine rp (mo rfl rfl (xek (dff cc15))) <| xck (mo rfl rfl (xek (dff cc15))) (tm':=zq1 (zq2 (zq4 (zq8 (zq32 (zq32 [])))))) rfl <| rp (mo rfl rfl (xek (dff cc15))) <| rp (mo rfl rfl (xek (dff cc15))) <| xck (mo rfl rfl (xek (dff cc15))) (tm':=zq1 (zq2 (zq4 (zq8 (zq32 (zq32 [])))))) rfl <| ro (xbw rfl (xek (dff cc15)) (v:=.bool (true)) rfl) ?_
         refine ro (xax (v:=.bool (true)) rfl) <| xck (mo rfl rfl rfl) (tm':=zq1 (zq2 (zq4 (zq8 (zq32 (zq32 [])))))) rfl <| rp (mo rfl rfl rfl) <| rp (mo rfl rfl rfl) <| xck (mo rfl rfl rfl) (tm':=zq1 (zq2 (zq4 (zq8 (zq32 (zq32 [])))))) rfl <| ro (xbw rfl rfl (v:=.bool (true)) rfl) ?_
         refine xak <| xcx rfl rfl <| fsr <| ro (xaq (v:=.int .i64 80) rfl) <| xak ?_
         refine xcj Tryz.func18 rfl (vs:=[.int .i64 80]) (fun h_ H_=>⟨.int .i64 80,_,rfl,rfl,rfl⟩) (v:=.int .i64 80) rfl ?_
         exact fun h_ H_=>K _ _ ⟨congrArg (Value.int .i64) (by first | exact (xnw (by omega) (fun i hi=>h1 i (by omega)) (by omega) (fun i hi=>h2 i (by omega))).symm | exact (xjz (.inl (by omega))).symm | exact (xjz (.inr (.inr (.inl (by omega))))).symm | exact (xnv (i:=j) (by omega) (by omega)).symm | exact (xnk (i:=k) (by omega) (by unfold okS;omega)).symm),H_.kept⟩
       ·
        refine xck (mo rfl rfl (xek (dff cc14))) (tm':=zq1 (zq2 (zq4 (zq8 (zq32 (zq32 [])))))) rfl <| rp (mo rfl rfl (xek (dff cc14))) <| rp (mo rfl rfl (xek (dff cc14))) <| xck (mo rfl rfl (xek (dff cc14))) (tm':=zq1 (zq2 (zq4 (zq8 (zq32 (zq32 [])))))) rfl <| rp (mo rfl rfl (xek (dff cc14))) <| ro (xbw rfl (xek (dff cc14)) (v:=.bool (true)) rfl) ?_
        refine rt (xax (v:=.bool (true)) rfl) (tm':=zq1 (zq2 (zq4 (zq8 (zq32 (zq32 [])))))) rfl <| rp (mo rfl rfl rfl) <| rp (mo rfl rfl rfl) <| xck (mo rfl rfl rfl) (tm':=zq1 (zq2 (zq4 (zq8 (zq32 (zq32 [])))))) rfl <| rp (mo rfl rfl rfl) <| rp (mo rfl rfl rfl) ?_
        refine rt (xbw rfl rfl (v:=.bool (true)) rfl) (tm':=zq1 (zq2 (zq4 (zq8 (zq32 (zq32 [])))))) rfl <| ro (xax (v:=.bool (true)) rfl) <| rp (mo rfl rfl rfl) <| xck (mo rfl rfl rfl) (tm':=zq1 (zq2 (zq4 (zq8 (zq32 (zq32 [])))))) rfl <| rp (mo rfl rfl rfl) <| rp (mo rfl rfl rfl) ?_
        refine rt (xbw rfl rfl (v:=.bool (true)) rfl) (tm':=zq1 (zq2 (zq4 (zq8 (zq32 (zq32 [])))))) rfl <| xak <| xcx rfl rfl <| fsr <| ro (xaq (v:=.int .i64 80) rfl) <| xak ?_
        refine xcj Tryz.func18 rfl (vs:=[.int .i64 80]) (fun h_ H_=>⟨.int .i64 80,_,rfl,rfl,rfl⟩) (v:=.int .i64 80) rfl ?_
        exact fun h_ H_=>K _ _ ⟨congrArg (Value.int .i64) (by first | exact (xnw (by omega) (fun i hi=>h1 i (by omega)) (by omega) (fun i hi=>h2 i (by omega))).symm | exact (xjz (.inl (by omega))).symm | exact (xjz (.inr (.inr (.inl (by omega))))).symm | exact (xnv (i:=j) (by omega) (by omega)).symm | exact (xnk (i:=k) (by omega) (by unfold okS;omega)).symm),H_.kept⟩
      ·
       refine rp (mo rfl rfl (xek (dff cc13))) <| xck (mo rfl rfl (xek (dff cc13))) (tm':=zq1 (zq2 (zq4 (zq8 (zq32 (zq32 [])))))) rfl <| rp (mo rfl rfl (xek (dff cc13))) <| rp (mo rfl rfl (xek (dff cc13))) <| xck (mo rfl rfl (xek (dff cc13))) (tm':=zq1 (zq2 (zq4 (zq8 (zq32 (zq32 [])))))) rfl <| ro (xbw rfl (xek (dff cc13)) (v:=.bool (true)) rfl) ?_
       refine ro (xax (v:=.bool (true)) rfl) <| xck (mo rfl rfl rfl) (tm':=zq1 (zq2 (zq4 (zq8 (zq32 (zq32 [])))))) rfl <| rp (mo rfl rfl rfl) <| rp (mo rfl rfl rfl) <| xck (mo rfl rfl rfl) (tm':=zq1 (zq2 (zq4 (zq8 (zq32 (zq32 [])))))) rfl <| rp (mo rfl rfl rfl) ?_
       refine ro (xbw rfl rfl (v:=.bool (true)) rfl) <| rt (xax (v:=.bool (true)) rfl) (tm':=zq1 (zq2 (zq4 (zq8 (zq32 (zq32 [])))))) rfl <| rp (mo rfl rfl rfl) <| rp (mo rfl rfl rfl) <| xck (mo rfl rfl rfl) (tm':=zq1 (zq2 (zq4 (zq8 (zq32 (zq32 [])))))) rfl <| rp (mo rfl rfl rfl) ?_
       refine rp (mo rfl rfl rfl) <| rt (xbw rfl rfl (v:=.bool (true)) rfl) (tm':=zq1 (zq2 (zq4 (zq8 (zq32 (zq32 [])))))) rfl <| ro (xax (v:=.bool (true)) rfl) <| rp (mo rfl rfl rfl) <| xck (mo rfl rfl rfl) (tm':=zq1 (zq2 (zq4 (zq8 (zq32 (zq32 [])))))) rfl <| rp (mo rfl rfl rfl) ?_
       refine rp (mo rfl rfl rfl) <| rt (xbw rfl rfl (v:=.bool (true)) rfl) (tm':=zq1 (zq2 (zq4 (zq8 (zq32 (zq32 [])))))) rfl <| xak <| xcx rfl rfl <| fsr <| ro (xaq (v:=.int .i64 80) rfl) ?_
       refine xak ?_
       refine xcj Tryz.func18 rfl (vs:=[.int .i64 80]) (fun h_ H_=>⟨.int .i64 80,_,rfl,rfl,rfl⟩) (v:=.int .i64 80) rfl ?_
       exact fun h_ H_=>K _ _ ⟨congrArg (Value.int .i64) (by first | exact (xnw (by omega) (fun i hi=>h1 i (by omega)) (by omega) (fun i hi=>h2 i (by omega))).symm | exact (xjz (.inl (by omega))).symm | exact (xjz (.inr (.inr (.inl (by omega))))).symm | exact (xnv (i:=j) (by omega) (by omega)).symm | exact (xnk (i:=k) (by omega) (by unfold okS;omega)).symm),H_.kept⟩
     ·
      refine rp (mo rfl rfl (dff cc12)) <| xck (mo rfl rfl (dff cc12)) (tm':=zq16 (zq32 _)) rfl <| rp (mo rfl rfl (dff cc12)) <| rp (mo rfl rfl (dff cc12)) <| xck (mo rfl rfl (dff cc12)) (tm':=zq1 (zq2 (zq16 (zq32 _)))) rfl <| ro (xdq rfl (dff cc12) (v:=.bool (false)) rfl) ?_
      refine ro (xax (v:=.bool (false)) rfl) ?_
      refine xaj (ms rfl rfl rfl) (fun h_ H_=>xbk H_ tA51 tS51 rfl (i:=1) rfl (vs:=[.slice a r.room.length ca,.slice b r.sts.length cb]) rfl rfl) (tm':=zq1 (zq2 (zq4 (zq8 (zq32 (zq32 [])))))) rfl ?_
      refine xaj (ms rfl rfl rfl) (fun h_ H_=>xaw xuv rfl (a':=⟨b11,1,none⟩) rfl) rfl ?_
      refine xaj (ms rfl rfl rfl) (fun h_ H_=>xbx H_ tA3 rfl (i:=0) rfl (v:=.int .i64 ((r.sts.getD k sz).lo)) rfl) rfl ?_
      refine xcw (ms rfl rfl rfl) (first:=[]) (cap:=[]) rfl rfl fC49 (fun h_ H_=>c49 md _ _ H_.pe _ _ _ _ r (show RstP _ _ _ _ _ r from ⟨R.r,R.s⟩) hn ((r.sts.getD k sz).lo)) (tm':=zq1 (zq2 (zq4 (zq8 (zq32 (zq32 [])))))) rfl ?_
      refine xaj (ms rfl rfl rfl) (fun h_ H_=>xfw rfl) rfl ?_
      refine ro (xdq rfl rfl (v:=.bool (!(decide (0≤(r.sts.getD k sz).lo∧(r.sts.getD k sz).lo≤(r.room.length:Int)-1)))) rfl) <| rt (xax (v:=.bool (!(decide (0≤(r.sts.getD k sz).lo∧(r.sts.getD k sz).lo≤(r.room.length:Int)-1)))) rfl) (tm':=zq1 (zq2 (zq4 (zq8 (zq32 (zq32 [])))))) rfl ?_
      by_cases cc18:0≤(r.sts.getD k sz).lo∧(r.sts.getD k sz).lo≤(r.room.length:Int)-1
      ·
       refine xaj (ms rfl rfl (xej (dtt cc18))) (fun h_ H_=>xbk H_ tA51 tS51 rfl (i:=1) rfl (vs:=[.slice a r.room.length ca,.slice b r.sts.length cb]) rfl rfl) rfl ?_
       refine xaj (ms rfl rfl (xej (dtt cc18))) (fun h_ H_=>xaw xuk rfl (a':=⟨b11,2,none⟩) rfl) rfl ?_
       refine xaj (ms rfl rfl (xej (dtt cc18))) (fun h_ H_=>xbx H_ tA3 rfl (i:=0) rfl (v:=.int .i64 ((r.sts.getD k sz).hi)) rfl) (tm':=zq1 (zq2 (zq4 (zq8 (zq32 (zq32 [])))))) rfl ?_
       refine xcw (ms rfl rfl (xej (dtt cc18))) (first:=[]) (cap:=[]) rfl rfl fC49 (fun h_ H_=>c49 md _ _ H_.pe _ _ _ _ r (show RstP _ _ _ _ _ r from ⟨R.r,R.s⟩) hn ((r.sts.getD k sz).hi)) rfl ?_
       refine xaj (ms rfl rfl (xej (dtt cc18))) (fun h_ H_=>xfw rfl) rfl ?_
       refine rt (xdq rfl (xej (dtt cc18)) (v:=.bool (!(decide (0≤(r.sts.getD k sz).hi∧(r.sts.getD k sz).hi≤(r.room.length:Int)-1)))) rfl) (tm':=zq1 (zq2 (zq4 (zq8 (zq32 (zq32 [])))))) rfl <| ro (xax (v:=.bool (!(decide (0≤(r.sts.getD k sz).hi∧(r.sts.getD k sz).hi≤(r.room.length:Int)-1)))) rfl) ?_
       by_cases cc19:0≤(r.sts.getD k sz).hi∧(r.sts.getD k sz).hi≤(r.room.length:Int)-1
       ·
        refine xaj (ms rfl rfl (xej (dtt cc19))) (fun h_ H_=>xaw xuv rfl (a':=⟨b11,1,none⟩) rfl) rfl ?_
        refine xaj (ms rfl rfl (xej (dtt cc19))) (fun h_ H_=>xbx H_ tA3 rfl (i:=0) rfl (v:=.int .i64 ((r.sts.getD k sz).lo)) rfl) (tm':=zq1 (zq2 (zq4 (zq8 (zq32 (zq32 [])))))) rfl ?_
        refine xaj (ms rfl rfl (xej (dtt cc19))) (fun h_ H_=>xaw xuk rfl (a':=⟨b11,2,none⟩) rfl) rfl ?_
        refine xaj (ms rfl rfl (xej (dtt cc19))) (fun h_ H_=>xbx H_ tA3 rfl (i:=0) rfl (v:=.int .i64 ((r.sts.getD k sz).hi)) rfl) rfl ?_
        refine xaj (ms rfl rfl (xej (dtt cc19))) (fun h_ H_=>xjx rfl rfl) (tm':=zq1 (zq2 (zq4 (zq8 (zq32 (zq32 [])))))) rfl ?_
        refine ro (xdq rfl (xej (dtt cc19)) (v:=.bool (decide ((r.sts.getD k sz).hi<(r.sts.getD k sz).lo))) rfl) <| ro (xax (v:=.bool (decide ((r.sts.getD k sz).hi<(r.sts.getD k sz).lo))) rfl) ?_
        by_cases cc20:(r.sts.getD k sz).hi<(r.sts.getD k sz).lo
        ·
         refine xck (mo rfl rfl (dtt cc20)) (tm':=zq1 (zq2 (zq4 (zq8 (zq32 (zq32 [])))))) rfl <| rp (mo rfl rfl (dtt cc20)) <| rp (mo rfl rfl (dtt cc20)) <| xck (mo rfl rfl (dtt cc20)) (tm':=zq1 (zq2 (zq4 (zq8 (zq32 (zq32 [])))))) rfl <| ro (xbw rfl (dtt cc20) (v:=.bool (true)) rfl) <| xak ?_
         refine xcx rfl rfl <| fsr <| ro (xaq (v:=.int .i64 80) rfl) <| xak ?_
         refine xcj Tryz.func18 rfl (vs:=[.int .i64 80]) (fun h_ H_=>⟨.int .i64 80,_,rfl,rfl,rfl⟩) (v:=.int .i64 80) rfl ?_
         exact fun h_ H_=>K _ _ ⟨congrArg (Value.int .i64) (by first | exact (xnw (by omega) (fun i hi=>h1 i (by omega)) (by omega) (fun i hi=>h2 i (by omega))).symm | exact (xjz (.inl (by omega))).symm | exact (xjz (.inr (.inr (.inl (by omega))))).symm | exact (xnv (i:=j) (by omega) (by omega)).symm | exact (xnk (i:=k) (by omega) (by unfold okS;omega)).symm),H_.kept⟩
        ·
         refine xaj (ms rfl rfl (dff cc20)) (fun h_ H_=>xaw yxj rfl (a':=⟨b11,3,none⟩) rfl) (tm':=zq1 (zq2 (zq4 (zq8 (zq32 (zq32 [])))))) rfl ?_
         refine xaj (ms rfl rfl (dff cc20)) (fun h_ H_=>xbx H_ tA3 rfl (i:=0) rfl (v:=.int .i64 ((r.sts.getD k sz).cost)) rfl) rfl ?_
         refine xcw (ms rfl rfl (dff cc20)) (first:=[]) (cap:=[]) rfl rfl fC48 (fun h_ H_=>c48 md _ ((r.sts.getD k sz).cost) (0) (9)) rfl ?_
         refine xaj (ms rfl rfl (dff cc20)) (fun h_ H_=>xfw rfl) (tm':=zq1 (zq2 (zq4 (zq8 (zq32 (zq32 [])))))) rfl ?_
         refine ro (xdq rfl (dff cc20) (v:=.bool (!(decide (0≤(r.sts.getD k sz).cost∧(r.sts.getD k sz).cost≤9)))) rfl) <| xak ?_
         by_cases cc21:0≤(r.sts.getD k sz).cost∧(r.sts.getD k sz).cost≤9
         ·
          refine xcv rfl (xej (dtt cc21)) <| xdz <| xex <| xav <| ro (xax (v:=.int .i64 (((k:Nat):Int))) rfl) ?_
          refine rt (xev rfl rfl (n:=((k+1:Nat):Int)) (wr (by omega))) (tm':=zq1 (zq4 (zq32 _))) rfl ?_
          refine ro (xaq (v:=.int .i64 (((k+1:Nat):Int))) rfl) <| xak ?_
          exact fun h_ H_=>IH9 _ _ (by omega) h_ ⟨k+1,rfl,(y_of rfl),(by omega),(xrz h2 (by unfold okS;omega)),H_.drop⟩
         ·
          refine xcx rfl (xek (dff cc21)) <| fsr <| ro (xaq (v:=.int .i64 80) rfl) <| xak ?_
          refine xcj Tryz.func18 rfl (vs:=[.int .i64 80]) (fun h_ H_=>⟨.int .i64 80,_,rfl,rfl,rfl⟩) (v:=.int .i64 80) rfl ?_
          exact fun h_ H_=>K _ _ ⟨congrArg (Value.int .i64) (by first | exact (xnw (by omega) (fun i hi=>h1 i (by omega)) (by omega) (fun i hi=>h2 i (by omega))).symm | exact (xjz (.inl (by omega))).symm | exact (xjz (.inr (.inr (.inl (by omega))))).symm | exact (xnv (i:=j) (by omega) (by omega)).symm | exact (xnk (i:=k) (by omega) (by unfold okS;omega)).symm),H_.kept⟩
       ·
        refine xck (mo rfl rfl (xek (dff cc19))) (tm':=zq1 (zq2 (zq4 (zq8 (zq32 (zq32 [])))))) rfl <| rp (mo rfl rfl (xek (dff cc19))) <| rp (mo rfl rfl (xek (dff cc19))) <| xck (mo rfl rfl (xek (dff cc19))) (tm':=zq1 (zq2 (zq4 (zq8 (zq32 (zq32 [])))))) rfl <| rp (mo rfl rfl (xek (dff cc19))) <| ro (xbw rfl (xek (dff cc19)) (v:=.bool (true)) rfl) ?_
        refine rt (xax (v:=.bool (true)) rfl) (tm':=zq1 (zq2 (zq4 (zq8 (zq32 (zq32 [])))))) rfl <| rp (mo rfl rfl rfl) <| rp (mo rfl rfl rfl) <| xck (mo rfl rfl rfl) (tm':=zq1 (zq2 (zq4 (zq8 (zq32 (zq32 [])))))) rfl <| rp (mo rfl rfl rfl) <| ro (xbw rfl rfl (v:=.bool (true)) rfl) ?_
        refine xak <| xcx rfl rfl <| fsr <| rt (xaq (v:=.int .i64 80) rfl) (tm':=_::_::_::_) rfl <| xak ?_
        refine xcj Tryz.func18 rfl (vs:=[.int .i64 80]) (fun h_ H_=>⟨.int .i64 80,_,rfl,rfl,rfl⟩) (v:=.int .i64 80) rfl ?_
        exact fun h_ H_=>K _ _ ⟨congrArg (Value.int .i64) (by first | exact (xnw (by omega) (fun i hi=>h1 i (by omega)) (by omega) (fun i hi=>h2 i (by omega))).symm | exact (xjz (.inl (by omega))).symm | exact (xjz (.inr (.inr (.inl (by omega))))).symm | exact (xnv (i:=j) (by omega) (by omega)).symm | exact (xnk (i:=k) (by omega) (by unfold okS;omega)).symm),H_.kept⟩
      ·
       refine rp (mo rfl rfl (xek (dff cc18))) <| rp (mo rfl rfl (xek (dff cc18))) <| xck (mo rfl rfl (xek (dff cc18))) (tm':=zq1 (zq2 (zq4 (zq8 (zq32 (zq32 [])))))) rfl <| rp (mo rfl rfl (xek (dff cc18))) <| rp (mo rfl rfl (xek (dff cc18))) <| rt (xbw rfl (xek (dff cc18)) (v:=.bool (true)) rfl) (tm':=zq1 (zq2 (zq4 (zq8 (zq32 (zq32 [])))))) rfl ?_
       refine ro (xax (v:=.bool (true)) rfl) <| rp (mo rfl rfl rfl) <| xck (mo rfl rfl rfl) (tm':=zq1 (zq2 (zq4 (zq8 (zq32 (zq32 [])))))) rfl <| rp (mo rfl rfl rfl) <| rp (mo rfl rfl rfl) <| xck (mo rfl rfl rfl) (tm':=zq1 (zq2 (zq4 (zq8 (zq32 (zq32 [])))))) rfl ?_
       refine ro (xbw rfl rfl (v:=.bool (true)) rfl) <| ro (xax (v:=.bool (true)) rfl) <| xck (mo rfl rfl rfl) (tm':=zq1 (zq2 (zq4 (zq8 (zq32 (zq32 [])))))) rfl <| rp (mo rfl rfl rfl) <| rp (mo rfl rfl rfl) <| xck (mo rfl rfl rfl) (tm':=zq1 (zq2 (zq4 (zq8 (zq32 (zq32 [])))))) rfl ?_
       refine ro (xbw rfl rfl (v:=.bool (true)) rfl) <| xak <| xcx rfl rfl <| fsr <| ro (xaq (v:=.int .i64 80) rfl) <| xak ?_
       refine xcj Tryz.func18 rfl (vs:=[.int .i64 80]) (fun h_ H_=>⟨.int .i64 80,_,rfl,rfl,rfl⟩) (v:=.int .i64 80) rfl ?_
       exact fun h_ H_=>K _ _ ⟨congrArg (Value.int .i64) (by first | exact (xnw (by omega) (fun i hi=>h1 i (by omega)) (by omega) (fun i hi=>h2 i (by omega))).symm | exact (xjz (.inl (by omega))).symm | exact (xjz (.inr (.inr (.inl (by omega))))).symm | exact (xnv (i:=j) (by omega) (by omega)).symm | exact (xnk (i:=k) (by omega) (by unfold okS;omega)).symm),H_.kept⟩
    ·
     refine xcv rfl (dff cc10) <| xgk rfl <| fsr <| rt (xaq (v:=.int .i64 0) rfl) (tm':=_::_::_::_) rfl <| xak ?_
     refine xcj Tryz.func18 rfl (vs:=[.int .i64 0]) (fun h_ H_=>⟨.int .i64 0,_,rfl,rfl,rfl⟩) (v:=.int .i64 0) rfl ?_
     exact fun h_ H_=>K _ _ ⟨congrArg (Value.int .i64) (by first | exact (xnw (by omega) (fun i hi=>h1 i (by omega)) (by omega) (fun i hi=>h2 i (by omega))).symm | exact (xjz (.inl (by omega))).symm | exact (xjz (.inr (.inr (.inl (by omega))))).symm | exact (xnv (i:=j) (by omega) (by omega)).symm | exact (xnk (i:=k) (by omega) (by unfold okS;omega)).symm),H_.kept⟩
theorem c47 (md:Md) (h:Heap) (p:PHeap) (hp:Per p h) (a:Option Addr) (ca:Nat) (b:Option Addr) (cb:Nat) (r:Rst) (_R:RstP p a r.room.length b r.sts.length r) (hl:r.room.length≤9223372036854775807∧r.sts.length≤9223372036854775807):CallsX Tryz.prog md 47 #[.agg #[.slice a r.room.length ca,.slice b r.sts.length cb],.slice none 0 0] h fun v h'=>v= .bool (decide (40<r.room.length∨40<r.sts.length))∧Keep h h':=by
 refine xbv (Φ:=fun h_=>St h [] p h_ []) Tryz.func47 rfl (tm:=zq4 (zq16 [])) rfl ?_ (St.start h _ hp)
 intro c₀ cs Stop K
 refine fsr ?_
 refine xjq mn (v:=.agg #[.slice a r.room.length ca,.slice b r.sts.length cb]) rfl fun b1=>xcz (L':=[(b1,.cells #[.slice a r.room.length ca,.slice b r.sts.length cb] 51 (0,0))]) rfl ?_
 refine ro (xaq (v:=.bool (false)) rfl) <| ren <| xav <| rt (xaw xtz rfl (a':=⟨b1,0,none⟩) rfl) (tm':=zq2 (zq4 _)) rfl <| rd (fun h_ H_=>xbx H_ tA26 rfl (i:=0) rfl (v:=.slice a r.room.length ca) rfl) <| ro (xfj Tryz.underlying26 rfl) ?_
 refine rt (xjx rfl rfl) (tm':=zq1 (zq8 _)) rfl <| ro (xax (v:=.bool (decide (40<((r.room.length:Nat):Int)))) rfl) ?_
 by_cases cc2:40<((r.room.length:Nat):Int)
 ·
  refine rp (mo rfl rfl (dtt cc2)) <| xck (mo rfl rfl (dtt cc2)) (tm':=zq4 (zq8 _)) rfl <| rp (mo rfl rfl (dtt cc2)) <| rp (mo rfl rfl (dtt cc2)) <| rt (xbw rfl (dtt cc2) (v:=.bool (true)) rfl) (tm':=zq4 (zq16 [])) rfl <| ro (xax (v:=.bool (true)) rfl) ?_
  refine rp (mo rfl rfl rfl) <| xck (mo rfl rfl rfl) (tm':=zq4 (zq16 [])) rfl <| rp (mo rfl rfl rfl) <| ro (xbw rfl rfl (v:=.bool (true)) rfl) <| rt (xaq (v:=.bool (true)) rfl) (tm':=zq1 (zq4 _)) rfl <| xak ?_
  refine xcj Tryz.func47 rfl (vs:=[.bool (true)]) (fun h_ H_=>⟨.bool (true),_,rfl,rfl,rfl⟩) (v:=.bool (true)) rfl ?_
  exact fun h_ H_=>K _ _ ⟨congrArg Value.bool (by first | exact (decide_eq_true (by omega)).symm | exact (decide_eq_false (by omega)).symm),H_.kept⟩
 ·
  refine xaj (ms rfl rfl (dff cc2)) (fun h_ H_=>xaw xoq rfl (a':=⟨b1,1,none⟩) rfl) rfl ?_
  refine xaj (ms rfl rfl (dff cc2)) (fun h_ H_=>xbx H_ tA49 rfl (i:=0) rfl (v:=.slice b r.sts.length cb) rfl) rfl ?_
  refine xaj (ms rfl rfl (dff cc2)) (fun h_ H_=>xfj Tryz.underlying49 rfl) (tm':=zq1 (zq4 (zq8 _))) rfl ?_
  refine xaj (ms rfl rfl (dff cc2)) (fun h_ H_=>xjx rfl rfl) rfl ?_
  refine ro (xdq rfl (dff cc2) (v:=.bool (decide (40<((r.sts.length:Nat):Int)))) rfl) <| rt (xax (v:=.bool (decide (40<((r.sts.length:Nat):Int)))) rfl) (tm':=zq4 (zq16 [])) rfl ?_
  by_cases cc3:40<((r.sts.length:Nat):Int)
  ·
   refine rp (mo rfl rfl (dtt cc3)) <| rp (mo rfl rfl (dtt cc3)) <| xck (mo rfl rfl (dtt cc3)) (tm':=zq4 (zq16 [])) rfl <| ro (xbw rfl (dtt cc3) (v:=.bool (true)) rfl) <| ro (xaq (v:=.bool (true)) rfl) <| xak ?_
   refine xcj Tryz.func47 rfl (vs:=[.bool (true)]) (fun h_ H_=>⟨.bool (true),_,rfl,rfl,rfl⟩) (v:=.bool (true)) rfl ?_
   exact fun h_ H_=>K _ _ ⟨congrArg Value.bool (by first | exact (decide_eq_true (by omega)).symm | exact (decide_eq_false (by omega)).symm),H_.kept⟩
  ·
   refine xaj (ms rfl rfl (dff cc3)) (fun h_ H_=>xax (v:=.slice none 0 0) rfl) (tm':=zq4 (zq16 [])) rfl ?_
   refine xaj (ms rfl rfl (dff cc3)) (fun h_ H_=>xfj Tryz.underlying26 rfl) rfl ?_
   refine xaj (ms rfl rfl (dff cc3)) (fun h_ H_=>xjx rfl rfl) rfl ?_
   refine rt (xdq rfl (dff cc3) (v:=.bool (decide (40<((0:Nat):Int)))) rfl) (tm':=zq4 (zq16 [])) rfl <| ro (xaq (v:=.bool (decide (40<((0:Nat):Int)))) rfl) <| xak ?_
   refine xcj Tryz.func47 rfl (vs:=[.bool (decide (40<((0:Nat):Int)))]) (fun h_ H_=>⟨.bool (decide (40<((0:Nat):Int))),_,rfl,rfl,rfl⟩) (v:=.bool (decide (40<((0:Nat):Int)))) rfl ?_
   exact fun h_ H_=>K _ _ ⟨congrArg Value.bool (by first | exact (decide_eq_true (by omega)).symm | exact (decide_eq_false (by omega)).symm),H_.kept⟩
theorem c17 (md:Md) (h:Heap) (p:PHeap) (hp:Per p h) (a:Option Addr) (ca:Nat) (b:Option Addr) (cb:Nat) (r:Rst) (R:RstP p a r.room.length b r.sts.length r) (hl:r.room.length≤9223372036854775807∧r.sts.length≤9223372036854775807):CallsX Tryz.prog md 17 #[.agg #[.slice a r.room.length ca,.slice b r.sts.length cb]] h fun v h'=>(∃ b:Bool,v= .bool b∧(b=false→r.room.length≤40∧r.sts.length≤40))∧Keep h h':=by
 refine xbv (Φ:=fun h_=>St h [] p h_ []) Tryz.func17 rfl (tm:=zq1 (zq2 (zq32 []))) rfl ?_ (St.start h _ hp)
 intro c₀ cs Stop K
 refine fsr ?_
 refine xjq mn (v:=.agg #[.slice a r.room.length ca,.slice b r.sts.length cb]) rfl fun b1=>xcz (L':=[(b1,.cells #[.slice a r.room.length ca,.slice b r.sts.length cb] 51 (0,0))]) rfl ?_
 refine rt (xaq (v:=.bool (false)) rfl) (tm':=_::_::_::_) rfl <| ren <| fsr <| rd (fun h_ H_=>xbk H_ tA51 tS51 rfl (i:=0) rfl (vs:=[.slice a r.room.length ca,.slice b r.sts.length cb]) rfl rfl) ?_
 refine xcw mn (first:=[]) (cap:=[]) rfl rfl fC47 (fun h_ H_=>c47 md _ _ H_.pe _ _ _ _ r (show RstP _ _ _ _ _ r from ⟨R.r,R.s⟩) hl) rfl ?_
 refine xak ?_
 by_cases cc2:40<r.room.length∨40<r.sts.length
 ·
  refine xcx rfl (dtt cc2) <| fsr <| rt (xaq (v:=.bool (true)) rfl) (tm':=_::_::_::_) rfl <| xak ?_
  refine xcj Tryz.func17 rfl (vs:=[.bool (true)]) (fun h_ H_=>⟨.bool (true),_,rfl,rfl,rfl⟩) (v:=.bool (true)) rfl ?_
  exact fun h_ H_=>K _ _ ⟨⟨_,rfl,fun z=>by first | exact absurd z (by decide) | omega⟩,H_.kept⟩
 ·
  refine xcv rfl (dff cc2) <| xdz <| xbj <| fsr <| rd (fun h_ H_=>xbk H_ tA51 tS51 rfl (i:=0) rfl (vs:=[.slice a r.room.length ca,.slice b r.sts.length cb]) rfl rfl) ?_
  refine xcw mn (first:=[]) (cap:=[]) rfl rfl fC18 (fun h_ H_=>c18 md _ _ H_.pe _ _ _ _ r (show RstP _ _ _ _ _ r from ⟨R.r,R.s⟩) (by omega)) rfl ?_
  refine rt (xgw rfl rfl) (tm':=zq2 (zq8 _)) rfl <| xak ?_
  by_cases cc3:chkH r≠0
  ·
   refine xcx rfl (dtt cc3) <| fsr <| ro (xaq (v:=.bool (false)) rfl) <| xak ?_
   refine xcj Tryz.func17 rfl (vs:=[.bool (false)]) (fun h_ H_=>⟨.bool (false),_,rfl,rfl,rfl⟩) (v:=.bool (false)) rfl ?_
   exact fun h_ H_=>K _ _ ⟨⟨_,rfl,fun z=>by first | exact absurd z (by decide) | omega⟩,H_.kept⟩
  ·
   refine xcv rfl (dff cc3) <| xdz <| fsr <| ro (xaq (v:=.int .i64 1) rfl) <| ren <| xbj ?_
   have hB:=yvv (r:=r) (by omega)
   refine xav <| rt (xaq (v:=.int .i64 0) rfl) (tm':=zq1 (zq4 _)) rfl <| xak <| xeq ?_
   refine xhk (m₀:=r.sts.length-0) (fun m_ tm_ h_=>∃ (j:Nat) (n:Int),m_=r.sts.length-j∧(∃ y4:Nat→Value,tm_=[.agg #[.slice a r.room.length ca,.slice b r.sts.length cb],.pointer (some ⟨b1,0,none⟩),.bool (false),.int .i64 (n),.int .i64 (((j:Nat):Int)),.agg #[.slice a r.room.length ca,.slice b r.sts.length cb],.bool (decide (40<r.room.length∨40<r.sts.length)),.agg #[.slice a r.room.length ca,.slice b r.sts.length cb],.int .i64 (chkH r),.bool (decide (chkH r≠0)),(y4 10),(y4 11),(y4 12),(y4 13),(y4 14),(y4 15),(y4 16),(y4 17),(y4 18),(y4 19),(y4 20),(y4 21),(y4 22),(y4 23),(y4 24),(y4 25),(y4 26),(y4 27),(y4 28),(y4 29),(y4 30),(y4 31),(y4 32),undef,undef])∧(j≤r.sts.length)∧(0≤n)∧(n≤8 ^ j)∧St h [] p h_ ([(b1,.cells #[.slice a r.room.length ca,.slice b r.sts.length cb] 51 (0,0))])) (fun h_ H_=>⟨0,1,rfl,(y_of rfl),Nat.zero_le _,by omega,by decide,H_⟩) ?_
   intro m_ tm_ IH5
   refine xhq fun j=>xhq fun n=>xdj fun hm_=>xdj fun ht_=>xdj fun hkj=>xdj fun hn0=>xdj fun hn1=>?_
   subst hm_;obtain ⟨y4,ht_⟩:=ht_;subst ht_
   refine xbj <| fsr <| ro (xax (v:=.int .i64 (((j:Nat):Int))) rfl) <| ro (xaw xoq rfl (a':=⟨b1,1,none⟩) rfl) ?_
   refine xaj mn (fun h_ H_=>xbx H_ tA49 rfl (i:=0) rfl (v:=.slice b r.sts.length cb) rfl) (tm':=zq1 (zq4 (zq8 _))) rfl ?_
   refine ro (xfj Tryz.underlying49 rfl) <| ro (xfk rfl rfl) <| xak ?_
   by_cases cc6:((j:Nat):Int)<((r.sts.length:Nat):Int)
   ·
    refine xcx rfl (dtt cc6) <| xdz <| xbj <| xeq ?_
    have hw:=wsq hB (by omega) hn0 hn1
    refine xhw 15 [[],[],[1],[],[1,2,3],[1,2,3,4],[1,2,3,4,5],[],[7],[],[7,8,9],[7,8,9,10],[7,8,9,10,11],[1,2,3,4,5,6,7,8,9,10,11,12],[1,2,3,4,5,6,7,8,9,10,11,12,13],[],[]] mixed (by kernel_rfl) (Nat.le_of_ble_eq_true rfl) ?_
    refine wo (xax (v:=.int .i64 (n)) rfl) <| wt (xaw xoq rfl (a':=⟨b1,1,none⟩) rfl) (tm':=zq1 (zq2 (zq16 _))) rfl <| wd (fun h_ H_=>xbx H_ tA49 rfl (i:=0) rfl (v:=.slice b r.sts.length cb) rfl) <| wt (xax (v:=.int .i64 (((j:Nat):Int))) rfl) (tm':=zq1 (zq4 (zq16 _))) rfl ?_
    refine wo (xdx (i:=j) Tryz.underlying49 tS91 (xlx b r.sts.length cb (R.s.ne (by omega))) rfl (by omega)) ?_
    refine wt (xaw xuk rfl (a':=((adr b).add (j*4)).add 2) rfl) (tm':=zq1 (zq2 (zq4 (zq16 _)))) rfl ?_
    refine wd (fun h_ H_=>xdk H_ tA3 rfl (v:=.int .i64 ((r.sts.getD j sz).hi)) (R.s.hi (by omega))) ?_
    refine wt (xaw xoq rfl (a':=⟨b1,1,none⟩) rfl) (tm':=zq1 (zq2 (zq32 []))) rfl <| wd (fun h_ H_=>xbx H_ tA49 rfl (i:=0) rfl (v:=.slice b r.sts.length cb) rfl) <| wt (xax (v:=.int .i64 (((j:Nat):Int))) rfl) (tm':=zq1 (zq2 (zq32 []))) rfl ?_
    refine wo (xdx (i:=j) Tryz.underlying49 tS91 (xlx b r.sts.length cb (R.s.ne (by omega))) rfl (by omega)) ?_
    refine wt (xaw xuv rfl (a':=((adr b).add (j*4)).add 1) rfl) (tm':=zq1 (zq2 (zq32 []))) rfl ?_
    refine wd (fun h_ H_=>xdk H_ tA3 rfl (v:=.int .i64 ((r.sts.getD j sz).lo)) (R.s.lo (by omega))) ?_
    refine wt (xlv rfl rfl (wr (by omega))) (tm':=zq1 (zq2 (zq32 []))) rfl ?_
    refine wo (xev rfl rfl (wr (by omega))) ?_
    refine xlq rfl ?_
    refine rt (xwk rfl rfl (wr (by omega))) (tm':=zq1 (zq2 (zq32 []))) rfl ?_
    refine ro (xaq (v:=.int .i64 (n*((((r.sts.getD j sz).hi)-((r.sts.getD j sz).lo))+1))) rfl) <| xak <| xex <| xav <| ro (xax (v:=.int .i64 (((j:Nat):Int))) rfl) ?_
    refine rt (xev rfl rfl (n:=((j+1:Nat):Int)) (wr (by omega))) (tm':=zq1 (zq16 _)) rfl ?_
    refine ro (xaq (v:=.int .i64 (((j+1:Nat):Int))) rfl) <| xak ?_
    exact fun h_ H_=>IH5 _ _ (by omega) h_ ⟨j+1,_,rfl,(y_of rfl),(by omega),(zyv hB (by omega) hn0 hn1).1,(zyv hB (by omega) hn0 hn1).2,H_⟩
   ·
    refine xcv rfl (dff cc6) <| xgk rfl <| fsr <| ro (xax (v:=.int .i64 (n)) rfl) <| rt (xjx rfl rfl) (tm':=zq1 (zq2 (zq32 []))) rfl <| ro (xaq (v:=.bool (decide (500<n))) rfl) ?_
    refine xak ?_
    refine xcj Tryz.func17 rfl (vs:=[.bool (decide (500<n))]) (fun h_ H_=>⟨.bool (decide (500<n)),_,rfl,rfl,rfl⟩) (v:=.bool (decide (500<n))) rfl ?_
    exact fun h_ H_=>K _ _ ⟨⟨_,rfl,fun z=>by first | exact absurd z (by decide) | omega⟩,H_.kept⟩
end Go.Proofs.YtphalmjpbnffcaaGreatDoor
namespace Go.Proofs.YtphalmjpbnffcaaGreatDoor
open Go.X Go.X.Kn Go.X.Hr Go.Conc
set_option maxRecDepth 10000
set_option synthInstance.maxSize 2000

set_option maxHeartbeats 2000000
theorem c56 (md:Md) (h:Heap) (p:PHeap) (hp:Per p h) (a:Option Addr) (n c:Nat) (xs:List Int) (A:Ints p a n xs) (hn:n≤100):CallsX Tryz.prog md 56 #[.slice a n c] h fun v h'=>∃ w X,v=w∧OwnS 3 1 w (ics xs) X∧New h h' X:=by
 refine xbv (Φ:=fun h_=>St h [] p h_ []) Tryz.func56 rfl (tm:=zq8 []) rfl ?_ (St.start h _ hp)
 intro c₀ cs Stop K
 refine fsr <| ro (xaq (v:=.slice none 0 0) rfl) <| ren <| fsr <| ro (xax (v:=.slice a n c) rfl) <| rt (zzj Tryz.underlying26 rfl) (tm':=zq1 (zq4 _)) rfl ?_
 refine xak ?_
 rcases xtx (a.isNone) with cc1 | cc1
 ·
  refine xcx rfl cc1 <| fsr <| ro (xaq (v:=.slice none 0 0) rfl) <| xak ?_
  refine xcj Tryz.func56 rfl (vs:=[.slice none 0 0]) (fun h_ H_=>⟨.slice none 0 0,_,rfl,rfl,rfl⟩) (v:=.slice none 0 0) rfl ?_
  have e:=yzk A ‹_›
  subst e
  exact fun h_ H_=>K _ _ ⟨_,[],rfl,OwnS.empty _ _,H_.new⟩
 ·
  refine xcv rfl cc1 <| xdz <| fsr ?_
  refine xcz (L':=([]:Pcs)++[]) rfl ?_
  refine xhv ([]:Pcs) mn Tryz.underlying26 tS3 tZ3 (Nat.le_of_ble_eq_true rfl) (vs:=[]) rfl rfl (es:=[]) rfl rfl rfl fun v2 X3 o4=>?_
  refine rt (xax (v:=.slice a n c) rfl) (tm':=zq8 []) rfl ?_
  refine yew ([]:Pcs) X3 mn Tryz.underlying26 tS3 tZ3 rfl tB3 Tryz.underlying26 rfl rfl o4 A (xyj _) (by simp only [List.length_nil];omega) (by decide) (by decide) fun v5 X6 o7=>?_
  refine ro (xaq (v:=v5) rfl) <| xak ?_
  refine xcj Tryz.func56 rfl (vs:=[v5]) (fun h_ H_=>⟨v5,_,rfl,rfl,rfl⟩) (v:=v5) rfl ?_
  exact fun h_ H_=>K _ _ ⟨_,_,rfl,o7,by simpa using H_.dropA.new⟩
theorem c57 (md:Md) (h:Heap) (p:PHeap) (hp:Per p h) (a:Option Addr) (ca:Nat) (b:Option Addr) (cb:Nat) (r:Rst) (R:RstP p a r.room.length b r.sts.length r) (hn:r.room.length≤40∧r.sts.length≤40) (e:Option Addr) (m ce:Nat) (l:List Int) (S:Ints p e m l) (_hm:m≤100) (hB:rosB r):CallsX Tryz.prog md 57 #[.agg #[.slice a r.room.length ca,.slice b r.sts.length cb],.slice e m ce] h fun v h'=>v= .bool (decide (goodP r l))∧Keep h h':=by
 refine xbv (Φ:=fun h_=>St h [] p h_ []) Tryz.func57 rfl (tm:=zq1 (zq4 (zq16 (zq32 [])))) rfl ?_ (St.start h _ hp)
 intro c₀ cs Stop K
 have hs:=S.len
 refine fsr ?_
 refine xjq mn (v:=.agg #[.slice a r.room.length ca,.slice b r.sts.length cb]) rfl fun b1=>xcz (L':=[(b1,.cells #[.slice a r.room.length ca,.slice b r.sts.length cb] 51 (0,0))]) rfl ?_
 refine xfz (tm':=_::_::_::_) rfl ?_
 refine ro (xaq (v:=.bool (false)) rfl) <| ren <| fsr <| ro (xax (v:=.slice e m ce) rfl) <| rt (xfj Tryz.underlying26 rfl) (tm':=zq2 (zq8 _)) rfl <| ro (xaw xoq rfl (a':=⟨b1,1,none⟩) rfl) ?_
 refine rd (fun h_ H_=>xbx H_ tA49 rfl (i:=0) rfl (v:=.slice b r.sts.length cb) rfl) <| rt (xfj Tryz.underlying49 rfl) (tm':=zq1 (zq4 (zq8 _))) rfl <| ro (xgw rfl rfl) <| xak ?_
 by_cases cc2:((m:Nat):Int)≠((r.sts.length:Nat):Int)
 ·
  refine xcx rfl (dtt cc2) <| fsr <| ro (xaq (v:=.bool (false)) rfl) <| xak ?_
  refine xcj Tryz.func57 rfl (vs:=[.bool (false)]) (fun h_ H_=>⟨.bool (false),_,rfl,rfl,rfl⟩) (v:=.bool (false)) rfl ?_
  exact fun h_ H_=>K _ _ ⟨congrArg Value.bool (by first | exact (decide_eq_true ⟨by omega,fun i hi=>h1 i (by omega)⟩).symm | exact (decide_eq_false (xmq (by omega))).symm | exact (decide_eq_false (xkj (i:=j) (by omega) (fun z=>by have z1:=z.1;have z2:=z.2;omega))).symm),H_.kept⟩
 ·
  refine xcv rfl (dff cc2) <| xdz <| fsr <| rt (xaw xtz rfl (a':=⟨b1,0,none⟩) rfl) (tm':=zq1 (zq2 (zq4 (zq8 _)))) rfl <| rd (fun h_ H_=>xbx H_ tA26 rfl (i:=0) rfl (v:=.slice a r.room.length ca) rfl) ?_
  refine xcz (L':=([(b1,.cells #[.slice a r.room.length ca,.slice b r.sts.length cb] 51 (0,0))]:Pcs)++[]) rfl ?_
  refine xgv mn (first:=[]) (cap:=[]) rfl rfl fC56 (R:=fun v_ h_=>∃ w3:Value,∃ X4:Pcs,v_=w3∧(OwnS 3 1 w3 (ics r.room) X4)∧St h [] p h_ (([(b1,.cells #[.slice a r.room.length ca,.slice b r.sts.length cb] 51 (0,0))]:Pcs)++(X4++[]))) (fun h_ H_=>(c56 md _ _ H_.pe _ _ _ _ R.r (by omega)).mono fun v_ h2_ ⟨w3,X4,e_,o5,N_⟩=>⟨w3,X4,e_,o5,H_.callNA N_⟩) fun v_=>?_
  refine xgx fun w3=>xgx fun X4=>xez fun ev_=>xez fun o5=>?_
  have ev_:=ev_.symm;subst ev_
  refine xcz (L':=([(b1,.cells #[.slice a r.room.length ca,.slice b r.sts.length cb] 51 (0,0))]:Pcs)++(X4++[])) rfl ?_
  refine rt (xaq (v:=w3) rfl) (tm':=zq2 (zq4 _)) rfl <| ren <| fsr <| ro (xax (v:=.slice e m ce) rfl) <| ro (xfj Tryz.underlying26 rfl) <| rt (xax (v:=.int .i64 0) rfl) (tm':=zq4 (zq16 _)) rfl ?_
  refine xak <| xeq ?_
  refine xhk (m₀:=m-0) (fun m_ tm_ h_=>∃ (j:Nat) (X1:Pcs),m_=m-j∧(∃ y6:Nat→Value,tm_=[.agg #[.slice a r.room.length ca,.slice b r.sts.length cb],.slice e m ce,.pointer (some ⟨b1,0,none⟩),undef,(y6 4),w3,(y6 6),(y6 7),.slice e m ce,.int .i64 (((m:Nat):Int)),.pointer (some ⟨b1,1,none⟩),.slice b r.sts.length cb,.int .i64 (((r.sts.length:Nat):Int)),.bool (decide (((m:Nat):Int)≠((r.sts.length:Nat):Int))),.pointer (some ⟨b1,0,none⟩),.slice a r.room.length ca,w3,.slice e m ce,.int .i64 (((m:Nat):Int)),.int .i64 (((j:Nat):Int)),(y6 20),(y6 21),(y6 22),(y6 23),(y6 24),(y6 25),(y6 26),(y6 27),(y6 28),(y6 29),(y6 30),(y6 31),(y6 32),(y6 33),(y6 34),(y6 35),(y6 36),(y6 37),(y6 38),(y6 39),(y6 40),(y6 41),(y6 42),(y6 43),(y6 44),(y6 45),(y6 46),(y6 47),(y6 48),(y6 49),(y6 50),(y6 51),(y6 52)])∧(j≤m)∧(∀ i,i<j→okA r l i)∧(OwnS 3 1 w3 (ics (leftA r.room l j)) X1)∧St h [] p h_ (([(b1,.cells #[.slice a r.room.length ca,.slice b r.sts.length cb] 51 (0,0))]:Pcs)++(X1++[]))) (fun h_ H_=>⟨0,X4,rfl,(y_of rfl),Nat.zero_le _,(fun i hi=>absurd hi (Nat.not_lt_zero i)),o5,H_⟩) ?_
  intro m_ tm_ IH7
  refine xhq fun j=>xhq fun X1=>xdj fun hm_=>xdj fun ht_=>xdj fun hkj=>xdj fun h1=>xdj fun o1=>?_
  subst hm_;obtain ⟨y6,ht_⟩:=ht_;subst ht_
  have hLl:=xvx r.room l j
  have hr:=fun z_:j<m=>hB.rng (i:=j) (by omega)
  have hd:=yij hB h1 (l.getD j 0).toNat
  refine fsr <| ro (xfk rfl rfl) <| ren ?_
  by_cases cc8:((j:Nat):Int)<((m:Nat):Int)
  ·
   refine xcx rfl (dtt cc8) <| xdz <| xbj <| xeq <| fsr <| ro (xax (v:=.int .i64 (((j:Nat):Int))) rfl) ?_
   refine rt (xdx (i:=j) Tryz.underlying26 tS3 (xlx e m ce (S.ne (by omega))) rfl (by omega)) (tm':=zq1 (zq2 (zq4 (zq16 _)))) rfl ?_
   refine rd (fun h_ H_=>xdk H_ tA3 rfl (v:=.int .i64 (l.getD j 0)) (S.get (by omega))) ?_
   refine ro (xaq (v:=.int .i64 (((j:Nat):Int))) rfl) <| rt (xaq (v:=.int .i64 (l.getD j 0)) rfl) (tm':=zq8 _) rfl <| ren <| xbj ?_
   by_cases cc9:(r.sts.getD j sz).lo≤l.getD j 0∧l.getD j 0≤(r.sts.getD j sz).hi
   ·
    refine xhw 18 [[],[],[1],[],[1,2,3],[1,2,3,4],[1,2,3,4,5],[],[7],[],[7,8,9],[7,8,9,10],[7,8,9,10,11],[0,1,2,3,4,5,6,7,8,9,10,11,12],[0,1,2,3,4,5,6,7,8,9,10,11,12],[0,1,2,3,4,5,6,7,8,9,10,11,12,13,14],[],[0,1,2,3,4,5,6,7,8,9,10,11,12,13,14],[0,1,2,3,4,5,6,7,8,9,10,11,12,13,14,16,17],[0,1,2,3,4,5,6,7,8,9,10,11,12,13,14,16,17,18],[0,1,2,3,4,5,6,7,8,9,10,11,12,13,14,16,17,18,19],[]] mixed (by kernel_rfl) (Nat.le_of_ble_eq_true rfl) ?_
    refine wo (xax (v:=.int .i64 (l.getD j 0)) rfl) <| wt (xaw xoq rfl (a':=⟨b1,1,none⟩) rfl) (tm':=zq2 (zq8 (zq16 _))) rfl <| wd (fun h_ H_=>xbx H_ tA49 rfl (i:=0) rfl (v:=.slice b r.sts.length cb) rfl) <| wt (xax (v:=.int .i64 (((j:Nat):Int))) rfl) (tm':=zq4 (zq8 (zq16 _))) rfl ?_
    refine wo (xdx (i:=j) Tryz.underlying49 tS91 (xlx b r.sts.length cb (R.s.ne (by omega))) rfl (by omega)) ?_
    refine wt (xaw xuv rfl (a':=((adr b).add (j*4)).add 1) rfl) (tm':=zq2 (zq4 (zq8 (zq16 _)))) rfl ?_
    refine wd (fun h_ H_=>xdk H_ tA3 rfl (v:=.int .i64 ((r.sts.getD j sz).lo)) (R.s.lo (by omega))) ?_
    refine wt (xaw xoq rfl (a':=⟨b1,1,none⟩) rfl) (tm':=zq32 _) rfl <| wd (fun h_ H_=>xbx H_ tA49 rfl (i:=0) rfl (v:=.slice b r.sts.length cb) rfl) <| wt (xax (v:=.int .i64 (((j:Nat):Int))) rfl) (tm':=zq2 (zq32 _)) rfl ?_
    refine wo (xdx (i:=j) Tryz.underlying49 tS91 (xlx b r.sts.length cb (R.s.ne (by omega))) rfl (by omega)) ?_
    refine wt (xaw xuk rfl (a':=((adr b).add (j*4)).add 2) rfl) (tm':=zq1 (zq4 (zq16 (zq32 [])))) rfl ?_
    refine wd (fun h_ H_=>xdk H_ tA3 rfl (v:=.int .i64 ((r.sts.getD j sz).hi)) (R.s.hi (by omega))) ?_
    refine xox mn (first:=[]) (cap:=[]) rfl rfl fC86 (fun h_ H_=>(c86 md _ (l.getD j 0) ((r.sts.getD j sz).lo) ((r.sts.getD j sz).hi)).mono fun v_ h2_ ⟨e_,k_⟩=>⟨e_,H_.call k_⟩) (tm':=zq1 (zq4 (zq16 (zq32 [])))) rfl ?_
    refine wo (xfw rfl) <| wt (xax (v:=.bool (!(decide ((r.sts.getD j sz).lo≤l.getD j 0∧l.getD j 0≤(r.sts.getD j sz).hi)))) rfl) (tm':=zq1 (zq4 (zq16 (zq32 [])))) rfl ?_
    refine xfq (ms rfl rfl (xej (dtt cc9))) (fun h_ H_=>xax (v:=w3) rfl) rfl ?_
    refine xfq (ms rfl rfl (xej (dtt cc9))) (fun h_ H_=>xax (v:=.int .i64 (l.getD j 0)) rfl) (tm':=zq1 (zq4 (zq16 (zq32 [])))) rfl ?_
    refine xlq rfl ?_
    refine xaj (ms rfl rfl (xej (dtt cc9))) (fun h_ H_=>xmz o1 Tryz.underlying26 tS3 rfl rfl (by omega) (by rw [((xhj _).trans (xvx _ _ _))];omega)) rfl ?_
    refine xaj (ms rfl rfl (xej (dtt cc9))) (fun h_ H_=>xtq (A:=([(b1,.cells #[.slice a r.room.length ca,.slice b r.sts.length cb] 51 (0,0))]:Pcs)) (i:=((l.getD j 0)).toNat) (j:=0) (e:=[.int .i64 ((leftA r.room l j).getD (((l.getD j 0)).toNat) 0)]) o1 H_ tA3 rfl rfl (xxv (by omega)) (u:=.int .i64 ((leftA r.room l j).getD (((l.getD j 0)).toNat) 0)) rfl) (tm':=zq1 (zq4 (zq16 (zq32 [])))) rfl ?_
    refine xaj (ms rfl rfl (xej (dtt cc9))) (fun h_ H_=>xmj rfl rfl) rfl ?_
    refine ro (xdq rfl (xej (dtt cc9)) (v:=.bool (decide ((leftA r.room l j).getD (((l.getD j 0)).toNat) 0=0))) rfl) <| xak ?_
    by_cases cc10:(leftA r.room l j).getD (((l.getD j 0)).toNat) 0=0
    ·
     refine xcx rfl (dtt cc10) <| fsr <| rt (xaq (v:=.bool (false)) rfl) (tm':=zq1 (zq4 _)) rfl <| xak ?_
     refine xcj Tryz.func57 rfl (vs:=[.bool (false)]) (fun h_ H_=>⟨.bool (false),_,rfl,rfl,rfl⟩) (v:=.bool (false)) rfl ?_
     exact fun h_ H_=>K _ _ ⟨congrArg Value.bool (by first | exact (decide_eq_true ⟨by omega,fun i hi=>h1 i (by omega)⟩).symm | exact (decide_eq_false (xmq (by omega))).symm | exact (decide_eq_false (xkj (i:=j) (by omega) (fun z=>by have z1:=z.1;have z2:=z.2;omega))).symm),H_.kept⟩
    ·
     refine xcv rfl (dff cc10) <| xdz <| xav <| ro (xax (v:=w3) rfl) <| ro (xax (v:=.int .i64 (l.getD j 0)) rfl) ?_
     refine rt (xmz o1 Tryz.underlying26 tS3 rfl rfl (by omega) (by rw [((xhj _).trans (xvx _ _ _))];omega)) (tm':=zq1 (zq4 (zq16 (zq32 [])))) rfl ?_
     refine rd (fun h_ H_=>xtq (A:=([(b1,.cells #[.slice a r.room.length ca,.slice b r.sts.length cb] 51 (0,0))]:Pcs)) (i:=((l.getD j 0)).toNat) (j:=0) (e:=[.int .i64 ((leftA r.room l j).getD (((l.getD j 0)).toNat) 0)]) o1 H_ tA3 rfl rfl (xxv (by omega)) (u:=.int .i64 ((leftA r.room l j).getD (((l.getD j 0)).toNat) 0)) rfl) ?_
     refine ro (xlv rfl rfl (wr (by omega))) ?_
     refine rt (xmz o1 Tryz.underlying26 tS3 rfl rfl (by omega) (by rw [((xhj _).trans (xvx _ _ _))];omega)) (tm':=zq1 (zq4 (zq16 (zq32 [])))) rfl ?_
     refine xuw (A:=([(b1,.cells #[.slice a r.room.length ca,.slice b r.sts.length cb] 51 (0,0))]:Pcs)) (i:=((l.getD j 0)).toNat) (j:=0) (e:=[.int .i64 ((leftA r.room l j).getD (((l.getD j 0)).toNat) 0)]) (u:=.int .i64 (((leftA r.room l j).getD (((l.getD j 0)).toNat) 0)-1)) o1 mn tS3 rfl rfl rfl ⟨rfl,rfl⟩ (xxv (by omega)) (Nat.succ_le_iff.1 (Nat.le_of_ble_eq_true rfl)) fun X11 o12=>?_
     have o13:OwnS 3 1 w3 (ics ((leftA r.room l j).set (((l.getD j 0)).toNat) (((leftA r.room l j).getD (((l.getD j 0)).toNat) 0)-1))) X11:=o12.as ytk
     refine xak <| xex <| xav ?_
     refine ro (xev rfl rfl (n:=((j+1:Nat):Int)) (wr (by omega))) ?_
     refine ro (xax (v:=.int .i64 (((j+1:Nat):Int))) rfl) <| xak ?_
     exact fun h_ H_=>IH7 _ _ (by omega) h_ ⟨j+1,X11,rfl,(y_of rfl),(by omega),(xrz h1 ⟨by omega,by omega⟩),(show OwnS 3 1 _ (ics (leftA r.room l (j+1))) _ from o13),H_⟩
   ·
    refine xhw 18 [[],[],[1],[],[1,2,3],[1,2,3,4],[1,2,3,4,5],[],[7],[],[7,8,9],[7,8,9,10],[7,8,9,10,11],[0,1,2,3,4,5,6,7,8,9,10,11,12],[0,1,2,3,4,5,6,7,8,9,10,11,12],[0,1,2,3,4,5,6,7,8,9,10,11,12,13,14],[],[0,1,2,3,4,5,6,7,8,9,10,11,12,13,14],[0,1,2,3,4,5,6,7,8,9,10,11,12,13,14,16,17],[0,1,2,3,4,5,6,7,8,9,10,11,12,13,14,16,17,18],[0,1,2,3,4,5,6,7,8,9,10,11,12,13,14,16,17,18,19],[]] mixed (by kernel_rfl) (Nat.le_of_ble_eq_true rfl) ?_
    refine wt (xax (v:=.int .i64 (l.getD j 0)) rfl) (tm':=zq1 (zq8 (zq16 _))) rfl <| wo (xaw xoq rfl (a':=⟨b1,1,none⟩) rfl) ?_
    refine xfq mn (fun h_ H_=>xbx H_ tA49 rfl (i:=0) rfl (v:=.slice b r.sts.length cb) rfl) (tm':=zq1 (zq2 (zq8 (zq16 _)))) rfl ?_
    refine wo (xax (v:=.int .i64 (((j:Nat):Int))) rfl) ?_
    refine wt (xdx (i:=j) Tryz.underlying49 tS91 (xlx b r.sts.length cb (R.s.ne (by omega))) rfl (by omega)) (tm':=zq1 (zq4 (zq8 (zq16 _)))) rfl ?_
    refine wo (xaw xuv rfl (a':=((adr b).add (j*4)).add 1) rfl) ?_
    refine xfq mn (fun h_ H_=>xdk H_ tA3 rfl (v:=.int .i64 ((r.sts.getD j sz).lo)) (R.s.lo (by omega))) (tm':=zq1 (zq2 (zq4 (zq8 (zq16 _))))) rfl ?_
    refine wo (xaw xoq rfl (a':=⟨b1,1,none⟩) rfl) ?_
    refine xfq mn (fun h_ H_=>xbx H_ tA49 rfl (i:=0) rfl (v:=.slice b r.sts.length cb) rfl) (tm':=zq1 (zq32 _)) rfl ?_
    refine wo (xax (v:=.int .i64 (((j:Nat):Int))) rfl) ?_
    refine wt (xdx (i:=j) Tryz.underlying49 tS91 (xlx b r.sts.length cb (R.s.ne (by omega))) rfl (by omega)) (tm':=zq1 (zq2 (zq32 _))) rfl ?_
    refine wo (xaw xuk rfl (a':=((adr b).add (j*4)).add 2) rfl) ?_
    refine xfq mn (fun h_ H_=>xdk H_ tA3 rfl (v:=.int .i64 ((r.sts.getD j sz).hi)) (R.s.hi (by omega))) (tm':=zq1 (zq4 (zq16 (zq32 [])))) rfl ?_
    refine xox mn (first:=[]) (cap:=[]) rfl rfl fC86 (fun h_ H_=>(c86 md _ (l.getD j 0) ((r.sts.getD j sz).lo) ((r.sts.getD j sz).hi)).mono fun v_ h2_ ⟨e_,k_⟩=>⟨e_,H_.call k_⟩) rfl ?_
    refine wt (xfw rfl) (tm':=zq1 (zq4 (zq16 (zq32 [])))) rfl <| wo (xax (v:=.bool (!(decide ((r.sts.getD j sz).lo≤l.getD j 0∧l.getD j 0≤(r.sts.getD j sz).hi)))) rfl) <| xrw (mo rfl rfl (xek (dff cc9))) (tm':=zq1 (zq4 (zq16 (zq32 [])))) rfl <| wp (mo rfl rfl (xek (dff cc9))) ?_
    refine xlq rfl ?_
    refine xck (mo rfl rfl (xek (dff cc9))) (tm':=zq1 (zq4 (zq16 (zq32 [])))) rfl <| rp (mo rfl rfl (xek (dff cc9))) <| rp (mo rfl rfl (xek (dff cc9))) <| rt (xbw rfl (xek (dff cc9)) (v:=.bool (true)) rfl) (tm':=zq1 (zq4 (zq16 (zq32 [])))) rfl <| xak <| xcx rfl rfl ?_
    refine fsr <| ro (xaq (v:=.bool (false)) rfl) <| xak ?_
    refine xcj Tryz.func57 rfl (vs:=[.bool (false)]) (fun h_ H_=>⟨.bool (false),_,rfl,rfl,rfl⟩) (v:=.bool (false)) rfl ?_
    exact fun h_ H_=>K _ _ ⟨congrArg Value.bool (by first | exact (decide_eq_true ⟨by omega,fun i hi=>h1 i (by omega)⟩).symm | exact (decide_eq_false (xmq (by omega))).symm | exact (decide_eq_false (xkj (i:=j) (by omega) (fun z=>by have z1:=z.1;have z2:=z.2;omega))).symm),H_.kept⟩
  ·
   refine xcv rfl (dff cc8) <| xgk rfl <| fsr <| ro (xaq (v:=.bool (true)) rfl) <| xak ?_
   refine xcj Tryz.func57 rfl (vs:=[.bool (true)]) (fun h_ H_=>⟨.bool (true),_,rfl,rfl,rfl⟩) (v:=.bool (true)) rfl ?_
   exact fun h_ H_=>K _ _ ⟨congrArg Value.bool (by first | exact (decide_eq_true ⟨by omega,fun i hi=>h1 i (by omega)⟩).symm | exact (decide_eq_false (xmq (by omega))).symm | exact (decide_eq_false (xkj (i:=j) (by omega) (fun z=>by have z1:=z.1;have z2:=z.2;omega))).symm),H_.kept⟩
theorem c55 (md:Md) (h:Heap) (p:PHeap) (hp:Per p h) (a:Option Addr) (ca:Nat) (b:Option Addr) (cb:Nat) (r:Rst) (R:RstP p a r.room.length b r.sts.length r) (hn:r.room.length≤40∧r.sts.length≤40) (e:Option Addr) (m ce:Nat) (l:List Int) (S:Ints p e m l) (_hm:m≤100) (hB:rosB r) (hg:goodP r l):CallsX Tryz.prog md 55 #[.agg #[.slice a r.room.length ca,.slice b r.sts.length cb],.slice e m ce] h fun v h'=>v= .int .i64 (costK r l m)∧Keep h h':=by
 refine xbv (Φ:=fun h_=>St h [] p h_ []) Tryz.func55 rfl (tm:=zq2 (zq8 (zq16 []))) rfl ?_ (St.start h _ hp)
 intro c₀ cs Stop K
 have hs:=S.len
 have hgl:=hg.1
 refine fsr ?_
 refine xjq mn (v:=.agg #[.slice a r.room.length ca,.slice b r.sts.length cb]) rfl fun b1=>xcz (L':=[(b1,.cells #[.slice a r.room.length ca,.slice b r.sts.length cb] 51 (0,0))]) rfl ?_
 refine xfz (tm':=_::_::_::_) rfl ?_
 refine ro (xaq (v:=.int .i64 0) rfl) <| ren <| xav <| ro (xaq (v:=.int .i64 0) rfl) <| ren <| fsr ?_
 refine rt (xax (v:=.slice e m ce) rfl) (tm':=zq1 (zq8 _)) rfl <| ro (xfj Tryz.underlying26 rfl) <| ro (xax (v:=.int .i64 0) rfl) <| xak <| xeq ?_
 refine xhk (m₀:=m-0) (fun m_ tm_ h_=>∃ (j:Nat),m_=m-j∧(∃ y2:Nat→Value,tm_=[.agg #[.slice a r.room.length ca,.slice b r.sts.length cb],.slice e m ce,.pointer (some ⟨b1,0,none⟩),undef,.int .i64 0,.int .i64 (costK r l j),(y2 6),(y2 7),.slice e m ce,.int .i64 (((m:Nat):Int)),.int .i64 (((j:Nat):Int)),(y2 11),(y2 12),(y2 13),(y2 14),(y2 15),(y2 16),(y2 17),(y2 18),(y2 19),(y2 20),(y2 21),(y2 22),(y2 23),(y2 24),undef])∧(j≤m)∧St h [] p h_ ([(b1,.cells #[.slice a r.room.length ca,.slice b r.sts.length cb] 51 (0,0))])) (fun h_ H_=>⟨0,rfl,(y_of rfl),Nat.zero_le _,H_⟩) ?_
 intro m_ tm_ IH3
 refine xhq fun j=>xdj fun hm_=>xdj fun ht_=>xdj fun hkj=>?_
 subst hm_;obtain ⟨y2,ht_⟩:=ht_;subst ht_
 have hr:=fun z_:j<m=>hg.rng hB (i:=j) (by omega)
 have hb:=yvz hB hg (k:=j) (by omega)
 have hc:=fun z_:j<m=>yvz hB hg (k:=j+1) (by omega)
 refine fsr <| rt (xfk rfl rfl) (tm':=zq4 (zq8 _)) rfl <| ren ?_
 by_cases cc4:((j:Nat):Int)<((m:Nat):Int)
 ·
  refine xcx rfl (dtt cc4) <| xdz <| xbj <| xeq <| fsr <| ro (xax (v:=.int .i64 (((j:Nat):Int))) rfl) ?_
  refine ro (xdx (i:=j) Tryz.underlying26 tS3 (xlx e m ce (S.ne (by omega))) rfl (by omega)) ?_
  refine xaj mn (fun h_ H_=>xdk H_ tA3 rfl (v:=.int .i64 (l.getD j 0)) (S.get (by omega))) (tm':=zq1 (zq2 (zq4 (zq8 _)))) rfl ?_
  refine ro (xaq (v:=.int .i64 (((j:Nat):Int))) rfl) <| ro (xaq (v:=.int .i64 (l.getD j 0)) rfl) <| xak <| xav <| rt (xax (v:=.int .i64 (costK r l j)) rfl) (tm':=zq16 _) rfl <| ro (xaw xoq rfl (a':=⟨b1,1,none⟩) rfl) ?_
  refine rd (fun h_ H_=>xbx H_ tA49 rfl (i:=0) rfl (v:=.slice b r.sts.length cb) rfl) <| rt (xax (v:=.int .i64 (((j:Nat):Int))) rfl) (tm':=zq2 (zq8 (zq16 []))) rfl ?_
  refine ro (xdx (i:=j) Tryz.underlying49 tS91 (xlx b r.sts.length cb (R.s.ne (by omega))) rfl (by omega)) ?_
  refine rd (fun h_ H_=>xiw H_ tA91 tS91 rfl (vs:=[.int .i64 ((r.sts.getD j sz).has),.int .i64 ((r.sts.getD j sz).lo),.int .i64 ((r.sts.getD j sz).hi),.int .i64 ((r.sts.getD j sz).cost)]) rfl (R.s.all (by omega))) ?_
  refine rt (xax (v:=.int .i64 (l.getD j 0)) rfl) (tm':=zq2 (zq8 (zq16 []))) rfl ?_
  refine xcw mn (first:=[]) (cap:=[]) rfl rfl fC52 (fun h_ H_=>c52 md _ (r.sts.getD j sz) (l.getD j 0) (hr (by omega))) rfl ?_
  refine ro (xev rfl rfl (wr (by have hc_:=hc (by omega);unfold costK at hc_;omega))) ?_
  refine rt (xaq (v:=.int .i64 ((costK r l j)+(stepsI (r.sts.getD j sz) (l.getD j 0)))) rfl) (tm':=zq2 (zq4 _)) rfl <| xak <| xex <| xav ?_
  refine ro (xev rfl rfl (n:=((j+1:Nat):Int)) (wr (by omega))) ?_
  refine ro (xax (v:=.int .i64 (((j+1:Nat):Int))) rfl) <| xak ?_
  exact fun h_ H_=>IH3 _ _ (by omega) h_ ⟨j+1,rfl,(y_of rfl),(by omega),H_⟩
 ·
  refine xcv rfl (dff cc4) <| xgk rfl <| fsr <| rt (xax (v:=.int .i64 (costK r l j)) rfl) (tm':=zq2 (zq8 (zq16 []))) rfl <| ro (xaq (v:=.int .i64 (costK r l j)) rfl) <| xak ?_
  refine xcj Tryz.func55 rfl (vs:=[.int .i64 (costK r l j)]) (fun h_ H_=>⟨.int .i64 (costK r l j),_,rfl,rfl,rfl⟩) (v:=.int .i64 (costK r l j)) rfl ?_
  have ej_:j=m:=by omega
  exact fun h_ H_=>K _ _ ⟨by rw [ej_],H_.kept⟩
theorem c54 (md:Md) (h:Heap) (p:PHeap) (hp:Per p h) (a:Option Addr) (ca:Nat) (b:Option Addr) (cb:Nat) (r:Rst) (R:RstP p a r.room.length b r.sts.length r) (hn:r.room.length≤40∧r.sts.length≤40) (e:Option Addr) (m ce:Nat) (l:List Int) (S:Ints p e m l) (hm:m≤100):CallsX Tryz.prog md 54 #[.agg #[.slice a r.room.length ca,.slice b r.sts.length cb],.slice e m ce] h fun v h'=>v= .int .i64 (givH r l)∧Keep h h':=by
 refine xbv (Φ:=fun h_=>St h [] p h_ []) Tryz.func54 rfl (tm:=zq16 []) rfl ?_ (St.start h _ hp)
 intro c₀ cs Stop K
 have hs:=S.len
 refine fsr ?_
 refine xjq mn (v:=.agg #[.slice a r.room.length ca,.slice b r.sts.length cb]) rfl fun b1=>xcz (L':=[(b1,.cells #[.slice a r.room.length ca,.slice b r.sts.length cb] 51 (0,0))]) rfl ?_
 refine rt (xaq (v:=.int .i64 0) rfl) (tm':=zq1 (zq4 _)) rfl <| ren <| fsr <| rd (fun h_ H_=>xbk H_ tA51 tS51 rfl (i:=0) rfl (vs:=[.slice a r.room.length ca,.slice b r.sts.length cb]) rfl rfl) ?_
 refine xcw mn (first:=[]) (cap:=[]) rfl rfl fC85 (fun h_ H_=>c85 md _ _ H_.pe _ _ _ _ r (show RstP _ _ _ _ _ r from ⟨R.r,R.s⟩) hn) rfl ?_
 refine rt (xaq (v:=.int .i64 (chkH r)) rfl) (tm':=zq2 (zq4 _)) rfl <| ren <| xav <| ro (xax (v:=.int .i64 (chkH r)) rfl) <| ro (xgw rfl rfl) <| xak ?_
 by_cases cc2:chkH r≠0
 ·
  refine xcx rfl (dtt cc2) <| fsr <| rt (xax (v:=.int .i64 (chkH r)) rfl) (tm':=zq16 []) rfl <| ro (xaq (v:=.int .i64 (chkH r)) rfl) <| xak ?_
  refine xcj Tryz.func54 rfl (vs:=[.int .i64 (chkH r)]) (fun h_ H_=>⟨.int .i64 (chkH r),_,rfl,rfl,rfl⟩) (v:=.int .i64 (chkH r)) rfl ?_
  exact fun h_ H_=>K _ _ ⟨congrArg (Value.int .i64) (by first | rfl | (unfold givH askH;rw [if_neg (by assumption)];have h80:=ynk r;omega)),H_.kept⟩
 ·
  refine xcv rfl (dff cc2) <| xdz <| xbj ?_
  refine xhw 4 [[],[],[],[1,2],[],[]] mixed (by kernel_rfl) (Nat.le_of_ble_eq_true rfl) ?_
  refine wd (fun h_ H_=>xbk H_ tA51 tS51 rfl (i:=0) rfl (vs:=[.slice a r.room.length ca,.slice b r.sts.length cb]) rfl rfl) ?_
  refine xfq mn (fun h_ H_=>xbk H_ tA51 tS51 rfl (i:=0) rfl (vs:=[.slice a r.room.length ca,.slice b r.sts.length cb]) rfl rfl) (tm':=zq16 []) rfl ?_
  refine wo (xax (v:=.slice e m ce) rfl) ?_
  refine xox mn (first:=[]) (cap:=[]) rfl rfl fC57 (fun h_ H_=>(c57 md _ _ H_.pe _ _ _ _ r (show RstP _ _ _ _ _ r from ⟨R.r,R.s⟩) hn _ _ _ _ S (by omega) (yvv (by omega))).mono fun v_ h2_ ⟨e_,k_⟩=>⟨e_,H_.call k_⟩) (tm':=zq16 []) rfl ?_
  refine xlq rfl ?_
  refine xcw mn (first:=[]) (cap:=[]) rfl rfl fC78 (fun h_ H_=>c78 md _ _ H_.pe _ _ _ _ r (show RstP _ _ _ _ _ r from ⟨R.r,R.s⟩) hn (decide (goodP r l))) (tm':=zq16 []) rfl ?_
  refine ro (xaq (v:=.int .i64 (askH r (decide (goodP r l)))) rfl) <| xak ?_
  refine xcj Tryz.func54 rfl (vs:=[.int .i64 (askH r (decide (goodP r l)))]) (fun h_ H_=>⟨.int .i64 (askH r (decide (goodP r l))),_,rfl,rfl,rfl⟩) (v:=.int .i64 (askH r (decide (goodP r l)))) rfl ?_
  exact fun h_ H_=>K _ _ ⟨congrArg (Value.int .i64) (by first | rfl | (unfold givH askH;rw [if_neg (by assumption)];have h80:=ynk r;omega)),H_.kept⟩
theorem c26 (md:Md) (h:Heap) (p:PHeap) (hp:Per p h) (a:Option Addr) (ca:Nat) (b:Option Addr) (cb:Nat) (r:Rst) (R:RstP p a r.room.length b r.sts.length r) (hn:r.room.length≤40∧r.sts.length≤40) (e:Option Addr) (m ce:Nat) (l:List Int) (S:Ints p e m l) (hm:m≤100) (hB:rosB r) (hg:goodP r l):CallsX Tryz.prog md 26 #[.agg #[.slice a r.room.length ca,.slice b r.sts.length cb],.slice e m ce] h fun v h'=>v= .tuple #[.int .i64 (costK r l m),.int .i64 0]∧Keep h h':=by
 refine xbv (Φ:=fun h_=>St h [] p h_ []) Tryz.func26 rfl (tm:=zq16 []) rfl ?_ (St.start h _ hp)
 intro c₀ cs Stop K
 have hs:=S.len
 have hv:=zav hB hg
 refine fsr ?_
 refine xjq mn (v:=.agg #[.slice a r.room.length ca,.slice b r.sts.length cb]) rfl fun b1=>xcz (L':=[(b1,.cells #[.slice a r.room.length ca,.slice b r.sts.length cb] 51 (0,0))]) rfl ?_
 refine rt (xaq (v:=.int .i64 0) rfl) (tm':=zq1 (zq4 _)) rfl <| ro (xaq (v:=.int .i64 0) rfl) <| ren <| fsr <| rd (fun h_ H_=>xbk H_ tA51 tS51 rfl (i:=0) rfl (vs:=[.slice a r.room.length ca,.slice b r.sts.length cb]) rfl rfl) <| rt (xax (v:=.slice e m ce) rfl) (tm':=zq1 (zq8 _)) rfl ?_
 refine xcw mn (first:=[]) (cap:=[]) rfl rfl fC54 (fun h_ H_=>c54 md _ _ H_.pe _ _ _ _ r (show RstP _ _ _ _ _ r from ⟨R.r,R.s⟩) hn _ _ _ _ S (by omega) ) rfl ?_
 refine ro (xaq (v:=.int .i64 (givH r l)) rfl) <| ren <| xav <| rt (xax (v:=.int .i64 (givH r l)) rfl) (tm':=zq16 []) rfl <| ro (xgw rfl rfl) <| xak ?_
 by_cases cc2:givH r l≠0
 ·
  refine xcx rfl (dtt cc2) <| fsr <| ro (xax (v:=.int .i64 (givH r l)) rfl) <| rt (xaq (v:=.int .i64 0) rfl) (tm':=zq1 (zq4 _)) rfl <| ro (xaq (v:=.int .i64 (givH r l)) rfl) <| xak ?_
  refine xcj Tryz.func26 rfl (vs:=[.int .i64 0,.int .i64 (givH r l)]) (fun h_ H_=>⟨.int .i64 0,_,rfl,rfl,⟨.int .i64 (givH r l),_,rfl,rfl,rfl⟩⟩) (v:=.tuple #[.int .i64 0,.int .i64 (givH r l)]) rfl ?_
  exact fun h_ H_=>K _ _ ⟨by first | rfl | exact absurd hv ‹_›,H_.kept⟩
 ·
  refine xcv rfl (dff cc2) <| xdz <| fsr <| rd (fun h_ H_=>xbk H_ tA51 tS51 rfl (i:=0) rfl (vs:=[.slice a r.room.length ca,.slice b r.sts.length cb]) rfl rfl) <| rt (xax (v:=.slice e m ce) rfl) (tm':=zq16 []) rfl ?_
  refine xcw mn (first:=[]) (cap:=[]) rfl rfl fC55 (fun h_ H_=>c55 md _ _ H_.pe _ _ _ _ r (show RstP _ _ _ _ _ r from ⟨R.r,R.s⟩) hn _ _ _ _ S (by omega) hB hg) rfl ?_
  refine ro (xaq (v:=.int .i64 (costK r l m)) rfl) <| rt (xaq (v:=.int .i64 0) rfl) (tm':=zq2 (zq4 _)) rfl <| xak ?_
  refine xcj Tryz.func26 rfl (vs:=[.int .i64 (costK r l m),.int .i64 0]) (fun h_ H_=>⟨.int .i64 (costK r l m),_,rfl,rfl,⟨.int .i64 0,_,rfl,rfl,rfl⟩⟩) (v:=.tuple #[.int .i64 (costK r l m),.int .i64 0]) rfl ?_
  exact fun h_ H_=>K _ _ ⟨by first | rfl | exact absurd hv ‹_›,H_.kept⟩
theorem c22 (md:Md) (h:Heap) (p:PHeap) (hp:Per p h) (a:Option Addr) (ca:Nat) (b:Option Addr) (cb:Nat) (r:Rst) (R:RstP p a r.room.length b r.sts.length r) (hn:r.room.length≤40∧r.sts.length≤40) (e:Option Addr) (m ce:Nat) (l:List Int) (S:Ints p e m l) (_hm:m≤100) (hB:rosB r):CallsX Tryz.prog md 22 #[.agg #[.slice a r.room.length ca,.slice b r.sts.length cb],.slice e m ce] h fun v h'=>v= .bool (decide (goodP r l))∧Keep h h':=by
 refine xbv (Φ:=fun h_=>St h [] p h_ []) Tryz.func22 rfl (tm:=zq2 (zq32 (zq32 []))) rfl ?_ (St.start h _ hp)
 intro c₀ cs Stop K
 have hs:=S.len
 refine fsr ?_
 refine xjq mn (v:=.agg #[.slice a r.room.length ca,.slice b r.sts.length cb]) rfl fun b1=>xcz (L':=[(b1,.cells #[.slice a r.room.length ca,.slice b r.sts.length cb] 51 (0,0))]) rfl ?_
 refine ro (xaq (v:=.bool (false)) rfl) <| ren <| fsr <| rt (xax (v:=.slice e m ce) rfl) (tm':=zq8 _) rfl <| ro (xfj Tryz.underlying26 rfl) <| ro (xaw xoq rfl (a':=⟨b1,1,none⟩) rfl) ?_
 refine xaj mn (fun h_ H_=>xbx H_ tA49 rfl (i:=0) rfl (v:=.slice b r.sts.length cb) rfl) (tm':=zq1 (zq2 (zq8 _))) rfl ?_
 refine ro (xfj Tryz.underlying49 rfl) <| ro (xgw rfl rfl) <| xak ?_
 by_cases cc2:((m:Nat):Int)≠((r.sts.length:Nat):Int)
 ·
  refine xcx rfl (dtt cc2) <| fsr <| rt (xaq (v:=.bool (false)) rfl) (tm':=zq1 (zq4 _)) rfl <| xak ?_
  refine xcj Tryz.func22 rfl (vs:=[.bool (false)]) (fun h_ H_=>⟨.bool (false),_,rfl,rfl,rfl⟩) (v:=.bool (false)) rfl ?_
  exact fun h_ H_=>K _ _ ⟨congrArg Value.bool (by first | exact (decide_eq_true ⟨by omega,fun i hi=>h1 i (by omega)⟩).symm | exact (decide_eq_false (xmq (by omega))).symm | exact (decide_eq_false (xkj (i:=j) (by omega) (fun z=>by have z1:=z.1;omega))).symm | exact (decide_eq_false (xkj (i:=j) (by omega) (fun z=>(hq (by omega) (by omega)).1 z (by assumption)))).symm),H_.kept⟩
 ·
  refine xcv rfl (dff cc2) <| xdz <| fsr <| ro (xaw xtz rfl (a':=⟨b1,0,none⟩) rfl) <| rd (fun h_ H_=>xbx H_ tA26 rfl (i:=0) rfl (v:=.slice a r.room.length ca) rfl) <| rt (xfj Tryz.underlying26 rfl) (tm':=zq16 _) rfl ?_
  refine xcz (L':=([(b1,.cells #[.slice a r.room.length ca,.slice b r.sts.length cb] 51 (0,0))]:Pcs)++[]) rfl ?_
  refine wdv ([(b1,.cells #[.slice a r.room.length ca,.slice b r.sts.length cb] 51 (0,0))]:Pcs) mn Tryz.underlying26 tS3 tZ3 (z1:=.int .i64 0) rfl tB3 (m:=((r.room.length:Nat):Int)) rfl rfl (by omega) (by omega) (by decide) fun v3 X4 o5=>?_
  refine ro (xaq (v:=v3) rfl) <| ren <| fsr <| rt (xaq (v:=.int .i64 0) rfl) (tm':=zq1 (zq2 (zq4 _))) rfl <| xak <| xeq ?_
  refine xhk (m₀:=m-0) (fun m_ tm_ h_=>∃ (j:Nat) (X1:Pcs),m_=m-j∧(∃ y6:Nat→Value,tm_=[.agg #[.slice a r.room.length ca,.slice b r.sts.length cb],.slice e m ce,.pointer (some ⟨b1,0,none⟩),undef,(y6 4),v3,.int .i64 (((j:Nat):Int)),.slice e m ce,.int .i64 (((m:Nat):Int)),.pointer (some ⟨b1,1,none⟩),.slice b r.sts.length cb,.int .i64 (((r.sts.length:Nat):Int)),.bool (decide (((m:Nat):Int)≠((r.sts.length:Nat):Int))),.pointer (some ⟨b1,0,none⟩),.slice a r.room.length ca,.int .i64 (((r.room.length:Nat):Int)),v3,(y6 17),(y6 18),(y6 19),(y6 20),(y6 21),(y6 22),(y6 23),(y6 24),(y6 25),(y6 26),(y6 27),(y6 28),(y6 29),(y6 30),(y6 31),(y6 32),(y6 33),(y6 34),(y6 35),(y6 36),(y6 37),(y6 38),(y6 39),(y6 40),(y6 41),(y6 42),(y6 43),(y6 44),(y6 45),(y6 46),(y6 47),(y6 48),(y6 49),(y6 50),(y6 51),(y6 52),(y6 53),(y6 54),(y6 55),(y6 56),(y6 57),(y6 58),(y6 59),(y6 60),(y6 61),(y6 62),(y6 63),(y6 64),(y6 65)])∧(j≤m)∧(∀ i,i<j→okA r l i)∧(OwnS 3 1 v3 (ics (fullA l j (List.replicate r.room.length 0))) X1)∧St h [] p h_ (([(b1,.cells #[.slice a r.room.length ca,.slice b r.sts.length cb] 51 (0,0))]:Pcs)++(X1++[]))) (fun h_ H_=>⟨0,X4,rfl,(y_of rfl),Nat.zero_le _,(fun i hi=>absurd hi (Nat.not_lt_zero i)),(o5.as (by simp [fullA,ics])),H_⟩) ?_
  intro m_ tm_ IH7
  refine xhq fun j=>xhq fun X1=>xdj fun hm_=>xdj fun ht_=>xdj fun hkj=>xdj fun h1=>xdj fun o1=>?_
  subst hm_;obtain ⟨y6,ht_⟩:=ht_;subst ht_
  have hr:=fun z_:j<m=>hB.rng (i:=j) (by omega)
  have hLl:=(xsw l (List.replicate r.room.length 0) j).trans (List.length_replicate ..)
  have hLm:=(xsw l (List.replicate r.room.length 0) (j+1)).trans (List.length_replicate ..)
  have hd:=fun z_=>wgq hB h1 (i:=(l.getD j 0).toNat) z_
  have hf:=fun z_=>zxj (hs:=l) (k:=j) (r:=r) z_
  have hq:=fun y_ z_=>wfq hB h1 (k:=j) y_ z_
  refine xbj <| fsr <| ro (xax (v:=.int .i64 (((j:Nat):Int))) rfl) <| ro (xax (v:=.slice e m ce) rfl) <| rt (xfj Tryz.underlying26 rfl) (tm':=zq4 (zq16 _)) rfl <| ro (xfk rfl rfl) ?_
  refine xak ?_
  by_cases cc8:((j:Nat):Int)<((m:Nat):Int)
  ·
   refine xcx rfl (dtt cc8) <| xdz <| xbj <| xeq <| xbj <| xbj ?_
   refine xhw 16 [[],[],[0,1],[0,1,2],[],[4],[],[4,5,6],[4,5,6,7],[4,5,6,7,8],[],[10],[],[10,11,12],[10,11,12,13],[10,11,12,13,14],[0,1,2,3,4,5,6,7,8,9,10,11,12,13,14,15],[]] mixed (by kernel_rfl) (Nat.le_of_ble_eq_true rfl) ?_
   refine wo (xax (v:=.slice e m ce) rfl) <| wt (xax (v:=.int .i64 (((j:Nat):Int))) rfl) (tm':=zq1 (zq8 (zq16 _))) rfl ?_
   refine wo (xdx (i:=j) Tryz.underlying26 tS3 (xlx e m ce (S.ne (by omega))) rfl (by omega)) ?_
   refine xfq mn (fun h_ H_=>xdk H_ tA3 rfl (v:=.int .i64 (l.getD j 0)) (S.get (by omega))) (tm':=zq1 (zq2 (zq8 (zq16 _)))) rfl ?_
   refine wo (xaw xoq rfl (a':=⟨b1,1,none⟩) rfl) ?_
   refine xfq mn (fun h_ H_=>xbx H_ tA49 rfl (i:=0) rfl (v:=.slice b r.sts.length cb) rfl) (tm':=zq1 (zq4 (zq8 (zq16 _)))) rfl ?_
   refine wo (xax (v:=.int .i64 (((j:Nat):Int))) rfl) ?_
   refine wt (xdx (i:=j) Tryz.underlying49 tS91 (xlx b r.sts.length cb (R.s.ne (by omega))) rfl (by omega)) (tm':=zq1 (zq2 (zq4 (zq8 (zq16 _))))) rfl ?_
   refine wo (xaw xuv rfl (a':=((adr b).add (j*4)).add 1) rfl) ?_
   refine xfq mn (fun h_ H_=>xdk H_ tA3 rfl (v:=.int .i64 ((r.sts.getD j sz).lo)) (R.s.lo (by omega))) (tm':=zq1 (zq32 _)) rfl ?_
   refine wo (xaw xoq rfl (a':=⟨b1,1,none⟩) rfl) ?_
   refine xfq mn (fun h_ H_=>xbx H_ tA49 rfl (i:=0) rfl (v:=.slice b r.sts.length cb) rfl) (tm':=zq1 (zq2 (zq32 _))) rfl ?_
   refine wo (xax (v:=.int .i64 (((j:Nat):Int))) rfl) ?_
   refine wt (xdx (i:=j) Tryz.underlying49 tS91 (xlx b r.sts.length cb (R.s.ne (by omega))) rfl (by omega)) (tm':=zq1 (zq4 (zq32 _))) rfl ?_
   refine wo (xaw xuk rfl (a':=((adr b).add (j*4)).add 2) rfl) ?_
   refine xfq mn (fun h_ H_=>xdk H_ tA3 rfl (v:=.int .i64 ((r.sts.getD j sz).hi)) (R.s.hi (by omega))) (tm':=zq1 (zq2 (zq4 (zq32 _)))) rfl ?_
   refine xlq rfl ?_
   refine xcw mn (first:=[]) (cap:=[]) rfl rfl fC48 (fun h_ H_=>c48 md _ (l.getD j 0) ((r.sts.getD j sz).lo) ((r.sts.getD j sz).hi)) (tm':=zq8 (zq32 _)) rfl ?_
   refine ro (xfw rfl) <| xak ?_
   by_cases cc9:(r.sts.getD j sz).lo≤l.getD j 0∧l.getD j 0≤(r.sts.getD j sz).hi
   ·
    refine xcv rfl (xej (dtt cc9)) <| xdz <| fsr <| ro (xax (v:=v3) rfl) <| rt (xax (v:=.slice e m ce) rfl) (tm':=zq1 (zq2 (zq8 (zq32 _)))) rfl <| ro (xax (v:=.int .i64 (((j:Nat):Int))) rfl) ?_
    refine ro (xdx (i:=j) Tryz.underlying26 tS3 (xlx e m ce (S.ne (by omega))) rfl (by omega)) ?_
    refine xaj mn (fun h_ H_=>xdk H_ tA3 rfl (v:=.int .i64 (l.getD j 0)) (S.get (by omega))) (tm':=zq2 (zq32 (zq32 []))) rfl ?_
    refine ro (xmz o1 Tryz.underlying26 tS3 rfl rfl (by omega) (by rw [((xhj _).trans ((xsw _ _ _).trans (List.length_replicate ..)))];omega)) ?_
    refine rd (fun h_ H_=>xtq (A:=([(b1,.cells #[.slice a r.room.length ca,.slice b r.sts.length cb] 51 (0,0))]:Pcs)) (i:=((l.getD j 0)).toNat) (j:=0) (e:=[.int .i64 ((fullA l j (List.replicate r.room.length 0)).getD (((l.getD j 0)).toNat) 0)]) o1 H_ tA3 rfl rfl (xxv (by omega)) (u:=.int .i64 ((fullA l j (List.replicate r.room.length 0)).getD (((l.getD j 0)).toNat) 0)) rfl) ?_
    refine rt (xev rfl rfl (wr (by have hd_:=hd (by omega);omega))) (tm':=zq2 (zq32 (zq32 []))) rfl ?_
    refine ro (xmz o1 Tryz.underlying26 tS3 rfl rfl (by omega) (by rw [((xhj _).trans ((xsw _ _ _).trans (List.length_replicate ..)))];omega)) ?_
    refine xuw (A:=([(b1,.cells #[.slice a r.room.length ca,.slice b r.sts.length cb] 51 (0,0))]:Pcs)) (i:=((l.getD j 0)).toNat) (j:=0) (e:=[.int .i64 ((fullA l j (List.replicate r.room.length 0)).getD (((l.getD j 0)).toNat) 0)]) (u:=.int .i64 (((fullA l j (List.replicate r.room.length 0)).getD (((l.getD j 0)).toNat) 0)+1)) o1 mn tS3 rfl rfl rfl ⟨rfl,rfl⟩ (xxv (by omega)) (Nat.succ_le_iff.1 (Nat.le_of_ble_eq_true rfl)) fun X10 o11=>?_
    have o12:OwnS 3 1 v3 (ics ((fullA l j (List.replicate r.room.length 0)).set (((l.getD j 0)).toNat) (((fullA l j (List.replicate r.room.length 0)).getD (((l.getD j 0)).toNat) 0)+1))) X10:=o11.as ytk
    refine ren ?_
    refine xhw 15 [[],[],[],[1,2],[1,2,3],[0,1,2,3,4],[0,1,2,3,4,5],[],[7],[],[],[9,10],[9,10,11],[7,8,9,10,11,12],[7,8,9,10,11,12,13],[]] mixed (by kernel_rfl) (Nat.le_of_ble_eq_true rfl) ?_
    refine wt (xax (v:=v3) rfl) (tm':=zq2 (zq32 (zq32 []))) rfl <| wo (xax (v:=.slice e m ce) rfl) <| wt (xax (v:=.int .i64 (((j:Nat):Int))) rfl) (tm':=zq2 (zq32 (zq32 []))) rfl ?_
    refine wo (xdx (i:=j) Tryz.underlying26 tS3 (xlx e m ce (S.ne (by omega))) rfl (by omega)) ?_
    refine xfq mn (fun h_ H_=>xdk H_ tA3 rfl (v:=.int .i64 (l.getD j 0)) (S.get (by omega))) (tm':=zq2 (zq32 (zq32 []))) rfl ?_
    refine wo (xmz o12 Tryz.underlying26 tS3 rfl rfl (by omega) (by rw [(show (ics ((fullA l j (List.replicate r.room.length 0)).set (((l.getD j 0)).toNat) (((fullA l j (List.replicate r.room.length 0)).getD (((l.getD j 0)).toNat) 0)+1))).length=r.room.length from (xhj (fullA l (j+1) (List.replicate r.room.length 0))).trans hLm)];omega)) ?_
    refine xfq mn (fun h_ H_=>xtq (A:=([(b1,.cells #[.slice a r.room.length ca,.slice b r.sts.length cb] 51 (0,0))]:Pcs)) (i:=((l.getD j 0)).toNat) (j:=0) (e:=[.int .i64 ((fullA l (j+1) (List.replicate r.room.length 0)).getD (((l.getD j 0)).toNat) 0)]) o12 H_ tA3 rfl rfl (xxv (xs:=(fullA l (j+1) (List.replicate r.room.length 0))) (by omega)) (u:=.int .i64 ((fullA l (j+1) (List.replicate r.room.length 0)).getD (((l.getD j 0)).toNat) 0)) rfl) (tm':=zq2 (zq32 (zq32 []))) rfl ?_
    refine wo (xaw xtz rfl (a':=⟨b1,0,none⟩) rfl) ?_
    refine xfq mn (fun h_ H_=>xbx H_ tA26 rfl (i:=0) rfl (v:=.slice a r.room.length ca) rfl) (tm':=zq2 (zq32 (zq32 []))) rfl ?_
    refine wo (xax (v:=.slice e m ce) rfl) <| wt (xax (v:=.int .i64 (((j:Nat):Int))) rfl) (tm':=zq2 (zq32 (zq32 []))) rfl ?_
    refine wo (xdx (i:=j) Tryz.underlying26 tS3 (xlx e m ce (S.ne (by omega))) rfl (by omega)) ?_
    refine xfq mn (fun h_ H_=>xdk H_ tA3 rfl (v:=.int .i64 (l.getD j 0)) (S.get (by omega))) (tm':=zq2 (zq32 (zq32 []))) rfl ?_
    refine wo (ydz Tryz.underlying26 tS3 (xlx a r.room.length ca (R.r.ne (by omega))) rfl (by omega) (by omega) (a':=(adr a).add ((((l.getD j 0)).toNat)*1)) rfl) ?_
    refine xfq mn (fun h_ H_=>xdk H_ tA3 rfl (v:=.int .i64 (r.room.getD (((l.getD j 0)).toNat) 0)) (R.r.get (by omega))) (tm':=zq2 (zq32 (zq32 []))) rfl ?_
    refine xlq rfl ?_
    refine ro (xjx rfl rfl) <| xak ?_
    by_cases cc13:r.room.getD (((l.getD j 0)).toNat) 0<(fullA l (j+1) (List.replicate r.room.length 0)).getD (((l.getD j 0)).toNat) 0
    ·
     refine xcx rfl (dtt cc13) <| fsr <| rt (xaq (v:=.bool (false)) rfl) (tm':=zq1 (zq4 _)) rfl <| xak ?_
     refine xcj Tryz.func22 rfl (vs:=[.bool (false)]) (fun h_ H_=>⟨.bool (false),_,rfl,rfl,rfl⟩) (v:=.bool (false)) rfl ?_
     exact fun h_ H_=>K _ _ ⟨congrArg Value.bool (by first | exact (decide_eq_true ⟨by omega,fun i hi=>h1 i (by omega)⟩).symm | exact (decide_eq_false (xmq (by omega))).symm | exact (decide_eq_false (xkj (i:=j) (by omega) (fun z=>by have z1:=z.1;omega))).symm | exact (decide_eq_false (xkj (i:=j) (by omega) (fun z=>(hq (by omega) (by omega)).1 z (by assumption)))).symm),H_.kept⟩
    ·
     refine xcv rfl (dff cc13) <| xdz <| xex <| xav <| ro (xax (v:=.int .i64 (((j:Nat):Int))) rfl) ?_
     refine ro (xev rfl rfl (n:=((j+1:Nat):Int)) (wr (by omega))) ?_
     refine rt (xaq (v:=.int .i64 (((j+1:Nat):Int))) rfl) (tm':=zq1 (zq2 (zq4 _))) rfl <| xak ?_
     exact fun h_ H_=>IH7 _ _ (by omega) h_ ⟨j+1,X10,rfl,(y_of rfl),(by omega),(xrz h1 ((hq (by omega) (by omega)).2 (by assumption))),(show OwnS 3 1 _ (ics (fullA l (j+1) _)) _ from o12),H_⟩
   ·
    refine xcx rfl (xek (dff cc9)) <| fsr <| ro (xaq (v:=.bool (false)) rfl) <| xak ?_
    refine xcj Tryz.func22 rfl (vs:=[.bool (false)]) (fun h_ H_=>⟨.bool (false),_,rfl,rfl,rfl⟩) (v:=.bool (false)) rfl ?_
    exact fun h_ H_=>K _ _ ⟨congrArg Value.bool (by first | exact (decide_eq_true ⟨by omega,fun i hi=>h1 i (by omega)⟩).symm | exact (decide_eq_false (xmq (by omega))).symm | exact (decide_eq_false (xkj (i:=j) (by omega) (fun z=>by have z1:=z.1;omega))).symm | exact (decide_eq_false (xkj (i:=j) (by omega) (fun z=>(hq (by omega) (by omega)).1 z (by assumption)))).symm),H_.kept⟩
  ·
   refine xcv rfl (dff cc8) <| xgk rfl <| fsr <| ro (xaq (v:=.bool (true)) rfl) <| xak ?_
   refine xcj Tryz.func22 rfl (vs:=[.bool (true)]) (fun h_ H_=>⟨.bool (true),_,rfl,rfl,rfl⟩) (v:=.bool (true)) rfl ?_
   exact fun h_ H_=>K _ _ ⟨congrArg Value.bool (by first | exact (decide_eq_true ⟨by omega,fun i hi=>h1 i (by omega)⟩).symm | exact (decide_eq_false (xmq (by omega))).symm | exact (decide_eq_false (xkj (i:=j) (by omega) (fun z=>by have z1:=z.1;omega))).symm | exact (decide_eq_false (xkj (i:=j) (by omega) (fun z=>(hq (by omega) (by omega)).1 z (by assumption)))).symm),H_.kept⟩
theorem c27 (md:Md) (h:Heap) (p:PHeap) (hp:Per p h) (a:Option Addr) (ca:Nat) (b:Option Addr) (cb:Nat) (r:Rst) (R:RstP p a r.room.length b r.sts.length r) (hn:r.room.length≤40∧r.sts.length≤40) (e:Option Addr) (m ce:Nat) (l:List Int) (S:Ints p e m l) (hm:m≤100) (hB:rosB r) (hg:goodP r l) (hmin: ∀ l2:List Int,goodP r l2→costK r l m≤costK r l2 m):CallsX Tryz.prog md 27 #[.agg #[.slice a r.room.length ca,.slice b r.sts.length cb],.slice e m ce] h fun v h'=>v= .tuple #[.agg #[.int .i64 0,.int .i64 0],.int .i64 3]∧Keep h h':=by
 refine xbv (Φ:=fun h_=>St h [] p h_ []) Tryz.func27 rfl (tm:=zq1 (zq2 (zq4 (zq8 (zq16 (zq32 [])))))) rfl ?_ (St.start h _ hp)
 intro c₀ cs Stop K
 have hs:=S.len
 have hv:=zav hB hg
 refine fsr ?_
 refine xjq mn (v:=.agg #[.slice a r.room.length ca,.slice b r.sts.length cb]) rfl fun b1=>xcz (L':=[(b1,.cells #[.slice a r.room.length ca,.slice b r.sts.length cb] 51 (0,0))]) rfl ?_
 refine xfz (tm':=_::_::_::_) rfl ?_
 refine xjj mn tZ63 rfl fun b2=>xcz (L':=[(b2,.cells #[.int .i64 0,.int .i64 0] 63 (0,0)),(b1,.cells #[.slice a r.room.length ca,.slice b r.sts.length cb] 51 (0,0))]) rfl ?_
 refine ro (xaq (v:=.int .i64 0) rfl) <| ren <| fsr ?_
 refine xaj mn (fun h_ H_=>xbk H_ tA51 tS51 rfl (i:=1) rfl (vs:=[.slice a r.room.length ca,.slice b r.sts.length cb]) rfl rfl) (tm':=zq1 (zq2 (zq8 _))) rfl ?_
 refine ro (xax (v:=.slice e m ce) rfl) ?_
 refine xcw mn (first:=[]) (cap:=[]) rfl rfl fC54 (fun h_ H_=>c54 md _ _ H_.pe _ _ _ _ r (show RstP _ _ _ _ _ r from ⟨R.r,R.s⟩) hn _ _ _ _ S (by omega) ) rfl ?_
 refine rt (xaq (v:=.int .i64 (givH r l)) rfl) (tm':=zq1 (zq2 (zq4 _))) rfl <| ren <| xav <| ro (xax (v:=.int .i64 (givH r l)) rfl) <| ro (xgw rfl rfl) <| xak ?_
 by_cases cc3:givH r l≠0
 ·
  refine xcx rfl (dtt cc3) <| fsr <| rt (xlj tZ63 tP63 (vs:=[]) rfl (cells:=#[.int .i64 0,.int .i64 0]) rfl) (tm':=zq16 _) rfl <| ro (xax (v:=.int .i64 (givH r l)) rfl) ?_
  refine xfv mn tS63 rfl (v:=.agg #[.int .i64 0,.int .i64 0]) rfl (i:=0) rfl rfl rfl (Nat.le_of_ble_eq_true rfl) (cs2:=[.int .i64 0,.int .i64 0]) rfl (xcz (L':=[(b2,.cells #[.int .i64 0,.int .i64 0] 63 (0,0)),(b1,.cells #[.slice a r.room.length ca,.slice b r.sts.length cb] 51 (0,0))]) rfl ?_)
  refine ro (xaq (v:=.int .i64 (givH r l)) rfl) <| xak ?_
  refine xcj Tryz.func27 rfl (vs:=[.agg #[.int .i64 0,.int .i64 0],.int .i64 (givH r l)]) (fun h_ H_=>⟨.agg #[.int .i64 0,.int .i64 0],_,rfl,(xbq (xbz (xij tA63 tS63 (vs:=[.int .i64 0,.int .i64 0]) rfl (fun j_ v_ e_=>by rw [xjv];exact H_.ocell (i:=0) rfl (by simpa using e_)) ⟨rfl,rfl⟩))),⟨.int .i64 (givH r l),_,rfl,rfl,rfl⟩⟩) (v:=.tuple #[.agg #[.int .i64 0,.int .i64 0],.int .i64 (givH r l)]) rfl ?_
  exact fun h_ H_=>K _ _ ⟨by first | rfl | exact absurd hv ‹_› | exact absurd (hmin _ ‹_›) (by omega),H_.kept⟩
 ·
  refine xcv rfl (dff cc3) <| xdz <| xbj <| fsr <| rt (xax (v:=.slice e m ce) rfl) (tm':=zq2 (zq16 _)) rfl <| ro (xfj Tryz.underlying26 rfl) ?_
  refine ro (xax (v:=.int .i64 0) rfl) <| xak <| xeq ?_
  refine xhk (m₀:=m-0) (fun m_ tm_ h_=>∃ (j:Nat),m_=m-j∧(∃ y4:Nat→Value,tm_=[.agg #[.slice a r.room.length ca,.slice b r.sts.length cb],.slice e m ce,.pointer (some ⟨b1,0,none⟩),undef,.pointer (some ⟨b2,0,none⟩),(y4 5),.int .i64 (givH r l),(y4 7),(y4 8),(y4 9),.agg #[.slice a r.room.length ca,.slice b r.sts.length cb],.slice e m ce,.int .i64 (givH r l),.int .i64 (givH r l),.bool (decide (givH r l≠0)),undef,undef,.slice e m ce,.int .i64 (((m:Nat):Int)),.int .i64 (((j:Nat):Int)),(y4 20),(y4 21),(y4 22),(y4 23),(y4 24),(y4 25),(y4 26),(y4 27),(y4 28),(y4 29),(y4 30),(y4 31),(y4 32),(y4 33),(y4 34),(y4 35),(y4 36),(y4 37),(y4 38),(y4 39),(y4 40),(y4 41),(y4 42),(y4 43),(y4 44),(y4 45),(y4 46),(y4 47),(y4 48),(y4 49),(y4 50),(y4 51),(y4 52),(y4 53),(y4 54),(y4 55),(y4 56),(y4 57),(y4 58),(y4 59),(y4 60),(y4 61),undef])∧(j≤m)∧St h [] p h_ ([(b2,.cells #[.int .i64 0,.int .i64 0] 63 (0,0)),(b1,.cells #[.slice a r.room.length ca,.slice b r.sts.length cb] 51 (0,0))])) (fun h_ H_=>⟨0,rfl,(y_of rfl),Nat.zero_le _,H_⟩) ?_
  intro m_ tm_ IH5
  refine xhq fun j=>xdj fun hm_=>xdj fun ht_=>xdj fun hkj=>?_
  subst hm_;obtain ⟨y4,ht_⟩:=ht_;subst ht_
  refine fsr <| rt (xfk rfl rfl) (tm':=zq1 (zq4 (zq16 _))) rfl <| ren ?_
  by_cases cc6:((j:Nat):Int)<((m:Nat):Int)
  ·
   refine xcx rfl (dtt cc6) <| xdz <| xbj <| xeq <| fsr <| ro (xax (v:=.int .i64 (((j:Nat):Int))) rfl) ?_
   refine ro (xaq (v:=.int .i64 (((j:Nat):Int))) rfl) <| ren <| xav <| rt (xax (v:=.int .i64 (((j:Nat):Int))) rfl) (tm':=zq1 (zq2 (zq4 (zq16 _)))) rfl ?_
   refine ro (xev rfl rfl (n:=((j+1:Nat):Int)) (wr (by omega))) ?_
   refine ro (xaq (v:=.int .i64 (((j+1:Nat):Int))) rfl) <| xak <| xeq ?_
   refine xhk (m₀:=m+1-(j+1)) (fun m_ tm_ h_=>∃ (k:Nat),m_=m+1-k∧(∃ y7:Nat→Value,tm_=[.agg #[.slice a r.room.length ca,.slice b r.sts.length cb],.slice e m ce,.pointer (some ⟨b1,0,none⟩),undef,.pointer (some ⟨b2,0,none⟩),(y7 5),.int .i64 (givH r l),.int .i64 (((j:Nat):Int)),.int .i64 (((k:Nat):Int)),(y7 9),.agg #[.slice a r.room.length ca,.slice b r.sts.length cb],.slice e m ce,.int .i64 (givH r l),.int .i64 (givH r l),.bool (decide (givH r l≠0)),undef,undef,.slice e m ce,.int .i64 (((m:Nat):Int)),.int .i64 (((j:Nat):Int)),.bool (decide (((j:Nat):Int)<((m:Nat):Int))),.int .i64 (((j:Nat):Int)),.int .i64 (((j:Nat):Int)),.int .i64 (((j+1:Nat):Int)),(y7 24),(y7 25),(y7 26),(y7 27),(y7 28),(y7 29),(y7 30),(y7 31),(y7 32),(y7 33),(y7 34),(y7 35),(y7 36),(y7 37),(y7 38),(y7 39),(y7 40),(y7 41),(y7 42),(y7 43),(y7 44),(y7 45),(y7 46),(y7 47),(y7 48),(y7 49),(y7 50),(y7 51),(y7 52),(y7 53),(y7 54),(y7 55),(y7 56),(y7 57),(y7 58),(y7 59),(y7 60),(y4 61),undef])∧(k≤m+1)∧St h [] p h_ ([(b2,.cells #[.int .i64 0,.int .i64 0] 63 (0,0)),(b1,.cells #[.slice a r.room.length ca,.slice b r.sts.length cb] 51 (0,0))])) (fun h_ H_=>⟨j+1,rfl,(y_of rfl),(by omega),H_⟩) ?_
   intro m_ tm_ IH8
   refine xhq fun k=>xdj fun hm_=>xdj fun ht_=>xdj fun hkk=>?_
   subst hm_;obtain ⟨y7,ht_⟩:=ht_;subst ht_
   have hls:(l.set j (l.getD k 0)).length=l.length:=List.length_set
   refine xbj <| fsr <| rt (xax (v:=.int .i64 (((k:Nat):Int))) rfl) (tm':=zq1 (zq8 (zq16 _))) rfl <| ro (xax (v:=.slice e m ce) rfl) <| ro (xfj Tryz.underlying26 rfl) <| rt (xfk rfl rfl) (tm':=zq4 (zq8 (zq16 _))) rfl ?_
   refine xak ?_
   by_cases cc9:((k:Nat):Int)<((m:Nat):Int)
   ·
    refine xcx rfl (dtt cc9) <| xdz <| xbj <| xeq <| fsr <| ro (xax (v:=.slice e m ce) rfl) ?_
    refine xcz (L':=([(b2,.cells #[.int .i64 0,.int .i64 0] 63 (0,0)),(b1,.cells #[.slice a r.room.length ca,.slice b r.sts.length cb] 51 (0,0))]:Pcs)++[]) rfl ?_
    refine xgv mn (first:=[]) (cap:=[]) rfl rfl fC56 (R:=fun v_ h_=>∃ w10:Value,∃ X11:Pcs,v_=w10∧(OwnS 3 1 w10 (ics l) X11)∧St h [] p h_ (([(b2,.cells #[.int .i64 0,.int .i64 0] 63 (0,0)),(b1,.cells #[.slice a r.room.length ca,.slice b r.sts.length cb] 51 (0,0))]:Pcs)++(X11++[]))) (fun h_ H_=>(c56 md _ _ H_.pe _ _ _ _ S (by omega)).mono fun v_ h2_ ⟨w10,X11,e_,o12,N_⟩=>⟨w10,X11,e_,o12,H_.callNA N_⟩) fun v_=>?_
    refine xgx fun w10=>xgx fun X11=>xez fun ev_=>xez fun o12=>?_
    have ev_:=ev_.symm;subst ev_
    refine xcz (L':=([(b2,.cells #[.int .i64 0,.int .i64 0] 63 (0,0)),(b1,.cells #[.slice a r.room.length ca,.slice b r.sts.length cb] 51 (0,0))]:Pcs)++(X11++[])) rfl ?_
    refine rt (xaq (v:=w10) rfl) (tm':=zq2 (zq8 _)) rfl <| ren ?_
    refine zyz (Base1:=fun h_=>∃ X3_,OwnS 3 1 w10 ((ics l).set j ([.int .i64 (l.getD j 0)].set 0 (.int .i64 (l.getD k 0)))) X3_∧St h [] p h_ (([(b2,.cells #[.int .i64 0,.int .i64 0] 63 (0,0)),(b1,.cells #[.slice a r.room.length ca,.slice b r.sts.length cb] 51 (0,0))]:Pcs)++(X3_++[]))) 14 13 [[],[],[],[],[],[],[4,5],[4,5,6],[],[],[8,9],[8,9,10],[0,1,4,5,6,7,8,9,10,11],[0,1,4,5,6,7,8,9,10,11,12],[0,1,2,3,4,5,6,7,8,9,10,11,12,13],[0,1,2,3,4,5,6,7,8,9,10,11,12,13,14]] mixed (by kernel_rfl) (Nat.le_of_ble_eq_true rfl) (Nat.le_of_ble_eq_true rfl) ?_
    refine xsk mn (by kernel_rfl) (xmx fun h_ H_=>xax (v:=w10) rfl) (tm':=zq1 (zq32 _)) rfl ?_
    refine xsk mn (by kernel_rfl) (xmx fun h_ H_=>xax (v:=.int .i64 (((j:Nat):Int))) rfl) rfl ?_
    refine zhj mn (xmx fun h_ H_=>xax (v:=w10) rfl) (xmx fun h_ ⟨X3_,o3_,H_⟩=>xax (v:=w10) rfl) (tm':=zq1 (zq2 (zq32 _))) rfl ?_
    refine zhj mn (xmx fun h_ H_=>xax (v:=.int .i64 (((k:Nat):Int))) rfl) (xmx fun h_ ⟨X3_,o3_,H_⟩=>xax (v:=.int .i64 (((k:Nat):Int))) rfl) rfl ?_
    refine xsk mn (by kernel_rfl) (xmx fun h_ H_=>xax (v:=w10) rfl) (tm':=zq1 (zq4 (zq32 _))) rfl ?_
    refine xsk mn (by kernel_rfl) (xmx fun h_ H_=>xax (v:=.int .i64 (((k:Nat):Int))) rfl) rfl ?_
    refine xsk mn (by kernel_rfl) (xmx fun h_ H_=>xnj o12 Tryz.underlying26 tS3 rfl rfl (by rw [((xhj _).trans S.len)];first | omega | (simp only [List.length_set];omega))) (tm':=zq1 (zq2 (zq4 (zq32 _)))) rfl ?_
    refine xsk mn (by kernel_rfl) (xmx fun h_ H_=>xtq (A:=([(b2,.cells #[.int .i64 0,.int .i64 0] 63 (0,0)),(b1,.cells #[.slice a r.room.length ca,.slice b r.sts.length cb] 51 (0,0))]:Pcs)) (i:=k) (j:=0) (e:=[.int .i64 (l.getD k 0)]) o12 H_ tA3 rfl rfl (xxv (by omega)) (u:=.int .i64 (l.getD k 0)) rfl) rfl ?_
    refine xsk mn (by kernel_rfl) (xmx fun h_ H_=>xax (v:=w10) rfl) (tm':=zq1 (zq8 (zq32 _))) rfl ?_
    refine xsk mn (by kernel_rfl) (xmx fun h_ H_=>xax (v:=.int .i64 (((j:Nat):Int))) rfl) rfl ?_
    refine xsk mn (by kernel_rfl) (xmx fun h_ H_=>xnj o12 Tryz.underlying26 tS3 rfl rfl (by rw [((xhj _).trans S.len)];first | omega | (simp only [List.length_set];omega))) (tm':=zq1 (zq2 (zq4 (zq8 (zq16 (zq32 [])))))) rfl ?_
    refine xsk mn (by kernel_rfl) (xmx fun h_ H_=>xtq (A:=([(b2,.cells #[.int .i64 0,.int .i64 0] 63 (0,0)),(b1,.cells #[.slice a r.room.length ca,.slice b r.sts.length cb] 51 (0,0))]:Pcs)) (i:=j) (j:=0) (e:=[.int .i64 (l.getD j 0)]) o12 H_ tA3 rfl rfl (xxv (by omega)) (u:=.int .i64 (l.getD j 0)) rfl) rfl ?_
    refine xsk mn (by kernel_rfl) (xmx fun h_ H_=>xnj o12 Tryz.underlying26 tS3 rfl rfl (by rw [((xhj _).trans S.len)];first | omega | (simp only [List.length_set];omega))) (tm':=zq1 (zq2 (zq4 (zq8 (zq16 (zq32 [])))))) rfl ?_
    refine zsk rfl mn (fun h_ H_=>zrx (A:=([(b2,.cells #[.int .i64 0,.int .i64 0] 63 (0,0)),(b1,.cells #[.slice a r.room.length ca,.slice b r.sts.length cb] 51 (0,0))]:Pcs)) (i:=j) (j:=0) (e:=[.int .i64 (l.getD j 0)]) (u:=.int .i64 (l.getD k 0)) o12 tS3 rfl rfl rfl ⟨rfl,rfl⟩ (xxv (by omega)) (Nat.succ_le_iff.1 (Nat.le_of_ble_eq_true rfl)) H_) rfl ?_
    refine wkq rfl (xgx fun X13=>xez fun o14=>?_)
    have o15:OwnS 3 1 w10 (ics (l.set j (l.getD k 0))) X13:=o14.as ytk
    refine ro (xnj o15 Tryz.underlying26 tS3 rfl rfl (by rw [((xhj _).trans (by simp [List.length_set];omega))];first | omega | (simp only [List.length_set];omega))) ?_
    refine xuw (A:=([(b2,.cells #[.int .i64 0,.int .i64 0] 63 (0,0)),(b1,.cells #[.slice a r.room.length ca,.slice b r.sts.length cb] 51 (0,0))]:Pcs)) (i:=k) (j:=0) (e:=[.int .i64 ((l.set j (l.getD k 0)).getD k 0)]) (u:=.int .i64 (l.getD j 0)) o15 mn tS3 rfl rfl rfl ⟨rfl,rfl⟩ (xxv (by omega)) (Nat.succ_le_iff.1 (Nat.le_of_ble_eq_true rfl)) fun X16 o17=>?_
    have o18:OwnS 3 1 w10 (ics ((l.set j (l.getD k 0)).set k (l.getD j 0))) X16:=o17.as ytk
    refine ren ?_
    refine xtj (A:=([(b2,.cells #[.int .i64 0,.int .i64 0] 63 (0,0)),(b1,.cells #[.slice a r.room.length ca,.slice b r.sts.length cb] 51 (0,0))]:Pcs)) o18 ((xhj _).trans (by simp [List.length_set];omega)) fun p19 a20 cp21 le22 ev_ D23=>?_
    subst ev_
    refine xrq (L':=[(b2,.cells #[.int .i64 0,.int .i64 0] 63 (0,0)),(b1,.cells #[.slice a r.room.length ca,.slice b r.sts.length cb] 51 (0,0))]) rfl ?_
    by_cases cc24:goodP r ((l.set j (l.getD k 0)).set k (l.getD j 0))
    ·
     refine xhw 9 [[],[],[0,1],[0,1,2],[],[],[4,5],[],[0,1,2],[0,1,2,4,5,7,8],[0,1,2,4,5,6,7,8,9],[]] mixed (by kernel_rfl) (Nat.le_of_ble_eq_true rfl) ?_
     refine xfq mn (fun h_ H_=>xbk H_ tA51 tS51 rfl (i:=1) rfl (vs:=[.slice a r.room.length ca,.slice b r.sts.length cb]) rfl rfl) (tm':=zq1 (zq2 (zq4 (zq8 (zq16 (zq32 [])))))) rfl ?_
     refine wo (xax (v:=.slice a20 m cp21) rfl) ?_
     refine xox mn (first:=[]) (cap:=[]) rfl rfl fC57 (fun h_ H_=>(c57 md _ _ H_.pe _ _ _ _ r (show RstP _ _ _ _ _ r from ⟨(R.r.mono le22),(R.s.mono le22)⟩) hn _ _ _ _ (show Ints _ _ _ ((l.set j (l.getD k 0)).set k (l.getD j 0)) from D23) (by omega) hB).mono fun v_ h2_ ⟨e_,k_⟩=>⟨e_,H_.call k_⟩) (tm':=zq1 (zq2 (zq4 (zq8 (zq16 (zq32 [])))))) rfl ?_
     refine wo (xax (v:=.bool (decide (goodP r ((l.set j (l.getD k 0)).set k (l.getD j 0))))) rfl) ?_
     refine xfq (ms rfl rfl (dtt cc24)) (fun h_ H_=>xbk H_ tA51 tS51 rfl (i:=1) rfl (vs:=[.slice a r.room.length ca,.slice b r.sts.length cb]) rfl rfl) (tm':=zq1 (zq2 (zq4 (zq8 (zq16 (zq32 [])))))) rfl ?_
     refine xfq (ms rfl rfl (dtt cc24)) (fun h_ H_=>xax (v:=.slice a20 m cp21) rfl) rfl ?_
     refine xox (ms rfl rfl (dtt cc24)) (first:=[]) (cap:=[]) rfl rfl fC55 (fun h_ H_=>(c55 md _ _ H_.pe _ _ _ _ r (show RstP _ _ _ _ _ r from ⟨(R.r.mono le22),(R.s.mono le22)⟩) hn _ _ _ _ (show Ints _ _ _ ((l.set j (l.getD k 0)).set k (l.getD j 0)) from D23) (by omega) hB (by assumption)).mono fun v_ h2_ ⟨e_,k_⟩=>⟨e_,H_.call k_⟩) (tm':=zq1 (zq2 (zq4 (zq8 (zq16 (zq32 [])))))) rfl ?_
     refine xfq (ms rfl rfl (dtt cc24)) (fun h_ H_=>xbk H_ tA51 tS51 rfl (i:=1) rfl (vs:=[.slice a r.room.length ca,.slice b r.sts.length cb]) rfl rfl) rfl ?_
     refine xfq (ms rfl rfl (dtt cc24)) (fun h_ H_=>xax (v:=.slice e m ce) rfl) (tm':=zq1 (zq2 (zq4 (zq8 (zq16 (zq32 [])))))) rfl ?_
     refine xlq rfl ?_
     refine xcw (ms rfl rfl (dtt cc24)) (first:=[]) (cap:=[]) rfl rfl fC55 (fun h_ H_=>c55 md _ _ H_.pe _ _ _ _ r (show RstP _ _ _ _ _ r from ⟨(R.r.mono le22),(R.s.mono le22)⟩) hn _ _ _ _ (S.mono le22) (by omega) hB (by assumption)) rfl ?_
     refine xaj (ms rfl rfl (dtt cc24)) (fun h_ H_=>xfk rfl rfl) rfl ?_
     refine rt (xbw rfl (dtt cc24) (v:=.bool (decide (costK r ((l.set j (l.getD k 0)).set k (l.getD j 0)) m<costK r l m))) rfl) (tm':=zq1 (zq2 (zq4 (zq8 (zq16 (zq32 [])))))) rfl <| xak ?_
     by_cases cc25:costK r ((l.set j (l.getD k 0)).set k (l.getD j 0)) m<costK r l m
     ·
      refine xcx rfl (dtt cc25) <| fsr <| ro (xax (v:=.int .i64 (((j:Nat):Int))) rfl) <| ro (xax (v:=.int .i64 (((k:Nat):Int))) rfl) <| rt (xlj tZ63 tP63 (vs:=[(0,.int .i64 (((j:Nat):Int))),(1,.int .i64 (((k:Nat):Int)))]) rfl (cells:=#[.int .i64 (((j:Nat):Int)),.int .i64 (((k:Nat):Int))]) rfl) (tm':=zq1 (zq2 (zq4 (zq8 (zq16 (zq32 [])))))) rfl ?_
      refine xfv mn tS63 rfl (v:=.agg #[.int .i64 (((j:Nat):Int)),.int .i64 (((k:Nat):Int))]) rfl (i:=0) rfl rfl rfl (Nat.le_of_ble_eq_true rfl) (cs2:=[.int .i64 (((j:Nat):Int)),.int .i64 (((k:Nat):Int))]) rfl (xcz (L':=[(b2,.cells #[.int .i64 (((j:Nat):Int)),.int .i64 (((k:Nat):Int))] 63 (0,0)),(b1,.cells #[.slice a r.room.length ca,.slice b r.sts.length cb] 51 (0,0))]) rfl ?_)
      refine ro (xaq (v:=.int .i64 0) rfl) <| xak ?_
      refine xcj Tryz.func27 rfl (vs:=[.agg #[.int .i64 (((j:Nat):Int)),.int .i64 (((k:Nat):Int))],.int .i64 0]) (fun h_ H_=>⟨.agg #[.int .i64 (((j:Nat):Int)),.int .i64 (((k:Nat):Int))],_,rfl,(xbq (xbz (xij tA63 tS63 (vs:=[.int .i64 (((j:Nat):Int)),.int .i64 (((k:Nat):Int))]) rfl (fun j_ v_ e_=>by rw [xjv];exact H_.ocell (i:=0) rfl (by simpa using e_)) ⟨rfl,rfl⟩))),⟨.int .i64 0,_,rfl,rfl,rfl⟩⟩) (v:=.tuple #[.agg #[.int .i64 (((j:Nat):Int)),.int .i64 (((k:Nat):Int))],.int .i64 0]) rfl ?_
      exact fun h_ H_=>K _ _ ⟨by first | rfl | exact absurd hv ‹_› | exact absurd (hmin _ ‹_›) (by omega),H_.kept⟩
     ·
      refine xcv rfl (dff cc25) <| xdz <| xex <| xav <| ro (xax (v:=.int .i64 (((k:Nat):Int))) rfl) ?_
      refine rt (xev rfl rfl (n:=((k+1:Nat):Int)) (wr (by omega))) (tm':=zq2 (zq4 (zq8 (zq16 _)))) rfl ?_
      refine ro (xaq (v:=.int .i64 (((k+1:Nat):Int))) rfl) <| xak ?_
      exact fun h_ H_=>IH8 _ _ (by omega) h_ ⟨k+1,rfl,(y_of rfl),(by omega),(H_.forget le22)⟩
    ·
     refine xhw 9 [[],[],[0,1],[0,1,2],[],[],[4,5],[],[0,1,2],[0,1,2,4,5,7,8],[0,1,2,4,5,6,7,8,9],[]] mixed (by kernel_rfl) (Nat.le_of_ble_eq_true rfl) ?_
     refine wd (fun h_ H_=>xbk H_ tA51 tS51 rfl (i:=1) rfl (vs:=[.slice a r.room.length ca,.slice b r.sts.length cb]) rfl rfl) <| wt (xax (v:=.slice a20 m cp21) rfl) (tm':=zq1 (zq2 (zq4 (zq8 (zq16 (zq32 [])))))) rfl ?_
     refine xox mn (first:=[]) (cap:=[]) rfl rfl fC57 (fun h_ H_=>(c57 md _ _ H_.pe _ _ _ _ r (show RstP _ _ _ _ _ r from ⟨(R.r.mono le22),(R.s.mono le22)⟩) hn _ _ _ _ (show Ints _ _ _ ((l.set j (l.getD k 0)).set k (l.getD j 0)) from D23) (by omega) hB).mono fun v_ h2_ ⟨e_,k_⟩=>⟨e_,H_.call k_⟩) rfl ?_
     refine wt (xax (v:=.bool (decide (goodP r ((l.set j (l.getD k 0)).set k (l.getD j 0))))) rfl) (tm':=zq1 (zq2 (zq4 (zq8 (zq16 (zq32 [])))))) rfl <| wp (mo rfl rfl (dff cc24)) <| xrw (mo rfl rfl (dff cc24)) (tm':=zq1 (zq2 (zq4 (zq8 (zq16 (zq32 [])))))) rfl <| wp (mo rfl rfl (dff cc24)) <| xrw (mo rfl rfl (dff cc24)) (tm':=zq1 (zq2 (zq4 (zq8 (zq16 (zq32 [])))))) rfl <| wp (mo rfl rfl (dff cc24)) ?_
     refine xlq rfl ?_
     refine rp (mo rfl rfl (dff cc24)) <| xck (mo rfl rfl (dff cc24)) (tm':=zq1 (zq2 (zq4 (zq8 (zq16 (zq32 [])))))) rfl <| ro (xdq rfl (dff cc24) (v:=.bool (false)) rfl) <| xak <| xcv rfl rfl <| xdz ?_
     refine xex <| xav <| ro (xax (v:=.int .i64 (((k:Nat):Int))) rfl) ?_
     refine rt (xev rfl rfl (n:=((k+1:Nat):Int)) (wr (by omega))) (tm':=zq2 (zq4 (zq8 (zq16 _)))) rfl ?_
     refine ro (xaq (v:=.int .i64 (((k+1:Nat):Int))) rfl) <| xak ?_
     exact fun h_ H_=>IH8 _ _ (by omega) h_ ⟨k+1,rfl,(y_of rfl),(by omega),(H_.forget le22)⟩
   ·
    refine xcv rfl (dff cc9) <| xgk rfl <| xex <| xav ?_
    refine ro (xev rfl rfl (n:=((j+1:Nat):Int)) (wr (by omega))) ?_
    refine rt (xax (v:=.int .i64 (((j+1:Nat):Int))) rfl) (tm':=zq4 (zq16 _)) rfl <| xak ?_
    exact fun h_ H_=>IH5 _ _ (by omega) h_ ⟨j+1,rfl,(y_of rfl),(by omega),H_⟩
  ·
   refine xcv rfl (dff cc6) <| xgk rfl <| fsr <| ro (xlj tZ63 tP63 (vs:=[]) rfl (cells:=#[.int .i64 0,.int .i64 0]) rfl) ?_
   refine xfv mn tS63 rfl (v:=.agg #[.int .i64 0,.int .i64 0]) rfl (i:=0) rfl rfl rfl (Nat.le_of_ble_eq_true rfl) (cs2:=[.int .i64 0,.int .i64 0]) rfl (xcz (L':=[(b2,.cells #[.int .i64 0,.int .i64 0] 63 (0,0)),(b1,.cells #[.slice a r.room.length ca,.slice b r.sts.length cb] 51 (0,0))]) rfl ?_)
   refine ro (xaq (v:=.int .i64 3) rfl) <| xak ?_
   refine xcj Tryz.func27 rfl (vs:=[.agg #[.int .i64 0,.int .i64 0],.int .i64 3]) (fun h_ H_=>⟨.agg #[.int .i64 0,.int .i64 0],_,rfl,(xbq (xbz (xij tA63 tS63 (vs:=[.int .i64 0,.int .i64 0]) rfl (fun j_ v_ e_=>by rw [xjv];exact H_.ocell (i:=0) rfl (by simpa using e_)) ⟨rfl,rfl⟩))),⟨.int .i64 3,_,rfl,rfl,rfl⟩⟩) (v:=.tuple #[.agg #[.int .i64 0,.int .i64 0],.int .i64 3]) rfl ?_
   exact fun h_ H_=>K _ _ ⟨by first | rfl | exact absurd hv ‹_› | exact absurd (hmin _ ‹_›) (by omega),H_.kept⟩
end Go.Proofs.YtphalmjpbnffcaaGreatDoor
namespace Go.Proofs.YtphalmjpbnffcaaGreatDoor
open Go.X Go.X.Kn Go.X.Hr Go.Conc
set_option maxRecDepth 10000
set_option synthInstance.maxSize 2000

set_option maxHeartbeats 2000000
theorem c84 (md:Md) (h:Heap) (i:Int) (L:List Int) (x:Int) (hi:0≤i∧i≤100) (hx:0≤x∧x.toNat<L.length) (h8:L.length≤8) (hb: -100≤L.getD x.toNat 0∧L.getD x.toNat 0≤100):CallsX Tryz.prog md 84 #[.agg #[.int .i64 (i),.int .i64 (L.getD 0 0),.int .i64 (L.getD 1 0),.int .i64 (L.getD 2 0),.int .i64 (L.getD 3 0),.int .i64 (L.getD 4 0),.int .i64 (L.getD 5 0),.int .i64 (L.getD 6 0),.int .i64 (L.getD 7 0)],.int .i64 (x)] h fun v h'=>v= .agg #[.int .i64 (i+1),.int .i64 ((less L x).getD 0 0),.int .i64 ((less L x).getD 1 0),.int .i64 ((less L x).getD 2 0),.int .i64 ((less L x).getD 3 0),.int .i64 ((less L x).getD 4 0),.int .i64 ((less L x).getD 5 0),.int .i64 ((less L x).getD 6 0),.int .i64 ((less L x).getD 7 0)]∧Keep h h':=by
 refine xbv (Φ:=fun h_=>St h [] (fun _=>none) h_ []) Tryz.func84 rfl (tm:=zq1 (zq16 [])) rfl ?_ (St.start h _ (fun _ _ e=>by cases e))
 intro c₀ cs Stop K
 refine fsr ?_
 refine xjq mn (v:=.agg #[.int .i64 (i),.int .i64 (L.getD 0 0),.int .i64 (L.getD 1 0),.int .i64 (L.getD 2 0),.int .i64 (L.getD 3 0),.int .i64 (L.getD 4 0),.int .i64 (L.getD 5 0),.int .i64 (L.getD 6 0),.int .i64 (L.getD 7 0)]) rfl fun b1=>xcz (L':=[(b1,.cells #[.int .i64 (i),.int .i64 (L.getD 0 0),.int .i64 (L.getD 1 0),.int .i64 (L.getD 2 0),.int .i64 (L.getD 3 0),.int .i64 (L.getD 4 0),.int .i64 (L.getD 5 0),.int .i64 (L.getD 6 0),.int .i64 (L.getD 7 0)] 132 (0,0))]) rfl ?_
 refine xjj mn wbw rfl fun b2=>xcz (L':=[(b2,.cells #[.int .i64 0,.int .i64 0,.int .i64 0,.int .i64 0,.int .i64 0,.int .i64 0,.int .i64 0,.int .i64 0,.int .i64 0] 132 (0,0)),(b1,.cells #[.int .i64 (i),.int .i64 (L.getD 0 0),.int .i64 (L.getD 1 0),.int .i64 (L.getD 2 0),.int .i64 (L.getD 3 0),.int .i64 (L.getD 4 0),.int .i64 (L.getD 5 0),.int .i64 (L.getD 6 0),.int .i64 (L.getD 7 0)] 132 (0,0))]) rfl ?_
 refine ren <| xav <| rt (xaw ykk rfl (a':=⟨b1,0,none⟩) rfl) (tm':=zq2 (zq4 _)) rfl <| rd (fun h_ H_=>xbx H_ tA3 rfl (i:=1) rfl (v:=.int .i64 (i)) rfl) ?_
 refine ro (xev rfl rfl (wr (by omega))) ?_
 refine rt (xaw ykk rfl (a':=⟨b1,0,none⟩) rfl) (tm':=zq1 (zq8 _)) rfl ?_
 refine xfv mn tS3 rfl (v:=.int .i64 (i+1)) rfl (i:=1) rfl rfl rfl (Nat.le_of_ble_eq_true rfl) (cs2:=[.int .i64 (i+1),.int .i64 (L.getD 0 0),.int .i64 (L.getD 1 0),.int .i64 (L.getD 2 0),.int .i64 (L.getD 3 0),.int .i64 (L.getD 4 0),.int .i64 (L.getD 5 0),.int .i64 (L.getD 6 0),.int .i64 (L.getD 7 0)]) rfl (xcz (L':=[(b2,.cells #[.int .i64 0,.int .i64 0,.int .i64 0,.int .i64 0,.int .i64 0,.int .i64 0,.int .i64 0,.int .i64 0,.int .i64 0] 132 (0,0)),(b1,.cells #[.int .i64 (i+1),.int .i64 (L.getD 0 0),.int .i64 (L.getD 1 0),.int .i64 (L.getD 2 0),.int .i64 (L.getD 3 0),.int .i64 (L.getD 4 0),.int .i64 (L.getD 5 0),.int .i64 (L.getD 6 0),.int .i64 (L.getD 7 0)] 132 (0,0))]) rfl ?_)
 refine ren <| xav <| ro (xax (v:=.int .i64 (x)) rfl) <| ro (xaw yrv rfl (a':=⟨b1,1,none⟩) rfl) ?_
 refine rt (xwv Tryz.underlying130 tS3 rfl rfl (by omega) (by omega)) (tm':=zq1 (zq16 [])) rfl ?_
 refine rd (fun h_ H_=>ynq H_ tA3 rfl (i:=1) rfl (v:=.int .i64 (L.getD ((x).toNat) 0)) (show (stC (i+1) L).toArray[1+_]?=_ from wqk (by omega))) ?_
 refine ro (xlv rfl rfl (wr (by omega))) ?_
 refine rt (xaw yrv rfl (a':=⟨b1,1,none⟩) rfl) (tm':=zq1 (zq16 [])) rfl ?_
 refine ro (xwv Tryz.underlying130 tS3 rfl rfl (by omega) (by omega)) ?_
 refine zfq mn tS3 rfl (v:=.int .i64 ((L.getD ((x).toNat) 0)-1)) rfl (i:=1) rfl rfl rfl (show 1+_<9 from by omega) (cs2:=[.int .i64 (i+1),.int .i64 ((less L x).getD 0 0),.int .i64 ((less L x).getD 1 0),.int .i64 ((less L x).getD 2 0),.int .i64 ((less L x).getD 3 0),.int .i64 ((less L x).getD 4 0),.int .i64 ((less L x).getD 5 0),.int .i64 ((less L x).getD 6 0),.int .i64 ((less L x).getD 7 0)]) (show (stC (i+1) L).set _ _=stC (i+1) (less L x) from wqj (by omega) (by omega)) (xcz (L':=[(b2,.cells #[.int .i64 0,.int .i64 0,.int .i64 0,.int .i64 0,.int .i64 0,.int .i64 0,.int .i64 0,.int .i64 0,.int .i64 0] 132 (0,0)),(b1,.cells #[.int .i64 (i+1),.int .i64 ((less L x).getD 0 0),.int .i64 ((less L x).getD 1 0),.int .i64 ((less L x).getD 2 0),.int .i64 ((less L x).getD 3 0),.int .i64 ((less L x).getD 4 0),.int .i64 ((less L x).getD 5 0),.int .i64 ((less L x).getD 6 0),.int .i64 ((less L x).getD 7 0)] 132 (0,0))]) rfl ?_)
 refine ren <| xav <| rd (fun h_ H_=>xbk H_ yoz ybx rfl (i:=1) rfl (vs:=[.int .i64 (i+1),.int .i64 ((less L x).getD 0 0),.int .i64 ((less L x).getD 1 0),.int .i64 ((less L x).getD 2 0),.int .i64 ((less L x).getD 3 0),.int .i64 ((less L x).getD 4 0),.int .i64 ((less L x).getD 5 0),.int .i64 ((less L x).getD 6 0),.int .i64 ((less L x).getD 7 0)]) rfl rfl) ?_
 refine xfv mn ybx rfl (v:=.agg #[.int .i64 (i+1),.int .i64 ((less L x).getD 0 0),.int .i64 ((less L x).getD 1 0),.int .i64 ((less L x).getD 2 0),.int .i64 ((less L x).getD 3 0),.int .i64 ((less L x).getD 4 0),.int .i64 ((less L x).getD 5 0),.int .i64 ((less L x).getD 6 0),.int .i64 ((less L x).getD 7 0)]) rfl (i:=0) rfl rfl rfl (Nat.le_of_ble_eq_true rfl) (cs2:=[.int .i64 (i+1),.int .i64 ((less L x).getD 0 0),.int .i64 ((less L x).getD 1 0),.int .i64 ((less L x).getD 2 0),.int .i64 ((less L x).getD 3 0),.int .i64 ((less L x).getD 4 0),.int .i64 ((less L x).getD 5 0),.int .i64 ((less L x).getD 6 0),.int .i64 ((less L x).getD 7 0)]) rfl (xcz (L':=[(b2,.cells #[.int .i64 (i+1),.int .i64 ((less L x).getD 0 0),.int .i64 ((less L x).getD 1 0),.int .i64 ((less L x).getD 2 0),.int .i64 ((less L x).getD 3 0),.int .i64 ((less L x).getD 4 0),.int .i64 ((less L x).getD 5 0),.int .i64 ((less L x).getD 6 0),.int .i64 ((less L x).getD 7 0)] 132 (0,0)),(b1,.cells #[.int .i64 (i+1),.int .i64 ((less L x).getD 0 0),.int .i64 ((less L x).getD 1 0),.int .i64 ((less L x).getD 2 0),.int .i64 ((less L x).getD 3 0),.int .i64 ((less L x).getD 4 0),.int .i64 ((less L x).getD 5 0),.int .i64 ((less L x).getD 6 0),.int .i64 ((less L x).getD 7 0)] 132 (0,0))]) rfl ?_)
 refine xak ?_
 refine xcj Tryz.func84 rfl (vs:=[.agg #[.int .i64 (i+1),.int .i64 ((less L x).getD 0 0),.int .i64 ((less L x).getD 1 0),.int .i64 ((less L x).getD 2 0),.int .i64 ((less L x).getD 3 0),.int .i64 ((less L x).getD 4 0),.int .i64 ((less L x).getD 5 0),.int .i64 ((less L x).getD 6 0),.int .i64 ((less L x).getD 7 0)]]) (fun h_ H_=>⟨.agg #[.int .i64 (i+1),.int .i64 ((less L x).getD 0 0),.int .i64 ((less L x).getD 1 0),.int .i64 ((less L x).getD 2 0),.int .i64 ((less L x).getD 3 0),.int .i64 ((less L x).getD 4 0),.int .i64 ((less L x).getD 5 0),.int .i64 ((less L x).getD 6 0),.int .i64 ((less L x).getD 7 0)],_,rfl,(xbq (xbz (xij yoz ybx (vs:=[.int .i64 (i+1),.int .i64 ((less L x).getD 0 0),.int .i64 ((less L x).getD 1 0),.int .i64 ((less L x).getD 2 0),.int .i64 ((less L x).getD 3 0),.int .i64 ((less L x).getD 4 0),.int .i64 ((less L x).getD 5 0),.int .i64 ((less L x).getD 6 0),.int .i64 ((less L x).getD 7 0)]) rfl (fun j_ v_ e_=>by rw [xjv];exact H_.ocell (i:=0) rfl (by simpa using e_)) ⟨rfl,rfl⟩))),rfl⟩) (v:=.agg #[.int .i64 (i+1),.int .i64 ((less L x).getD 0 0),.int .i64 ((less L x).getD 1 0),.int .i64 ((less L x).getD 2 0),.int .i64 ((less L x).getD 3 0),.int .i64 ((less L x).getD 4 0),.int .i64 ((less L x).getD 5 0),.int .i64 ((less L x).getD 6 0),.int .i64 ((less L x).getD 7 0)]) rfl ?_
 exact fun h_ H_=>K _ _ ⟨rfl,H_.kept⟩
theorem c79 (md:Md) (h:Heap) (p:PHeap) (hp:Per p h) (a:Option Addr) (ca:Nat) (b:Option Addr) (cb:Nat) (r:Rst) (_R:RstP p a r.room.length b r.sts.length r):CallsX Tryz.prog md 79 #[.agg #[.slice a r.room.length ca,.slice b r.sts.length cb],.func (.func 52) #[] #[]] h fun v h'=>∃ bC bM:Nat,v= .pointer (some ⟨bC,0,none⟩)∧New h h' [(bC,.cells #[.slice a r.room.length ca,.slice b r.sts.length cb,.func (.func 52) #[] #[],.map (some bM)] 136 (0,0)),(bM,.map #[] 0)]:=by
 refine xbv (Φ:=fun h_=>St h [] p h_ []) Tryz.func79 rfl (tm:=zq2 (zq8 [])) rfl ?_ (St.start h _ hp)
 intro c₀ cs Stop K
 refine fsr ?_
 refine xjq mn (v:=.agg #[.slice a r.room.length ca,.slice b r.sts.length cb]) rfl fun b1=>xcz (L':=[(b1,.cells #[.slice a r.room.length ca,.slice b r.sts.length cb] 51 (0,0))]) rfl ?_
 refine xfz (tm':=_::_::_::_) rfl ?_
 refine ro (xaq (v:=.pointer none) rfl) <| ren <| xav <| rd (fun h_ H_=>xbk H_ tA51 tS51 rfl (i:=0) rfl (vs:=[.slice a r.room.length ca,.slice b r.sts.length cb]) rfl rfl) <| rt (xax (v:=.func (.func 52) #[] #[]) rfl) (tm':=zq2 (zq8 [])) rfl ?_
 refine ypw mn fun b2=>xcz (L':=[(b2,.map #[] 0),(b1,.cells #[.slice a r.room.length ca,.slice b r.sts.length cb] 51 (0,0))]) rfl ?_
 refine ro (xlj wsv wtq (vs:=[(0,.agg #[.slice a r.room.length ca,.slice b r.sts.length cb]),(1,.func (.func 52) #[] #[]),(2,.map (some b2))]) rfl (cells:=#[.slice a r.room.length ca,.slice b r.sts.length cb,.func (.func 52) #[] #[],.map (some b2)]) rfl) ?_
 refine xjq mn (v:=.agg #[.slice a r.room.length ca,.slice b r.sts.length cb,.func (.func 52) #[] #[],.map (some b2)]) rfl fun b3=>xcz (L':=[(b3,.cells #[.slice a r.room.length ca,.slice b r.sts.length cb,.func (.func 52) #[] #[],.map (some b2)] 136 (0,0)),(b2,.map #[] 0),(b1,.cells #[.slice a r.room.length ca,.slice b r.sts.length cb] 51 (0,0))]) rfl ?_
 refine xfz (tm':=zq2 (zq8 [])) rfl ?_
 refine ro (xaq (v:=.pointer (some ⟨b3,0,none⟩)) rfl) <| xak ?_
 refine xcj Tryz.func79 rfl (vs:=[.pointer (some ⟨b3,0,none⟩)]) (fun h_ H_=>⟨.pointer (some ⟨b3,0,none⟩),_,rfl,rfl,rfl⟩) (v:=.pointer (some ⟨b3,0,none⟩)) rfl ?_
 exact fun h_ H_=>K _ _ ⟨_,_,rfl,(St.sub H_ (List.Sublist.cons_cons _ (List.Sublist.cons_cons _ (List.nil_sublist _)))).new⟩
theorem c82 (md:Md) (h h₀:Heap) (B₀:List Nat) (p:PHeap) (a:Option Addr) (ca:Nat) (b:Option Addr) (cb:Nat) (r:Rst) (R:RstP p a r.room.length b r.sts.length r) (bC bM:Nat) (X₀:Pcs) (h8:r.room.length≤8) (s₀:St h₀ B₀ p h (([(bC,.cells #[.slice a r.room.length ca,.slice b r.sts.length cb,.func (.func 52) #[] #[],.map (some bM)] 136 (0,0))]:Pcs)++(X₀++[]))):CallsX Tryz.prog md 82 #[.pointer (some ⟨bC,0,none⟩)] h fun v_ h'=>v_= .agg #[.int .i64 0,.int .i64 (r.room.getD 0 0),.int .i64 (r.room.getD 1 0),.int .i64 (r.room.getD 2 0),.int .i64 (r.room.getD 3 0),.int .i64 (r.room.getD 4 0),.int .i64 (r.room.getD 5 0),.int .i64 (r.room.getD 6 0),.int .i64 (r.room.getD 7 0)]∧St h₀ B₀ p h' (([(bC,.cells #[.slice a r.room.length ca,.slice b r.sts.length cb,.func (.func 52) #[] #[],.map (some bM)] 136 (0,0))]:Pcs)++(X₀++[])):=by
 refine xbv (Φ:=fun h_=>St h₀ B₀ p h_ (([(bC,.cells #[.slice a r.room.length ca,.slice b r.sts.length cb,.func (.func 52) #[] #[],.map (some bM)] 136 (0,0))]:Pcs)++(X₀++[]))) Tryz.func82 rfl (tm:=zq4 (zq8 [])) rfl ?_ s₀
 intro c₀ cs Stop K
 refine fsr ?_
 refine xjj mn wbw rfl fun b1=>xcz (L':=([(b1,.cells #[.int .i64 0,.int .i64 0,.int .i64 0,.int .i64 0,.int .i64 0,.int .i64 0,.int .i64 0,.int .i64 0,.int .i64 0] 132 (0,0)),(bC,.cells #[.slice a r.room.length ca,.slice b r.sts.length cb,.func (.func 52) #[] #[],.map (some bM)] 136 (0,0))]:Pcs)++(X₀++[])) rfl ?_
 refine ren ?_
 refine xhw 7 [[],[0],[],[2],[2,3],[2,3,4],[2,3,4,5],[]] mixed (by kernel_rfl) (Nat.le_of_ble_eq_true rfl) ?_
 refine wt (xaw yrv rfl (a':=⟨b1,1,none⟩) rfl) (tm':=zq4 _) rfl <| wo (zbk Tryz.underlying130 tS3 rfl) <| wt (xax (v:=.pointer (some ⟨bC,0,none⟩)) rfl) (tm':=zq2 (zq4 _)) rfl <| wo (xkq rfl) <| wt (xaw yrk rfl (a':=⟨bC,0,none⟩) rfl) (tm':=zq8 _) rfl <| wo (xaw xtz rfl (a':=⟨bC,0,none⟩) rfl) ?_
 refine xfq mn (fun h_ H_=>xbx H_ tA26 rfl (i:=1) rfl (v:=.slice a r.room.length ca) rfl) (tm':=zq4 (zq8 [])) rfl ?_
 refine xlq rfl ?_
 refine zpj mn Tryz.underlying26 tS3 rfl rfl R.r (xyj _) (i:=0) rfl (by omega) (show 1+_≤9 from by omega) (cs2:=[.int .i64 0,.int .i64 (r.room.getD 0 0),.int .i64 (r.room.getD 1 0),.int .i64 (r.room.getD 2 0),.int .i64 (r.room.getD 3 0),.int .i64 (r.room.getD 4 0),.int .i64 (r.room.getD 5 0),.int .i64 (r.room.getD 6 0),.int .i64 (r.room.getD 7 0)]) (show setl (stC 0 []) 1 _=stC 0 r.room from wkx (by omega)) (xcz (L':=([(b1,.cells #[.int .i64 0,.int .i64 (r.room.getD 0 0),.int .i64 (r.room.getD 1 0),.int .i64 (r.room.getD 2 0),.int .i64 (r.room.getD 3 0),.int .i64 (r.room.getD 4 0),.int .i64 (r.room.getD 5 0),.int .i64 (r.room.getD 6 0),.int .i64 (r.room.getD 7 0)] 132 (0,0)),(bC,.cells #[.slice a r.room.length ca,.slice b r.sts.length cb,.func (.func 52) #[] #[],.map (some bM)] 136 (0,0))]:Pcs)++(X₀++[])) rfl ?_)
 refine ren <| xav <| rd (fun h_ H_=>xbk H_ yoz ybx rfl (i:=0) rfl (vs:=[.int .i64 0,.int .i64 (r.room.getD 0 0),.int .i64 (r.room.getD 1 0),.int .i64 (r.room.getD 2 0),.int .i64 (r.room.getD 3 0),.int .i64 (r.room.getD 4 0),.int .i64 (r.room.getD 5 0),.int .i64 (r.room.getD 6 0),.int .i64 (r.room.getD 7 0)]) rfl rfl) ?_
 refine xfv mn ybx rfl (v:=.agg #[.int .i64 0,.int .i64 (r.room.getD 0 0),.int .i64 (r.room.getD 1 0),.int .i64 (r.room.getD 2 0),.int .i64 (r.room.getD 3 0),.int .i64 (r.room.getD 4 0),.int .i64 (r.room.getD 5 0),.int .i64 (r.room.getD 6 0),.int .i64 (r.room.getD 7 0)]) rfl (i:=0) rfl rfl rfl (Nat.le_of_ble_eq_true rfl) (cs2:=[.int .i64 0,.int .i64 (r.room.getD 0 0),.int .i64 (r.room.getD 1 0),.int .i64 (r.room.getD 2 0),.int .i64 (r.room.getD 3 0),.int .i64 (r.room.getD 4 0),.int .i64 (r.room.getD 5 0),.int .i64 (r.room.getD 6 0),.int .i64 (r.room.getD 7 0)]) rfl (xcz (L':=([(b1,.cells #[.int .i64 0,.int .i64 (r.room.getD 0 0),.int .i64 (r.room.getD 1 0),.int .i64 (r.room.getD 2 0),.int .i64 (r.room.getD 3 0),.int .i64 (r.room.getD 4 0),.int .i64 (r.room.getD 5 0),.int .i64 (r.room.getD 6 0),.int .i64 (r.room.getD 7 0)] 132 (0,0)),(bC,.cells #[.slice a r.room.length ca,.slice b r.sts.length cb,.func (.func 52) #[] #[],.map (some bM)] 136 (0,0))]:Pcs)++(X₀++[])) rfl ?_)
 refine xak ?_
 refine xcj Tryz.func82 rfl (vs:=[.agg #[.int .i64 0,.int .i64 (r.room.getD 0 0),.int .i64 (r.room.getD 1 0),.int .i64 (r.room.getD 2 0),.int .i64 (r.room.getD 3 0),.int .i64 (r.room.getD 4 0),.int .i64 (r.room.getD 5 0),.int .i64 (r.room.getD 6 0),.int .i64 (r.room.getD 7 0)]]) (fun h_ H_=>⟨.agg #[.int .i64 0,.int .i64 (r.room.getD 0 0),.int .i64 (r.room.getD 1 0),.int .i64 (r.room.getD 2 0),.int .i64 (r.room.getD 3 0),.int .i64 (r.room.getD 4 0),.int .i64 (r.room.getD 5 0),.int .i64 (r.room.getD 6 0),.int .i64 (r.room.getD 7 0)],_,rfl,(xbq (xbz (xij yoz ybx (vs:=[.int .i64 0,.int .i64 (r.room.getD 0 0),.int .i64 (r.room.getD 1 0),.int .i64 (r.room.getD 2 0),.int .i64 (r.room.getD 3 0),.int .i64 (r.room.getD 4 0),.int .i64 (r.room.getD 5 0),.int .i64 (r.room.getD 6 0),.int .i64 (r.room.getD 7 0)]) rfl (fun j_ v_ e_=>by rw [xjv];exact H_.ocell (i:=0) rfl (by simpa using e_)) ⟨rfl,rfl⟩))),rfl⟩) (v:=.agg #[.int .i64 0,.int .i64 (r.room.getD 0 0),.int .i64 (r.room.getD 1 0),.int .i64 (r.room.getD 2 0),.int .i64 (r.room.getD 3 0),.int .i64 (r.room.getD 4 0),.int .i64 (r.room.getD 5 0),.int .i64 (r.room.getD 6 0),.int .i64 (r.room.getD 7 0)]) rfl ?_
 exact fun h_ H_=>K _ _ ⟨rfl,H_.drop⟩
end Go.Proofs.YtphalmjpbnffcaaGreatDoor
namespace Go.Proofs.YtphalmjpbnffcaaGreatDoor
open Go.X Go.X.Kn Go.X.Hr Go.Conc
set_option maxRecDepth 10000
set_option synthInstance.maxSize 2000

set_option maxHeartbeats 2000000
def BestC (md:Md) (p:PHeap) (a:Option Addr) (ca:Nat) (b:Option Addr) (cb:Nat) (r:Rst) (bC bM:Nat) (i:Nat):Prop:=∀ (h h₀:Heap) (B₀:List Nat) (L:List Int) (kn:Ms) (ob:Obj) (X₀:Pcs),LRm r L→MapK 9 kn ob→HInv r kn→St h₀ B₀ p h (([(bC,.cells #[.slice a r.room.length ca,.slice b r.sts.length cb,.func (.func 52) #[] #[],.map (some bM)] 136 (0,0)),(bM,ob)]:Pcs)++(X₀++[]))→
 CallsX Tryz.prog md 83 #[.pointer (some ⟨bC,0,none⟩),.agg #[.int .i64 (((i:Nat):Int)),.int .i64 (L.getD 0 0),.int .i64 (L.getD 1 0),.int .i64 (L.getD 2 0),.int .i64 (L.getD 3 0),.int .i64 (L.getD 4 0),.int .i64 (L.getD 5 0),.int .i64 (L.getD 6 0),.int .i64 (L.getD 7 0)]] h fun v_ h'=>∃ (ms_:Ms) (ob_:Obj),v_= .agg #[.int .i64 ((bestF (r.sts.drop i) L).1),.int .i64 ((bestF (r.sts.drop i) L).2)]∧MapK 9 ms_ ob_∧HInv r ms_∧HExt i kn ms_∧St h₀ B₀ p h' (([(bC,.cells #[.slice a r.room.length ca,.slice b r.sts.length cb,.func (.func 52) #[] #[],.map (some bM)] 136 (0,0)),(bM,ob_)]:Pcs)++(X₀++[]))
theorem b83 (md:Md) (h h₀:Heap) (B₀:List Nat) (p:PHeap) (a:Option Addr) (ca:Nat) (b:Option Addr) (cb:Nat) (r:Rst) (R:RstP p a r.room.length b r.sts.length r) (hn:r.room.length≤40∧r.sts.length≤40) (hB:rosB r) (bC bM i:Nat) (hi:i≤r.sts.length) (IH:i<r.sts.length→BestC md p a ca b cb r bC bM (i+1)) (L:List Int) (hL:LRm r L) (kn:Ms) (ob:Obj) (hM:MapK 9 kn ob) (hI:HInv r kn) (X₀:Pcs) (s₀:St h₀ B₀ p h (([(bC,.cells #[.slice a r.room.length ca,.slice b r.sts.length cb,.func (.func 52) #[] #[],.map (some bM)] 136 (0,0)),(bM,ob)]:Pcs)++(X₀++[]))):CallsX Tryz.prog md 83 #[.pointer (some ⟨bC,0,none⟩),.agg #[.int .i64 (((i:Nat):Int)),.int .i64 (L.getD 0 0),.int .i64 (L.getD 1 0),.int .i64 (L.getD 2 0),.int .i64 (L.getD 3 0),.int .i64 (L.getD 4 0),.int .i64 (L.getD 5 0),.int .i64 (L.getD 6 0),.int .i64 (L.getD 7 0)]] h fun v_ h'=>∃ (ms_:Ms) (ob_:Obj),v_= .agg #[.int .i64 ((bestF (r.sts.drop i) L).1),.int .i64 ((bestF (r.sts.drop i) L).2)]∧MapK 9 ms_ ob_∧HInv r ms_∧HExt i kn ms_∧St h₀ B₀ p h' (([(bC,.cells #[.slice a r.room.length ca,.slice b r.sts.length cb,.func (.func 52) #[] #[],.map (some bM)] 136 (0,0)),(bM,ob_)]:Pcs)++(X₀++[])):=by
 refine xbv (Φ:=fun h_=>St h₀ B₀ p h_ (([(bC,.cells #[.slice a r.room.length ca,.slice b r.sts.length cb,.func (.func 52) #[] #[],.map (some bM)] 136 (0,0)),(bM,ob)]:Pcs)++(X₀++[]))) Tryz.func83 rfl (tm:=zq1 (zq2 (zq32 (zq32 (zq32 []))))) rfl ?_ s₀
 intro c₀ cs Stop K
 have hLl:=hL.1
 have hb8:=hB.1
 have hb6:=hB.2.2.1
 have hr:=fun z_:i<r.sts.length=>hB.rng z_
 refine fsr ?_
 refine xjq mn (v:=.agg #[.int .i64 (((i:Nat):Int)),.int .i64 (L.getD 0 0),.int .i64 (L.getD 1 0),.int .i64 (L.getD 2 0),.int .i64 (L.getD 3 0),.int .i64 (L.getD 4 0),.int .i64 (L.getD 5 0),.int .i64 (L.getD 6 0),.int .i64 (L.getD 7 0)]) rfl fun b1=>xcz (L':=([(b1,.cells #[.int .i64 (((i:Nat):Int)),.int .i64 (L.getD 0 0),.int .i64 (L.getD 1 0),.int .i64 (L.getD 2 0),.int .i64 (L.getD 3 0),.int .i64 (L.getD 4 0),.int .i64 (L.getD 5 0),.int .i64 (L.getD 6 0),.int .i64 (L.getD 7 0)] 132 (0,0)),(bC,.cells #[.slice a r.room.length ca,.slice b r.sts.length cb,.func (.func 52) #[] #[],.map (some bM)] 136 (0,0)),(bM,ob)]:Pcs)++(X₀++[])) rfl ?_
 refine xjj mn yox rfl fun b2=>xcz (L':=([(b2,.cells #[.int .i64 0,.int .i64 0] 138 (0,0)),(b1,.cells #[.int .i64 (((i:Nat):Int)),.int .i64 (L.getD 0 0),.int .i64 (L.getD 1 0),.int .i64 (L.getD 2 0),.int .i64 (L.getD 3 0),.int .i64 (L.getD 4 0),.int .i64 (L.getD 5 0),.int .i64 (L.getD 6 0),.int .i64 (L.getD 7 0)] 132 (0,0)),(bC,.cells #[.slice a r.room.length ca,.slice b r.sts.length cb,.func (.func 52) #[] #[],.map (some bM)] 136 (0,0)),(bM,ob)]:Pcs)++(X₀++[])) rfl ?_
 refine ren <| xbj ?_
 refine xhw 8 [[],[0],[],[2],[2,3],[2,3,4],[2,3,4,5],[2,3,4,5,6],[]] mixed (by kernel_rfl) (Nat.le_of_ble_eq_true rfl) ?_
 refine wo (xaw ykk rfl (a':=⟨b1,0,none⟩) rfl) ?_
 refine xfq mn (fun h_ H_=>xbx H_ tA3 rfl (i:=1) rfl (v:=.int .i64 (((i:Nat):Int))) rfl) (tm':=zq1 (zq2 (zq4 (zq8 _)))) rfl ?_
 refine wo (xax (v:=.pointer (some ⟨bC,0,none⟩)) rfl) <| wt (xkq rfl) (tm':=zq1 (zq16 _)) rfl <| wo (xaw yrk rfl (a':=⟨bC,0,none⟩) rfl) <| wt (xaw xoq rfl (a':=⟨bC,1,none⟩) rfl) (tm':=zq1 (zq2 (zq16 _))) rfl <| wd (fun h_ H_=>xbx H_ tA49 rfl (i:=2) rfl (v:=.slice b r.sts.length cb) rfl) <| wt (xfj Tryz.underlying49 rfl) (tm':=zq1 (zq4 (zq16 _))) rfl ?_
 refine xlq rfl ?_
 refine ro (xmj rfl rfl) <| xak ?_
 by_cases cc3:((i:Nat):Int)=((r.sts.length:Nat):Int)
 ·
  refine xcx rfl (dtt cc3) <| xbj ?_
  have ei_:i=r.sts.length:=by omega
  refine xav <| rt (xlj yox wcq (vs:=[]) rfl (cells:=#[.int .i64 0,.int .i64 0]) rfl) (tm':=zq1 (zq2 (zq4 (zq16 _)))) rfl ?_
  refine xfv mn ybq rfl (v:=.agg #[.int .i64 0,.int .i64 0]) rfl (i:=0) rfl rfl rfl (Nat.le_of_ble_eq_true rfl) (cs2:=[.int .i64 0,.int .i64 0]) rfl (xcz (L':=([(b2,.cells #[.int .i64 0,.int .i64 0] 138 (0,0)),(b1,.cells #[.int .i64 (((i:Nat):Int)),.int .i64 (L.getD 0 0),.int .i64 (L.getD 1 0),.int .i64 (L.getD 2 0),.int .i64 (L.getD 3 0),.int .i64 (L.getD 4 0),.int .i64 (L.getD 5 0),.int .i64 (L.getD 6 0),.int .i64 (L.getD 7 0)] 132 (0,0)),(bC,.cells #[.slice a r.room.length ca,.slice b r.sts.length cb,.func (.func 52) #[] #[],.map (some bM)] 136 (0,0)),(bM,ob)]:Pcs)++(X₀++[])) rfl ?_)
  refine xak ?_
  refine xcj Tryz.func83 rfl (vs:=[.agg #[.int .i64 0,.int .i64 0]]) (fun h_ H_=>⟨.agg #[.int .i64 0,.int .i64 0],_,rfl,(xbq (xbz (xij zok ybq (vs:=[.int .i64 0,.int .i64 0]) rfl (fun j_ v_ e_=>by rw [xjv];exact H_.ocell (i:=0) rfl (by simpa using e_)) ⟨rfl,rfl⟩))),rfl⟩) (v:=.agg #[.int .i64 0,.int .i64 0]) rfl ?_
  have ei_:i=r.sts.length:=by omega
  exact fun h_ H_=>K _ _ ⟨_,_,by rw [whk ei_],hM,hI,HExt.refl _ _,H_.drop.drop⟩
 ·
  refine xcv rfl (dff cc3) <| xdz <| xbj <| xbj ?_
  obtain ⟨Gb6,hG9_⟩:=sk1 (fun (v_:Value) (x_:Pcs) (b6:Nat)=>v_= .pointer (some ⟨b6,0,none⟩)∧x_=(([(b6,.cells #[.int .i64 0,.int .i64 0] 138 (0,0))]:Pcs)++[]))
  refine yoj (xqq (C:=[]) (A:=([(b2,.cells #[.int .i64 0,.int .i64 0] 138 (0,0)),(b1,.cells #[.int .i64 (((i:Nat):Int)),.int .i64 (L.getD 0 0),.int .i64 (L.getD 1 0),.int .i64 (L.getD 2 0),.int .i64 (L.getD 3 0),.int .i64 (L.getD 4 0),.int .i64 (L.getD 5 0),.int .i64 (L.getD 6 0),.int .i64 (L.getD 7 0)] 132 (0,0)),(bC,.cells #[.slice a r.room.length ca,.slice b r.sts.length cb,.func (.func 52) #[] #[],.map (some bM)] 136 (0,0)),(bM,ob)]:Pcs)) 11 [] [11] [11,10] [0,1,2,3,4,5,6,7,8] (fun i_=>match i_ with | 11=>X₀ | _=>[]) (fun i_=>match i_ with | 10=>[9] | _=>[]) (fun i_=>match i_ with | 0=>[] | 1=>[0] | 2=>[1] | 3=>[2] | 4=>[] | 5=>[3,4] | 6=>[5] | 7=>[6] | 8=>[6] | 9=>[] | 10=>[0,1,2,3,4,5,6,7,9] | _=>[]) (fun i_ val_ pc_ v_ x_=>match i_ with | 0=>v_= .pointer (some ⟨bC,0,none⟩)∧x_=[] | 1=>v_= .pointer (some ⟨bC,0,none⟩)∧x_=[] | 2=>v_= .pointer (some ⟨bC,3,none⟩)∧x_=[] | 3=>v_= .map (some bM)∧x_=[] | 4=>v_= .agg #[.int .i64 (((i:Nat):Int)),.int .i64 (L.getD 0 0),.int .i64 (L.getD 1 0),.int .i64 (L.getD 2 0),.int .i64 (L.getD 3 0),.int .i64 (L.getD 4 0),.int .i64 (L.getD 5 0),.int .i64 (L.getD 6 0),.int .i64 (L.getD 7 0)]∧x_=[] | 5=>v_= .tuple #[.agg #[.int .i64 (((findK kn (key i L)).getD (0,0)).1),.int .i64 (((findK kn (key i L)).getD (0,0)).2)],.bool ((findK kn (key i L)).isSome)]∧x_=[] | 6=>v_= .tuple #[.agg #[.int .i64 (((findK kn (key i L)).getD (0,0)).1),.int .i64 (((findK kn (key i L)).getD (0,0)).2)],.bool ((findK kn (key i L)).isSome)]∧x_=[] | 7=>v_= .agg #[.int .i64 (((findK kn (key i L)).getD (0,0)).1),.int .i64 (((findK kn (key i L)).getD (0,0)).2)]∧x_=[] | 8=>v_= .bool ((findK kn (key i L)).isSome)∧x_=[] | 9=>∃ b6:Nat,v_= .pointer (some ⟨b6,0,none⟩)∧x_=(([(b6,.cells #[.int .i64 0,.int .i64 0] 138 (0,0))]:Pcs)++[]) | 10=>v_=undef∧x_=[((Gb6 (val_ 9) (pc_ 9)),.cells #[.int .i64 (((findK kn (key i L)).getD (0,0)).1),.int .i64 (((findK kn (key i L)).getD (0,0)).2)] 138 (0,0))] | _=>True) (fun val4=>(.pointer (some ⟨bC,0,none⟩)::.agg #[.int .i64 (((i:Nat):Int)),.int .i64 (L.getD 0 0),.int .i64 (L.getD 1 0),.int .i64 (L.getD 2 0),.int .i64 (L.getD 3 0),.int .i64 (L.getD 4 0),.int .i64 (L.getD 5 0),.int .i64 (L.getD 6 0),.int .i64 (L.getD 7 0)]::undef::.pointer (some ⟨b1,0,none⟩)::.pointer (some ⟨b2,0,none⟩)::(val4 9)::undef::undef::undef::zu4 (.pointer (some ⟨b1,0,none⟩)::.int .i64 (((i:Nat):Int))::.pointer (some ⟨bC,0,none⟩)::.pointer (some ⟨bC,0,none⟩)::.pointer (some ⟨bC,0,none⟩)::.pointer (some ⟨bC,1,none⟩)::.slice b r.sts.length cb::.int .i64 (((r.sts.length:Nat):Int))::.bool (decide (((i:Nat):Int)=((r.sts.length:Nat):Int)))::undef::(val4 6)::(val4 0)::(val4 1)::(val4 2)::(val4 3)::(val4 4)::(val4 5)::(val4 7)::(val4 8)::undef::undef::undef::zu16 (zu16 (zu16 (zu16 [])))))) mixed (by kernel_rfl) (Nat.le_of_ble_eq_true rfl) (by kernel_rfl) (by kernel_rfl) (by kernel_rfl) (fun _ _=>⟨fun _ _ h=>h.2,⟨fun _ _ h=>h.2,⟨fun _ _ h=>h.2,⟨fun _ _ h=>h.2,⟨fun _ _ h=>h.2,⟨fun _ _ h=>h.2,⟨fun _ _ h=>h.2,⟨fun _ _ h=>h.2,⟨fun _ _ h=>h.2,trivial⟩⟩⟩⟩⟩⟩⟩⟩⟩) (fun _=>by kernel_rfl) (by kernel_rfl) ?_ ?_) (fun h_ H_=>St.swap (A:=([(b2,.cells #[.int .i64 0,.int .i64 0] 138 (0,0)),(b1,.cells #[.int .i64 (((i:Nat):Int)),.int .i64 (L.getD 0 0),.int .i64 (L.getD 1 0),.int .i64 (L.getD 2 0),.int .i64 (L.getD 3 0),.int .i64 (L.getD 4 0),.int .i64 (L.getD 5 0),.int .i64 (L.getD 6 0),.int .i64 (L.getD 7 0)] 132 (0,0)),(bC,.cells #[.slice a r.room.length ca,.slice b r.sts.length cb,.func (.func 52) #[] #[],.map (some bM)] 136 (0,0)),(bM,ob)]:Pcs)) (U:=(X₀++[])) H_)
  ·
   refine xcq rfl (xew ?_) ?_
   ·
    intro val4 pc5 hQ_ hX_
    obtain ⟨q_,hq0_⟩: ∃ q_:Value→Pcs→Prop,q_=(fun v_ x_=>v_= .pointer (some ⟨bC,0,none⟩)∧x_=[]):=⟨_,rfl⟩
    refine ⟨(zq1 (zq2 (zq32 (zq32 (zq32 []))))),[],q_,rfl,rfl,(fun _ _ z_=>by subst hq0_;exact z_),?_⟩
    subst hq0_
    exact xfx mn (fun _ h_ H_=>xax (v:=.pointer (some ⟨bC,0,none⟩)) rfl) ⟨rfl,rfl⟩
   refine xcq rfl (xew ?_) ?_
   ·
    intro val4 pc5 hQ_ hX_
    have e0_:val4 0= .pointer (some ⟨bC,0,none⟩):=(hQ_ 0 rfl).1
    obtain ⟨q_,hq0_⟩: ∃ q_:Value→Pcs→Prop,q_=(fun v_ x_=>v_= .pointer (some ⟨bC,0,none⟩)∧x_=[]):=⟨_,rfl⟩
    refine ⟨(zq1 (zq2 (zq32 (zq32 (zq32 []))))),[],q_,(by rw [e0_]),rfl,(fun _ _ z_=>by subst hq0_;exact z_),?_⟩
    subst hq0_
    exact xfx mn (fun _ h_ H_=>xkq rfl) ⟨rfl,rfl⟩
   refine xcq rfl (xew ?_) ?_
   ·
    intro val4 pc5 hQ_ hX_
    have e1_:val4 1= .pointer (some ⟨bC,0,none⟩):=(hQ_ 1 rfl).1
    obtain ⟨q_,hq0_⟩: ∃ q_:Value→Pcs→Prop,q_=(fun v_ x_=>v_= .pointer (some ⟨bC,3,none⟩)∧x_=[]):=⟨_,rfl⟩
    refine ⟨(zq1 (zq2 (zq32 (zq32 (zq32 []))))),[],q_,(by rw [e1_]),rfl,(fun _ _ z_=>by subst hq0_;exact z_),?_⟩
    subst hq0_
    exact xfx mn (fun _ h_ H_=>xaw zsj rfl (a':=⟨bC,3,none⟩) rfl) ⟨rfl,rfl⟩
   refine xcq rfl (xew ?_) ?_
   ·
    intro val4 pc5 hQ_ hX_
    have e2_:val4 2= .pointer (some ⟨bC,3,none⟩):=(hQ_ 2 rfl).1
    obtain ⟨q_,hq0_⟩: ∃ q_:Value→Pcs→Prop,q_=(fun v_ x_=>v_= .map (some bM)∧x_=[]):=⟨_,rfl⟩
    refine ⟨(zq1 (zq2 (zq32 (zq32 (zq32 []))))),[],q_,(by rw [e2_]),rfl,(fun _ _ z_=>by subst hq0_;exact z_),?_⟩
    subst hq0_
    exact xfx mn (fun _ h_ H_=>xbx H_ wqq rfl (i:=2) rfl (v:=.map (some bM)) rfl) ⟨rfl,rfl⟩
   refine xcq rfl (xew ?_) ?_
   ·
    intro val4 pc5 hQ_ hX_
    obtain ⟨q_,hq0_⟩: ∃ q_:Value→Pcs→Prop,q_=(fun v_ x_=>v_= .agg #[.int .i64 (((i:Nat):Int)),.int .i64 (L.getD 0 0),.int .i64 (L.getD 1 0),.int .i64 (L.getD 2 0),.int .i64 (L.getD 3 0),.int .i64 (L.getD 4 0),.int .i64 (L.getD 5 0),.int .i64 (L.getD 6 0),.int .i64 (L.getD 7 0)]∧x_=[]):=⟨_,rfl⟩
    refine ⟨(zq1 (zq2 (zq32 (zq32 (zq32 []))))),[],q_,rfl,rfl,(fun _ _ z_=>by subst hq0_;exact z_),?_⟩
    subst hq0_
    exact xfx mn (fun _ h_ H_=>xbk H_ yoz ybx rfl (i:=1) rfl (vs:=[.int .i64 (((i:Nat):Int)),.int .i64 (L.getD 0 0),.int .i64 (L.getD 1 0),.int .i64 (L.getD 2 0),.int .i64 (L.getD 3 0),.int .i64 (L.getD 4 0),.int .i64 (L.getD 5 0),.int .i64 (L.getD 6 0),.int .i64 (L.getD 7 0)]) rfl rfl) ⟨rfl,rfl⟩
   refine xcq rfl (xew ?_) ?_
   ·
    intro val4 pc5 hQ_ hX_
    have e3_:val4 3= .map (some bM):=(hQ_ 3 rfl).1
    have e4_:val4 4= .agg #[.int .i64 (((i:Nat):Int)),.int .i64 (L.getD 0 0),.int .i64 (L.getD 1 0),.int .i64 (L.getD 2 0),.int .i64 (L.getD 3 0),.int .i64 (L.getD 4 0),.int .i64 (L.getD 5 0),.int .i64 (L.getD 6 0),.int .i64 (L.getD 7 0)]:=(hQ_ 4 rfl).1
    obtain ⟨q_,hq0_⟩: ∃ q_:Value→Pcs→Prop,q_=(fun v_ x_=>v_= .tuple #[.agg #[.int .i64 (((findK kn (key i L)).getD (0,0)).1),.int .i64 (((findK kn (key i L)).getD (0,0)).2)],.bool ((findK kn (key i L)).isSome)]∧x_=[]):=⟨_,rfl⟩
    refine ⟨(zq1 (zq2 (zq32 (zq32 (zq32 []))))),[],q_,(by rw [e3_,e4_]),rfl,(fun _ _ z_=>by subst hq0_;exact z_),?_⟩
    subst hq0_
    exact xfx mn (fun _ h_ H_=>zgk (k:=(key i L)) zxq rfl H_ (i:=3) rfl hM Tryz.underlying134 yox rfl rfl (v:=.tuple #[.agg #[.int .i64 (((findK kn (key i L)).getD (0,0)).1),.int .i64 (((findK kn (key i L)).getD (0,0)).2)],.bool ((findK kn (key i L)).isSome)]) rfl) ⟨rfl,rfl⟩
   refine xcq rfl (xew ?_) ?_
   ·
    intro val4 pc5 hQ_ hX_
    have e5_:val4 5= .tuple #[.agg #[.int .i64 (((findK kn (key i L)).getD (0,0)).1),.int .i64 (((findK kn (key i L)).getD (0,0)).2)],.bool ((findK kn (key i L)).isSome)]:=(hQ_ 5 rfl).1
    obtain ⟨q_,hq0_⟩: ∃ q_:Value→Pcs→Prop,q_=(fun v_ x_=>v_= .tuple #[.agg #[.int .i64 (((findK kn (key i L)).getD (0,0)).1),.int .i64 (((findK kn (key i L)).getD (0,0)).2)],.bool ((findK kn (key i L)).isSome)]∧x_=[]):=⟨_,rfl⟩
    refine ⟨(zq1 (zq2 (zq32 (zq32 (zq32 []))))),[],q_,(by rw [e5_]),rfl,(fun _ _ z_=>by subst hq0_;exact z_),?_⟩
    subst hq0_
    exact xfx mn (fun _ h_ H_=>xax (v:=.tuple #[.agg #[.int .i64 (((findK kn (key i L)).getD (0,0)).1),.int .i64 (((findK kn (key i L)).getD (0,0)).2)],.bool ((findK kn (key i L)).isSome)]) rfl) ⟨rfl,rfl⟩
   refine xcq rfl (xew ?_) ?_
   ·
    intro val4 pc5 hQ_ hX_
    have e6_:val4 6= .tuple #[.agg #[.int .i64 (((findK kn (key i L)).getD (0,0)).1),.int .i64 (((findK kn (key i L)).getD (0,0)).2)],.bool ((findK kn (key i L)).isSome)]:=(hQ_ 6 rfl).1
    obtain ⟨q_,hq0_⟩: ∃ q_:Value→Pcs→Prop,q_=(fun v_ x_=>v_= .agg #[.int .i64 (((findK kn (key i L)).getD (0,0)).1),.int .i64 (((findK kn (key i L)).getD (0,0)).2)]∧x_=[]):=⟨_,rfl⟩
    refine ⟨(zq1 (zq2 (zq32 (zq32 (zq32 []))))),[],q_,(by rw [e6_]),rfl,(fun _ _ z_=>by subst hq0_;exact z_),?_⟩
    subst hq0_
    exact xfx mn (fun _ h_ H_=>xdw rfl (v:=.agg #[.int .i64 (((findK kn (key i L)).getD (0,0)).1),.int .i64 (((findK kn (key i L)).getD (0,0)).2)]) rfl) ⟨rfl,rfl⟩
   refine xcq rfl (xew ?_) ?_
   ·
    intro val4 pc5 hQ_ hX_
    have e6_:val4 6= .tuple #[.agg #[.int .i64 (((findK kn (key i L)).getD (0,0)).1),.int .i64 (((findK kn (key i L)).getD (0,0)).2)],.bool ((findK kn (key i L)).isSome)]:=(hQ_ 6 rfl).1
    obtain ⟨q_,hq0_⟩: ∃ q_:Value→Pcs→Prop,q_=(fun v_ x_=>v_= .bool ((findK kn (key i L)).isSome)∧x_=[]):=⟨_,rfl⟩
    refine ⟨(zq1 (zq2 (zq32 (zq32 (zq32 []))))),[],q_,(by rw [e6_]),rfl,(fun _ _ z_=>by subst hq0_;exact z_),?_⟩
    subst hq0_
    exact xfx mn (fun _ h_ H_=>xdw rfl (v:=.bool ((findK kn (key i L)).isSome)) rfl) ⟨rfl,rfl⟩
   refine xcq rfl (xew ?_) ?_
   ·
    intro val4 pc5 hQ_ hX_
    obtain ⟨q_,hq0_⟩: ∃ q_:Value→Pcs→Prop,q_=(fun v_ x_=>∃ b6:Nat,v_= .pointer (some ⟨b6,0,none⟩)∧x_=(([(b6,.cells #[.int .i64 0,.int .i64 0] 138 (0,0))]:Pcs)++[])):=⟨_,rfl⟩
    refine ⟨(zq1 (zq2 (zq32 (zq32 (zq32 []))))),[],q_,rfl,rfl,(fun _ _ z_=>by subst hq0_;exact z_),?_⟩
    subst hq0_
    exact ydx mn yox rfl fun b_=>⟨b_,rfl,rfl⟩
   refine xcq rfl (xew ?_) ?_
   ·
    intro val4 pc5 hQ_ hX_
    have e0_:val4 0= .pointer (some ⟨bC,0,none⟩):=(hQ_ 0 rfl).1
    have e1_:val4 1= .pointer (some ⟨bC,0,none⟩):=(hQ_ 1 rfl).1
    have e2_:val4 2= .pointer (some ⟨bC,3,none⟩):=(hQ_ 2 rfl).1
    have e3_:val4 3= .map (some bM):=(hQ_ 3 rfl).1
    have e4_:val4 4= .agg #[.int .i64 (((i:Nat):Int)),.int .i64 (L.getD 0 0),.int .i64 (L.getD 1 0),.int .i64 (L.getD 2 0),.int .i64 (L.getD 3 0),.int .i64 (L.getD 4 0),.int .i64 (L.getD 5 0),.int .i64 (L.getD 6 0),.int .i64 (L.getD 7 0)]:=(hQ_ 4 rfl).1
    have e5_:val4 5= .tuple #[.agg #[.int .i64 (((findK kn (key i L)).getD (0,0)).1),.int .i64 (((findK kn (key i L)).getD (0,0)).2)],.bool ((findK kn (key i L)).isSome)]:=(hQ_ 5 rfl).1
    have e6_:val4 6= .tuple #[.agg #[.int .i64 (((findK kn (key i L)).getD (0,0)).1),.int .i64 (((findK kn (key i L)).getD (0,0)).2)],.bool ((findK kn (key i L)).isSome)]:=(hQ_ 6 rfl).1
    have e7_:val4 7= .agg #[.int .i64 (((findK kn (key i L)).getD (0,0)).1),.int .i64 (((findK kn (key i L)).getD (0,0)).2)]:=(hQ_ 7 rfl).1
    obtain ⟨e9_,x9_⟩:=hG9_ _ _ (hQ_ 9 rfl)
    generalize hg_b6:Gb6 (val4 9) (pc5 9)=b6 at*
    obtain ⟨q_,hq0_⟩: ∃ q_:Value→Pcs→Prop,q_=(fun v_ x_=>v_=undef∧x_=[(b6,.cells #[.int .i64 (((findK kn (key i L)).getD (0,0)).1),.int .i64 (((findK kn (key i L)).getD (0,0)).2)] 138 (0,0))]):=⟨_,rfl⟩
    refine ⟨(zq1 (zq2 (zq32 (zq32 (zq32 []))))),((([(b6,.cells #[.int .i64 0,.int .i64 0] 138 (0,0))]:Pcs)++[])++[]),q_,(by rw [e0_,e1_,e2_,e3_,e4_,e5_,e6_,e7_,e9_]),(by rw [← x9_];rfl),(fun _ _ z_=>by subst hq0_ hg_b6;exact z_),?_⟩
    subst hq0_
    exact zwq mn ybq rfl (v:=.agg #[.int .i64 (((findK kn (key i L)).getD (0,0)).1),.int .i64 (((findK kn (key i L)).getD (0,0)).2)]) rfl rfl rfl (Nat.le_of_ble_eq_true rfl) (cs2:=[.int .i64 (((findK kn (key i L)).getD (0,0)).1),.int .i64 (((findK kn (key i L)).getD (0,0)).2)]) rfl ⟨rfl,rfl⟩
   exact xpk rfl
  intro val4 pc5 hQ_ hX_
  have e0_:val4 0= .pointer (some ⟨bC,0,none⟩):=(hQ_ 0 (by decide)).1
  have e1_:val4 1= .pointer (some ⟨bC,0,none⟩):=(hQ_ 1 (by decide)).1
  have e2_:val4 2= .pointer (some ⟨bC,3,none⟩):=(hQ_ 2 (by decide)).1
  have e3_:val4 3= .map (some bM):=(hQ_ 3 (by decide)).1
  have e4_:val4 4= .agg #[.int .i64 (((i:Nat):Int)),.int .i64 (L.getD 0 0),.int .i64 (L.getD 1 0),.int .i64 (L.getD 2 0),.int .i64 (L.getD 3 0),.int .i64 (L.getD 4 0),.int .i64 (L.getD 5 0),.int .i64 (L.getD 6 0),.int .i64 (L.getD 7 0)]:=(hQ_ 4 (by decide)).1
  have e5_:val4 5= .tuple #[.agg #[.int .i64 (((findK kn (key i L)).getD (0,0)).1),.int .i64 (((findK kn (key i L)).getD (0,0)).2)],.bool ((findK kn (key i L)).isSome)]:=(hQ_ 5 (by decide)).1
  have e6_:val4 6= .tuple #[.agg #[.int .i64 (((findK kn (key i L)).getD (0,0)).1),.int .i64 (((findK kn (key i L)).getD (0,0)).2)],.bool ((findK kn (key i L)).isSome)]:=(hQ_ 6 (by decide)).1
  have e7_:val4 7= .agg #[.int .i64 (((findK kn (key i L)).getD (0,0)).1),.int .i64 (((findK kn (key i L)).getD (0,0)).2)]:=(hQ_ 7 (by decide)).1
  have e8_:val4 8= .bool ((findK kn (key i L)).isSome):=(hQ_ 8 (by decide)).1
  obtain ⟨e9_,x9_⟩:=hG9_ _ _ (hQ_ 9 (by decide))
  have x10_:pc5 10=[((Gb6 (val4 9) (pc5 9)),.cells #[.int .i64 (((findK kn (key i L)).getD (0,0)).1),.int .i64 (((findK kn (key i L)).getD (0,0)).2)] 138 (0,0))]:=(hQ_ 10 (by decide)).2
  have x11_:pc5 11=X₀:=hX_ 11 (by decide)
  clear hQ_ hX_
  generalize Gb6 (val4 9) (pc5 9)=b6 at*
  refine yok (Φ:=fun h_=>St h₀ B₀ p h_ (([(b2,.cells #[.int .i64 0,.int .i64 0] 138 (0,0)),(b1,.cells #[.int .i64 (((i:Nat):Int)),.int .i64 (L.getD 0 0),.int .i64 (L.getD 1 0),.int .i64 (L.getD 2 0),.int .i64 (L.getD 3 0),.int .i64 (L.getD 4 0),.int .i64 (L.getD 5 0),.int .i64 (L.getD 6 0),.int .i64 (L.getD 7 0)] 132 (0,0)),(bC,.cells #[.slice a r.room.length ca,.slice b r.sts.length cb,.func (.func 52) #[] #[],.map (some bM)] 136 (0,0)),(bM,ob)]:Pcs)++(pc5 11++(pc5 10++[])))) ?_ (fun h_ H_=>H_.swap')
  rw [x11_,x10_]
  refine xfz (tm':=(zq1 (zq2 (zq32 (zq32 (zq32 [])))))) (by rw [e0_,e1_,e2_,e3_,e4_,e5_,e6_,e7_,e8_,e9_]) ?_
  refine xcz (L':=([(b2,.cells #[.int .i64 0,.int .i64 0] 138 (0,0)),(b1,.cells #[.int .i64 (((i:Nat):Int)),.int .i64 (L.getD 0 0),.int .i64 (L.getD 1 0),.int .i64 (L.getD 2 0),.int .i64 (L.getD 3 0),.int .i64 (L.getD 4 0),.int .i64 (L.getD 5 0),.int .i64 (L.getD 6 0),.int .i64 (L.getD 7 0)] 132 (0,0)),(bC,.cells #[.slice a r.room.length ca,.slice b r.sts.length cb,.func (.func 52) #[] #[],.map (some bM)] 136 (0,0)),(bM,ob)]:Pcs)++(X₀++(([(b6,.cells #[.int .i64 (((findK kn (key i L)).getD (0,0)).1),.int .i64 (((findK kn (key i L)).getD (0,0)).2)] 138 (0,0))]:Pcs)++[]))) rfl ?_
  refine xjw (List.Perm.append_left _ (List.perm_append_comm_assoc _ _ _)) ?_
  refine xcz (L':=([(b2,.cells #[.int .i64 0,.int .i64 0] 138 (0,0)),(b1,.cells #[.int .i64 (((i:Nat):Int)),.int .i64 (L.getD 0 0),.int .i64 (L.getD 1 0),.int .i64 (L.getD 2 0),.int .i64 (L.getD 3 0),.int .i64 (L.getD 4 0),.int .i64 (L.getD 5 0),.int .i64 (L.getD 6 0),.int .i64 (L.getD 7 0)] 132 (0,0)),(bC,.cells #[.slice a r.room.length ca,.slice b r.sts.length cb,.func (.func 52) #[] #[],.map (some bM)] 136 (0,0)),(bM,ob)]:Pcs)++(([(b6,.cells #[.int .i64 (((findK kn (key i L)).getD (0,0)).1),.int .i64 (((findK kn (key i L)).getD (0,0)).2)] 138 (0,0))]:Pcs)++(X₀++[]))) rfl ?_
  refine xjw (List.perm_append_comm_assoc ([(b2,.cells #[.int .i64 0,.int .i64 0] 138 (0,0)),(b1,.cells #[.int .i64 (((i:Nat):Int)),.int .i64 (L.getD 0 0),.int .i64 (L.getD 1 0),.int .i64 (L.getD 2 0),.int .i64 (L.getD 3 0),.int .i64 (L.getD 4 0),.int .i64 (L.getD 5 0),.int .i64 (L.getD 6 0),.int .i64 (L.getD 7 0)] 132 (0,0)),(bC,.cells #[.slice a r.room.length ca,.slice b r.sts.length cb,.func (.func 52) #[] #[],.map (some bM)] 136 (0,0)),(bM,ob)]:Pcs) ([(b6,.cells #[.int .i64 (((findK kn (key i L)).getD (0,0)).1),.int .i64 (((findK kn (key i L)).getD (0,0)).2)] 138 (0,0))]:Pcs) _) ?_
  refine xcz (L':=([(b6,.cells #[.int .i64 (((findK kn (key i L)).getD (0,0)).1),.int .i64 (((findK kn (key i L)).getD (0,0)).2)] 138 (0,0)),(b2,.cells #[.int .i64 0,.int .i64 0] 138 (0,0)),(b1,.cells #[.int .i64 (((i:Nat):Int)),.int .i64 (L.getD 0 0),.int .i64 (L.getD 1 0),.int .i64 (L.getD 2 0),.int .i64 (L.getD 3 0),.int .i64 (L.getD 4 0),.int .i64 (L.getD 5 0),.int .i64 (L.getD 6 0),.int .i64 (L.getD 7 0)] 132 (0,0)),(bC,.cells #[.slice a r.room.length ca,.slice b r.sts.length cb,.func (.func 52) #[] #[],.map (some bM)] 136 (0,0)),(bM,ob)]:Pcs)++(X₀++[])) rfl ?_
  refine ro (xaq (v:=.bool ((findK kn (key i L)).isSome)) rfl) <| ren <| xav <| ro (xax (v:=.bool ((findK kn (key i L)).isSome)) rfl) <| xak ?_
  rcases xtx ((findK kn (key i L)).isSome) with cc9 | cc9
  ·
   refine xcx rfl cc9 <| fsr ?_
   refine xaj mn (fun h_ H_=>xbk H_ zok ybq rfl (i:=0) rfl (vs:=[.int .i64 (((findK kn (key i L)).getD (0,0)).1),.int .i64 (((findK kn (key i L)).getD (0,0)).2)]) rfl rfl) (tm':=zq2 (zq32 _)) rfl ?_
   refine xfv mn ybq rfl (v:=.agg #[.int .i64 (((findK kn (key i L)).getD (0,0)).1),.int .i64 (((findK kn (key i L)).getD (0,0)).2)]) rfl (i:=1) rfl rfl rfl (Nat.le_of_ble_eq_true rfl) (cs2:=[.int .i64 (((findK kn (key i L)).getD (0,0)).1),.int .i64 (((findK kn (key i L)).getD (0,0)).2)]) rfl (xcz (L':=([(b6,.cells #[.int .i64 (((findK kn (key i L)).getD (0,0)).1),.int .i64 (((findK kn (key i L)).getD (0,0)).2)] 138 (0,0)),(b2,.cells #[.int .i64 (((findK kn (key i L)).getD (0,0)).1),.int .i64 (((findK kn (key i L)).getD (0,0)).2)] 138 (0,0)),(b1,.cells #[.int .i64 (((i:Nat):Int)),.int .i64 (L.getD 0 0),.int .i64 (L.getD 1 0),.int .i64 (L.getD 2 0),.int .i64 (L.getD 3 0),.int .i64 (L.getD 4 0),.int .i64 (L.getD 5 0),.int .i64 (L.getD 6 0),.int .i64 (L.getD 7 0)] 132 (0,0)),(bC,.cells #[.slice a r.room.length ca,.slice b r.sts.length cb,.func (.func 52) #[] #[],.map (some bM)] 136 (0,0)),(bM,ob)]:Pcs)++(X₀++[])) rfl ?_)
   refine xak ?_
   refine xcj Tryz.func83 rfl (vs:=[.agg #[.int .i64 (((findK kn (key i L)).getD (0,0)).1),.int .i64 (((findK kn (key i L)).getD (0,0)).2)]]) (fun h_ H_=>⟨.agg #[.int .i64 (((findK kn (key i L)).getD (0,0)).1),.int .i64 (((findK kn (key i L)).getD (0,0)).2)],_,rfl,(xbq (xbz (xij zok ybq (vs:=[.int .i64 (((findK kn (key i L)).getD (0,0)).1),.int .i64 (((findK kn (key i L)).getD (0,0)).2)]) rfl (fun j_ v_ e_=>by rw [xjv];exact H_.ocell (i:=1) rfl (by simpa using e_)) ⟨rfl,rfl⟩))),rfl⟩) (v:=.agg #[.int .i64 (((findK kn (key i L)).getD (0,0)).1),.int .i64 (((findK kn (key i L)).getD (0,0)).2)]) rfl ?_
   exact fun h_ H_=>K _ _ ⟨_,_,by rw [hI.hit hL.1 hB.1 (by assumption)],hM,hI,HExt.refl _ _,H_.drop.drop.drop⟩
  ·
   refine xcv rfl cc9 <| xdz <| fsr <| ro (xlj yox wcq (vs:=[(1,.int .i64 (-1))]) rfl (cells:=#[.int .i64 0,.int .i64 (-1)]) rfl) ?_
   refine xjj mn yox rfl fun b10=>xcz (L':=([(b10,.cells #[.int .i64 0,.int .i64 0] 138 (0,0)),(b6,.cells #[.int .i64 (((findK kn (key i L)).getD (0,0)).1),.int .i64 (((findK kn (key i L)).getD (0,0)).2)] 138 (0,0)),(b2,.cells #[.int .i64 0,.int .i64 0] 138 (0,0)),(b1,.cells #[.int .i64 (((i:Nat):Int)),.int .i64 (L.getD 0 0),.int .i64 (L.getD 1 0),.int .i64 (L.getD 2 0),.int .i64 (L.getD 3 0),.int .i64 (L.getD 4 0),.int .i64 (L.getD 5 0),.int .i64 (L.getD 6 0),.int .i64 (L.getD 7 0)] 132 (0,0)),(bC,.cells #[.slice a r.room.length ca,.slice b r.sts.length cb,.func (.func 52) #[] #[],.map (some bM)] 136 (0,0)),(bM,ob)]:Pcs)++(X₀++[])) rfl ?_
   refine xfv mn ybq rfl (v:=.agg #[.int .i64 0,.int .i64 (-1)]) rfl (i:=0) rfl rfl rfl (Nat.le_of_ble_eq_true rfl) (cs2:=[.int .i64 0,.int .i64 (-1)]) rfl (xcz (L':=([(b10,.cells #[.int .i64 0,.int .i64 (-1)] 138 (0,0)),(b6,.cells #[.int .i64 (((findK kn (key i L)).getD (0,0)).1),.int .i64 (((findK kn (key i L)).getD (0,0)).2)] 138 (0,0)),(b2,.cells #[.int .i64 0,.int .i64 0] 138 (0,0)),(b1,.cells #[.int .i64 (((i:Nat):Int)),.int .i64 (L.getD 0 0),.int .i64 (L.getD 1 0),.int .i64 (L.getD 2 0),.int .i64 (L.getD 3 0),.int .i64 (L.getD 4 0),.int .i64 (L.getD 5 0),.int .i64 (L.getD 6 0),.int .i64 (L.getD 7 0)] 132 (0,0)),(bC,.cells #[.slice a r.room.length ca,.slice b r.sts.length cb,.func (.func 52) #[] #[],.map (some bM)] 136 (0,0)),(bM,ob)]:Pcs)++(X₀++[])) rfl ?_)
   refine ren ?_
   obtain ⟨Gb13,hG9_⟩:=sk1 (fun (v_:Value) (x_:Pcs) (b13:Nat)=>v_= .pointer (some ⟨b13,0,none⟩)∧x_=(([(b13,.cells #[.int .i64 0,.int .i64 0,.int .i64 0,.int .i64 0] 91 (0,0))]:Pcs)++[]))
   refine yoj (xqq (C:=[]) (A:=([(b10,.cells #[.int .i64 0,.int .i64 (-1)] 138 (0,0)),(b6,.cells #[.int .i64 (((findK kn (key i L)).getD (0,0)).1),.int .i64 (((findK kn (key i L)).getD (0,0)).2)] 138 (0,0)),(b2,.cells #[.int .i64 0,.int .i64 0] 138 (0,0)),(b1,.cells #[.int .i64 (((i:Nat):Int)),.int .i64 (L.getD 0 0),.int .i64 (L.getD 1 0),.int .i64 (L.getD 2 0),.int .i64 (L.getD 3 0),.int .i64 (L.getD 4 0),.int .i64 (L.getD 5 0),.int .i64 (L.getD 6 0),.int .i64 (L.getD 7 0)] 132 (0,0)),(bC,.cells #[.slice a r.room.length ca,.slice b r.sts.length cb,.func (.func 52) #[] #[],.map (some bM)] 136 (0,0)),(bM,ob)]:Pcs)) 10 [] [10] [10,9] [0,1,2,3,4,5,6,7,8] (fun i_=>match i_ with | 10=>X₀ | _=>[]) (fun _=>[]) (fun i_=>match i_ with | 0=>[] | 1=>[0] | 2=>[1] | 3=>[2] | 4=>[3] | 5=>[] | 6=>[5] | 7=>[4,6] | 8=>[7] | 9=>[] | _=>[]) (fun i_ val_ pc_ v_ x_=>match i_ with | 0=>v_= .pointer (some ⟨bC,0,none⟩)∧x_=[] | 1=>v_= .pointer (some ⟨bC,0,none⟩)∧x_=[] | 2=>v_= .pointer (some ⟨bC,0,none⟩)∧x_=[] | 3=>v_= .pointer (some ⟨bC,1,none⟩)∧x_=[] | 4=>v_= .slice b r.sts.length cb∧x_=[] | 5=>v_= .pointer (some ⟨b1,0,none⟩)∧x_=[] | 6=>v_= .int .i64 (((i:Nat):Int))∧x_=[] | 7=>v_= .pointer (some ((adr b).add (i*4)))∧x_=[] | 8=>v_= .agg #[.int .i64 ((r.sts.getD i sz).has),.int .i64 ((r.sts.getD i sz).lo),.int .i64 ((r.sts.getD i sz).hi),.int .i64 ((r.sts.getD i sz).cost)]∧x_=[] | 9=>∃ b13:Nat,v_= .pointer (some ⟨b13,0,none⟩)∧x_=(([(b13,.cells #[.int .i64 0,.int .i64 0,.int .i64 0,.int .i64 0] 91 (0,0))]:Pcs)++[]) | _=>True) (fun val11=>(.pointer (some ⟨bC,0,none⟩)::.agg #[.int .i64 (((i:Nat):Int)),.int .i64 (L.getD 0 0),.int .i64 (L.getD 1 0),.int .i64 (L.getD 2 0),.int .i64 (L.getD 3 0),.int .i64 (L.getD 4 0),.int .i64 (L.getD 5 0),.int .i64 (L.getD 6 0),.int .i64 (L.getD 7 0)]::undef::.pointer (some ⟨b1,0,none⟩)::.pointer (some ⟨b2,0,none⟩)::.pointer (some ⟨b6,0,none⟩)::.bool ((findK kn (key i L)).isSome)::.pointer (some ⟨b10,0,none⟩)::(val11 9)::zu4 (.pointer (some ⟨b1,0,none⟩)::.int .i64 (((i:Nat):Int))::.pointer (some ⟨bC,0,none⟩)::.pointer (some ⟨bC,0,none⟩)::.pointer (some ⟨bC,0,none⟩)::.pointer (some ⟨bC,1,none⟩)::.slice b r.sts.length cb::.int .i64 (((r.sts.length:Nat):Int))::.bool (decide (((i:Nat):Int)=((r.sts.length:Nat):Int)))::undef::.tuple #[.agg #[.int .i64 (((findK kn (key i L)).getD (0,0)).1),.int .i64 (((findK kn (key i L)).getD (0,0)).2)],.bool ((findK kn (key i L)).isSome)]::.pointer (some ⟨bC,0,none⟩)::.pointer (some ⟨bC,0,none⟩)::.pointer (some ⟨bC,3,none⟩)::.map (some bM)::.agg #[.int .i64 (((i:Nat):Int)),.int .i64 (L.getD 0 0),.int .i64 (L.getD 1 0),.int .i64 (L.getD 2 0),.int .i64 (L.getD 3 0),.int .i64 (L.getD 4 0),.int .i64 (L.getD 5 0),.int .i64 (L.getD 6 0),.int .i64 (L.getD 7 0)]::.tuple #[.agg #[.int .i64 (((findK kn (key i L)).getD (0,0)).1),.int .i64 (((findK kn (key i L)).getD (0,0)).2)],.bool ((findK kn (key i L)).isSome)]::.agg #[.int .i64 (((findK kn (key i L)).getD (0,0)).1),.int .i64 (((findK kn (key i L)).getD (0,0)).2)]::.bool ((findK kn (key i L)).isSome)::.bool ((findK kn (key i L)).isSome)::undef::.agg #[.int .i64 0,.int .i64 (-1)]::(val11 0)::(val11 1)::(val11 2)::(val11 3)::(val11 4)::(val11 5)::(val11 6)::(val11 7)::(val11 8)::undef::undef::undef::zu4 (zu16 (zu16 (zu16 [])))))) mixed (by kernel_rfl) (Nat.le_of_ble_eq_true rfl) (by kernel_rfl) (by kernel_rfl) (by kernel_rfl) (fun _ _=>⟨fun _ _ h=>h.2,⟨fun _ _ h=>h.2,⟨fun _ _ h=>h.2,⟨fun _ _ h=>h.2,⟨fun _ _ h=>h.2,⟨fun _ _ h=>h.2,⟨fun _ _ h=>h.2,⟨fun _ _ h=>h.2,⟨fun _ _ h=>h.2,trivial⟩⟩⟩⟩⟩⟩⟩⟩⟩) (fun _=>by kernel_rfl) (by kernel_rfl) ?_ ?_) (fun h_ H_=>St.swap (A:=([(b10,.cells #[.int .i64 0,.int .i64 (-1)] 138 (0,0)),(b6,.cells #[.int .i64 (((findK kn (key i L)).getD (0,0)).1),.int .i64 (((findK kn (key i L)).getD (0,0)).2)] 138 (0,0)),(b2,.cells #[.int .i64 0,.int .i64 0] 138 (0,0)),(b1,.cells #[.int .i64 (((i:Nat):Int)),.int .i64 (L.getD 0 0),.int .i64 (L.getD 1 0),.int .i64 (L.getD 2 0),.int .i64 (L.getD 3 0),.int .i64 (L.getD 4 0),.int .i64 (L.getD 5 0),.int .i64 (L.getD 6 0),.int .i64 (L.getD 7 0)] 132 (0,0)),(bC,.cells #[.slice a r.room.length ca,.slice b r.sts.length cb,.func (.func 52) #[] #[],.map (some bM)] 136 (0,0)),(bM,ob)]:Pcs)) (U:=(X₀++[])) H_)
   ·
    refine xcq rfl (xew ?_) ?_
    ·
     intro val11 pc12 hQ_ hX_
     obtain ⟨q_,hq0_⟩: ∃ q_:Value→Pcs→Prop,q_=(fun v_ x_=>v_= .pointer (some ⟨bC,0,none⟩)∧x_=[]):=⟨_,rfl⟩
     refine ⟨(zq1 (zq2 (zq32 (zq32 (zq32 []))))),[],q_,rfl,rfl,(fun _ _ z_=>by subst hq0_;exact z_),?_⟩
     subst hq0_
     exact xfx mn (fun _ h_ H_=>xax (v:=.pointer (some ⟨bC,0,none⟩)) rfl) ⟨rfl,rfl⟩
    refine xcq rfl (xew ?_) ?_
    ·
     intro val11 pc12 hQ_ hX_
     have e0_:val11 0= .pointer (some ⟨bC,0,none⟩):=(hQ_ 0 rfl).1
     obtain ⟨q_,hq0_⟩: ∃ q_:Value→Pcs→Prop,q_=(fun v_ x_=>v_= .pointer (some ⟨bC,0,none⟩)∧x_=[]):=⟨_,rfl⟩
     refine ⟨(zq1 (zq2 (zq32 (zq32 (zq32 []))))),[],q_,(by rw [e0_]),rfl,(fun _ _ z_=>by subst hq0_;exact z_),?_⟩
     subst hq0_
     exact xfx mn (fun _ h_ H_=>xkq rfl) ⟨rfl,rfl⟩
    refine xcq rfl (xew ?_) ?_
    ·
     intro val11 pc12 hQ_ hX_
     have e1_:val11 1= .pointer (some ⟨bC,0,none⟩):=(hQ_ 1 rfl).1
     obtain ⟨q_,hq0_⟩: ∃ q_:Value→Pcs→Prop,q_=(fun v_ x_=>v_= .pointer (some ⟨bC,0,none⟩)∧x_=[]):=⟨_,rfl⟩
     refine ⟨(zq1 (zq2 (zq32 (zq32 (zq32 []))))),[],q_,(by rw [e1_]),rfl,(fun _ _ z_=>by subst hq0_;exact z_),?_⟩
     subst hq0_
     exact xfx mn (fun _ h_ H_=>xaw yrk rfl (a':=⟨bC,0,none⟩) rfl) ⟨rfl,rfl⟩
    refine xcq rfl (xew ?_) ?_
    ·
     intro val11 pc12 hQ_ hX_
     have e2_:val11 2= .pointer (some ⟨bC,0,none⟩):=(hQ_ 2 rfl).1
     obtain ⟨q_,hq0_⟩: ∃ q_:Value→Pcs→Prop,q_=(fun v_ x_=>v_= .pointer (some ⟨bC,1,none⟩)∧x_=[]):=⟨_,rfl⟩
     refine ⟨(zq1 (zq2 (zq32 (zq32 (zq32 []))))),[],q_,(by rw [e2_]),rfl,(fun _ _ z_=>by subst hq0_;exact z_),?_⟩
     subst hq0_
     exact xfx mn (fun _ h_ H_=>xaw xoq rfl (a':=⟨bC,1,none⟩) rfl) ⟨rfl,rfl⟩
    refine xcq rfl (xew ?_) ?_
    ·
     intro val11 pc12 hQ_ hX_
     have e3_:val11 3= .pointer (some ⟨bC,1,none⟩):=(hQ_ 3 rfl).1
     obtain ⟨q_,hq0_⟩: ∃ q_:Value→Pcs→Prop,q_=(fun v_ x_=>v_= .slice b r.sts.length cb∧x_=[]):=⟨_,rfl⟩
     refine ⟨(zq1 (zq2 (zq32 (zq32 (zq32 []))))),[],q_,(by rw [e3_]),rfl,(fun _ _ z_=>by subst hq0_;exact z_),?_⟩
     subst hq0_
     exact xfx mn (fun _ h_ H_=>xbx H_ tA49 rfl (i:=4) rfl (v:=.slice b r.sts.length cb) rfl) ⟨rfl,rfl⟩
    refine xcq rfl (xew ?_) ?_
    ·
     intro val11 pc12 hQ_ hX_
     obtain ⟨q_,hq0_⟩: ∃ q_:Value→Pcs→Prop,q_=(fun v_ x_=>v_= .pointer (some ⟨b1,0,none⟩)∧x_=[]):=⟨_,rfl⟩
     refine ⟨(zq1 (zq2 (zq32 (zq32 (zq32 []))))),[],q_,rfl,rfl,(fun _ _ z_=>by subst hq0_;exact z_),?_⟩
     subst hq0_
     exact xfx mn (fun _ h_ H_=>xaw ykk rfl (a':=⟨b1,0,none⟩) rfl) ⟨rfl,rfl⟩
    refine xcq rfl (xew ?_) ?_
    ·
     intro val11 pc12 hQ_ hX_
     have e5_:val11 5= .pointer (some ⟨b1,0,none⟩):=(hQ_ 5 rfl).1
     obtain ⟨q_,hq0_⟩: ∃ q_:Value→Pcs→Prop,q_=(fun v_ x_=>v_= .int .i64 (((i:Nat):Int))∧x_=[]):=⟨_,rfl⟩
     refine ⟨(zq1 (zq2 (zq32 (zq32 (zq32 []))))),[],q_,(by rw [e5_]),rfl,(fun _ _ z_=>by subst hq0_;exact z_),?_⟩
     subst hq0_
     exact xfx mn (fun _ h_ H_=>xbx H_ tA3 rfl (i:=3) rfl (v:=.int .i64 (((i:Nat):Int))) rfl) ⟨rfl,rfl⟩
    refine xcq rfl (xew ?_) ?_
    ·
     intro val11 pc12 hQ_ hX_
     have e4_:val11 4= .slice b r.sts.length cb:=(hQ_ 4 rfl).1
     have e6_:val11 6= .int .i64 (((i:Nat):Int)):=(hQ_ 6 rfl).1
     obtain ⟨q_,hq0_⟩: ∃ q_:Value→Pcs→Prop,q_=(fun v_ x_=>v_= .pointer (some ((adr b).add (i*4)))∧x_=[]):=⟨_,rfl⟩
     refine ⟨(zq1 (zq2 (zq32 (zq32 (zq32 []))))),[],q_,(by rw [e4_,e6_]),rfl,(fun _ _ z_=>by subst hq0_;exact z_),?_⟩
     subst hq0_
     exact xfx mn (fun _ h_ H_=>xdx (i:=i) Tryz.underlying49 tS91 (xlx b r.sts.length cb (R.s.ne (by omega))) rfl (by omega)) ⟨rfl,rfl⟩
    refine xcq rfl (xew ?_) ?_
    ·
     intro val11 pc12 hQ_ hX_
     have e7_:val11 7= .pointer (some ((adr b).add (i*4))):=(hQ_ 7 rfl).1
     obtain ⟨q_,hq0_⟩: ∃ q_:Value→Pcs→Prop,q_=(fun v_ x_=>v_= .agg #[.int .i64 ((r.sts.getD i sz).has),.int .i64 ((r.sts.getD i sz).lo),.int .i64 ((r.sts.getD i sz).hi),.int .i64 ((r.sts.getD i sz).cost)]∧x_=[]):=⟨_,rfl⟩
     refine ⟨(zq1 (zq2 (zq32 (zq32 (zq32 []))))),[],q_,(by rw [e7_]),rfl,(fun _ _ z_=>by subst hq0_;exact z_),?_⟩
     subst hq0_
     exact xfx mn (fun _ h_ H_=>xiw H_ tA91 tS91 rfl (vs:=[.int .i64 ((r.sts.getD i sz).has),.int .i64 ((r.sts.getD i sz).lo),.int .i64 ((r.sts.getD i sz).hi),.int .i64 ((r.sts.getD i sz).cost)]) rfl (R.s.all (by omega))) ⟨rfl,rfl⟩
    refine xcq rfl (xew ?_) ?_
    ·
     intro val11 pc12 hQ_ hX_
     obtain ⟨q_,hq0_⟩: ∃ q_:Value→Pcs→Prop,q_=(fun v_ x_=>∃ b13:Nat,v_= .pointer (some ⟨b13,0,none⟩)∧x_=(([(b13,.cells #[.int .i64 0,.int .i64 0,.int .i64 0,.int .i64 0] 91 (0,0))]:Pcs)++[])):=⟨_,rfl⟩
     refine ⟨(zq1 (zq2 (zq32 (zq32 (zq32 []))))),[],q_,rfl,rfl,(fun _ _ z_=>by subst hq0_;exact z_),?_⟩
     subst hq0_
     exact ydx mn tZ91 rfl fun b_=>⟨b_,rfl,rfl⟩
    exact xpk rfl
   intro val11 pc12 hQ_ hX_
   have e0_:val11 0= .pointer (some ⟨bC,0,none⟩):=(hQ_ 0 (by decide)).1
   have e1_:val11 1= .pointer (some ⟨bC,0,none⟩):=(hQ_ 1 (by decide)).1
   have e2_:val11 2= .pointer (some ⟨bC,0,none⟩):=(hQ_ 2 (by decide)).1
   have e3_:val11 3= .pointer (some ⟨bC,1,none⟩):=(hQ_ 3 (by decide)).1
   have e4_:val11 4= .slice b r.sts.length cb:=(hQ_ 4 (by decide)).1
   have e5_:val11 5= .pointer (some ⟨b1,0,none⟩):=(hQ_ 5 (by decide)).1
   have e6_:val11 6= .int .i64 (((i:Nat):Int)):=(hQ_ 6 (by decide)).1
   have e7_:val11 7= .pointer (some ((adr b).add (i*4))):=(hQ_ 7 (by decide)).1
   have e8_:val11 8= .agg #[.int .i64 ((r.sts.getD i sz).has),.int .i64 ((r.sts.getD i sz).lo),.int .i64 ((r.sts.getD i sz).hi),.int .i64 ((r.sts.getD i sz).cost)]:=(hQ_ 8 (by decide)).1
   obtain ⟨e9_,x9_⟩:=hG9_ _ _ (hQ_ 9 (by decide))
   have x10_:pc12 10=X₀:=hX_ 10 (by decide)
   clear hQ_ hX_
   generalize Gb13 (val11 9) (pc12 9)=b13 at*
   refine yok (Φ:=fun h_=>St h₀ B₀ p h_ (([(b10,.cells #[.int .i64 0,.int .i64 (-1)] 138 (0,0)),(b6,.cells #[.int .i64 (((findK kn (key i L)).getD (0,0)).1),.int .i64 (((findK kn (key i L)).getD (0,0)).2)] 138 (0,0)),(b2,.cells #[.int .i64 0,.int .i64 0] 138 (0,0)),(b1,.cells #[.int .i64 (((i:Nat):Int)),.int .i64 (L.getD 0 0),.int .i64 (L.getD 1 0),.int .i64 (L.getD 2 0),.int .i64 (L.getD 3 0),.int .i64 (L.getD 4 0),.int .i64 (L.getD 5 0),.int .i64 (L.getD 6 0),.int .i64 (L.getD 7 0)] 132 (0,0)),(bC,.cells #[.slice a r.room.length ca,.slice b r.sts.length cb,.func (.func 52) #[] #[],.map (some bM)] 136 (0,0)),(bM,ob)]:Pcs)++(pc12 10++(pc12 9++[])))) ?_ (fun h_ H_=>H_.swap')
   rw [x10_,x9_]
   refine xcz (L':=([(b10,.cells #[.int .i64 0,.int .i64 (-1)] 138 (0,0)),(b6,.cells #[.int .i64 (((findK kn (key i L)).getD (0,0)).1),.int .i64 (((findK kn (key i L)).getD (0,0)).2)] 138 (0,0)),(b2,.cells #[.int .i64 0,.int .i64 0] 138 (0,0)),(b1,.cells #[.int .i64 (((i:Nat):Int)),.int .i64 (L.getD 0 0),.int .i64 (L.getD 1 0),.int .i64 (L.getD 2 0),.int .i64 (L.getD 3 0),.int .i64 (L.getD 4 0),.int .i64 (L.getD 5 0),.int .i64 (L.getD 6 0),.int .i64 (L.getD 7 0)] 132 (0,0)),(bC,.cells #[.slice a r.room.length ca,.slice b r.sts.length cb,.func (.func 52) #[] #[],.map (some bM)] 136 (0,0)),(bM,ob)]:Pcs)++(X₀++(([(b13,.cells #[.int .i64 0,.int .i64 0,.int .i64 0,.int .i64 0] 91 (0,0))]:Pcs)++[]))) (by simp) ?_
   refine xfz (tm':=(zq1 (zq2 (zq32 (zq32 (zq32 [])))))) (by rw [e0_,e1_,e2_,e3_,e4_,e5_,e6_,e7_,e8_,e9_]) ?_
   refine xcz (L':=([(b10,.cells #[.int .i64 0,.int .i64 (-1)] 138 (0,0)),(b6,.cells #[.int .i64 (((findK kn (key i L)).getD (0,0)).1),.int .i64 (((findK kn (key i L)).getD (0,0)).2)] 138 (0,0)),(b2,.cells #[.int .i64 0,.int .i64 0] 138 (0,0)),(b1,.cells #[.int .i64 (((i:Nat):Int)),.int .i64 (L.getD 0 0),.int .i64 (L.getD 1 0),.int .i64 (L.getD 2 0),.int .i64 (L.getD 3 0),.int .i64 (L.getD 4 0),.int .i64 (L.getD 5 0),.int .i64 (L.getD 6 0),.int .i64 (L.getD 7 0)] 132 (0,0)),(bC,.cells #[.slice a r.room.length ca,.slice b r.sts.length cb,.func (.func 52) #[] #[],.map (some bM)] 136 (0,0)),(bM,ob)]:Pcs)++(X₀++(([(b13,.cells #[.int .i64 0,.int .i64 0,.int .i64 0,.int .i64 0] 91 (0,0))]:Pcs)++[]))) rfl ?_
   refine xjw (List.Perm.append_left _ (List.perm_append_comm_assoc _ _ _)) ?_
   refine xcz (L':=([(b10,.cells #[.int .i64 0,.int .i64 (-1)] 138 (0,0)),(b6,.cells #[.int .i64 (((findK kn (key i L)).getD (0,0)).1),.int .i64 (((findK kn (key i L)).getD (0,0)).2)] 138 (0,0)),(b2,.cells #[.int .i64 0,.int .i64 0] 138 (0,0)),(b1,.cells #[.int .i64 (((i:Nat):Int)),.int .i64 (L.getD 0 0),.int .i64 (L.getD 1 0),.int .i64 (L.getD 2 0),.int .i64 (L.getD 3 0),.int .i64 (L.getD 4 0),.int .i64 (L.getD 5 0),.int .i64 (L.getD 6 0),.int .i64 (L.getD 7 0)] 132 (0,0)),(bC,.cells #[.slice a r.room.length ca,.slice b r.sts.length cb,.func (.func 52) #[] #[],.map (some bM)] 136 (0,0)),(bM,ob)]:Pcs)++(([(b13,.cells #[.int .i64 0,.int .i64 0,.int .i64 0,.int .i64 0] 91 (0,0))]:Pcs)++(X₀++[]))) rfl ?_
   refine xjw (List.perm_append_comm_assoc ([(b10,.cells #[.int .i64 0,.int .i64 (-1)] 138 (0,0)),(b6,.cells #[.int .i64 (((findK kn (key i L)).getD (0,0)).1),.int .i64 (((findK kn (key i L)).getD (0,0)).2)] 138 (0,0)),(b2,.cells #[.int .i64 0,.int .i64 0] 138 (0,0)),(b1,.cells #[.int .i64 (((i:Nat):Int)),.int .i64 (L.getD 0 0),.int .i64 (L.getD 1 0),.int .i64 (L.getD 2 0),.int .i64 (L.getD 3 0),.int .i64 (L.getD 4 0),.int .i64 (L.getD 5 0),.int .i64 (L.getD 6 0),.int .i64 (L.getD 7 0)] 132 (0,0)),(bC,.cells #[.slice a r.room.length ca,.slice b r.sts.length cb,.func (.func 52) #[] #[],.map (some bM)] 136 (0,0)),(bM,ob)]:Pcs) ([(b13,.cells #[.int .i64 0,.int .i64 0,.int .i64 0,.int .i64 0] 91 (0,0))]:Pcs) _) ?_
   refine xcz (L':=([(b13,.cells #[.int .i64 0,.int .i64 0,.int .i64 0,.int .i64 0] 91 (0,0)),(b10,.cells #[.int .i64 0,.int .i64 (-1)] 138 (0,0)),(b6,.cells #[.int .i64 (((findK kn (key i L)).getD (0,0)).1),.int .i64 (((findK kn (key i L)).getD (0,0)).2)] 138 (0,0)),(b2,.cells #[.int .i64 0,.int .i64 0] 138 (0,0)),(b1,.cells #[.int .i64 (((i:Nat):Int)),.int .i64 (L.getD 0 0),.int .i64 (L.getD 1 0),.int .i64 (L.getD 2 0),.int .i64 (L.getD 3 0),.int .i64 (L.getD 4 0),.int .i64 (L.getD 5 0),.int .i64 (L.getD 6 0),.int .i64 (L.getD 7 0)] 132 (0,0)),(bC,.cells #[.slice a r.room.length ca,.slice b r.sts.length cb,.func (.func 52) #[] #[],.map (some bM)] 136 (0,0)),(bM,ob)]:Pcs)++(X₀++[])) rfl ?_
   refine xfv mn tS91 rfl (v:=.agg #[.int .i64 ((r.sts.getD i sz).has),.int .i64 ((r.sts.getD i sz).lo),.int .i64 ((r.sts.getD i sz).hi),.int .i64 ((r.sts.getD i sz).cost)]) rfl (i:=0) rfl rfl rfl (Nat.le_of_ble_eq_true rfl) (cs2:=[.int .i64 ((r.sts.getD i sz).has),.int .i64 ((r.sts.getD i sz).lo),.int .i64 ((r.sts.getD i sz).hi),.int .i64 ((r.sts.getD i sz).cost)]) rfl (xcz (L':=([(b13,.cells #[.int .i64 ((r.sts.getD i sz).has),.int .i64 ((r.sts.getD i sz).lo),.int .i64 ((r.sts.getD i sz).hi),.int .i64 ((r.sts.getD i sz).cost)] 91 (0,0)),(b10,.cells #[.int .i64 0,.int .i64 (-1)] 138 (0,0)),(b6,.cells #[.int .i64 (((findK kn (key i L)).getD (0,0)).1),.int .i64 (((findK kn (key i L)).getD (0,0)).2)] 138 (0,0)),(b2,.cells #[.int .i64 0,.int .i64 0] 138 (0,0)),(b1,.cells #[.int .i64 (((i:Nat):Int)),.int .i64 (L.getD 0 0),.int .i64 (L.getD 1 0),.int .i64 (L.getD 2 0),.int .i64 (L.getD 3 0),.int .i64 (L.getD 4 0),.int .i64 (L.getD 5 0),.int .i64 (L.getD 6 0),.int .i64 (L.getD 7 0)] 132 (0,0)),(bC,.cells #[.slice a r.room.length ca,.slice b r.sts.length cb,.func (.func 52) #[] #[],.map (some bM)] 136 (0,0)),(bM,ob)]:Pcs)++(X₀++[])) rfl ?_)
   refine ren <| xbj ?_
   have hr_:=hr (by omega)
   refine xav <| rt (xaw xuv rfl (a':=⟨b13,1,none⟩) rfl) (tm':=zq1 (zq4 (zq8 (zq32 _)))) rfl <| rd (fun h_ H_=>xbx H_ tA3 rfl (i:=0) rfl (v:=.int .i64 ((r.sts.getD i sz).lo)) rfl) <| ro (xaq (v:=.int .i64 ((r.sts.getD i sz).lo)) rfl) <| xak <| xeq ?_
   refine xhk (m₀:=((r.sts.getD i sz).hi-(r.sts.getD i sz).lo+1).toNat-0) (fun m_ tm_ h_=>∃ (j:Nat) (z:Int) (o:Int × Int) (ms1:Ms) (ob1:Obj),m_=((r.sts.getD i sz).hi-(r.sts.getD i sz).lo+1).toNat-j∧(∃ y16:Nat→Value,tm_=[.pointer (some ⟨bC,0,none⟩),.agg #[.int .i64 (((i:Nat):Int)),.int .i64 (L.getD 0 0),.int .i64 (L.getD 1 0),.int .i64 (L.getD 2 0),.int .i64 (L.getD 3 0),.int .i64 (L.getD 4 0),.int .i64 (L.getD 5 0),.int .i64 (L.getD 6 0),.int .i64 (L.getD 7 0)],undef,.pointer (some ⟨b1,0,none⟩),.pointer (some ⟨b2,0,none⟩),.pointer (some ⟨b6,0,none⟩),.bool ((findK kn (key i L)).isSome),.pointer (some ⟨b10,0,none⟩),.pointer (some ⟨b13,0,none⟩),.int .i64 (z),(y16 10),(y16 11),(y16 12),.pointer (some ⟨b1,0,none⟩),.int .i64 (((i:Nat):Int)),.pointer (some ⟨bC,0,none⟩),.pointer (some ⟨bC,0,none⟩),.pointer (some ⟨bC,0,none⟩),.pointer (some ⟨bC,1,none⟩),.slice b r.sts.length cb,.int .i64 (((r.sts.length:Nat):Int)),.bool (decide (((i:Nat):Int)=((r.sts.length:Nat):Int))),undef,.tuple #[.agg #[.int .i64 (((findK kn (key i L)).getD (0,0)).1),.int .i64 (((findK kn (key i L)).getD (0,0)).2)],.bool ((findK kn (key i L)).isSome)],.pointer (some ⟨bC,0,none⟩),.pointer (some ⟨bC,0,none⟩),.pointer (some ⟨bC,3,none⟩),.map (some bM),.agg #[.int .i64 (((i:Nat):Int)),.int .i64 (L.getD 0 0),.int .i64 (L.getD 1 0),.int .i64 (L.getD 2 0),.int .i64 (L.getD 3 0),.int .i64 (L.getD 4 0),.int .i64 (L.getD 5 0),.int .i64 (L.getD 6 0),.int .i64 (L.getD 7 0)],.tuple #[.agg #[.int .i64 (((findK kn (key i L)).getD (0,0)).1),.int .i64 (((findK kn (key i L)).getD (0,0)).2)],.bool ((findK kn (key i L)).isSome)],.agg #[.int .i64 (((findK kn (key i L)).getD (0,0)).1),.int .i64 (((findK kn (key i L)).getD (0,0)).2)],.bool ((findK kn (key i L)).isSome),.bool ((findK kn (key i L)).isSome),undef,.agg #[.int .i64 0,.int .i64 (-1)],.pointer (some ⟨bC,0,none⟩),.pointer (some ⟨bC,0,none⟩),.pointer (some ⟨bC,0,none⟩),.pointer (some ⟨bC,1,none⟩),.slice b r.sts.length cb,.pointer (some ⟨b1,0,none⟩),.int .i64 (((i:Nat):Int)),.pointer (some ((adr b).add (i*4))),.agg #[.int .i64 ((r.sts.getD i sz).has),.int .i64 ((r.sts.getD i sz).lo),.int .i64 ((r.sts.getD i sz).hi),.int .i64 ((r.sts.getD i sz).cost)],.pointer (some ⟨b13,1,none⟩),.int .i64 ((r.sts.getD i sz).lo),(y16 46),(y16 47),(y16 48),(y16 49),(y16 50),(y16 51),(y16 52),(y16 53),(y16 54),(y16 55),(y16 56),(y16 57),(y16 58),(y16 59),(y16 60),(y16 61),(y16 62),(y16 63),(y16 64),(y16 65),(y16 66),(y16 67),(y16 68),(y16 69),(y16 70),(y16 71),(y16 72),(y16 73),(y16 74),(y16 75),(y16 76),(y16 77),(y16 78),(y16 79),(y16 80),(y16 81),(y16 82),(y16 83),(y16 84),(y16 85),(y16 86),(y16 87),(y16 88),(y16 89),(y16 90),(y16 91),undef,undef,undef,undef,undef,undef,undef])∧(j≤((r.sts.getD i sz).hi-(r.sts.getD i sz).lo+1).toNat)∧(z=(r.sts.getD i sz).lo+j)∧(o=bestJ (bestF (r.sts.drop (i+1))) (r.sts.getD i sz) L j)∧(MapK 9 ms1 ob1)∧(HInv r ms1)∧(HExt (i+1) kn ms1)∧St h₀ B₀ p h_ (([(b13,.cells #[.int .i64 ((r.sts.getD i sz).has),.int .i64 ((r.sts.getD i sz).lo),.int .i64 ((r.sts.getD i sz).hi),.int .i64 ((r.sts.getD i sz).cost)] 91 (0,0)),(b10,.cells #[.int .i64 (o.1),.int .i64 (o.2)] 138 (0,0)),(b6,.cells #[.int .i64 (((findK kn (key i L)).getD (0,0)).1),.int .i64 (((findK kn (key i L)).getD (0,0)).2)] 138 (0,0)),(b2,.cells #[.int .i64 0,.int .i64 0] 138 (0,0)),(b1,.cells #[.int .i64 (((i:Nat):Int)),.int .i64 (L.getD 0 0),.int .i64 (L.getD 1 0),.int .i64 (L.getD 2 0),.int .i64 (L.getD 3 0),.int .i64 (L.getD 4 0),.int .i64 (L.getD 5 0),.int .i64 (L.getD 6 0),.int .i64 (L.getD 7 0)] 132 (0,0)),(bC,.cells #[.slice a r.room.length ca,.slice b r.sts.length cb,.func (.func 52) #[] #[],.map (some bM)] 136 (0,0)),(bM,ob1)]:Pcs)++(X₀++[]))) (fun h_ H_=>⟨0,(r.sts.getD i sz).lo,(0,-1),kn,ob,rfl,(y_of rfl),Nat.zero_le _,(by omega),rfl,hM,hI,(HExt.refl _ _),H_⟩) ?_
   intro m_ tm_ IH17
   refine xhq fun j=>xhq fun z=>xhq fun o=>xhq fun ms1=>xhq fun ob1=>xdj fun hm_=>xdj fun ht_=>xdj fun hkj=>xdj fun hz=>xdj fun ho=>xdj fun hM1=>xdj fun hI1=>xdj fun hE1=>?_
   subst hm_;obtain ⟨y16,ht_⟩:=ht_;subst ht_
   have hLz:=hL.2 z.toNat
   refine xbj <| fsr <| rt (xax (v:=.int .i64 (z)) rfl) (tm':=zq1 (zq2 (zq4 (zq8 (zq32 _))))) rfl <| ro (xaw xuk rfl (a':=⟨b13,2,none⟩) rfl) <| rd (fun h_ H_=>xbx H_ tA3 rfl (i:=0) rfl (v:=.int .i64 ((r.sts.getD i sz).hi)) rfl) <| rt (xyk rfl rfl) (tm':=zq2 (zq16 (zq32 _))) rfl ?_
   refine xak ?_
   by_cases cc18:z≤(r.sts.getD i sz).hi
   ·
    refine xcx rfl (dtt cc18) <| xdz <| xbj <| xeq <| xbj ?_
    have hsb_:=hB.sb (i:=i) (by omega) (z:=z) (by omega)
    have hst_:0≤stepsI (r.sts.getD i sz) z∧stepsI (r.sts.getD i sz) z≤1800:=yhk hsb_
    refine xhw 6 [[],[0],[0,1],[0,1,2],[],[],[],[]] mixed (by kernel_rfl) (Nat.le_of_ble_eq_true rfl) ?_
    refine wo (xax (v:=.pointer (some ⟨bC,0,none⟩)) rfl) <| wt (xkq rfl) (tm':=zq2 (zq4 (zq16 (zq32 _)))) rfl <| wo (xaw wjj rfl (a':=⟨bC,2,none⟩) rfl) ?_
    refine xfq mn (fun h_ H_=>xbx H_ wtz rfl (i:=5) rfl (v:=.func (.func 52) #[] #[]) rfl) (tm':=zq8 (zq16 (zq32 _))) rfl ?_
    refine wd (fun h_ H_=>xbk H_ tA91 tS91 rfl (i:=0) rfl (vs:=[.int .i64 ((r.sts.getD i sz).has),.int .i64 ((r.sts.getD i sz).lo),.int .i64 ((r.sts.getD i sz).hi),.int .i64 ((r.sts.getD i sz).cost)]) rfl rfl) <| wt (xax (v:=.int .i64 (z)) rfl) (tm':=zq2 (zq8 (zq16 (zq32 _)))) rfl ?_
    refine xlq rfl ?_
    refine xcw mn (first:=[]) (cap:=[]) rfl rfl fC52 (fun h_ H_=>c52 md _ (r.sts.getD i sz) z hsb_) rfl ?_
    refine ro (xaq (v:=.int .i64 (stepsI (r.sts.getD i sz) z)) rfl) <| ren <| fsr <| rt (xax (v:=.int .i64 (stepsI (r.sts.getD i sz) z)) rfl) (tm':=zq4 (zq8 (zq16 (zq32 _)))) rfl <| ro (xfk rfl rfl) <| ro (xax (v:=.bool (decide (stepsI (r.sts.getD i sz) z<0))) rfl) ?_
    refine xaj (ms rfl rfl (decide_eq_false (by omega))) (fun h_ H_=>xax (v:=.int .i64 (z)) rfl) (tm':=zq1 (zq2 (zq4 (zq8 (zq16 (zq32 _)))))) rfl ?_
    refine xaj (ms rfl rfl (decide_eq_false (by omega))) (fun h_ H_=>xaw yrv rfl (a':=⟨b1,1,none⟩) rfl) rfl ?_
    refine xaj (ms rfl rfl (decide_eq_false (by omega))) (fun h_ H_=>xwv Tryz.underlying130 tS3 rfl rfl (by omega) (by omega)) rfl ?_
    refine xaj (ms rfl rfl (decide_eq_false (by omega))) (fun h_ H_=>ynq H_ tA3 rfl (i:=4) rfl (v:=.int .i64 (L.getD ((z).toNat) 0)) (show (stC (((i:Nat):Int)) L).toArray[1+_]?=_ from wqk (by omega))) (tm':=zq2 (zq32 (zq32 _))) rfl ?_
    refine xaj (ms rfl rfl (decide_eq_false (by omega))) (fun h_ H_=>xmj rfl rfl) rfl ?_
    refine ro (xdq rfl (decide_eq_false (by omega)) (v:=.bool (decide (L.getD ((z).toNat) 0=0))) rfl) ?_
    refine xak ?_
    by_cases cc19:L.getD ((z).toNat) 0=0
    ·
     refine xcx rfl (dtt cc19) <| xgk rfl <| xav <| rt (xax (v:=.int .i64 (z)) rfl) (tm':=zq1 (zq2 (zq16 (zq32 _)))) rfl ?_
     refine ro (xev rfl rfl (wr (by omega))) ?_
     refine ro (xaq (v:=.int .i64 (z+1)) rfl) <| xak ?_
     exact fun h_ H_=>IH17 _ _ (by omega) h_ ⟨j+1,z+1,o,ms1,ob1,rfl,(y_of rfl),(by omega),(by omega),(by first | exact bJ_a ho hz ‹_› | exact bJ_b ho hz ‹_› ‹_› | exact bJ_c ho hz ‹_› ‹_› (.inl ‹_›) | exact bJ_c ho hz ‹_› ‹_› (.inr ‹_›) | exact bJ_d ho hz ‹_› ‹_› ‹_› ‹_›),hM1,hI1,hE1,H_⟩
    ·
     refine xcv rfl (dff cc19) <| xdz <| fsr <| rt (xax (v:=.pointer (some ⟨bC,0,none⟩)) rfl) (tm':=zq1 (zq2 (zq32 (zq32 (zq32 []))))) rfl <| rd (fun h_ H_=>xbk H_ yoz ybx rfl (i:=4) rfl (vs:=[.int .i64 (((i:Nat):Int)),.int .i64 (L.getD 0 0),.int .i64 (L.getD 1 0),.int .i64 (L.getD 2 0),.int .i64 (L.getD 3 0),.int .i64 (L.getD 4 0),.int .i64 (L.getD 5 0),.int .i64 (L.getD 6 0),.int .i64 (L.getD 7 0)]) rfl rfl) <| ro (xax (v:=.int .i64 (z)) rfl) ?_
     refine xcw mn (first:=[]) (cap:=[]) rfl rfl fC84 (fun h_ H_=>c84 md _ ((i:Nat):Int) L z (by omega) (by omega) (by omega) (by omega)) (tm':=zq1 (zq2 (zq32 (zq32 (zq32 []))))) rfl ?_
     refine xgv mn (first:=[]) (cap:=[]) rfl rfl fC83 (fun h_ H_=>(show CallsX _ md 83 _ _ (fun v_ h_=>∃ (ms_:Ms) (ob_:Obj),v_= .agg #[.int .i64 ((bestF (r.sts.drop (i+1)) (less L z)).1),.int .i64 ((bestF (r.sts.drop (i+1)) (less L z)).2)]∧MapK 9 ms_ ob_∧HInv r ms_∧HExt (i+1) ms1 ms_∧St h₀ B₀ p h_ (([(b13,.cells #[.int .i64 ((r.sts.getD i sz).has),.int .i64 ((r.sts.getD i sz).lo),.int .i64 ((r.sts.getD i sz).hi),.int .i64 ((r.sts.getD i sz).cost)] 91 (0,0)),(b10,.cells #[.int .i64 (o.1),.int .i64 (o.2)] 138 (0,0)),(b6,.cells #[.int .i64 (((findK kn (key i L)).getD (0,0)).1),.int .i64 (((findK kn (key i L)).getD (0,0)).2)] 138 (0,0)),(b2,.cells #[.int .i64 0,.int .i64 0] 138 (0,0)),(b1,.cells #[.int .i64 (((i:Nat):Int)),.int .i64 (L.getD 0 0),.int .i64 (L.getD 1 0),.int .i64 (L.getD 2 0),.int .i64 (L.getD 3 0),.int .i64 (L.getD 4 0),.int .i64 (L.getD 5 0),.int .i64 (L.getD 6 0),.int .i64 (L.getD 7 0)] 132 (0,0))]:Pcs)++(([(bC,.cells #[.slice a r.room.length ca,.slice b r.sts.length cb,.func (.func 52) #[] #[],.map (some bM)] 136 (0,0)),(bM,ob_)]:Pcs)++(X₀++[])))) from ((IH (by omega)) h_ h₀ B₀ (less L z) ms1 ob1 (([(b13,.cells #[.int .i64 ((r.sts.getD i sz).has),.int .i64 ((r.sts.getD i sz).lo),.int .i64 ((r.sts.getD i sz).hi),.int .i64 ((r.sts.getD i sz).cost)] 91 (0,0)),(b10,.cells #[.int .i64 (o.1),.int .i64 (o.2)] 138 (0,0)),(b6,.cells #[.int .i64 (((findK kn (key i L)).getD (0,0)).1),.int .i64 (((findK kn (key i L)).getD (0,0)).2)] 138 (0,0)),(b2,.cells #[.int .i64 0,.int .i64 0] 138 (0,0)),(b1,.cells #[.int .i64 (((i:Nat):Int)),.int .i64 (L.getD 0 0),.int .i64 (L.getD 1 0),.int .i64 (L.getD 2 0),.int .i64 (L.getD 3 0),.int .i64 (L.getD 4 0),.int .i64 (L.getD 5 0),.int .i64 (L.getD 6 0),.int .i64 (L.getD 7 0)] 132 (0,0))]:Pcs)++(X₀++[])) (hL.less (by omega)) hM1 hI1 (St.mid (A:=([(b13,.cells #[.int .i64 ((r.sts.getD i sz).has),.int .i64 ((r.sts.getD i sz).lo),.int .i64 ((r.sts.getD i sz).hi),.int .i64 ((r.sts.getD i sz).cost)] 91 (0,0)),(b10,.cells #[.int .i64 (o.1),.int .i64 (o.2)] 138 (0,0)),(b6,.cells #[.int .i64 (((findK kn (key i L)).getD (0,0)).1),.int .i64 (((findK kn (key i L)).getD (0,0)).2)] 138 (0,0)),(b2,.cells #[.int .i64 0,.int .i64 0] 138 (0,0)),(b1,.cells #[.int .i64 (((i:Nat):Int)),.int .i64 (L.getD 0 0),.int .i64 (L.getD 1 0),.int .i64 (L.getD 2 0),.int .i64 (L.getD 3 0),.int .i64 (L.getD 4 0),.int .i64 (L.getD 5 0),.int .i64 (L.getD 6 0),.int .i64 (L.getD 7 0)] 132 (0,0))]:Pcs)) (B:=([(bC,.cells #[.slice a r.room.length ca,.slice b r.sts.length cb,.func (.func 52) #[] #[],.map (some bM)] 136 (0,0)),(bM,ob1)]:Pcs)) (X:=(X₀++[])) H_)).mono fun v_ h2_ ⟨ms_,ob_,e_,m_,i_,x_,s_⟩=>⟨ms_,ob_,e_,m_,i_,x_,St.mid' (A:=([(b13,.cells #[.int .i64 ((r.sts.getD i sz).has),.int .i64 ((r.sts.getD i sz).lo),.int .i64 ((r.sts.getD i sz).hi),.int .i64 ((r.sts.getD i sz).cost)] 91 (0,0)),(b10,.cells #[.int .i64 (o.1),.int .i64 (o.2)] 138 (0,0)),(b6,.cells #[.int .i64 (((findK kn (key i L)).getD (0,0)).1),.int .i64 (((findK kn (key i L)).getD (0,0)).2)] 138 (0,0)),(b2,.cells #[.int .i64 0,.int .i64 0] 138 (0,0)),(b1,.cells #[.int .i64 (((i:Nat):Int)),.int .i64 (L.getD 0 0),.int .i64 (L.getD 1 0),.int .i64 (L.getD 2 0),.int .i64 (L.getD 3 0),.int .i64 (L.getD 4 0),.int .i64 (L.getD 5 0),.int .i64 (L.getD 6 0),.int .i64 (L.getD 7 0)] 132 (0,0))]:Pcs)) (X:=(X₀++[])) s_⟩)) ?_
     refine fun v_=>xgx fun ms20=>xgx fun ob21=>xez fun ev_=>xez fun hM22=>xez fun hI23=>xez fun hE24=>?_
     subst ev_
     refine xcz (L':=([(b13,.cells #[.int .i64 ((r.sts.getD i sz).has),.int .i64 ((r.sts.getD i sz).lo),.int .i64 ((r.sts.getD i sz).hi),.int .i64 ((r.sts.getD i sz).cost)] 91 (0,0)),(b10,.cells #[.int .i64 (o.1),.int .i64 (o.2)] 138 (0,0)),(b6,.cells #[.int .i64 (((findK kn (key i L)).getD (0,0)).1),.int .i64 (((findK kn (key i L)).getD (0,0)).2)] 138 (0,0)),(b2,.cells #[.int .i64 0,.int .i64 0] 138 (0,0)),(b1,.cells #[.int .i64 (((i:Nat):Int)),.int .i64 (L.getD 0 0),.int .i64 (L.getD 1 0),.int .i64 (L.getD 2 0),.int .i64 (L.getD 3 0),.int .i64 (L.getD 4 0),.int .i64 (L.getD 5 0),.int .i64 (L.getD 6 0),.int .i64 (L.getD 7 0)] 132 (0,0)),(bC,.cells #[.slice a r.room.length ca,.slice b r.sts.length cb,.func (.func 52) #[] #[],.map (some bM)] 136 (0,0)),(bM,ob21)]:Pcs)++(X₀++[])) rfl ?_
     refine xjj mn yox rfl fun b25=>xcz (L':=([(b25,.cells #[.int .i64 0,.int .i64 0] 138 (0,0)),(b13,.cells #[.int .i64 ((r.sts.getD i sz).has),.int .i64 ((r.sts.getD i sz).lo),.int .i64 ((r.sts.getD i sz).hi),.int .i64 ((r.sts.getD i sz).cost)] 91 (0,0)),(b10,.cells #[.int .i64 (o.1),.int .i64 (o.2)] 138 (0,0)),(b6,.cells #[.int .i64 (((findK kn (key i L)).getD (0,0)).1),.int .i64 (((findK kn (key i L)).getD (0,0)).2)] 138 (0,0)),(b2,.cells #[.int .i64 0,.int .i64 0] 138 (0,0)),(b1,.cells #[.int .i64 (((i:Nat):Int)),.int .i64 (L.getD 0 0),.int .i64 (L.getD 1 0),.int .i64 (L.getD 2 0),.int .i64 (L.getD 3 0),.int .i64 (L.getD 4 0),.int .i64 (L.getD 5 0),.int .i64 (L.getD 6 0),.int .i64 (L.getD 7 0)] 132 (0,0)),(bC,.cells #[.slice a r.room.length ca,.slice b r.sts.length cb,.func (.func 52) #[] #[],.map (some bM)] 136 (0,0)),(bM,ob21)]:Pcs)++(X₀++[])) rfl ?_
     refine xfv mn ybq rfl (v:=.agg #[.int .i64 ((bestF (r.sts.drop (i+1)) (less L z)).1),.int .i64 ((bestF (r.sts.drop (i+1)) (less L z)).2)]) rfl (i:=0) rfl rfl rfl (Nat.le_of_ble_eq_true rfl) (cs2:=[.int .i64 ((bestF (r.sts.drop (i+1)) (less L z)).1),.int .i64 ((bestF (r.sts.drop (i+1)) (less L z)).2)]) rfl (xcz (L':=([(b25,.cells #[.int .i64 ((bestF (r.sts.drop (i+1)) (less L z)).1),.int .i64 ((bestF (r.sts.drop (i+1)) (less L z)).2)] 138 (0,0)),(b13,.cells #[.int .i64 ((r.sts.getD i sz).has),.int .i64 ((r.sts.getD i sz).lo),.int .i64 ((r.sts.getD i sz).hi),.int .i64 ((r.sts.getD i sz).cost)] 91 (0,0)),(b10,.cells #[.int .i64 (o.1),.int .i64 (o.2)] 138 (0,0)),(b6,.cells #[.int .i64 (((findK kn (key i L)).getD (0,0)).1),.int .i64 (((findK kn (key i L)).getD (0,0)).2)] 138 (0,0)),(b2,.cells #[.int .i64 0,.int .i64 0] 138 (0,0)),(b1,.cells #[.int .i64 (((i:Nat):Int)),.int .i64 (L.getD 0 0),.int .i64 (L.getD 1 0),.int .i64 (L.getD 2 0),.int .i64 (L.getD 3 0),.int .i64 (L.getD 4 0),.int .i64 (L.getD 5 0),.int .i64 (L.getD 6 0),.int .i64 (L.getD 7 0)] 132 (0,0)),(bC,.cells #[.slice a r.room.length ca,.slice b r.sts.length cb,.func (.func 52) #[] #[],.map (some bM)] 136 (0,0)),(bM,ob21)]:Pcs)++(X₀++[])) rfl ?_)
     refine ren <| xbj ?_
     have hbd_:=znx (less L z) (hB.all (i+1))
     have hdl_:(r.sts.drop (i+1)).length≤6:=by rw [List.length_drop];omega
     refine xav <| rt (xaw zdk rfl (a':=⟨b25,1,none⟩) rfl) (tm':=zq1 (zq2 (zq32 (zq32 (zq32 []))))) rfl <| rd (fun h_ H_=>xbx H_ tA3 rfl (i:=0) rfl (v:=.int .i64 ((bestF (r.sts.drop (i+1)) (less L z)).2)) rfl) <| ro (xfk rfl rfl) <| xak ?_
     by_cases cc26:(bestF (r.sts.drop (i+1)) (less L z)).2<0
     ·
      refine xcx rfl (dtt cc26) <| xgk rfl <| xav <| rt (xax (v:=.int .i64 (z)) rfl) (tm':=zq1 (zq2 (zq16 (zq32 _)))) rfl ?_
      refine ro (xev rfl rfl (wr (by omega))) ?_
      refine ro (xaq (v:=.int .i64 (z+1)) rfl) <| xak ?_
      exact fun h_ H_=>IH17 _ _ (by omega) h_ ⟨j+1,z+1,o,ms20,ob21,rfl,(y_of rfl),(by omega),(by omega),(by first | exact bJ_a ho hz ‹_› | exact bJ_b ho hz ‹_› ‹_› | exact bJ_c ho hz ‹_› ‹_› (.inl ‹_›) | exact bJ_c ho hz ‹_› ‹_› (.inr ‹_›) | exact bJ_d ho hz ‹_› ‹_› ‹_› ‹_›),hM22,hI23,(hE1.trans hE24),H_.drop⟩
     ·
      refine xcv rfl (dff cc26) <| xdz <| fsr <| rt (xax (v:=.int .i64 (stepsI (r.sts.getD i sz) z)) rfl) (tm':=zq1 (zq2 (zq32 (zq32 (zq32 []))))) rfl <| ro (xaw zdv rfl (a':=⟨b25,0,none⟩) rfl) <| rd (fun h_ H_=>xbx H_ tA3 rfl (i:=0) rfl (v:=.int .i64 ((bestF (r.sts.drop (i+1)) (less L z)).1)) rfl) ?_
      refine rt (xev rfl rfl (wr (by omega))) (tm':=zq1 (zq2 (zq32 (zq32 (zq32 []))))) rfl ?_
      refine ro (xaq (v:=.int .i64 ((stepsI (r.sts.getD i sz) z)+((bestF (r.sts.drop (i+1)) (less L z)).1))) rfl) <| ren <| xav <| ro (xaw zdk rfl (a':=⟨b10,1,none⟩) rfl) ?_
      refine xaj mn (fun h_ H_=>xbx H_ tA3 rfl (i:=2) rfl (v:=.int .i64 (o.2)) rfl) (tm':=zq1 (zq2 (zq32 (zq32 (zq32 []))))) rfl ?_
      refine ro (xfk rfl rfl) <| ro (xax (v:=.bool (decide (o.2<0))) rfl) ?_
      by_cases cc27:o.2<0
      ·
       refine xck (mo rfl rfl (dtt cc27)) (tm':=zq1 (zq2 (zq32 (zq32 (zq32 []))))) rfl <| rp (mo rfl rfl (dtt cc27)) <| rp (mo rfl rfl (dtt cc27)) <| xck (mo rfl rfl (dtt cc27)) (tm':=zq1 (zq2 (zq32 (zq32 (zq32 []))))) rfl <| ro (xbw rfl (dtt cc27) (v:=.bool (true)) rfl) <| xak ?_
       refine xcx rfl rfl <| xav <| ro (xax (v:=.int .i64 ((stepsI (r.sts.getD i sz) z)+((bestF (r.sts.drop (i+1)) (less L z)).1))) rfl) <| rt (xax (v:=.int .i64 (z)) rfl) (tm':=zq1 (zq2 (zq32 (zq32 (zq32 []))))) rfl <| ro (xlj yox wcq (vs:=[(0,.int .i64 ((stepsI (r.sts.getD i sz) z)+((bestF (r.sts.drop (i+1)) (less L z)).1))),(1,.int .i64 (z))]) rfl (cells:=#[.int .i64 ((stepsI (r.sts.getD i sz) z)+((bestF (r.sts.drop (i+1)) (less L z)).1)),.int .i64 (z)]) rfl) ?_
       refine xfv mn ybq rfl (v:=.agg #[.int .i64 ((stepsI (r.sts.getD i sz) z)+((bestF (r.sts.drop (i+1)) (less L z)).1)),.int .i64 (z)]) rfl (i:=2) rfl rfl rfl (Nat.le_of_ble_eq_true rfl) (cs2:=[.int .i64 ((stepsI (r.sts.getD i sz) z)+((bestF (r.sts.drop (i+1)) (less L z)).1)),.int .i64 (z)]) rfl (xcz (L':=([(b25,.cells #[.int .i64 ((bestF (r.sts.drop (i+1)) (less L z)).1),.int .i64 ((bestF (r.sts.drop (i+1)) (less L z)).2)] 138 (0,0)),(b13,.cells #[.int .i64 ((r.sts.getD i sz).has),.int .i64 ((r.sts.getD i sz).lo),.int .i64 ((r.sts.getD i sz).hi),.int .i64 ((r.sts.getD i sz).cost)] 91 (0,0)),(b10,.cells #[.int .i64 ((stepsI (r.sts.getD i sz) z)+((bestF (r.sts.drop (i+1)) (less L z)).1)),.int .i64 (z)] 138 (0,0)),(b6,.cells #[.int .i64 (((findK kn (key i L)).getD (0,0)).1),.int .i64 (((findK kn (key i L)).getD (0,0)).2)] 138 (0,0)),(b2,.cells #[.int .i64 0,.int .i64 0] 138 (0,0)),(b1,.cells #[.int .i64 (((i:Nat):Int)),.int .i64 (L.getD 0 0),.int .i64 (L.getD 1 0),.int .i64 (L.getD 2 0),.int .i64 (L.getD 3 0),.int .i64 (L.getD 4 0),.int .i64 (L.getD 5 0),.int .i64 (L.getD 6 0),.int .i64 (L.getD 7 0)] 132 (0,0)),(bC,.cells #[.slice a r.room.length ca,.slice b r.sts.length cb,.func (.func 52) #[] #[],.map (some bM)] 136 (0,0)),(bM,ob21)]:Pcs)++(X₀++[])) rfl ?_)
       refine xak <| xex <| xav <| ro (xax (v:=.int .i64 (z)) rfl) ?_
       refine rt (xev rfl rfl (wr (by omega))) (tm':=zq4 (zq16 (zq32 _))) rfl ?_
       refine ro (xaq (v:=.int .i64 (z+1)) rfl) <| xak ?_
       exact fun h_ H_=>IH17 _ _ (by omega) h_ ⟨j+1,z+1,((stepsI (r.sts.getD i sz) z)+((bestF (r.sts.drop (i+1)) (less L z)).1),z),ms20,ob21,rfl,(y_of rfl),(by omega),(by omega),(by first | exact bJ_a ho hz ‹_› | exact bJ_b ho hz ‹_› ‹_› | exact bJ_c ho hz ‹_› ‹_› (.inl ‹_›) | exact bJ_c ho hz ‹_› ‹_› (.inr ‹_›) | exact bJ_d ho hz ‹_› ‹_› ‹_› ‹_›),hM22,hI23,(hE1.trans hE24),H_.drop⟩
      ·
       refine xaj (ms rfl rfl (dff cc27)) (fun h_ H_=>xax (v:=.int .i64 ((stepsI (r.sts.getD i sz) z)+((bestF (r.sts.drop (i+1)) (less L z)).1))) rfl) rfl ?_
       refine xaj (ms rfl rfl (dff cc27)) (fun h_ H_=>xaw zdv rfl (a':=⟨b10,0,none⟩) rfl) (tm':=zq1 (zq2 (zq32 (zq32 (zq32 []))))) rfl ?_
       refine xaj (ms rfl rfl (dff cc27)) (fun h_ H_=>xbx H_ tA3 rfl (i:=2) rfl (v:=.int .i64 (o.1)) rfl) rfl ?_
       refine xaj (ms rfl rfl (dff cc27)) (fun h_ H_=>xfk rfl rfl) rfl ?_
       refine rt (xdq rfl (dff cc27) (v:=.bool (decide ((stepsI (r.sts.getD i sz) z)+((bestF (r.sts.drop (i+1)) (less L z)).1)<o.1))) rfl) (tm':=zq1 (zq2 (zq32 (zq32 (zq32 []))))) rfl <| xak ?_
       by_cases cc28:(stepsI (r.sts.getD i sz) z)+((bestF (r.sts.drop (i+1)) (less L z)).1)<o.1
       ·
        refine xcx rfl (dtt cc28) <| xav <| ro (xax (v:=.int .i64 ((stepsI (r.sts.getD i sz) z)+((bestF (r.sts.drop (i+1)) (less L z)).1))) rfl) <| ro (xax (v:=.int .i64 (z)) rfl) <| rt (xlj yox wcq (vs:=[(0,.int .i64 ((stepsI (r.sts.getD i sz) z)+((bestF (r.sts.drop (i+1)) (less L z)).1))),(1,.int .i64 (z))]) rfl (cells:=#[.int .i64 ((stepsI (r.sts.getD i sz) z)+((bestF (r.sts.drop (i+1)) (less L z)).1)),.int .i64 (z)]) rfl) (tm':=zq1 (zq2 (zq32 (zq32 (zq32 []))))) rfl ?_
        refine xfv mn ybq rfl (v:=.agg #[.int .i64 ((stepsI (r.sts.getD i sz) z)+((bestF (r.sts.drop (i+1)) (less L z)).1)),.int .i64 (z)]) rfl (i:=2) rfl rfl rfl (Nat.le_of_ble_eq_true rfl) (cs2:=[.int .i64 ((stepsI (r.sts.getD i sz) z)+((bestF (r.sts.drop (i+1)) (less L z)).1)),.int .i64 (z)]) rfl (xcz (L':=([(b25,.cells #[.int .i64 ((bestF (r.sts.drop (i+1)) (less L z)).1),.int .i64 ((bestF (r.sts.drop (i+1)) (less L z)).2)] 138 (0,0)),(b13,.cells #[.int .i64 ((r.sts.getD i sz).has),.int .i64 ((r.sts.getD i sz).lo),.int .i64 ((r.sts.getD i sz).hi),.int .i64 ((r.sts.getD i sz).cost)] 91 (0,0)),(b10,.cells #[.int .i64 ((stepsI (r.sts.getD i sz) z)+((bestF (r.sts.drop (i+1)) (less L z)).1)),.int .i64 (z)] 138 (0,0)),(b6,.cells #[.int .i64 (((findK kn (key i L)).getD (0,0)).1),.int .i64 (((findK kn (key i L)).getD (0,0)).2)] 138 (0,0)),(b2,.cells #[.int .i64 0,.int .i64 0] 138 (0,0)),(b1,.cells #[.int .i64 (((i:Nat):Int)),.int .i64 (L.getD 0 0),.int .i64 (L.getD 1 0),.int .i64 (L.getD 2 0),.int .i64 (L.getD 3 0),.int .i64 (L.getD 4 0),.int .i64 (L.getD 5 0),.int .i64 (L.getD 6 0),.int .i64 (L.getD 7 0)] 132 (0,0)),(bC,.cells #[.slice a r.room.length ca,.slice b r.sts.length cb,.func (.func 52) #[] #[],.map (some bM)] 136 (0,0)),(bM,ob21)]:Pcs)++(X₀++[])) rfl ?_)
        refine xak <| xex <| xav <| ro (xax (v:=.int .i64 (z)) rfl) ?_
        refine ro (xev rfl rfl (wr (by omega))) ?_
        refine rt (xaq (v:=.int .i64 (z+1)) rfl) (tm':=zq2 (zq8 _)) rfl <| xak ?_
        exact fun h_ H_=>IH17 _ _ (by omega) h_ ⟨j+1,z+1,((stepsI (r.sts.getD i sz) z)+((bestF (r.sts.drop (i+1)) (less L z)).1),z),ms20,ob21,rfl,(y_of rfl),(by omega),(by omega),(by first | exact bJ_a ho hz ‹_› | exact bJ_b ho hz ‹_› ‹_› | exact bJ_c ho hz ‹_› ‹_› (.inl ‹_›) | exact bJ_c ho hz ‹_› ‹_› (.inr ‹_›) | exact bJ_d ho hz ‹_› ‹_› ‹_› ‹_›),hM22,hI23,(hE1.trans hE24),H_.drop⟩
       ·
        refine xcv rfl (dff cc28) <| xdz <| xex <| xav <| ro (xax (v:=.int .i64 (z)) rfl) ?_
        refine ro (xev rfl rfl (wr (by omega))) ?_
        refine rt (xaq (v:=.int .i64 (z+1)) rfl) (tm':=zq2 (zq8 _)) rfl <| xak ?_
        exact fun h_ H_=>IH17 _ _ (by omega) h_ ⟨j+1,z+1,o,ms20,ob21,rfl,(y_of rfl),(by omega),(by omega),(by first | exact bJ_a ho hz ‹_› | exact bJ_b ho hz ‹_› ‹_› | exact bJ_c ho hz ‹_› ‹_› (.inl ‹_›) | exact bJ_c ho hz ‹_› ‹_› (.inr ‹_›) | exact bJ_d ho hz ‹_› ‹_› ‹_› ‹_›),hM22,hI23,(hE1.trans hE24),H_.drop⟩
   ·
    refine xcv rfl (dff cc18) <| xgk rfl <| xbj ?_
    refine xhw 6 [] mixed (by kernel_rfl) (Nat.le_of_ble_eq_true rfl) ?_
    refine wo (xax (v:=.pointer (some ⟨bC,0,none⟩)) rfl) <| wt (xkq rfl) (tm':=zq1 (zq2 (zq32 (zq32 (zq32 []))))) rfl <| wo (xaw zsj rfl (a':=⟨bC,3,none⟩) rfl) ?_
    refine xfq mn (fun h_ H_=>xbx H_ wqq rfl (i:=5) rfl (v:=.map (some bM)) rfl) (tm':=zq1 (zq2 (zq32 (zq32 (zq32 []))))) rfl ?_
    refine wd (fun h_ H_=>xbk H_ yoz ybx rfl (i:=4) rfl (vs:=[.int .i64 (((i:Nat):Int)),.int .i64 (L.getD 0 0),.int .i64 (L.getD 1 0),.int .i64 (L.getD 2 0),.int .i64 (L.getD 3 0),.int .i64 (L.getD 4 0),.int .i64 (L.getD 5 0),.int .i64 (L.getD 6 0),.int .i64 (L.getD 7 0)]) rfl rfl) ?_
    refine xfq mn (fun h_ H_=>xbk H_ zok ybq rfl (i:=1) rfl (vs:=[.int .i64 (o.1),.int .i64 (o.2)]) rfl rfl) (tm':=zq1 (zq2 (zq32 (zq32 (zq32 []))))) rfl ?_
    refine xlq rfl ?_
    refine zpz (z:=o) (key:=(key i L)) zxq rfl mn Tryz.underlying134 (i:=6) rfl hM1 rfl rfl rfl (HExt.none hE1 (miss ‹_›)) fun ob29 o30=>xcz (L':=([(b13,.cells #[.int .i64 ((r.sts.getD i sz).has),.int .i64 ((r.sts.getD i sz).lo),.int .i64 ((r.sts.getD i sz).hi),.int .i64 ((r.sts.getD i sz).cost)] 91 (0,0)),(b10,.cells #[.int .i64 (o.1),.int .i64 (o.2)] 138 (0,0)),(b6,.cells #[.int .i64 (((findK kn (key i L)).getD (0,0)).1),.int .i64 (((findK kn (key i L)).getD (0,0)).2)] 138 (0,0)),(b2,.cells #[.int .i64 0,.int .i64 0] 138 (0,0)),(b1,.cells #[.int .i64 (((i:Nat):Int)),.int .i64 (L.getD 0 0),.int .i64 (L.getD 1 0),.int .i64 (L.getD 2 0),.int .i64 (L.getD 3 0),.int .i64 (L.getD 4 0),.int .i64 (L.getD 5 0),.int .i64 (L.getD 6 0),.int .i64 (L.getD 7 0)] 132 (0,0)),(bC,.cells #[.slice a r.room.length ca,.slice b r.sts.length cb,.func (.func 52) #[] #[],.map (some bM)] 136 (0,0)),(bM,ob29)]:Pcs)++(X₀++[])) rfl ?_
    refine ren <| xav <| rd (fun h_ H_=>xbk H_ zok ybq rfl (i:=1) rfl (vs:=[.int .i64 (o.1),.int .i64 (o.2)]) rfl rfl) ?_
    refine xfv mn ybq rfl (v:=.agg #[.int .i64 (o.1),.int .i64 (o.2)]) rfl (i:=3) rfl rfl rfl (Nat.le_of_ble_eq_true rfl) (cs2:=[.int .i64 (o.1),.int .i64 (o.2)]) rfl (xcz (L':=([(b13,.cells #[.int .i64 ((r.sts.getD i sz).has),.int .i64 ((r.sts.getD i sz).lo),.int .i64 ((r.sts.getD i sz).hi),.int .i64 ((r.sts.getD i sz).cost)] 91 (0,0)),(b10,.cells #[.int .i64 (o.1),.int .i64 (o.2)] 138 (0,0)),(b6,.cells #[.int .i64 (((findK kn (key i L)).getD (0,0)).1),.int .i64 (((findK kn (key i L)).getD (0,0)).2)] 138 (0,0)),(b2,.cells #[.int .i64 (o.1),.int .i64 (o.2)] 138 (0,0)),(b1,.cells #[.int .i64 (((i:Nat):Int)),.int .i64 (L.getD 0 0),.int .i64 (L.getD 1 0),.int .i64 (L.getD 2 0),.int .i64 (L.getD 3 0),.int .i64 (L.getD 4 0),.int .i64 (L.getD 5 0),.int .i64 (L.getD 6 0),.int .i64 (L.getD 7 0)] 132 (0,0)),(bC,.cells #[.slice a r.room.length ca,.slice b r.sts.length cb,.func (.func 52) #[] #[],.map (some bM)] 136 (0,0)),(bM,ob29)]:Pcs)++(X₀++[])) rfl ?_)
    refine xak ?_
    refine xcj Tryz.func83 rfl (vs:=[.agg #[.int .i64 (o.1),.int .i64 (o.2)]]) (fun h_ H_=>⟨.agg #[.int .i64 (o.1),.int .i64 (o.2)],_,rfl,(xbq (xbz (xij zok ybq (vs:=[.int .i64 (o.1),.int .i64 (o.2)]) rfl (fun j_ v_ e_=>by rw [xjv];exact H_.ocell (i:=3) rfl (by simpa using e_)) ⟨rfl,rfl⟩))),rfl⟩) (v:=.agg #[.int .i64 (o.1),.int .i64 (o.2)]) rfl ?_
    have eo_:=whv (by omega) ho (by omega)
    exact fun h_ H_=>K _ _ ⟨_,_,by rw [eo_],o30,eo_ ▸ hI1.snoc hL.1,hE1.snoc L o,H_.drop.drop.drop.drop.drop⟩
theorem c83 (md:Md) (p:PHeap) (a:Option Addr) (ca:Nat) (b:Option Addr) (cb:Nat) (r:Rst) (R:RstP p a r.room.length b r.sts.length r) (hB:rosB r) (bC bM:Nat) (hn:r.room.length≤40∧r.sts.length≤40): ∀ (d i:Nat),i+d=r.sts.length→BestC md p a ca b cb r bC bM i
 | 0,i,e=>fun h h₀ B₀ L kn ob X₀ hL hM hI s=>b83 md h h₀ B₀ p a ca b cb r R hn hB bC bM i (by omega) (fun z=>absurd z (by omega)) L hL kn ob hM hI X₀ s
 | d+1,i,e=>fun h h₀ B₀ L kn ob X₀ hL hM hI s=>b83 md h h₀ B₀ p a ca b cb r R hn hB bC bM i (by omega) (fun _=>c83 md p a ca b cb r R hB bC bM hn d (i+1) (by omega)) L hL kn ob hM hI X₀ s
end Go.Proofs.YtphalmjpbnffcaaGreatDoor
namespace Go.Proofs.YtphalmjpbnffcaaGreatDoor
open Go.X Go.X.Kn Go.X.Hr Go.Conc
set_option maxRecDepth 10000
set_option synthInstance.maxSize 2000

set_option maxHeartbeats 2000000
theorem c80 (md:Md) (h h₀:Heap) (B₀:List Nat) (p:PHeap) (a:Option Addr) (ca:Nat) (b:Option Addr) (cb:Nat) (r:Rst) (R:RstP p a r.room.length b r.sts.length r) (hn:r.room.length≤40∧r.sts.length≤40) (hB:rosB r) (bC bM:Nat) (kn:Ms) (ob:Obj) (hM:MapK 9 kn ob) (hI:HInv r kn) (X₀:Pcs) (s₀:St h₀ B₀ p h (([(bC,.cells #[.slice a r.room.length ca,.slice b r.sts.length cb,.func (.func 52) #[] #[],.map (some bM)] 136 (0,0)),(bM,ob)]:Pcs)++(X₀++[]))):CallsX Tryz.prog md 80 #[.pointer (some ⟨bC,0,none⟩)] h fun v_ h'=>∃ (ms_:Ms) (ob_:Obj),v_= .tuple #[.int .i64 (bestF r.sts r.room).1,.bool (decide (0≤(bestF r.sts r.room).2))]∧MapK 9 ms_ ob_∧HInv r ms_∧St h₀ B₀ p h' (([(bC,.cells #[.slice a r.room.length ca,.slice b r.sts.length cb,.func (.func 52) #[] #[],.map (some bM)] 136 (0,0)),(bM,ob_)]:Pcs)++(X₀++[])):=by
 refine xbv (Φ:=fun h_=>St h₀ B₀ p h_ (([(bC,.cells #[.slice a r.room.length ca,.slice b r.sts.length cb,.func (.func 52) #[] #[],.map (some bM)] 136 (0,0)),(bM,ob)]:Pcs)++(X₀++[]))) Tryz.func80 rfl (tm:=zq2 (zq4 (zq8 []))) rfl ?_ s₀
 intro c₀ cs Stop K
 have hb8:=hB.1
 have hb6:=hB.2.2.1
 refine fsr <| ro (xaq (v:=.int .i64 0) rfl) <| ro (xaq (v:=.bool (false)) rfl) <| ren <| xav <| rt (xax (v:=.pointer (some ⟨bC,0,none⟩)) rfl) (tm':=zq2 (zq4 _)) rfl ?_
 refine ro (xax (v:=.pointer (some ⟨bC,0,none⟩)) rfl) ?_
 refine xgv mn (first:=[]) (cap:=[]) rfl rfl fC82 (fun h_ H_=>(show CallsX _ md 82 _ _ (fun v_ h_=>v_= .agg #[.int .i64 0,.int .i64 (r.room.getD 0 0),.int .i64 (r.room.getD 1 0),.int .i64 (r.room.getD 2 0),.int .i64 (r.room.getD 3 0),.int .i64 (r.room.getD 4 0),.int .i64 (r.room.getD 5 0),.int .i64 (r.room.getD 6 0),.int .i64 (r.room.getD 7 0)]∧St h₀ B₀ p h_ (([]:Pcs)++(([(bC,.cells #[.slice a r.room.length ca,.slice b r.sts.length cb,.func (.func 52) #[] #[],.map (some bM)] 136 (0,0))]:Pcs)++(([(bM,ob)]:Pcs)++(X₀++[]))))) from (c82 md h_ h₀ B₀ p _ _ _ _ r R bC bM (([]:Pcs)++(([(bM,ob)]:Pcs)++(X₀++[]))) hB.1 (St.mid (A:=([]:Pcs)) (B:=([(bC,.cells #[.slice a r.room.length ca,.slice b r.sts.length cb,.func (.func 52) #[] #[],.map (some bM)] 136 (0,0))]:Pcs)) (X:=(([(bM,ob)]:Pcs)++(X₀++[]))) H_)).mono fun v_ h2_ ⟨e_,s_⟩=>⟨e_,St.mid' (A:=([]:Pcs)) (X:=(([(bM,ob)]:Pcs)++(X₀++[]))) s_⟩)) ?_
 refine fun v_=>xez fun ev_=>?_
 subst ev_
 refine xcz (L':=([(bC,.cells #[.slice a r.room.length ca,.slice b r.sts.length cb,.func (.func 52) #[] #[],.map (some bM)] 136 (0,0)),(bM,ob)]:Pcs)++(X₀++[])) rfl ?_
 refine xgv mn (first:=[]) (cap:=[]) rfl rfl fC83 (fun h_ H_=>(show CallsX _ md 83 _ _ (fun v_ h_=>∃ (ms_:Ms) (ob_:Obj),v_= .agg #[.int .i64 ((bestF (r.sts.drop 0) r.room).1),.int .i64 ((bestF (r.sts.drop 0) r.room).2)]∧MapK 9 ms_ ob_∧HInv r ms_∧HExt 0 kn ms_∧St h₀ B₀ p h_ (([]:Pcs)++(([(bC,.cells #[.slice a r.room.length ca,.slice b r.sts.length cb,.func (.func 52) #[] #[],.map (some bM)] 136 (0,0)),(bM,ob_)]:Pcs)++(X₀++[])))) from (c83 md p _ _ _ _ r R hB bC bM hn (r.sts.length-0) 0 (by omega) h_ h₀ B₀ r.room kn ob (([]:Pcs)++(X₀++[])) ⟨rfl,ytx hB⟩ hM hI (St.mid (A:=([]:Pcs)) (B:=([(bC,.cells #[.slice a r.room.length ca,.slice b r.sts.length cb,.func (.func 52) #[] #[],.map (some bM)] 136 (0,0)),(bM,ob)]:Pcs)) (X:=(X₀++[])) H_)).mono fun v_ h2_ ⟨ms_,ob_,e_,m_,i_,x_,s_⟩=>⟨ms_,ob_,e_,m_,i_,x_,St.mid' (A:=([]:Pcs)) (X:=(X₀++[])) s_⟩)) ?_
 refine fun v_=>xgx fun ms1=>xgx fun ob2=>xez fun ev_=>xez fun hM3=>xez fun hI4=>xez fun hE5=>?_
 subst ev_
 refine xcz (L':=([(bC,.cells #[.slice a r.room.length ca,.slice b r.sts.length cb,.func (.func 52) #[] #[],.map (some bM)] 136 (0,0)),(bM,ob2)]:Pcs)++(X₀++[])) rfl ?_
 refine xfz (tm':=zq1 (zq8 _)) rfl ?_
 refine xjj mn yox rfl fun b6=>xcz (L':=([(b6,.cells #[.int .i64 0,.int .i64 0] 138 (0,0)),(bC,.cells #[.slice a r.room.length ca,.slice b r.sts.length cb,.func (.func 52) #[] #[],.map (some bM)] 136 (0,0)),(bM,ob2)]:Pcs)++(X₀++[])) rfl ?_
 refine xfv mn ybq rfl (v:=.agg #[.int .i64 ((bestF (r.sts.drop 0) r.room).1),.int .i64 ((bestF (r.sts.drop 0) r.room).2)]) rfl (i:=0) rfl rfl rfl (Nat.le_of_ble_eq_true rfl) (cs2:=[.int .i64 ((bestF (r.sts.drop 0) r.room).1),.int .i64 ((bestF (r.sts.drop 0) r.room).2)]) rfl (xcz (L':=([(b6,.cells #[.int .i64 ((bestF (r.sts.drop 0) r.room).1),.int .i64 ((bestF (r.sts.drop 0) r.room).2)] 138 (0,0)),(bC,.cells #[.slice a r.room.length ca,.slice b r.sts.length cb,.func (.func 52) #[] #[],.map (some bM)] 136 (0,0)),(bM,ob2)]:Pcs)++(X₀++[])) rfl ?_)
 refine ren ?_
 refine xhw 6 [] mixed (by kernel_rfl) (Nat.le_of_ble_eq_true rfl) ?_
 refine wt (xaw zdv rfl (a':=⟨b6,0,none⟩) rfl) (tm':=zq2 (zq4 (zq8 []))) rfl <| wd (fun h_ H_=>xbx H_ tA3 rfl (i:=0) rfl (v:=.int .i64 ((bestF (r.sts.drop 0) r.room).1)) rfl) <| wt (xaw zdk rfl (a':=⟨b6,1,none⟩) rfl) (tm':=zq2 (zq4 (zq8 []))) rfl <| wd (fun h_ H_=>xbx H_ tA3 rfl (i:=0) rfl (v:=.int .i64 ((bestF (r.sts.drop 0) r.room).2)) rfl) <| wt (xuq rfl rfl) (tm':=zq2 (zq4 (zq8 []))) rfl <| wo (xaq (v:=.int .i64 ((bestF (r.sts.drop 0) r.room).1)) rfl) ?_
 refine xlq rfl ?_
 refine ro (xaq (v:=.bool (decide (0≤(bestF (r.sts.drop 0) r.room).2))) rfl) <| xak ?_
 refine xcj Tryz.func80 rfl (vs:=[.int .i64 ((bestF (r.sts.drop 0) r.room).1),.bool (decide (0≤(bestF (r.sts.drop 0) r.room).2))]) (fun h_ H_=>⟨.int .i64 ((bestF (r.sts.drop 0) r.room).1),_,rfl,rfl,⟨.bool (decide (0≤(bestF (r.sts.drop 0) r.room).2)),_,rfl,rfl,rfl⟩⟩) (v:=.tuple #[.int .i64 ((bestF (r.sts.drop 0) r.room).1),.bool (decide (0≤(bestF (r.sts.drop 0) r.room).2))]) rfl ?_
 exact fun h_ H_=>K _ _ ⟨_,_,rfl,hM3,hI4,H_.drop⟩
theorem c53 (md:Md) (h h₀:Heap) (B₀:List Nat) (p:PHeap) (a:Option Addr) (ca:Nat) (b:Option Addr) (cb:Nat) (r:Rst) (R:RstP p a r.room.length b r.sts.length r) (hn:r.room.length≤40∧r.sts.length≤40) (hB:rosB r) (bC bM:Nat) (kn:Ms) (ob:Obj) (hM:MapK 9 kn ob) (hI:HInv r kn) (X₀:Pcs) (hne:0≤(bestF r.sts r.room).2) (s₀:St h₀ B₀ p h (([(bC,.cells #[.slice a r.room.length ca,.slice b r.sts.length cb,.func (.func 52) #[] #[],.map (some bM)] 136 (0,0)),(bM,ob)]:Pcs)++(X₀++[]))):CallsX Tryz.prog md 53 #[.pointer (some ⟨bC,0,none⟩)] h fun v_ h'=>∃ (w:Value) (X:Pcs) (ms_:Ms) (ob_:Obj),v_=w∧OwnS 3 1 w (ics (rosF r.sts r.room)) X∧MapK 9 ms_ ob_∧HInv r ms_∧St h₀ B₀ p h' (([(bC,.cells #[.slice a r.room.length ca,.slice b r.sts.length cb,.func (.func 52) #[] #[],.map (some bM)] 136 (0,0)),(bM,ob_)]:Pcs)++(X++(X₀++[]))):=by
 refine xbv (Φ:=fun h_=>St h₀ B₀ p h_ (([(bC,.cells #[.slice a r.room.length ca,.slice b r.sts.length cb,.func (.func 52) #[] #[],.map (some bM)] 136 (0,0)),(bM,ob)]:Pcs)++(X₀++[]))) Tryz.func53 rfl (tm:=zq2 (zq4 (zq8 (zq16 [])))) rfl ?_ s₀
 intro c₀ cs Stop K
 have hb8:=hB.1
 have hb6:=hB.2.2.1
 refine fsr <| rt (xaq (v:=.slice none 0 0) rfl) (tm':=_::_::_::_) rfl <| ren <| xav <| ro (xaq (v:=.slice none 0 0) rfl) <| ren ?_
 refine fsr <| ro (xax (v:=.pointer (some ⟨bC,0,none⟩)) rfl) ?_
 refine xgv mn (first:=[]) (cap:=[]) rfl rfl fC82 (fun h_ H_=>(show CallsX _ md 82 _ _ (fun v_ h_=>v_= .agg #[.int .i64 0,.int .i64 (r.room.getD 0 0),.int .i64 (r.room.getD 1 0),.int .i64 (r.room.getD 2 0),.int .i64 (r.room.getD 3 0),.int .i64 (r.room.getD 4 0),.int .i64 (r.room.getD 5 0),.int .i64 (r.room.getD 6 0),.int .i64 (r.room.getD 7 0)]∧St h₀ B₀ p h_ (([]:Pcs)++(([(bC,.cells #[.slice a r.room.length ca,.slice b r.sts.length cb,.func (.func 52) #[] #[],.map (some bM)] 136 (0,0))]:Pcs)++(([(bM,ob)]:Pcs)++(X₀++[]))))) from (c82 md h_ h₀ B₀ p _ _ _ _ r R bC bM (([]:Pcs)++(([(bM,ob)]:Pcs)++(X₀++[]))) hB.1 (St.mid (A:=([]:Pcs)) (B:=([(bC,.cells #[.slice a r.room.length ca,.slice b r.sts.length cb,.func (.func 52) #[] #[],.map (some bM)] 136 (0,0))]:Pcs)) (X:=(([(bM,ob)]:Pcs)++(X₀++[]))) H_)).mono fun v_ h2_ ⟨e_,s_⟩=>⟨e_,St.mid' (A:=([]:Pcs)) (X:=(([(bM,ob)]:Pcs)++(X₀++[]))) s_⟩)) ?_
 refine fun v_=>xez fun ev_=>?_
 subst ev_
 refine xcz (L':=([(bC,.cells #[.slice a r.room.length ca,.slice b r.sts.length cb,.func (.func 52) #[] #[],.map (some bM)] 136 (0,0)),(bM,ob)]:Pcs)++(X₀++[])) rfl ?_
 refine xfz (tm':=zq8 _) rfl ?_
 refine xjj mn wbw rfl fun b1=>xcz (L':=([(b1,.cells #[.int .i64 0,.int .i64 0,.int .i64 0,.int .i64 0,.int .i64 0,.int .i64 0,.int .i64 0,.int .i64 0,.int .i64 0] 132 (0,0)),(bC,.cells #[.slice a r.room.length ca,.slice b r.sts.length cb,.func (.func 52) #[] #[],.map (some bM)] 136 (0,0)),(bM,ob)]:Pcs)++(X₀++[])) rfl ?_
 refine xfv mn ybx rfl (v:=.agg #[.int .i64 0,.int .i64 (r.room.getD 0 0),.int .i64 (r.room.getD 1 0),.int .i64 (r.room.getD 2 0),.int .i64 (r.room.getD 3 0),.int .i64 (r.room.getD 4 0),.int .i64 (r.room.getD 5 0),.int .i64 (r.room.getD 6 0),.int .i64 (r.room.getD 7 0)]) rfl (i:=0) rfl rfl rfl (Nat.le_of_ble_eq_true rfl) (cs2:=[.int .i64 0,.int .i64 (r.room.getD 0 0),.int .i64 (r.room.getD 1 0),.int .i64 (r.room.getD 2 0),.int .i64 (r.room.getD 3 0),.int .i64 (r.room.getD 4 0),.int .i64 (r.room.getD 5 0),.int .i64 (r.room.getD 6 0),.int .i64 (r.room.getD 7 0)]) rfl (xcz (L':=([(b1,.cells #[.int .i64 0,.int .i64 (r.room.getD 0 0),.int .i64 (r.room.getD 1 0),.int .i64 (r.room.getD 2 0),.int .i64 (r.room.getD 3 0),.int .i64 (r.room.getD 4 0),.int .i64 (r.room.getD 5 0),.int .i64 (r.room.getD 6 0),.int .i64 (r.room.getD 7 0)] 132 (0,0)),(bC,.cells #[.slice a r.room.length ca,.slice b r.sts.length cb,.func (.func 52) #[] #[],.map (some bM)] 136 (0,0)),(bM,ob)]:Pcs)++(X₀++[])) rfl ?_)
 refine xak <| xeq ?_
 refine xhk (m₀:=r.sts.length-0) (fun m_ tm_ h_=>∃ (i:Nat) (b_:Nat) (w_:Value) (X1:Pcs) (ms1:Ms) (ob1:Obj),m_=r.sts.length-i∧(∃ y2:Nat→Value,tm_=[.pointer (some ⟨bC,0,none⟩),undef,.slice none 0 0,w_,.pointer (some ⟨b_,0,none⟩),(y2 5),.pointer (some ⟨bC,0,none⟩),.agg #[.int .i64 0,.int .i64 (r.room.getD 0 0),.int .i64 (r.room.getD 1 0),.int .i64 (r.room.getD 2 0),.int .i64 (r.room.getD 3 0),.int .i64 (r.room.getD 4 0),.int .i64 (r.room.getD 5 0),.int .i64 (r.room.getD 6 0),.int .i64 (r.room.getD 7 0)],(y2 8),(y2 9),(y2 10),(y2 11),(y2 12),(y2 13),(y2 14),(y2 15),(y2 16),(y2 17),(y2 18),(y2 19),(y2 20),(y2 21),(y2 22),(y2 23),(y2 24),(y2 25),(y2 26),(y2 27),(y2 28),undef])∧(i≤r.sts.length)∧(MapK 9 ms1 ob1)∧(HInv r ms1)∧(OwnS 3 1 w_ (ics ((rosF r.sts r.room).take i)) X1)∧St h₀ B₀ p h_ (([(b_,.cells #[.int .i64 (((i:Nat):Int)),.int .i64 ((lftF r i).getD 0 0),.int .i64 ((lftF r i).getD 1 0),.int .i64 ((lftF r i).getD 2 0),.int .i64 ((lftF r i).getD 3 0),.int .i64 ((lftF r i).getD 4 0),.int .i64 ((lftF r i).getD 5 0),.int .i64 ((lftF r i).getD 6 0),.int .i64 ((lftF r i).getD 7 0)] 132 (0,0)),(bC,.cells #[.slice a r.room.length ca,.slice b r.sts.length cb,.func (.func 52) #[] #[],.map (some bM)] 136 (0,0)),(bM,ob1)]:Pcs)++(X1++(X₀++[])))) (fun h_ H_=>⟨0,b1,(.slice none 0 0),[],kn,ob,rfl,(y_of rfl),Nat.zero_le _,hM,hI,(OwnS.empty _ _),H_⟩) ?_
 intro m_ tm_ IH3
 refine xhq fun i=>xhq fun b_=>xhq fun w_=>xhq fun X1=>xhq fun ms1=>xhq fun ob1=>xdj fun hm_=>xdj fun ht_=>xdj fun hi=>xdj fun hM1=>xdj fun hI1=>xdj fun o1=>?_
 subst hm_;obtain ⟨y2,ht_⟩:=ht_;subst ht_
 have hLr:=wdx hB hne hi
 have hl8:=hLr.1
 refine xbj <| xbj ?_
 refine xhw 8 [[],[0],[],[2],[2,3],[2,3,4],[2,3,4,5],[2,3,4,5,6],[]] mixed (by kernel_rfl) (Nat.le_of_ble_eq_true rfl) ?_
 refine wt (xaw ykk rfl (a':=⟨b_,0,none⟩) rfl) (tm':=zq1 (zq8 _)) rfl <| wd (fun h_ H_=>xbx H_ tA3 rfl (i:=0) rfl (v:=.int .i64 (((i:Nat):Int))) rfl) <| wt (xax (v:=.pointer (some ⟨bC,0,none⟩)) rfl) (tm':=zq1 (zq2 (zq8 _))) rfl <| wo (xkq rfl) <| wt (xaw yrk rfl (a':=⟨bC,0,none⟩) rfl) (tm':=zq1 (zq4 (zq8 _))) rfl <| wo (xaw xoq rfl (a':=⟨bC,1,none⟩) rfl) ?_
 refine xfq mn (fun h_ H_=>xbx H_ tA49 rfl (i:=1) rfl (v:=.slice b r.sts.length cb) rfl) (tm':=zq1 (zq2 (zq4 (zq8 _)))) rfl ?_
 refine wo (xfj Tryz.underlying49 rfl) ?_
 refine xlq rfl ?_
 refine ro (xfk rfl rfl) <| xak ?_
 by_cases cc4:((i:Nat):Int)<((r.sts.length:Nat):Int)
 ·
  refine xcx rfl (dtt cc4) <| xdz <| xbj <| xeq <| fsr <| ro (xax (v:=.pointer (some ⟨bC,0,none⟩)) rfl) ?_
  refine xaj mn (fun h_ H_=>xbk H_ yoz ybx rfl (i:=0) rfl (vs:=[.int .i64 (((i:Nat):Int)),.int .i64 ((lftF r i).getD 0 0),.int .i64 ((lftF r i).getD 1 0),.int .i64 ((lftF r i).getD 2 0),.int .i64 ((lftF r i).getD 3 0),.int .i64 ((lftF r i).getD 4 0),.int .i64 ((lftF r i).getD 5 0),.int .i64 ((lftF r i).getD 6 0),.int .i64 ((lftF r i).getD 7 0)]) rfl rfl) (tm':=zq1 (zq2 (zq16 _))) rfl ?_
  refine xgv mn (first:=[]) (cap:=[]) rfl rfl fC83 (fun h_ H_=>(show CallsX _ md 83 _ _ (fun v_ h_=>∃ (ms_:Ms) (ob_:Obj),v_= .agg #[.int .i64 ((bestF (r.sts.drop i) (lftF r i)).1),.int .i64 ((bestF (r.sts.drop i) (lftF r i)).2)]∧MapK 9 ms_ ob_∧HInv r ms_∧HExt i ms1 ms_∧St h₀ B₀ p h_ (([(b_,.cells #[.int .i64 (((i:Nat):Int)),.int .i64 ((lftF r i).getD 0 0),.int .i64 ((lftF r i).getD 1 0),.int .i64 ((lftF r i).getD 2 0),.int .i64 ((lftF r i).getD 3 0),.int .i64 ((lftF r i).getD 4 0),.int .i64 ((lftF r i).getD 5 0),.int .i64 ((lftF r i).getD 6 0),.int .i64 ((lftF r i).getD 7 0)] 132 (0,0))]:Pcs)++(([(bC,.cells #[.slice a r.room.length ca,.slice b r.sts.length cb,.func (.func 52) #[] #[],.map (some bM)] 136 (0,0)),(bM,ob_)]:Pcs)++(X1++(X₀++[]))))) from (c83 md p _ _ _ _ r R hB bC bM hn (r.sts.length-i) i (by omega) h_ h₀ B₀ (lftF r i) ms1 ob1 (([(b_,.cells #[.int .i64 (((i:Nat):Int)),.int .i64 ((lftF r i).getD 0 0),.int .i64 ((lftF r i).getD 1 0),.int .i64 ((lftF r i).getD 2 0),.int .i64 ((lftF r i).getD 3 0),.int .i64 ((lftF r i).getD 4 0),.int .i64 ((lftF r i).getD 5 0),.int .i64 ((lftF r i).getD 6 0),.int .i64 ((lftF r i).getD 7 0)] 132 (0,0))]:Pcs)++(X1++(X₀++[]))) hLr hM1 hI1 (St.mid (A:=([(b_,.cells #[.int .i64 (((i:Nat):Int)),.int .i64 ((lftF r i).getD 0 0),.int .i64 ((lftF r i).getD 1 0),.int .i64 ((lftF r i).getD 2 0),.int .i64 ((lftF r i).getD 3 0),.int .i64 ((lftF r i).getD 4 0),.int .i64 ((lftF r i).getD 5 0),.int .i64 ((lftF r i).getD 6 0),.int .i64 ((lftF r i).getD 7 0)] 132 (0,0))]:Pcs)) (B:=([(bC,.cells #[.slice a r.room.length ca,.slice b r.sts.length cb,.func (.func 52) #[] #[],.map (some bM)] 136 (0,0)),(bM,ob1)]:Pcs)) (X:=(X1++(X₀++[]))) H_)).mono fun v_ h2_ ⟨ms_,ob_,e_,m_,i_,x_,s_⟩=>⟨ms_,ob_,e_,m_,i_,x_,St.mid' (A:=([(b_,.cells #[.int .i64 (((i:Nat):Int)),.int .i64 ((lftF r i).getD 0 0),.int .i64 ((lftF r i).getD 1 0),.int .i64 ((lftF r i).getD 2 0),.int .i64 ((lftF r i).getD 3 0),.int .i64 ((lftF r i).getD 4 0),.int .i64 ((lftF r i).getD 5 0),.int .i64 ((lftF r i).getD 6 0),.int .i64 ((lftF r i).getD 7 0)] 132 (0,0))]:Pcs)) (X:=(X1++(X₀++[]))) s_⟩)) ?_
  refine fun v_=>xgx fun ms5=>xgx fun ob6=>xez fun ev_=>xez fun hM7=>xez fun hI8=>xez fun hE9=>?_
  subst ev_
  refine xcz (L':=([(b_,.cells #[.int .i64 (((i:Nat):Int)),.int .i64 ((lftF r i).getD 0 0),.int .i64 ((lftF r i).getD 1 0),.int .i64 ((lftF r i).getD 2 0),.int .i64 ((lftF r i).getD 3 0),.int .i64 ((lftF r i).getD 4 0),.int .i64 ((lftF r i).getD 5 0),.int .i64 ((lftF r i).getD 6 0),.int .i64 ((lftF r i).getD 7 0)] 132 (0,0)),(bC,.cells #[.slice a r.room.length ca,.slice b r.sts.length cb,.func (.func 52) #[] #[],.map (some bM)] 136 (0,0)),(bM,ob6)]:Pcs)++(X1++(X₀++[]))) rfl ?_
  refine ro (zzz Tryz.underlying138 rfl rfl rfl tA3 rfl (v:=.int .i64 ((bestF (r.sts.drop i) (lftF r i)).2)) rfl) <| rt (xaq (v:=.int .i64 ((bestF (r.sts.drop i) (lftF r i)).2)) rfl) (tm':=zq2 (zq4 _)) rfl <| ren ?_
  have hsx_:=wdz hB hne (i:=i) (by omega)
  have hLz:=hLr.2 ((bestF (r.sts.drop i) (lftF r i)).2).toNat
  refine xav <| ro (xax (v:=w_) rfl) <| ro (xax (v:=.int .i64 ((bestF (r.sts.drop i) (lftF r i)).2)) rfl) ?_
  refine xhv ([(b_,.cells #[.int .i64 (((i:Nat):Int)),.int .i64 ((lftF r i).getD 0 0),.int .i64 ((lftF r i).getD 1 0),.int .i64 ((lftF r i).getD 2 0),.int .i64 ((lftF r i).getD 3 0),.int .i64 ((lftF r i).getD 4 0),.int .i64 ((lftF r i).getD 5 0),.int .i64 ((lftF r i).getD 6 0),.int .i64 ((lftF r i).getD 7 0)] 132 (0,0)),(bC,.cells #[.slice a r.room.length ca,.slice b r.sts.length cb,.func (.func 52) #[] #[],.map (some bM)] 136 (0,0)),(bM,ob6)]:Pcs) mn Tryz.underlying26 tS3 tZ3 (Nat.le_of_ble_eq_true rfl) (vs:=[(0,.int .i64 ((bestF (r.sts.drop i) (lftF r i)).2))]) rfl rfl (es:=[[.int .i64 ((bestF (r.sts.drop i) (lftF r i)).2)]]) rfl rfl rfl fun v10 X11 o12=>?_
  refine xfz (tm':=zq2 (zq4 (zq8 (zq16 [])))) rfl ?_
  refine xjw (List.Perm.append_left _ (List.perm_append_comm_assoc _ _ _)) ?_
  refine xcz (L':=([(b_,.cells #[.int .i64 (((i:Nat):Int)),.int .i64 ((lftF r i).getD 0 0),.int .i64 ((lftF r i).getD 1 0),.int .i64 ((lftF r i).getD 2 0),.int .i64 ((lftF r i).getD 3 0),.int .i64 ((lftF r i).getD 4 0),.int .i64 ((lftF r i).getD 5 0),.int .i64 ((lftF r i).getD 6 0),.int .i64 ((lftF r i).getD 7 0)] 132 (0,0)),(bC,.cells #[.slice a r.room.length ca,.slice b r.sts.length cb,.func (.func 52) #[] #[],.map (some bM)] 136 (0,0)),(bM,ob6)]:Pcs)++(X1++(X11++(X₀++[])))) rfl ?_
  refine xkw ([(b_,.cells #[.int .i64 (((i:Nat):Int)),.int .i64 ((lftF r i).getD 0 0),.int .i64 ((lftF r i).getD 1 0),.int .i64 ((lftF r i).getD 2 0),.int .i64 ((lftF r i).getD 3 0),.int .i64 ((lftF r i).getD 4 0),.int .i64 ((lftF r i).getD 5 0),.int .i64 ((lftF r i).getD 6 0),.int .i64 ((lftF r i).getD 7 0)] 132 (0,0)),(bC,.cells #[.slice a r.room.length ca,.slice b r.sts.length cb,.func (.func 52) #[] #[],.map (some bM)] 136 (0,0)),(bM,ob6)]:Pcs) X1 X11 mn Tryz.underlying26 tS3 tZ3 rfl tB3 Tryz.underlying26 rfl rfl o1 o12 (xrk rfl) (by rw [xhj,List.length_take,xpj];show (_+1)*_≤_;omega) (by decide) fun v13 X14 o15=>?_
  refine ro (xaq (v:=v13) rfl) <| xak <| xav ?_
  refine xaj mn (fun h_ H_=>xbk H_ yoz ybx rfl (i:=0) rfl (vs:=[.int .i64 (((i:Nat):Int)),.int .i64 ((lftF r i).getD 0 0),.int .i64 ((lftF r i).getD 1 0),.int .i64 ((lftF r i).getD 2 0),.int .i64 ((lftF r i).getD 3 0),.int .i64 ((lftF r i).getD 4 0),.int .i64 ((lftF r i).getD 5 0),.int .i64 ((lftF r i).getD 6 0),.int .i64 ((lftF r i).getD 7 0)]) rfl rfl) (tm':=zq2 (zq4 (zq8 (zq16 [])))) rfl ?_
  refine ro (xax (v:=.int .i64 ((bestF (r.sts.drop i) (lftF r i)).2)) rfl) ?_
  refine xcw mn (first:=[]) (cap:=[]) rfl rfl fC84 (fun h_ H_=>c84 md _ ((i:Nat):Int) (lftF r i) ((bestF (r.sts.drop i) (lftF r i)).2) (by omega) (by omega) (by omega) (by omega)) rfl ?_
  refine xfv mn ybx rfl (v:=.agg #[.int .i64 (((i+1:Nat):Int)),.int .i64 ((less (lftF r i) ((bestF (r.sts.drop i) (lftF r i)).2)).getD 0 0),.int .i64 ((less (lftF r i) ((bestF (r.sts.drop i) (lftF r i)).2)).getD 1 0),.int .i64 ((less (lftF r i) ((bestF (r.sts.drop i) (lftF r i)).2)).getD 2 0),.int .i64 ((less (lftF r i) ((bestF (r.sts.drop i) (lftF r i)).2)).getD 3 0),.int .i64 ((less (lftF r i) ((bestF (r.sts.drop i) (lftF r i)).2)).getD 4 0),.int .i64 ((less (lftF r i) ((bestF (r.sts.drop i) (lftF r i)).2)).getD 5 0),.int .i64 ((less (lftF r i) ((bestF (r.sts.drop i) (lftF r i)).2)).getD 6 0),.int .i64 ((less (lftF r i) ((bestF (r.sts.drop i) (lftF r i)).2)).getD 7 0)]) rfl (i:=0) rfl rfl rfl (Nat.le_of_ble_eq_true rfl) (cs2:=[.int .i64 (((i+1:Nat):Int)),.int .i64 ((less (lftF r i) ((bestF (r.sts.drop i) (lftF r i)).2)).getD 0 0),.int .i64 ((less (lftF r i) ((bestF (r.sts.drop i) (lftF r i)).2)).getD 1 0),.int .i64 ((less (lftF r i) ((bestF (r.sts.drop i) (lftF r i)).2)).getD 2 0),.int .i64 ((less (lftF r i) ((bestF (r.sts.drop i) (lftF r i)).2)).getD 3 0),.int .i64 ((less (lftF r i) ((bestF (r.sts.drop i) (lftF r i)).2)).getD 4 0),.int .i64 ((less (lftF r i) ((bestF (r.sts.drop i) (lftF r i)).2)).getD 5 0),.int .i64 ((less (lftF r i) ((bestF (r.sts.drop i) (lftF r i)).2)).getD 6 0),.int .i64 ((less (lftF r i) ((bestF (r.sts.drop i) (lftF r i)).2)).getD 7 0)]) rfl (xcz (L':=([(b_,.cells #[.int .i64 (((i+1:Nat):Int)),.int .i64 ((less (lftF r i) ((bestF (r.sts.drop i) (lftF r i)).2)).getD 0 0),.int .i64 ((less (lftF r i) ((bestF (r.sts.drop i) (lftF r i)).2)).getD 1 0),.int .i64 ((less (lftF r i) ((bestF (r.sts.drop i) (lftF r i)).2)).getD 2 0),.int .i64 ((less (lftF r i) ((bestF (r.sts.drop i) (lftF r i)).2)).getD 3 0),.int .i64 ((less (lftF r i) ((bestF (r.sts.drop i) (lftF r i)).2)).getD 4 0),.int .i64 ((less (lftF r i) ((bestF (r.sts.drop i) (lftF r i)).2)).getD 5 0),.int .i64 ((less (lftF r i) ((bestF (r.sts.drop i) (lftF r i)).2)).getD 6 0),.int .i64 ((less (lftF r i) ((bestF (r.sts.drop i) (lftF r i)).2)).getD 7 0)] 132 (0,0)),(bC,.cells #[.slice a r.room.length ca,.slice b r.sts.length cb,.func (.func 52) #[] #[],.map (some bM)] 136 (0,0)),(bM,ob6)]:Pcs)++(X14++(X₀++[]))) rfl ?_)
  refine xak <| xex <| fsr ?_
  refine xaj mn (fun h_ H_=>xbk H_ yoz ybx rfl (i:=0) rfl (vs:=[.int .i64 (((i+1:Nat):Int)),.int .i64 ((less (lftF r i) ((bestF (r.sts.drop i) (lftF r i)).2)).getD 0 0),.int .i64 ((less (lftF r i) ((bestF (r.sts.drop i) (lftF r i)).2)).getD 1 0),.int .i64 ((less (lftF r i) ((bestF (r.sts.drop i) (lftF r i)).2)).getD 2 0),.int .i64 ((less (lftF r i) ((bestF (r.sts.drop i) (lftF r i)).2)).getD 3 0),.int .i64 ((less (lftF r i) ((bestF (r.sts.drop i) (lftF r i)).2)).getD 4 0),.int .i64 ((less (lftF r i) ((bestF (r.sts.drop i) (lftF r i)).2)).getD 5 0),.int .i64 ((less (lftF r i) ((bestF (r.sts.drop i) (lftF r i)).2)).getD 6 0),.int .i64 ((less (lftF r i) ((bestF (r.sts.drop i) (lftF r i)).2)).getD 7 0)]) rfl rfl) (tm':=zq2 (zq4 (zq8 (zq16 [])))) rfl ?_
  refine xak <| xav ?_
  refine xjj mn wbw rfl fun b16=>xcz (L':=([(b16,.cells #[.int .i64 0,.int .i64 0,.int .i64 0,.int .i64 0,.int .i64 0,.int .i64 0,.int .i64 0,.int .i64 0,.int .i64 0] 132 (0,0)),(b_,.cells #[.int .i64 (((i+1:Nat):Int)),.int .i64 ((less (lftF r i) ((bestF (r.sts.drop i) (lftF r i)).2)).getD 0 0),.int .i64 ((less (lftF r i) ((bestF (r.sts.drop i) (lftF r i)).2)).getD 1 0),.int .i64 ((less (lftF r i) ((bestF (r.sts.drop i) (lftF r i)).2)).getD 2 0),.int .i64 ((less (lftF r i) ((bestF (r.sts.drop i) (lftF r i)).2)).getD 3 0),.int .i64 ((less (lftF r i) ((bestF (r.sts.drop i) (lftF r i)).2)).getD 4 0),.int .i64 ((less (lftF r i) ((bestF (r.sts.drop i) (lftF r i)).2)).getD 5 0),.int .i64 ((less (lftF r i) ((bestF (r.sts.drop i) (lftF r i)).2)).getD 6 0),.int .i64 ((less (lftF r i) ((bestF (r.sts.drop i) (lftF r i)).2)).getD 7 0)] 132 (0,0)),(bC,.cells #[.slice a r.room.length ca,.slice b r.sts.length cb,.func (.func 52) #[] #[],.map (some bM)] 136 (0,0)),(bM,ob6)]:Pcs)++(X14++(X₀++[]))) rfl ?_
  refine xfv mn ybx rfl (v:=.agg #[.int .i64 (((i+1:Nat):Int)),.int .i64 ((less (lftF r i) ((bestF (r.sts.drop i) (lftF r i)).2)).getD 0 0),.int .i64 ((less (lftF r i) ((bestF (r.sts.drop i) (lftF r i)).2)).getD 1 0),.int .i64 ((less (lftF r i) ((bestF (r.sts.drop i) (lftF r i)).2)).getD 2 0),.int .i64 ((less (lftF r i) ((bestF (r.sts.drop i) (lftF r i)).2)).getD 3 0),.int .i64 ((less (lftF r i) ((bestF (r.sts.drop i) (lftF r i)).2)).getD 4 0),.int .i64 ((less (lftF r i) ((bestF (r.sts.drop i) (lftF r i)).2)).getD 5 0),.int .i64 ((less (lftF r i) ((bestF (r.sts.drop i) (lftF r i)).2)).getD 6 0),.int .i64 ((less (lftF r i) ((bestF (r.sts.drop i) (lftF r i)).2)).getD 7 0)]) rfl (i:=0) rfl rfl rfl (Nat.le_of_ble_eq_true rfl) (cs2:=[.int .i64 (((i+1:Nat):Int)),.int .i64 ((less (lftF r i) ((bestF (r.sts.drop i) (lftF r i)).2)).getD 0 0),.int .i64 ((less (lftF r i) ((bestF (r.sts.drop i) (lftF r i)).2)).getD 1 0),.int .i64 ((less (lftF r i) ((bestF (r.sts.drop i) (lftF r i)).2)).getD 2 0),.int .i64 ((less (lftF r i) ((bestF (r.sts.drop i) (lftF r i)).2)).getD 3 0),.int .i64 ((less (lftF r i) ((bestF (r.sts.drop i) (lftF r i)).2)).getD 4 0),.int .i64 ((less (lftF r i) ((bestF (r.sts.drop i) (lftF r i)).2)).getD 5 0),.int .i64 ((less (lftF r i) ((bestF (r.sts.drop i) (lftF r i)).2)).getD 6 0),.int .i64 ((less (lftF r i) ((bestF (r.sts.drop i) (lftF r i)).2)).getD 7 0)]) rfl (xcz (L':=([(b16,.cells #[.int .i64 (((i+1:Nat):Int)),.int .i64 ((less (lftF r i) ((bestF (r.sts.drop i) (lftF r i)).2)).getD 0 0),.int .i64 ((less (lftF r i) ((bestF (r.sts.drop i) (lftF r i)).2)).getD 1 0),.int .i64 ((less (lftF r i) ((bestF (r.sts.drop i) (lftF r i)).2)).getD 2 0),.int .i64 ((less (lftF r i) ((bestF (r.sts.drop i) (lftF r i)).2)).getD 3 0),.int .i64 ((less (lftF r i) ((bestF (r.sts.drop i) (lftF r i)).2)).getD 4 0),.int .i64 ((less (lftF r i) ((bestF (r.sts.drop i) (lftF r i)).2)).getD 5 0),.int .i64 ((less (lftF r i) ((bestF (r.sts.drop i) (lftF r i)).2)).getD 6 0),.int .i64 ((less (lftF r i) ((bestF (r.sts.drop i) (lftF r i)).2)).getD 7 0)] 132 (0,0)),(b_,.cells #[.int .i64 (((i+1:Nat):Int)),.int .i64 ((less (lftF r i) ((bestF (r.sts.drop i) (lftF r i)).2)).getD 0 0),.int .i64 ((less (lftF r i) ((bestF (r.sts.drop i) (lftF r i)).2)).getD 1 0),.int .i64 ((less (lftF r i) ((bestF (r.sts.drop i) (lftF r i)).2)).getD 2 0),.int .i64 ((less (lftF r i) ((bestF (r.sts.drop i) (lftF r i)).2)).getD 3 0),.int .i64 ((less (lftF r i) ((bestF (r.sts.drop i) (lftF r i)).2)).getD 4 0),.int .i64 ((less (lftF r i) ((bestF (r.sts.drop i) (lftF r i)).2)).getD 5 0),.int .i64 ((less (lftF r i) ((bestF (r.sts.drop i) (lftF r i)).2)).getD 6 0),.int .i64 ((less (lftF r i) ((bestF (r.sts.drop i) (lftF r i)).2)).getD 7 0)] 132 (0,0)),(bC,.cells #[.slice a r.room.length ca,.slice b r.sts.length cb,.func (.func 52) #[] #[],.map (some bM)] 136 (0,0)),(bM,ob6)]:Pcs)++(X14++(X₀++[]))) rfl ?_)
  refine xak ?_
  refine xqk (L':=([(b_,.cells #[.int .i64 (((i+1:Nat):Int)),.int .i64 ((less (lftF r i) ((bestF (r.sts.drop i) (lftF r i)).2)).getD 0 0),.int .i64 ((less (lftF r i) ((bestF (r.sts.drop i) (lftF r i)).2)).getD 1 0),.int .i64 ((less (lftF r i) ((bestF (r.sts.drop i) (lftF r i)).2)).getD 2 0),.int .i64 ((less (lftF r i) ((bestF (r.sts.drop i) (lftF r i)).2)).getD 3 0),.int .i64 ((less (lftF r i) ((bestF (r.sts.drop i) (lftF r i)).2)).getD 4 0),.int .i64 ((less (lftF r i) ((bestF (r.sts.drop i) (lftF r i)).2)).getD 5 0),.int .i64 ((less (lftF r i) ((bestF (r.sts.drop i) (lftF r i)).2)).getD 6 0),.int .i64 ((less (lftF r i) ((bestF (r.sts.drop i) (lftF r i)).2)).getD 7 0)] 132 (0,0)),(b16,.cells #[.int .i64 (((i+1:Nat):Int)),.int .i64 ((less (lftF r i) ((bestF (r.sts.drop i) (lftF r i)).2)).getD 0 0),.int .i64 ((less (lftF r i) ((bestF (r.sts.drop i) (lftF r i)).2)).getD 1 0),.int .i64 ((less (lftF r i) ((bestF (r.sts.drop i) (lftF r i)).2)).getD 2 0),.int .i64 ((less (lftF r i) ((bestF (r.sts.drop i) (lftF r i)).2)).getD 3 0),.int .i64 ((less (lftF r i) ((bestF (r.sts.drop i) (lftF r i)).2)).getD 4 0),.int .i64 ((less (lftF r i) ((bestF (r.sts.drop i) (lftF r i)).2)).getD 5 0),.int .i64 ((less (lftF r i) ((bestF (r.sts.drop i) (lftF r i)).2)).getD 6 0),.int .i64 ((less (lftF r i) ((bestF (r.sts.drop i) (lftF r i)).2)).getD 7 0)] 132 (0,0)),(bC,.cells #[.slice a r.room.length ca,.slice b r.sts.length cb,.func (.func 52) #[] #[],.map (some bM)] 136 (0,0)),(bM,ob6)]:Pcs)++(X14++(X₀++[]))) (List.Perm.append_right _ (List.Perm.swap _ _ _)) ?_
  exact fun h_ H_=>IH3 _ _ (by omega) h_ ⟨i+1,b16,v13,X14,ms5,ob6,rfl,(y_of rfl),(by omega),hM7,hI8,(o15.as ((zkj _ _).trans (congrArg ics (wdq (by omega))))),H_.drop⟩
 ·
  refine xcv rfl (dff cc4) <| xgk rfl <| fsr <| ro (xax (v:=w_) rfl) <| rt (xaq (v:=w_) rfl) (tm':=_::_::_::_) rfl <| xak ?_
  refine xcj Tryz.func53 rfl (vs:=[w_]) (fun h_ H_=>⟨w_,_,rfl,rfl,rfl⟩) (v:=w_) rfl ?_
  have ei_:i=r.sts.length:=by omega
  exact fun h_ H_=>K _ _ ⟨_,_,_,_,rfl,o1.as (congrArg ics (List.take_of_length_le (by rw [xpj];omega))),hM1,hI1,(show St h₀ B₀ p h_ (([(bC,.cells #[.slice a r.room.length ca,.slice b r.sts.length cb,.func (.func 52) #[] #[],.map (some bM)] 136 (0,0)),(bM,ob1)]:Pcs)++(X1++(X₀++[]))) from by simpa using H_.drop)⟩
end Go.Proofs.YtphalmjpbnffcaaGreatDoor
