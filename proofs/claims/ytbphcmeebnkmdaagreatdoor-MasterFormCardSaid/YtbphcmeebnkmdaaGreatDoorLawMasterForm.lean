/-
  MasterForm, for every input: the law returns true and leaves its arguments as they were. The row, and the tied card. No condition.
-/
import Derived.Test.YtbphcmeebnkmdaaGreatDoorGN
import Derived.Test.YtbphcmeebnkmdaaGreatDoorCards
import Derived.Test.YtbphcmeebnkmdaaGreatDoorTie
namespace Go.X.Ms
def kindR (w:Str):Nat × Nat:=
 if w=[117,112] then (1,0)
 else if w=[102,111,111,116] then (1,1) else if w=[104,111,117,115,101] then (1,1) else if w=[119,101,108,108] then (1,1) else if w=[115,105,122,101] then (1,1)
 else if w=[119,97,110,116] then (1,2) else if w=[104,97,115] then (1,2) else if w=[119,97,121] then (1,2)
 else if w=[100,97,121] then (1,3) else if w=[114,111,99,107] then (1,4)
 else if w=[98,101,103,105,110] then (2,0) else if w=[101,110,100] then (2,0) else if w=[100,114,111,112] then (2,0)
 else if w=[102,101,119,101,115,116] then (3,0) else if w=[99,104,101,97,112] then (3,0) else if w=[109,111,115,116] then (3,0) else if w=[108,97,99,107,115] then (3,0) else if w=[115,104,111,114,116] then (3,0)
 else if w=[101,109,112,116,121] then (3,0) else if w=[108,101,97,115,116] then (3,0) else if w=[114,97,116,105,111,110] then (3,0)
 else if w=[100,101,101,112] then (3,1) else if w=[110,101,120,116] then (3,1) else if w=[100,114,97,119,115] then (3,1) else if w=[100,114,121] then (3,1) else if w=[115,112,97,114,101] then (3,1) else if w=[108,101,118,101,108] then (3,1)
 else (0,0)
structure Ln where
 w:Str
 k:Nat
 a:List Str
 l:Str
def lnz:Ln:=⟨[],0,[],[]⟩
def readQ (l:Str) (q:List Str):Ln:=
 if (kindR (q.headD [])).1=0\/q.length≠(kindR (q.headD [])).2+1\/(l≠[]/\(kindR (q.headD [])).1≠3) then lnz
 else if q.tail.all clearS=true then ⟨q.headD [],(kindR (q.headD [])).1,q.tail,l⟩ else lnz
def kept3 (p:List Str):Bool:=decide (2<p.length) && decide (p.headD []=wKeep) && isLet (p.getD 1 [])
def readR (x:Str):Ln:=if kept3 (splitS x)=true then readQ ((splitS x).getD 1 []) ((splitS x).drop 2) else readQ [] (splitS x)
theorem xbh (s:Str) (c:UInt8):splitS (s++[c])=if c=32 then splitS s++[[]] else (splitS s).dropLast++[(splitS s).getLastD []++[c]]:=by
  induction s with
  | nil=>
    show (if c=32 then []::splitS [] else (c::(splitS []).headD [])::(splitS []).tail)=_
    by_cases h:c=32
    · rw [if_pos h,if_pos h];rfl
    · rw [if_neg h,if_neg h];rfl
  | cons d s ih=>
    rw [List.cons_append,splitS,ih,splitS]
    cases e:splitS s with
    | nil=>exact absurd e (xiz s)
    | cons a t=>
      by_cases h:c=32
      · rw [if_pos h,if_pos h]
        split <;> rfl
      · rw [if_neg h,if_neg h]
        cases t with
        | nil=>split <;> simp
        | cons b t=>split <;> simp
theorem xor: ∀ {s:Str},∀ x∈splitS s,(32:UInt8) ∉ x
  | [],x,h=>by rw [splitS,List.mem_singleton] at h;rw [h];simp
  | c::s,x,h=>by
    have ih:=xor (s:=s)
    rw [splitS] at h
    split at h
    · rcases List.mem_cons.1 h with e | h
      · rw [e];simp
      · exact ih x h
    · rename_i hc
      cases e:splitS s with
      | nil=>exact absurd e (xiz s)
      | cons a t=>
        rw [e] at h ih
        rcases List.mem_cons.1 h with e | h
        · rw [e]
          intro hm
          rcases List.mem_cons.1 hm with e2 | hm
          · exact hc e2.symm
          · exact ih a (by simp) hm
        · exact ih x (List.mem_cons_of_mem _ h)
theorem xp1 {w:Str} {n:Nat} (h:n<10):w=(w++txt ((n:Nat):Int)).dropLast:=by rw [xir h];simp
theorem xl3 {α:Type} {c:Prop} [Decidable c] {a q:α} {r:Option α} (h:(if c then some a else r)=some q):(c/\a=q)\/(¬ c/\r=some q):=by
 by_cases k:c
 ·rw [if_pos k] at h;exact .inl ⟨k,Option.some.inj h⟩
 ·rw [if_neg k] at h;exact .inr ⟨k,h⟩
theorem xg9 {w:Str} {n:Nat} {q:Qn} (h:qn (w++txt ((n:Nat):Int))=some q):kindR w=(3,n):=by
 have hn:=yhm h
 have hd:=xp1 (w:=w) (n:=n) (by rw [hn];cases q <;> decide)
 generalize w++txt ((n:Nat):Int)=z at h hd
 unfold qn at h
 iterate 14 (rcases xl3 h with ⟨c,e⟩ | ⟨_,h⟩;(subst e;subst c;subst hd;subst hn;rfl))
 cases h
theorem yuf {w:Str} {n:Nat} {o:Od} (h:od (w++txt ((n:Nat):Int))=some o):kindR w=(1,n):=by
 have hn:=yvm h
 have hd:=xp1 (w:=w) (n:=n) (by rw [hn];cases o <;> decide)
 generalize w++txt ((n:Nat):Int)=z at h hd
 unfold od at h
 iterate 10 (rcases xl3 h with ⟨c,e⟩ | ⟨_,h⟩;(subst e;subst c;subst hd;subst hn;rfl))
 cases h
end Go.X.Ms
namespace Go.Proofs.YtbphcmeebnkmdaaGreatDoor
open Go.X Go.X.Ms Go.Conc
set_option maxRecDepth 20000
set_option synthInstance.maxSize 2000
theorem c30 (md:Md) (h:Heap) (p:PHeap) (hp:Per p h) (s:Str):
  CallsX Tryz.prog md 30 #[sv s] h fun v h'=>v= .bool (isLet s)/\Keep h h':=by
 refine xeq hp Tryz.func30 fun _ _ _ K=>?_
 refine ax ?_
 refine xyj rfl rfl rfl sdt sdt (fun c=>⟨by decide,by simp at c;omega⟩) ?_
 refine ax ?_
 refine xyj rfl rfl rfl sdu sdu (fun c=>⟨by decide,by simp at c;omega⟩) ?_
 refine ax ?_
 exact xdq Tryz.func30 rfl rfl fun _ H_=>K _ _ ⟨by
  show Value.bool _=_
  congr 1
  rw [Bool.eq_iff_iff,xnd]
  simp
  omega,H_.kept⟩
set_option maxHeartbeats 1600000 in
theorem c31 (md:Md) (h:Heap) (p:PHeap) (hp:Per p h) (w:Str):
  CallsX Tryz.prog md 31 #[sv w] h fun v h'=>v= .tuple #[.int .i64 (((kindR w).1:Nat):Int),.int .i64 (((kindR w).2:Nat):Int)]/\Keep h h':=by
 refine xeq hp Tryz.func31 fun _ _ _ K=>?_
 refine ax ?_
 repeat' (first
  | contradiction
  | (refine xdq Tryz.func31 rfl rfl fun _ H_=>K _ _ ⟨?_,H_.kept⟩;(first | (subst_vars;rfl) | (simp only [kindR, *,if_false];rfl));done)
  | (refine xhq rfl (fun cc=>?_) (fun cc=>?_))
  | (refine ax ?_))
end Go.Proofs.YtbphcmeebnkmdaaGreatDoor
namespace Go.X.Ms
def numP (o:Option Int):Value:=.tuple #[.int .i64 (o.getD 0),.bool o.isSome]
def sgn (b:Bool) (n:Nat):Int:=if b then -(n:Int) else n
theorem xxs {s:Str} {i:Nat} (h:i<s.length):s.drop i=s.getD i 0::s.drop (i+1):=by
 rw [List.drop_eq_getElem_cons h,Flow.getD_at h]
end Go.X.Ms
namespace Go.Proofs.YtbphcmeebnkmdaaGreatDoor
open Go.X Go.X.Ms Go.Conc
set_option maxRecDepth 20000
set_option synthInstance.maxSize 2000
set_option maxHeartbeats 400000 in
theorem c32 (md:Md) (h:Heap) (p:PHeap) (hp:Per p h) (s:Str):
    CallsX Tryz.prog md 32 #[sv s] h fun v h'=>v=numP (numR s)/\Keep h h':=by
  refine xeq hp Tryz.func32 fun _ _ _ K=>?_
  refine ax ?_
  refine xyj rfl rfl rfl sdt sdt (fun c=>⟨by decide,by simp at c;omega⟩) ?_
  refine ax ?_
  refine xoz (fun l p_ LL=>∃ (u:Str) (b:Bool),l=[(0,none,sv u),(4,none,.bool b)]/\p_=p/\LL=[]/\numR s=(numU b u).map (sgn b)) ?_ (fun k' nx=>?_)
  rotate_left
  · refine xhq rfl (fun cc=>?_) (fun cc=>?_)
    · refine ax ?_
      refine xtb (j:=1) rfl rfl rfl sdt sdt (by show 1<=s.length;omega) ?_
      refine ax ?_
      refine xow (l':=[(0,none,sv s.tail),(4,none,.bool true)]) (nx _ _ _ ⟨_,_,rfl,rfl,rfl,?_⟩) ⟨by show some (none,sv (s.drop 1))=_;rw [List.drop_one],by
        show some (none,Value.bool (decide (0<((s.length:Nat):Int)) && decide (((s.getD 0 0).toNat:Int)=45)))=_
        rw [decide_eq_true cc.1,decide_eq_true (show ((s.getD 0 0).toNat:Int)=45 from cc.2)];rfl,trivial⟩
      have hc:s.headD 0=45:=by
        cases s with
        | nil=>exact absurd cc.1 (by simp)
        | cons c s=>exact UInt8.toNat_inj.1 (by have:((c.toNat:Nat):Int)=45:=cc.2;show c.toNat=45;omega)
      unfold numR
      rw [if_pos hc];rfl
    · refine ax ?_
      refine xow (l':=[(0,none,sv s),(4,none,.bool false)]) (nx _ _ _ ⟨_,_,rfl,rfl,rfl,?_⟩) ⟨rfl,by
        show some (none,Value.bool (decide (0<((s.length:Nat):Int)) && decide (((s.getD 0 0).toNat:Int)=45)))=_
        have:(decide (0<((s.length:Nat):Int)) && decide (((s.getD 0 0).toNat:Int)=45))=false:=by
          rw [Bool.eq_false_iff]
          intro z
          simp only [Bool.and_eq_true,decide_eq_true_eq] at z
          exact cc z
        rw [this],trivial⟩
      have hc:s.headD 0≠45:=by
        intro z
        cases s with
        | nil=>cases z
        | cons c s=>
          have z:c=45:=z
          subst z
          exact cc ⟨by simp,rfl⟩
      unfold numR
      rw [if_neg hc];rfl
  rintro _ p _ ⟨u,b,rfl,rfl,rfl,e⟩
  refine ax ?_
  refine xyj rfl rfl rfl sdu sdu (fun c=>⟨by decide,by simp at c;omega⟩) ?_
  refine ax ?_
  refine xhq rfl (fun cc=>?_) (fun cc=>?_)
  · refine ax ?_
    exact xdq Tryz.func32 rfl rfl fun _ H_=>K _ _ ⟨by
      have hN:numU b u=none:=by
        unfold numU
        rw [if_pos]
        rcases cc with (c | c) | ⟨c1,c2⟩
        · exact .inl (by omega)
        · exact .inr (.inl (by omega))
        · refine .inr (.inr ⟨?_,c2.imp (fun z=>by omega) id⟩)
          cases u with
          | nil=>exact absurd c1 (by decide)
          | cons c u=>exact (show c=48 from xt1 (by have:((c.toNat:Nat):Int)=48:=c1;omega))
      rw [e,hN];rfl,H_.kept⟩
  have hN:numU b u=numN 0 u:=by
    unfold numU
    rw [if_neg]
    rintro (c | c | ⟨c1,c2⟩)
    · exact cc (.inl (.inl (by omega)))
    · exact cc (.inl (.inr (by omega)))
    · refine cc (.inr ⟨?_,c2.imp (fun z=>by omega) id⟩)
      cases u with
      | nil=>exact absurd c1 (by decide)
      | cons c u=>
        have:c=48:=c1
        subst this;rfl
  have hl6:u.length<=6:=by
    rcases Nat.lt_or_ge 6 u.length with z | z
    · exact absurd (.inl (.inr (by omega))) cc
    · exact z
  refine ax ?_
  refine xaz (fun m_ l=>∃ (j n:Nat),m_=u.length-j/\l=[(0,none,sv u),(4,none,.bool b),(5,none,.int .i64 ((n:Nat):Int)),(6,none,.int .i64 ((j:Nat):Int))]/\j<=u.length/\n<10 ^ j/\numN 0 u=numN n (u.drop j)) ⟨0,0,rfl,rfl,Nat.zero_le _,by decide,by simp⟩ sb ?_
  rintro _ _ IH ⟨j,n,rfl,rfl,hj,hn,hq⟩
  have hp10:10 ^ j<=10 ^ 6:=Nat.pow_le_pow_right (by decide) (by omega)
  have h106:(10:Nat) ^ 6=1000000:=by decide
  refine ax ?_
  refine xhq rfl (fun cd=>?_) (fun cd=>?_)
  · have hjl:j<u.length:=by omega
    refine ax ?_
    refine xyj rfl rfl rfl sdt sdt ⟨by omega,by omega⟩ ?_
    refine ax ?_
    refine xyj rfl rfl rfl sdu sdu (fun _=>⟨by omega,by omega⟩) ?_
    refine ax ?_
    refine xhq rfl (fun ce=>?_) (fun ce=>?_)
    · refine ax ?_
      exact xdq Tryz.func32 rfl rfl fun _ H_=>K _ _ ⟨by
        have hx:isDig (u.getD j 0)=false:=by
          rw [Bool.eq_false_iff]
          intro z
          have z:=xod.1 z
          have e1:u.getD (((j:Nat):Int).toNat) 0=u.getD j 0:=rfl
          rw [e1] at ce
          omega
        rw [e,hN,hq,xxs hjl,numN,if_neg (by rw [hx];simp)];rfl,H_.kept⟩
    have hx:isDig (u.getD j 0)=true:=by
      rw [xod]
      have e1:u.getD (((j:Nat):Int).toNat) 0=u.getD j 0:=rfl
      rw [e1] at ce
      omega
    have hd:=xod.1 hx
    have e1:u.getD (((j:Nat):Int).toNat) 0=u.getD j 0:=rfl
    refine ax ?_
    refine xyj rfl rfl rfl sdt sdt ⟨by omega,by omega⟩ ?_
    rw [e1]
    refine ax ?_
    refine xzk rfl rfl ⟨wr8 (by omega),trivial⟩ ?_
    refine ax ?_
    refine xjh (((u.getD j 0).toNat-48:Nat):Int) rfl (by rw [wrZ (by omega)];omega) ?_ (hs:=⟨_,Tryz.underlying5⟩)
    refine ax ?_
    refine xqq (IH _ (by omega) ⟨j+1,10*n+((u.getD j 0).toNat-48),rfl,rfl,by omega,by rw [Nat.pow_succ];omega,?_⟩)
    rw [hq,xxs hjl,numN,if_pos hx]
  obtain rfl:j=u.length:=by omega
  have hs:numR s=some (sgn b n):=by rw [e,hN,hq,List.drop_length];rfl
  refine ax ?_
  refine xhq rfl (fun ce=>?_) (fun ce=>?_)
  · refine ax ?_
    refine xzk rfl rfl ⟨by rw [wrZ (by omega)];omega,trivial⟩ ?_
    refine ax ?_
    exact xdq Tryz.func32 rfl rfl fun _ H_=>K _ _ ⟨by rw [hs];subst ce;rfl,H_.kept⟩
  · refine ax ?_
    exact xdq Tryz.func32 rfl rfl fun _ H_=>K _ _ ⟨by
      rw [hs,Bool.not_eq_true] at*
      subst ce;rfl,H_.kept⟩
end Go.Proofs.YtbphcmeebnkmdaaGreatDoor
namespace Go.X.Ms
theorem xfm {s:Str} {j:Nat} (h:j<s.length):s.take (j+1)=s.take j++[s.getD j 0]:=by
 rw [List.take_add_one,List.getElem?_eq_getElem h,Flow.getD_at h];rfl
theorem xgm (s:Str):(splitS s).length<=s.length+1:=by
  induction s with
  | nil=>exact Nat.le_refl _
  | cons c s ih=>
    rw [splitS]
    split
    · rw [List.length_cons,List.length_cons];omega
    · rw [List.length_cons,List.length_tail,List.length_cons]
      have:=List.length_pos_iff.2 (xiz s)
      omega
theorem ysj {L:List Str} {x:Str} (h:L≠[]):(scs L).set (L.length-1) [sv x]=scs (L.dropLast++[x]):=by
 obtain ⟨M,y,rfl⟩: ∃ M y,L=M++[y]:=⟨L.dropLast,L.getLast h,(List.dropLast_concat_getLast h).symm⟩
 simp [scs]
end Go.X.Ms
namespace Go.Proofs.YtbphcmeebnkmdaaGreatDoor
open Go.X Go.X.Ms Go.Conc
set_option maxRecDepth 20000
set_option synthInstance.maxSize 2000
set_option maxHeartbeats 400000 in
theorem c14 (md:Md) (h:Heap) (p:PHeap) (hp:Per p h) (s:Str) (hs:s.length<=1000):
  CallsX Tryz.prog md 14 #[sv s] h fun v h'=>∃ Y,OwnS 9 1 v (scs (splitS s)) Y/\New h h' Y:=by
 refine xeq hp Tryz.func14 fun _ _ _ K=>?_
 refine ax ?_
 refine xjz rfl fun v0 Y0 o0=>?_
 have o0:OwnS 9 1 v0 (scs (splitS (s.take 0))) Y0:=o0
 refine ax ?_
 refine xrq (fun m_ l p_ L_=>∃ (j:Nat) (v:Value) (Y:Pcs),m_=s.length-j/\l=[(0,none,sv s),(3,none,v),(4,none,.int .i64 ((j:Nat):Int))]/\p_=p/\L_=[Y]/\j<=s.length/\OwnS 9 1 v (scs (splitS (s.take j))) Y) ⟨0,_,_,rfl,rfl,rfl,rfl,Nat.zero_le _,o0⟩ sb ?_
 clear o0
 rintro _ _ p _ IH ⟨j,v,Y,rfl,rfl,rfl,rfl,hj,o⟩
 have hpl:=xgm (s.take j)
 rw [List.length_take] at hpl
 refine ax ?_
 refine xhq rfl (fun cd=>?_) (fun cd=>?_)
 ·have hjl:j<s.length:=by omega
  have e1:s.getD (((j:Nat):Int).toNat) 0=s.getD j 0:=rfl
  refine ax ?_
  refine xyj rfl rfl rfl sdt sdt ⟨by omega,by omega⟩ ?_
  rw [e1]
  refine ax ?_
  refine xhq rfl (fun ce=>?_) (fun ce=>?_)
  ·have hc:s.getD j 0=32:=UInt8.toNat_inj.1 (by show _=32;omega)
   refine ax ?_
   refine xjz rfl fun v3 Y3 o3=>?_
   have o3:OwnS 9 1 v3 (scs [[]]) Y3:=o3
   refine xmh rfl rfl o o3 (by simp [scs,sv,isOne]) (by rw [xxx];simp [scs];omega) fun v4 Y4 o4=>?_
   refine ax ?_
   exact xqq (IH _ _ _ (by omega) ⟨j+1,v4,Y4,rfl,rfl,rfl,rfl,by omega,o4.as (by rw [xfm hjl,xbh,if_pos hc];simp [scs])⟩)
  ·have hc:s.getD j 0≠32:=fun z=>ce (by rw [z];rfl)
   obtain ⟨a,c,rfl,-⟩:=o.val
   rw [xxx] at o ⊢
   have hne:=xiz (s.take j)
   have hpos:=List.length_pos_iff.2 hne
   have hi:((((splitS (s.take j)).length:Nat):Int)-1).toNat=(splitS (s.take j)).length-1:=by omega
   have hlast:(scs (splitS (s.take j)))[(splitS (s.take j)).length-1]?=some [sv ((splitS (s.take j)).getLastD [])]:=by
    rw [scs,List.getElem?_map,List.getElem?_eq_getElem (by omega)]
    have:(splitS (s.take j)).getLastD []=(splitS (s.take j))[(splitS (s.take j)).length-1]:=by
     rw [List.getLastD_eq_getLast?,List.getLast?_eq_getElem?,List.getElem?_eq_getElem (by omega)];rfl
    rw [this];rfl
   refine ax ?_
   refine xix [9] R11 ?_
   refine ex ?_
   refine xbf rfl rfl rfl rfl sdt sdt o ⟨by omega,by rw [xxx];omega⟩ ?_
   refine xiv (j:=(((splitS (s.take j)).length:Int)-1).toNat) (q:=0) (e:=[sv ((splitS (s.take j)).getLastD [])]) (u:=sv ((splitS (s.take j)).getLastD [])) rfl rfl rfl sdt o rfl ?_ rfl ?_
   ·rw [hi];exact hlast
   refine ex ?_
   refine xwj rfl rfl rfl rfl sdt sdt ⟨by omega,by omega⟩ ?_
   rw [e1]
   refine xll rfl rfl fun v5 Y5 o5=>?_
   have o5:OwnS 5 1 v5 (bcs [s.getD j 0]) Y5:=o5
   refine ych (a:=[s.getD j 0]) rfl rfl o5 ?_
   refine ex ?_
   refine ax ?_
   refine xab rfl rfl (by
    have:=xxv (s:=s.take j) (x:=(splitS (s.take j)).getLastD []) (by
     rw [List.getLastD_eq_getLast?,List.getLast?_eq_some_getLast hne];exact List.getLast_mem hne)
    rw [List.length_take] at this
    simp only [List.length_cons,List.length_nil];omega) ?_
   refine ax ?_
   refine xsv rfl rfl o (by omega) (by rw [xxx];omega) ?_
   refine xyk (i:=(splitS (s.take j)).length-1) (j:=0) (e:=[sv ((splitS (s.take j)).getLastD [])]) (vs:=[sv ((splitS (s.take j)).getLastD []++[s.getD j 0])]) rfl rfl o ?_ rfl rfl rfl ?_ (by simp) fun Y6 o6=>?_
   ·rw [hi];rfl
   ·exact hlast
   refine ax ?_
   exact xqq (IH _ _ _ (by omega) ⟨j+1,_,Y6,rfl,rfl,rfl,rfl,by omega,o6.as (by rw [xfm hjl,xbh,if_neg hc];exact ysj hne)⟩)
 obtain rfl:j=s.length:=by omega
 rw [List.take_length] at o
 refine ax ?_
 exact xdq Tryz.func14 rfl rfl fun _ H_=>K _ _ ⟨Y,o,newR H_⟩
end Go.Proofs.YtbphcmeebnkmdaaGreatDoor
namespace Go.X.Ms
def LnP (p':PHeap) (x:Ln) (v:Value):Prop:=∃ (a:Option Addr) (c:Nat),v= .agg #[sv x.w,.int .i64 ((x.k:Nat):Int),.slice a x.a.length c,sv x.l]/\x.a.length<=c/\Strs p' a x.a.length x.a
theorem yan {c:Prop} [Decidable c] {a b:Nat × Nat} (h1:a.1<=3/\a.2<=4) (h2:b.1<=3/\b.2<=4):(if c then a else b).1<=3/\(if c then a else b).2<=4:=by split <;> assumption
theorem ynv (w:Str):(kindR w).1<=3/\(kindR w).2<=4:=by
 unfold kindR
 iterate 27 (refine yan (by decide) ?_)
 decide
theorem xum {α:Type} (q:List α) (d:α):q.headD d=q.getD 0 d:=by cases q <;> rfl
end Go.X.Ms
namespace Go.Proofs.YtbphcmeebnkmdaaGreatDoor
open Go.X Go.X.Ms Go.Conc
set_option maxRecDepth 20000
set_option synthInstance.maxSize 2000
theorem yym (p:PHeap):LnP p lnz (.agg #[sv [],.int .i64 0,.slice none 0 0,sv []]):=⟨none,0,rfl,Nat.le_refl _,Sl.nil _ _ _⟩
set_option maxHeartbeats 800000 in
theorem c15 (md:Md) (h:Heap) (p:PHeap) (hp:Per p h) (s:Str) (hs:s.length<=900):
  CallsX Tryz.prog md 15 #[sv s] h (LastR p h fun v p'=>LnP p' (readR s) v):=by
 refine xeq hp Tryz.func15 fun _ _ _ K=>?_
 refine ax ?_
 refine xiq fun b2=>?_
 refine ax ?_
 refine xxj rfl rfl (fun _ pe=>c14 _ _ _ pe s (by omega)) fun v0 Y0 o0=>?_
 refine xqx o0 (m:=(splitS s).length) (xxx _) (by decide) fun p1 a c g1 e1 hc S=>?_
 subst e1
 have S:Strs p1 a (splitS s).length (splitS s):=S
 have S1:Sl p1 a (splitS s).length 1 (scs (splitS s)):=S
 have hR:readR s=if kept3 (splitS s)=true then readQ ((splitS s).getD 1 []) ((splitS s).drop 2) else readQ [] (splitS s):=rfl
 have hpos:0<(splitS s).length:=List.length_pos_iff.2 (xiz s)
 have hnl:=xgm s
 generalize splitS s=ps at*
 rw [hR] at K
 clear hR o0
 refine ax ?_
 refine xad (u:=sv (ps.getD 0 [])) rfl rfl sdt (fun _=>Strs.get S (i:=0) hpos) ?_
 refine ax ?_
 refine xc8 rfl rfl rfl sdu sdu (fun c=>⟨⟨by omega,by simp at c;omega⟩,Sl.ne S1 hpos⟩) ?_
 refine xad (u:=sv (ps.getD 1 [])) rfl rfl sdu (fun c=>Strs.get S (i:=1) (by simp at c;omega)) ?_
 refine ax ?_
 refine xex rfl rfl rfl sdu (fun _ _ pe=>c30 _ _ _ pe (ps.getD 1 [])) ?_
 refine ax ?_
 refine xoz (fun l' p_ L_=>∃ (a2:Option Addr) (c2:Nat) (qs:List Str) (letter:Str),l'=[(2,none,.pointer (some ⟨b2,0,none⟩)),(3,none,.slice a2 qs.length c2),(4,none,sv letter)]/\p_=p1/\L_=[[(b2,.cells #[sv [],.int .i64 0,.slice none 0 0,sv []] 49 (0,0))]]/\Strs p1 a2 qs.length qs/\0<qs.length/\qs.length<=c2/\qs.length<=901/\
  (if kept3 ps=true then readQ (ps.getD 1 []) (ps.drop 2) else readQ [] ps)=readQ letter qs) ?_ fun k' nx=>?_
 rotate_left
 ·have ek:(decide (2<((ps.length:Nat):Int)) && decide (ps.getD 0 []=[107,101,101,112]) && isLet (ps.getD 1 []))=kept3 ps:=by
   unfold kept3
   rw [xum]
   congr 2
   rw [Bool.eq_iff_iff];simp;omega
  refine xhq rfl (fun cc=>?_) (fun cc=>?_)
  ·have hk:kept3 ps=true:=by rw [<- ek];simp;simpa using cc
   have h2:2<ps.length:=by unfold kept3 at hk;simp at hk;exact hk.1.1
   refine ax ?_
   refine xkk rfl (Strs.get S (i:=1) (by omega)) ?_
   refine ax ?_
   refine xxr (j:=2) rfl rfl ⟨by omega,hc⟩ ?_
   refine ax ?_
   have hd:(ps.drop 2).length=ps.length-2:=List.length_drop
   refine xow (l':=[(2,none,.pointer (some ⟨b2,0,none⟩)),(3,none,.slice (cutA a c 2 1) (ps.drop 2).length (c-2)),(4,none,sv (ps.getD 1 []))]) (nx _ _ _ ⟨cutA a c 2 1,c-2,ps.drop 2,ps.getD 1 [],rfl,rfl,rfl,?_,by omega,by omega,by omega,by rw [if_pos hk]⟩) ⟨rfl,by rw [hd];rfl,rfl,trivial⟩
   have z:=xcf S 2 (by omega) hc
   rw [<- hd] at z
   exact z
  ·have hk: ¬ kept3 ps=true:=by rw [<- ek];simp;simpa using cc
   refine ax ?_
   refine xow (l':=[(2,none,.pointer (some ⟨b2,0,none⟩)),(3,none,.slice a ps.length c),(4,none,sv [])]) (nx _ _ _ ⟨a,c,ps,[],rfl,rfl,rfl,S,hpos,hc,by omega,by rw [if_neg hk]⟩) ⟨rfl,rfl,rfl,trivial⟩
 rintro _ p1 _ ⟨a2,c2,qs,letter,rfl,rfl,rfl,S2,hq0,hqc,hqn,eq⟩
 rw [eq] at K
 have S3:Sl p1 a2 qs.length 1 (scs qs):=S2
 clear eq S S1 hnl hc hpos
 refine ax ?_
 refine xkk rfl (Strs.get S2 (i:=0) hq0) ?_
 refine ax ?_
 refine xoq rfl rfl (fun _ pe=>c31 _ _ _ pe (qs.getD 0 [])) ?_
 have hk5:=ynv (qs.getD 0 [])
 have hQ:readQ letter qs=if (kindR (qs.getD 0 [])).1=0\/qs.length≠(kindR (qs.getD 0 [])).2+1\/(letter≠[]/\(kindR (qs.getD 0 [])).1≠3) then lnz
   else if qs.tail.all clearS=true then ⟨qs.getD 0 [],(kindR (qs.getD 0 [])).1,qs.tail,letter⟩ else lnz:=by unfold readQ;rw [xum]
 rw [hQ] at K
 generalize kindR (qs.getD 0 [])=kk at*
 obtain ⟨kk1,kk2⟩:=kk
 simp only at hk5 K
 refine ax ?_
 refine xhq rfl (fun cc=>?_) (fun cc=>?_)
 ·rw [if_pos (by
   rcases cc with (c | c) | c
   ·exact .inl (by omega)
   ·exact .inr (.inl (by omega))
   ·exact .inr (.inr ⟨c.1,by have:=c.2;omega⟩))] at K
  refine ax ?_
  exact xyq Tryz.func15 rfl (xhx rfl .nil) fun _ H_=>K _ _ (xvx H_ g1 (yym _))
 rw [if_neg (by
  rintro (c | c | c)
  ·exact cc (.inl (.inl (by omega)))
  ·exact cc (.inl (.inr (by omega)))
  ·exact cc (.inr ⟨c.1,by have:=c.2;omega⟩))] at K
 refine ax ?_
 refine xrq (fun m_ l p_ L_=>∃ (j:Nat),m_=qs.length-j/\l=[(2,none,.pointer (some ⟨b2,0,none⟩)),(3,none,.slice a2 qs.length c2),(4,none,sv letter),(5,none,.int .i64 ((kk1:Nat):Int)),(7,none,.int .i64 ((j:Nat):Int))]/\p_=p1/\L_=[[(b2,.cells #[sv [],.int .i64 0,.slice none 0 0,sv []] 49 (0,0))]]/\
  1<=j/\j<=qs.length/\ ∀ i,1<=i->i<j->clearS (qs.getD i [])=true) ⟨1,rfl,rfl,rfl,rfl,Nat.le_refl _,hq0,fun i _ _=>by omega⟩ sb ?_
 rintro _ _ p1 _ IH ⟨j,rfl,rfl,rfl,rfl,h1j,hj,hcl⟩
 refine ax ?_
 refine xhq rfl (fun cd=>?_) (fun cd=>?_)
 ·have hjl:j<qs.length:=by omega
  refine ax ?_
  refine xkk rfl (Strs.get S2 hjl) ?_
  refine ax ?_
  refine xoq rfl rfl (fun _ pe=>c32 _ _ _ pe (qs.getD j [])) ?_
  have eN:numP (numR (qs.getD j []))= .tuple #[.int .i64 ((numR (qs.getD j [])).getD 0),.bool (numR (qs.getD j [])).isSome]:=rfl
  rw [eN]
  refine ax ?_
  refine xad (u:=sv (qs.getD j [])) rfl rfl sdu (fun _=>Strs.get S2 hjl) ?_
  refine ax ?_
  refine xex rfl rfl rfl sdu (fun _ _ pe=>c30 _ _ _ pe (qs.getD j [])) ?_
  refine ax ?_
  refine xhq rfl (fun ce=>?_) (fun ce=>?_)
  ·have hcj:clearS (qs.getD j [])=false:=by
    unfold clearS
    cases hN:(numR (qs.getD j [])).isSome <;> cases hL:isLet (qs.getD j []) <;> simp_all
   have hmem:qs.getD j []∈qs.tail:=by
    rw [List.mem_iff_getElem]
    refine ⟨j-1,by rw [List.length_tail];omega,?_⟩
    rw [List.getElem_tail,List.getD_eq_getElem?_getD,List.getElem?_eq_getElem hjl,Option.getD_some]
    congr 1;omega
   rw [if_neg (by
    intro hall
    have:=List.all_eq_true.1 hall _ hmem
    rw [hcj] at this;cases this)] at K
   refine ax ?_
   exact xyq Tryz.func15 rfl (xhx rfl .nil) fun _ H_=>K _ _ (xvx H_ g1 (yym _))
  refine ax ?_
  have hcj:clearS (qs.getD j [])=true:=by
   unfold clearS
   cases hN:(numR (qs.getD j [])).isSome <;> cases hL:isLet (qs.getD j []) <;> simp_all
  exact xqq (IH _ _ _ (by omega) ⟨j+1,rfl,rfl,rfl,rfl,by omega,by omega,fun i hi hij=>by
   rcases Nat.lt_or_ge i j with h | h
   ·exact hcl i hi h
   ·have:i=j:=by omega
    rw [this];exact hcj⟩)
 have hje:j=qs.length:=by omega
 subst hje
 have hall:qs.tail.all clearS=true:=by
  rw [List.all_eq_true]
  intro x hx
  obtain ⟨i,hi,rfl⟩:=List.mem_iff_getElem.1 hx
  rw [List.length_tail] at hi
  have:=hcl (i+1) (by omega) (by omega)
  rw [List.getD_eq_getElem?_getD,List.getElem?_eq_getElem (by omega),Option.getD_some] at this
  rw [List.getElem_tail];exact this
 rw [if_pos hall] at K
 refine ax ?_
 have ht:qs.tail.length=qs.length-1:=List.length_tail
 have z:=xcf S2 1 (by omega) hqc
 rw [List.drop_one,<- ht] at z
 refine xix [] R7 ?_
 refine ex ?_
 refine xsw rfl rfl (Strs.get S2 (i:=0) hq0) ?_
 refine ex ?_
 refine xjl (j:=1) rfl rfl rfl ⟨by omega,hqc⟩ ?_
 refine ex ?_
 refine ax ?_
 exact xyq Tryz.func15 rfl (xhx rfl .nil) fun _ H_=>K _ _ (xvx H_ g1 ⟨cutA a2 c2 1 1,c2-1,by rw [ht];rfl,by rw [ht];omega,z⟩)
end Go.Proofs.YtbphcmeebnkmdaaGreatDoor
namespace Go.X.Ms
def badL (x:Str):Prop:=∀ d,doD d x=(d,wWhat)
theorem xf9 {w:Str} {n:Nat} (h:(kindR w).1≠3):qn (w++txt ((n:Nat):Int))=none:=by
 cases e:qn (w++txt ((n:Nat):Int)) with
 | none=>rfl
 | some q=>exact absurd (congrArg Prod.fst (xg9 e)) h
theorem ytf {w:Str} {n:Nat} (h:(kindR w).1≠1):od (w++txt ((n:Nat):Int))=none:=by
 cases e:od (w++txt ((n:Nat):Int)) with
 | none=>rfl
 | some q=>exact absurd (congrArg Prod.fst (yuf e)) h
theorem xhp {d:Dsk} {l w:Str} {args:List Str} (h: ∃ s∈args,clearS s=false):lineD d l (w::args)=(d,wWhat):=by
 rw [xfk,if_pos]
 obtain ⟨s,hs,e⟩:=h
 refine .inl ?_
 rw [List.all_eq_false]
 exact ⟨s,hs,by rw [e];simp⟩
theorem xn0 {d:Dsk} {l w:Str} {args:List Str} (h3:qn (w++txt args.length)=none) (h:l≠[]\/(od (w++txt args.length)=none/\opensW w args.length=false)):lineD d l (w::args)=(d,wWhat):=by
 rw [xfk,if_pos (.inr ⟨h3,h⟩)]
theorem xq4 {x:Str} {ps:List Str} (hs:splitS x=ps) (h:ps.headD []≠wKeep-> ∃ s∈ps.tail,clearS s=false)
    (hk:ps.headD []=wKeep->3<=ps.length->isLet (ps.getD 1 [])=true->(∃ s∈ps.drop 3,clearS s=false)\/ps.getD 2 []=[]):badL x:=fun d=>by
  unfold doD
  simp only [hs]
  have hne:ps≠[]:=by rw [<- hs];exact xiz x
  by_cases c:ps.headD []=wKeep
  · rw [if_pos c]
    split
    · rfl
    · rename_i c2
      simp only [not_or] at c2
      have hl:isLet (ps.getD 1 [])=true:=by simpa using c2.2
      have hlk:ps.getD 1 []≠[]:=fun e=>by rw [e] at hl;cases hl
      match ps,hk c (by omega) hl with
      | [],_=>exact absurd rfl hne
      | [_],_=>exact absurd (show ([_]:List Str).length<3 from by simp) c2.1
      | [_,_],_=>exact absurd (show ([_,_]:List Str).length<3 from by simp) c2.1
      | _::b::w::args,h'=>
        rcases h' with h' | h'
        · exact xhp h'
        · obtain rfl:w=[]:=h'
          exact xn0 (xf9 (by decide)) (.inl hlk)
  · rw [if_neg c]
    match ps,h c with
    | [],h'=>obtain ⟨s,hs,_⟩:=h';cases hs
    | w::args,h'=>exact xhp h'
theorem xml:clearS []=false:=by decide
theorem xl6 (x:Str):clearS (43::x)=false:=by
 have h1:numR (43::x)=none:=by
  unfold numR
  rw [List.headD_cons,if_neg (by decide)]
  have:numU false (43::x)=none:=by
   unfold numU
   split
   ·rfl
   ·rw [numN,if_neg (by decide)]
  rw [this];rfl
 have h2:isLet (43::x)=false:=by
  cases x with
  | nil=>decide
  | cons y t=>rfl
 unfold clearS
 rw [h1,h2];rfl
theorem xk6 {x:Str} (h:x≠[]):clearS (48::x)=false:=by
 have h1:numR (48::x)=none:=by
  unfold numR
  rw [List.headD_cons,if_neg (by decide)]
  have:numU false (48::x)=none:=by
   unfold numU
   rw [if_pos]
   refine .inr (.inr ⟨rfl,.inl ?_⟩)
   have:=List.length_pos_iff.2 h
   rw [List.length_cons];omega
  rw [this];rfl
 have h2:isLet (48::x)=false:=by
  cases x with
  | nil=>exact absurd rfl h
  | cons y t=>rfl
 unfold clearS
 rw [h1,h2];rfl
theorem yqz (x:Str):badL (32::x):=fun d=>by
 have hs:splitS (32::x)=[]::splitS x:=by rw [splitS,if_pos rfl]
 rw [xvp hs (by decide)]
 refine xn0 (xf9 (by decide)) (.inr ⟨ytf (by decide),?_⟩)
 unfold opensW
 rw [show (decide (([]:Str)=wBegin) || decide (([]:Str)=wEnd) || decide (([]:Str)=wDrop))=false by decide,Bool.and_false]
theorem ybb (x:Str):badL (x++[32]):=by
  have hs:splitS (x++[32])=splitS x++[[]]:=xwk x (x:=[]) (by simp)
  have hne:=xiz x
  generalize splitS x=ps at*
  match ps,hne with
  | p0::ps,_=>
    refine xq4 hs (fun _=>⟨[],by simp,xml⟩) fun _ h3 _=>?_
    match ps,h3 with
    | [],h3=>simp at h3
    | [p1],_=>exact .inr rfl
    | p1::p2::ps,_=>exact .inl ⟨[],by simp,xml⟩
def glZ (z p:Str) (l:List Str):Str:=l.foldl (fun a x=>(a++z)++x) p
theorem xvb (z p:Str) (l:List Str) (x:Str):glZ z p (l++[x])=(glZ z p l++z)++x:=by unfold glZ;rw [List.foldl_append];rfl
theorem ytq (z:Str): ∀ (l:List Str) (p:Str),(glZ z p l).length=p.length+l.flatten.length+z.length*l.length
  | [],p=>by simp [glZ]
  | x::l,p=>by
    have:=ytq z l ((p++z)++x)
    unfold glZ at this ⊢
    rw [List.foldl_cons,this]
    simp [Nat.mul_add];omega
theorem xff: ∀ s:Str,(splitS s).flatten.length+(splitS s).length=s.length+1
  | []=>rfl
  | c::s=>by
    have ih:=xff s
    rw [splitS]
    cases e:splitS s with
    | nil=>exact absurd e (xiz s)
    | cons a t=>
      rw [e] at ih
      simp at ih
      split
      · simp;omega
      · simp;omega
theorem xzg {c:UInt8} (hc:c≠32) {p:Str} (hp:(32:UInt8) ∉ p): ∀ n (l:List Str),l.length=n->(∀ x∈l,(32:UInt8) ∉ x)->splitS (glZ [32,c] p l)=p::l.map (c:: ·)
  | 0,l,e,_=>by rw [List.length_eq_zero_iff.1 e];exact xpb hp
  | n+1,l,e,h=>by
    have hl:l≠[]:=fun k=>by rw [k] at e;cases e
    obtain ⟨m,y,rfl⟩: ∃ m y,l=m++[y]:=⟨l.dropLast,l.getLast hl,(List.dropLast_concat_getLast hl).symm⟩
    have hx:(32:UInt8) ∉ c::y:=fun hm=>by
      rcases List.mem_cons.1 hm with e | hm
      · exact hc e.symm
      · exact h _ (by simp) hm
    rw [xvb,List.append_assoc,show [32,c]++y=32::(c::y) from rfl,xwk _ hx,xzg hc hp n m (by simpa using e) fun x hx=>h x (List.mem_append_left _ hx)]
    simp
theorem xnr {p:Str} (hp:(32:UInt8) ∉ p): ∀ n (l:List Str),l.length=n->(∀ x∈l,(32:UInt8) ∉ x)->splitS (glZ [32,32] p l)=p::l.flatMap fun x=>[[],x]
  | 0,l,e,_=>by rw [List.length_eq_zero_iff.1 e];exact xpb hp
  | n+1,l,e,h=>by
    have hl:l≠[]:=fun k=>by rw [k] at e;cases e
    obtain ⟨m,y,rfl⟩: ∃ m y,l=m++[y]:=⟨l.dropLast,l.getLast hl,(List.dropLast_concat_getLast hl).symm⟩
    have e2:(glZ [32,32] p m++[32,32])++y=(glZ [32,32] p m++32::[])++32::y:=by simp
    rw [xvb,e2,xwk _ (h _ (by simp)),xwk _ (by simp),xnr hp n m (by simpa using e) fun x hx=>h x (List.mem_append_left _ hx)]
    simp
section
variable {p:Str} {l:List Str}
theorem yyw (hp:(32:UInt8) ∉ p) (h: ∀ x∈l,(32:UInt8) ∉ x) (hl:l≠[]):badL (glZ [32,32] p l):=by
  match l,hl with
  | y::l,_=>
    refine xq4 (xnr hp _ _ rfl h) (fun _=>⟨[],by simp,xml⟩) fun _ _ hk=>?_
    have:isLet []=true:=hk
    cases this
theorem yzw (hp:(32:UInt8) ∉ p) (h: ∀ x∈l,(32:UInt8) ∉ x) (hl:l≠[]):badL (glZ [32,43] p l):=by
  match l,hl with
  | y::l,_=>
    refine xq4 (xzg (by decide) hp _ _ rfl h) (fun _=>⟨43::y,by simp,xl6 y⟩) fun _ _ hk=>?_
    have hk:isLet (43::y)=true:=hk
    have:=xnd.1 hk
    cases y with
    | nil=>exact absurd hk (by decide)
    | cons a b=>cases hk
theorem yxw (hp:(32:UInt8) ∉ p) (h: ∀ x∈l,(32:UInt8) ∉ x) (hl:l≠[]) (hz:l.getLast hl≠[]):badL (glZ [32,48] p l):=by
  refine xq4 (xzg (by decide) hp _ _ rfl h) (fun _=>⟨48::l.getLast hl,?_,xk6 hz⟩) fun _ _ hk=>?_
  · rw [List.tail_cons,List.mem_map]
    exact ⟨_,List.getLast_mem hl,rfl⟩
  · match l,hl with
    | y::l,_=>
      have hk:isLet (48::y)=true:=hk
      cases y with
      | nil=>exact absurd hk (by decide)
      | cons a b=>cases hk
end
def wKeepA:Str:=[107,101,101,112,32,97,32]
theorem yab {x:Str} (h:(readR x).k≠3\/(readR x).l≠[]):badL (wKeepA++x):=fun d=>by
  have hs:splitS (wKeepA++x)=wKeep::[97]::splitS x:=by
    rw [show wKeepA++x=wKeep++32::([97]++32::x) from rfl,xqb _ (by decide),xqb _ (by decide)]
  unfold readR at h
  have hne:=xiz x
  generalize splitS x=ps at*
  match ps,hne with
  | w::args,_=>
    rw [yux hs (by decide)]
    by_cases hc:args.all clearS=true
    · cases e:qn (w++txt args.length) with
      | none=>exact xn0 e (.inl (by simp))
      | some q=>
        exfalso
        have k:=xg9 e
        have hw:w≠wKeep:=fun e=>by rw [e] at k;exact absurd (show (0:Nat)=3 from congrArg Prod.fst k) (by decide)
        have hk:kept3 (w::args)=false:=by
          unfold kept3
          rw [List.headD_cons,decide_eq_false hw,Bool.and_false,Bool.false_and]
        rw [hk,if_neg (by simp)] at h
        have hr:readQ [] (w::args)=⟨w,3,args,[]⟩:=by
          unfold readQ
          rw [List.headD_cons,k,if_neg (by simp),List.tail_cons,if_pos hc]
        rw [hr] at h
        rcases h with h | h <;> exact h rfl
    · refine xhp ?_
      simp only [Bool.not_eq_true,List.all_eq_false] at hc
      obtain ⟨s,hs,e⟩:=hc
      exact ⟨s,hs,by simpa using e⟩
theorem xo7: ∀ {ls:List Str} (d:Dsk),(∀ x∈ls,badL x)->runD d ls=(d,ls.map fun _=>wWhat)
 | [],_,_=>rfl
 | x::ls,d,h=>by rw [runD,h x (by simp) d,xo7 d fun y hy=>h y (List.mem_cons_of_mem _ hy)];rfl
theorem yvj {t:Twn} {ls:List Str} (hv:chkT t=0) (h30:ls.length<=30) (h: ∀ x∈ls,badL x):runR t ls=(ls.map fun _=>wWhat,t):=by
 rw [xmn hv h30,xo7 _ h];rfl
theorem xg7 {ps:List Str} {j:Nat} (h1:1<=j) (hj:j<ps.length):ps.tail.take (j+1-1)=ps.tail.take (j-1)++[ps.getD j []]:=by
 have e:j+1-1=(j-1)+1:=by omega
 have hl:j-1<ps.tail.length:=by rw [List.length_tail];omega
 rw [e,List.take_add_one,List.getElem?_eq_getElem hl,List.getElem_tail,Flow.getD_at hj]
 simp only [show j-1+1=j from by omega]
 rfl
theorem yag {s z:Str} (hs:s.length<=30) (hz:z.length=2) (n:Nat):(glZ z ((splitS s).getD 0 []) ((splitS s).tail.take n)).length<=100:=by
  have e:=xff s
  rw [ytq,hz]
  generalize splitS s=ps at*
  cases ps with
  | nil=>simp
  | cons a t=>
    have h1:((a::t).tail.take n).flatten.length<=t.flatten.length:=by
      have:=congrArg List.length (congrArg List.flatten (List.take_append_drop n t))
      rw [List.flatten_append,List.length_append] at this
      show ((t.take n).flatten).length<=_
      omega
    have h2:((a::t).tail.take n).length<=t.length:=by simp;omega
    have h3:((a::t).getD 0 [])=a:=rfl
    rw [h3]
    simp at e
    simp at h1 h2 ⊢
    omega
end Go.X.Ms
namespace Go.Proofs.YtbphcmeebnkmdaaGreatDoor
open Go.X Go.X.Ms Go.Conc
open Go.X.Flow (ics)
set_option maxRecDepth 20000
set_option synthInstance.maxSize 2000
set_option maxHeartbeats 800000 in
theorem yvp (h:Heap) (p:PHeap) (hp:Per p h) (A:TA) (t:Twn) (T:TwP p A t) (hn:t.fit 9223372036854775807) (g:GlP p) (s:Str):EntersX Tryz.prog (.main true) 5 #[twV A t,sv s] h fun v h'=>v= .bool true/\Keep h h':=by
 refine ypw hp Tryz.func5 ?_
 refine ax ?_
 refine xjq rfl fun b2=>?_
 refine ax ?_
 refine xun rfl rfl (fun h pe=>c6 _ h _ pe A t T hn) ?_
 rintro _ ⟨q,rfl,hq⟩
 refine ax ?_
 refine xhq rfl (fun _=>?_) (fun cc=>?_)
 ·refine ax ?_
  refine xoq rfl rfl (fun _ pe=>c8 _ _ pe g) ?_
  refine ax ?_
  exact xb9 (by kernel_rfl) Tryz.func5 rfl rfl fun _ H_=>⟨rfl,H_.kept⟩
 obtain ⟨hv,hs⟩:chkT t=0/\s.length<=30:=by
  simp at cc
  exact ⟨hq cc.1,by omega⟩
 refine ax ?_
 refine xxj rfl rfl (fun _ pe=>c14 _ _ _ pe s (by omega)) fun v0 Y0 o0=>?_
 refine xqx o0 (m:=(splitS s).length) (xxx _) (by decide) fun p1 a c g1 e1 hc S=>?_
 subst e1
 have hpos:0<(splitS s).length:=List.length_pos_iff.2 (xiz s)
 have hnl:(splitS s).length<=31:=by have:=xff s;omega
 have S:Strs p1 a (splitS s).length (splitS s):=S
 have S1:Sl p1 a (splitS s).length 1 (scs (splitS s)):=S
 have hnb:=xor (s:=s)
 have hgl:=fun {z:Str} (hz:z.length=2) (n:Nat)=>yag hs hz n
 generalize splitS s=ps at*
 have G1:=g.mono g1.le
 have T1:=T.mono g1.le
 refine ax ?_
 refine xix [] R11 ?_
 refine ex ?_
 refine xsw rfl rfl (Strs.get S (i:=0) hpos) ?_
 refine ex ?_
 refine xsw rfl rfl (Strs.get S (i:=0) hpos) ?_
 refine ex ?_
 refine xsw rfl rfl (Strs.get S (i:=0) hpos) ?_
 refine ex ?_
 refine ax ?_
 refine xrq (fun m_ l p_ L_=>∃ (j:Nat),m_=ps.length-j/\l=[(1,none,sv s),(2,none,.pointer (some ⟨b2,0,none⟩)),(5,none,.slice a ps.length c),(6,none,sv (glZ [32,32] (ps.getD 0 []) (ps.tail.take (j-1)))),(7,none,sv (glZ [32,48] (ps.getD 0 []) (ps.tail.take (j-1)))),
  (8,none,sv (glZ [32,43] (ps.getD 0 []) (ps.tail.take (j-1)))),(9,none,.int .i64 ((j:Nat):Int))]/\p_=p1/\L_=[[(b2,.cells (tcs A t).toArray 33 (0,0))]]/\1<=j/\j<=ps.length) ⟨1,rfl,rfl,rfl,rfl,Nat.le_refl _,hpos⟩ sb ?_
 rintro _ _ p1 _ IH ⟨j,rfl,rfl,rfl,rfl,h1j,hj⟩
 refine ax ?_
 refine xhq rfl (fun cd=>?_) (fun cd=>?_)
 ·have hjl:j<ps.length:=by omega
  have et:=xg7 h1j hjl
  have l1:=hgl (z:=[32,32]) rfl (j-1)
  have l2:=hgl (z:=[32,48]) rfl (j-1)
  have l3:=hgl (z:=[32,43]) rfl (j-1)
  have hg2:=hgl (z:=[32,32]) rfl (j+1-1)
  have hle:(ps.getD j []).length<=100:=by
   rw [et,xvb] at hg2
   rw [List.length_append] at hg2;omega
  refine ax ?_
  refine ykf R24 ?_
  refine ex ?_
  refine xkl rfl rfl rfl (by simp only [List.length_cons,List.length_nil];omega) ?_
  refine ex ?_
  refine xsw rfl rfl (Strs.get S hjl) ?_
  refine ex ?_
  refine xkl rfl rfl rfl (by simp only [List.length_cons,List.length_nil,List.length_append];omega) ?_
  refine ex ?_
  refine xkl rfl rfl rfl (by simp only [List.length_cons,List.length_nil];omega) ?_
  refine ex ?_
  refine xsw rfl rfl (Strs.get S hjl) ?_
  refine ex ?_
  refine xkl rfl rfl rfl (by simp only [List.length_cons,List.length_nil,List.length_append];omega) ?_
  refine ex ?_
  refine xkl rfl rfl rfl (by simp only [List.length_cons,List.length_nil];omega) ?_
  refine ex ?_
  refine xsw rfl rfl (Strs.get S hjl) ?_
  refine ex ?_
  refine xkl rfl rfl rfl (by simp only [List.length_cons,List.length_nil,List.length_append];omega) ?_
  refine ex ?_
  refine ax ?_
  exact xqq (IH _ _ _ (by omega) ⟨j+1,rfl,by rw [et,xvb,xvb,xvb],rfl,rfl,by omega,by omega⟩)
 obtain rfl:j=ps.length:=by omega
 clear IH
 have ht:ps.tail.take (ps.length-1)=ps.tail:=List.take_of_length_le (by rw [List.length_tail];exact Nat.le_refl _)
 rw [ht]
 have l1:=hgl (z:=[32,32]) rfl (ps.length-1)
 have l2:=hgl (z:=[32,48]) rfl (ps.length-1)
 have l3:=hgl (z:=[32,43]) rfl (ps.length-1)
 rw [ht] at l1 l2 l3
 have hp0:(32:UInt8) ∉ ps.getD 0 []:=hnb _ (by rw [Flow.getD_at hpos];exact List.getElem_mem _)
 have htl: ∀ x∈ps.tail,(32:UInt8) ∉ x:=fun x hx=>hnb x (List.mem_of_mem_tail hx)
 refine ax ?_
 refine xab rfl rfl (by simp only [List.length_cons,List.length_nil];omega) ?_
 refine ax ?_
 refine xab rfl rfl (by simp only [List.length_cons,List.length_nil];omega) ?_
 refine ax ?_
 refine xjz rfl fun v1 Y1 o1=>?_
 have o1:OwnS 9 1 v1 (scs [[32]++s,s++[32]]) Y1:=o1
 refine ax ?_
 refine xoz (fun l' p_ L_=>∃ (v:Value) (Y:Pcs) (ls:List Str),l'=[(1,none,sv s),(2,none,.pointer (some ⟨b2,0,none⟩)),(10,none,v)]/\p_=p1/\L_=[Y,[(b2,.cells (tcs A t).toArray 33 (0,0))]]/\
  OwnS 9 1 v (scs ls) Y/\(∀ x∈ls,badL x/\x.length<=900)/\ls.length<=5) ?_ fun k' nx=>?_
 rotate_left
 ·have b0: ∀ x∈[[32]++s,s++[32]],badL x/\x.length<=900:=fun x hx=>by
   rcases List.mem_cons.1 hx with rfl | hx
   ·exact ⟨yqz s,by simp;omega⟩
   ·rw [List.mem_singleton.1 hx]
    exact ⟨ybb s,by simp;omega⟩
  refine xhq rfl (fun cc=>?_) (fun cc=>?_)
  ·have hlt:1<ps.length:=by omega
   have hne:ps.tail≠[]:=fun e=>by have:=congrArg List.length e;rw [List.length_tail] at this;simp at this;omega
   refine ax ?_
   refine xjz rfl fun v3 Y3 o3=>?_
   have o3:OwnS 9 1 v3 (scs [glZ [32,32] (ps.getD 0 []) ps.tail,glZ [32,43] (ps.getD 0 []) ps.tail]) Y3:=o3
   refine xmh rfl rfl o1 o3 (by simp [scs,sv,isOne]) (by simp [scs]) fun v4 Y4 o4=>?_
   have b1: ∀ x∈[[32]++s,s++[32],glZ [32,32] (ps.getD 0 []) ps.tail,glZ [32,43] (ps.getD 0 []) ps.tail],badL x/\x.length<=900:=fun x hx=>by
    rcases List.mem_append.1 (show x∈[[32]++s,s++[32]]++[glZ [32,32] (ps.getD 0 []) ps.tail,glZ [32,43] (ps.getD 0 []) ps.tail] from hx) with hx | hx
    ·exact b0 x hx
    rcases List.mem_cons.1 hx with rfl | hx
    ·exact ⟨yyw hp0 htl hne,by omega⟩
    ·rw [List.mem_singleton.1 hx]
     exact ⟨yzw hp0 htl hne,by omega⟩
   have o4:OwnS 9 1 v4 (scs [[32]++s,s++[32],glZ [32,32] (ps.getD 0 []) ps.tail,glZ [32,43] (ps.getD 0 []) ps.tail]) Y4:=o4
   refine ax ?_
   refine xzr rfl rfl (by omega) (by omega) (Sl.ne S1 hpos) ?_
   rw [show (((ps.length:Nat):Int)-1).toNat=ps.length-1 by omega]
   refine xkk rfl (Strs.get S (i:=ps.length-1) (by omega)) ?_
   refine ax ?_
   refine xhq rfl (fun cd=>?_) (fun cd=>?_)
   ·refine ax ?_
    refine xjz rfl fun v5 Y5 o5=>?_
    have o5:OwnS 9 1 v5 (scs [glZ [32,48] (ps.getD 0 []) ps.tail]) Y5:=o5
    refine xmh rfl rfl o4 o5 (by simp [scs,sv,isOne]) (by simp [scs]) fun v6 Y6 o6=>?_
    have o6:OwnS 9 1 v6 (scs ([[32]++s,s++[32],glZ [32,32] (ps.getD 0 []) ps.tail,glZ [32,43] (ps.getD 0 []) ps.tail]++[glZ [32,48] (ps.getD 0 []) ps.tail])) Y6:=o6
    refine ax ?_
    refine xow (nx _ _ _ ⟨v6,Y6,_,rfl,rfl,rfl,o6,fun x hx=>?_,by simp⟩) ⟨rfl,rfl,rfl,trivial⟩
    rcases List.mem_append.1 hx with hx | hx
    ·exact b1 x hx
    ·rw [List.mem_singleton.1 hx]
     refine ⟨yxw hp0 htl hne fun e=>?_,by omega⟩
     refine cd ?_
     rw [List.getLast_eq_getElem,List.getElem_tail] at e
     rw [Flow.getD_at (by omega),<- e]
     congr 1
     rw [List.length_tail];omega
   ·refine ax ?_
    exact xow (nx _ _ _ ⟨v4,Y4,_,rfl,rfl,rfl,o4,b1,by simp⟩) ⟨rfl,rfl,rfl,trivial⟩
  ·refine ax ?_
   exact xow (nx _ _ _ ⟨v1,Y1,_,rfl,rfl,rfl,o1,b0,by simp⟩) ⟨rfl,rfl,rfl,trivial⟩
 rintro _ p1 _ ⟨v2,Y2,ls,rfl,rfl,rfl,o2,hls,hln⟩
 refine ax ?_
 have rd: ∀ h,Per p1 h->CallsX Tryz.prog (.main true) 15 #[sv s] h fun v h'=>(∃ q:Option Addr × Nat,v= .agg #[sv (readR s).w,.int .i64 (((readR s).k:Nat):Int),.slice q.1 (readR s).a.length q.2,sv (readR s).l])/\Keep h h':=fun h pe=>
  (c15 _ h _ pe s (by omega)).mono fun v h' x=>by
   obtain ⟨⟨_,a,c,e,_⟩,kk⟩:=x.keep
   exact ⟨⟨(a,c),e⟩,kk⟩
 have bk:=yab (x:=s)
 generalize readR s=rl at*
 refine yxb (fun q:Option Addr × Nat=>.agg #[sv rl.w,.int .i64 ((rl.k:Nat):Int),.slice q.1 rl.a.length q.2,sv rl.l]) rfl rfl rfl trivial rd fun q=>?_
 refine ax ?_
 refine yxb (fun q:Option Addr × Nat=>.agg #[sv rl.w,.int .i64 ((rl.k:Nat):Int),.slice q.1 rl.a.length q.2,sv rl.l]) rfl rfl rfl sdu rd fun q2=>?_
 refine ax ?_
 refine xoz (fun l' p_ L_=>∃ (v:Value) (Y:Pcs) (ls:List Str),l'=[(2,none,.pointer (some ⟨b2,0,none⟩)),(10,none,v)]/\p_=p1/\L_=[Y,[(b2,.cells (tcs A t).toArray 33 (0,0))]]/\
  OwnS 9 1 v (scs ls) Y/\(∀ x∈ls,badL x/\x.length<=900)/\ls.length<=6) ?_ fun k' nx=>?_
 rotate_left
 ·refine xhq rfl (fun cc=>?_) (fun cc=>?_)
  ·refine ax ?_
   refine xab rfl rfl (by simp only [List.length_cons,List.length_nil];omega) ?_
   refine ax ?_
   refine xjz rfl fun v3 Y3 o3=>?_
   have o3:OwnS 9 1 v3 (scs [wKeepA++s]) Y3:=o3
   refine xmh rfl rfl o2 o3 (by simp [scs,sv,isOne]) (by simp [scs];omega) fun v4 Y4 o4=>?_
   refine ax ?_
   refine xow (nx _ _ _ ⟨v4,Y4,ls++[wKeepA++s],rfl,rfl,rfl,o4.as (by simp [scs]),fun x hx=>?_,by rw [List.length_append];simp;omega⟩) ⟨rfl,rfl,trivial⟩
   rcases List.mem_append.1 hx with hx | hx
   ·exact hls x hx
   ·rw [List.mem_singleton.1 hx]
    refine ⟨bk ?_,by rw [List.length_append,show wKeepA.length=7 from rfl];omega⟩
    rcases cc with cc | cc
    ·exact .inl (by omega)
    ·exact .inr cc
  ·refine ax ?_
   exact xow (nx _ _ _ ⟨v2,Y2,ls,rfl,rfl,rfl,o2,hls,by omega⟩) ⟨rfl,rfl,trivial⟩
 clear hls hln o2 bk rd
 rintro _ p1 _ ⟨v2,Y2,ls,rfl,rfl,rfl,o2,hls,hln⟩
 refine ax ?_
 refine xqx o2 (m:=ls.length) (xxx _) (by decide) fun p3 a3 c3 g3 e3 h3 S3=>?_
 subst e3
 refine xrj rfl rfl (fun h pe=>by
  have c:=c9 h _ pe A t (T1.mono g3.le) (G1.mono g3.le) a3 c3 ls S3 (fun x hx=>(hls x hx).2) hv (by omega)
  unfold runV at c
  rw [yvj hv (by omega) fun x hx=>(hls x hx).1] at c
  exact c) ?_
 rintro _ p4 g4 ⟨a4,c4,A4,rfl,hc4,S4,T4⟩
 have S4:Strs p4 a4 ls.length (ls.map fun _=>wWhat):=S4
 refine ax ?_
 refine xiq fun b11=>?_
 refine ax ?_
 refine xex rfl rfl rfl sdu (fun cg _ pe=>c12 _ _ _ pe A4 A _ T4 ((T1.mono g3.le).mono g4.le) ((xbj hv).up (by omega))) ?_
 refine ax ?_
 refine xhq rfl (fun cd=>absurd cd (by simp)) (fun _=>?_)
 refine ax ?_
 refine xrq (fun m_ l p_ L_=>∃ (j:Nat) (ob:Obj),m_=ls.length-j/\l=[(11,none,.slice a4 ls.length c4),(14,none,.int .i64 ((j:Nat):Int))]/\p_=p4/\
  L_=[[(b11,ob)],[(b2,.cells (tcs A t).toArray 33 (0,0))]]/\j<=ls.length) ⟨0,_,rfl,rfl,rfl,rfl,Nat.zero_le _⟩ sb ?_
 rintro _ _ p4 _ IH ⟨i,ob,rfl,rfl,rfl,rfl,hi⟩
 refine ax ?_
 refine xhq rfl (fun cd=>?_) (fun cd=>?_)
 ·have hil:i<ls.length:=by omega
  have hw:(ls.map fun _=>wWhat).getD i []=wWhat:=by rw [Flow.getD_at (by simpa using hil),List.getElem_map]
  refine ax ?_
  refine xkk rfl (Strs.get S4 hil) ?_
  rw [hw]
  refine ax ?_
  refine xhq rfl (fun ce=>absurd rfl ce) (fun _=>?_)
  refine ax ?_
  exact xqq (IH _ _ _ (by omega) ⟨i+1,ob,rfl,rfl,rfl,rfl,by omega⟩)
 refine ax ?_
 refine xoq rfl rfl (fun _ pe=>c8 _ _ pe ((G1.mono g3.le).mono g4.le)) ?_
 refine ax ?_
 exact xb9 (by kernel_rfl) Tryz.func5 rfl rfl fun _ H_=>⟨rfl,H_.kept⟩
end Go.Proofs.YtbphcmeebnkmdaaGreatDoor
namespace Go.Proofs.YtbphcmeebnkmdaaGreatDoor
open Go.X Go.X.Ms Go.Conc Go.RowKit Go.ChangeShapes Go.WideShapes Go.ChangeAt Go.Joins
set_option maxRecDepth 100000
theorem xhg (os:Os) (started:os.Started) (H:Type) (enc:TypeId × Value->H):
  ReturnsInLeavingWide {} Tryz.checked os 5 .any (fun w args=>(Rows.masterFormSpec.pre enc Tryz.prog Tryz.f5 Rows.masterFormRow.domain false w args/\laidMetH Tryz.prog Rows.masterFormRow.laid w)/\sizedMet enc Tryz.prog Tryz.f5 (OpenSpec.ofChange Rows.masterFormSpec) false w args) (Rows.masterFormSpec.post enc Tryz.prog Tryz.f5 false true false false):=by
 refine xo0 (C:=Tryz.checked) (X:=fun w _=>laidMetH Tryz.prog Rows.masterFormRow.laid w) (fun _ _ _ hh h=>h.of_heap hh) pOwn started Tryz.func5
  (ChangeSpec.witness_shaped (enc:=enc) (C:=Tryz.checked) (os:=os) (X:=fun w _=>laidMetH Tryz.prog Rows.masterFormRow.laid w) false (laidW os) #[.agg #[.slice none 0 0,.slice none 0 0,.int .i64 0,.int .i64 0,.int .i64 0,.slice none 0 0,.slice none 0 0,.slice none 0 0,.int .i64 0,.int .i64 0,.slice none 0 0],.string ⟨#[]⟩] 8 (World.laidAll_os _ _ _)
   (World.shaped_of_ZipB (by kernel_rfl) (by kernel_rfl)) (by kernel_rfl) (by kernel_rfl) (by kernel_rfl) (yjq os _)) ?_
 intro W base args ds gs before hval0 hW hL
 have hval: ∀ (j:Nat) t v,Tryz.f5.params[j]?=some t->args[j]?=some v->Value.okWide Tryz.prog W .any base t v:=hval0
 have hW2:=hW
 obtain ⟨p,q,hA0,hV,rfl,_,_⟩:=hW2
 have hA:DataW.TrodAll enc Tryz.prog W 0 (fun _=>true) true Tryz.f5.params.toList args.toList ds p:=hA0
 rw [Tryz.params5] at hA hval
 obtain ⟨v0,v1,d0,d1,p0,p1,rfl,rfl,_,h0,h1⟩:=trodAll_two hA
 obtain ⟨rfl,rfl⟩:=trodVars_none hV
 obtain ⟨A,t,rfl,hn,T⟩:=xk0 (hval 0 33 v0 rfl rfl) h0
 obtain ⟨s1,rfl⟩:=ytk (hval 1 9 v1 rfl rfl) h1
 obtain ⟨N,last,o,w2,t2,r1,r2,r3,r4⟩:=xwl (w:=W) (yvp (nilV W.heap) (vwP W) (yxc W) A t T hn (xu5 hL) s1) fun v h2 r=>r.2
 refine ⟨N,last,o,w2,t2,r1,r2,r3,r4.mono fun v ⟨hB,h2,e,_⟩=>?_⟩
 subst e
 exact ykv ylp rfl (fun t ht=>by rw [Tryz.params5] at ht;revert t;decide +kernel) rfl Tryz.underlying4 hW rfl hB
set_option maxHeartbeats 4000000 in
theorem xqs:joinedFacts Tryz.prog 5 Tryz.f5 Rows.masterFormSpec Rows.masterFormRow=true:=by
 unfold joinedFacts
 repeat' (with_reducible refine Bool.and_eq_true_iff.2 ⟨?_,?_⟩)
 all_goals (as_aux_lemma=>kernel_rfl)
theorem masterFormRowHolds:Rows.MasterFormSaid:=
 OpenClaim.holds_of_wide_leaving 5 Tryz.f5 rfl rfl rfl rfl rfl rfl rfl ⟨rfl,rfl,rfl,rfl,rfl⟩ rfl rfl rfl rfl rfl (by kernel_rfl) Tryz.func5 xqs
  (of_decide_eq_true (by kernel_rfl)) (by unfold Func.isWrapper;first | (rw [if_pos (by decide +kernel)];kernel_rfl) | (rw [if_neg (by decide +kernel)];exact ⟨rfl,rfl⟩))
  (fun os started H enc _=>xhg os started H enc)
theorem masterFormHolds:Rows.MasterFormCardSaid:=
 xf7 .later [.data, .data, .data, .data, .data, .data, .sentinel, .sentinel, .pinned] true (true, "c061c25c0c0db48c3908f0d2f26f0abc234113ce78b6afd6b4620ca9bba56ea1") true masterFormRowHolds (by kernel_rfl) masterForm_row_tie rfl ⟨rfl, rfl⟩ (by kernel_rfl) rfl
  (fun f fn hf hfn=>by
   obtain rfl : f = 5 := Option.some.inj ((show Tryz.prog.funcNamed "steening/steeninglaw12.MasterForm" = some 5 by kernel_rfl).symm.trans hf) |>.symm
   obtain rfl:fn=Tryz.f5:=(Option.some.inj (Tryz.func5.symm.trans hfn)).symm
   exact ⟨by kernel_rfl,fun j t ht=>by
    rw [Tryz.params5] at ht
    have hm:t∈[33,9]:=by simpa using Array.mem_of_getElem? ht
    have hall:([33,9].all fun u=>!Tryz.prog.wantsStandIn u)=true:=by kernel_rfl
    exact (show Tryz.prog.wantsStandIn t=false by simpa using List.all_eq_true.1 hall t hm)⟩)
  (by kernel_rfl)
#print axioms masterFormHolds
end Go.Proofs.YtbphcmeebnkmdaaGreatDoor
