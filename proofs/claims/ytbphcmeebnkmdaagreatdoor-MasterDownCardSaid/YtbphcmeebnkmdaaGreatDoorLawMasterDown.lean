/-
  MasterDown, for every input: the law returns true and leaves its arguments as they were. The row, and the tied card. No condition.
-/
import Derived.Test.YtbphcmeebnkmdaaGreatDoorGN
import Derived.Test.YtbphcmeebnkmdaaGreatDoorCards
import Derived.Test.YtbphcmeebnkmdaaGreatDoorTie
namespace Go.X.Ms
def wFoot:Str:=[102,111,111,116]
def wUp:Str:=[117,112]
def dnT (t:Twn) (fs:List Int):Twn:={ t with s:={ t.s with feet:=fs } }
theorem xqd {t:Twn} (h:chkT t=0) {fs:List Int}:chkT (dnT t fs)=0<->fs.length<=12/\ ∀ x∈fs,okF t.s.rocks.length x:=by
 obtain ⟨h1,h2,h3⟩:=xtj.1 h
 have ok:=xel.1 h1
 rw [xtj,xel]
 exact ⟨fun ⟨k,_,_⟩=>⟨k.2.2.1,k.2.2.2.1⟩,fun k=>⟨⟨ok.1,ok.2.1,k.1,k.2,ok.2.2.2.2⟩,h2,h3⟩⟩
theorem xzh {t:Twn} (h:chkT t=0):t.s.feet.length<=12/\ ∀ x∈t.s.feet,okF t.s.rocks.length x:=by
 have:=(xel.1 (xtj.1 h).1)
 exact ⟨this.2.2.1,this.2.2.2.1⟩
theorem ydg {d:Dsk} {r:Int} (h:chkT d.now.t=0) (hr: -999999<=r/\r<=999999):
  doD d (sayK wFoot [r] 1)=if okF d.now.t.s.rocks.length r/\d.now.t.s.feet.length<12 then (setD d (dnT d.now.t (d.now.t.s.feet++[r])),wOk) else (d,wNo):=by
 have e:=ygx (d:=d) (w:=wFoot) (l:=[r]) (o:=.foot) (by decide) (by decide) (fun x hx=>by rw [List.mem_singleton.1 hx];exact hr) (by show qn (_++txt ((1:Nat):Int))=_;rw [xlf (by decide)];kernel_rfl) (by show od (_++txt ((1:Nat):Int))=_;rw [xlf (by decide)];kernel_rfl) (show opensW wFoot 1=false by decide)
 refine e.trans ?_
 show (if chkT (dnT d.now.t (d.now.t.s.feet++[r]))=0 then _ else _)=_
 have hf:=xzh h
 by_cases c:okF d.now.t.s.rocks.length r/\d.now.t.s.feet.length<12
 ·rw [if_pos c,if_pos ((xqd h).2 ⟨by rw [List.length_append,List.length_singleton];omega,fun x hx=>by
   rcases List.mem_append.1 hx with hx | hx
   ·exact hf.2 x hx
   ·rw [List.mem_singleton.1 hx];exact c.1⟩)]
  rfl
 ·rw [if_neg c,if_neg fun k=>c ?_]
  have k:=(xqd h).1 k
  rw [List.length_append,List.length_singleton] at k
  exact ⟨k.2 r (by simp),by omega⟩
theorem ypm {d:Dsk} (h:chkT d.now.t=0):doD d wUp=if d.now.t.s.feet.length=0 then (d,wNo) else (setD d (dnT d.now.t (d.now.t.s.feet.take (d.now.t.s.feet.length-1))),wOk):=by
 have e:=ygx (d:=d) (w:=wUp) (l:=[]) (o:=.up) (by decide) (by decide) (fun x hx=>by cases hx) (by show qn (_++txt ((0:Nat):Int))=_;rw [xlf (by decide)];kernel_rfl) (by show od (_++txt ((0:Nat):Int))=_;rw [xlf (by decide)];kernel_rfl) (by decide)
 refine e.trans ?_
 have hf:=xzh h
 have eT:turnO .up d.now.t []=if d.now.t.s.feet.length=0 then none else some (dnT d.now.t (d.now.t.s.feet.take (d.now.t.s.feet.length-1))):=rfl
 rw [eT]
 by_cases c:d.now.t.s.feet.length=0
 ·rw [if_pos c,if_pos c]
 ·rw [if_neg c,if_neg c]
  simp only
  rw [if_pos ((xqd h).2 ⟨by rw [List.length_take];omega,fun x hx=>hf.2 x (List.mem_of_mem_take hx)⟩)]
  rfl
theorem xot: ∀ (k:Nat) (d:Dsk),chkT d.now.t=0->(∀ i,i<k->((runD d (List.replicate k wUp)).2.getD i []=wOk<->i<d.now.t.s.feet.length))/\(runD d (List.replicate k wUp)).1.now.t=dnT d.now.t (d.now.t.s.feet.take (d.now.t.s.feet.length-k))
  | 0,d,_=>⟨fun i hi=>absurd hi (Nat.not_lt_zero i),by
      show d.now.t=_
      rw [Nat.sub_zero,List.take_length];rfl⟩
  | k+1,d,h=>by
    have e:=ypm h
    rw [List.replicate_succ,runD]
    by_cases c:d.now.t.s.feet.length=0
    · rw [if_pos c] at e
      have ih:=xot k d h
      rw [e]
      have he:d.now.t.s.feet=[]:=List.eq_nil_of_length_eq_zero c
      refine ⟨fun i hi=>?_,?_⟩
      · cases i with
        | zero=>rw [List.getD_cons_zero];exact ⟨fun z=>(by cases z),fun z=>(by omega)⟩
        | succ i=>
          rw [List.getD_cons_succ]
          exact (ih.1 i (by omega)).trans ⟨fun z=>(by omega),fun z=>(by omega)⟩
      · show (runD d _).1.now.t=_
        rw [ih.2,he];simp
    · rw [if_neg c] at e
      have hf:=xzh h
      have h2:chkT (dnT d.now.t (d.now.t.s.feet.take (d.now.t.s.feet.length-1)))=0:=(xqd h).2 ⟨by rw [List.length_take];omega,fun x hx=>hf.2 x (List.mem_of_mem_take hx)⟩
      have ih:=xot k (setD d (dnT d.now.t (d.now.t.s.feet.take (d.now.t.s.feet.length-1)))) h2
      have e1:(setD d (dnT d.now.t (d.now.t.s.feet.take (d.now.t.s.feet.length-1)))).now.t.s.feet=d.now.t.s.feet.take (d.now.t.s.feet.length-1):=rfl
      rw [e1,List.length_take] at ih
      rw [e]
      refine ⟨fun i hi=>?_,?_⟩
      · cases i with
        | zero=>rw [List.getD_cons_zero];exact ⟨fun _=>(by omega),fun _=>rfl⟩
        | succ i=>
          rw [List.getD_cons_succ]
          exact (ih.1 i (by omega)).trans ⟨fun z=>(by omega),fun z=>(by omega)⟩
      · show (runD _ _).1.now.t=_
        rw [ih.2,List.take_take]
        show dnT d.now.t _=_
        congr 2
        omega
theorem yag {t:Twn} (h:chkT t=0) {r:Int} (hr: -999999<=r/\r<=999999): ∃ x y,(runR t [sayK wFoot [r] 1,wUp]).1=[x,y]/\(x=wOk<->okF t.s.rocks.length r/\t.s.feet.length<12)/\(x=wOk->y=wOk/\(runR t [sayK wFoot [r] 1,wUp]).2=t):=by
 rw [xxg (ls:=[sayK wFoot [r] 1,wUp]) h (show (2:Nat)<=30 by decide)]
 have e:=ydg (d:=startD t) h hr
 rw [runD,runD,runD]
 by_cases c:okF t.s.rocks.length r/\t.s.feet.length<12
 ·have e:doD (startD t) (sayK wFoot [r] 1)=(setD (startD t) (dnT t (t.s.feet++[r])),wOk):=e.trans (if_pos c)
  have hf:=xzh h
  have h2:chkT (dnT t (t.s.feet++[r]))=0:=(xqd h).2 ⟨by rw [List.length_append,List.length_singleton];omega,fun x hx=>by
   rcases List.mem_append.1 hx with hx | hx
   ·exact hf.2 x hx
   ·rw [List.mem_singleton.1 hx];exact c.1⟩
  have e2:=ypm (d:=setD (startD t) (dnT t (t.s.feet++[r]))) h2
  have e3:(setD (startD t) (dnT t (t.s.feet++[r]))).now.t.s.feet=t.s.feet++[r]:=rfl
  rw [e3,List.length_append,List.length_singleton,if_neg (by omega),Nat.add_sub_cancel,List.take_left] at e2
  rw [e,e2]
  exact ⟨wOk,wOk,rfl,⟨fun _=>c,fun _=>rfl⟩,fun _=>⟨rfl,rfl⟩⟩
 ·have e:doD (startD t) (sayK wFoot [r] 1)=(startD t,wNo):=e.trans (if_neg c)
  rw [e]
  exact ⟨wNo,_,rfl,⟨fun z=>(by cases z),fun z=>absurd z c⟩,fun z=>(by cases z)⟩
theorem yac {t:Twn} (h:chkT t=0):(∀ i,i<t.s.feet.length+1->((runR t (List.replicate (t.s.feet.length+1) wUp)).1.getD i []=wOk<->i<t.s.feet.length))/\(runR t (List.replicate (t.s.feet.length+1) wUp)).2.s.feet=[]:=by
 have hf:=xzh h
 rw [xxg h (by rw [List.length_replicate];omega)]
 have:=xot (t.s.feet.length+1) (startD t) h
 refine ⟨this.1,?_⟩
 simp only
 rw [this.2]
 show List.take (t.s.feet.length-(t.s.feet.length+1)) _=_
 rw [show t.s.feet.length-(t.s.feet.length+1)=0 by omega];rfl
end Go.X.Ms
namespace Go.Proofs.YtbphcmeebnkmdaaGreatDoor
open Go.X Go.X.Ms Go.Conc
open Go.X.Flow (ics)
set_option maxRecDepth 20000
set_option synthInstance.maxSize 2000
theorem ylc {n:Nat}:scs (List.replicate n wUp)++scs [wUp]=scs (List.replicate (n+1) wUp):=by
 rw [List.replicate_succ'];simp [scs]
def RunX (p:PHeap) (t:Twn) (ls:List Str) (v:Value) (Y:Pcs):Prop:=∃ (a:Option Addr) (c:Nat) (A:TA),v= .tuple #[.slice a ls.length c,twV A (runR t ls).2,.bool true]/\ls.length<=c/\ ∀ p',PLe p p'->(∀ y∈Y,p' y.1=some y.2)->Strs p' a ls.length (runR t ls).1/\TwP p' A (runR t ls).2
theorem xf7 {p:PHeap} {h₀ h:Heap} {B₀:List Nat} {L Y:Pcs} {A:TA} {t:Twn} {ls:List Str} {v:Value} (o:OwnS 9 1 v (scs ls) Y) (s:St h₀ B₀ p h (Y++L)) (T:TwP p A t) (g:GlP p) (hlm: ∀ s∈ls,s.length<=900) (hv:chkT t=0) (h30:ls.length<=30):
  CallsX Tryz.prog (.main true) 9 #[twV A t,v] h fun v' h'=>∃ Z,RunX p t ls v' (Z++Y)/\New h h' Z:=by
 obtain ⟨p',⟨g',gl⟩,hy,s'⟩:=s.lastAll
 obtain ⟨a,c,e,S⟩:=o.inP hy
 subst e
 rw [xkz] at S ⊢
 refine (c9 h p' s'.per A t (T.mono g'.le) (g.mono g'.le) a c ls S hlm hv h30).mono fun v' h' x=>?_
 obtain ⟨Z,⟨p2,⟨a2,c2,A2,e2,hc2,S2,T2⟩,le⟩,N⟩:=x.pieces
 exact ⟨Z,⟨a2,c2,A2,e2,hc2,fun p'' l y=>by
  have l2:=le p'' (gl p'' l fun z hz=>y z (List.mem_append_right _ hz)) fun z hz=>y z (List.mem_append_left _ hz)
  exact ⟨Strs.mono l2 S2,T2.mono l2⟩⟩,N⟩
theorem yej {p:PHeap} {h₀ h:Heap} {B₀:List Nat} {L Y:Pcs} {v:Value} {w:Str} {l:List Int} {n:Nat} {md:Md} (o:OwnS 3 1 v (ics l) Y) (hl:l.length=n) (s:St h₀ B₀ p h (Y++L)) (hw:w.length<=1000) (hn:n<=100) (hb:sm6 l):
  CallsX Tryz.prog md 10 #[sv w,v] h fun v' h'=>∃ Z,(v'=sv (sayK w l n)/\Z=[])/\New h h' Z:=by
 obtain ⟨p',⟨g',gl⟩,hy,s'⟩:=s.lastAll
 obtain ⟨a,c,e,S⟩:=o.inP hy
 subst e
 rw [xnx,hl] at S ⊢
 exact (c10 md h p' s'.per w hw a n c l S hn fun i hi=>by
  have:=hb (l.getD i 0) (by rw [Flow.getD_at (by omega)];exact List.getElem_mem _)
  omega).mono fun v' h' ⟨e,k⟩=>⟨[],⟨e,rfl⟩,New.of k⟩
set_option maxHeartbeats 800000 in
theorem yep (h:Heap) (p:PHeap) (hp:Per p h) (A:TA) (t:Twn) (T:TwP p A t) (hn:t.fit 9223372036854775807) (g:GlP p) (k:Int):EntersX Tryz.prog (.main true) 3 #[twV A t,.int .i64 k] h fun v h'=>v= .bool true/\Keep h h':=by
  refine yyv hp Tryz.func3 ?_
  refine ax ?_
  refine xjq rfl fun b2=>?_
  refine ax ?_
  refine xmn rfl rfl (fun h pe=>c6 _ h _ pe A t T hn) ?_
  rintro _ ⟨q,rfl,hq⟩
  refine ax ?_
  cases q with
  | false=>
    refine xxd undef rfl ?_
    refine ax ?_
    refine xxd (.bool true) rfl ?_
    refine ax ?_
    refine xhq rfl (fun _=>?_) (fun cc=>(cc (by simp)).elim)
    refine ax ?_
    refine xoq rfl rfl (fun _ pe=>c8 _ _ pe g) ?_
    refine ax ?_
    exact xzt (by kernel_rfl) Tryz.func3 rfl rfl fun h_ H_=>⟨rfl,H_.kept⟩
  | true=>
  have hv:=hq rfl
  refine xf2 rfl rfl ⟨rfl,trivial⟩ fun v1 Y1 o1=>?_
  have o1:OwnS 3 1 v1 (ics [k]) Y1:=o1
  refine xtx o1 (m:=1) rfl (by decide) fun p1 a1 c1 g1 e1 _ S1=>?_
  subst e1
  refine ax ?_
  refine xfx rfl rfl rfl sdu (fun _ _ pe=>c7 _ _ _ pe a1 1 c1 [k] S1 (by omega)) ?_
  refine ax ?_
  refine xhq rfl (fun cc=>?_) (fun cc=>?_)
  · refine ax ?_
    refine xoq rfl rfl (fun _ pe=>c8 _ _ pe (g.mono g1.le)) ?_
    refine ax ?_
    exact xzt (by kernel_rfl) Tryz.func3 rfl rfl fun h_ H_=>⟨rfl,H_.kept⟩
  have hk: -999999<=k/\k<=999999:=by
    simp at cc
    omega
  refine ax ?_
  have T1:=T.mono g1.le
  have G1:=g.mono g1.le
  have hsm:sm6 [k]:=fun x hx=>by rw [List.mem_singleton.1 hx];exact hk
  have hlen:(sayK wFoot [k] 1).length<=900:=by
    have:=xfn (w:=wFoot) (l:=[k]) (fun i hi=>by
      obtain rfl:i=0:=by simpa using hi
      exact ⟨by show _<=k;omega,by show k<=_;omega⟩) 1 (by simp)
    have e:wFoot.length=4:=rfl
    omega
  refine xxr 13 [5,12] [0,1,3,6,7,8,9,11] [2,3,4,5,10,12] (fun i=>match i with | 3=>[2] | 5=>[4] | 12=>[10] | _=>[]) (fun i=>match i with | 2=>[1] | 3=>[2] | 4=>[3] | 5=>[0,4] | 6=>[5] | 7=>[5,6] | 8=>[5,6] | 9=>[5,6] | 11=>[7] | 12=>[5,8,10] | _=>[])
    (fun i val _ v x=>match i with
      | 0=>v=twV A t/\x=[]
      | 1=>v= .int .i64 k/\x=[]
      | 2=>OwnS 3 1 v (ics [k]) x
      | 3=>v=sv (sayK wFoot [k] 1)/\x=[]
      | 4=>OwnS 9 1 v (scs [sayK wFoot [k] 1,wUp]) x
      | 5=>RunX p1 t [sayK wFoot [k] 1,wUp] v x
      | 6=>v=val 5/\x=[]
      | 7=>(∀ u w z,val 5= .tuple #[u,w,z]->v=u)/\x=[]
      | 8=>(∀ u w z,val 5= .tuple #[u,w,z]->v=w)/\x=[]
      | 9=>(∀ u w z,val 5= .tuple #[u,w,z]->v=z)/\x=[]
      | 10=>∃ b,v= .pointer (some ⟨b,0,none⟩)/\x=[(b,.cells (tcs zA zT).toArray 33 (0,0))]
      | 11=>v=val 7/\x=[]
      | 12=>∃ b A' u z,val 10= .pointer (some ⟨b,0,none⟩)/\val 5= .tuple #[u,twV A' (runR t [sayK wFoot [k] 1,wUp]).2,z]/\x=[(b,.cells (tcs A' (runR t [sayK wFoot [k] 1,wUp]).2).toArray 33 (0,0))]
      | _=>True) (fun i hi val piece hq=>?_) (fun val piece j hj v x q=>?_) (fun val piece hq=>?_)
  · match i,hi with
    | 0,_=>
        refine ex ?_
        exact xyx ⟨⟨_,rfl⟩,fun v e=>⟨xzq e,rfl⟩⟩
    | 1,_=>
        refine ex ?_
        exact xyx ⟨⟨_,rfl⟩,fun v e=>⟨xzq e,rfl⟩⟩
    | 2,_=>
        refine xag (vs:=[(0,.int .i64 k)]) rfl (by show some [(0,val 1)]=_;rw [(hq 1 rfl).1]) fun v Y o=>?_
        have o:OwnS 3 1 v (ics [k]) Y:=o
        exact xyx ⟨⟨_,rfl⟩,fun v' e=>by
          have e':=xzq e
          subst e'
          show OwnS _ _ _ _ (Y++[])
          rw [List.append_nil];exact o⟩
    | 3,_=>
        have o:OwnS 3 1 (val 2) (ics [k]) (piece 2):=hq 2 rfl
        show DE _ _ _ _ _ _ _ _ _ [piece 2]
        refine xh4 (first:=[]) (cap:=[]) (vs:=[sv wFoot,val 2]) (Q:=fun v Z=>v=sv (sayK wFoot [k] 1)/\Z=[]) (piece 2) rfl rfl rfl (fun h L s=>yej o rfl s (by decide) (by decide) hsm) fun v Z e=>?_
        obtain ⟨rfl,rfl⟩:=e
        exact xyx ⟨⟨_,rfl⟩,fun v' e=>⟨xzq e,rfl⟩⟩
    | 4,_=>
        refine xag (vs:=[(0,sv (sayK wFoot [k] 1)),(1,sv wUp)]) rfl (by show some [(0,val 3),(1,sv wUp)]=_;rw [(hq 3 rfl).1]) fun v Y o=>?_
        have o:OwnS 9 1 v (scs [sayK wFoot [k] 1,wUp]) Y:=o
        exact xyx ⟨⟨_,rfl⟩,fun v' e=>by
          have e':=xzq e
          subst e'
          show OwnS _ _ _ _ (Y++[])
          rw [List.append_nil];exact o⟩
    | 5,_=>
        have o:OwnS 9 1 (val 4) (scs [sayK wFoot [k] 1,wUp]) (piece 4):=hq 4 rfl
        have e0:val 0=twV A t:=(hq 0 rfl).1
        show DE _ _ _ _ _ _ _ _ _ [piece 4]
        refine ydn (first:=[]) (cap:=[]) (vs:=[twV A t,val 4]) (Q:=fun v Z=>RunX p1 t [sayK wFoot [k] 1,wUp] v (Z++piece 4)) (piece 4) rfl rfl (by show some ([],[val 0,val 4])=_;rw [e0]) (fun h L s=>xf7 o s T1 G1 (fun s hs=>by
          rcases List.mem_cons.1 hs with rfl | hs
          · exact hlen
          · rw [List.mem_singleton.1 hs];decide) hv (show (2:Nat)<=30 by decide)) fun v Z e=>?_
        exact xyx ⟨⟨_,rfl⟩,fun v' e'=>by
          have e'':=xzq e'
          subst e''
          show RunX _ _ _ _ ((Z++piece 4)++[])
          rw [List.append_nil];exact e⟩
    | 6,_=>
        refine ex ?_
        exact xyx ⟨⟨_,rfl⟩,fun v e=>⟨xzq e,rfl⟩⟩
    | 7,_=>
        obtain ⟨a,c,A',e5,-⟩:=hq 5 rfl
        have e6:val 6=val 5:=(hq 6 rfl).1
        refine xfb (ss:=[]) (v:=.slice a 2 c) rfl rfl (xu8 (by show some ([],val 6)=_;rw [e6,e5]) rfl) trivial ?_
        exact xyx ⟨⟨_,rfl⟩,fun v e=>⟨fun u w z eq=>by
          have eq:val 5=_:=eq
          rw [xzq e]
          rw [e5] at eq
          simp only [Value.tuple.injEq,Array.mk.injEq,List.cons.injEq] at eq
          exact eq.1,rfl⟩⟩
    | 8,_=>
        obtain ⟨a,c,A',e5,-⟩:=hq 5 rfl
        have e6:val 6=val 5:=(hq 6 rfl).1
        refine xfb (ss:=[]) (v:=twV A' (runR t [sayK wFoot [k] 1,wUp]).2) rfl rfl (xu8 (by show some ([],val 6)=_;rw [e6,e5]) rfl) trivial ?_
        exact xyx ⟨⟨_,rfl⟩,fun v e=>⟨fun u w z eq=>by
          have eq:val 5=_:=eq
          rw [xzq e]
          rw [e5] at eq
          simp only [Value.tuple.injEq,Array.mk.injEq,List.cons.injEq] at eq
          exact eq.2.1,rfl⟩⟩
    | 9,_=>
        obtain ⟨a,c,A',e5,-⟩:=hq 5 rfl
        have e6:val 6=val 5:=(hq 6 rfl).1
        refine xfb (ss:=[]) (v:=.bool true) rfl rfl (xu8 (by show some ([],val 6)=_;rw [e6,e5]) rfl) trivial ?_
        exact xyx ⟨⟨_,rfl⟩,fun v e=>⟨fun u w z eq=>by
          have eq:val 5=_:=eq
          rw [xzq e]
          rw [e5] at eq
          simp only [Value.tuple.injEq,Array.mk.injEq,List.cons.injEq] at eq
          exact eq.2.2.1,rfl⟩⟩
    | 10,_=>
        refine xpp rfl fun b=>?_
        exact xyx ⟨⟨_,rfl⟩,fun v e=>⟨b,xzq e,rfl⟩⟩
    | 11,_=>
        refine ex ?_
        exact xyx ⟨⟨_,rfl⟩,fun v e=>⟨xzq e,rfl⟩⟩
    | 12,_=>
        obtain ⟨a,c,A',e5,-⟩:=hq 5 rfl
        have e8:val 8=twV A' (runR t [sayK wFoot [k] 1,wUp]).2:=(hq 8 rfl).1 _ _ _ e5
        obtain ⟨b,e10,x10⟩:=hq 10 rfl
        have e10:val 10= .pointer (some ⟨b,0,none⟩):=e10
        have x10:piece 10=[(b,.cells (tcs zA zT).toArray 33 (0,0))]:=x10
        show DE _ _ _ _ _ _ _ _ _ [piece 10]
        rw [x10]
        refine xyf (b:=b) (off:=0) (cs:=tcs zA zT) (v:=twV A' (runR t [sayK wFoot [k] 1,wUp]).2) rfl (by show some ([],val 10)=_;rw [e10]) (by show some ([],val 8)=_;rw [e8]) ?_
        exact xyx ⟨⟨undef,rfl⟩,fun v e=>⟨b,A',_,_,e10,e5,rfl⟩⟩
  · simp only [List.mem_cons,List.not_mem_nil,or_false] at hj
    rcases hj with rfl | rfl | rfl | rfl | rfl | rfl | rfl | rfl <;> exact q.2
  obtain ⟨a,c,A1,e5,hc,hl⟩:=hq 5 (by decide)
  have e5:val 5= .tuple #[.slice a 2 c,twV A1 (runR t [sayK wFoot [k] 1,wUp]).2,.bool true]:=e5
  have e7:val 7= .slice a 2 c:=(hq 7 (by decide)).1 _ _ _ e5
  have e9:val 9= .bool true:=(hq 9 (by decide)).1 _ _ _ e5
  have e11:val 11=val 7:=(hq 11 (by decide)).1
  obtain ⟨b6,A2,u,z,e10,e5',e12⟩:=hq 12 (by decide)
  have e10:val 10= .pointer (some ⟨b6,0,none⟩):=e10
  have e5':val 5= .tuple #[u,twV A2 (runR t [sayK wFoot [k] 1,wUp]).2,z]:=e5'
  have eA:tcs A2 (runR t [sayK wFoot [k] 1,wUp]).2=tcs A1 (runR t [sayK wFoot [k] 1,wUp]).2:=by
    rw [e5] at e5'
    simp only [Value.tuple.injEq,Array.mk.injEq,List.cons.injEq] at e5'
    have:=e5'.2.1
    unfold twV at this
    simpa using this.symm
  rw [eA] at e12
  refine xah (l':=[(1,none,.int .i64 k),(2,none,.pointer (some ⟨b2,0,none⟩)),(5,none,.slice a 2 c),(6,none,.pointer (some ⟨b6,0,none⟩)),(33,none,.bool true)]) ?_ ⟨rfl,rfl,by show some (none,val 11)=_;rw [e11,e7],by show some (none,val 10)=_;rw [e10],by show some (none,val 9)=_;rw [e9],trivial⟩
  show RO _ _ _ _ _ _ [piece 5,piece 12,[(b2,.cells (tcs A t).toArray 33 (0,0))]]
  rw [e12]
  refine ylj (piece 5) fun p2 g2 hy=>?_
  obtain ⟨S2,T2⟩:=hl p2 g2.le hy
  clear hl hy hq e12 eA e5' e10 e11 e9 e7 e5
  obtain ⟨x,y,exy,hx,hy⟩:=yag hv hk
  rw [exy] at S2
  have S2:Strs p2 a 2 [x,y]:=S2
  have S2':Sl p2 a 2 1 (scs [x,y]):=S2
  refine ax ?_
  have fr:t.s.rocks.length<=12:=(xjz hv).1.1
  have ff:t.s.feet.length<=12:=(xjz hv).1.2
  refine xix [] R33 ?_
  refine ex ?_
  refine xpv rfl rfl rfl rfl sdu sdu (fun _=>⟨⟨by omega,by omega⟩,Sl.ne S2' (by omega)⟩) ?_
  refine xik (u:=sv x) rfl rfl rfl sdu (fun _=>Strs.get S2 (i:=0) (by omega)) ?_
  refine ex ?_
  refine xjk rfl rfl rfl rfl sdt (fun _ _ pe=>c11 _ _ _ pe _ _ _ _ t.s (by omega) k) ?_
  refine ex ?_
  refine yym rfl rfl rfl rfl sdt sdt ?_
  refine ex ?_
  refine xpv rfl rfl rfl rfl sdu sdu (fun _=>⟨⟨by omega,by omega⟩,Sl.ne S2' (by omega)⟩) ?_
  refine xik (u:=sv x) rfl rfl rfl sdu (fun _=>Strs.get S2 (i:=0) (by omega)) ?_
  refine ex ?_
  refine xpv rfl rfl rfl rfl sdu sdu (fun _=>⟨⟨by omega,by omega⟩,Sl.ne S2' (by omega)⟩) ?_
  refine xik (u:=sv y) rfl rfl rfl sdu (fun _=>Strs.get S2 (i:=1) (by omega)) ?_
  refine ex ?_
  refine yxm rfl rfl rfl rfl sdu sdu ?_
  refine ex ?_
  refine ax ?_
  have Tt:=T1.mono g2.le
  refine xfx rfl rfl rfl sdu (fun cg _ pe=>by
    have hxo:x=wOk:=by
      simp at cg
      exact cg.1.2
    obtain ⟨_,et⟩:=hy hxo
    rw [et] at T2 ⊢
    exact c12 _ _ _ pe A1 A t T2 Tt ((xjz hv).up (by omega))) ?_
  refine ax ?_
  refine xhq rfl (fun cd=>?_) (fun _=>?_)
  · exfalso
    have hb:(decide (x=[111,107]) == (decide (okF t.s.rocks.length k) && decide (((t.s.feet.length:Nat):Int)<12)))=true:=by
      rw [beq_iff_eq,Bool.eq_iff_iff,Bool.and_eq_true,decide_eq_true_eq,decide_eq_true_eq,decide_eq_true_eq]
      exact hx.trans ⟨fun h=>⟨h.1,by omega⟩,fun h=>⟨h.1,by omega⟩⟩
    rcases cd with (cd | cd) | ⟨cd,cd2 | cd2⟩
    · exact cd trivial
    · exact cd hb
    · exact cd2 (hy cd).1
    · exact cd2 trivial
  clear hx hy exy S2' S2 T2 e5' e10
  have G2:=G1.mono g2.le
  refine ax ?_
  refine xxw 9 1 fun o0=>?_
  refine xrq (fun m_ l p_ L_=>∃ (j:Nat) (v:Value) (Y:Pcs),m_=t.s.feet.length+1-j/\l=[(2,none,.pointer (some ⟨b2,0,none⟩)),(8,none,v),(9,none,.int .i64 ((j:Nat):Int))]/\p_=p2/\
    L_=[Y,[(b6,.cells (tcs A1 (runR t [sayK wFoot [k] 1,wUp]).2).toArray 33 (0,0))],[(b2,.cells (tcs A t).toArray 33 (0,0))]]/\j<=t.s.feet.length+1/\OwnS 9 1 v (scs (List.replicate j wUp)) Y) ⟨0,_,_,rfl,rfl,rfl,rfl,Nat.zero_le _,o0⟩ sb ?_
  clear o0
  rintro _ _ p2 _ IH ⟨j,v,Y,rfl,rfl,rfl,rfl,hj,o⟩
  refine ax ?_
  refine xhq rfl (fun cd=>?_) (fun cd=>?_)
  · refine ax ?_
    refine xqz rfl fun v3 Y3 o3=>?_
    have o3:OwnS 9 1 v3 (scs [wUp]) Y3:=o3
    refine xrr rfl rfl o o3 (by simp [scs,sv,isOne]) (by simp [scs];omega) fun v4 Y4 o4=>?_
    refine ax ?_
    exact xqq (IH _ _ _ (by omega) ⟨j+1,v4,Y4,rfl,rfl,rfl,rfl,by omega,o4.as ylc⟩)
  obtain rfl:j=t.s.feet.length+1:=by omega
  clear IH
  refine ax ?_
  refine xtx o (m:=t.s.feet.length+1) (by rw [xkz,List.length_replicate]) (by decide) fun p3 a3 c3 g3 e3 h3 S3=>?_
  subst e3
  refine xnj rfl rfl (fun h pe=>by
    have c:=c9 h _ pe A t (Tt.mono g3.le) (G2.mono g3.le) a3 c3 (List.replicate (t.s.feet.length+1) wUp) (by rw [List.length_replicate];exact S3) (fun s hs=>by rw [List.eq_of_mem_replicate hs];decide) hv (by rw [List.length_replicate];omega)
    unfold runV at c
    rw [List.length_replicate] at c
    exact c) ?_
  rintro _ p4 g4 ⟨a4,c4,A4,rfl,hc4,S4,T4⟩
  obtain ⟨u1,u2⟩:=yac hv
  have S4':Sl p4 a4 (t.s.feet.length+1) 1 (scs (runR t (List.replicate (t.s.feet.length+1) wUp)).1):=S4
  generalize (runR t (List.replicate (t.s.feet.length+1) wUp))=R at*
  refine ax ?_
  refine xiq fun b11=>?_
  refine ax ?_
  refine xhq rfl (fun cd=>?_) (fun cd=>?_)
  · exfalso
    rw [u2] at cd
    simp at cd
  refine ax ?_
  refine xrq (fun m_ l p_ L_=>∃ (j:Nat) (ob ob':Obj),m_=t.s.feet.length+1-j/\l=[(2,none,.pointer (some ⟨b2,0,none⟩)),(10,none,.slice a4 (t.s.feet.length+1) c4),(13,none,.int .i64 ((j:Nat):Int))]/\p_=p4/\
    L_=[[(b11,ob)],[(b6,ob')],[(b2,.cells (tcs A t).toArray 33 (0,0))]]/\j<=t.s.feet.length+1) ⟨0,_,_,rfl,rfl,rfl,rfl,Nat.zero_le _⟩ sb ?_
  rintro _ _ p4 _ IH ⟨i,ob,ob',rfl,rfl,rfl,rfl,hi⟩
  refine ax ?_
  refine xhq rfl (fun cd=>?_) (fun cd=>?_)
  · have hil:i<t.s.feet.length+1:=by omega
    refine ax ?_
    refine xix [] R11 ?_
    refine ex ?_
    refine xzf rfl rfl (Strs.get S4 hil) ?_
    refine ex ?_
    refine ax ?_
    refine yqh rfl rfl rfl sdt sdt ?_
    refine ax ?_
    refine xhq rfl (fun ce=>?_) (fun _=>?_)
    · exfalso
      refine ce ?_
      rw [beq_iff_eq,Bool.eq_iff_iff,decide_eq_true_eq,decide_eq_true_eq]
      exact (u1 i hil).trans ⟨fun h=>by omega,fun h=>by omega⟩
    refine ax ?_
    exact xqq (IH _ _ _ (by omega) ⟨i+1,ob,ob',rfl,rfl,rfl,rfl,by omega⟩)
  refine ax ?_
  refine xoq rfl rfl (fun _ pe=>c8 _ _ pe ((G2.mono g3.le).mono g4.le)) ?_
  refine ax ?_
  exact xzt (by kernel_rfl) Tryz.func3 rfl rfl fun h_ H_=>⟨rfl,H_.kept⟩
end Go.Proofs.YtbphcmeebnkmdaaGreatDoor
namespace Go.Proofs.YtbphcmeebnkmdaaGreatDoor
open Go.X Go.X.Ms Go.Conc Go.RowKit Go.ChangeShapes Go.WideShapes Go.ChangeAt Go.Joins
set_option maxRecDepth 100000
theorem xxf (os:Os) (started:os.Started) (H:Type) (enc:TypeId × Value->H):
  ReturnsInLeavingWide {} Tryz.checked os 3 .any (fun w args=>(Rows.masterDownSpec.pre enc Tryz.prog Tryz.f3 Rows.masterDownRow.domain false w args/\laidMetH Tryz.prog Rows.masterDownRow.laid w)/\sizedMet enc Tryz.prog Tryz.f3 (OpenSpec.ofChange Rows.masterDownSpec) false w args) (Rows.masterDownSpec.post enc Tryz.prog Tryz.f3 false true false false):=by
 refine xi0 (C:=Tryz.checked) (X:=fun w _=>laidMetH Tryz.prog Rows.masterDownRow.laid w) (fun _ _ _ hh h=>h.of_heap hh) pOwn started Tryz.func3
  (ChangeSpec.witness_shaped (enc:=enc) (C:=Tryz.checked) (os:=os) (X:=fun w _=>laidMetH Tryz.prog Rows.masterDownRow.laid w) false (laidW os) #[.agg #[.slice none 0 0,.slice none 0 0,.int .i64 0,.int .i64 0,.int .i64 0,.slice none 0 0,.slice none 0 0,.slice none 0 0,.int .i64 0,.int .i64 0,.slice none 0 0],.int .i64 0] 8 (World.laidAll_os _ _ _)
   (World.shaped_of_ZipB (by kernel_rfl) (by kernel_rfl)) (by kernel_rfl) (by kernel_rfl) (by kernel_rfl) (xu9 os _)) ?_
 intro W base args ds gs before hval0 hW hL
 have hval: ∀ (j:Nat) t v,Tryz.f3.params[j]?=some t->args[j]?=some v->Value.okWide Tryz.prog W .any base t v:=hval0
 have hW2:=hW
 obtain ⟨p,q,hA0,hV,rfl,_,_⟩:=hW2
 have hA:DataW.TrodAll enc Tryz.prog W 0 (fun _=>true) true Tryz.f3.params.toList args.toList ds p:=hA0
 rw [Tryz.params3] at hA hval
 obtain ⟨v0,v1,d0,d1,p0,p1,rfl,rfl,_,h0,h1⟩:=trodAll_two hA
 obtain ⟨rfl,rfl⟩:=trodVars_none hV
 obtain ⟨A,t,rfl,hn,T⟩:=xf0 (hval 0 33 v0 rfl rfl) h0
 obtain ⟨k1,rfl,hk1⟩:=yhk (hval 1 3 v1 rfl rfl) h1
 obtain ⟨N,last,o,w2,t2,r1,r2,r3,r4⟩:=xol (w:=W) (yep (nilV W.heap) (vwP W) (yzb W) A t T hn (xp5 hL) k1) fun v h2 r=>r.2
 refine ⟨N,last,o,w2,t2,r1,r2,r3,r4.mono fun v ⟨hB,h2,e,_⟩=>?_⟩
 subst e
 exact yvk ytn rfl (fun t ht=>by rw [Tryz.params3] at ht;revert t;decide +kernel) rfl Tryz.underlying4 hW rfl hB
set_option maxHeartbeats 4000000 in
theorem xhs:joinedFacts Tryz.prog 3 Tryz.f3 Rows.masterDownSpec Rows.masterDownRow=true:=by
 unfold joinedFacts
 repeat' (with_reducible refine Bool.and_eq_true_iff.2 ⟨?_,?_⟩)
 all_goals (as_aux_lemma=>kernel_rfl)
theorem masterDownRowHolds:Rows.MasterDownSaid:=
 OpenClaim.holds_of_wide_leaving 3 Tryz.f3 rfl rfl rfl rfl rfl rfl rfl ⟨rfl,rfl,rfl,rfl,rfl⟩ rfl rfl rfl rfl rfl (by kernel_rfl) Tryz.func3 xhs
  (of_decide_eq_true (by kernel_rfl)) (by unfold Func.isWrapper;first | (rw [if_pos (by decide +kernel)];kernel_rfl) | (rw [if_neg (by decide +kernel)];exact ⟨rfl,rfl⟩))
  (fun os started H enc _=>xxf os started H enc)
theorem masterDownHolds:Rows.MasterDownCardSaid:=
 xx6 .later [.data, .data, .data, .data, .data, .data, .sentinel, .sentinel, .pinned] true (true, "c061c25c0c0db48c3908f0d2f26f0abc234113ce78b6afd6b4620ca9bba56ea1") true masterDownRowHolds (by kernel_rfl) masterDown_row_tie rfl ⟨rfl, rfl⟩ (by kernel_rfl) rfl
  (fun f fn hf hfn=>by
   obtain rfl : f = 3 := Option.some.inj ((show Tryz.prog.funcNamed "steening/steeninglaw12.MasterDown" = some 3 by kernel_rfl).symm.trans hf) |>.symm
   obtain rfl:fn=Tryz.f3:=(Option.some.inj (Tryz.func3.symm.trans hfn)).symm
   exact ⟨by kernel_rfl,fun j t ht=>by
    rw [Tryz.params3] at ht
    have hm:t∈[33,3]:=by simpa using Array.mem_of_getElem? ht
    have hall:([33,3].all fun u=>!Tryz.prog.wantsStandIn u)=true:=by kernel_rfl
    exact (show Tryz.prog.wantsStandIn t=false by simpa using List.all_eq_true.1 hall t hm)⟩)
  (by kernel_rfl)
#print axioms masterDownHolds
end Go.Proofs.YtbphcmeebnkmdaaGreatDoor
