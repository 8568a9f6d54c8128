/-
  MasterWays, for every input: the law returns true and leaves its arguments as they were. The row, and the tied card. No condition.
-/
import Derived.Test.YtbphcmeebnkmdaaGreatDoorGN
import Derived.Test.YtbphcmeebnkmdaaGreatDoorCards
import Derived.Test.YtbphcmeebnkmdaaGreatDoorTie
namespace Go.Proofs.YtbphcmeebnkmdaaGreatDoor
open Go.X Go.X.Ms Go.Conc
open Go.X.Flow (ics)
set_option maxRecDepth 20000
set_option synthInstance.maxSize 2000
theorem ykj {p:PHeap} {h₀ h:Heap} {B₀:List Nat} {L Y:Pcs} {v:Value} {w:Str} {l:List Int} {n:Nat} {md:Md} (o:OwnS 3 1 v (ics l) Y) (hl:l.length=n) (s:St h₀ B₀ p h (Y++L)) (hw:w.length<=1000) (hn:n<=100) (hb:sm6 l):
  CallsX Tryz.prog md 10 #[sv w,v] h fun v' h'=>∃ Z,(v'=sv (sayK w l n)/\Z=[])/\New h h' Z:=by
 obtain ⟨p',⟨g',gl⟩,hy,s'⟩:=s.lastAll
 obtain ⟨a,c,e,S⟩:=o.inP hy
 subst e
 rw [xlx,hl] at S ⊢
 exact (c10 md h p' s'.per w hw a n c l S hn fun i hi=>by
  have:=hb (l.getD i 0) (by rw [Flow.getD_at (by omega)];exact List.getElem_mem _)
  omega).mono fun v' h' ⟨e,k⟩=>⟨[],⟨e,rfl⟩,New.of k⟩
end Go.Proofs.YtbphcmeebnkmdaaGreatDoor
namespace Go.X.Ms
open Go.X.Flow (FWay Bf wz Vd YOk Tn)
theorem xuf {x:FWay}: ¬ Bf x x:=by unfold Bf;omega
theorem ynw {x y z:FWay} (h:Bf x y) (k:Bf y z):Bf x z:=by unfold Bf at *;omega
theorem yow {x y:FWay} (h: ¬ Bf x y) (k:x≠y):Bf y x:=by
 unfold Bf at*
 by_cases e:x.1=y.1
 ·by_cases e2:x.2=y.2
  ·exact absurd (Prod.ext e e2) k
  ·omega
 ·omega
theorem xl4 {w x:FWay}:behW w x=true<->Bf w x:=by unfold behW Bf;rw [decide_eq_true_iff]
theorem xt4 {x w:FWay} {xs:List FWay}:wayAt (x::xs) w=if behW w x=true then 0 else wayAt xs w+1:=by
 unfold wayAt
 rw [Flow.idxA]
 by_cases c:behW w x=true
 ·rw [if_pos c,if_pos c,if_neg (by decide)];rfl
 ·rw [if_neg c,if_neg c]
  by_cases k:Flow.idxA (behW w) xs<0
  ·rw [if_pos k,if_pos k,if_pos (by decide),List.length_cons]
  ·rw [if_neg k,if_neg k,if_neg (by omega)]
   omega
theorem xh3 {w:FWay}:insW [] w=[w]:=rfl
theorem xls {x w:FWay} {xs:List FWay}:insW (x::xs) w=if behW w x=true then w::x::xs else x::insW xs w:=by
 unfold insW
 rw [xt4]
 split
 ·rfl
 ·rfl
theorem xhd {w y:FWay}: ∀ {xs:List FWay},y∈insW xs w<->y=w\/y∈xs
  | []=>by rw [xh3];simp
  | x::xs=>by
    rw [xls]
    split
    · simp
    · rw [List.mem_cons,xhd,List.mem_cons]
      exact ⟨fun h=>by rcases h with h | h | h <;> simp [h],fun h=>by rcases h with h | h | h <;> simp [h]⟩
theorem xep {w:FWay} {xs:List FWay}:(insW xs w).length=xs.length+1:=by
 unfold insW
 have:wayAt xs w<=xs.length:=by
  unfold wayAt
  split
  ·exact Nat.le_refl _
  ·have:=Flow.idxA_lt2 (q:=behW w) (ds:=xs);omega
 rw [List.length_append,List.length_cons,List.length_take,List.length_drop]
 omega
theorem xhc {w:FWay}: ∀ {xs:List FWay},xs.Pairwise Bf->((insW xs w).Pairwise Bf<->w ∉ xs)
  | [],_=>by rw [xh3];simp
  | x::xs,h=>by
    have h':=List.pairwise_cons.1 h
    rw [xls]
    by_cases c:behW w x=true
    · rw [if_pos c]
      have c':=xl4.1 c
      refine ⟨fun _ hm=>?_,fun _=>List.pairwise_cons.2 ⟨fun y hy=>?_,h⟩⟩
      · rcases List.mem_cons.1 hm with e | hm
        · rw [e] at c';exact xuf c'
        · exact xuf (ynw c' (h'.1 w hm))
      · rcases List.mem_cons.1 hy with e | hy
        · rw [e];exact c'
        · exact ynw c' (h'.1 y hy)
    · rw [if_neg c,List.pairwise_cons,xhc h'.2]
      have c': ¬ Bf w x:=fun z=>c (xl4.2 z)
      refine ⟨fun ⟨k1,k2⟩ hm=>?_,fun k=>⟨fun y hy=>?_,fun z=>k (List.mem_cons_of_mem _ z)⟩⟩
      · rcases List.mem_cons.1 hm with e | hm
        · exact xuf (e ▸ k1 w (xhd.2 (.inl rfl)))
        · exact k2 hm
      · rcases xhd.1 hy with e | hy
        · rw [e];exact yow c' fun z=>k (by rw [z];simp)
        · exact h'.1 y hy
theorem xkr: ∀ {xs ys:List FWay},xs.Pairwise Bf->ys.Pairwise Bf->(∀ z,z∈xs<->z∈ys)->xs=ys
  | [],[],_,_,_=>rfl
  | [],y::ys,_,_,h=>by have:=(h y).2 (by simp);cases this
  | x::xs,[],_,_,h=>by have:=(h x).1 (by simp);cases this
  | x::xs,y::ys,hx,hy,h=>by
    have hx':=List.pairwise_cons.1 hx
    have hy':=List.pairwise_cons.1 hy
    have e:x=y:=by
      rcases List.mem_cons.1 ((h x).1 (by simp)) with e | m
      · exact e
      · rcases List.mem_cons.1 ((h y).2 (by simp)) with e | m'
        · exact e.symm
        · exact absurd (ynw (hx'.1 y m') (hy'.1 x m)) xuf
    subst e
    refine congrArg _ (xkr hx'.2 hy'.2 fun z=>⟨fun m=>?_,fun m=>?_⟩)
    · rcases List.mem_cons.1 ((h z).1 (List.mem_cons_of_mem _ m)) with e | m'
      · exact absurd (e ▸ hx'.1 z m) xuf
      · exact m'
    · rcases List.mem_cons.1 ((h z).2 (List.mem_cons_of_mem _ m)) with e | m'
      · exact absurd (e ▸ hy'.1 z m) xuf
      · exact m'
theorem xe7 {ws:List FWay} (h: ∀ i,i+1<ws.length->Bf (ws.getD i wz) (ws.getD (i+1) wz)):ws.Pairwise Bf:=by
 have key: ∀ k i,i+k+1<ws.length->Bf (ws.getD i wz) (ws.getD (i+k+1) wz):=by
  intro k
  induction k with
  | zero=>intro i hi;exact h i hi
  | succ k ih=>intro i hi;exact ynw (ih i (by omega)) (h (i+k+1) (by omega))
 rw [List.pairwise_iff_getElem]
 intro i j hi hj hij
 have:=key (j-i-1) i (by omega)
 rw [show i+(j-i-1)+1=j by omega,Flow.getD_at hi,Flow.getD_at hj] at this
 exact this
theorem xug {ws:List FWay} (h:ws.Pairwise Bf) {i j:Nat} (hij:i<j) (hj:j<ws.length):Bf (ws.getD i wz) (ws.getD j wz):=by
 have:=List.pairwise_iff_getElem.1 h i j (by omega) hj hij
 rwa [Flow.getD_at (by omega),Flow.getD_at hj]
def wyT (t:Twn) (ws:List FWay):Twn:={ t with b:={ t.b with wy:=ws } }
def inR (t:Twn) (w:FWay):Prop:=(0<=w.1/\w.1<=(t.b.nH:Int)-1)/\0<=w.2/\w.2<=(t.b.nW:Int)-1
theorem xfb {b:Tn}:Flow.chkB b=0<->b.m<=12/\Vd b:=by
 rcases Flow.chkB_cases b with ⟨h,k⟩ | ⟨h,k⟩
 ·exact ⟨fun _=>k,fun _=>h⟩
 ·exact ⟨fun z=>by omega,fun z=>absurd z k⟩
theorem xdk {t:Twn} (h:chkT t=0) {ws:List FWay}:chkT (wyT t ws)=0<->ws.length<=12/\(∀ w∈ws,inR t w)/\ws.Pairwise Bf:=by
 obtain ⟨h1,h2,h3⟩:=xvz.1 h
 obtain ⟨hm,V⟩:=xfb.1 h2
 rw [xvz]
 have e:Flow.chkB (wyT t ws).b=0<->ws.length<=12/\(∀ w∈ws,inR t w)/\ws.Pairwise Bf:=by
  rw [xfb]
  refine ⟨fun ⟨k1,k2⟩=>⟨k1,fun w hw=>?_,xe7 fun i hi=>?_⟩,fun ⟨k1,k2,k3⟩=>⟨k1,V.nh,V.nw,V.h,V.w,fun i hi=>?_⟩⟩
  ·obtain ⟨i,hi,e⟩:=List.mem_iff_getElem.1 hw
   have:=k2.y i hi
   have e2:(wyT t ws).b.wy.getD i wz=w:=(Flow.getD_at (l:=ws) hi).trans e
   unfold YOk at this
   rw [e2] at this
   exact ⟨this.1,this.2.1⟩
  ·have:=(k2.y (i+1) hi).2.2 (by omega)
   rw [show (((i+1:Nat):Int)-1).toNat=i by omega] at this
   exact this
  ·have hi:i<ws.length:=hi
   have e2:(wyT t ws).b.wy.getD i wz=ws[i]:=Flow.getD_at (l:=ws) hi
   have r:=k2 _ (List.getElem_mem hi)
   refine ⟨by rw [e2];exact r.1,by rw [e2];exact r.2,fun h0=>?_⟩
   exact xug k3 (by omega) hi
 exact ⟨fun k=>e.1 k.2.1,fun k=>⟨h1,e.2 k,h3⟩⟩
def wWay:Str:=[119,97,121]
def wayL (w:FWay):Str:=sayK wWay [w.1,w.2] 2
theorem ytm {d:Dsk} {w:FWay} (h:chkT d.now.t=0) (hw:inR d.now.t w):doD d (wayL w)=if w ∉ d.now.t.b.wy/\d.now.t.b.wy.length<12 then (setD d (wyT d.now.t (insW d.now.t.b.wy w)),wOk) else (d,wNo):=by
 have hb:=(xfb.1 (xvz.1 h).2.1).2
 have n1:=hb.nh
 have n2:=hb.nw
 have e:=ygg (d:=d) (w:=wWay) (l:=[w.1,w.2]) (o:=.way) (by decide) (by decide) (fun x hx=>by
  have:=hw.1;have:=hw.2
  rcases List.mem_cons.1 hx with e | hx
  ·rw [e];omega
  ·rw [List.mem_singleton.1 hx];omega) (by show qn (_++txt ((2:Nat):Int))=_;rw [xxl (by decide)];kernel_rfl) (by show od (_++txt ((2:Nat):Int))=_;rw [xxl (by decide)];kernel_rfl) (show opensW wWay 2=false by decide)
 refine e.trans ?_
 show (if chkT (wyT d.now.t (insW d.now.t.b.wy w))=0 then _ else _)=_
 have hf:chkT (wyT d.now.t d.now.t.b.wy)=0:=h
 have hf:=(xdk h).1 hf
 by_cases c:w ∉ d.now.t.b.wy/\d.now.t.b.wy.length<12
 ·rw [if_pos c,if_pos ((xdk h).2 ⟨by rw [xep];omega,fun x hx=>by
   rcases xhd.1 hx with e | hx
   ·rw [e];exact hw
   ·exact hf.2.1 x hx,(xhc hf.2.2).2 c.1⟩)]
  rfl
 ·rw [if_neg c,if_neg fun k=>c ?_]
  have k:=(xdk h).1 k
  rw [xep] at k
  exact ⟨(xhc hf.2.2).1 k.2.2,by omega⟩
theorem xh1 {t:Twn} (h:chkT t=0) (by':Nat): ∀ k,k<=2*t.b.wy.length->
    (∃ cur,(runD (startD (wyT t [])) ((List.range k).map fun i=>wayL (t.b.wy.getD ((i+by') % t.b.wy.length) wz))).1.now.t=wyT t cur/\(∀ x,x∈cur<-> ∃ i,i<k/\t.b.wy.getD ((i+by') % t.b.wy.length) wz=x)/\(k<=t.b.wy.length->cur.length=k))/\
    ∀ i,i<k->(runD (startD (wyT t [])) ((List.range k).map fun i=>wayL (t.b.wy.getD ((i+by') % t.b.wy.length) wz))).2.getD i []=if i<t.b.wy.length then wOk else wNo
  | 0,_=>⟨⟨[],rfl,by simp,fun _=>rfl⟩,by simp⟩
  | k+1,hk=>by
    have hfw:chkT (wyT t t.b.wy)=0:=h
    obtain ⟨f1,f2,f3⟩:=(xdk h).1 hfw
    have h0:chkT (wyT t [])=0:=(xdk h).2 ⟨by simp,by simp,by simp⟩
    obtain ⟨⟨cur,e1,e2,e3⟩,e4⟩:=xh1 h by' k (by omega)
    have hlen:(runD (startD (wyT t [])) ((List.range k).map fun i=>wayL (t.b.wy.getD ((i+by') % t.b.wy.length) wz))).2.length=k:=by rw [xbg];simp
    have hok:=(xbp (xs:=(List.range k).map fun i=>wayL (t.b.wy.getD ((i+by') % t.b.wy.length) wz)) (xnh h0)).1
    rw [List.range_succ,List.map_append,List.map_singleton,xwg]
    generalize hd:runD (startD (wyT t [])) ((List.range k).map fun i=>wayL (t.b.wy.getD ((i+by') % t.b.wy.length) wz))=D at*
    have hm:0<t.b.wy.length:=by omega
    have hx:t.b.wy.getD ((k+by') % t.b.wy.length) wz∈t.b.wy:=by
      have:=Nat.mod_lt (k+by') hm
      rw [Flow.getD_at this];exact List.getElem_mem _
    have hr:inR D.1.now.t (t.b.wy.getD ((k+by') % t.b.wy.length) wz):=by rw [e1];exact f2 _ hx
    have step:=ytm hok hr
    rw [e1] at step
    have ew:(wyT t cur).b.wy=cur:=rfl
    rw [ew] at step
    by_cases c:k<t.b.wy.length
    · have hn:t.b.wy.getD ((k+by') % t.b.wy.length) wz ∉ cur:=fun m=>by
        obtain ⟨i,hi,e⟩:=(e2 _).1 m
        have hne:(i+by') % t.b.wy.length≠(k+by') % t.b.wy.length:=fun z=>by
          have a1:=Nat.div_add_mod (i+by') t.b.wy.length
          have a2:=Nat.div_add_mod (k+by') t.b.wy.length
          rw [z] at a1
          have hq:(k+by') / t.b.wy.length=(i+by') / t.b.wy.length:=by
            rcases Nat.lt_trichotomy ((i+by') / t.b.wy.length) ((k+by') / t.b.wy.length) with q | q | q
            · have:=Nat.mul_le_mul_left t.b.wy.length (show (i+by') / t.b.wy.length+1<=(k+by') / t.b.wy.length by omega)
              rw [Nat.mul_add] at this
              omega
            · exact q.symm
            · have:=Nat.mul_le_mul_left t.b.wy.length (show (k+by') / t.b.wy.length+1<=(i+by') / t.b.wy.length by omega)
              rw [Nat.mul_add] at this
              omega
          rw [hq] at a2
          omega
        have b1:=Nat.mod_lt (i+by') hm
        have b2:=Nat.mod_lt (k+by') hm
        rcases Nat.lt_or_gt_of_ne hne with q | q
        · exact xuf (e ▸ xug f3 q b2)
        · exact xuf (e ▸ xug f3 q b1)
      have hl:=e3 (by omega)
      rw [if_pos ⟨hn,by omega⟩] at step
      rw [step]
      refine ⟨⟨insW cur (t.b.wy.getD ((k+by') % t.b.wy.length) wz),rfl,fun x=>?_,fun _=>by rw [xep,hl]⟩,fun i hi=>?_⟩
      · rw [xhd,e2]
        constructor
        · rintro (rfl | ⟨i,hi,e⟩)
          · exact ⟨k,by omega,rfl⟩
          · exact ⟨i,by omega,e⟩
        · rintro ⟨i,hi,e⟩
          by_cases z:i=k
          · subst z;exact .inl e.symm
          · exact .inr ⟨i,by omega,e⟩
      · by_cases z:i<k
        · have:=e4 i z
          rw [List.getD_eq_getElem?_getD] at this ⊢
          rw [List.getElem?_append_left (by omega)];exact this
        · obtain rfl:i=k:=by omega
          rw [List.getD_eq_getElem?_getD,List.getElem?_append_right (by omega),hlen,Nat.sub_self,if_pos c];rfl
    · have hmem:t.b.wy.getD ((k+by') % t.b.wy.length) wz∈cur:=(e2 _).2 ⟨k-t.b.wy.length,by omega,by
        congr 1
        rw [show k+by'=(k-t.b.wy.length+by')+t.b.wy.length by omega,Nat.add_mod_right]⟩
      rw [if_neg fun z=>z.1 hmem] at step
      rw [step]
      refine ⟨⟨cur,e1,fun x=>?_,fun z=>by omega⟩,fun i hi=>?_⟩
      · rw [e2]
        constructor
        · rintro ⟨i,hi,e⟩;exact ⟨i,by omega,e⟩
        · rintro ⟨i,hi,e⟩
          by_cases z:i=k
          · subst z
            rw [e] at hmem
            exact (e2 x).1 hmem
          · exact ⟨i,by omega,e⟩
      · by_cases z:i<k
        · have:=e4 i z
          rw [List.getD_eq_getElem?_getD] at this ⊢
          rw [List.getElem?_append_left (by omega)];exact this
        · obtain rfl:i=k:=by omega
          rw [List.getD_eq_getElem?_getD,List.getElem?_append_right (by omega),hlen,Nat.sub_self,if_neg c];rfl
theorem yrz {t:Twn} (h:chkT t=0) (by':Nat):chkT (wyT t [])=0/\(runR (wyT t []) ((List.range (2*t.b.wy.length)).map fun i=>wayL (t.b.wy.getD ((i+by') % t.b.wy.length) wz))).2=t/\
  ∀ i,i<2*t.b.wy.length->(runR (wyT t []) ((List.range (2*t.b.wy.length)).map fun i=>wayL (t.b.wy.getD ((i+by') % t.b.wy.length) wz))).1.getD i []=if i<t.b.wy.length then wOk else wNo:=by
 have hfw:chkT (wyT t t.b.wy)=0:=h
 obtain ⟨f1,f2,f3⟩:=(xdk h).1 hfw
 have h0:chkT (wyT t [])=0:=(xdk h).2 ⟨by simp,by simp,by simp⟩
 obtain ⟨⟨cur,e1,e2,e3⟩,e4⟩:=xh1 h by' _ (Nat.le_refl _)
 rw [xin h0 (by simp;omega)]
 refine ⟨h0,?_,e4⟩
 have hok:=(xbp (xs:=(List.range (2*t.b.wy.length)).map fun i=>wayL (t.b.wy.getD ((i+by') % t.b.wy.length) wz)) (xnh h0)).1
 simp only
 rw [e1] at hok ⊢
 have hs:cur.Pairwise Bf:=((xdk h).1 hok).2.2
 rw [xkr hs f3 fun z=>?_]
 ·rfl
 ·rw [e2]
  constructor
  ·rintro ⟨i,hi,e⟩
   have:=Nat.mod_lt (i+by') (show 0<t.b.wy.length by omega)
   rw [<- e,Flow.getD_at this];exact List.getElem_mem _
  ·intro hz
   obtain ⟨j,hj,e⟩:=List.mem_iff_getElem.1 hz
   refine ⟨(j+(t.b.wy.length-by' % t.b.wy.length)) % t.b.wy.length,?_,?_⟩
   ·have:=Nat.mod_lt (j+(t.b.wy.length-by' % t.b.wy.length)) (show 0<t.b.wy.length by omega);omega
   ·have b1:=Nat.mod_lt by' (show 0<t.b.wy.length by omega)
    have:((j+(t.b.wy.length-by' % t.b.wy.length)) % t.b.wy.length+by') % t.b.wy.length=j:=by
     rw [Nat.mod_add_mod]
     have a:=Nat.div_add_mod by' t.b.wy.length
     rw [show j+(t.b.wy.length-by' % t.b.wy.length)+by'=j+t.b.wy.length*(by' / t.b.wy.length+1) by rw [Nat.mul_add];omega,Nat.add_mul_mod_self_left]
     exact Nat.mod_eq_of_lt hj
    rw [this,Flow.getD_at hj];exact e
end Go.X.Ms
namespace Go.X.Ms
open Go.X.Flow (FWay wz)
def wayLs (t:Twn) (n k:Nat):List Str:=(List.range k).map fun i=>wayL (t.b.wy.getD ((i+n) % t.b.wy.length) wz)
theorem xtw {t:Twn} {n k:Nat}:(wayLs t n k).length=k:=by simp [wayLs]
theorem xs4 {t:Twn} {n k:Nat}:wayLs t n (k+1)=wayLs t n k++[wayL (t.b.wy.getD ((k+n) % t.b.wy.length) wz)]:=by simp [wayLs,List.range_succ]
theorem ysz {t:Twn} {n k:Nat} (h:chkT t=0) (hk:0<k->0<t.b.wy.length): ∀ s∈wayLs t n k,s.length<=900:=fun s hs=>by
 obtain ⟨i,hi,rfl⟩:=List.mem_map.1 hs
 have hi:=List.mem_range.1 hi
 have hfw:chkT (wyT t t.b.wy)=0:=h
 obtain ⟨f1,f2,f3⟩:=(xdk h).1 hfw
 have hm:=Nat.mod_lt (i+n) (hk (by omega))
 have hr:=f2 _ (by rw [Flow.getD_at hm];exact List.getElem_mem _:t.b.wy.getD ((i+n) % t.b.wy.length) wz∈t.b.wy)
 have hb:=(xfb.1 (xvz.1 h).2.1).2
 have n1:=hb.nh
 have n2:=hb.nw
 have hr1:=hr.1
 have hr2:=hr.2
 generalize t.b.wy.getD ((i+n) % t.b.wy.length) wz=w at*
 have:=xhn (w:=wWay) (l:=[w.1,w.2]) (fun i hi=>by
  match i,hi with
  | 0,_=>exact ⟨by show _<=w.1;omega,by show w.1<=_;omega⟩
  | 1,_=>exact ⟨by show _<=w.2;omega,by show w.2<=_;omega⟩) 2 (by simp)
 have e:wWay.length=3:=rfl
 unfold wayL
 omega
end Go.X.Ms
namespace Go.Proofs.YtbphcmeebnkmdaaGreatDoor
open Go.X Go.X.Ms Go.Conc
open Go.X.Flow (ics FWay wz)
set_option maxRecDepth 20000
set_option synthInstance.maxSize 2000
set_option maxHeartbeats 800000 in
theorem ygp (h:Heap) (p:PHeap) (hp:Per p h) (A:TA) (t:Twn) (T:TwP p A t) (hn:t.fit 9223372036854775807) (g:GlP p) (k:Int):EntersX Tryz.prog (.main true) 4 #[twV A t,.int .i64 k] h fun v h'=>v= .bool true/\Keep h h':=by
 refine yfw hp Tryz.func4 ?_
 refine ax ?_
 refine xjq rfl fun b2=>?_
 refine ax ?_
 refine xon rfl rfl (fun h pe=>c6 _ h _ pe A t T hn) ?_
 rintro _ ⟨q,rfl,hq⟩
 refine ax ?_
 refine xhq rfl (fun _=>?_) (fun cc=>?_)
 ·refine ax ?_
  refine xoq rfl rfl (fun _ pe=>c8 _ _ pe g) ?_
  refine ax ?_
  exact xw8 (by kernel_rfl) Tryz.func4 rfl rfl fun h_ H_=>⟨rfl,H_.kept⟩
 obtain ⟨hv,h0,h100⟩:chkT t=0/\0<=k/\k<=100:=by
  simp at cc
  exact ⟨hq cc.1.1,by omega,by omega⟩
 obtain ⟨n,rfl⟩: ∃ n:Nat,k=((n:Nat):Int):=⟨k.toNat,by omega⟩
 have hf:=xxz hv
 have hm12:t.b.wy.length<=12:=hf.2.1.2.2
 obtain ⟨hv0,hT,hL⟩:=yrz hv n
 refine ax ?_
 refine xlj rfl rfl (fun _ pe=>c13 _ _ _ pe A t T (hf.up (by omega))) ?_
 rintro _ p1 g1 ⟨A1,rfl,T1⟩
 refine ax ?_
 refine xiq fun b5=>?_
 refine ax ?_
 have Tt:=T.mono g1.le
 have G1:=g.mono g1.le
 have T0:TwP p1 { A1 with y:=(none,0) } (wyT t []):=⟨T1.s,⟨T1.b.h,T1.b.w,Sl.nil _ _ _⟩,T1.d,T1.c.1,⟨T1.c.2.1.1,T1.c.2.1.2.1,Nat.le_refl _⟩,T1.c.2.2⟩
 have Ty:Sl p1 A.y.1 t.b.m 2 (Flow.wcs t.b.wy):=Tt.b.y
 have hm:t.b.m=t.b.wy.length:=rfl
 have hfw:chkT (wyT t t.b.wy)=0:=hv
 obtain ⟨f1,f2,f3⟩:=(xdk hv).1 hfw
 have hb:=(xfb.1 (xvz.1 hv).2.1).2
 have n1:=hb.nh
 have n2:=hb.nw
 refine xww 9 1 fun o0=>?_
 refine xrq (fun m_ l p_ L_=>∃ (j:Nat) (v:Value) (Y:Pcs),m_=2*t.b.m-j/\l=[(1,none,.int .i64 ((n:Nat):Int)),(2,none,.pointer (some ⟨b2,0,none⟩)),(5,none,.pointer (some ⟨b5,0,none⟩)),(6,none,.int .i64 ((t.b.m:Nat):Int)),(7,none,v),(8,none,.int .i64 ((j:Nat):Int))]/\p_=p1/\
  L_=[Y,[(b5,.cells (tcs { A1 with y:=(none,0) } (wyT t [])).toArray 33 (0,0))],[(b2,.cells (tcs A t).toArray 33 (0,0))]]/\j<=2*t.b.m/\OwnS 9 1 v (scs (wayLs t n j)) Y) ⟨0,_,_,rfl,rfl,rfl,rfl,Nat.zero_le _,o0⟩ sb ?_
 clear o0
 rintro _ _ p1 _ IH ⟨j,v,Y,rfl,rfl,rfl,rfl,hj,o⟩
 refine ax ?_
 refine xhq rfl (fun cd=>?_) (fun cd=>?_)
 ·have hjl:j<2*t.b.m:=by omega
  have hlt:=Nat.mod_lt (j+n) (show 0<t.b.m by omega)
  have hr:=f2 _ (by rw [Flow.getD_at hlt];exact List.getElem_mem _:t.b.wy.getD ((j+n) % t.b.m) wz∈t.b.wy)
  have hsm:sm6 [(t.b.wy.getD ((j+n) % t.b.m) wz).1,(t.b.wy.getD ((j+n) % t.b.m) wz).2]:=fun x hx=>by
   have hr1:=hr.1
   have hr2:=hr.2
   rcases List.mem_cons.1 hx with e | hx
   ·rw [e];omega
   ·rw [List.mem_singleton.1 hx];omega
  refine ax ?_
  refine xjx [10] R11 ?_
  refine ex ?_
  refine ybn (u:=j+n) t.b.m rfl rfl rfl rfl (by omega) ?_
  refine ex ?_
  refine xzv rfl rfl (Flow.Wys.all Tt.b.y hlt) ?_
  refine ex ?_
  refine xtp rfl fun b9=>?_
  refine ex ?_
  refine ax ?_
  refine xkz rfl fun v1 Y1 o1=>?_
  have o1:OwnS 3 1 v1 (ics [(t.b.wy.getD ((j+n) % t.b.m) wz).1,(t.b.wy.getD ((j+n) % t.b.m) wz).2]) Y1:=o1
  refine yuj rfl rfl (fun h s=>ykj (w:=wWay) o1 rfl s (by decide) (show (2:Nat)<=100 by decide) hsm) fun v2 Y2 q2=>?_
  obtain ⟨rfl,rfl⟩:=q2
  refine ax ?_
  refine xkz rfl fun v3 Y3 o3=>?_
  have o3:OwnS 9 1 v3 (scs [wayL (t.b.wy.getD ((j+n) % t.b.m) wz)]) Y3:=o3
  refine ax ?_
  refine xvr rfl rfl o o3 (by simp [scs,sv,isOne]) (by rw [xjz,xtw];simp [scs];omega) fun v4 Y4 o4=>?_
  refine ax ?_
  exact xqq (IH _ _ _ (by omega) ⟨j+1,v4,Y4,rfl,rfl,rfl,rfl,by omega,o4.as (by rw [xs4];simp [scs];rfl)⟩)
 obtain rfl:j=2*t.b.m:=by omega
 clear IH
 refine ax ?_
 refine xux o (m:=2*t.b.m) (by rw [xjz,xtw]) (by decide) fun p3 a3 c3 g3 e3 h3 S3=>?_
 subst e3
 refine xlj rfl rfl (fun h pe=>by
  have c:=c9 h _ pe _ (wyT t []) (T0.mono g3.le) (G1.mono g3.le) a3 c3 (wayLs t n (2*t.b.m)) (by rw [xtw];exact S3) (ysz hv (by omega)) hv0 (by rw [xtw];omega)
  unfold runV at c
  rw [xtw] at c
  exact c) ?_
 rintro _ p4 g4 ⟨a4,c4,A4,rfl,hc4,S4,T4⟩
 have S4':Sl p4 a4 (2*t.b.m) 1 (scs (runR (wyT t []) (wayLs t n (2*t.b.m))).1):=S4
 have hT:(runR (wyT t []) (wayLs t n (2*t.b.m))).2=t:=hT
 have hL: ∀ i,i<2*t.b.m->(runR (wyT t []) (wayLs t n (2*t.b.m))).1.getD i []=if i<t.b.m then wOk else wNo:=hL
 generalize (runR (wyT t []) (wayLs t n (2*t.b.m)))=R at*
 obtain ⟨R1,R2⟩:=R
 obtain rfl:R2=t:=hT
 refine ax ?_
 refine xiq fun b11=>?_
 refine ax ?_
 refine xfx rfl rfl rfl sdu (fun cg _ pe=>c12 _ _ _ pe A4 A _ T4 ((Tt.mono g3.le).mono g4.le) (hf.up (by omega))) ?_
 refine ax ?_
 refine xhq rfl (fun cd=>absurd cd (by simp)) (fun _=>?_)
 refine ax ?_
 refine xrq (fun m_ l p_ L_=>∃ (j:Nat) (ob ob':Obj),m_=2*R2.b.m-j/\l=[(6,none,.int .i64 ((R2.b.m:Nat):Int)),(10,none,.slice a4 (2*R2.b.m) c4),(13,none,.int .i64 ((j:Nat):Int))]/\p_=p4/\
  L_=[[(b11,ob)],[(b5,ob')],[(b2,.cells (tcs A R2).toArray 33 (0,0))]]/\j<=2*R2.b.m) ⟨0,_,_,rfl,rfl,rfl,rfl,Nat.zero_le _⟩ sb ?_
 rintro _ _ p4 _ IH ⟨i,ob,ob',rfl,rfl,rfl,rfl,hi⟩
 refine ax ?_
 refine xhq rfl (fun cd=>?_) (fun cd=>?_)
 ·have hil:i<2*R2.b.m:=by omega
  have hLi:=hL i hil
  refine ax ?_
  refine xnv rfl (Strs.get S4 hil) ?_
  refine ax ?_
  refine ygb rfl rfl rfl sdt sdt ?_
  refine ax ?_
  refine xah (u:=sv (R1.getD i [])) rfl rfl sdu (fun _=>Strs.get S4 hil) ?_
  refine ax ?_
  refine ygb rfl rfl rfl sdu sdu ?_
  refine ax ?_
  refine xhq rfl (fun ce=>?_) (fun _=>?_)
  ·exfalso
   have hLi:R1.getD i []=if i<R2.b.m then wOk else wNo:=hLi
   by_cases z:i<R2.b.m
   ·rw [if_pos z] at hLi
    rcases ce with ce | ce <;> refine ce ?_ <;> rw [beq_iff_eq,Bool.eq_iff_iff,decide_eq_true_eq,decide_eq_true_eq]
    ·exact ⟨fun _=>by omega,fun _=>hLi⟩
    ·exact ⟨fun e=>(by rw [hLi] at e;cases e),fun h=>by omega⟩
   ·rw [if_neg z] at hLi
    rcases ce with ce | ce <;> refine ce ?_ <;> rw [beq_iff_eq,Bool.eq_iff_iff,decide_eq_true_eq,decide_eq_true_eq]
    ·exact ⟨fun e=>(by have e:R1.getD i []=[111,107]:=e;rw [hLi] at e;cases e),fun h=>by omega⟩
    ·exact ⟨fun _=>by omega,fun _=>hLi⟩
  refine ax ?_
  exact xqq (IH _ _ _ (by omega) ⟨i+1,ob,ob',rfl,rfl,rfl,rfl,by omega⟩)
 refine ax ?_
 refine xoq rfl rfl (fun _ pe=>c8 _ _ pe ((G1.mono g3.le).mono g4.le)) ?_
 refine ax ?_
 exact xw8 (by kernel_rfl) Tryz.func4 rfl rfl fun h_ H_=>⟨rfl,H_.kept⟩
end Go.Proofs.YtbphcmeebnkmdaaGreatDoor
namespace Go.Proofs.YtbphcmeebnkmdaaGreatDoor
open Go.X Go.X.Ms Go.Conc Go.RowKit Go.ChangeShapes Go.WideShapes Go.ChangeAt Go.Joins
set_option maxRecDepth 100000
theorem xxf (os:Os) (started:os.Started) (H:Type) (enc:TypeId × Value->H):
  ReturnsInLeavingWide {} Tryz.checked os 4 .any (fun w args=>(Rows.masterWaysSpec.pre enc Tryz.prog Tryz.f4 Rows.masterWaysRow.domain false w args/\laidMetH Tryz.prog Rows.masterWaysRow.laid w)/\sizedMet enc Tryz.prog Tryz.f4 (OpenSpec.ofChange Rows.masterWaysSpec) false w args) (Rows.masterWaysSpec.post enc Tryz.prog Tryz.f4 false true false false):=by
 refine xj0 (C:=Tryz.checked) (X:=fun w _=>laidMetH Tryz.prog Rows.masterWaysRow.laid w) (fun _ _ _ hh h=>h.of_heap hh) pOwn started Tryz.func4
  (ChangeSpec.witness_shaped (enc:=enc) (C:=Tryz.checked) (os:=os) (X:=fun w _=>laidMetH Tryz.prog Rows.masterWaysRow.laid w) false (laidW os) #[.agg #[.slice none 0 0,.slice none 0 0,.int .i64 0,.int .i64 0,.int .i64 0,.slice none 0 0,.slice none 0 0,.slice none 0 0,.int .i64 0,.int .i64 0,.slice none 0 0],.int .i64 0] 8 (World.laidAll_os _ _ _)
   (World.shaped_of_ZipB (by kernel_rfl) (by kernel_rfl)) (by kernel_rfl) (by kernel_rfl) (by kernel_rfl) (xx9 os _)) ?_
 intro W base args ds gs before hval0 hW hL
 have hval: ∀ (j:Nat) t v,Tryz.f4.params[j]?=some t->args[j]?=some v->Value.okWide Tryz.prog W .any base t v:=hval0
 have hW2:=hW
 obtain ⟨p,q,hA0,hV,rfl,_,_⟩:=hW2
 have hA:DataW.TrodAll enc Tryz.prog W 0 (fun _=>true) true Tryz.f4.params.toList args.toList ds p:=hA0
 rw [Tryz.params4] at hA hval
 obtain ⟨v0,v1,d0,d1,p0,p1,rfl,rfl,_,h0,h1⟩:=trodAll_two hA
 obtain ⟨rfl,rfl⟩:=trodVars_none hV
 obtain ⟨A,t,rfl,hn,T⟩:=xg0 (hval 0 33 v0 rfl rfl) h0
 obtain ⟨k1,rfl,hk1⟩:=ynk (hval 1 3 v1 rfl rfl) h1
 obtain ⟨N,last,o,w2,t2,r1,r2,r3,r4⟩:=xpl (w:=W) (ygp (nilV W.heap) (vwP W) (yjc W) A t T hn (xs5 hL) k1) fun v h2 r=>r.2
 refine ⟨N,last,o,w2,t2,r1,r2,r3,r4.mono fun v ⟨hB,h2,e,_⟩=>?_⟩
 subst e
 exact ybv yvn rfl (fun t ht=>by rw [Tryz.params4] at ht;revert t;decide +kernel) rfl Tryz.underlying4 hW rfl hB
set_option maxHeartbeats 4000000 in
theorem xjs:joinedFacts Tryz.prog 4 Tryz.f4 Rows.masterWaysSpec Rows.masterWaysRow=true:=by
 unfold joinedFacts
 repeat' (with_reducible refine Bool.and_eq_true_iff.2 ⟨?_,?_⟩)
 all_goals (as_aux_lemma=>kernel_rfl)
theorem masterWaysRowHolds:Rows.MasterWaysSaid:=
 OpenClaim.holds_of_wide_leaving 4 Tryz.f4 rfl rfl rfl rfl rfl rfl rfl ⟨rfl,rfl,rfl,rfl,rfl⟩ rfl rfl rfl rfl rfl (by kernel_rfl) Tryz.func4 xjs
  (of_decide_eq_true (by kernel_rfl)) (by unfold Func.isWrapper;first | (rw [if_pos (by decide +kernel)];kernel_rfl) | (rw [if_neg (by decide +kernel)];exact ⟨rfl,rfl⟩))
  (fun os started H enc _=>xxf os started H enc)
theorem masterWaysHolds:Rows.MasterWaysCardSaid:=
 xb7 .later [.data, .data, .data, .data, .data, .data, .sentinel, .sentinel, .pinned] true (true, "c061c25c0c0db48c3908f0d2f26f0abc234113ce78b6afd6b4620ca9bba56ea1") true masterWaysRowHolds (by kernel_rfl) masterWays_row_tie rfl ⟨rfl, rfl⟩ (by kernel_rfl) rfl
  (fun f fn hf hfn=>by
   obtain rfl : f = 4 := Option.some.inj ((show Tryz.prog.funcNamed "steening/steeninglaw12.MasterWays" = some 4 by kernel_rfl).symm.trans hf) |>.symm
   obtain rfl:fn=Tryz.f4:=(Option.some.inj (Tryz.func4.symm.trans hfn)).symm
   exact ⟨by kernel_rfl,fun j t ht=>by
    rw [Tryz.params4] at ht
    have hm:t∈[33,3]:=by simpa using Array.mem_of_getElem? ht
    have hall:([33,3].all fun u=>!Tryz.prog.wantsStandIn u)=true:=by kernel_rfl
    exact (show Tryz.prog.wantsStandIn t=false by simpa using List.all_eq_true.1 hall t hm)⟩)
  (by kernel_rfl)
#print axioms masterWaysHolds
end Go.Proofs.YtbphcmeebnkmdaaGreatDoor
