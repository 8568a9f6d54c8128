/-
  Part of proofs about a town's master: a calculus for walks beside goroutines that are only leaving, and the walks. No condition.
-/
import Derived.Test.YtjcakmlipohaeaaGreatDoorGU
import Derived.Test.YtjcakmlipohaeaaGreatDoorGV
set_option maxRecDepth 20000
set_option synthInstance.maxSize 2000
namespace Go.X.Ms
open Go.X.Flow (Tn FWay TownP chkB askB mostC LKc houseC dryC shortC shortE)
open Go.X.Cist (Day Days chk sizeR spareR ratDown dryY levY)
structure Yr where
 size:Int
 start:Int
 days:List Day
structure Twn where
 s:Shf
 b:Tn
 y:Yr
noncomputable def chkT(t:Twn):Int:=if chkF t.s=0/\chkB t.b=0/\chk t.y.size t.y.start t.y.days=0 then 0 else 120
inductive Qn where
 |fewest|cheap|deep|next|most|lacks|draws|dry|short|empty|least|ration|spare|level
def Qn.ar:Qn->Nat
 |.deep|.next|.draws|.dry|.spare|.level=>1
 |_=>0
def qn(w:Str):Option Qn:=
 if w=[102,101,119,101,115,116,48]then some .fewest
 else if w=[99,104,101,97,112,48]then some .cheap
 else if w=[100,101,101,112,49]then some .deep
 else if w=[110,101,120,116,49]then some .next
 else if w=[109,111,115,116,48]then some .most
 else if w=[108,97,99,107,115,48]then some .lacks
 else if w=[100,114,97,119,115,49]then some .draws
 else if w=[100,114,121,49]then some .dry
 else if w=[115,104,111,114,116,48]then some .short
 else if w=[101,109,112,116,121,48]then some .empty
 else if w=[108,101,97,115,116,48]then some .least
 else if w=[114,97,116,105,111,110,48]then some .ration
 else if w=[115,112,97,114,101,49]then some .spare
 else if w=[108,101,118,101,108,49]then some .level
 else none
inductive Od where
 |rock|foot|up|house|well|want|has|way|day|size
def Od.ar:Od->Nat
 |.rock=>4
 |.up=>0
 |.want|.has|.way=>2
 |.day=>3
 |_=>1
def od(w:Str):Option Od:=
 if w=[114,111,99,107,52]then some .rock
 else if w=[102,111,111,116,49]then some .foot
 else if w=[117,112,48]then some .up
 else if w=[104,111,117,115,101,49]then some .house
 else if w=[119,101,108,108,49]then some .well
 else if w=[119,97,110,116,50]then some .want
 else if w=[104,97,115,50]then some .has
 else if w=[119,97,121,50]then some .way
 else if w=[100,97,121,51]then some .day
 else if w=[115,105,122,101,49]then some .size
 else none
inductive Rs where
 |num (n:Int)
 |spn (a b:Int)
 |lst (l:List Int)
noncomputable def askQ(q:Qn)(t:Twn)(a:List Int):Rs×Int:=match q with
 |.fewest=>(.num (fewestF t.s),findE ltF t.s)
 |.cheap=>(.num (cheapF t.s),findE ltC t.s)
 |.deep=>(.num (deepF t.s (a.getD 0 0)),deepE t.s (a.getD 0 0))
 |.next=>(.num (nextF t.s (a.getD 0 0)),nextE t.s (a.getD 0 0))
 |.most=>(.num (mostC t.b),chkB t.b)
 |.lacks=>(.lst (LKc t.b),chkB t.b)
 |.draws=>(.spn (houseC t.b (a.getD 0 0) (-1)) (houseC t.b (a.getD 0 0) 1),askB t.b (decide (0<=a.getD 0 0/\a.getD 0 0<=(t.b.nH:Int)-1)))
 |.dry=>(.num (dryC t.b (a.getD 0 0)),askB t.b (decide (0<=a.getD 0 0/\a.getD 0 0<=(t.b.nW:Int)-1)))
 |.short=>(.lst (shortC t.b),shortE t.b)
 |.empty=>(.num (dryY t.y.size t.y.start t.y.days).1,(dryY t.y.size t.y.start t.y.days).2)
 |.least=>(.num (sizeR t.y.size t.y.start t.y.days).1,(sizeR t.y.size t.y.start t.y.days).2)
 |.ration=>(.num (if Cist.Ok t.y.size t.y.start t.y.days then ratDown t.y.size t.y.start t.y.days 20 else 0),chk t.y.size t.y.start t.y.days)
 |.spare=>(.num (spareR t.y.size t.y.start t.y.days (a.getD 0 0)).1,(spareR t.y.size t.y.start t.y.days (a.getD 0 0)).2)
 |.level=>(.spn (levY t.y.size t.y.start t.y.days (a.getD 0 0)).1.1 (levY t.y.size t.y.start t.y.days (a.getD 0 0)).1.2,(levY t.y.size t.y.start t.y.days (a.getD 0 0)).2)
def txtT:List Int->Str
 |[]=>[]
 |x::xs=>32::(txt x++txtT xs)
def txtL:List Int->Str
 |[]=>[110,111,116,104,105,110,103]
 |x::xs=>txt x++txtT xs
def Rs.text:Rs->Str
 |.num n=>txt n
 |.spn a b=>txt a++([32,116,111,32]++txt b)
 |.lst l=>txtL l
def setL(l:List Int)(i x:Int):Option (List Int):=if 0<=i/\i<(l.length:Int)then some (l.set i.toNat x)else none
def behW(w x:FWay):Bool:=decide (w.1<x.1\/w.1=x.1/\w.2<x.2)
def wayAt(ws:List FWay)(w:FWay):Nat:=if Flow.idxA (behW w) ws<0 then ws.length else(Flow.idxA (behW w) ws).toNat
def insW(ws:List FWay)(w:FWay):List FWay:=ws.take (wayAt ws w)++w::ws.drop (wayAt ws w)
def turnO(o:Od)(t:Twn)(a:List Int):Option Twn:=match o with
 |.rock=>some {t with s:={t.s with rocks:=t.s.rocks++[⟨a.getD 0 0,a.getD 1 0,a.getD 2 0,a.getD 3 0⟩]}}
 |.foot=>some {t with s:={t.s with feet:=t.s.feet++[a.getD 0 0]}}
 |.up=>if t.s.feet.length=0 then none else some {t with s:={t.s with feet:=t.s.feet.take (t.s.feet.length-1)}}
 |.house=>some {t with b:={t.b with hs:=t.b.hs++[a.getD 0 0]}}
 |.well=>some {t with b:={t.b with ws:=t.b.ws++[a.getD 0 0]}}
 |.want=>(setL t.b.hs (a.getD 0 0) (a.getD 1 0)).map fun l=>{t with b:={t.b with hs:=l}}
 |.has=>(setL t.b.ws (a.getD 0 0) (a.getD 1 0)).map fun l=>{t with b:={t.b with ws:=l}}
 |.way=>some {t with b:={t.b with wy:=insW t.b.wy (a.getD 0 0,a.getD 1 0)}}
 |.day=>some {t with y:={t.y with days:=t.y.days++[⟨a.getD 0 0,a.getD 1 0,a.getD 2 0⟩]}}
 |.size=>some {t with y:={t.y with size:=a.getD 0 0}}
structure Snap where
 t:Twn
 nums:List Int
 kept:List Int
structure Dsk where
 now:Snap
 past:List Snap
def ltrI(s:Str):Nat:=(s.headD 0).toNat-97
def valS(d:Snap)(s:Str):Option Int:=if isLet s=true then(if d.kept.getD (ltrI s) 0=0 then none else some (d.nums.getD (ltrI s) 0))else some ((numR s).getD 0)
def valsS(d:Snap):List Str->Option (List Int)
 |[]=>some []
 |s::ss=>match valS d s with
   |none=>none
   |some n=>(valsS d ss).map (n:: ·)
def keepD(d:Dsk)(letter:Str):Rs->Dsk
 |.num n=>{d with now:={d.now with nums:=d.now.nums.set (ltrI letter) n,kept:=d.now.kept.set (ltrI letter) 1}}
 |_=>d
def wNone:Str:=[110,111,110,101]
def wWrong:Str:=[119,114,111,110,103]
def wWhat:Str:=[119,104,97,116]
def wUnknown:Str:=[117,110,107,110,111,119,110]
def wOk:Str:=[111,107]
def wNo:Str:=[110,111]
def wBegin:Str:=[98,101,103,105,110]
def wEnd:Str:=[101,110,100]
def wDrop:Str:=[100,114,111,112]
def wKeep:Str:=[107,101,101,112]
noncomputable def askD(d:Dsk)(q:Qn)(a:List Int)(letter:Str):Dsk×Str:=
 if(askQ q d.now.t a).2=3 then(d,wNone)
 else if(askQ q d.now.t a).2≠0 then(d,wWrong)
 else(if letter≠[]then keepD d letter (askQ q d.now.t a).1 else d,(askQ q d.now.t a).1.text)
def tryD(d:Dsk)(w:Str):Dsk×Bool:=
 if w=wBegin then({d with past:=d.past++[d.now]},true)
 else match d.past.getLast? with
  |none=>(d,false)
  |some x=>if w=wDrop then(⟨x,d.past.take (d.past.length-1)⟩,true)else(⟨d.now,d.past.take (d.past.length-1)⟩,true)
def doneW(b:Bool):Str:=if b then wOk else wNo
def opensW(w:Str)(n:Nat):Bool:=decide (n=0)&&(decide (w=wBegin)||decide (w=wEnd)||decide (w=wDrop))
noncomputable def lineD(d:Dsk)(letter:Str)(parts:List Str):Dsk×Str:=
 let word:=parts.headD []
 let args:=parts.tail
 let how:=qn (word++txt args.length)
 let turn:=od (word++txt args.length)
 if args.all clearS=false\/(how=none/\(letter≠[]\/(turn=none/\opensW word args.length=false)))then(d,wWhat)
 else match valsS d.now args with
  |none=>(d,wUnknown)
  |some vs=>match how with
    |some q=>askD d q vs letter
    |none=>if opensW word args.length=true then((tryD d word).1,doneW (tryD d word).2)
      else match turn with
       |none=>(d,wNo)
       |some o=>match turnO o d.now.t vs with
         |none=>(d,wNo)
         |some t=>if chkT t=0 then({d with now:={d.now with t:=t}},wOk)else(d,wNo)
noncomputable def doD(d:Dsk)(line:Str):Dsk×Str:=
 let parts:=splitS line
 if parts.headD []=wKeep then(if parts.length<3\/isLet (parts.getD 1 [])=false then(d,wWhat)else lineD d (parts.getD 1 []) (parts.drop 2))else lineD d [] parts
noncomputable def runD:Dsk->List Str->Dsk×List Str
 |d,[]=>(d,[])
 |d,x::xs=>((runD (doD d x).1 xs).1,(doD d x).2::(runD (doD d x).1 xs).2)
def startD(t:Twn):Dsk:=⟨⟨t,List.replicate 26 0,List.replicate 26 0⟩,[]⟩
end Go.X.Ms
namespace Go.X.Ms
open Go.X.Flow (Tn FWay TownP)
open Go.X.Cist (Day Days)
abbrev AC:=Option Addr×Nat
structure TA where
 r:AC
 f:AC
 h:AC
 w:AC
 y:AC
 d:AC
abbrev tcs(A:TA)(t:Twn):List Value:=[.slice A.r.1 t.s.rocks.length A.r.2,.slice A.f.1 t.s.feet.length A.f.2,.int .i64 t.s.deep,.int .i64 t.s.haul,.int .i64 t.s.rest,.slice A.h.1 t.b.nH A.h.2,.slice A.w.1 t.b.nW A.w.2,.slice A.y.1 t.b.m A.y.2,.int .i64 t.y.size,.int .i64 t.y.start,.slice A.d.1 t.y.days.length A.d.2]
structure TwP(p:PHeap)(A:TA)(t:Twn):Prop where
 s:ShfP p A.r.1 A.f.1 t.s
 b:TownP p A.h.1 t.b.nH A.w.1 t.b.nW A.y.1 t.b.m t.b
 d:Days p A.d.1 t.y.days.length t.y.days
 c:(t.s.rocks.length<=A.r.2/\t.s.feet.length<=A.f.2)/\(t.b.nH<=A.h.2/\t.b.nW<=A.w.2/\t.b.m<=A.y.2)/\t.y.days.length<=A.d.2
theorem TwP.mono{p p':PHeap}{A:TA}{t:Twn}(T:TwP p A t)(le:PLe p p'):TwP p' A t:=⟨T.s.mono le,⟨T.b.h.mono le,T.b.w.mono le,T.b.y.mono le⟩,Sl.mono le T.d,T.c⟩
def Twn.fit(t:Twn)(n:Nat):Prop:=(t.s.rocks.length<=n/\t.s.feet.length<=n)/\(t.b.nH<=n/\t.b.nW<=n/\t.b.m<=n)/\t.y.days.length<=n
theorem xvx{t:Twn}:chkT t=0<->chkF t.s=0/\Flow.chkB t.b=0/\Cist.chk t.y.size t.y.start t.y.days=0:=by
 unfold chkT
 split
 ·rename_i h;simp[h]
 ·rename_i h;simp only[h];simp
theorem xcz{t:Twn}(h:chkT t=0):t.fit 12:=by
 obtain⟨h1,h2,h3⟩:=xvx.1 h
 have s:t.s.ok:=by
  unfold chkF at h1
  split at h1
  ·assumption
  ·cases h1
 obtain⟨hm,v⟩:=Flow.vd_of h2
 have hb:=v.ok om
 have y:=Cist.chk_zero.1 h3
 have:=s.1;have:=s.2.2.1;have:=y.2.2.2.2.1
 refine⟨⟨om,om⟩,⟨?_,?_,hm⟩,om⟩
 ·have:=hb.nh;omega
 ·have:=hb.nw;omega
end Go.X.Ms
namespace Go.X
abbrev Ms.twV(A:Ms.TA)(t:Ms.Twn):Value:=.agg (Ms.tcs A t).toArray
theorem ylx(xs:List Rk):∀u∈(rcs xs).flatten,isOne u=true:=by
 intro u hu
 simp only[rcs,List.mem_flatten,List.mem_map]at hu
 obtain⟨_,⟨w,_,rfl⟩,hu⟩:=hu
 simp only[Rk.cells,List.mem_cons,List.not_mem_nil,or_false]at hu
 rcases hu with rfl|rfl|rfl|rfl<;>rfl
theorem ykj(xs:List Flow.FWay):∀u∈(Flow.wcs xs).flatten,isOne u=true:=by
 intro u hu
 simp only[Flow.wcs,List.mem_flatten,List.mem_map]at hu
 obtain⟨_,⟨w,_,rfl⟩,hu⟩:=hu
 simp only[Flow.FWay.cells,List.mem_cons,List.not_mem_nil,or_false]at hu
 rcases hu with rfl|rfl<;>rfl
end Go.X
namespace Go.Proofs.YtjcakmlipohaeaaGreatDoor
open Go.Proofs.Tryz
open Go.X Go.X.Ms Go.Conc
open Go.X.Flow (FWay Wys wz ics)
open Go.X.Cist (Day Days dcs dz dcs_ones)
theorem c127(md:Md)(h:Heap)(p:PHeap)(hp:Per p h)(a:Option Addr)(n c:Nat)(xs:List Rk)(S:Rks p a n xs)(hn:n<=2^20):
 CallsX prog md 127 #[.slice a n c] h fun v h'=>∃Y,OwnS 93 4 v (rcs xs) Y/\New h h' Y:=by
 have hl:=S.len
 refine xfq hp func127 fun _ _ _ K=>?_
 refine xut rfl ?_
 refine cq (fun cc=>?_) (fun cc=>?_)
 ·refine ax ?_
  have e:xs=[]:=by
   by_cases h0:0<n
   ·rw[Sl.ne S h0]at cc;cases cc
   ·exact List.eq_nil_of_length_eq_zero om
  subst e
  refine xfb 93 4 fun o=>?_
  exact K.r rfl rfl fun _ H_=>⟨_,o,newR H_⟩
 refine ax ?_
 refine xdz rfl fun v Y o=>?_
 refine ax ?_
 refine xhh rfl rfl o S (ylx xs) (by simp[chs];omega) (fun v' Y' o'=>?_)
 refine ax ?_
 exact K.r rfl rfl fun _ H_=>⟨_,o',newR H_⟩
theorem c129(md:Md)(h:Heap)(p:PHeap)(hp:Per p h)(a:Option Addr)(n c:Nat)(xs:List FWay)(S:Wys p a n xs)(hn:n<=2^20):
 CallsX prog md 129 #[.slice a n c] h fun v h'=>∃Y,OwnS 91 2 v (Flow.wcs xs) Y/\New h h' Y:=by
 have hl:=S.len
 refine xfq hp func129 fun _ _ _ K=>?_
 refine xut rfl ?_
 refine cq (fun cc=>?_) (fun cc=>?_)
 ·refine ax ?_
  have e:xs=[]:=by
   by_cases h0:0<n
   ·rw[Sl.ne S h0]at cc;cases cc
   ·exact List.eq_nil_of_length_eq_zero om
  subst e
  refine xfb 91 2 fun o=>?_
  exact K.r rfl rfl fun _ H_=>⟨_,o,newR H_⟩
 refine ax ?_
 refine xdz rfl fun v Y o=>?_
 refine ax ?_
 refine xhh rfl rfl o S (ykj xs) (by simp[chs];omega) (fun v' Y' o'=>?_)
 refine ax ?_
 exact K.r rfl rfl fun _ H_=>⟨_,o',newR H_⟩
theorem c204(md:Md)(h:Heap)(p:PHeap)(hp:Per p h)(a:Option Addr)(n c:Nat)(xs:List Rk)(S:Rks p a n xs)(hc:n<=c)(hn:n<=2^20)(x:Rk):
 CallsX prog md 204 #[.slice a n c,.agg #[.int .i64 x.hr,.int .i64 x.pe,.int .i64 x.sd,.int .i64 x.st]] h fun v h'=>∃Y,OwnS 93 4 v (rcs (xs++[x])) Y/\New h h' Y:=by
 have hl:=S.len
 have ec:rcs (xs++[x])=rcs xs++rcs [x]:=by simp[rcs]
 refine xfq hp func204 fun _ _ _ K=>?_
 refine xjq rfl fun b1=>?_
 refine ax ?_
 refine xjx [7] R8 ?_
 refine ex ?_
 refine ykk rfl rfl rfl rfl hc ?_
 refine ex ?_
 refine xjb rfl rfl fun v2 Y2 o2=>?_
 refine ex ?_
 refine ax ?_
 have o2:OwnS 93 4 v2 (rcs [x]) Y2:=o2
 refine xxt rfl rfl S o2 (Nat.succ_pos _) (by simp[rcs];omega) fun v3 Y3 o3=>?_
 refine ax ?_
 exact K.r rfl rfl fun _ H_=>⟨Y3,o3.as ec.symm,newR H_⟩
theorem c206(md:Md)(h:Heap)(p:PHeap)(hp:Per p h)(a:Option Addr)(n c:Nat)(xs:List Int)(S:Ints p a n xs)(hc:n<=c)(hn:n<=2^20)(x:Int):
 CallsX prog md 206 #[.slice a n c,.int .i64 x] h fun v h'=>∃Y,OwnS 3 1 v (ics (xs++[x])) Y/\New h h' Y:=by
 have hl:=S.len
 have ec:ics (xs++[x])=ics xs++ics [x]:=by simp[ics]
 refine xfq hp func206 fun _ _ _ K=>?_
 refine yef rfl rfl rfl hc ?_
 refine ax ?_
 refine xdz rfl fun v2 Y2 o2=>?_
 have o2:OwnS 3 1 v2 (ics [x]) Y2:=o2
 refine xxt rfl rfl S o2 (Nat.succ_pos _) (by simp[ics];omega) fun v3 Y3 o3=>?_
 refine ax ?_
 exact K.r rfl rfl fun _ H_=>⟨Y3,o3.as ec.symm,newR H_⟩
theorem c218(md:Md)(h:Heap)(p:PHeap)(hp:Per p h)(a:Option Addr)(n c:Nat)(xs:List Day)(S:Days p a n xs)(hc:n<=c)(hn:n<=2^20)(x:Day):
 CallsX prog md 218 #[.slice a n c,.agg #[.int .i64 x.lo,.int .i64 x.hi,.int .i64 x.want]] h fun v h'=>∃Y,OwnS 89 3 v (dcs (xs++[x])) Y/\New h h' Y:=by
 have hl:=S.len
 have ec:dcs (xs++[x])=dcs xs++dcs [x]:=by simp[dcs]
 refine xfq hp func218 fun _ _ _ K=>?_
 refine xjq rfl fun b1=>?_
 refine ax ?_
 refine xjx [7] R8 ?_
 refine ex ?_
 refine ykk rfl rfl rfl rfl hc ?_
 refine ex ?_
 refine xjb rfl rfl fun v2 Y2 o2=>?_
 refine ex ?_
 refine ax ?_
 have o2:OwnS 89 3 v2 (dcs [x]) Y2:=o2
 refine xxt rfl rfl S o2 (Nat.succ_pos _) (by simp[dcs];omega) fun v3 Y3 o3=>?_
 refine ax ?_
 exact K.r rfl rfl fun _ H_=>⟨Y3,o3.as ec.symm,newR H_⟩
theorem c125(md:Md)(h:Heap)(p:PHeap)(hp:Per p h)(b:Bool):
 CallsX prog md 125 #[.bool b] h fun v h'=>v=sv (doneW b)/\Keep h h':=by
 refine xfq hp func125 fun _ _ _ K=>?_
 refine xiq rfl (fun cc=>?_) (fun cc=>?_)
 ·refine ax ?_
  exact K.r rfl rfl fun _ H_=>⟨by rw[show b=true from cc];rfl,H_.kept⟩
 ·refine ax ?_
  exact K.r rfl rfl fun _ H_=>⟨by rw[show b=false from by simpa using cc];rfl,H_.kept⟩
theorem c58(md:Md)(h:Heap)(p:PHeap)(hp:Per p h)(A:TA)(t:Twn)(T:TwP p A t)(hn:t.fit (2^20)):
 CallsX prog md 58 #[twV A t] h fun v h'=>v=.int .i64 (chkT t)/\Keep h h':=by
 obtain⟨⟨n1,n2⟩,⟨n3,n4,n5⟩,n6⟩:=hn
 refine xfq hp func58 fun _ _ _ K=>?_
 refine xjq rfl fun b1=>?_
 refine ax ?_
 refine xlq rfl rfl (fun _ pe=>c117 md _ _ pe _ _ _ _ t.s T.s ⟨om,om⟩) ?_
 refine ax ?_
 refine xvq rfl rfl rfl sdt (fun _ _ pe=>c53 md _ _ pe _ _ _ _ _ _ t.b T.b ⟨om,om,om⟩) ?_
 refine ax ?_
 refine xvq rfl rfl rfl sdt (fun _ _ pe=>c56 md _ _ pe _ _ _ _ _ _ T.d om) ?_
 refine cq (fun cc=>?_) (fun cc=>?_)
 ·refine ax ?_
  exact K.r rfl rfl fun _ H_=>⟨by rw[chkT,if_neg (fun z=>by simp[z]at cc)];rfl,H_.kept⟩
 ·refine ax ?_
  exact K.r rfl rfl fun _ H_=>⟨by rw[chkT,if_pos (by simp at cc;exact⟨cc.1.1,cc.1.2,cc.2⟩)];rfl,H_.kept⟩
end Go.Proofs.YtjcakmlipohaeaaGreatDoor
namespace Go.X.Flow
theorem xk1(xs ys:List FWay):wcs (xs++ys)=wcs xs++wcs ys:=by simp[wcs]
theorem xk3(xs:List FWay)(i:Nat):wcs (xs.take i)=(wcs xs).take i:=by simp[wcs]
theorem xl3(xs:List FWay)(i:Nat):wcs (xs.drop i)=(wcs xs).drop i:=by simp[wcs]
theorem xpm(xs:List FWay):∀u∈(wcs xs).flatten,isOne u=true:=by
 intro u hu
 simp only[wcs,List.mem_flatten,List.mem_map]at hu
 obtain⟨_,⟨w,_,rfl⟩,hu⟩:=hu
 simp only[FWay.cells,List.mem_cons,List.not_mem_nil,or_false]at hu
 rcases hu with rfl|rfl<;>rfl
theorem yqr{α:Type}{A B zs:List α}{x:α}(hz:zs.length=B.length+1):(A++zs).take A.length++([x]++(A++zs).drop (A.length+1))=(A++[x])++zs.drop 1/\((A++[x])++zs.drop 1).length=A.length+B.length+1/\
 ((A++[x])++zs.drop 1).take (A.length+1)++(B++((A++[x])++zs.drop 1).drop (A.length+1+B.length))=A++x::B:=by
 have e1:((A++[x])++zs.drop 1).length=A.length+B.length+1:=by simp;omega
 refine⟨?_,e1,?_⟩
 ·rw[List.take_left' rfl,<- List.drop_drop,List.drop_left' rfl,List.append_assoc]
 ·rw[List.take_left' (by simp),List.drop_of_length_le om,List.append_nil,List.append_assoc];rfl
theorem yrr{α:Type}{W:List α}{u x:α}{i n:Nat}(hn:W.length=n)(hi:i<n):((W++[u]).drop i).take (n-i)=W.drop i/\((W++[u]).take (i+1)++(W.drop i++(W++[u]).drop (i+1+(n-i)))).length=n+1/\
 ((W++[u]).take (i+1)++(W.drop i++(W++[u]).drop (i+1+(n-i)))).take i++([x]++((W++[u]).take (i+1)++(W.drop i++(W++[u]).drop (i+1+(n-i)))).drop (i+1))=W.take i++x::W.drop i:=by
 subst hn
 have e0:(W++[u]).drop (i+1+(W.length-i))=[]:=List.drop_of_length_le (by simp;omega)
 have e1:((W++[u]).take (i+1)).length=i+1:=by simp;omega
 refine⟨?_,by rw[e0];simp;omega,?_⟩
 ·rw[List.drop_append_of_le_length om,List.take_left' (by simp)]
 ·rw[e0,List.append_nil,List.drop_left' e1,List.take_append_of_le_length om,List.take_take,Nat.min_eq_left om,List.take_append_of_le_length om];rfl
end Go.X.Flow
namespace Go.Proofs.YtjcakmlipohaeaaGreatDoor
open Go.Proofs.Tryz
open Go.X Go.X.Flow Go.Conc
theorem c216(md:Md)(h₀ h:Heap)(B₀:List Nat)(p:PHeap)(C Y Z:Pcs)(v z:Value)(xs:List FWay)(x:FWay)(i:Nat)(hi:i<=xs.length)(hn:xs.length<=2^20)(o:OwnS 91 2 v (wcs xs) Y)(oz:OwnS 91 2 z (wcs [x]) Z)(s:St h₀ B₀ p h ((Y++Z)++C)):
 CallsX prog md 216 #[v,.int .i64 ((i:Nat):Int),z] h fun v' h'=>∃Y',OwnS 91 2 v' (wcs (xs.take i++x::xs.drop i)) Y'/\St h₀ B₀ p h' (Y'++C):=by
 have hl:(wcs xs).length=xs.length:=wcs_length xs
 refine xcj s func216 fun _ _ _ K=>?_
 refine xwk Y Z ?_
 obtain⟨a,c,rfl,-⟩:=o.val
 have hac:=o.room (by decide) rfl
 rw[hl]at o hac⊢
 obtain⟨bz,cz,rfl,hz1,-⟩:∃b cap,z=.slice (some ⟨b,0,none⟩) 1 cap/\1<=cap/\True:=by
  obtain⟨b,cap,e,hc,-⟩:=oz.at0 (by rw[wcs_length];exact Nat.one_pos) (by decide)
  exact⟨b,cap,e,hc,trivial⟩
 refine ax ?_
 refine xf4 rfl rfl (j:=i) ⟨hi,hac⟩ ?_
 refine ax ?_
 refine xiq rfl (fun cc=>absurd cc (by decide)) (fun _=>?_)
 refine cq (fun cc=>?_) (fun cc=>?_)
 ·have ei:i=xs.length:=om
  refine ax ?_
  refine xcf rfl rfl o oz (xpm _) (by simp[wcs_length];omega) fun v' Y' o'=>?_
  refine ax ?_
  exact xqq func216 rfl rfl fun _ H_=>K _ _ ⟨Y',by rw[ei,List.take_length,List.drop_length,xk1];exact o',xwg H_⟩
 have hlt:i<xs.length:=om
 refine ax ?_
 refine ynp rfl ?_
 refine cq (fun ce=>?_) (fun ce=>?_)
 ·have hc0:c=xs.length:=om
  subst hc0
  refine ax ?_
  refine xbx o (m:=xs.length) hl (by decide) fun p1 a1 c1 g1 e1 hc1 S1=>?_
  cases e1
  refine xbx oz (m:=1) rfl (by decide) fun p2 a2 c2 g2 e2 hc2 S2=>?_
  cases e2
  have S1:=S1.mono g2.le
  have Si:Sl p2 a i 2 (wcs (xs.take i)):=by
   have z:=S1.cut (lo:=0) (hi:=i) (Nat.zero_le _) om (a':=a) (fun _=>by rw[Nat.zero_mul];exact(S1.ne om).trans (by rfl))
   rw[xk3]
   simpa using z
  have Sd:Sl p2 (cutA a xs.length i 2) (xs.length-i) 2 (wcs (xs.drop i)):=by
   have z:=S1.cut (lo:=i) (hi:=xs.length) hi (Nat.le_refl _) (a':=cutA a xs.length i 2) (fun _=>by rw[S1.ne om,xzc hlt];rfl)
   rw[xl3]
   have e:((wcs xs).drop i).take (xs.length-i)=(wcs xs).drop i:=List.take_of_length_le (by simp[wcs_length])
   rwa[e]at z
  refine xxn rfl rfl (j:=i) om ?_
  refine ax ?_
  have e3:((xs.length:Nat):Int)+((1:Nat):Int)-((i:Nat):Int)=((xs.length+1-i:Nat):Int):=om
  refine yqp (m:=xs.length+1-i) rfl (congrArg (fun z=>some ([],Value.int .i64 z)) e3) Si om om om fun v' Y' zs hz o'=>?_
  have hlz:(wcs (xs.take i)++zs).length=xs.length+1:=by rw[List.length_append,wcs_length,List.length_take,hz];omega
  obtain⟨b3,c3,rfl,hc3,-⟩:∃b cap,v'=.slice (some ⟨b,0,none⟩) (xs.length+1) cap/\xs.length+1<=cap/\True:=by
   obtain⟨b,cap,e,hc,-⟩:=o'.at0 om (by decide)
   rw[hlz]at e hc
   exact⟨b,cap,e,hc,trivial⟩
  refine ax ?_
  refine xf4 rfl rfl (j:=i) ⟨om,om⟩ ?_
  refine ax ?_
  refine yuq (off:=i) (by rw[xzc om,xrx,Nat.zero_add];rfl) rfl o' S2 hlz om om om (xpm _) fun Y2 o2=>?_
  refine ax ?_
  refine xjx [] R8 ?_
  refine ex ?_
  refine xpp (j:=i+1) rfl rfl rfl ⟨om,om⟩ ?_
  refine ex ?_
  refine xpp (j:=i) rfl rfl rfl ⟨hi,om⟩ ?_
  refine ex ?_
  refine ax ?_
  have eA:(wcs (xs.take i)).length=i:=by rw[wcs_length,List.length_take];omega
  have eB:(wcs (xs.drop i)).length=xs.length-i:=by rw[wcs_length,List.length_drop]
  have ez:=yqr (A:=wcs (xs.take i)) (B:=wcs (xs.drop i)) (zs:=zs) (x:=x.cells) om
  rw[eA,eB]at ez
  have o2:=o2.as ez.1
  have hl2:=ez.2.1
  rw[show i+(xs.length-i)+1=xs.length+1 by omega]at hl2
  refine yuq (off:=i+1) (by by_cases z:i+1<c3;(rw[xzc z,xrx,Nat.zero_add];rfl);omega) rfl o2 Sd hl2 om om om (xpm _) fun Y3 o3=>?_
  refine ax ?_
  have o3:=o3.as (ez.2.2.trans (show _=wcs (xs.take i++x::xs.drop i) by rw[xk1];rfl))
  exact xqq func216 rfl rfl fun _ H_=>K _ _ ⟨Y3,o3,(xwg H_).forget (g1.le.trans g2.le)⟩
 obtain⟨b,rfl⟩:∃b,a=some ⟨b,0,none⟩:=by
  obtain⟨b,cap,e,-,-⟩:=o.at0 om (by decide)
  injection e with e1 _ _
  exact⟨b,e1⟩
 obtain⟨u,o1⟩:=o.more om
 refine ax ?_
 refine xxn rfl (congrArg (fun z=>some ([],Value.int .i64 z)) (show((xs.length:Nat):Int)+((1:Nat):Int)=((xs.length+1:Nat):Int) by omega)) (j:=xs.length+1) om ?_
 refine ax ?_
 refine xf4 rfl (congrArg (fun z=>some ([],Value.int .i64 z)) (show((i:Nat):Int)+((1:Nat):Int)=((i+1:Nat):Int) by omega)) (j:=i+1) ⟨om,om⟩ ?_
 rw[xzc om,xrx,Nat.zero_add]
 refine ax ?_
 obtain⟨cy,rfl,hy1⟩:=o1.blk
 obtain⟨cw,rfl,hy2⟩:=oz.blk
 refine yzn (tS:=26) (tR:=4) (eT:=91) (w:=2) (i:=1) (j:=0) func285 (by kernel_rfl) rfl rfl rfl rfl om rfl om (by decide) ?_
 refine ax ?_
 rw[Bool.not_false]
 refine xiq rfl (fun _=>?_) (fun cd=>absurd trivial cd)
 refine ax ?_
 refine xjx [] R8 ?_
 refine ex ?_
 refine xpp (j:=i+1) rfl rfl (congrArg (fun z=>some ([],Value.int .i64 z)) (show((i:Nat):Int)+((1:Nat):Int)=((i+1:Nat):Int) by omega)) ⟨om,om⟩ ?_
 refine ex ?_
 refine xpp (j:=i) rfl rfl rfl ⟨om,om⟩ ?_
 refine ex ?_
 refine ax ?_
 rw[xzc om,xrx,Nat.zero_add,xzc om,xrx,Nat.zero_add]
 have hl1:(wcs xs++[u]).length=xs.length+1:=by rw[List.length_append,hl];rfl
 have ez:=yrr (W:=wcs xs) (u:=u) (x:=x.cells) hl hlt
 refine ylp (off:=i+1) (j:=i) (q:=xs.length-i) rfl rfl o1 hl1 om (by show min _ _=_;omega) om om (fun z hz=>xpm xs z ?_) fun Y2 o2=>?_
 ·rw[ez.1]at hz
  obtain⟨e,h2,h3⟩:=List.mem_flatten.1 hz
  exact List.mem_flatten.2 ⟨e,List.mem_of_mem_drop h2,h3⟩
 rw[ez.1]at o2
 refine ax ?_
 refine xbx oz (m:=1) rfl (by decide) fun p2 a2 c2 g2 e2 hc2 S2=>?_
 cases e2
 refine xf4 rfl rfl (j:=i) ⟨om,om⟩ ?_
 refine ax ?_
 refine yuq (off:=i) (by rw[xzc om,xrx,Nat.zero_add];rfl) rfl o2 S2 ez.2.1 om om om (xpm _) fun Y3 o3=>?_
 have o3:=o3.as (ez.2.2.trans (show _=wcs (xs.take i++x::xs.drop i) by rw[xk1,<- xk3];show _=_++(x.cells::wcs (xs.drop i));rw[xl3]))
 refine ax ?_
 exact xqq func216 rfl rfl fun _ H_=>K _ _ ⟨Y3,o3,(xwg H_).forget g2.le⟩
end Go.Proofs.YtjcakmlipohaeaaGreatDoor
namespace Go.Proofs.YtjcakmlipohaeaaGreatDoor
open Go.Proofs.Tryz
open Go.X Go.X.Ms Go.Conc
open Go.X.Flow (FWay Wys wz ics TownP wcs)
open Go.X.Cist (Day Days dcs dz dcs_ones dcs_length)
theorem xnx(xs:List Int):(ics xs).length=xs.length:=by simp[ics]
theorem xjd(xs:List Rk):(rcs xs).length=xs.length:=by simp[rcs]
theorem c60(md:Md)(h:Heap)(p:PHeap)(hp:Per p h)(A:TA)(t:Twn)(T:TwP p A t)(hn:t.fit (2^20)):
 CallsX prog md 60 #[twV A t] h fun v h'=>LastR p h (fun v p'=>∃A',v=twV A' t/\TwP p' A' t) v h':=by
 obtain⟨⟨n1,n2⟩,⟨n3,n4,n5⟩,n6⟩:=hn
 refine xfq hp func60 fun _ _ _ K=>?_
 refine xjq rfl fun b1=>?_
 refine lq fun b2=>?_
 refine ax ?_
 refine xjx [3,7] [0,1,2,4,5,6,3,8,9,7] ?_
 refine ex ?_
 refine xqv rfl rfl rfl (fun _ pe=>c127 md _ _ pe _ _ _ _ T.s.r n1) fun v1 Y1 o1=>?_
 obtain⟨a1,c1,rfl,-⟩:=o1.val
 rw[xjd]at o1⊢
 refine ex ?_
 refine xqv rfl rfl rfl (fun _ pe=>c128 md _ _ pe _ _ _ _ T.s.f n2) fun v2 Y2 o2=>?_
 obtain⟨a2,c2,rfl,-⟩:=o2.val
 rw[xnx]at o2⊢
 refine ex ?_
 refine ax ?_
 refine xjx [3,7,11] [0,1,2,4,5,6,8,9,10,3,12,13,7,11] ?_
 refine ex ?_
 refine xqv rfl rfl rfl (fun _ pe=>c128 md _ _ pe _ _ _ _ T.b.h n3) fun v3 Y3 o3=>?_
 obtain⟨a3,c3,rfl,-⟩:=o3.val
 rw[xnx]at o3⊢
 refine ex ?_
 refine xqv rfl rfl rfl (fun _ pe=>c128 md _ _ pe _ _ _ _ T.b.w n4) fun v4 Y4 o4=>?_
 obtain⟨a4,c4,rfl,-⟩:=o4.val
 rw[xnx]at o4⊢
 refine ex ?_
 refine xqv rfl rfl rfl (fun _ pe=>c129 md _ _ pe _ _ _ _ T.b.y n5) fun v5 Y5 o5=>?_
 obtain⟨a5,c5,rfl,-⟩:=o5.val
 rw[Flow.wcs_length]at o5⊢
 refine ex ?_
 refine ax ?_
 refine xck rfl rfl (fun _ pe=>c130 md _ _ pe _ _ _ _ T.d n6) fun v6 Y6 o6=>?_
 obtain⟨a6,c6,rfl,-⟩:=o6.val
 rw[dcs_length]at o6⊢
 refine ax ?_
 refine xtx o1 (m:=t.s.rocks.length) (xjd _) (by decide) fun p1 _ _ g1 e1 hc1 S1=>?_
 cases e1
 refine xtx o2 (m:=t.s.feet.length) (xnx _) (by decide) fun p2 _ _ g2 e2 hc2 S2=>?_
 cases e2
 refine xtx o3 (m:=t.b.nH) (xnx _) (by decide) fun p3 _ _ g3 e3 hc3 S3=>?_
 cases e3
 refine xtx o4 (m:=t.b.nW) (xnx _) (by decide) fun p4 _ _ g4 e4 hc4 S4=>?_
 cases e4
 refine xtx o5 (m:=t.b.m) (Flow.wcs_length _) (by decide) fun p5 _ _ g5 e5 hc5 S5=>?_
 cases e5
 refine xtx o6 (m:=t.y.days.length) (dcs_length _) (by decide) fun p6 _ _ g6 e6 hc6 S6=>?_
 cases e6
 exact K.e rfl (xqx rfl .nil) fun _ H_=>(xzx H_ (((((g1.trans g2).trans g3).trans g4).trans g5).trans g6) ⟨⟨(a1,c1),(a2,c2),(a3,c3),(a4,c4),(a5,c5),(a6,c6)⟩,rfl,
  ⟨⟨Sl.mono ((((g2.trans g3).trans g4).trans g5).trans g6).le S1,Sl.mono (((g3.trans g4).trans g5).trans g6).le S2⟩,⟨Sl.mono ((g4.trans g5).trans g6).le S3,Sl.mono (g5.trans g6).le S4,Sl.mono g6.le S5⟩,S6,⟨hc1,hc2⟩,⟨hc3,hc4,hc5⟩,hc6⟩⟩)
end Go.Proofs.YtjcakmlipohaeaaGreatDoor
namespace Go.Proofs.YtjcakmlipohaeaaGreatDoor
open Go.Proofs.Tryz
open Go.X Go.X.Ms Go.Conc
open Go.X.Flow (FWay Wys wz ics ics_at ics_set TownP wcs)
open Go.X.Cist (Day Days dcs dz dcs_ones dcs_length)
def turnQ(o:Od)(t:Twn)(vs:List Int)(v:Value)(p':PHeap)(ob:Obj):Prop:=match turnO o t vs with
 |none=>v=.bool false
 |some t'=>v=.bool true/\ ∃A':TA,ob=.cells (tcs A' t').toArray 33 (0,0)/\TwP p' A' t'
theorem c203(md:Md)(h:Heap)(p:PHeap)(hp:Per p h)(b:Nat)(A:TA)(t:Twn)(hb:h[b]?=some (.cells (tcs A t).toArray 33 (0,0)))(hnb:p b=none)(T:TwP p A t)(hn:t.fit (2^20))(a:Option Addr)(n c:Nat)(vs:List Int)(V:Ints p a n vs)(hv:n=4):
 CallsX prog md 203 #[.pointer (some ⟨b,0,none⟩),.slice a n c] h (TurnR p h b (turnQ .rock t vs)):=by
 obtain⟨⟨n1,n2⟩,⟨n3,n4,n5⟩,n6⟩:=hn
 obtain⟨⟨k1,k2⟩,⟨k3,k4,k5⟩,k6⟩:=T.c
 refine xlz hp hb hnb func203 fun _ _ _ K=>?_
 refine ax ?_
 refine xjx [19] R20 ?_
 refine ex ?_
 refine xqv rfl rfl rfl (fun _ pe=>c204 md _ _ pe _ _ _ _ T.s.r k1 n1 ⟨vs.getD 0 0,vs.getD 1 0,vs.getD 2 0,vs.getD 3 0⟩) fun v1 Y1 o1=>?_
 obtain⟨a1,c1,rfl,-⟩:=o1.val
 rw[xjd]at o1⊢
 refine ex ?_
 refine ax ?_
 refine xtx o1 (m:=(t.s.rocks++[_]).length) (xjd _) (by decide) fun p1 _ _ g1 e1 hc1 S1=>?_
 cases e1
 have T:=T.mono g1.le
 exact xqq func203 rfl rfl fun _ H_=>K _ _ (xej H_ g1 ⟨rfl,⟨(a1,c1),A.f,A.h,A.w,A.y,A.d⟩,rfl,⟨⟨S1,T.s.f⟩,T.b,T.d,⟨hc1,k2⟩,T.c.2⟩⟩)
theorem c205(md:Md)(h:Heap)(p:PHeap)(hp:Per p h)(b:Nat)(A:TA)(t:Twn)(hb:h[b]?=some (.cells (tcs A t).toArray 33 (0,0)))(hnb:p b=none)(T:TwP p A t)(hn:t.fit (2^20))(a:Option Addr)(n c:Nat)(vs:List Int)(V:Ints p a n vs)(hv:n=1):
 CallsX prog md 205 #[.pointer (some ⟨b,0,none⟩),.slice a n c] h (TurnR p h b (turnQ .foot t vs)):=by
 obtain⟨⟨n1,n2⟩,⟨n3,n4,n5⟩,n6⟩:=hn
 obtain⟨⟨k1,k2⟩,⟨k3,k4,k5⟩,k6⟩:=T.c
 refine xlz hp hb hnb func205 fun _ _ _ K=>?_
 refine ax ?_
 refine xjx [9] R10 ?_
 refine ex ?_
 refine xqv rfl rfl rfl (fun _ pe=>c206 md _ _ pe _ _ _ _ T.s.f k2 n2 (vs.getD 0 0)) fun v1 Y1 o1=>?_
 obtain⟨a1,c1,rfl,-⟩:=o1.val
 rw[xnx]at o1⊢
 refine ex ?_
 refine ax ?_
 refine xtx o1 (m:=(t.s.feet++[_]).length) (xnx _) (by decide) fun p1 _ _ g1 e1 hc1 S1=>?_
 cases e1
 have T:=T.mono g1.le
 exact xqq func205 rfl rfl fun _ H_=>K _ _ (xej H_ g1 ⟨rfl,⟨A.r,(a1,c1),A.h,A.w,A.y,A.d⟩,rfl,⟨⟨T.s.r,S1⟩,T.b,T.d,⟨k1,hc1⟩,T.c.2⟩⟩)
theorem c208(md:Md)(h:Heap)(p:PHeap)(hp:Per p h)(b:Nat)(A:TA)(t:Twn)(hb:h[b]?=some (.cells (tcs A t).toArray 33 (0,0)))(hnb:p b=none)(T:TwP p A t)(hn:t.fit (2^20))(a:Option Addr)(n c:Nat)(vs:List Int)(V:Ints p a n vs)(hv:n=1):
 CallsX prog md 208 #[.pointer (some ⟨b,0,none⟩),.slice a n c] h (TurnR p h b (turnQ .house t vs)):=by
 obtain⟨⟨n1,n2⟩,⟨n3,n4,n5⟩,n6⟩:=hn
 obtain⟨⟨k1,k2⟩,⟨k3,k4,k5⟩,k6⟩:=T.c
 refine xlz hp hb hnb func208 fun _ _ _ K=>?_
 refine ax ?_
 refine xjx [9] R10 ?_
 refine ex ?_
 refine xqv rfl rfl rfl (fun _ pe=>c206 md _ _ pe _ _ _ _ T.b.h k3 n3 (vs.getD 0 0)) fun v1 Y1 o1=>?_
 obtain⟨a1,c1,rfl,-⟩:=o1.val
 rw[xnx]at o1⊢
 refine ex ?_
 refine ax ?_
 refine xtx o1 (m:=(t.b.hs++[_]).length) (xnx _) (by decide) fun p1 _ _ g1 e1 hc1 S1=>?_
 cases e1
 have T:=T.mono g1.le
 exact xqq func208 rfl rfl fun _ H_=>K _ _ (xej H_ g1 ⟨rfl,⟨A.r,A.f,(a1,c1),A.w,A.y,A.d⟩,rfl,⟨T.s,⟨S1,T.b.w,T.b.y⟩,T.d,T.c.1,⟨hc1,k4,k5⟩,k6⟩⟩)
theorem c209(md:Md)(h:Heap)(p:PHeap)(hp:Per p h)(b:Nat)(A:TA)(t:Twn)(hb:h[b]?=some (.cells (tcs A t).toArray 33 (0,0)))(hnb:p b=none)(T:TwP p A t)(hn:t.fit (2^20))(a:Option Addr)(n c:Nat)(vs:List Int)(V:Ints p a n vs)(hv:n=1):
 CallsX prog md 209 #[.pointer (some ⟨b,0,none⟩),.slice a n c] h (TurnR p h b (turnQ .well t vs)):=by
 obtain⟨⟨n1,n2⟩,⟨n3,n4,n5⟩,n6⟩:=hn
 obtain⟨⟨k1,k2⟩,⟨k3,k4,k5⟩,k6⟩:=T.c
 refine xlz hp hb hnb func209 fun _ _ _ K=>?_
 refine ax ?_
 refine xjx [9] R10 ?_
 refine ex ?_
 refine xqv rfl rfl rfl (fun _ pe=>c206 md _ _ pe _ _ _ _ T.b.w k4 n4 (vs.getD 0 0)) fun v1 Y1 o1=>?_
 obtain⟨a1,c1,rfl,-⟩:=o1.val
 rw[xnx]at o1⊢
 refine ex ?_
 refine ax ?_
 refine xtx o1 (m:=(t.b.ws++[_]).length) (xnx _) (by decide) fun p1 _ _ g1 e1 hc1 S1=>?_
 cases e1
 have T:=T.mono g1.le
 exact xqq func209 rfl rfl fun _ H_=>K _ _ (xej H_ g1 ⟨rfl,⟨A.r,A.f,A.h,(a1,c1),A.y,A.d⟩,rfl,⟨T.s,⟨T.b.h,S1,T.b.y⟩,T.d,T.c.1,⟨k3,hc1,k5⟩,k6⟩⟩)
theorem c217(md:Md)(h:Heap)(p:PHeap)(hp:Per p h)(b:Nat)(A:TA)(t:Twn)(hb:h[b]?=some (.cells (tcs A t).toArray 33 (0,0)))(hnb:p b=none)(T:TwP p A t)(hn:t.fit (2^20))(a:Option Addr)(n c:Nat)(vs:List Int)(V:Ints p a n vs)(hv:n=3):
 CallsX prog md 217 #[.pointer (some ⟨b,0,none⟩),.slice a n c] h (TurnR p h b (turnQ .day t vs)):=by
 obtain⟨⟨n1,n2⟩,⟨n3,n4,n5⟩,n6⟩:=hn
 obtain⟨⟨k1,k2⟩,⟨k3,k4,k5⟩,k6⟩:=T.c
 refine xlz hp hb hnb func217 fun _ _ _ K=>?_
 refine ax ?_
 refine xjx [17] R18 ?_
 refine ex ?_
 refine xqv rfl rfl rfl (fun _ pe=>c218 md _ _ pe _ _ _ _ T.d k6 n6 ⟨vs.getD 0 0,vs.getD 1 0,vs.getD 2 0⟩) fun v1 Y1 o1=>?_
 obtain⟨a1,c1,rfl,-⟩:=o1.val
 rw[dcs_length]at o1⊢
 refine ex ?_
 refine ax ?_
 refine xtx o1 (m:=(t.y.days++[_]).length) (dcs_length _) (by decide) fun p1 _ _ g1 e1 hc1 S1=>?_
 cases e1
 have T:=T.mono g1.le
 exact xqq func217 rfl rfl fun _ H_=>K _ _ (xej H_ g1 ⟨rfl,⟨A.r,A.f,A.h,A.w,A.y,(a1,c1)⟩,rfl,⟨T.s,T.b,S1,T.c.1,T.c.2.1,hc1⟩⟩)
theorem c219(md:Md)(h:Heap)(p:PHeap)(hp:Per p h)(b:Nat)(A:TA)(t:Twn)(hb:h[b]?=some (.cells (tcs A t).toArray 33 (0,0)))(hnb:p b=none)(T:TwP p A t)(hn:t.fit (2^20))(a:Option Addr)(n c:Nat)(vs:List Int)(V:Ints p a n vs)(hv:n=1):
 CallsX prog md 219 #[.pointer (some ⟨b,0,none⟩),.slice a n c] h (TurnR p h b (turnQ .size t vs)):=by
 obtain⟨⟨n1,n2⟩,⟨n3,n4,n5⟩,n6⟩:=hn
 obtain⟨⟨k1,k2⟩,⟨k3,k4,k5⟩,k6⟩:=T.c
 refine xlz hp hb hnb func219 fun _ _ _ K=>?_
 refine ax ?_
 exact xqq func219 rfl rfl fun _ H_=>K _ _ (xej H_ (.refl _ _ _) ⟨rfl,A,rfl,T.s,T.b,T.d,T.c⟩)
theorem c207(md:Md)(h:Heap)(p:PHeap)(hp:Per p h)(b:Nat)(A:TA)(t:Twn)(hb:h[b]?=some (.cells (tcs A t).toArray 33 (0,0)))(hnb:p b=none)(T:TwP p A t)(hn:t.fit (2^20))(a:Option Addr)(n c:Nat)(vs:List Int):
 CallsX prog md 207 #[.pointer (some ⟨b,0,none⟩),.slice a n c] h (TurnR p h b (turnQ .up t vs)):=by
 obtain⟨⟨n1,n2⟩,⟨n3,n4,n5⟩,n6⟩:=hn
 obtain⟨⟨k1,k2⟩,⟨k3,k4,k5⟩,k6⟩:=T.c
 refine xlz hp hb hnb func207 fun _ _ _ K=>?_
 refine cq (fun cc=>?_) (fun cc=>?_)
 ·have e:turnO .up t vs=none:=by unfold turnO;rw[if_pos om]
  refine ax ?_
  exact xqq func207 rfl rfl fun _ H_=>K _ _ (xej H_ (.refl _ _ _) (by unfold turnQ;rw[e];rfl))
 have e:turnO .up t vs=some {t with s:={t.s with feet:=t.s.feet.take (t.s.feet.length-1)}}:=by unfold turnO;rw[if_neg om]
 have e1:((t.s.feet.length:Nat):Int)-1=((t.s.feet.length-1:Nat):Int):=om
 have e2:(t.s.feet.take (t.s.feet.length-1)).length=t.s.feet.length-1:=by rw[List.length_take];omega
 refine ax ?_
 refine yfh (j:=t.s.feet.length-1) rfl (congrArg (fun z=>some ([],Value.int .i64 z)) e1) (congrArg (fun z=>some ([],Value.int .i64 z)) e1) om ?_
 refine ax ?_
 exact xqq func207 rfl rfl fun _ H_=>K _ _ (xej H_ (.refl _ _ _) (by
  unfold turnQ;rw[e]
  refine⟨rfl,⟨A.r,(A.f.1,t.s.feet.length-1),A.h,A.w,A.y,A.d⟩,?_,⟨T.s.r,?_⟩,T.b,T.d,⟨k1,?_⟩,T.c.2⟩
  ·simp only[tcs];rw[e2];rfl
  ·have S:Sl p A.f.1 (t.s.feet.take (t.s.feet.length-1)).length 1 (ics (t.s.feet.take (t.s.feet.length-1))):=by
    have z:=Sl.cut (lo:=0) (hi:=t.s.feet.length-1) (a':=A.f.1) T.s.f (Nat.zero_le _) om fun _=>by rw[Nat.zero_mul];exact(T.s.f.ne om).trans rfl
    rw[e2]
    simpa[ics,List.map_take]using z
   exact S
  ·show(t.s.feet.take (t.s.feet.length-1)).length<=t.s.feet.length-1
   omega))
theorem c211(md:Md)(h:Heap)(p:PHeap)(hp:Per p h)(b:Nat)(A:TA)(t:Twn)(hb:h[b]?=some (.cells (tcs A t).toArray 33 (0,0)))(hnb:p b=none)(T:TwP p A t)(hn:t.fit (2^20))(i x:Int):
 CallsX prog md 211 #[.pointer (some ⟨b,5,none⟩),.int .i64 i,.int .i64 x] h (TurnR p h b (turnQ .want t [i,x])):=by
 obtain⟨⟨n1,n2⟩,⟨n3,n4,n5⟩,n6⟩:=hn
 obtain⟨⟨k1,k2⟩,⟨k3,k4,k5⟩,k6⟩:=T.c
 have hl:t.b.hs.length=t.b.nH:=rfl
 refine xlz hp hb hnb func211 fun _ _ _ K=>?_
 refine cq (fun cc=>?_) (fun cc=>?_)
 ·have e:turnO .want t [i,x]=none:=by
   show(setL t.b.hs i x).map _=none
   rw[setL,if_neg om];rfl
  refine ax ?_
  exact xqq func211 rfl rfl fun _ H_=>K _ _ (xej H_ (.refl _ _ _) (by unfold turnQ;rw[e];rfl))
 have hi:0<=i/\i<(t.b.hs.length:Int):=om
 have e:turnO .want t [i,x]=some {t with b:={t.b with hs:=t.b.hs.set i.toNat x}}:=by
  show(setL t.b.hs i x).map _=_
  rw[setL,if_pos hi];rfl
 refine ax ?_
 refine xck rfl rfl (fun _ pe=>c128 md _ _ pe _ _ _ _ T.b.h n3) fun v1 Y1 o1=>?_
 obtain⟨a1,c1,rfl,-⟩:=o1.val
 rw[xnx,hl]at o1⊢
 refine ax ?_
 refine xuw rfl rfl o1 hi.1 (by rw[xnx];omega) ?_
 refine xjv (j:=0) rfl rfl o1 xox rfl rfl rfl (ics_at om) (Nat.le_refl _) fun Y2 o2=>?_
 have o2:=o2.as (show _=ics (t.b.hs.set i.toNat x) from ics_set)
 refine ax ?_
 refine xtx o2 (m:=t.b.nH) (by rw[xnx,List.length_set];exact hl) (by decide) fun p1 _ _ g1 e1 hc1 S1=>?_
 cases e1
 have T:=T.mono g1.le
 exact xqq func211 rfl rfl fun _ H_=>K _ _ (xej H_ g1 (by
  unfold turnQ;rw[e]
  have e2:(t.b.hs.set i.toNat x).length=t.b.nH:=by rw[List.length_set];exact hl
  refine⟨rfl,⟨A.r,A.f,(a1,c1),A.w,A.y,A.d⟩,?_,T.s,⟨?_,T.b.w,T.b.y⟩,T.d,T.c.1,⟨?_,k4,k5⟩,k6⟩
  ·simp only[tcs,Flow.Tn.nH];rw[List.length_set];rfl
  ·show Ints p1 a1 (t.b.hs.set i.toNat x).length _
   rw[e2];exact S1
  ·show(t.b.hs.set i.toNat x).length<=c1
   omega))
theorem c210(md:Md)(h:Heap)(p:PHeap)(hp:Per p h)(b:Nat)(A:TA)(t:Twn)(hb:h[b]?=some (.cells (tcs A t).toArray 33 (0,0)))(hnb:p b=none)(T:TwP p A t)(hn:t.fit (2^20))(a:Option Addr)(n c:Nat)(vs:List Int)(V:Ints p a n vs)(hv:n=2):
 CallsX prog md 210 #[.pointer (some ⟨b,0,none⟩),.slice a n c] h (TurnR p h b (turnQ .want t vs)):=by
 refine xlz hp hb hnb func210 fun _ _ _ K=>?_
 refine ax ?_
 refine xjx [] R10 ?_
 refine ex ?_
 refine ax ?_
 refine xvt rfl rfl (fun h_ pe hb hnb=>c211 md h_ _ pe b A t hb hnb T hn (vs.getD 0 0) (vs.getD 1 0)) fun v p' o' g q=>?_
 refine ax ?_
 exact xqq func210 rfl rfl fun h_ H_=>K _ _ (xej H_ g q)
theorem d211(md:Md)(h:Heap)(p:PHeap)(hp:Per p h)(b:Nat)(A:TA)(t:Twn)(hb:h[b]?=some (.cells (tcs A t).toArray 33 (0,0)))(hnb:p b=none)(T:TwP p A t)(hn:t.fit (2^20))(i x:Int):
 CallsX prog md 211 #[.pointer (some ⟨b,6,none⟩),.int .i64 i,.int .i64 x] h (TurnR p h b (turnQ .has t [i,x])):=by
 obtain⟨⟨n1,n2⟩,⟨n3,n4,n5⟩,n6⟩:=hn
 obtain⟨⟨k1,k2⟩,⟨k3,k4,k5⟩,k6⟩:=T.c
 have hl:t.b.ws.length=t.b.nW:=rfl
 refine xlz hp hb hnb func211 fun _ _ _ K=>?_
 refine cq (fun cc=>?_) (fun cc=>?_)
 ·have e:turnO .has t [i,x]=none:=by
   show(setL t.b.ws i x).map _=none
   rw[setL,if_neg om];rfl
  refine ax ?_
  exact xqq func211 rfl rfl fun _ H_=>K _ _ (xej H_ (.refl _ _ _) (by unfold turnQ;rw[e];rfl))
 have hi:0<=i/\i<(t.b.ws.length:Int):=om
 have e:turnO .has t [i,x]=some {t with b:={t.b with ws:=t.b.ws.set i.toNat x}}:=by
  show(setL t.b.ws i x).map _=_
  rw[setL,if_pos hi];rfl
 refine ax ?_
 refine xck rfl rfl (fun _ pe=>c128 md _ _ pe _ _ _ _ T.b.w n4) fun v1 Y1 o1=>?_
 obtain⟨a1,c1,rfl,-⟩:=o1.val
 rw[xnx,hl]at o1⊢
 refine ax ?_
 refine xuw rfl rfl o1 hi.1 (by rw[xnx];omega) ?_
 refine xjv (j:=0) rfl rfl o1 xox rfl rfl rfl (ics_at om) (Nat.le_refl _) fun Y2 o2=>?_
 have o2:=o2.as (show _=ics (t.b.ws.set i.toNat x) from ics_set)
 refine ax ?_
 refine xtx o2 (m:=t.b.nW) (by rw[xnx,List.length_set];exact hl) (by decide) fun p1 _ _ g1 e1 hc1 S1=>?_
 cases e1
 have T:=T.mono g1.le
 exact xqq func211 rfl rfl fun _ H_=>K _ _ (xej H_ g1 (by
  unfold turnQ;rw[e]
  have e2:(t.b.ws.set i.toNat x).length=t.b.nW:=by rw[List.length_set];exact hl
  refine⟨rfl,⟨A.r,A.f,A.h,(a1,c1),A.y,A.d⟩,?_,T.s,⟨T.b.h,?_,T.b.y⟩,T.d,T.c.1,⟨k3,?_,k5⟩,k6⟩
  ·simp only[tcs,Flow.Tn.nW];rw[List.length_set];rfl
  ·show Ints p1 a1 (t.b.ws.set i.toNat x).length _
   rw[e2];exact S1
  ·show(t.b.ws.set i.toNat x).length<=c1
   omega))
theorem c212(md:Md)(h:Heap)(p:PHeap)(hp:Per p h)(b:Nat)(A:TA)(t:Twn)(hb:h[b]?=some (.cells (tcs A t).toArray 33 (0,0)))(hnb:p b=none)(T:TwP p A t)(hn:t.fit (2^20))(a:Option Addr)(n c:Nat)(vs:List Int)(V:Ints p a n vs)(hv:n=2):
 CallsX prog md 212 #[.pointer (some ⟨b,0,none⟩),.slice a n c] h (TurnR p h b (turnQ .has t vs)):=by
 refine xlz hp hb hnb func212 fun _ _ _ K=>?_
 refine ax ?_
 refine xjx [] R10 ?_
 refine ex ?_
 refine ax ?_
 refine xvt rfl rfl (fun h_ pe hb hnb=>d211 md h_ _ pe b A t hb hnb T hn (vs.getD 0 0) (vs.getD 1 0)) fun v p' o' g q=>?_
 refine ax ?_
 exact xqq func212 rfl rfl fun h_ H_=>K _ _ (xej H_ g q)
theorem c215(md:Md)(h:Heap)(p:PHeap)(hp:Per p h)(b:Nat)(z:Nat×Nat)(w x:FWay)(hb:p b=some (.cells #[.int .i64 w.1,.int .i64 w.2] 91 z)):
 CallsX prog md 215 #[.agg #[.int .i64 x.1,.int .i64 x.2],.pointer (some ⟨b,0,none⟩)] h fun v h'=>v=.bool (behW w x)/\Keep h h':=by
 refine xfq hp func215 fun _ _ _ K=>?_
 refine xjq rfl fun b1=>?_
 refine ax ?_
 exact K.r rfl rfl fun _ H_=>⟨by
  refine congrArg Value.bool ?_
  unfold behW
  rw[Bool.eq_iff_iff]
  simp
  omega,H_.kept⟩
end Go.Proofs.YtjcakmlipohaeaaGreatDoor
namespace Go.Proofs.YtjcakmlipohaeaaGreatDoor
open Go.Proofs.Tryz
open Go.X Go.X.Ms Go.Conc
open Go.X.Flow (idxA FWay Wys wz ics ics_at ics_set TownP wcs)
theorem yaj{α:Type}{q:α->Bool}:∀{ds:List α},idxA q ds<(ds.length:Int)
 |[]=>by show(-1:Int)<((0:Nat):Int);decide
 |d::ds=>by
   have:=yaj (q:=q) (ds:=ds)
   rw[idxA,List.length_cons]
   split
   ·omega
   ·split<;>omega
theorem c213(md:Md)(h:Heap)(p:PHeap)(hp:Per p h)(b:Nat)(A:TA)(t:Twn)(hb:h[b]?=some (.cells (tcs A t).toArray 33 (0,0)))(hnb:p b=none)(T:TwP p A t)(hn:t.fit (2^20))(a:Option Addr)(n c:Nat)(vs:List Int)(V:Ints p a n vs)(hv:n=2):
 CallsX prog md 213 #[.pointer (some ⟨b,0,none⟩),.slice a n c] h (TurnR p h b (turnQ .way t vs)):=by
 obtain⟨⟨n1,n2⟩,⟨n3,n4,n5⟩,n6⟩:=hn
 obtain⟨⟨k1,k2⟩,⟨k3,k4,k5⟩,k6⟩:=T.c
 have hlw:t.b.wy.length=t.b.m:=rfl
 refine xlz hp hb hnb func213 fun c₀ cs Stop K=>?_
 refine ax ?_
 refine xjx [7] R8 ?_
 refine ex ?_
 refine xus rfl fun b5=>?_
 refine ex ?_
 refine ax ?_
 obtain⟨w1,hw1⟩:∃w,w=vs.getD 0 0:=⟨_,rfl⟩
 obtain⟨w2,hw2⟩:∃w,w=vs.getD 1 0:=⟨_,rfl⟩
 rw[show vs.getD (Int.toNat 0) 0=w1 from hw1.symm,show vs.getD (Int.toNat 1) 0=w2 from hw2.symm]
 refine xz1 (b:=b5) fun p1 g1 hb5=>?_
 have hb5:p1 b5=some (.cells #[.int .i64 w1,.int .i64 w2] 91 (0,0)):=hb5
 have T:=T.mono g1.le
 refine xlq rfl rfl (fun _ pe=>c214 md _ _ pe _ _ _ _ t.b.wy T.b.y om (behW (w1,w2)) (fun h_ pe i hi=>xgq (first:=[]) (cap:=[.pointer (some ⟨b5,0,none⟩)]) (by kernel_rfl) (c215 md h_ _ pe b5 _ (w1,w2) (t.b.wy.getD i wz) hb5))) ?_
 refine ax ?_
 have hat:(wayAt t.b.wy (w1,w2):Int)=if idxA (behW (w1,w2)) t.b.wy<0 then(t.b.m:Int)else idxA (behW (w1,w2)) t.b.wy:=by
  unfold wayAt
  split
  ·rfl
  ·omega
 refine xgj (fun l' p_ L_=>l'=[(0,none,.pointer (some ⟨b,0,none⟩)),(5,none,.pointer (some ⟨b5,0,none⟩)),(6,none,.int .i64 (wayAt t.b.wy (w1,w2):Nat))]/\p_=p1/\L_=[[(b,.cells (tcs A t).toArray 33 (0,0))]]) ?_ fun k' H=>?_
 ·rintro _ p1 _ ⟨rfl,rfl,rfl⟩
  refine ax ?_
  generalize hW:wayAt t.b.wy (w1,w2)=W
  have hWl:W<=t.b.wy.length:=by
   rw[<- hW];unfold wayAt
   split
   ·exact Nat.le_refl _
   ·rename_i z
    have:=yaj (q:=behW (w1,w2)) (ds:=t.b.wy)
    omega
  refine xap 11 [10] [0,1,2,3,4,5,7,8] [6,9,10] (fun i=>match i with|10=>[6,9]|_=>[]) (fun i=>match i with|2=>[1]|3=>[2]|4=>[3]|5=>[4]|6=>[5]|9=>[8]|10=>[6,7,9]|_=>[])
   (fun i _ _ v x=>match i with
    |0=>v=.pointer (some ⟨b,0,none⟩)/\x=[]
    |1=>v=.pointer (some ⟨b,0,none⟩)/\x=[]
    |2=>v=.pointer (some ⟨b,0,none⟩)/\x=[]
    |3=>v=.pointer (some ⟨b,5,none⟩)/\x=[]
    |4=>v=.pointer (some ⟨b,7,none⟩)/\x=[]
    |5=>v=.slice A.y.1 t.b.m A.y.2/\x=[]
    |6=>OwnS 91 2 v (wcs t.b.wy) x
    |7=>v=.int .i64 ((W:Nat):Int)/\x=[]
    |8=>v=.agg #[.int .i64 w1,.int .i64 w2]/\x=[]
    |9=>OwnS 91 2 v (wcs [(w1,w2)]) x
    |10=>OwnS 91 2 v (wcs (t.b.wy.take W++(w1,w2)::t.b.wy.drop W)) x
    |_=>True) (fun i hi val piece hq=>?_) (fun val piece j hj v x q=>?_) (fun val piece hq=>?_)
  ·match i,hi with
   |0,_=>
     refine ex ?_
     exact xmx ⟨⟨_,rfl⟩,fun v e=>⟨xrq e,rfl⟩⟩
   |1,_=>
     refine ex ?_
     exact xmx ⟨⟨_,rfl⟩,fun v e=>⟨xrq e,rfl⟩⟩
   |2,_=>
     refine ypm rfl rfl (by show some ([],val 1)=_;rw[(hq 1 rfl).1]) sdt ?_
     exact xmx ⟨⟨_,rfl⟩,fun v e=>⟨xrq e,rfl⟩⟩
   |3,_=>
     refine yqk rfl rfl (by show some ([],val 2)=_;rw[(hq 2 rfl).1]) sdt ?_
     exact xmx ⟨⟨_,rfl⟩,fun v e=>⟨xrq e,rfl⟩⟩
   |4,_=>
     refine yqk rfl rfl (by show some ([],val 3)=_;rw[(hq 3 rfl).1]) sdt ?_
     exact xmx ⟨⟨_,rfl⟩,fun v e=>⟨xrq e,rfl⟩⟩
   |5,_=>
     refine xwc (b:=b) (off:=7) (cs:=(tcs A t).toArray) (T:=33) (z:=(0,0)) rfl rfl (by show some ([],val 4)=_;rw[(hq 4 rfl).1]) sdt ?_
     exact xmx ⟨⟨_,rfl⟩,fun v e=>⟨xrq e,rfl⟩⟩
   |6,_=>
     refine xqv (vs:=[.slice A.y.1 t.b.m A.y.2]) rfl rfl (by show some ([],[val 5])=_;rw[(hq 5 rfl).1]) (fun _ pe=>c129 md _ _ pe _ _ _ _ T.b.y n5) fun v Y o=>?_
     exact xmx ⟨⟨_,rfl⟩,fun v' e=>by
      have e':=xrq e
      subst e'
      show OwnS _ _ _ _ ([Y]++[]).flatten
      simpa using o⟩
   |7,_=>
     refine ex ?_
     exact xmx ⟨⟨_,rfl⟩,fun v e=>⟨xrq e,rfl⟩⟩
   |8,_=>
     refine ex ?_
     exact xmx ⟨⟨_,rfl⟩,fun v e=>⟨xrq e,rfl⟩⟩
   |9,_=>
     refine xjb rfl (by show some [(0,val 8)]=_;rw[(hq 8 rfl).1]) fun v Y o=>?_
     have o:OwnS 91 2 v (wcs [(w1,w2)]) Y:=o
     exact xmx ⟨⟨_,rfl⟩,fun v' e=>by
      have e':=xrq e
      subst e'
      show OwnS _ _ _ _ ([Y]++[]).flatten
      simpa using o⟩
   |10,_=>
     have o1:OwnS 91 2 (val 6) (wcs t.b.wy) (piece 6):=hq 6 rfl
     have o2:OwnS 91 2 (val 9) (wcs [(w1,w2)]) (piece 9):=hq 9 rfl
     show DE _ _ _ _ _ _ _ _ _ [piece 6,piece 9]
     refine yrs (piece 6) (piece 9) (vs:=[val 6,.int .i64 ((W:Nat):Int),val 9]) (first:=[]) (cap:=[]) (ff:=216) rfl rfl (by show some ([],[val 6,val 7,val 9])=_;rw[(hq 7 rfl).1])
      (fun h C s=>c216 md _ h _ _ C _ _ _ _ t.b.wy (w1,w2) W hWl om o1 o2 s) fun v Y o=>?_
     exact xmx ⟨⟨_,rfl⟩,fun v' e=>by
      have e':=xrq e
      subst e'
      show OwnS _ _ _ _ ([Y]++[]).flatten
      simpa using o⟩
  ·simp only[List.mem_cons,List.not_mem_nil,or_false]at hj
   rcases hj with rfl|rfl|rfl|rfl|rfl|rfl|rfl|rfl<;>exact q.2
  have o1:OwnS 91 2 (val 10) (wcs (t.b.wy.take W++(w1,w2)::t.b.wy.drop W)) (piece 10):=hq 10 (by decide)
  refine xzd (l':=[(29,none,.pointer (some ⟨b,0,none⟩)),(39,none,val 10)]) ?_ ⟨by show some (none,val 0)=_;rw[(hq 0 (by decide)).1],rfl,trivial⟩
  show RO _ _ _ _ _ _ [piece 10,[(b,.cells (tcs A t).toArray 33 (0,0))]]
  clear hq
  generalize val 10=v1 at*
  generalize piece 10=Y1 at*
  obtain⟨a1,c1,rfl,-⟩:=o1.val
  have hlz:(wcs (t.b.wy.take W++(w1,w2)::t.b.wy.drop W)).length=t.b.m+1:=by
   rw[Flow.wcs_length];simp;omega
  rw[hlz]at o1⊢
  refine ax ?_
  refine xtx o1 (m:=t.b.m+1) hlz (by decide) fun p2 _ _ g2 e1 hc1 S1=>?_
  cases e1
  have T:=T.mono g2.le
  have eT:turnO .way t vs=some {t with b:={t.b with wy:=t.b.wy.take W++(w1,w2)::t.b.wy.drop W}}:=by
   rw[<- hW,hw1,hw2];rfl
  exact xqq func213 rfl rfl fun h_ H_=>K _ _ (xej H_ (g1.trans g2) (by
   unfold turnQ;rw[eT]
   have e2:(t.b.wy.take W++(w1,w2)::t.b.wy.drop W).length=t.b.m+1:=by simp;omega
   refine⟨rfl,⟨A.r,A.f,A.h,A.w,(a1,c1),A.d⟩,?_,T.s,⟨T.b.h,T.b.w,?_⟩,T.d,T.c.1,⟨k3,k4,?_⟩,k6⟩
   ·simp only[tcs,Flow.Tn.m];rw[e2];rfl
   ·show Wys p2 a1 (t.b.wy.take W++(w1,w2)::t.b.wy.drop W).length _
    rw[e2];exact S1
   ·show(t.b.wy.take W++(w1,w2)::t.b.wy.drop W).length<=c1
    omega))
 refine xiq rfl (fun cc=>?_) (fun cc=>?_)
 ·rw[if_pos cc]at hat
  rw[hat]at H
  refine ax ?_
  exact xnq (H _ _ _ ⟨rfl,rfl,rfl⟩)
 ·rw[if_neg cc]at hat
  rw[hat]at H
  refine ax ?_
  exact xnq (H _ _ _ ⟨rfl,rfl,rfl⟩)
end Go.Proofs.YtjcakmlipohaeaaGreatDoor
namespace Go.X.Ms
theorem xf9{n:Nat}(h:n<=999999):(txt (n:Int)).length<=6:=by
 have e:txt (n:Int)=txtN n:=by
  unfold txt
  rw[if_neg om,Int.natAbs_natCast]
 rw[e]
 exact xyz (k:=5) om
end Go.X.Ms
namespace Go.Proofs.YtjcakmlipohaeaaGreatDoor
open Go.Proofs.Tryz
open Go.X Go.X.Ms Go.Conc
def ordV:Option Od->Value
 |none=>.nilFunc
 |some .rock=>.func (.func 203) #[] #[]
 |some .foot=>.func (.func 205) #[] #[]
 |some .up=>.func (.func 207) #[] #[]
 |some .house=>.func (.func 208) #[] #[]
 |some .well=>.func (.func 209) #[] #[]
 |some .want=>.func (.func 210) #[] #[]
 |some .has=>.func (.func 212) #[] #[]
 |some .way=>.func (.func 213) #[] #[]
 |some .day=>.func (.func 217) #[] #[]
 |some .size=>.func (.func 219) #[] #[]
theorem c121(md:Md)(h:Heap)(p:PHeap)(hp:Per p h)(w:Str)(hw:w.length<=900)(n:Nat)(hn:n<=900){tT:TypeId}{zT:Nat×Nat}(Z:p 7=some (.cells (Lib.pow10Tab.map (Value.int .u64)).toArray tT zT)):
 CallsX prog md 121 #[sv w,.int .i64 ((n:Nat):Int)] h fun v h'=>v=ordV (od (w++txt n))/\Keep h h':=by
 have hl:=xf9 (n:=n) om
 refine xfq hp func121 fun _ _ _ K=>?_
 refine xlq rfl rfl (fun _ pe=>c185 md _ _ pe _ om Z) ?_
 refine ax ?_
 refine xeb rfl rfl om ?_
 refine ax ?_
 generalize w++txt (n:Int)=s at*
 refine xiq rfl (fun cc=>?_) (fun c1=>?_)
 ·refine ax ?_
  exact K.r rfl rfl fun _ H_=>⟨by rw[cc];rfl,H_.kept⟩
 refine cq (fun cc=>?_) (fun c2=>?_)
 ·refine ax ?_
  exact K.r rfl rfl fun _ H_=>⟨by rw[cc];rfl,H_.kept⟩
 refine cq (fun cc=>?_) (fun c3=>?_)
 ·refine ax ?_
  exact K.r rfl rfl fun _ H_=>⟨by rw[cc];rfl,H_.kept⟩
 refine cq (fun cc=>?_) (fun c4=>?_)
 ·refine ax ?_
  exact K.r rfl rfl fun _ H_=>⟨by rw[cc];rfl,H_.kept⟩
 refine cq (fun cc=>?_) (fun c5=>?_)
 ·refine ax ?_
  exact K.r rfl rfl fun _ H_=>⟨by rw[cc];rfl,H_.kept⟩
 refine cq (fun cc=>?_) (fun c6=>?_)
 ·refine ax ?_
  exact K.r rfl rfl fun _ H_=>⟨by rw[cc];rfl,H_.kept⟩
 refine cq (fun cc=>?_) (fun c7=>?_)
 ·refine ax ?_
  exact K.r rfl rfl fun _ H_=>⟨by rw[cc];rfl,H_.kept⟩
 refine cq (fun cc=>?_) (fun c8=>?_)
 ·refine ax ?_
  exact K.r rfl rfl fun _ H_=>⟨by rw[cc];rfl,H_.kept⟩
 refine cq (fun cc=>?_) (fun c9=>?_)
 ·refine ax ?_
  exact K.r rfl rfl fun _ H_=>⟨by rw[cc];rfl,H_.kept⟩
 refine cq (fun cc=>?_) (fun c10=>?_)
 ·refine ax ?_
  exact K.r rfl rfl fun _ H_=>⟨by rw[cc];rfl,H_.kept⟩
 refine ax ?_
 exact K.r rfl rfl fun _ H_=>⟨by
  unfold od
  rw[if_neg c1,if_neg c2,if_neg c3,if_neg c4,if_neg c5,if_neg c6,if_neg c7,if_neg c8,if_neg c9,if_neg c10];rfl,H_.kept⟩
theorem yjr(md:Md)(o:Od)(h:Heap)(p:PHeap)(hp:Per p h)(b:Nat)(A:TA)(t:Twn)(hb:h[b]?=some (.cells (tcs A t).toArray 33 (0,0)))(hnb:p b=none)(T:TwP p A t)(hn:t.fit (2^20))(a:Option Addr)(n c:Nat)(vs:List Int)(V:Ints p a n vs)(hv:n=o.ar):
 CallV prog md (ordV (some o)) [.pointer (some ⟨b,0,none⟩),.slice a n c] h (TurnR p h b (turnQ o t vs)):=by
 cases o
 ·exact xgq (first:=[]) (cap:=[]) (by kernel_rfl) (c203 md h p hp b A t hb hnb T hn a n c vs V hv)
 ·exact xgq (first:=[]) (cap:=[]) (by kernel_rfl) (c205 md h p hp b A t hb hnb T hn a n c vs V hv)
 ·exact xgq (first:=[]) (cap:=[]) (by kernel_rfl) (c207 md h p hp b A t hb hnb T hn a n c vs)
 ·exact xgq (first:=[]) (cap:=[]) (by kernel_rfl) (c208 md h p hp b A t hb hnb T hn a n c vs V hv)
 ·exact xgq (first:=[]) (cap:=[]) (by kernel_rfl) (c209 md h p hp b A t hb hnb T hn a n c vs V hv)
 ·exact xgq (first:=[]) (cap:=[]) (by kernel_rfl) (c210 md h p hp b A t hb hnb T hn a n c vs V hv)
 ·exact xgq (first:=[]) (cap:=[]) (by kernel_rfl) (c212 md h p hp b A t hb hnb T hn a n c vs V hv)
 ·exact xgq (first:=[]) (cap:=[]) (by kernel_rfl) (c213 md h p hp b A t hb hnb T hn a n c vs V hv)
 ·exact xgq (first:=[]) (cap:=[]) (by kernel_rfl) (c217 md h p hp b A t hb hnb T hn a n c vs V hv)
 ·exact xgq (first:=[]) (cap:=[]) (by kernel_rfl) (c219 md h p hp b A t hb hnb T hn a n c vs V hv)
end Go.Proofs.YtjcakmlipohaeaaGreatDoor
namespace Go.Proofs.YtjcakmlipohaeaaGreatDoor
open Go.Proofs.Tryz
open Go.X Go.X.Ms Go.Conc
open Go.X.Flow (ics LKc shortC tab64)
structure GlP(p:PHeap):Prop where
 sn:∃tN z,p 1=some (.cells #[.int .i64 (-1),.int .i64 0,.int .i64 0] tN z)
 bn:∃tN z,p 0=some (.cells #[.int .i64 (-1),.int .i64 (-1),.int .i64 0] tN z)
 db:∃tT zT,p 3=some (.cells (tab64.map fun n=>Value.int .u8 ((n:Nat):Int)).toArray tT zT)
 pw:∃tT zT,p 7=some (.cells (Lib.pow10Tab.map (Value.int .u64)).toArray tT zT)
 es:∃te ue tE zE,p 8=some (.cells #[.iface te ue] tE zE)
 er:∃te ue tE zE,p 9=some (.cells #[.iface te ue] tE zE)
theorem GlP.mono{p p':PHeap}(g:GlP p)(le:PLe p p'):GlP p':=
 ⟨g.sn.imp fun _ x=>x.imp fun _ x=>le _ _ x,g.bn.imp fun _ x=>x.imp fun _ x=>le _ _ x,g.db.imp fun _ x=>x.imp fun _ x=>le _ _ x,g.pw.imp fun _ x=>x.imp fun _ x=>le _ _ x,
  g.es.imp fun _ x=>x.imp fun _ x=>x.imp fun _ x=>x.imp fun _ x=>le _ _ x,g.er.imp fun _ x=>x.imp fun _ x=>x.imp fun _ x=>x.imp fun _ x=>le _ _ x⟩
def RsW(p:PHeap):Rs->Value->Prop
 |.num n,v=>v=.int .i64 n
 |.spn a b,v=>v=.agg #[.int .i64 a,.int .i64 b]
 |.lst l,v=>∃a c,v=.slice a l.length c/\Ints p a l.length l
theorem c187(h:Heap)(p:PHeap)(hp:Per p h)(A:TA)(t:Twn)(T:TwP p A t)(hn:t.fit 12)(g:GlP p)(a:Option Addr)(n c:Nat)(vs:List Int):
 CallsX prog (.main true) 187 #[twV A t,.slice a n c] h (LastR p h fun v p'=>∃r,v=.tuple #[r,.int .i64 (askQ .fewest t vs).2]/\RsW p' (askQ .fewest t vs).1 r):=by
 obtain⟨⟨n1,n2⟩,⟨n3,n4,n5⟩,n6⟩:=hn
 obtain⟨⟨k1,k2⟩,⟨k3,k4,k5⟩,k6⟩:=T.c
 obtain⟨_,zs,hs⟩:=g.sn
 obtain⟨tb,zb,hb⟩:=g.bn
 obtain⟨td,zd,hd⟩:=g.db
 refine xfq hp func187 fun _ _ _ K=>?_
 refine xjq rfl fun b2=>?_
 refine ax ?_
 refine xlq rfl rfl (fun _ pe=>c22 _ _ _ pe _ _ _ _ t.s T.s ⟨om,om⟩ zs hs) ?_
 refine ax ?_
 exact K.r rfl rfl fun _ H_=>(xzx H_ (.refl _ _ _) ⟨_,rfl,rfl⟩)
theorem c188(h:Heap)(p:PHeap)(hp:Per p h)(A:TA)(t:Twn)(T:TwP p A t)(hn:t.fit 12)(g:GlP p)(a:Option Addr)(n c:Nat)(vs:List Int):
 CallsX prog (.main true) 188 #[twV A t,.slice a n c] h (LastR p h fun v p'=>∃r,v=.tuple #[r,.int .i64 (askQ .cheap t vs).2]/\RsW p' (askQ .cheap t vs).1 r):=by
 obtain⟨⟨n1,n2⟩,⟨n3,n4,n5⟩,n6⟩:=hn
 obtain⟨⟨k1,k2⟩,⟨k3,k4,k5⟩,k6⟩:=T.c
 obtain⟨_,zs,hs⟩:=g.sn
 obtain⟨tb,zb,hb⟩:=g.bn
 obtain⟨td,zd,hd⟩:=g.db
 refine xfq hp func188 fun _ _ _ K=>?_
 refine xjq rfl fun b2=>?_
 refine ax ?_
 refine xlq rfl rfl (fun _ pe=>c12 _ _ _ pe _ _ _ _ t.s T.s ⟨om,om⟩ zs hs) ?_
 refine ax ?_
 exact K.r rfl rfl fun _ H_=>(xzx H_ (.refl _ _ _) ⟨_,rfl,rfl⟩)
theorem c189(h:Heap)(p:PHeap)(hp:Per p h)(A:TA)(t:Twn)(T:TwP p A t)(hn:t.fit 12)(g:GlP p)(a:Option Addr)(n c:Nat)(vs:List Int)(V:Ints p a n vs)(hv:n=1):
 CallsX prog (.main true) 189 #[twV A t,.slice a n c] h (LastR p h fun v p'=>∃r,v=.tuple #[r,.int .i64 (askQ .deep t vs).2]/\RsW p' (askQ .deep t vs).1 r):=by
 obtain⟨⟨n1,n2⟩,⟨n3,n4,n5⟩,n6⟩:=hn
 obtain⟨⟨k1,k2⟩,⟨k3,k4,k5⟩,k6⟩:=T.c
 obtain⟨_,zs,hs⟩:=g.sn
 obtain⟨tb,zb,hb⟩:=g.bn
 obtain⟨td,zd,hd⟩:=g.db
 refine xfq hp func189 fun _ _ _ K=>?_
 refine xjq rfl fun b2=>?_
 refine ax ?_
 refine xjx [] R8 ?_
 refine ex ?_
 refine xiz rfl rfl rfl (fun _ pe=>c23 _ _ _ pe _ _ _ _ t.s T.s ⟨om,om⟩ k2 zs hs (vs.getD 0 0)) ?_
 refine ex ?_
 refine ax ?_
 exact K.r rfl rfl fun _ H_=>(xzx H_ (.refl _ _ _) ⟨_,rfl,rfl⟩)
theorem c190(h:Heap)(p:PHeap)(hp:Per p h)(A:TA)(t:Twn)(T:TwP p A t)(hn:t.fit 12)(g:GlP p)(a:Option Addr)(n c:Nat)(vs:List Int)(V:Ints p a n vs)(hv:n=1):
 CallsX prog (.main true) 190 #[twV A t,.slice a n c] h (LastR p h fun v p'=>∃r,v=.tuple #[r,.int .i64 (askQ .next t vs).2]/\RsW p' (askQ .next t vs).1 r):=by
 obtain⟨⟨n1,n2⟩,⟨n3,n4,n5⟩,n6⟩:=hn
 obtain⟨⟨k1,k2⟩,⟨k3,k4,k5⟩,k6⟩:=T.c
 obtain⟨_,zs,hs⟩:=g.sn
 obtain⟨tb,zb,hb⟩:=g.bn
 obtain⟨td,zd,hd⟩:=g.db
 refine xfq hp func190 fun _ _ _ K=>?_
 refine xjq rfl fun b2=>?_
 refine ax ?_
 refine xjx [] R8 ?_
 refine ex ?_
 refine xiz rfl rfl rfl (fun _ pe=>c24 _ _ _ pe _ _ _ _ t.s T.s ⟨om,om⟩ k2 zs hs (vs.getD 0 0)) ?_
 refine ex ?_
 refine ax ?_
 exact K.r rfl rfl fun _ H_=>(xzx H_ (.refl _ _ _) ⟨_,rfl,rfl⟩)
theorem c191(h:Heap)(p:PHeap)(hp:Per p h)(A:TA)(t:Twn)(T:TwP p A t)(hn:t.fit 12)(g:GlP p)(a:Option Addr)(n c:Nat)(vs:List Int):
 CallsX prog (.main true) 191 #[twV A t,.slice a n c] h (LastR p h fun v p'=>∃r,v=.tuple #[r,.int .i64 (askQ .most t vs).2]/\RsW p' (askQ .most t vs).1 r):=by
 obtain⟨⟨n1,n2⟩,⟨n3,n4,n5⟩,n6⟩:=hn
 obtain⟨⟨k1,k2⟩,⟨k3,k4,k5⟩,k6⟩:=T.c
 obtain⟨_,zs,hs⟩:=g.sn
 obtain⟨tb,zb,hb⟩:=g.bn
 obtain⟨td,zd,hd⟩:=g.db
 refine xfq hp func191 fun _ _ _ K=>?_
 refine xjq rfl fun b2=>?_
 refine ax ?_
 refine xlq rfl rfl (fun _ pe=>c13 _ pe _ _ _ _ _ _ t.b T.b ⟨om,om,om⟩ hb) ?_
 refine ax ?_
 exact K.r rfl rfl fun _ H_=>(xzx H_ (.refl _ _ _) ⟨_,rfl,rfl⟩)
theorem c193(h:Heap)(p:PHeap)(hp:Per p h)(A:TA)(t:Twn)(T:TwP p A t)(hn:t.fit 12)(g:GlP p)(a:Option Addr)(n c:Nat)(vs:List Int):
 CallsX prog (.main true) 193 #[twV A t,.slice a n c] h (LastR p h fun v p'=>∃r,v=.tuple #[r,.int .i64 (askQ .lacks t vs).2]/\RsW p' (askQ .lacks t vs).1 r):=by
 obtain⟨⟨n1,n2⟩,⟨n3,n4,n5⟩,n6⟩:=hn
 obtain⟨⟨k1,k2⟩,⟨k3,k4,k5⟩,k6⟩:=T.c
 obtain⟨_,zs,hs⟩:=g.sn
 obtain⟨tb,zb,hb⟩:=g.bn
 obtain⟨td,zd,hd⟩:=g.db
 refine xfq hp func193 fun _ _ _ K=>?_
 refine xjq rfl fun b2=>?_
 refine ax ?_
 refine xck rfl rfl (fun _ pe=>c26 _ pe _ _ _ _ _ _ t.b T.b ⟨om,om,om⟩ hb) ?_
 rintro _ Y ⟨w,rfl,o⟩
 obtain⟨a1,c1,rfl,-⟩:=o.val
 rw[xnx]at o⊢
 refine ax ?_
 refine xtx o (xnx _) (by decide) fun p' _ _ g' e hc S=>?_
 cases e
 exact K.r rfl rfl fun _ H_=>(xzx H_ g' ⟨_,rfl,a1,c1,rfl,S⟩)
theorem c195(h:Heap)(p:PHeap)(hp:Per p h)(A:TA)(t:Twn)(T:TwP p A t)(hn:t.fit 12)(g:GlP p)(a:Option Addr)(n c:Nat)(vs:List Int)(V:Ints p a n vs)(hv:n=1):
 CallsX prog (.main true) 195 #[twV A t,.slice a n c] h (LastR p h fun v p'=>∃r,v=.tuple #[r,.int .i64 (askQ .draws t vs).2]/\RsW p' (askQ .draws t vs).1 r):=by
 obtain⟨⟨n1,n2⟩,⟨n3,n4,n5⟩,n6⟩:=hn
 obtain⟨⟨k1,k2⟩,⟨k3,k4,k5⟩,k6⟩:=T.c
 obtain⟨_,zs,hs⟩:=g.sn
 obtain⟨tb,zb,hb⟩:=g.bn
 obtain⟨td,zd,hd⟩:=g.db
 refine xfq hp func195 fun _ _ _ K=>?_
 refine xjq rfl fun b2=>?_
 refine lq fun b4=>?_
 refine ax ?_
 refine xjx [] R8 ?_
 refine ex ?_
 refine xiz rfl rfl rfl (fun _ pe=>c28 _ pe _ _ _ _ _ _ t.b T.b ⟨om,om,om⟩ (vs.getD 0 0)) ?_
 refine ex ?_
 refine ax ?_
 exact K.e rfl (xqx rfl (.tmp rfl .nil)) fun _ H_=>(xzx H_ (.refl _ _ _) ⟨_,rfl,rfl⟩)
theorem c196(h:Heap)(p:PHeap)(hp:Per p h)(A:TA)(t:Twn)(T:TwP p A t)(hn:t.fit 12)(g:GlP p)(a:Option Addr)(n c:Nat)(vs:List Int)(V:Ints p a n vs)(hv:n=1):
 CallsX prog (.main true) 196 #[twV A t,.slice a n c] h (LastR p h fun v p'=>∃r,v=.tuple #[r,.int .i64 (askQ .dry t vs).2]/\RsW p' (askQ .dry t vs).1 r):=by
 obtain⟨⟨n1,n2⟩,⟨n3,n4,n5⟩,n6⟩:=hn
 obtain⟨⟨k1,k2⟩,⟨k3,k4,k5⟩,k6⟩:=T.c
 obtain⟨_,zs,hs⟩:=g.sn
 obtain⟨tb,zb,hb⟩:=g.bn
 obtain⟨td,zd,hd⟩:=g.db
 refine xfq hp func196 fun _ _ _ K=>?_
 refine xjq rfl fun b2=>?_
 refine ax ?_
 refine xjx [] R8 ?_
 refine ex ?_
 refine xiz rfl rfl rfl (fun _ pe=>c29 _ pe _ _ _ _ _ _ t.b T.b ⟨om,om,om⟩ (vs.getD 0 0)) ?_
 refine ex ?_
 refine ax ?_
 exact K.r rfl rfl fun _ H_=>(xzx H_ (.refl _ _ _) ⟨_,rfl,rfl⟩)
theorem c197(h:Heap)(p:PHeap)(hp:Per p h)(A:TA)(t:Twn)(T:TwP p A t)(hn:t.fit 12)(g:GlP p)(a:Option Addr)(n c:Nat)(vs:List Int):
 CallsX prog (.main true) 197 #[twV A t,.slice a n c] h (LastR p h fun v p'=>∃r,v=.tuple #[r,.int .i64 (askQ .short t vs).2]/\RsW p' (askQ .short t vs).1 r):=by
 obtain⟨⟨n1,n2⟩,⟨n3,n4,n5⟩,n6⟩:=hn
 obtain⟨⟨k1,k2⟩,⟨k3,k4,k5⟩,k6⟩:=T.c
 obtain⟨_,zs,hs⟩:=g.sn
 obtain⟨tb,zb,hb⟩:=g.bn
 obtain⟨td,zd,hd⟩:=g.db
 refine xfq hp func197 fun _ _ _ K=>?_
 refine xjq rfl fun b2=>?_
 refine ax ?_
 refine xck rfl rfl (fun _ pe=>c30 _ pe _ _ _ _ _ _ t.b T.b ⟨om,om,om⟩ hd) ?_
 rintro _ Y ⟨w,rfl,o⟩
 obtain⟨a1,c1,rfl,-⟩:=o.val
 rw[xnx]at o⊢
 refine ax ?_
 refine xtx o (xnx _) (by decide) fun p' _ _ g' e hc S=>?_
 cases e
 exact K.r rfl rfl fun _ H_=>(xzx H_ g' ⟨_,rfl,a1,c1,rfl,S⟩)
theorem c198(h:Heap)(p:PHeap)(hp:Per p h)(A:TA)(t:Twn)(T:TwP p A t)(hn:t.fit 12)(g:GlP p)(a:Option Addr)(n c:Nat)(vs:List Int):
 CallsX prog (.main true) 198 #[twV A t,.slice a n c] h (LastR p h fun v p'=>∃r,v=.tuple #[r,.int .i64 (askQ .empty t vs).2]/\RsW p' (askQ .empty t vs).1 r):=by
 obtain⟨⟨n1,n2⟩,⟨n3,n4,n5⟩,n6⟩:=hn
 obtain⟨⟨k1,k2⟩,⟨k3,k4,k5⟩,k6⟩:=T.c
 obtain⟨_,zs,hs⟩:=g.sn
 obtain⟨tb,zb,hb⟩:=g.bn
 obtain⟨td,zd,hd⟩:=g.db
 refine xfq hp func198 fun _ _ _ K=>?_
 refine xjq rfl fun b2=>?_
 refine ax ?_
 refine xlq rfl rfl (fun _ pe=>c31 _ _ pe _ _ _ _ _ _ T.d om) ?_
 refine ax ?_
 exact K.r rfl rfl fun _ H_=>(xzx H_ (.refl _ _ _) ⟨_,rfl,rfl⟩)
theorem c199(h:Heap)(p:PHeap)(hp:Per p h)(A:TA)(t:Twn)(T:TwP p A t)(hn:t.fit 12)(g:GlP p)(a:Option Addr)(n c:Nat)(vs:List Int):
 CallsX prog (.main true) 199 #[twV A t,.slice a n c] h (LastR p h fun v p'=>∃r,v=.tuple #[r,.int .i64 (askQ .least t vs).2]/\RsW p' (askQ .least t vs).1 r):=by
 obtain⟨⟨n1,n2⟩,⟨n3,n4,n5⟩,n6⟩:=hn
 obtain⟨⟨k1,k2⟩,⟨k3,k4,k5⟩,k6⟩:=T.c
 obtain⟨_,zs,hs⟩:=g.sn
 obtain⟨tb,zb,hb⟩:=g.bn
 obtain⟨td,zd,hd⟩:=g.db
 refine xfq hp func199 fun _ _ _ K=>?_
 refine xjq rfl fun b2=>?_
 refine ax ?_
 refine xlq rfl rfl (fun _ pe=>c14 _ _ _ pe _ _ _ _ _ _ T.d om) ?_
 refine ax ?_
 exact K.r rfl rfl fun _ H_=>(xzx H_ (.refl _ _ _) ⟨_,rfl,rfl⟩)
theorem c200(h:Heap)(p:PHeap)(hp:Per p h)(A:TA)(t:Twn)(T:TwP p A t)(hn:t.fit 12)(g:GlP p)(a:Option Addr)(n c:Nat)(vs:List Int):
 CallsX prog (.main true) 200 #[twV A t,.slice a n c] h (LastR p h fun v p'=>∃r,v=.tuple #[r,.int .i64 (askQ .ration t vs).2]/\RsW p' (askQ .ration t vs).1 r):=by
 obtain⟨⟨n1,n2⟩,⟨n3,n4,n5⟩,n6⟩:=hn
 obtain⟨⟨k1,k2⟩,⟨k3,k4,k5⟩,k6⟩:=T.c
 obtain⟨_,zs,hs⟩:=g.sn
 obtain⟨tb,zb,hb⟩:=g.bn
 obtain⟨td,zd,hd⟩:=g.db
 refine xfq hp func200 fun _ _ _ K=>?_
 refine xjq rfl fun b2=>?_
 refine ax ?_
 refine xlq rfl rfl (fun _ pe=>c32 _ _ _ pe _ _ _ _ _ _ T.d om) ?_
 refine ax ?_
 exact K.r rfl rfl fun _ H_=>(xzx H_ (.refl _ _ _) ⟨_,rfl,rfl⟩)
theorem c201(h:Heap)(p:PHeap)(hp:Per p h)(A:TA)(t:Twn)(T:TwP p A t)(hn:t.fit 12)(g:GlP p)(a:Option Addr)(n c:Nat)(vs:List Int)(V:Ints p a n vs)(hv:n=1):
 CallsX prog (.main true) 201 #[twV A t,.slice a n c] h (LastR p h fun v p'=>∃r,v=.tuple #[r,.int .i64 (askQ .spare t vs).2]/\RsW p' (askQ .spare t vs).1 r):=by
 obtain⟨⟨n1,n2⟩,⟨n3,n4,n5⟩,n6⟩:=hn
 obtain⟨⟨k1,k2⟩,⟨k3,k4,k5⟩,k6⟩:=T.c
 obtain⟨_,zs,hs⟩:=g.sn
 obtain⟨tb,zb,hb⟩:=g.bn
 obtain⟨td,zd,hd⟩:=g.db
 refine xfq hp func201 fun _ _ _ K=>?_
 refine xjq rfl fun b2=>?_
 refine ax ?_
 refine xjx [] R8 ?_
 refine ex ?_
 refine xiz rfl rfl rfl (fun _ pe=>c33 _ _ _ pe _ _ _ _ _ _ T.d om (vs.getD 0 0)) ?_
 refine ex ?_
 refine ax ?_
 exact K.r rfl rfl fun _ H_=>(xzx H_ (.refl _ _ _) ⟨_,rfl,rfl⟩)
theorem c202(h:Heap)(p:PHeap)(hp:Per p h)(A:TA)(t:Twn)(T:TwP p A t)(hn:t.fit 12)(g:GlP p)(a:Option Addr)(n c:Nat)(vs:List Int)(V:Ints p a n vs)(hv:n=1):
 CallsX prog (.main true) 202 #[twV A t,.slice a n c] h (LastR p h fun v p'=>∃r,v=.tuple #[r,.int .i64 (askQ .level t vs).2]/\RsW p' (askQ .level t vs).1 r):=by
 obtain⟨⟨n1,n2⟩,⟨n3,n4,n5⟩,n6⟩:=hn
 obtain⟨⟨k1,k2⟩,⟨k3,k4,k5⟩,k6⟩:=T.c
 obtain⟨_,zs,hs⟩:=g.sn
 obtain⟨tb,zb,hb⟩:=g.bn
 obtain⟨td,zd,hd⟩:=g.db
 refine xfq hp func202 fun _ _ _ K=>?_
 refine xjq rfl fun b2=>?_
 refine lq fun b4=>?_
 refine ax ?_
 refine xjx [] R8 ?_
 refine ex ?_
 refine xiz rfl rfl rfl (fun _ pe=>c34 _ _ pe _ _ _ _ _ _ T.d om (vs.getD 0 0)) ?_
 refine ex ?_
 refine ax ?_
 exact K.e rfl (xqx rfl (.tmp rfl .nil)) fun _ H_=>(xzx H_ (.refl _ _ _) ⟨_,rfl,rfl⟩)
end Go.Proofs.YtjcakmlipohaeaaGreatDoor
namespace Go.Proofs.YtjcakmlipohaeaaGreatDoor
open Go.Proofs.Tryz
open Go.X Go.X.Ms Go.Conc
def wrapF:Qn->FuncId
 |.fewest=>282
 |.cheap=>282
 |.deep=>282
 |.next=>282
 |.most=>282
 |.lacks=>283
 |.draws=>284
 |.dry=>282
 |.short=>283
 |.empty=>282
 |.least=>282
 |.ration=>282
 |.spare=>282
 |.level=>284
def inF:Qn->FuncId
 |.fewest=>187
 |.cheap=>188
 |.deep=>189
 |.next=>190
 |.most=>191
 |.lacks=>193
 |.draws=>195
 |.dry=>196
 |.short=>197
 |.empty=>198
 |.least=>199
 |.ration=>200
 |.spare=>201
 |.level=>202
def AskV(q:Qn)(v:Value)(p:PHeap):Prop:=∃b T z,v=.func (.func (wrapF q)) #[] #[.pointer (some ⟨b,0,none⟩)]/\p b=some (.cells #[.func (.func (inF q)) #[] #[]] T z)
theorem AskV.mono{q:Qn}{v:Value}{p p':PHeap}(x:AskV q v p)(le:PLe p p'):AskV q v p':=by
 obtain⟨b,T,z,e,hb⟩:=x
 exact⟨b,T,z,e,le _ _ hb⟩
def RsV(p:PHeap):Rs->Value->Prop
 |.num n,v=>v=.iface 265 (.int .i64 n)
 |.spn a b,v=>v=.iface 313 (.agg #[.int .i64 a,.int .i64 b])
 |.lst l,v=>∃a c,v=.iface 312 (.slice a l.length c)/\Ints p a l.length l
theorem c186(md:Md)(h:Heap)(p:PHeap)(hp:Per p h)(f:FuncId):
 CallsX prog md 186 #[.func (.func f) #[] #[]] h (LastR p h fun v p'=>∃b T z,v=.func (.func 282) #[] #[.pointer (some ⟨b,0,none⟩)]/\p' b=some (.cells #[.func (.func f) #[] #[]] T z)):=by
 refine xfq hp func186 fun _ _ _ K=>?_
 refine xjq rfl fun b1=>?_
 refine ax ?_
 refine xg2 (b:=b1) fun p1 g1 hb1=>?_
 exact K.r rfl rfl fun _ H_=>(xzx H_ g1 ⟨b1,_,_,rfl,hb1⟩)
theorem c282(h:Heap)(p:PHeap)(hp:Per p h)(A:TA)(t:Twn)(a:Option Addr)(n c:Nat)(b:Nat)(f:FuncId){tB:TypeId}{zB:Nat×Nat}(hb:p b=some (.cells #[.func (.func f) #[] #[]] tB zB))(R:Rs×Int)(hR:∃x e,R=(.num x,e))
 (hf:∀h,Per p h->CallV prog (.main true) (.func (.func f) #[] #[]) [twV A t,.slice a n c] h (LastR p h fun v p'=>∃r,v=.tuple #[r,.int .i64 R.2]/\RsW p' R.1 r)):
 CallsX prog (.main true) 282 #[twV A t,.slice a n c,.pointer (some ⟨b,0,none⟩)] h (LastR p h fun v p'=>∃r,v=.tuple #[r,.int .i64 R.2]/\RsV p' R.1 r):=by
 refine xfq hp func282 fun _ _ _ K=>?_
 refine xjq rfl fun b3=>?_
 refine ax ?_
 refine xj4 rfl rfl (fun h pe=>hf h pe) ?_
 obtain⟨x,e,rfl⟩:=hR
 rintro _ p1 g1 ⟨r,rfl,hr⟩
 cases hr
 refine ax ?_
 refine xib rfl rfl trivial underlying265 ?_
 refine ax ?_
 exact K.r rfl rfl fun _ H_=>(xzx H_ g1 ⟨_,rfl,rfl⟩)
theorem c194(md:Md)(h:Heap)(p:PHeap)(hp:Per p h)(f:FuncId):
 CallsX prog md 194 #[.func (.func f) #[] #[]] h (LastR p h fun v p'=>∃b T z,v=.func (.func 284) #[] #[.pointer (some ⟨b,0,none⟩)]/\p' b=some (.cells #[.func (.func f) #[] #[]] T z)):=by
 refine xfq hp func194 fun _ _ _ K=>?_
 refine xjq rfl fun b1=>?_
 refine ax ?_
 refine xg2 (b:=b1) fun p1 g1 hb1=>?_
 exact K.r rfl rfl fun _ H_=>(xzx H_ g1 ⟨b1,_,_,rfl,hb1⟩)
theorem c284(h:Heap)(p:PHeap)(hp:Per p h)(A:TA)(t:Twn)(a:Option Addr)(n c:Nat)(b:Nat)(f:FuncId){tB:TypeId}{zB:Nat×Nat}(hb:p b=some (.cells #[.func (.func f) #[] #[]] tB zB))(R:Rs×Int)(hR:∃x y e,R=(.spn x y,e))
 (hf:∀h,Per p h->CallV prog (.main true) (.func (.func f) #[] #[]) [twV A t,.slice a n c] h (LastR p h fun v p'=>∃r,v=.tuple #[r,.int .i64 R.2]/\RsW p' R.1 r)):
 CallsX prog (.main true) 284 #[twV A t,.slice a n c,.pointer (some ⟨b,0,none⟩)] h (LastR p h fun v p'=>∃r,v=.tuple #[r,.int .i64 R.2]/\RsV p' R.1 r):=by
 refine xfq hp func284 fun _ _ _ K=>?_
 refine xjq rfl fun b3=>?_
 refine ax ?_
 refine xj4 rfl rfl (fun h pe=>hf h pe) ?_
 obtain⟨x,y,e,rfl⟩:=hR
 rintro _ p1 g1 ⟨r,rfl,hr⟩
 cases hr
 refine lq fun b7=>?_
 refine ax ?_
 refine xib rfl rfl trivial underlying313 ?_
 refine ax ?_
 exact K.r rfl rfl fun _ H_=>(xzx H_ g1 ⟨_,rfl,rfl⟩)
theorem c192(md:Md)(h:Heap)(p:PHeap)(hp:Per p h)(f:FuncId):
 CallsX prog md 192 #[.func (.func f) #[] #[]] h (LastR p h fun v p'=>∃b T z,v=.func (.func 283) #[] #[.pointer (some ⟨b,0,none⟩)]/\p' b=some (.cells #[.func (.func f) #[] #[]] T z)):=by
 refine xfq hp func192 fun _ _ _ K=>?_
 refine xjq rfl fun b1=>?_
 refine ax ?_
 refine xg2 (b:=b1) fun p1 g1 hb1=>?_
 exact K.r rfl rfl fun _ H_=>(xzx H_ g1 ⟨b1,_,_,rfl,hb1⟩)
theorem c283(h:Heap)(p:PHeap)(hp:Per p h)(A:TA)(t:Twn)(a:Option Addr)(n c:Nat)(b:Nat)(f:FuncId){tB:TypeId}{zB:Nat×Nat}(hb:p b=some (.cells #[.func (.func f) #[] #[]] tB zB))(R:Rs×Int)(hR:∃l e,R=(.lst l,e))
 (hf:∀h,Per p h->CallV prog (.main true) (.func (.func f) #[] #[]) [twV A t,.slice a n c] h (LastR p h fun v p'=>∃r,v=.tuple #[r,.int .i64 R.2]/\RsW p' R.1 r)):
 CallsX prog (.main true) 283 #[twV A t,.slice a n c,.pointer (some ⟨b,0,none⟩)] h (LastR p h fun v p'=>∃r,v=.tuple #[r,.int .i64 R.2]/\RsV p' R.1 r):=by
 refine xfq hp func283 fun _ _ _ K=>?_
 refine xjq rfl fun b3=>?_
 refine ax ?_
 refine xj4 rfl rfl (fun h pe=>hf h pe) ?_
 obtain⟨l,e,rfl⟩:=hR
 rintro _ p1 g1 ⟨r,rfl,a1,c1,hr,I⟩
 cases hr
 refine ax ?_
 refine xib rfl rfl trivial underlying312 ?_
 refine ax ?_
 exact K.r rfl rfl fun _ H_=>(xzx H_ g1 ⟨_,rfl,a1,c1,rfl,I⟩)
theorem xvp(q:Qn)(v:Value)(h:Heap)(p:PHeap)(hp:Per p h)(x:AskV q v p)(A:TA)(t:Twn)(T:TwP p A t)(hn:t.fit 12)(g:GlP p)(a:Option Addr)(n c:Nat)(vs:List Int)(V:Ints p a n vs)(hv:n=q.ar):
 CallV prog (.main true) v [twV A t,.slice a n c] h (LastR p h fun v p'=>∃r,v=.tuple #[r,.int .i64 (askQ q t vs).2]/\RsV p' (askQ q t vs).1 r):=by
 obtain⟨b,tB,zB,rfl,hb⟩:=x
 cases q
 ·exact xgq (first:=[]) (cap:=[.pointer (some ⟨b,0,none⟩)]) (by kernel_rfl) (c282 h p hp A t a n c b _ hb (askQ .fewest t vs) ⟨_,_,rfl⟩ fun h pe=>xgq (first:=[]) (cap:=[]) (by kernel_rfl) (c187 h p pe A t T hn g a n c vs))
 ·exact xgq (first:=[]) (cap:=[.pointer (some ⟨b,0,none⟩)]) (by kernel_rfl) (c282 h p hp A t a n c b _ hb (askQ .cheap t vs) ⟨_,_,rfl⟩ fun h pe=>xgq (first:=[]) (cap:=[]) (by kernel_rfl) (c188 h p pe A t T hn g a n c vs))
 ·exact xgq (first:=[]) (cap:=[.pointer (some ⟨b,0,none⟩)]) (by kernel_rfl) (c282 h p hp A t a n c b _ hb (askQ .deep t vs) ⟨_,_,rfl⟩ fun h pe=>xgq (first:=[]) (cap:=[]) (by kernel_rfl) (c189 h p pe A t T hn g a n c vs V hv))
 ·exact xgq (first:=[]) (cap:=[.pointer (some ⟨b,0,none⟩)]) (by kernel_rfl) (c282 h p hp A t a n c b _ hb (askQ .next t vs) ⟨_,_,rfl⟩ fun h pe=>xgq (first:=[]) (cap:=[]) (by kernel_rfl) (c190 h p pe A t T hn g a n c vs V hv))
 ·exact xgq (first:=[]) (cap:=[.pointer (some ⟨b,0,none⟩)]) (by kernel_rfl) (c282 h p hp A t a n c b _ hb (askQ .most t vs) ⟨_,_,rfl⟩ fun h pe=>xgq (first:=[]) (cap:=[]) (by kernel_rfl) (c191 h p pe A t T hn g a n c vs))
 ·exact xgq (first:=[]) (cap:=[.pointer (some ⟨b,0,none⟩)]) (by kernel_rfl) (c283 h p hp A t a n c b _ hb (askQ .lacks t vs) ⟨_,_,rfl⟩ fun h pe=>xgq (first:=[]) (cap:=[]) (by kernel_rfl) (c193 h p pe A t T hn g a n c vs))
 ·exact xgq (first:=[]) (cap:=[.pointer (some ⟨b,0,none⟩)]) (by kernel_rfl) (c284 h p hp A t a n c b _ hb (askQ .draws t vs) ⟨_,_,_,rfl⟩ fun h pe=>xgq (first:=[]) (cap:=[]) (by kernel_rfl) (c195 h p pe A t T hn g a n c vs V hv))
 ·exact xgq (first:=[]) (cap:=[.pointer (some ⟨b,0,none⟩)]) (by kernel_rfl) (c282 h p hp A t a n c b _ hb (askQ .dry t vs) ⟨_,_,rfl⟩ fun h pe=>xgq (first:=[]) (cap:=[]) (by kernel_rfl) (c196 h p pe A t T hn g a n c vs V hv))
 ·exact xgq (first:=[]) (cap:=[.pointer (some ⟨b,0,none⟩)]) (by kernel_rfl) (c283 h p hp A t a n c b _ hb (askQ .short t vs) ⟨_,_,rfl⟩ fun h pe=>xgq (first:=[]) (cap:=[]) (by kernel_rfl) (c197 h p pe A t T hn g a n c vs))
 ·exact xgq (first:=[]) (cap:=[.pointer (some ⟨b,0,none⟩)]) (by kernel_rfl) (c282 h p hp A t a n c b _ hb (askQ .empty t vs) ⟨_,_,rfl⟩ fun h pe=>xgq (first:=[]) (cap:=[]) (by kernel_rfl) (c198 h p pe A t T hn g a n c vs))
 ·exact xgq (first:=[]) (cap:=[.pointer (some ⟨b,0,none⟩)]) (by kernel_rfl) (c282 h p hp A t a n c b _ hb (askQ .least t vs) ⟨_,_,rfl⟩ fun h pe=>xgq (first:=[]) (cap:=[]) (by kernel_rfl) (c199 h p pe A t T hn g a n c vs))
 ·exact xgq (first:=[]) (cap:=[.pointer (some ⟨b,0,none⟩)]) (by kernel_rfl) (c282 h p hp A t a n c b _ hb (askQ .ration t vs) ⟨_,_,rfl⟩ fun h pe=>xgq (first:=[]) (cap:=[]) (by kernel_rfl) (c200 h p pe A t T hn g a n c vs))
 ·exact xgq (first:=[]) (cap:=[.pointer (some ⟨b,0,none⟩)]) (by kernel_rfl) (c282 h p hp A t a n c b _ hb (askQ .spare t vs) ⟨_,_,rfl⟩ fun h pe=>xgq (first:=[]) (cap:=[]) (by kernel_rfl) (c201 h p pe A t T hn g a n c vs V hv))
 ·exact xgq (first:=[]) (cap:=[.pointer (some ⟨b,0,none⟩)]) (by kernel_rfl) (c284 h p hp A t a n c b _ hb (askQ .level t vs) ⟨_,_,_,rfl⟩ fun h pe=>xgq (first:=[]) (cap:=[]) (by kernel_rfl) (c202 h p pe A t T hn g a n c vs V hv))
theorem c120(md:Md)(h:Heap)(p:PHeap)(hp:Per p h)(w:Str)(hw:w.length<=900)(n:Nat)(hn:n<=900){tT:TypeId}{zT:Nat×Nat}(Z:p 7=some (.cells (Lib.pow10Tab.map (Value.int .u64)).toArray tT zT)):
 CallsX prog md 120 #[sv w,.int .i64 ((n:Nat):Int)] h (LastR p h fun v p'=>match qn (w++txt n)with
  |none=>v=.nilFunc
  |some q=>AskV q v p'):=by
 have hl:=xf9 (n:=n) om
 refine xfq hp func120 fun _ _ _ K=>?_
 refine xlq rfl rfl (fun _ pe=>c185 md _ _ pe _ om Z) ?_
 refine ax ?_
 refine xeb rfl rfl om ?_
 refine ax ?_
 generalize w++txt (n:Int)=s at*
 refine xiq rfl (fun cc=>?_) (fun c0=>?_)
 ·refine ax ?_
  refine xrz rfl rfl (fun _ pe=>c186 md _ _ pe _) ?_
  rintro _ p1 g1 ⟨b,T,z,rfl,hb⟩
  refine ax ?_
  exact K.r rfl rfl fun _ H_=>(xzx H_ g1 (by rw[cc];exact⟨b,T,z,rfl,hb⟩))
 refine cq (fun cc=>?_) (fun c1=>?_)
 ·refine ax ?_
  refine xrz rfl rfl (fun _ pe=>c186 md _ _ pe _) ?_
  rintro _ p1 g1 ⟨b,T,z,rfl,hb⟩
  refine ax ?_
  exact K.r rfl rfl fun _ H_=>(xzx H_ g1 (by rw[cc];exact⟨b,T,z,rfl,hb⟩))
 refine cq (fun cc=>?_) (fun c2=>?_)
 ·refine ax ?_
  refine xrz rfl rfl (fun _ pe=>c186 md _ _ pe _) ?_
  rintro _ p1 g1 ⟨b,T,z,rfl,hb⟩
  refine ax ?_
  exact K.r rfl rfl fun _ H_=>(xzx H_ g1 (by rw[cc];exact⟨b,T,z,rfl,hb⟩))
 refine cq (fun cc=>?_) (fun c3=>?_)
 ·refine ax ?_
  refine xrz rfl rfl (fun _ pe=>c186 md _ _ pe _) ?_
  rintro _ p1 g1 ⟨b,T,z,rfl,hb⟩
  refine ax ?_
  exact K.r rfl rfl fun _ H_=>(xzx H_ g1 (by rw[cc];exact⟨b,T,z,rfl,hb⟩))
 refine cq (fun cc=>?_) (fun c4=>?_)
 ·refine ax ?_
  refine xrz rfl rfl (fun _ pe=>c186 md _ _ pe _) ?_
  rintro _ p1 g1 ⟨b,T,z,rfl,hb⟩
  refine ax ?_
  exact K.r rfl rfl fun _ H_=>(xzx H_ g1 (by rw[cc];exact⟨b,T,z,rfl,hb⟩))
 refine cq (fun cc=>?_) (fun c5=>?_)
 ·refine ax ?_
  refine xrz rfl rfl (fun _ pe=>c192 md _ _ pe _) ?_
  rintro _ p1 g1 ⟨b,T,z,rfl,hb⟩
  refine ax ?_
  exact K.r rfl rfl fun _ H_=>(xzx H_ g1 (by rw[cc];exact⟨b,T,z,rfl,hb⟩))
 refine cq (fun cc=>?_) (fun c6=>?_)
 ·refine ax ?_
  refine xrz rfl rfl (fun _ pe=>c194 md _ _ pe _) ?_
  rintro _ p1 g1 ⟨b,T,z,rfl,hb⟩
  refine ax ?_
  exact K.r rfl rfl fun _ H_=>(xzx H_ g1 (by rw[cc];exact⟨b,T,z,rfl,hb⟩))
 refine cq (fun cc=>?_) (fun c7=>?_)
 ·refine ax ?_
  refine xrz rfl rfl (fun _ pe=>c186 md _ _ pe _) ?_
  rintro _ p1 g1 ⟨b,T,z,rfl,hb⟩
  refine ax ?_
  exact K.r rfl rfl fun _ H_=>(xzx H_ g1 (by rw[cc];exact⟨b,T,z,rfl,hb⟩))
 refine cq (fun cc=>?_) (fun c8=>?_)
 ·refine ax ?_
  refine xrz rfl rfl (fun _ pe=>c192 md _ _ pe _) ?_
  rintro _ p1 g1 ⟨b,T,z,rfl,hb⟩
  refine ax ?_
  exact K.r rfl rfl fun _ H_=>(xzx H_ g1 (by rw[cc];exact⟨b,T,z,rfl,hb⟩))
 refine cq (fun cc=>?_) (fun c9=>?_)
 ·refine ax ?_
  refine xrz rfl rfl (fun _ pe=>c186 md _ _ pe _) ?_
  rintro _ p1 g1 ⟨b,T,z,rfl,hb⟩
  refine ax ?_
  exact K.r rfl rfl fun _ H_=>(xzx H_ g1 (by rw[cc];exact⟨b,T,z,rfl,hb⟩))
 refine cq (fun cc=>?_) (fun c10=>?_)
 ·refine ax ?_
  refine xrz rfl rfl (fun _ pe=>c186 md _ _ pe _) ?_
  rintro _ p1 g1 ⟨b,T,z,rfl,hb⟩
  refine ax ?_
  exact K.r rfl rfl fun _ H_=>(xzx H_ g1 (by rw[cc];exact⟨b,T,z,rfl,hb⟩))
 refine cq (fun cc=>?_) (fun c11=>?_)
 ·refine ax ?_
  refine xrz rfl rfl (fun _ pe=>c186 md _ _ pe _) ?_
  rintro _ p1 g1 ⟨b,T,z,rfl,hb⟩
  refine ax ?_
  exact K.r rfl rfl fun _ H_=>(xzx H_ g1 (by rw[cc];exact⟨b,T,z,rfl,hb⟩))
 refine cq (fun cc=>?_) (fun c12=>?_)
 ·refine ax ?_
  refine xrz rfl rfl (fun _ pe=>c186 md _ _ pe _) ?_
  rintro _ p1 g1 ⟨b,T,z,rfl,hb⟩
  refine ax ?_
  exact K.r rfl rfl fun _ H_=>(xzx H_ g1 (by rw[cc];exact⟨b,T,z,rfl,hb⟩))
 refine cq (fun cc=>?_) (fun c13=>?_)
 ·refine ax ?_
  refine xrz rfl rfl (fun _ pe=>c194 md _ _ pe _) ?_
  rintro _ p1 g1 ⟨b,T,z,rfl,hb⟩
  refine ax ?_
  exact K.r rfl rfl fun _ H_=>(xzx H_ g1 (by rw[cc];exact⟨b,T,z,rfl,hb⟩))
 refine ax ?_
 exact K.r rfl rfl fun _ H_=>(xzx H_ (.refl _ _ _) (by
  unfold qn
  rw[if_neg c0,if_neg c1,if_neg c2,if_neg c3,if_neg c4,if_neg c5,if_neg c6,if_neg c7,if_neg c8,if_neg c9,if_neg c10,if_neg c11,if_neg c12,if_neg c13];rfl))
def BldB(b:Nat)(l:Str)(X:Pcs):Prop:=∃a v Y,X=[(b,.cells #[.pointer a,v] 409 (0,0))]++Y/\(a=none\/a=some ⟨b,0,none⟩)/\OwnS 5 1 v (bcs l) Y
theorem c387(md:Md)(h:Heap)(p:PHeap)(hp:Per p h)(b:Nat)(a:Option Addr)(v:Value)(ha:a=none\/a=some ⟨b,0,none⟩)(hb:h[b]?=some (.cells #[.pointer a,v] 409 (0,0)))(hnb:p b=none):
 CallsX prog md 387 #[.pointer (some ⟨b,0,none⟩)] h (TurnR p h b fun _ _ o'=>o'=.cells #[.pointer (some ⟨b,0,none⟩),v] 409 (0,0)):=by
 refine xlz hp hb hnb func387 fun _ _ _ K=>?_
 refine ax ?_
 rcases ha with rfl|rfl
 ·refine ypq true rfl rfl rfl underlying407 ?_
  refine ax ?_
  refine xiq rfl (fun cc=>?_) (fun cc=>absurd trivial cc)
  refine ax ?_
  refine ywn (i:=0) (w:=1) underlying407 underlying273 (by kernel_rfl) rfl (by show 0<2;decide) rfl ?_
  refine ax ?_
  refine yoq func388 (e:=Extern.AbiNoEscape.same) (by kernel_rfl) rfl rfl (fun h=>xcq ⟨rfl,rfl⟩) ?_
  refine ax ?_
  refine ynw (i:=0) (w:=1) underlying273 underlying407 (by kernel_rfl) rfl (by show 0<2;decide) (by kernel_rfl) rfl ?_
  refine ax ?_
  exact xtb func387 rfl fun _ H_=>K _ _ (xej H_ (.refl _ _ _) rfl)
 ·refine ypq false rfl rfl rfl underlying407 ?_
  refine ax ?_
  refine xiq rfl (fun cc=>absurd cc id) (fun cc=>?_)
  refine ax ?_
  refine ycp (w:=1) rfl rfl underlying407 (by kernel_rfl) ?_
  refine ax ?_
  refine xiq rfl (fun cc=>absurd cc id) (fun cc=>?_)
  refine ax ?_
  exact xtb func387 rfl fun _ H_=>K _ _ (xej H_ (.refl _ _ _) rfl)
theorem yev(l:Str):(bcs l).length=l.length:=xuj l
theorem c384(md:Md)(h₀ h:Heap)(B₀:List Nat)(p:PHeap)(C X:Pcs)(b:Nat)(l:Str)(B:BldB b l X)(hl:l.length<=100000)(c:UInt8)(s:St h₀ B₀ p h (X++C)):
 CallsX prog md 384 #[.pointer (some ⟨b,0,none⟩),.int .u8 ((c.toNat:Nat):Int)] h fun _ h'=>∃X',BldB b (l++[c]) X'/\St h₀ B₀ p h' (X'++C):=by
 obtain⟨a,v,Y,rfl,ha,o⟩:=B
 refine xcj s func384 fun _ _ _ K=>?_
 refine xwk [(b,.cells #[.pointer a,v] 409 (0,0))] Y ?_
 refine ax ?_
 refine xvt rfl rfl (fun h_ pe hb hnb=>c387 md h_ _ pe b a v ha hb hnb) fun r p1 o1 g1 e1=>?_
 subst e1
 obtain⟨a1,c1,rfl,-⟩:=o.val
 refine ax ?_
 refine xdz rfl fun v2 Y2 o2=>?_
 have o2:OwnS 5 1 v2 (bcs [c]) Y2:=o2
 refine xcf rfl rfl o o2 (by simp[bcs,isOne]) (by simp[yev];omega) fun v3 Y3 o3=>?_
 obtain⟨a3,c3,rfl,-⟩:=o3.val
 refine ax ?_
 refine xhw (LL':=[[(b,.cells #[.pointer (some ⟨b,0,none⟩),.slice a3 _ c3] 409 (0,0))],Y3,C]) ?_ (fun _ s=>s)
 exact xqq func384 rfl rfl fun h_ H_=>K _ _ ⟨_,⟨_,_,Y3,rfl,.inr rfl,o3.as (by simp[bcs])⟩,(ygv H_).forget g1.le⟩
theorem c385(md:Md)(h₀ h:Heap)(B₀:List Nat)(p:PHeap)(C X:Pcs)(b:Nat)(l:Str)(B:BldB b l X)(hl:l.length<=100000)(m:Str)(hm:m.length<=100000)(s:St h₀ B₀ p h (X++C)):
 CallsX prog md 385 #[.pointer (some ⟨b,0,none⟩),sv m] h fun _ h'=>∃X',BldB b (l++m) X'/\St h₀ B₀ p h' (X'++C):=by
 obtain⟨a,v,Y,rfl,ha,o⟩:=B
 refine xcj s func385 fun _ _ _ K=>?_
 refine xwk [(b,.cells #[.pointer a,v] 409 (0,0))] Y ?_
 refine ax ?_
 refine xvt rfl rfl (fun h_ pe hb hnb=>c387 md h_ _ pe b a v ha hb hnb) fun r p1 o1 g1 e1=>?_
 subst e1
 obtain⟨a1,c1,rfl,-⟩:=o.val
 refine ax ?_
 refine yqw rfl rfl o om fun v3 Y3 o3=>?_
 obtain⟨a3,c3,rfl,-⟩:=o3.val
 refine ax ?_
 refine xhw (LL':=[[(b,.cells #[.pointer (some ⟨b,0,none⟩),.slice a3 _ c3] 409 (0,0))],Y3,C]) ?_ (fun _ s=>s)
 exact xqq func385 rfl rfl fun h_ H_=>K _ _ ⟨_,⟨_,_,Y3,rfl,.inr rfl,o3⟩,(ygv H_).forget g1.le⟩
theorem c386(md:Md)(h₀ h:Heap)(B₀:List Nat)(p:PHeap)(C X:Pcs)(b:Nat)(l:Str)(B:BldB b l X)(h0:0<l.length)(hl:l.length<=1000000)(s:St h₀ B₀ p h (X++C)):
 CallsX prog md 386 #[.pointer (some ⟨b,0,none⟩)] h fun r h'=>∃X':Pcs,r=sv l/\St h₀ B₀ p h' (X'++C):=by
 obtain⟨a,v,Y,rfl,ha,o⟩:=B
 refine xcj s func386 fun _ _ _ K=>?_
 refine xwk [(b,.cells #[.pointer a,v] 409 (0,0))] Y ?_
 have hbl:=yev l
 obtain⟨b1,c1,rfl,hc1,-⟩:=o.at0 om (by decide)
 refine ax ?_
 refine xjx [] R10 ?_
 refine ex ?_
 refine yjs rfl rfl om ?_
 refine ex ?_
 refine ax ?_
 rw[hbl]at o⊢
 refine yvn o h0 hl rfl rfl underlying390 (by kernel_rfl) ?_
 refine ax ?_
 exact xqq func386 rfl rfl fun _ H_=>K _ _ ⟨_,rfl,xwg (Y:=[(b,.cells #[.pointer a,.slice (some ⟨b1,0,none⟩) l.length c1] 409 (0,0))]) H_⟩
end Go.Proofs.YtjcakmlipohaeaaGreatDoor
namespace Go.X.Ms
def preT(l:List Int):Nat->Str
 |0=>[]
 |k+1=>preT l k++((if k=0 then []else [32])++txt (l.getD k 0))
theorem xd0(x:Int)(xs:List Int):∀k,k<=xs.length->preT (x::xs) (k+1)=txt x++txtT (xs.take k)
 |0,_=>by simp[preT,txtT]
 |k+1,h=>by
   rw[preT,xd0 x xs k om,if_neg om,List.append_assoc]
   congr 1
   have e:∀(ys:List Int)(z:Int),txtT (ys++[z])=txtT ys++(32::txt z):=by
    intro ys z
    induction ys with
    |nil=>simp[txtT]
    |cons y ys ih=>simp[txtT,ih]
   have h2:xs.take (k+1)=xs.take k++[xs.getD k 0]:=by
    rw[List.take_succ_eq_append_getElem om]
    rw[List.getD_eq_getElem?_getD,List.getElem?_eq_getElem om];rfl
   rw[h2,e]
   simp
theorem ybb{l:List Int}(h:0<l.length):preT l l.length=txtL l:=by
 cases l with
 |nil=>simp at h
 |cons x xs=>rw[List.length_cons,xd0 x xs xs.length (Nat.le_refl _),List.take_length];rfl
def i64(n:Int):Prop:=-9223372036854775808<=n/\n<=9223372036854775807
theorem xnk{n:Int}(h:i64 n):(txt n).length<=20:=by
 have h2:=h.1
 have h3:=h.2
 have e:(txtN n.natAbs).length<=19:=xyz (k:=18) om
 unfold txt
 split
 ·simp;exact e
 ·omega
theorem xtr{l:List Int}(h:∀i,i<l.length->i64 (l.getD i 0)):∀k,k<=l.length->(preT l k).length<=21*k
 |0,_=>by simp[preT]
 |k+1,hk=>by
   have:=xtr h k om
   have:=xnk (h k om)
   rw[preT]
   generalize txt (l.getD k 0)=u at*
   split<;>simp only[List.length_append,List.length_nil,List.length_cons]<;>omega
theorem xn1(n:Int):0<(txt n).length:=by
 unfold txt
 split
 ·simp
 ·exact xwd _
end Go.X.Ms
namespace Go.Proofs.YtjcakmlipohaeaaGreatDoor
open Go.Proofs.Tryz
open Go.X Go.X.Ms Go.Conc
section
variable{tT:TypeId}{zT:Nat×Nat}
theorem c382(md:Md)(h:Heap)(p:PHeap)(hp:Per p h)(n:Int)(hn:i64 n)(Z:p 7=some (.cells (Lib.pow10Tab.map (Value.int .u64)).toArray tT zT)):
 CallsX prog md 382 #[.int .i64 n] h fun v h'=>v=sv (txt n)/\Keep h h':=by
 refine xfq hp func382 fun _ _ _ K=>?_
 refine xlq rfl rfl (fun _ pe=>c185 md _ _ pe n hn Z) ?_
 refine ax ?_
 exact K.r rfl rfl fun _ H_=>⟨rfl,H_.kept⟩
theorem c389(md:Md)(h:Heap)(p:PHeap)(hp:Per p h)(a b:Int)(ha:i64 a)(hb:i64 b)(Z:p 7=some (.cells (Lib.pow10Tab.map (Value.int .u64)).toArray tT zT)):
 CallsX prog md 389 #[.agg #[.int .i64 a,.int .i64 b]] h fun v h'=>v=sv (txt a++([32,116,111,32]++txt b))/\Keep h h':=by
 have l1:=xnk ha
 have l2:=xnk hb
 refine xfq hp func389 fun _ _ _ K=>?_
 refine xjq rfl fun b1=>?_
 refine ax ?_
 refine xjx [] [0,1,2,3,4,5,6] ?_
 refine ex ?_
 refine xiz rfl rfl rfl (fun _ pe=>c185 md _ _ pe a ha Z) ?_
 refine ex ?_
 refine yuk (b:=[32,116,111,32]) rfl rfl rfl (by simp;omega) ?_
 refine ex ?_
 refine xiz rfl rfl rfl (fun _ pe=>c185 md _ _ pe b hb Z) ?_
 refine ex ?_
 refine ax ?_
 refine xeb rfl rfl (by simp;omega) ?_
 refine ax ?_
 exact K.r rfl rfl fun _ H_=>⟨by rw[<- List.append_assoc];rfl,H_.kept⟩
theorem c383(md:Md)(h:Heap)(p:PHeap)(hp:Per p h)(a:Option Addr)(n c:Nat)(l:List Int)(I:Ints p a n l)(hn:n<=100)(hl:∀i,i<n->i64 (l.getD i 0))(Z:p 7=some (.cells (Lib.pow10Tab.map (Value.int .u64)).toArray tT zT)):
 CallsX prog md 383 #[.slice a n c] h fun v h'=>v=sv (txtL l)/\Keep h h':=by
 have hll:=I.len
 refine xfq hp func383 fun _ _ _ K=>?_
 refine xiq rfl (fun cc=>?_) (fun cc=>?_)
 ·refine ax ?_
  have e:l=[]:=List.eq_nil_of_length_eq_zero om
  subst e
  exact K.r rfl rfl fun _ H_=>⟨rfl,H_.kept⟩
 refine lq fun b3=>?_
 refine ax ?_
 refine xpq (fun m_ l' p_ L_=>∃(k:Nat)(X:Pcs),m_=n-k/\l'=[(3,none,.pointer (some ⟨b3,0,none⟩)),(9,none,.slice a n c),(10,none,.int .i64 ((n:Nat):Int)),(11,none,.int .i64 ((k:Nat):Int))]/\p_=p/\L_=[X]/\k<=n/\BldB b3 (preT l k) X) ⟨0,_,rfl,rfl,rfl,rfl,Nat.zero_le _,⟨none,.slice none 0 0,[],(List.append_nil _).symm,.inl rfl,.empty _ _⟩⟩ sb ?_
 rintro _ _ p _ IH ⟨k,X,rfl,rfl,rfl,rfl,hk,B⟩
 refine cq (fun cd=>?_) (fun cd=>?_)
 ·have hkn:k<n:=om
  have hlen:=xtr (fun i hi=>hl i om) k om
  have ht:=xnk (hl k hkn)
  refine ax ?_
  refine xgj (fun l' p_ L_=>∃(X:Pcs),l'=[(3,none,.pointer (some ⟨b3,0,none⟩)),(5,none,.int .i64 (l.getD k 0)),(9,none,.slice a n c),(10,none,.int .i64 ((n:Nat):Int)),(11,none,.int .i64 ((k:Nat):Int))]/\p_=p/\L_=[X]/\BldB b3 (preT l k++(if k=0 then []else [32])) X) ?_ fun k' H=>?_
  ·rintro _ p _ ⟨X,rfl,rfl,rfl,B⟩
   refine ax ?_
   refine xlq rfl rfl (fun _ pe=>c185 md _ _ pe _ (hl k hkn) Z) ?_
   refine ax ?_
   refine xyl X rfl rfl (fun h C s=>c385 md _ h _ _ C X b3 _ B (by split<;>simp<;>omega) (txt (l.getD k 0)) om s) fun v X' B'=>?_
   refine ax ?_
   exact xnq (IH _ _ _ om ⟨k+1,X',rfl,rfl,rfl,rfl,om,by rw[preT,<- List.append_assoc];exact B'⟩)
  ·refine xiq rfl (fun ce=>?_) (fun ce=>?_)
   ·refine ax ?_
    refine xyl X rfl rfl (fun h C s=>c384 md _ h _ _ C X b3 _ B om 32 s) fun v X' B'=>?_
    refine ax ?_
    exact xnq (H _ _ _ ⟨X',rfl,rfl,rfl,by rw[if_neg om];exact B'⟩)
   ·refine ax ?_
    exact xnq (H _ _ _ ⟨X,rfl,rfl,rfl,by rw[if_pos om,List.append_nil];exact B⟩)
 obtain rfl:k=l.length:=om
 have hlen:=xtr (fun i hi=>hl i om) l.length om
 rw[ybb om]at B hlen
 have hpos:0<(txtL l).length:=by
  cases l with
  |nil=>simp at hll;omega
  |cons x xs=>simp only[txtL,List.length_append];have:=xn1 x;omega
 refine ax ?_
 refine xyl X rfl rfl (fun h C s=>c386 md _ h _ _ C X b3 _ B hpos om s) ?_
 rintro _ X' rfl
 refine ax ?_
 exact K.r rfl rfl fun _ H_=>⟨rfl,H_.kept⟩
end
end Go.Proofs.YtjcakmlipohaeaaGreatDoor
namespace Go.X.Ms
open Go.X.Flow (ics)
def iv(l:List Int):List Value:=l.map (Value.int .i64)
theorem xjz(l:List Int):(iv l).length=l.length:=by simp[iv]
theorem ypr{l:List Int}{i:Nat}(h:i<l.length):(iv l)[i]?=some (.int .i64 (l.getD i 0)):=by
 rw[iv,List.getElem?_map,List.getD_eq_getElem?_getD,List.getElem?_eq_getElem h];rfl
theorem ytf{l:List Int}{i:Nat}{x:Int}:(iv l).set i (.int .i64 x)=iv (l.set i x):=by simp[iv,List.map_set]
def dkc(A:TA)(d:Snap)(tr:Value):List Value:=tcs A d.t++(iv d.nums++(iv d.kept++[tr]))
def Snap.wf(d:Snap):Prop:=d.nums.length=26/\d.kept.length=26
theorem ycz{l:List Value}{i:Nat}{v:Value}(h:l[i]?=some v):nth l i=some v:=by
 induction l generalizing i with
 |nil=>simp at h
 |cons a l ih=>
   cases i with
   |zero=>exact h
   |succ i=>exact ih (by simpa using h)
section
variable{A:TA}{d:Snap}{tr:Value}
theorem xhv{A:TA}{t:Twn}:(tcs A t).length=11:=rfl
theorem xyc(w:d.wf):(dkc A d tr).length=64:=by
 simp[dkc,xjz,w.1,w.2]
theorem yhs(w:d.wf){i:Nat}(h:i<26):nth (dkc A d tr) (11+i)=some (.int .i64 (d.nums.getD i 0)):=ycz (by
 rw[dkc,List.getElem?_append_right (by rw[xhv];omega),xhv,Nat.add_sub_cancel_left,List.getElem?_append_left (by rw[xjz,w.1];exact h)]
 exact ypr (by rw[w.1];exact h))
theorem ygs(w:d.wf){i:Nat}(h:i<26):nth (dkc A d tr) (37+i)=some (.int .i64 (d.kept.getD i 0)):=ycz (by
 rw[dkc,List.getElem?_append_right (by rw[xhv];omega),xhv,List.getElem?_append_right (by rw[xjz,w.1];omega),xjz,w.1,List.getElem?_append_left (by rw[xjz,w.2];omega)]
 rw[show 37+i-11-26=i by omega]
 exact ypr (by rw[w.2];exact h))
theorem xt0(w:d.wf):nth (dkc A d tr) 63=some tr:=ycz (by
 rw[dkc,List.getElem?_append_right (by rw[xhv];omega),xhv,List.getElem?_append_right (by rw[xjz,w.1];omega),xjz,w.1,List.getElem?_append_right (by rw[xjz,w.2];omega),xjz,w.2]
 rfl)
theorem xa3(w:d.wf):((dkc A d tr).drop 11).take 52=iv d.nums++iv d.kept:=by
 have e:(tcs A d.t).length=11:=rfl
 rw[dkc,List.drop_left' e,<- List.append_assoc]
 exact List.take_left' (by rw[List.length_append,xjz,xjz,w.1,w.2])
theorem xxh{a r vs:List Value}{n:Nat}(hn:a.length=n)(h:vs.length<=r.length):setl (a++r) n vs=a++(vs++r.drop vs.length):=by subst hn;exact xiv h
theorem yjk(w:d.wf){tr':Value}:setl (dkc A d tr) 63 [tr']=dkc A d tr':=by
 have e:dkc A d tr=(tcs A d.t++(iv d.nums++iv d.kept))++[tr]:=by simp[dkc,List.append_assoc]
 have hl:(tcs A d.t++(iv d.nums++iv d.kept)).length=63:=by
  rw[List.length_append,List.length_append,xjz,xjz,w.1,w.2];rfl
 rw[e]
 refine(xxh (r:=[tr]) (vs:=[tr']) hl (Nat.le_refl 1)).trans ?_
 simp[dkc,List.append_assoc]
theorem yom(w:d.wf){i:Nat}{x:Int}(h:i<26):setl (dkc A d tr) (11+i) [.int .i64 x]=dkc A {d with nums:=d.nums.set i x} tr:=by
 show(dkc A d tr).set (11+i) (.int .i64 x)=_
 rw[dkc,List.set_append_right (h:=by rw[xhv];omega),xhv,Nat.add_sub_cancel_left,List.set_append_left (h:=by rw[xjz,w.1];exact h),ytf];rfl
theorem ynm(w:d.wf){i:Nat}{x:Int}(h:i<26):setl (dkc A d tr) (37+i) [.int .i64 x]=dkc A {d with kept:=d.kept.set i x} tr:=by
 show(dkc A d tr).set (37+i) (.int .i64 x)=_
 rw[dkc,List.set_append_right (h:=by rw[xhv];omega),xhv,List.set_append_right (h:=by rw[xjz,w.1];omega),xjz,w.1,List.set_append_left (h:=by rw[xjz,w.2];omega),show 37+i-11-26=i by omega,ytf];rfl
theorem yik(w:d.wf){d':Snap}(w':d'.wf):setl (dkc A d tr) 11 (iv d'.nums++iv d'.kept)=dkc A {d with nums:=d'.nums,kept:=d'.kept} tr:=by
 have e:(tcs A d.t).length=11:=rfl
 have hl:(iv d'.nums++iv d'.kept).length=52:=by rw[List.length_append,xjz,xjz,w'.1,w'.2]
 have hl2:(iv d.nums++iv d.kept).length=52:=by rw[List.length_append,xjz,xjz,w.1,w.2]
 rw[dkc,xxh e (by simp[xjz,w.1,w.2,w'.1,w'.2]),hl,<- List.append_assoc (iv d.nums),List.drop_left' hl2]
 simp[dkc,List.append_assoc]
theorem xz2{A':TA}{t':Twn}:setl (dkc A d tr) 0 (tcs A' t')=dkc A' {d with t:=t' } tr:=by
 have:=xxh (a:=[]) (r:=dkc A d tr) (vs:=tcs A' t') (n:=0) rfl (by rw[dkc,List.length_append];simp)
 rw[List.nil_append]at this
 rw[this]
 rfl
end
structure SnP(p:PHeap)(A:TA)(d:Snap):Prop where
 T:TwP p A d.t
 ok:chkT d.t=0
 w:d.wf
theorem SnP.mono{p p':PHeap}{A:TA}{d:Snap}(s:SnP p A d)(le:PLe p p'):SnP p' A d:=⟨s.T.mono le,s.ok,s.w⟩
def sncs(xs:List (TA×Snap)):List (List Value):=xs.map fun x=>dkc x.1 x.2 (.slice none 0 0)
structure PastP(p:PHeap)(a:Option Addr)(c:Nat)(xs:List (TA×Snap)):Prop where
 c:xs.length<=c
 s:Sl p a xs.length 64 (sncs xs)
 e:∀x∈xs,SnP p x.1 x.2
theorem PastP.mono{p p':PHeap}{a:Option Addr}{c:Nat}{xs:List (TA×Snap)}(s:PastP p a c xs)(le:PLe p p'):PastP p' a c xs:=⟨s.c,s.s.mono le,fun x hx=>(s.e x hx).mono le⟩
structure DkP(p:PHeap)(D:Dsk)(ob:Obj)(T:TypeId):Prop where
 h:∃A a c xs,ob=.cells (dkc A D.now (.slice a xs.length c)).toArray T (0,0)/\SnP p A D.now/\PastP p a c xs/\xs.map (·.2)=D.past
theorem xdg(d:Snap)(s:Str):∀xs:List Str,valsS d (xs++[s])=match valsS d xs with
  |none=>none
  |some vs=>(valS d s).map fun n=>vs++[n]
 |[]=>by
   rw[List.nil_append,valsS,valsS]
   cases valS d s<;>rfl
 |x::xs=>by
   rw[List.cons_append,valsS,valsS,xdg d s xs]
   cases valS d x with
   |none=>rfl
   |some n=>
     cases valsS d xs with
     |none=>rfl
     |some vs=>cases valS d s<;>rfl
theorem xgn(d:Snap){xs:List Str}(h:valsS d xs=none):∀ys:List Str,valsS d (xs++ys)=none:=by
 induction xs with
 |nil=>cases h
 |cons x xs ih=>
   intro ys
   rw[List.cons_append,valsS]
   rw[valsS]at h
   cases hx:valS d x with
   |none=>rfl
   |some n=>
     rw[hx]at h
     simp only at h⊢
     rw[ih (by simpa using h) ys];rfl
theorem xvd(d:Snap):∀{xs:List Str}{vs:List Int},valsS d xs=some vs->vs.length=xs.length
 |[],_,h=>by cases h;rfl
 |x::xs,vs,h=>by
   rw[valsS]at h
   cases hx:valS d x with
   |none=>rw[hx]at h;cases h
   |some n=>
     rw[hx]at h
     obtain⟨ws,h1,rfl⟩:=Option.map_eq_some_iff.1 h
     rw[List.length_cons,xvd d h1,List.length_cons]
end Go.X.Ms
namespace Go.X.Ms
theorem xzp{d:Snap}{s:Str}(h:isLet s=true):valS d s=if d.kept.getD (ltrI s) 0=0 then none else some (d.nums.getD (ltrI s) 0):=by unfold valS;rw[if_pos h]
theorem xn3{d:Snap}{s:Str}(h:¬ isLet s=true):valS d s=some ((numR s).getD 0):=by unfold valS;rw[if_neg h]
theorem yrf{s:Str}(h:isLet s=true):(s.getD 0 0).toNat=97+ltrI s/\ltrI s<26/\0<s.length:=by
 have z:=xmm.1 h
 have e:s.headD 0=s.getD 0 0:=by cases s<;>rfl
 unfold ltrI
 rw[e]
 omega
theorem ymn{xs:List Str}{j:Nat}(h:j<xs.length):xs.getD j []∈xs/\xs.take (j+1)=xs.take j++[xs.getD j []]:=by
 have e:xs.getD j []=xs[j]:=by rw[List.getD_eq_getElem?_getD,List.getElem?_eq_getElem h];rfl
 rw[e]
 exact⟨List.getElem_mem _,by rw[List.take_succ_eq_append_getElem h]⟩
end Go.X.Ms
namespace Go.Proofs.YtjcakmlipohaeaaGreatDoor
open Go.Proofs.Tryz
open Go.X Go.X.Ms Go.Conc
open Go.X.Flow (ics)
def valsQ(o:Option (List Int))(v:Value)(p':PHeap):Prop:=match o with
 |none=>v=.tuple #[.slice none 0 0,.bool false]
 |some vs=>∃a c,v=.tuple #[.slice a vs.length c,.bool true]/\Ints p' a vs.length vs
theorem c123(md:Md)(h:Heap)(p:PHeap)(hp:Per p h)(b:Nat)(A:TA)(d:Snap)(tr:Value)(w:d.wf)(hb:h[b]?=some (.cells (dkc A d tr).toArray 117 (0,0)))(hnb:p b=none)(g:GlP p)
 (a:Option Addr)(n c:Nat)(xs:List Str)(S:Strs p a n xs)(hn:n<=1000)(hs:∀s∈xs,s.length<=900)(hc:∀s∈xs,clearS s=true):
 CallsX prog md 123 #[.pointer (some ⟨b,0,none⟩),.slice a n c] h (TurnR p h b fun v p' o'=>o'=.cells (dkc A d tr).toArray 117 (0,0)/\valsQ (valsS d xs) v p'):=by
 have hl:=S.len
 have S1:Sl p a n 1 (scs xs):=S
 obtain⟨te,ue,tE,zE,E⟩:=g.es
 obtain⟨tr',ur,tR,zR,R⟩:=g.er
 obtain⟨tT,zT,Z⟩:=g.pw
 refine xlz hp hb hnb func123 fun _ _ _ K=>?_
 refine ax ?_
 refine xfb 3 1 fun o0=>?_
 refine xpq (fun m_ l p_ L_=>∃(j:Nat)(v:Value)(vs:List Int)(Y:Pcs),m_=n-j/\l=[(0,none,.pointer (some ⟨b,0,none⟩)),(6,none,v),(11,none,.slice a n c),(12,none,.int .i64 ((n:Nat):Int)),(13,none,.int .i64 ((j:Nat):Int))]/\p_=p/\L_=[Y,[(b,.cells (dkc A d tr).toArray 117 (0,0))]]/\j<=n/\OwnS 3 1 v (ics vs) Y/\valsS d (xs.take j)=some vs)
  ⟨0,_,[],_,rfl,rfl,rfl,rfl,Nat.zero_le _,o0,rfl⟩ sb ?_
 rintro _ _ p _ IH ⟨j,v,vs,Y,rfl,rfl,rfl,rfl,hj,o,hv⟩
 refine cq (fun cd=>?_) (fun cd=>?_)
 ·have hjl:j<n:=om
  obtain⟨hm,htk⟩:=ymn (xs:=xs) (j:=j) om
  refine ax ?_
  refine xvk rfl (Strs.get S hjl) ?_
  generalize hs':xs.getD j []=s at*
  refine ax ?_
  refine xxl rfl rfl (fun h pe=>c220 md h _ pe _ (hs _ hm) E R Z) ?_
  rintro _ ⟨k,rfl,hk⟩
  refine ax ?_
  refine xlq rfl rfl (fun _ pe=>c119 md _ _ pe s) ?_
  refine ax ?_
  refine xgj (fun l' p_ L_=>∃x:Int,l'=[(0,none,.pointer (some ⟨b,0,none⟩)),(6,none,v),(9,none,.int .i64 x),(11,none,.slice a n c),(12,none,.int .i64 ((n:Nat):Int)),(13,none,.int .i64 ((j:Nat):Int))]/\p_=p/\L_=[Y,[(b,.cells (dkc A d tr).toArray 117 (0,0))]]/\valS d s=some x) ?_ fun k' H=>?_
  ·rintro _ p _ ⟨x,rfl,rfl,rfl,hx⟩
   refine ax ?_
   refine xdz rfl fun v2 Y2 o2=>?_
   have o2:OwnS 3 1 v2 (ics [x]) Y2:=o2
   refine xcf rfl rfl o o2 (by simp[ics,isOne]) (by have:=xvd d hv;simp[ics]at *;omega) fun v3 Y3 o3=>?_
   refine ax ?_
   exact xnq (IH _ _ _ om ⟨j+1,v3,vs++[x],Y3,rfl,rfl,rfl,rfl,om,o3.as (by simp[ics]),by rw[htk,xdg,hv,hx];rfl⟩)
  refine xiq rfl (fun ce=>?_) (fun ce=>?_)
  ·obtain⟨e1,e2,e3⟩:=yrf ce
   have e4:(((s.getD (Int.toNat 0) 0).toNat:Nat):Int)-97=((ltrI s:Nat):Int):=by show(((s.getD 0 0).toNat:Nat):Int)-97=_;omega
   have e5:((s.getD (Int.toNat 0) 0).toNat:Int)<=122/\(97:Int)<=((s.getD (Int.toNat 0) 0).toNat:Int):=by show((s.getD 0 0).toNat:Int)<=122/\_<=((s.getD 0 0).toNat:Int);omega
   refine ax ?_
   refine xjx [] R7 ?_
   refine ex ?_
   refine xek rfl rfl rfl rfl trivial trivial ⟨by decide,om⟩ ?_
   refine ex ?_
   refine xvc rfl rfl rfl ⟨wr8 om,trivial⟩ ?_
   rw[e4]
   refine ex ?_
   refine ax ?_
   refine xi4 (i:=ltrI s) underlying112 rfl rfl e2 ?_
   refine ax ?_
   refine xb2 (u:=.int .i64 (d.nums.getD (ltrI s) 0)) rfl rfl trivial ?_ (by
    have z:=yhs (A:=A) (tr:=tr) w e2
    rwa[show 11+ltrI s=0+11+0+ltrI s*1 by omega]at z)
   refine ax ?_
   refine xjx [] R7 ?_
   refine ex ?_
   refine xek rfl rfl rfl rfl trivial trivial ⟨by decide,om⟩ ?_
   refine ex ?_
   refine xvc rfl rfl rfl ⟨wr8 om,trivial⟩ ?_
   rw[e4]
   refine ex ?_
   refine ax ?_
   refine xi4 (i:=ltrI s) underlying112 rfl rfl e2 ?_
   refine ax ?_
   refine xb2 (u:=.int .i64 (d.kept.getD (ltrI s) 0)) rfl rfl trivial ?_ (by
    have z:=ygs (A:=A) (tr:=tr) w e2
    rwa[show 37+ltrI s=0+11+26+ltrI s*1 by omega]at z)
   refine cq (fun cf=>?_) (fun cf=>?_)
   ·have e0:valsS d xs=none:=by
     rw[<- List.take_append_drop (j+1) xs]
     refine xgn d ?_ _
     rw[htk,xdg,hv,xzp ce,if_pos cf];rfl
    refine ax ?_
    exact xqq func123 rfl rfl fun _ H_=>K _ _ (xej H_ (.refl _ _ _) ⟨rfl,by unfold valsQ;rw[e0];rfl⟩)
   ·refine ax ?_
    exact xnq (H _ _ _ ⟨_,rfl,rfl,rfl,by rw[xzp ce,if_neg cf]⟩)
  ·refine ax ?_
   have hcs:=hc s hm
   have hk2:valS d s=some k:=by
    rw[xn3 ce]
    unfold clearS at hcs
    cases hn:numR s with
    |none=>rw[hn]at hcs;simp at hcs;exact absurd hcs ce
    |some q=>rw[hk q hn];rfl
   exact xnq (H _ _ _ ⟨k,rfl,rfl,rfl,hk2⟩)
 obtain rfl:j=n:=om
 rw[List.take_of_length_le om]at hv
 have hvl:=xvd d hv
 obtain⟨a1,c1,rfl,-⟩:=o.val
 refine ax ?_
 refine xtx o rfl (by decide) fun p1 _ _ g1 e1 hc1 S1=>?_
 cases e1
 have e0:(ics vs).length=vs.length:=xnx vs
 exact xqq func123 rfl rfl fun _ H_=>K _ _ (xej H_ g1 ⟨rfl,by
  unfold valsQ;rw[hv]
  exact⟨a1,c1,by rw[e0];rfl,e0 ▸ S1⟩⟩)
end Go.Proofs.YtjcakmlipohaeaaGreatDoor
namespace Go.X.Ms
open Go.Conc
theorem xnt{z l:List Value}(h:l.length=z.length):setl z 0 l=l:=by
 have:=xxh (a:=[]) (r:=z) (vs:=l) (n:=0) rfl om
 rw[List.nil_append]at this
 rw[this,h,List.drop_length,List.append_nil];rfl
theorem fill_one{w:Nat}{z:List Value}{v:Value}(hz:z.length=w)(hv:v.cells.toList.length=w):Instr.fill (fun i=>some (i*w,w)) z.toArray [(0,v)]=some v.cells:=by
 have e:=xlc (pl:=[(0,w)]) (vs:=[(0,v)]) (cs:=z) (r:=v.cells.toList) (by
  unfold fillT
  simp only[nthP]
  rw[hv,Nat.beq_refl,show Nat.ble (0+w) z.length=true from Nat.ble_eq ▸ (show 0+w<=z.length by omega)]
  simp only[Bool.and_self]
  rw[fillT,xnt om])
 simp only[Instr.fill,List.getElem?_cons_zero,Nat.zero_mul]at e⊢
 simpa using e
def zT:Twn:=⟨⟨[],[],0,0,0⟩,⟨[],[],[]⟩,⟨0,0,[]⟩⟩
def zA:TA:=⟨(none,0),(none,0),(none,0),(none,0),(none,0),(none,0)⟩
def zS:Snap:=⟨zT,List.replicate 26 0,List.replicate 26 0⟩
theorem ytl{A:TA}{d:Snap}(w:d.wf):fillT [(0,11),(11,52),(63,1)] (dkc zA zS (.slice none 0 0)) [(0,.agg (tcs A d.t).toArray),(1,.agg (iv d.nums++iv d.kept).toArray)]=some (dkc A d (.slice none 0 0)):=by
 have w0:zS.wf:=⟨rfl,rfl⟩
 have hl:(iv d.nums++iv d.kept).length=52:=by rw[List.length_append,xjz,xjz,w.1,w.2]
 have e1:(Value.agg (tcs A d.t).toArray).cells.toList=tcs A d.t:=rfl
 have e2:(Value.agg (iv d.nums++iv d.kept).toArray).cells.toList=iv d.nums++iv d.kept:=by simp[Value.cells]
 unfold fillT
 simp only[nthP]
 rw[e1,xhv,show Nat.beq 11 11=true from rfl,xyc w0,show Nat.ble (0+11) 64=true from rfl]
 simp only[Bool.and_self]
 rw[xz2]
 have w1:({zS with t:=d.t}:Snap).wf:=⟨rfl,rfl⟩
 unfold fillT
 simp only[nthP]
 rw[e2,hl,show Nat.beq 52 52=true from rfl,xyc w1,show Nat.ble (11+52) 64=true from rfl]
 simp only[Bool.and_self]
 rw[yik w1 w]
 rfl
end Go.X.Ms
namespace Go.X
open Go.Conc
section
variable{X:Cx}{k:List Item}{ops:List Oper}{m:Ks}{l:Env}{p:PHeap}{LF LL:List Pcs}{effs todo:List Nat}{dd:Nat}{ty:TypeId}{pos:String}{aft:Array Edge}{x:Operand}{i w:Nat}{v:Value}
theorem yts{sT eT:TypeId}{z:Value}{cs:List Value}(ho:ops[i]?=some ⟨some dd,.buildSlice sT 1 #[(0,x)],ty,pos,aft,none⟩)(hx:evpS l [(0,x)]=some [(0,v)])(hv:v.cells=cs.toArray)(hw:cs.length=w)[hT:SlcC X.P sT eT][hs:SizeC X.P eT w][hz:ZeroC X.P eT z]
 (nx:∀u Y,OwnS eT w u [cs] Y->DE X k ops m p LF effs todo ((dd,none,u)::l) (Y::LL))(he:effs.contains i=true:=by rfl)(hw2:w<=1000:=by decide):DE X k ops m p LF effs (i::todo) l LL:=by
 have e1:chs w 1 v.cells.toList=[cs]:=by
  rw[hv,chs,chs,List.take_of_length_le (by simp;omega)]
 refine xjb (cells:=v.cells) (parts:=[(0,x)]) ho hx (fun u Y o=>nx u Y (by rw[e1]at o;exact o)) he (Ms.fill_one (by simp) (by rw[hv];simpa using hw)) (by rw[e1,hv];simp) (by rw[e1];simp[hw]) (by rw[e1];rfl) om
end
end Go.X
namespace Go.X.Ms
theorem xx3(xs:List (TA×Snap)):(sncs xs).length=xs.length:=by simp[sncs]
theorem ytg{xs:List (TA×Snap)}{i:Nat}(h:i<xs.length):(sncs xs)[i]?=some (dkc (xs[i]'h).1 (xs[i]'h).2 (.slice none 0 0)):=by
 rw[sncs,List.getElem?_map,List.getElem?_eq_getElem h];rfl
theorem yst{A:TA}{d:Snap}{tr:Value}(h:isOne tr=true):∀u∈dkc A d tr,isOne u=true:=by
 intro u hu
 simp only[dkc,tcs,iv,List.mem_append,List.mem_cons,List.not_mem_nil,or_false,List.mem_map]at hu
 rcases hu with(rfl|rfl|rfl|rfl|rfl|rfl|rfl|rfl|rfl|rfl|rfl)|⟨_,_,rfl⟩|⟨_,_,rfl⟩|rfl
 all_goals first|rfl|exact h
end Go.X.Ms
namespace Go.X
open Go.Conc
section
variable{X:Cx}{k:List Item}{ops:List Oper}{m:Ks}{l:Env}{p:PHeap}{LF LL LR:List Pcs}{effs todo:List Nat}{d:Option Tmp}{ty:TypeId}{pos:String}{aft:Array Edge}{gd:Option (Nat×Bool)}{g:Option Bool}{ss:List Prop}{x:Operand}{i:Nat}
theorem ycg{t:TypeId}{b off:Nat}{cs:Array Value}{T:TypeId}{z:Nat×Nat}{u:Value}(ho:ops[i]?=some ⟨d,.load t x,ty,pos,aft,gd⟩)(hg:gdc ops l gd=some g)(hx:evS l x=some (ss,.pointer (some ⟨b,off,none⟩)))(hs:cimp g (AllP ss))[a:AggC X.P t false][mm:Bx LL b (.cells cs T z) LR]
 (n:DE X k ops m p LF effs todo (ent d g u l) LL)(hv:nth cs.toList off=some u)(hb:pinB ops effs todo i=true:=by kernel_rfl):DE X k ops m p LF effs (i::todo) l LL:=
 yrk ho hg rfl (xsq hs fun hs _ _ E s=>xzb (i:=0) (s.perm (List.perm_append_comm.trans (List.Perm.append_right LF.flatten mm.h))) a.h (xdq E hx hs) rfl (by rw[<- Array.getElem?_toList];exact xhm hv)) n hb
end
end Go.X
namespace Go.Proofs.YtjcakmlipohaeaaGreatDoor
open Go.Proofs.Tryz
open Go.X Go.X.Ms Go.Conc
theorem c221(md:Md)(h:Heap)(p:PHeap)(hp:Per p h)(a:Option Addr)(n c:Nat)(xs:List (TA×Snap))(S:Sl p a n 64 (sncs xs))(hc:n<=c)(hn:n<=2^10)(A:TA)(d:Snap)(w:d.wf):
 CallsX prog md 221 #[.slice a n c,.agg (dkc A d (.slice none 0 0)).toArray] h fun v h'=>∃Y,OwnS 117 64 v (sncs (xs++[(A,d)])) Y/\New h h' Y:=by
 have hl:=S.len
 have ec:sncs (xs++[(A,d)])=sncs xs++[dkc A d (.slice none 0 0)]:=by simp[sncs]
 have hz:(dkc A d (.slice none 0 0)).length=64:=xyc w
 generalize dkc A d (.slice none 0 0)=cs at ec hz⊢
 refine xfq hp func221 fun _ _ _ K=>?_
 refine xjq rfl fun b1=>?_
 refine ax ?_
 refine xjx [7] R8 ?_
 refine ex ?_
 refine ykk rfl rfl rfl rfl hc ?_
 refine ex ?_
 refine xu0 rfl rfl rfl trivial ?_ (by simp[Value.cells,hz])
 refine ex ?_
 refine yts (cs:=cs) rfl rfl (by simp[Value.cells,List.take_of_length_le (Nat.le_of_eq hz)]) hz fun v2 Y2 o2=>?_
 refine ex ?_
 refine ax ?_
 refine xxt rfl rfl S o2 (Nat.succ_pos _) (by simp;omega) fun v3 Y3 o3=>?_
 refine ax ?_
 exact K.r rfl rfl fun _ H_=>⟨Y3,o3.as ec.symm,newR H_⟩
theorem ysx{p p1:PHeap}{a a1:Option Addr}{c c1:Nat}{xs:List (TA×Snap)}{A:TA}{d:Snap}(P:PastP p a c xs)(le:PLe p p1)(s:SnP p A d)(hc:(xs++[(A,d)]).length<=c1)(S:Sl p1 a1 (xs++[(A,d)]).length 64 (sncs (xs++[(A,d)]))):PastP p1 a1 c1 (xs++[(A,d)]):=
 ⟨hc,S,fun x hx=>(List.mem_append.1 hx).elim (fun h=>(P.e x h).mono le) fun h=>by rw[List.mem_singleton.1 h];exact s.mono le⟩
theorem yrx{p:PHeap}{a:Option Addr}{c:Nat}{xs:List (TA×Snap)}(P:PastP p a c xs)(h:0<xs.length):PastP p a c (xs.take (xs.length-1)):=by
 have e:(xs.take (xs.length-1)).length=xs.length-1:=by rw[List.length_take];omega
 refine⟨by have:=P.c;omega,?_,fun x hx=>P.e x (List.mem_of_mem_take hx)⟩
 have z:=Sl.cut (lo:=0) (hi:=xs.length-1) (a':=a) P.s (Nat.zero_le _) om fun _=>by rw[Nat.zero_mul];exact(P.s.ne h).trans rfl
 rw[e]
 simpa[sncs,List.map_take]using z
theorem c126(md:Md)(h:Heap)(p:PHeap)(hp:Per p h)(b:Nat)(D:Dsk)(ob:Obj)(hD:DkP p D ob 117)(hb:h[b]?=some ob)(hnb:p b=none)(w:Str)(hn:D.past.length<=1000):
 CallsX prog md 126 #[.pointer (some ⟨b,0,none⟩),sv w] h (TurnR p h b fun v p' o'=>v=.bool (tryD D w).2/\DkP p' (tryD D w).1 o' 117):=by
 obtain⟨A,a,c,xs,rfl,N,P,hx⟩:=hD
 have hxl:xs.length=D.past.length:=by rw[<- hx,List.length_map]
 have w0:=N.w
 have Pc:=P.c
 have Ps:=P.s
 refine xlz hp hb hnb func126 fun _ _ _ K=>?_
 refine cq (fun cc=>?_) (fun cc=>?_)
 ·have e0:tryD D w=({D with past:=D.past++[D.now]},true):=by unfold tryD;rw[if_pos (show w=wBegin from cc)]
  refine ax ?_
  refine xjx [14] R15 ?_
  refine ex ?_
  refine xwc rfl rfl rfl trivial ?_ (xt0 w0)
  refine ex ?_
  refine xu0 rfl rfl rfl trivial ?_ (by
   show(((dkc A D.now (.slice a xs.length c)).drop 11).take 52).length=52
   rw[xa3 w0,List.length_append,xjz,xjz,w0.1,w0.2])
  rw[show(((dkc A D.now (.slice a xs.length c)).toArray.toList.drop (0+11)).take 52)=iv D.now.nums++iv D.now.kept from xa3 w0]
  refine xr6 (cells:=dkc A D.now (.slice none 0 0)) rfl rfl ?_ (ytl w0)
  refine xqv rfl rfl rfl (fun _ pe=>c221 md _ _ pe a _ c xs Ps Pc om A D.now w0) fun v1 Y1 o1=>?_
  obtain⟨a1,c1,rfl,-⟩:=o1.val
  rw[xx3]at o1⊢
  refine ex ?_
  refine ax ?_
  refine xtc rfl rfl ?_ rfl rfl (by rw[xyc w0];exact Nat.le_refl _)
  refine ax ?_
  refine xtx o1 (m:=(xs++[(A,D.now)]).length) (xx3 _) (by decide) fun p1 _ _ g1 e1 hc1 S1=>?_
  cases e1
  exact xqq func126 rfl rfl fun _ H_=>K _ _ (xej H_ g1 (by
   rw[e0]
   exact⟨rfl,A,a1,c1,xs++[(A,D.now)],congrArg (fun l=>Obj.cells (List.toArray l) _ (0,0)) (yjk w0),N.mono g1.le,ysx P g1.le N hc1 S1,by simp[hx]⟩))
 refine ax ?_
 refine xb2 rfl rfl trivial ?_ (xt0 w0)
 refine cq (fun cd=>?_) (fun cd=>?_)
 ·have e0:tryD D w=(D,false):=by
   have:D.past=[]:=List.eq_nil_of_length_eq_zero om
   unfold tryD;rw[if_neg (show ¬ w=wBegin from cc),this];rfl
  refine ax ?_
  exact xqq func126 rfl rfl fun _ H_=>K _ _ (xej H_ (.refl _ _ _) (by rw[e0];exact⟨rfl,A,a,c,xs,rfl,N,P,hx⟩))
 have hpos:0<xs.length:=om
 have e1:((xs.length:Nat):Int)-1=((xs.length-1:Nat):Int):=om
 have hlast:xs.length-1<xs.length:=om
 obtain⟨x1,hx1⟩:∃x,x=xs[xs.length-1]'hlast:=⟨_,rfl⟩
 have hm1:x1∈xs:=by rw[hx1];exact List.getElem_mem _
 have hgl:D.past.getLast?=some x1.2:=by
  rw[<- hx,List.getLast?_eq_getElem?,List.getElem?_map,List.length_map,List.getElem?_eq_getElem hlast,hx1];rfl
 have hsn:(sncs xs)[xs.length-1]?=some (dkc x1.1 x1.2 (.slice none 0 0)):=by rw[hx1];exact ytg hlast
 have N1:=P.e x1 hm1
 rw[e1]
 refine ax ?_
 refine xgj (fun l' p_ L_=>∃(A2:TA)(d2:Snap),l'=[(0,none,.pointer (some ⟨b,0,none⟩)),(5,none,.int .i64 ((xs.length-1:Nat):Int))]/\p_=p/\L_=[[(b,.cells (dkc A2 d2 (.slice a xs.length c)).toArray 117 (0,0))]]/\SnP p A2 d2/\d2=if w=wDrop then x1.2 else D.now) ?_ fun k' H=>?_
 ·rintro _ p _ ⟨A2,d2,rfl,rfl,rfl,N2,hd2⟩
  refine ax ?_
  refine xb2 rfl rfl trivial ?_ (xt0 N2.w)
  refine ax ?_
  refine xxn rfl rfl (j:=xs.length-1) om ?_
  refine ax ?_
  refine xtc rfl rfl ?_ rfl rfl (by rw[xyc N2.w];exact Nat.le_refl _)
  refine ax ?_
  have e0:tryD D w=(⟨d2,D.past.take (D.past.length-1)⟩,true):=by
   unfold tryD
   rw[if_neg (show ¬ w=wBegin from cc),hgl,hd2]
   simp only
   by_cases hw:w=wDrop
   ·rw[if_pos hw,if_pos hw]
   ·rw[if_neg hw,if_neg hw]
  have P2:=yrx P hpos
  have e2:(xs.take (xs.length-1)).length=xs.length-1:=by rw[List.length_take];omega
  exact xqq func126 rfl rfl fun _ H_=>K _ _ (xej H_ (.refl _ _ _) (by
   rw[e0]
   refine⟨rfl,A2,a,c,xs.take (xs.length-1),?_,N2,P2,by rw[List.map_take,hx,hxl]⟩
   rw[e2]
   exact congrArg (fun l=>Obj.cells (List.toArray l) _ (0,0)) (yjk N2.w)))
 refine xiq rfl (fun ce=>?_) (fun ce=>?_)
 ·refine ax ?_
  have hn1:(dkc x1.1 x1.2 (.slice none 0 0)).length=64:=xyc N1.w
  refine xgb [20] R21 b ?_
  refine ex ?_
  refine ycg rfl rfl rfl trivial ?_ (xt0 w0)
  refine ex ?_
  refine xbb (vs:=tcs x1.1 x1.2.t) rfl rfl rfl trivial (fun j v hv=>?_) ?_
  ·have z:=Ps.get _ _ hsn j v (by rw[dkc,List.getElem?_append_left (List.getElem?_eq_some_iff.1 hv).1];exact hv)
   exact z
  refine ex ?_
  refine ycg rfl rfl rfl trivial ?_ (xt0 w0)
  refine ex ?_
  refine xbb (vs:=iv x1.2.nums++iv x1.2.kept) rfl rfl rfl trivial (fun j v hv=>?_) ?_ (by rw[List.length_append,xjz,xjz,N1.w.1,N1.w.2])
  ·rw[<- xa3 (A:=x1.1) (tr:=.slice none 0 0) N1.w]at hv
   have z:=Ps.get _ _ hsn (11+j) v (by
    rw[List.getElem?_take]at hv
    split at hv
    ·rwa[List.getElem?_drop]at hv
    ·cases hv)
   rw[<- xg3]at z
   exact z
  refine ex ?_
  refine ax ?_
  refine xmr (LL':=[[(b,.cells (dkc x1.1 {D.now with t:=x1.2.t} (.slice a xs.length c)).toArray 117 (0,0))]]) ?_ (fun _ s=>by
   have e:setl (dkc A D.now (.slice a xs.length c)) 0 (tcs x1.1 x1.2.t)=dkc x1.1 {D.now with t:=x1.2.t} (.slice a xs.length c):=xz2
   rw[<- e];exact s)
  have w2:({D.now with t:=x1.2.t}:Snap).wf:=w0
  have hl52:(iv x1.2.nums++iv x1.2.kept).length=52:=by rw[List.length_append,xjz,xjz,N1.w.1,N1.w.2]
  refine xtc rfl rfl ?_ (by simp[Value.cells,hl52]) (by
   simp only[Value.cells,List.all_eq_true,iv,List.mem_append,List.mem_map]
   rintro u (⟨_,_,rfl⟩|⟨_,_,rfl⟩)<;>rfl) (by rw[xyc w2];simp[Value.cells,hl52])
  refine ax ?_
  refine xhw (LL':=[[(b,.cells (dkc x1.1 x1.2 (.slice a xs.length c)).toArray 117 (0,0))]]) ?_ (fun _ s=>by
   have e:setl (dkc x1.1 {D.now with t:=x1.2.t} (.slice a xs.length c)) 11 (iv x1.2.nums++iv x1.2.kept)=dkc x1.1 x1.2 (.slice a xs.length c):=yik w2 N1.w
   rw[<- e];exact s)
  exact xnq (H _ _ _ ⟨x1.1,x1.2,rfl,rfl,rfl,N1,(if_pos ce).symm⟩)
 ·refine ax ?_
  exact xnq (H _ _ _ ⟨A,D.now,rfl,rfl,rfl,N,(if_neg ce).symm⟩)
end Go.Proofs.YtjcakmlipohaeaaGreatDoor
namespace Go.X.Ms
def Rs.ok:Rs->Prop
 |.num n=>i64 n
 |.spn a b=>i64 a/\i64 b
 |.lst l=>l.length<=100/\ ∀i,i<l.length->i64 (l.getD i 0)
end Go.X.Ms
namespace Go.X
open Go.Conc
section
variable{X:Cx}{k:List Item}{ops:List Oper}{m:Ks}{l:Env}{p:PHeap}{LF LL:List Pcs}{effs todo:List Nat}{d:Option Tmp}{ty:TypeId}{pos:String}{aft:Array Edge}{x y:Operand}{i:Nat}
theorem yos{t e:TypeId}{w len j b o:Nat}{k1:IntKind}(ht:X.P.underlying t=some (.array len e))(ho:ops[i]?=some ⟨d,.indexAddr t x y,ty,pos,aft,none⟩)(hx:evS l x=some ([],.pointer (some ⟨b,o,none⟩)))(hy:evS l y=some ([],.int k1 ((j:Nat):Int)))(h:j<len)[sz:SizeC X.P e w](n:DE X k ops m p LF effs todo (ent d none (.pointer (some ⟨b,o+j*w,none⟩)) l) LL):
 DE X k ops m p LF effs (i::todo) l LL:=xwz (g:=none) ho rfl rfl (fun _ _ _ E _=>by
  have z:=xoh (d:=d) (ty:=ty) (pos:=pos) (aft:=aft) (gd:=none) (h:=by assumption) ht sz.h (xdq E hx trivial) (xdq E hy trivial) h
  rw[xrx]at z;exact z) n
end
end Go.X
namespace Go.Proofs.YtjcakmlipohaeaaGreatDoor
open Go.Proofs.Tryz
open Go.X Go.X.Ms Go.Conc
theorem c124(h:Heap)(p:PHeap)(hp:Per p h)(b:Nat)(D:Dsk)(ob:Obj)(hD:DkP p D ob 117)(hb:h[b]?=some ob)(hnb:p b=none)(g:GlP p)(q:Qn)(fv:Value)(x:AskV q fv p)(a:Option Addr)(n c:Nat)(vs:List Int)(V:Ints p a n vs)(hv:n=q.ar)(letter:Str)(hl:letter=[]\/isLet letter=true)
 (hR:(askQ q D.now.t vs).2=0->(askQ q D.now.t vs).1.ok):
 CallsX prog (.main true) 124 #[.pointer (some ⟨b,0,none⟩),fv,.slice a n c,sv letter] h (TurnR p h b fun v p' o'=>v=sv (askD D q vs letter).2/\DkP p' (askD D q vs letter).1 o' 117):=by
 obtain⟨A,at_,ct,xs,rfl,N,P,hx⟩:=hD
 have w0:=N.w
 refine xlz hp hb hnb func124 fun _ _ _ K=>?_
 refine ax ?_
 refine xj4 rfl rfl (fun h pe=>xvp q fv h _ pe x A D.now.t N.T (xcz N.ok) g a n c vs V hv) ?_
 rintro _ p1 g1 ⟨r,rfl,hr⟩
 have N:=N.mono g1.le
 have P:=P.mono g1.le
 have g:=g.mono g1.le
 obtain⟨tT,zT,Z⟩:=g.pw
 refine cq (fun cc=>?_) (fun cc=>?_)
 ·have e0:askD D q vs letter=(D,wNone):=by unfold askD;rw[if_pos cc]
  refine ax ?_
  exact xqq func124 rfl rfl fun h_ H_=>K _ _ (xej H_ g1 (by rw[e0];exact⟨rfl,A,at_,ct,xs,rfl,N,P,hx⟩))
 refine cq (fun cd=>?_) (fun cd=>?_)
 ·have e0:askD D q vs letter=(D,wWrong):=by unfold askD;rw[if_neg cc,if_pos cd]
  refine ax ?_
  exact xqq func124 rfl rfl fun h_ H_=>K _ _ (xej H_ g1 (by rw[e0];exact⟨rfl,A,at_,ct,xs,rfl,N,P,hx⟩))
 have cd:=Classical.not_not.1 cd
 have e0:askD D q vs letter=(if letter≠[]then keepD D letter (askQ q D.now.t vs).1 else D,(askQ q D.now.t vs).1.text):=by unfold askD;rw[if_neg cc,if_neg (by rw[cd];simp)]
 rw[e0]at K
 have hR:=hR cd
 clear cc cd e0 hv V x
 generalize (askQ q D.now.t vs).1=R at*
 refine ax ?_
 refine xgj (fun l' p_ L_=>∃d2:Snap,l'=[(9,none,r)]/\p_=p1/\L_=[[(b,.cells (dkc A d2 (.slice at_ xs.length ct)).toArray 117 (0,0))]]/\SnP p1 A d2/\({D with now:=d2}:Dsk)=if letter≠[]then keepD D letter R else D) ?_ fun k' H=>?_
 ·rintro _ p1 _ ⟨d2,rfl,rfl,rfl,N2,hd2⟩
  refine ax ?_
  have fin:∀{h_:Heap},St h [b] p1 h_ (List.flatten [[(b,.cells (dkc A d2 (.slice at_ xs.length ct)).toArray 117 (0,0))]])->TurnR p h b (fun v p' o'=>v=sv R.text/\DkP p' (if letter≠[]then keepD D letter R else D) o' 117) (sv R.text) h_:=fun H_=>xej H_ g1 (by rw[<- hd2];exact⟨rfl,A,at_,ct,xs,rfl,N2,P,hx⟩)
  cases R with
  |num n=>
    cases hr
    refine ylq rfl rfl (g:=382) (by kernel_rfl) (fun h pe=>c382 _ h _ pe n hR Z) ?_
    refine ax ?_
    exact xqq func124 rfl rfl fun h_ H_=>K _ _ (fin H_)
  |spn u v=>
    cases hr
    refine ylq rfl rfl (g:=389) (by kernel_rfl) (fun h pe=>c389 _ h _ pe u v hR.1 hR.2 Z) ?_
    refine ax ?_
    exact xqq func124 rfl rfl fun h_ H_=>K _ _ (fin H_)
  |lst l=>
    obtain⟨a2,c2,rfl,I⟩:=hr
    refine ylq rfl rfl (g:=383) (by kernel_rfl) (fun h pe=>c383 _ h _ pe a2 _ c2 l I hR.1 hR.2 Z) ?_
    refine ax ?_
    exact xqq func124 rfl rfl fun h_ H_=>K _ _ (fin H_)
 refine xiq rfl (fun ce=>?_) (fun ce=>?_)
 ·refine ax ?_
  cases R with
  |num n=>
    cases hr
    refine ydh rfl underlying265 (z:=.int .i64 0) (by kernel_rfl) (if_pos rfl) ?_
    refine ax ?_
    refine xiq rfl (fun _=>?_) (fun cf=>absurd trivial cf)
    refine ax ?_
    have il:=hl.resolve_left ce
    obtain⟨e1,e2,e3⟩:=yrf il
    have e4:(((letter.getD (Int.toNat 0) 0).toNat:Nat):Int)-97=((ltrI letter:Nat):Int):=by show(((letter.getD 0 0).toNat:Nat):Int)-97=_;omega
    have e5:((letter.getD (Int.toNat 0) 0).toNat:Int)<=122/\(97:Int)<=((letter.getD (Int.toNat 0) 0).toNat:Int):=by show((letter.getD 0 0).toNat:Int)<=122/\_<=((letter.getD 0 0).toNat:Int);omega
    refine xgb [13] [0,1,2,3,4,5,6,7,8,9,10,11,12,14,15,16,13] b ?_
    refine ex ?_
    refine xek rfl rfl rfl rfl trivial trivial ⟨by decide,om⟩ ?_
    refine ex ?_
    refine xvc rfl rfl rfl ⟨wr8 om,trivial⟩ ?_
    rw[e4]
    refine ex ?_
    refine xek rfl rfl rfl rfl trivial trivial ⟨by decide,om⟩ ?_
    refine ex ?_
    refine xvc rfl rfl rfl ⟨wr8 om,trivial⟩ ?_
    rw[e4]
    refine ex ?_
    refine yos (j:=ltrI letter) underlying112 rfl rfl rfl e2 ?_
    refine ex ?_
    refine xuh rfl rfl rfl ?_ (hlen:=by rw[xyc w0];show 0+11+0+ltrI letter*1+1<=64;omega)
    refine ex ?_
    refine ax ?_
    have w1:({D.now with nums:=D.now.nums.set (ltrI letter) n}:Snap).wf:=⟨by rw[List.length_set];exact w0.1,w0.2⟩
    refine xmr (LL':=[[(b,.cells (dkc A {D.now with nums:=D.now.nums.set (ltrI letter) n} (.slice at_ xs.length ct)).toArray 117 (0,0))]]) ?_ (fun _ s=>by
     have e:setl (dkc A D.now (.slice at_ xs.length ct)) (0+11+0+ltrI letter*1) [.int .i64 n]=dkc A {D.now with nums:=D.now.nums.set (ltrI letter) n} (.slice at_ xs.length ct):=by
      rw[show 0+11+0+ltrI letter*1=11+ltrI letter by omega];exact yom w0 e2
     rw[<- e];exact s)
    refine xi4 (i:=ltrI letter) underlying112 rfl rfl e2 ?_
    refine xtc rfl rfl ?_ rfl rfl (by rw[xyc w1];show 0+11+26+ltrI letter*1+1<=64;omega)
    refine ax ?_
    refine xhw (LL':=[[(b,.cells (dkc A {D.now with nums:=D.now.nums.set (ltrI letter) n,kept:=D.now.kept.set (ltrI letter) 1} (.slice at_ xs.length ct)).toArray 117 (0,0))]]) ?_ (fun _ s=>by
     have e:setl (dkc A {D.now with nums:=D.now.nums.set (ltrI letter) n} (.slice at_ xs.length ct)) (0+11+26+ltrI letter*1) [.int .i64 1]=dkc A {D.now with nums:=D.now.nums.set (ltrI letter) n,kept:=D.now.kept.set (ltrI letter) 1} (.slice at_ xs.length ct):=by
      rw[show 0+11+26+ltrI letter*1=37+ltrI letter by omega];exact ynm w1 e2
     rw[<- e];exact s)
    exact xnq (H _ _ _ ⟨{D.now with nums:=D.now.nums.set (ltrI letter) n,kept:=D.now.kept.set (ltrI letter) 1},rfl,rfl,rfl,⟨N.T,N.ok,⟨w1.1,by show(D.now.kept.set _ _).length=26;rw[List.length_set];exact w0.2⟩⟩,by rw[if_pos ce];rfl⟩)
  |spn u v=>
    cases hr
    refine ydh rfl underlying265 (z:=.int .i64 0) (by kernel_rfl) (if_neg (by decide)) ?_
    refine ax ?_
    refine xiq rfl (fun cf=>absurd cf id) (fun _=>?_)
    refine ax ?_
    exact xnq (H _ _ _ ⟨D.now,rfl,rfl,rfl,N,by rw[if_pos ce];rfl⟩)
  |lst l=>
    obtain⟨a2,c2,rfl,I⟩:=hr
    refine ydh rfl underlying265 (z:=.int .i64 0) (by kernel_rfl) (if_neg (by decide)) ?_
    refine ax ?_
    refine xiq rfl (fun cf=>absurd cf id) (fun _=>?_)
    refine ax ?_
    exact xnq (H _ _ _ ⟨D.now,rfl,rfl,rfl,N,by rw[if_pos ce];rfl⟩)
 ·refine ax ?_
  exact xnq (H _ _ _ ⟨D.now,rfl,rfl,rfl,N,by rw[if_neg ce]⟩)
end Go.Proofs.YtjcakmlipohaeaaGreatDoor
namespace Go.X.Ms
theorem yog{n:Nat}:∀c∈txt (n:Int),isDig c=true:=by
 have e:txt (n:Int)=txtN n:=by unfold txt;rw[if_neg om,Int.natAbs_natCast]
 rw[e]
 exact xdc
theorem ymg{n:Nat}{d:UInt8}(h:txt (n:Int)=[d]):n+48=d.toNat:=by
 have e:txt (n:Int)=txtN n:=by unfold txt;rw[if_neg om,Int.natAbs_natCast]
 rw[e]at h
 by_cases h10:n<10
 ·rw[xpj h10]at h
  have h:UInt8.ofNat (48+n)=d:=List.head_eq_of_cons_eq h
  rw[<- h]
  have:(48+n)%256=48+n:=Nat.mod_eq_of_lt om
  show _=(48+n)%256
  omega
 ·have:=xqw (k:=1) (n:=n) om
  rw[h]at this
  simp at this
theorem xwx{w u:Str}{x d:UInt8}{n:Nat}(h:w++txt (n:Int)=u++[x,d])(hx:isDig x=false):n+48=d.toNat:=by
 have h1:=congrArg List.reverse h
 rw[List.reverse_append,List.reverse_append]at h1
 have hp:=xn1 (n:Int)
 have hd:=yog (n:=n)
 have hr:∀c∈(txt (n:Int)).reverse,isDig c=true:=fun c hc=>hd c (List.mem_reverse.1 hc)
 cases e:(txt (n:Int)).reverse with
 |nil=>have:=congrArg List.length e;rw[List.length_reverse]at this;simp at this;rw[this]at hp;simp at hp
 |cons y t=>
   rw[e]at h1 hr
   have h2:y::(t++w.reverse)=d::x::u.reverse:=h1
   injection h2 with e1 e2
   subst e1
   cases t with
   |nil=>
     refine ymg ?_
     have:=congrArg List.reverse e
     rwa[List.reverse_reverse]at this
   |cons z t=>
     injection e2 with e3 e4
     have:=hr z (by simp)
     rw[e3,hx]at this
     cases this
theorem yft{w:Str}{n:Nat}{q:Qn}(h:qn (w++txt (n:Int))=some q):n=q.ar:=by
 unfold qn at h
 by_cases c0:w++txt (n:Int)=[102,101,119,101,115,116,48]
 ·rw[if_pos c0]at h
  cases h
  have:=xwx (u:=[102,101,119,101,115]) c0 (by decide)
  show n=0
  have e:(48:UInt8).toNat=48:=rfl
  omega
 rw[if_neg c0]at h
 by_cases c1:w++txt (n:Int)=[99,104,101,97,112,48]
 ·rw[if_pos c1]at h
  cases h
  have:=xwx (u:=[99,104,101,97]) c1 (by decide)
  show n=0
  have e:(48:UInt8).toNat=48:=rfl
  omega
 rw[if_neg c1]at h
 by_cases c2:w++txt (n:Int)=[100,101,101,112,49]
 ·rw[if_pos c2]at h
  cases h
  have:=xwx (u:=[100,101,101]) c2 (by decide)
  show n=1
  have e:(49:UInt8).toNat=49:=rfl
  omega
 rw[if_neg c2]at h
 by_cases c3:w++txt (n:Int)=[110,101,120,116,49]
 ·rw[if_pos c3]at h
  cases h
  have:=xwx (u:=[110,101,120]) c3 (by decide)
  show n=1
  have e:(49:UInt8).toNat=49:=rfl
  omega
 rw[if_neg c3]at h
 by_cases c4:w++txt (n:Int)=[109,111,115,116,48]
 ·rw[if_pos c4]at h
  cases h
  have:=xwx (u:=[109,111,115]) c4 (by decide)
  show n=0
  have e:(48:UInt8).toNat=48:=rfl
  omega
 rw[if_neg c4]at h
 by_cases c5:w++txt (n:Int)=[108,97,99,107,115,48]
 ·rw[if_pos c5]at h
  cases h
  have:=xwx (u:=[108,97,99,107]) c5 (by decide)
  show n=0
  have e:(48:UInt8).toNat=48:=rfl
  omega
 rw[if_neg c5]at h
 by_cases c6:w++txt (n:Int)=[100,114,97,119,115,49]
 ·rw[if_pos c6]at h
  cases h
  have:=xwx (u:=[100,114,97,119]) c6 (by decide)
  show n=1
  have e:(49:UInt8).toNat=49:=rfl
  omega
 rw[if_neg c6]at h
 by_cases c7:w++txt (n:Int)=[100,114,121,49]
 ·rw[if_pos c7]at h
  cases h
  have:=xwx (u:=[100,114]) c7 (by decide)
  show n=1
  have e:(49:UInt8).toNat=49:=rfl
  omega
 rw[if_neg c7]at h
 by_cases c8:w++txt (n:Int)=[115,104,111,114,116,48]
 ·rw[if_pos c8]at h
  cases h
  have:=xwx (u:=[115,104,111,114]) c8 (by decide)
  show n=0
  have e:(48:UInt8).toNat=48:=rfl
  omega
 rw[if_neg c8]at h
 by_cases c9:w++txt (n:Int)=[101,109,112,116,121,48]
 ·rw[if_pos c9]at h
  cases h
  have:=xwx (u:=[101,109,112,116]) c9 (by decide)
  show n=0
  have e:(48:UInt8).toNat=48:=rfl
  omega
 rw[if_neg c9]at h
 by_cases c10:w++txt (n:Int)=[108,101,97,115,116,48]
 ·rw[if_pos c10]at h
  cases h
  have:=xwx (u:=[108,101,97,115]) c10 (by decide)
  show n=0
  have e:(48:UInt8).toNat=48:=rfl
  omega
 rw[if_neg c10]at h
 by_cases c11:w++txt (n:Int)=[114,97,116,105,111,110,48]
 ·rw[if_pos c11]at h
  cases h
  have:=xwx (u:=[114,97,116,105,111]) c11 (by decide)
  show n=0
  have e:(48:UInt8).toNat=48:=rfl
  omega
 rw[if_neg c11]at h
 by_cases c12:w++txt (n:Int)=[115,112,97,114,101,49]
 ·rw[if_pos c12]at h
  cases h
  have:=xwx (u:=[115,112,97,114]) c12 (by decide)
  show n=1
  have e:(49:UInt8).toNat=49:=rfl
  omega
 rw[if_neg c12]at h
 by_cases c13:w++txt (n:Int)=[108,101,118,101,108,49]
 ·rw[if_pos c13]at h
  cases h
  have:=xwx (u:=[108,101,118,101]) c13 (by decide)
  show n=1
  have e:(49:UInt8).toNat=49:=rfl
  omega
 rw[if_neg c13]at h
 cases h
theorem yit{w:Str}{n:Nat}{q:Od}(h:od (w++txt (n:Int))=some q):n=q.ar:=by
 unfold od at h
 by_cases c0:w++txt (n:Int)=[114,111,99,107,52]
 ·rw[if_pos c0]at h
  cases h
  have:=xwx (u:=[114,111,99]) c0 (by decide)
  show n=4
  have e:(52:UInt8).toNat=52:=rfl
  omega
 rw[if_neg c0]at h
 by_cases c1:w++txt (n:Int)=[102,111,111,116,49]
 ·rw[if_pos c1]at h
  cases h
  have:=xwx (u:=[102,111,111]) c1 (by decide)
  show n=1
  have e:(49:UInt8).toNat=49:=rfl
  omega
 rw[if_neg c1]at h
 by_cases c2:w++txt (n:Int)=[117,112,48]
 ·rw[if_pos c2]at h
  cases h
  have:=xwx (u:=[117]) c2 (by decide)
  show n=0
  have e:(48:UInt8).toNat=48:=rfl
  omega
 rw[if_neg c2]at h
 by_cases c3:w++txt (n:Int)=[104,111,117,115,101,49]
 ·rw[if_pos c3]at h
  cases h
  have:=xwx (u:=[104,111,117,115]) c3 (by decide)
  show n=1
  have e:(49:UInt8).toNat=49:=rfl
  omega
 rw[if_neg c3]at h
 by_cases c4:w++txt (n:Int)=[119,101,108,108,49]
 ·rw[if_pos c4]at h
  cases h
  have:=xwx (u:=[119,101,108]) c4 (by decide)
  show n=1
  have e:(49:UInt8).toNat=49:=rfl
  omega
 rw[if_neg c4]at h
 by_cases c5:w++txt (n:Int)=[119,97,110,116,50]
 ·rw[if_pos c5]at h
  cases h
  have:=xwx (u:=[119,97,110]) c5 (by decide)
  show n=2
  have e:(50:UInt8).toNat=50:=rfl
  omega
 rw[if_neg c5]at h
 by_cases c6:w++txt (n:Int)=[104,97,115,50]
 ·rw[if_pos c6]at h
  cases h
  have:=xwx (u:=[104,97]) c6 (by decide)
  show n=2
  have e:(50:UInt8).toNat=50:=rfl
  omega
 rw[if_neg c6]at h
 by_cases c7:w++txt (n:Int)=[119,97,121,50]
 ·rw[if_pos c7]at h
  cases h
  have:=xwx (u:=[119,97]) c7 (by decide)
  show n=2
  have e:(50:UInt8).toNat=50:=rfl
  omega
 rw[if_neg c7]at h
 by_cases c8:w++txt (n:Int)=[100,97,121,51]
 ·rw[if_pos c8]at h
  cases h
  have:=xwx (u:=[100,97]) c8 (by decide)
  show n=3
  have e:(51:UInt8).toNat=51:=rfl
  omega
 rw[if_neg c8]at h
 by_cases c9:w++txt (n:Int)=[115,105,122,101,49]
 ·rw[if_pos c9]at h
  cases h
  have:=xwx (u:=[115,105,122]) c9 (by decide)
  show n=1
  have e:(49:UInt8).toNat=49:=rfl
  omega
 rw[if_neg c9]at h
 cases h
theorem xfc:∀{s x:Str},x∈splitS s->x.length<=s.length
 |[],x,h=>by simp[splitS]at h;subst h;exact Nat.le_refl _
 |c::s,x,h=>by
   rw[splitS]at h
   split at h
   ·rcases List.mem_cons.1 h with rfl|h
    ·exact Nat.zero_le _
    ·have:=xfc h;simp;omega
   ·rcases List.mem_cons.1 h with rfl|h
    ·have:(splitS s).headD []∈splitS s:=by
      cases e:splitS s with
      |nil=>exact absurd e (xpl s)
      |cons a t=>simp
     have:=xfc this
     simp only[List.length_cons];omega
    ·have:=xfc (List.mem_of_mem_tail h);simp;omega
theorem xe1{p:PHeap}{a:Option Addr}{n c:Nat}{xs:List Str}(S:Strs p a n xs)(j:Nat)(hj:j<=n)(hc:n<=c):Strs p (cutA a c j 1) (n-j) (xs.drop j):=by
 have hl:=S.len
 have z:=Sl.cut (lo:=j) (hi:=n) (a':=cutA a c j 1) S hj (Nat.le_refl _) fun h=>by
  have e:=Strs.ne S om
  rw[e,xzc om];rfl
 have e:((scs xs).drop j).take (n-j)=scs (xs.drop j):=by
  rw[List.take_of_length_le (by rw[List.length_drop,xuq];omega)]
  simp[scs]
 rw[e]at z
 exact z
theorem xi9{o:Od}{t t':Twn}{a:List Int}{n:Nat}(h:turnO o t a=some t')(hn:t.fit n):t'.fit (n+1):=by
 obtain⟨⟨h1,h2⟩,⟨h3,h4,h5⟩,h6⟩:=hn
 have set:∀{l l':List Int}{i x:Int},setL l i x=some l'->l'.length=l.length:=fun{l l' i x}e=>by
  unfold setL at e
  split at e
  ·cases e;simp
  ·cases e
 unfold Flow.Tn.nH at h3
 unfold Flow.Tn.nW at h4
 unfold Flow.Tn.m at h5
 cases o<;>simp only[turnO]at h
 case up=>
  split at h
  ·cases h
  ·cases h
   refine⟨⟨?_,?_⟩,⟨?_,?_,?_⟩,?_⟩<;>first|(simp only[Flow.Tn.nH,Flow.Tn.nW,Flow.Tn.m,List.length_take];omega)|omega
 case want=>
  obtain⟨l,e,rfl⟩:=Option.map_eq_some_iff.1 h
  have:=set e
  refine⟨⟨?_,?_⟩,⟨?_,?_,?_⟩,?_⟩<;>first|(simp only[Flow.Tn.nH,Flow.Tn.nW,Flow.Tn.m];omega)|omega
 case has=>
  obtain⟨l,e,rfl⟩:=Option.map_eq_some_iff.1 h
  have:=set e
  refine⟨⟨?_,?_⟩,⟨?_,?_,?_⟩,?_⟩<;>first|(simp only[Flow.Tn.nH,Flow.Tn.nW,Flow.Tn.m];omega)|omega
 all_goals
  cases h
  refine⟨⟨?_,?_⟩,⟨?_,?_,?_⟩,?_⟩<;>first|(simp only[Flow.Tn.nH,Flow.Tn.nW,Flow.Tn.m,insW,List.length_append,List.length_cons,List.length_nil,List.length_take,List.length_drop];omega)|omega
theorem xxv(D:Dsk)(letter word:Str)(args:List Str):lineD D letter (word::args)=if args.all clearS=false\/(qn (word++txt args.length)=none/\(letter≠[]\/(od (word++txt args.length)=none/\opensW word args.length=false)))then(D,wWhat)
 else match valsS D.now args with
  |none=>(D,wUnknown)
  |some vs=>match qn (word++txt args.length)with
    |some q=>askD D q vs letter
    |none=>if opensW word args.length=true then((tryD D word).1,doneW (tryD D word).2)
      else match od (word++txt args.length)with
       |none=>(D,wNo)
       |some o=>match turnO o D.now.t vs with
         |none=>(D,wNo)
         |some t=>if chkT t=0 then({D with now:={D.now with t:=t}},wOk)else(D,wNo):=rfl
end Go.X.Ms
namespace Go.Proofs.YtjcakmlipohaeaaGreatDoor
open Go.Proofs.Tryz
open Go.X Go.X.Ms Go.Conc
set_option maxHeartbeats 1000000 in
theorem c59(h:Heap)(p:PHeap)(hp:Per p h)(b:Nat)(D:Dsk)(ob:Obj)(hD:DkP p D ob 117)(hb:h[b]?=some ob)(hnb:p b=none)(g:GlP p)(line:Str)(hl:line.length<=900)(hn:D.past.length<=900)
 (hR:∀q t vs,chkT t=0->(askQ q t vs).2=0->(askQ q t vs).1.ok):
 CallsX prog (.main true) 59 #[.pointer (some ⟨b,0,none⟩),sv line] h (TurnR p h b fun v p' o'=>v=sv (doD D line).2/\DkP p' (doD D line).1 o' 117):=by
 refine xlz hp hb hnb func59 fun _ _ _ K=>?_
 refine ax ?_
 refine xrz rfl rfl (fun h pe=>c118 _ h _ pe line hl) ?_
 rintro _ p1 g1 ⟨a,c,rfl,hc,S⟩
 have hD:=hD
 obtain⟨A,at_,ct,xs,rfl,N,P,hx⟩:=hD
 have N:=N.mono g1.le
 have P:=P.mono g1.le
 have g:=g.mono g1.le
 have w0:=N.w
 have hpos:0<(splitS line).length:=List.length_pos_iff.2 (xpl line)
 have hmem:∀s∈splitS line,s.length<=900:=fun s hs=>Nat.le_trans (xfc hs) hl
 have hnl:(splitS line).length<=901:=by rw[xpk];have:=List.count_le_length (a:=(32:UInt8)) (l:=line);omega
 have S1:Sl p1 a (splitS line).length 1 (scs (splitS line)):=S
 have hdo:doD D line=if(splitS line).headD []=wKeep then(if(splitS line).length<3\/isLet ((splitS line).getD 1 [])=false then(D,wWhat)else lineD D ((splitS line).getD 1 []) ((splitS line).drop 2))else lineD D [] (splitS line):=rfl
 generalize splitS line=ps at*
 have h0:ps.headD []=ps.getD 0 []:=by cases ps<;>rfl
 rw[h0]at hdo
 rw[hdo]at K
 clear hdo h0
 refine ax ?_
 refine xvk rfl (Strs.get S hpos) ?_
 refine ax ?_
 refine xgj (fun l' p_ L_=>∃(a2:Option Addr)(c2:Nat)(qs:List Str)(letter:Str),l'=[(0,none,.pointer (some ⟨b,0,none⟩)),(5,none,.slice a2 qs.length c2),(6,none,sv letter)]/\p_=p1/\L_=[[(b,.cells (dkc A D.now (.slice at_ xs.length ct)).toArray 117 (0,0))]]/\Strs p1 a2 qs.length qs/\0<qs.length/\qs.length<=c2/\qs.length<=901/\(∀s∈qs,s.length<=900)/\(letter=[]\/isLet letter=true)/\
  (if ps.getD 0 []=wKeep then(if ps.length<3\/isLet (ps.getD 1 [])=false then(D,wWhat)else lineD D (ps.getD 1 []) (ps.drop 2))else lineD D [] ps)=lineD D letter qs) ?_ fun k' H=>?_
 ·rintro _ p1 _ ⟨a2,c2,qs,letter,rfl,rfl,rfl,S2,hq0,hqc,hqn,hqm,hlt,eL⟩
  rw[eL]at K
  have S3:Sl p1 a2 qs.length 1 (scs qs):=S2
  obtain⟨tT,zT,Z⟩:=g.pw
  obtain⟨te,ue,tE,zE,E⟩:=g.es
  obtain⟨tr',ur,tR,zR,R⟩:=g.er
  have h0:qs.headD []=qs.getD 0 []:=by cases qs<;>rfl
  have hw9:(qs.getD 0 []).length<=900:=by
   cases qs with
   |nil=>exact absurd hq0 (by simp)
   |cons x t=>exact hqm x (by simp)
  have hS4:=xe1 S2 1 om hqc
  refine ax ?_
  refine xjx [] R6 ?_
  refine ex ?_
  refine xag rfl rfl (Strs.get S2 (i:=0) om) ?_
  refine ex ?_
  refine xpp (j:=1) rfl rfl rfl ⟨om,om⟩ ?_
  refine ex ?_
  refine ax ?_
  have eT:qs.drop 1=qs.tail:=List.drop_one
  rw[eT]at hS4
  have hat:(qs.tail).length=qs.length-1:=List.length_tail
  rw[<- hat]at hS4⊢
  have hLD:lineD D letter qs=lineD D letter (qs.getD 0 []::qs.tail):=by rw[<- h0];cases qs with|nil=>exact absurd hq0 (by simp)|cons x t=>rfl
  rw[hLD]at K
  have htm:∀s∈qs.tail,s.length<=900:=fun s hs=>hqm s (List.mem_of_mem_tail hs)
  have htn:qs.tail.length<=900:=om
  generalize qs.getD 0 []=word at*
  generalize qs.tail=args at*
  generalize cutA a2 c2 1 1=a3 at*
  generalize c2-1=c3 at*
  clear S3 S2 hLD h0 eT hat eL hq0 hqc hqn hqm
  refine xrz rfl rfl (fun h pe=>c120 _ h _ pe word hw9 args.length htn Z) ?_
  intro fv p2 g2 hfv
  refine ax ?_
  refine xlq rfl rfl (fun _ pe=>c121 _ _ _ pe word hw9 args.length htn (g2.le _ _ Z)) ?_
  refine ax ?_
  have hop:(decide (((args.length:Nat):Int)=0)&&(decide (word=[98,101,103,105,110])||decide (word=[101,110,100])||decide (word=[100,114,111,112])))=opensW word args.length:=by
   unfold opensW
   congr 1
   rw[Bool.eq_iff_iff];simp
  refine xzd (l':=[(0,none,.pointer (some ⟨b,0,none⟩)),(6,none,sv letter),(7,none,sv word),(8,none,.slice a3 args.length c3),(9,none,fv),(10,none,ordV (od (word++txt args.length))),(11,none,.bool (opensW word args.length)),(64,none,.slice a3 args.length c3)]) ?_ ⟨rfl,rfl,rfl,rfl,rfl,rfl,by rw[<- hop];rfl,rfl,trivial⟩
  have hF:(fv=.nilFunc\/ ∃f a b,fv=.func f a b)/\isNilF fv=(qn (word++txt args.length)).isNone:=by
   cases e:qn (word++txt args.length)with
   |none=>rw[e]at hfv;exact⟨.inl hfv,by rw[hfv];rfl⟩
   |some q=>rw[e]at hfv;obtain⟨b',T,z,rfl,_⟩:=hfv;exact⟨.inr ⟨_,_,_,rfl⟩,rfl⟩
  have hO:(ordV (od (word++txt args.length))=.nilFunc\/ ∃f a b,ordV (od (word++txt args.length))=.func f a b)/\isNilF (ordV (od (word++txt args.length)))=(od (word++txt args.length)).isNone:=by
   cases od (word++txt args.length)with
   |none=>exact⟨.inl rfl,rfl⟩
   |some o=>cases o<;>exact⟨.inr ⟨_,_,_,rfl⟩,rfl⟩
  refine xlq rfl rfl (fun _ pe=>c122 _ _ _ pe a3 _ c3 args (Strs.mono g2.le hS4) om htm (g2.le _ _ E) (g2.le _ _ R) (g2.le _ _ Z)) ?_
  refine ax ?_
  refine yif rfl rfl sdu hF.1 underlying192 ?_
  refine ax ?_
  refine yif rfl rfl sdu hO.1 underlying195 ?_
  refine ax ?_
  rw[hF.2,hO.2]
  refine xiq rfl (fun cd=>?_) (fun cd=>?_)
  ·have e0:lineD D letter (word::args)=(D,wWhat):=by
    rw[xxv,if_pos (by simpa using cd)]
   rw[e0]at K
   refine ax ?_
   exact xqq func59 rfl rfl fun _ H_=>K _ _ (xej H_ (g1.trans g2) ⟨rfl,A,at_,ct,xs,rfl,N.mono g2.le,P.mono g2.le,hx⟩)
  have hcl:∀s∈args,clearS s=true:=by
   have:args.all clearS=true:=by
    cases e:args.all clearS with
    |true=>rfl
    |false=>exact absurd (.inl (by rw[e];simp)) cd
   simpa using this
  rw[xxv,if_neg (by simpa using cd)]at K
  have N:=N.mono g2.le
  have P:=P.mono g2.le
  have g:=g.mono g2.le
  refine ax ?_
  refine xvt rfl rfl (fun h pe hb hnb=>c123 _ h _ pe b A D.now _ w0 hb hnb g a3 _ c3 args (Strs.mono g2.le hS4) om htm hcl) fun v p3 o3 g3 q3=>?_
  obtain⟨rfl,q3⟩:=q3
  have N:=N.mono g3.le
  have P:=P.mono g3.le
  have g:=g.mono g3.le
  have gg:=(g1.trans g2).trans g3
  cases hvs:valsS D.now args with
  |none=>
    rw[hvs]at K q3
    obtain rfl:v=.tuple #[.slice none 0 0,.bool false]:=q3
    refine ax ?_
    refine xiq rfl (fun _=>?_) (fun ce=>absurd (by simp) ce)
    refine ax ?_
    exact xqq func59 rfl rfl fun _ H_=>K _ _ (xej H_ gg ⟨rfl,A,at_,ct,xs,rfl,N,P,hx⟩)
  |some vs=>
    rw[hvs]at K q3
    obtain⟨a4,c4,rfl,V⟩:=q3
    have hvl:=xvd D.now hvs
    refine ax ?_
    refine xiq rfl (fun ce=>absurd ce (by simp)) (fun _=>?_)
    refine ax ?_
    refine ydp rfl rfl sdu hF.1 underlying192 ?_
    refine ax ?_
    rw[hF.2]
    cases hq:qn (word++txt args.length)with
    |some q=>
      rw[hq]at K hfv
      refine xiq rfl (fun _=>?_) (fun ce=>absurd (by simp) ce)
      refine ax ?_
      refine xvt rfl rfl (fun h pe hb hnb=>c124 h _ pe b D _ ⟨A,at_,ct,xs,rfl,N,P,hx⟩ hb hnb g q fv (AskV.mono hfv g3.le) a4 _ c4 vs V (by rw[hvl];exact yft hq) letter hlt (hR q D.now.t vs N.ok)) fun v p4 o4 g4 q4=>?_
      obtain⟨rfl,q4⟩:=q4
      refine ax ?_
      exact xqq func59 rfl rfl fun _ H_=>K _ _ (xej H_ (gg.trans g4) ⟨rfl,q4⟩)
    |none=>
      rw[hq]at K hfv
      refine xiq rfl (fun ce=>absurd ce (by simp)) (fun _=>?_)
      refine cq (fun ce=>?_) (fun ce=>?_)
      ·simp only[if_pos ce]at K
       refine ax ?_
       refine xvt rfl rfl (fun h pe hb hnb=>c126 _ h _ pe b D _ ⟨A,at_,ct,xs,rfl,N,P,hx⟩ hb hnb word om) fun v p4 o4 g4 q4=>?_
       obtain⟨rfl,q4⟩:=q4
       refine ax ?_
       refine xlq rfl rfl (fun _ pe=>c125 _ _ _ pe _) ?_
       refine ax ?_
       exact xqq func59 rfl rfl fun _ H_=>K _ _ (xej H_ (gg.trans g4) ⟨rfl,q4⟩)
      simp only[if_neg ce]at K
      cases ho:od (word++txt args.length)with
      |none=>exact absurd (.inr ⟨by rw[hq];rfl,.inr ⟨by rw[ho];rfl,ce⟩⟩) cd
      |some o=>
        rw[ho]at K
        simp only at K
        refine lq fun b14=>?_
        refine ax ?_
        refine xmr (LL':=[[(b14,.cells (tcs A D.now.t).toArray 33 (0,0))],[(b,.cells (dkc A D.now (.slice at_ xs.length ct)).toArray 117 (0,0))]]) ?_ (fun _ s=>s)
        refine yip (b:=b14) (Q:=turnQ o D.now.t vs) rfl rfl (fun h pe hb hnb=>yjr _ o h _ pe b14 A D.now.t hb hnb N.T ⟨⟨by have:=(xcz N.ok).1.1;omega,by have:=(xcz N.ok).1.2;omega⟩,⟨by have:=(xcz N.ok).2.1.1;omega,by have:=(xcz N.ok).2.1.2.1;omega,by have:=(xcz N.ok).2.1.2.2;omega⟩,by have:=(xcz N.ok).2.2;omega⟩ a4 _ c4 vs V (by rw[hvl];exact yit ho)) fun v p4 o4 g4 q4=>?_
        have N:=N.mono g4.le
        have P:=P.mono g4.le
        have gg:=gg.trans g4
        unfold turnQ at q4
        cases ht:turnO o D.now.t vs with
        |none=>
          rw[ht]at K q4
          simp only at K
          obtain rfl:v=.bool false:=q4
          refine ax ?_
          refine xkg (.bool false) rfl ?_
          refine xkg (.int .i64 0) rfl ?_
          refine xkg (.bool false) rfl ?_
          refine ax ?_
          refine xiq rfl (fun _=>?_) (fun cf=>absurd (by simp) cf)
          refine ax ?_
          refine xlq rfl rfl (fun _ pe=>c125 _ _ _ pe false) ?_
          refine ax ?_
          exact xqq func59 rfl rfl fun _ H_=>K _ _ (xej H_ gg ⟨rfl,A,at_,ct,xs,rfl,N,P,hx⟩)
        |some t'=>
          rw[ht]at K q4
          simp only at K
          obtain⟨rfl,A',rfl,T'⟩:=q4
          have hf:=xi9 ht (xcz N.ok)
          refine ax ?_
          refine xvq rfl rfl rfl sdu (fun _ _ pe=>c58 _ _ _ pe A' t' T' ⟨⟨by have:=hf.1.1;omega,by have:=hf.1.2;omega⟩,⟨by have:=hf.2.1.1;omega,by have:=hf.2.1.2.1;omega,by have:=hf.2.1.2.2;omega⟩,by have:=hf.2.2;omega⟩) ?_
          refine cq (fun cf=>?_) (fun cf=>?_)
          ·have hc0:¬ chkT t'=0:=by simpa using cf
           simp only[if_neg hc0]at K
           refine ax ?_
           refine xlq rfl rfl (fun _ pe=>c125 _ _ _ pe false) ?_
           refine ax ?_
           exact xqq func59 rfl rfl fun _ H_=>K _ _ (xej H_ gg ⟨rfl,A,at_,ct,xs,rfl,N,P,hx⟩)
          ·have hc0:chkT t'=0:=by simpa using cf
           simp only[if_pos hc0]at K
           refine ax ?_
           refine xlq rfl rfl (fun _ pe=>c125 _ _ _ pe true) ?_
           refine ax ?_
           exact xqq func59 rfl rfl fun _ H_=>K _ _ (xej H_ gg ⟨rfl,A',at_,ct,xs,congrArg (fun l=>Obj.cells (List.toArray l) _ (0,0)) xz2,⟨T',hc0,N.w⟩,P,hx⟩)
 refine xiq rfl (fun cc=>?_) (fun cc=>?_)
 ·refine ax ?_
  refine xsb rfl rfl rfl sdu sdu (fun hc=>⟨⟨by decide,by simp at hc;omega⟩,Sl.ne S1 hpos⟩) ?_
  refine xgw (u:=sv (ps.getD 1 [])) rfl rfl sdu (fun hc=>Strs.get S (by simp at hc;omega)) ?_
  refine xvq rfl rfl rfl sdu (fun _ _ pe=>c119 _ _ _ pe (ps.getD 1 [])) ?_
  refine cq (fun cd=>?_) (fun cd=>?_)
  ·have e0:(if ps.getD 0 []=wKeep then(if ps.length<3\/isLet (ps.getD 1 [])=false then(D,wWhat)else lineD D (ps.getD 1 []) (ps.drop 2))else lineD D [] ps)=(D,wWhat):=by
    rw[if_pos (show ps.getD 0 []=wKeep from cc),if_pos (by simp at cd;rcases cd with z|z;exact .inl om;exact .inr (by simpa using z))]
   rw[e0]at K
   refine ax ?_
   exact xqq func59 rfl rfl fun _ H_=>K _ _ (xej H_ g1 ⟨rfl,A,at_,ct,xs,rfl,N,P,hx⟩)
  have hd3:3<=ps.length/\isLet (ps.getD 1 [])=true:=by
   simp at cd;exact⟨om,by simpa using cd.2⟩
  refine ax ?_
  refine xjx [] R6 ?_
  refine ex ?_
  refine xag rfl rfl (Strs.get S (i:=1) om) ?_
  refine ex ?_
  refine xpp (j:=2) rfl rfl rfl ⟨om,om⟩ ?_
  refine ex ?_
  refine ax ?_
  exact xnq (H _ _ _ ⟨cutA a c 2 1,c-2,ps.drop 2,ps.getD 1 [],by rw[List.length_drop],rfl,rfl,by rw[List.length_drop];exact xe1 S 2 om hc,by rw[List.length_drop];omega,by rw[List.length_drop];omega,by rw[List.length_drop];omega,fun s hs=>hmem s (List.mem_of_mem_drop hs),.inr hd3.2,by
   rw[if_pos (show ps.getD 0 []=wKeep from cc),if_neg (by rw[hd3.2];simp;omega)]⟩)
 ·refine ax ?_
  exact xnq (H _ _ _ ⟨a,c,ps,[],rfl,rfl,rfl,S,hpos,hc,hnl,hmem,.inl rfl,by rw[if_neg (show ¬ ps.getD 0 []=wKeep from cc)]⟩)
end Go.Proofs.YtjcakmlipohaeaaGreatDoor
namespace Go.X.Ms
theorem xrt(x:Str):∀(xs:List Str)(d:Dsk),runD d (xs++[x])=((doD (runD d xs).1 x).1,(runD d xs).2++[(doD (runD d xs).1 x).2])
 |[],d=>rfl
 |y::ys,d=>by
   rw[List.cons_append,runD,xrt x ys]
   rfl
theorem xgr:∀(xs:List Str)(d:Dsk),(runD d xs).2.length=xs.length
 |[],_=>rfl
 |x::xs,d=>by rw[runD];simp[xgr xs]
theorem xj9(d:Dsk)(w:Str):(tryD d w).1.past.length<=d.past.length+1:=by
 unfold tryD
 split
 ·simp
 ·split
  ·simp
  ·split<;>simp<;>omega
theorem xb8(d:Dsk)(l:Str)(r:Rs):(keepD d l r).past=d.past:=by cases r<;>rfl
theorem xd1(d:Dsk)(q:Qn)(a:List Int)(l:Str):(askD d q a l).1.past=d.past:=by
 unfold askD
 split
 ·rfl
 ·split
  ·rfl
  ·split
   ·exact xb8 _ _ _
   ·rfl
theorem xfp(d:Dsk)(l w:Str)(args:List Str):(lineD d l (w::args)).1.past.length<=d.past.length+1:=by
 rw[xxv]
 split
 ·simp
 ·cases valsS d.now args with
  |none=>simp
  |some vs=>
    cases qn (w++txt args.length)with
    |some q=>simp only;rw[xd1];omega
    |none=>
      simp only
      split
      ·exact xj9 d w
      ·cases od (w++txt args.length)with
       |none=>simp
       |some o=>
         simp only
         cases turnO o d.now.t vs with
         |none=>simp
         |some t=>simp only;split<;>simp
theorem ybd(d:Dsk)(x:Str):(doD d x).1.past.length<=d.past.length+1:=by
 have e:∀(l:Str)(qs:List Str),(lineD d l qs).1.past.length<=d.past.length+1:=fun l qs=>by
  cases qs with
  |nil=>exact xfp d l [] []
  |cons w args=>exact xfp d l w args
 unfold doD
 simp only
 split
 ·split
  ·simp
  ·exact e _ _
 ·exact e _ _
theorem xst:∀(xs:List Str)(d:Dsk),(runD d xs).1.past.length<=d.past.length+xs.length
 |[],_=>by simp[runD]
 |x::xs,d=>by
   have:=xst xs (doD d x).1
   have:=ybd d x
   rw[runD,List.length_cons]
   simp only
   omega
noncomputable def runR(t:Twn)(ls:List Str):List Str×Twn:=if chkT t≠0\/30<ls.length then([],zT)else((runD (startD t) ls).2,(runD (startD t) ls).1.now.t)
noncomputable def runE(t:Twn)(ls:List Str):Int:=if chkT t≠0 then chkT t else if 30<ls.length then 2 else 0
end Go.X.Ms
namespace Go.Proofs.YtjcakmlipohaeaaGreatDoor
open Go.Proofs.Tryz
open Go.X Go.X.Ms Go.Conc
def runQ(t:Twn)(ls:List Str)(v:Value)(p':PHeap):Prop:=∃(a:Option Addr)(c:Nat)(A:TA),v=.tuple #[.slice a (runR t ls).1.length c,twV A (runR t ls).2,.int .i64 (runE t ls)]/\(runR t ls).1.length<=c/\Strs p' a (runR t ls).1.length (runR t ls).1/\TwP p' A (runR t ls).2
theorem zTwP(p:PHeap):TwP p zA zT:=⟨⟨Sl.nil _ _ _,Sl.nil _ _ _⟩,⟨Sl.nil _ _ _,Sl.nil _ _ _,Sl.nil _ _ _⟩,Sl.nil _ _ _,⟨Nat.le_refl _,Nat.le_refl _⟩,⟨Nat.le_refl _,Nat.le_refl _,Nat.le_refl _⟩,Nat.le_refl _⟩
theorem xy3{t:Twn}{ls:List Str}{p':PHeap}(h:chkT t≠0\/30<ls.length):runQ t ls (.tuple #[.slice none 0 0,twV zA zT,.int .i64 (runE t ls)]) p':=by
 have e:runR t ls=([],zT):=by unfold runR;rw[if_pos h]
 unfold runQ
 rw[e]
 exact⟨none,0,zA,rfl,Nat.le_refl _,Sl.nil _ _ _,zTwP p'⟩
set_option maxHeartbeats 400000 in
theorem c15(h:Heap)(p:PHeap)(hp:Per p h)(A:TA)(t:Twn)(T:TwP p A t)(hn:t.fit (2^20))(g:GlP p)(a:Option Addr)(c:Nat)(ls:List Str)(S:Strs p a ls.length ls)(hls:ls.length<=2^20)(hlm:∀s∈ls,s.length<=900)
 (hR:∀q t vs,chkT t=0->(askQ q t vs).2=0->(askQ q t vs).1.ok):
 CallsX prog (.main true) 15 #[twV A t,.slice a ls.length c] h (LastR p h (runQ t ls)):=by
 refine xez hp func15 fun _ _ _ K=>?_
 refine bq fun b2=>?_
 refine lq fun b5=>?_
 refine ax ?_
 refine xlq rfl rfl (fun _ pe=>c58 _ _ _ pe A t T hn) ?_
 refine cq (fun cc=>?_) (fun cc=>?_)
 ·have eE:runE t ls=chkT t:=by unfold runE;rw[if_pos (by simpa using cc)]
  refine ax ?_
  exact xnz func15 rfl (.tmp rfl (xqx rfl (.tmp rfl .nil))) fun _ H_=>K _ _ (xzx H_ (.refl _ _ _) (by have z:=xy3 (p':=p) (t:=t) (ls:=ls) (.inl (by simpa using cc));rw[eE]at z;exact z))
 have cc:chkT t=0:=by simpa using cc
 refine cq (fun cd=>?_) (fun cd=>?_)
 ·have eE:runE t ls=2:=by unfold runE;rw[if_neg (by rw[cc];simp),if_pos om]
  refine ax ?_
  exact xnz func15 rfl (.tmp rfl (xqx rfl (.tmp rfl .nil))) fun _ H_=>K _ _ (xzx H_ (.refl _ _ _) (by have z:=xy3 (p':=p) (t:=t) (ls:=ls) (.inr om);rw[eE]at z;exact z))
 have h30:ls.length<=30:=om
 refine ax ?_
 refine xzd (l':=[(1,none,.slice a ls.length c),(4,none,.slice none 0 0),(5,none,.pointer (some ⟨b5,0,none⟩)),(22,none,.agg (dkc A (startD t).now (.slice none 0 0)).toArray)]) ?_ ⟨rfl,rfl,rfl,by kernel_rfl,trivial⟩
 refine xtq fun b8=>?_
 refine ax ?_
 have e8:∀z:List Value,z.length=64->setl z 0 (Value.agg (dkc A (startD t).now (.slice none 0 0)).toArray).cells.toList=dkc A (startD t).now (.slice none 0 0):=fun z hz=>xnt (by rw[hz];exact xyc ⟨rfl,rfl⟩)
 refine xfb 9 1 fun o0=>?_
 refine xhw (LL':=[[],[(b8,.cells (dkc A (startD t).now (.slice none 0 0)).toArray 117 (0,0))],[(b5,.cells (tcs zA zT).toArray 33 (0,0))],[(b2,.cells (tcs A t).toArray 33 (0,0))]]) ?_ (fun _ s=>by
  rw[e8 _ (by kernel_rfl)]at s
  exact s)
 have D0:DkP p (startD t) (.cells (dkc A (startD t).now (.slice none 0 0)).toArray 117 (0,0)) 117:=
  ⟨A,none,0,[],rfl,⟨T,cc,rfl,rfl⟩,⟨Nat.le_refl _,Sl.nil _ _ _,by simp⟩,rfl⟩
 refine xpq (fun m_ l p_ L_=>∃(j:Nat)(v:Value)(ob:Obj)(Y:Pcs),m_=ls.length-j/\l=[(4,none,v),(5,none,.pointer (some ⟨b5,0,none⟩)),(8,none,.pointer (some ⟨b8,0,none⟩)),(23,none,.slice a ls.length c),(24,none,.int .i64 ((ls.length:Nat):Int)),(25,none,.int .i64 ((j:Nat):Int))]/\PG h.size [] p p_/\
  L_=[Y,[(b8,ob)],[(b5,.cells (tcs zA zT).toArray 33 (0,0))],[(b2,.cells (tcs A t).toArray 33 (0,0))]]/\j<=ls.length/\OwnS 9 1 v (scs (runD (startD t) (ls.take j)).2) Y/\DkP p_ (runD (startD t) (ls.take j)).1 ob 117)
  ⟨0,_,.cells (dkc A (startD t).now (.slice none 0 0)).toArray 117 (0,0),_,rfl,rfl,.refl _ _ _,rfl,Nat.zero_le _,o0,D0⟩ sb ?_
 clear D0 o0
 rintro _ _ p1 _ IH ⟨j,v,ob,Y,rfl,rfl,g1,rfl,hj,o,hD⟩
 have S1:=Strs.mono g1.le S
 have S2:Sl p1 a ls.length 1 (scs ls):=S1
 have hlr:(runD (startD t) (ls.take j)).2.length=j:=by rw[xgr,List.length_take];omega
 have hpl:(runD (startD t) (ls.take j)).1.past.length<=30:=by
  have:=xst (ls.take j) (startD t)
  rw[List.length_take]at this
  have e:(startD t).past.length=0:=rfl
  omega
 refine cq (fun ce=>?_) (fun ce=>?_)
 ·have hjl:j<ls.length:=om
  obtain⟨hm,htk⟩:=ymn (xs:=ls) (j:=j) hjl
  refine ax ?_
  refine xvk rfl (Strs.get S1 hjl) ?_
  refine ax ?_
  refine xvt rfl rfl (fun h pe hb hnb=>c59 h _ pe b8 _ ob hD hb hnb (g.mono g1.le) (ls.getD j []) (hlm _ hm) om hR) fun v2 p2 o2 g2 q2=>?_
  obtain⟨rfl,hD2⟩:=q2
  refine ax ?_
  refine xdz rfl fun v3 Y3 o3=>?_
  have o3:OwnS 9 1 v3 (scs [(doD (runD (startD t) (ls.take j)).1 (ls.getD j [])).2]) Y3:=o3
  refine xcf rfl rfl o o3 (by simp[scs,sv,isOne]) (by rw[xuq,hlr,xuq];simp;omega) fun v4 Y4 o4=>?_
  refine ax ?_
  have eS:=xrt (ls.getD j []) (ls.take j) (startD t)
  rw[<- htk]at eS
  exact xnq (IH _ _ _ om ⟨j+1,v4,o2,Y4,rfl,rfl,g1.trans g2,rfl,om,o4.as (by rw[eS];simp[scs]),by rw[eS];exact hD2⟩)
 obtain rfl:j=ls.length:=om
 rw[List.take_length]at o hD hlr
 have eR:runR t ls=((runD (startD t) ls).2,(runD (startD t) ls).1.now.t):=by unfold runR;rw[if_neg (by rw[cc];simp;omega)]
 have eE:runE t ls=0:=by unfold runE;rw[if_neg (by rw[cc];simp),if_neg om]
 obtain⟨A1,at1,ct1,xs1,rfl,N1,P1,hx1⟩:=hD
 refine ax ?_
 refine xbx o (m:=(runD (startD t) ls).2.length) (xuq _) (by decide) fun p2 a2 c2 g2 e2 hc2 S3=>?_
 subst e2
 have hf:=xcz N1.ok
 refine xrz rfl rfl (fun h pe=>c60 _ h _ pe A1 _ (N1.T.mono g2.le) ⟨⟨by have:=hf.1.1;omega,by have:=hf.1.2;omega⟩,⟨by have:=hf.2.1.1;omega,by have:=hf.2.1.2.1;omega,by have:=hf.2.1.2.2;omega⟩,by have:=hf.2.2;omega⟩) ?_
 rintro _ p3 g3 ⟨A',rfl,T'⟩
 refine ax ?_
 exact xnz func15 rfl (.tmp rfl (xqx rfl (.tmp rfl .nil))) fun _ H_=>K _ _ (xzx H_ ((g1.trans g2).trans g3) (by
  unfold runQ
  rw[eR,eE]
  exact⟨a2,c2,A',rfl,hc2,Strs.mono g3.le S3,T'⟩))
end Go.Proofs.YtjcakmlipohaeaaGreatDoor
namespace Go.X.Flow
theorem xs9{f:Nat->Int}{B:Int}:∀{k:Nat},(∀i,i<k->0<=f i/\f i<=B)->0<=sm k f/\sm k f<=B*k
 |0,_=>by simp[sm]
 |k+1,h=>by
   have h1:=xs9 (f:=f) (B:=B) (k:=k) fun i hi=>h i om
   have h2:=h k om
   rw[sm]
   have e:B*((k+1:Nat):Int)=B*(k:Int)+B:=by rw[Int.natCast_succ,Int.mul_add,Int.mul_one]
   omega
theorem xmt{t:Tn}(hn:t.nH<=6):∀k,k<=2^t.nH->(shortF t k).length<=6/\ ∀i,i<(shortF t k).length->0<=(shortF t k).getD i 0/\(shortF t k).getD i 0<6
 |0,_=>by simp[shortF]
 |k+1,hk=>by
   have ih:=xmt hn k om
   rw[shortF]
   split
   ·have h64:2^t.nH<=2^6:=Nat.pow_le_pow_right (by decide) hn
    exact⟨xf1 k om,fun i hi=>by have:=yjn (k:=6) (g:=k) (by decide) om i hi;omega⟩
   ·exact ih
theorem xq5{α:Type}{q:α->Bool}:∀{ds:List α},idxA q ds<(ds.length:Int)
 |[]=>by show(-1:Int)<((0:Nat):Int);decide
 |d::ds=>by
   have:=xq5 (q:=q) (ds:=ds)
   rw[idxA,List.length_cons]
   split
   ·omega
   ·split<;>omega
end Go.X.Flow
namespace Go.X.Ms
open Go.X.Flow Go.Proofs.YtjcakmlipohaeaaGreatDoor
abbrev m6(n:Int):Prop:=-1000000<=n/\n<=1000000
def Rs.m6:Rs->Prop
 |.num n=>Ms.m6 n
 |.spn a b=>Ms.m6 a/\Ms.m6 b
 |.lst l=>l.length<=60/\ ∀i,i<l.length->Ms.m6 (l.getD i 0)
theorem xm1{q:Nat->Bool}:∀{f k r:Nat},Cist.upTo q k f=some r->r<k+f
 |0,k,r,h=>by cases h
 |f+1,k,r,h=>by
   rw[Cist.upTo]at h
   split at h
   ·cases h;omega
   ·have:=xm1 h;omega
theorem xu5{o:Option Nat}{n:Nat}(h:∀r,o=some r->r<n)(hn:n<=1000):m6 (Cist.found o).1:=by
 cases o with
 |none=>exact(by decide)
 |some r=>have:=h r rfl;exact(by show -1000000<=((r:Nat):Int)/\((r:Nat):Int)<=1000000;omega)
theorem xcp(size start:Int)(ds:List Cist.Day):∀k:Nat,0<=Cist.ratDown size start ds k/\Cist.ratDown size start ds k<=k
 |0=>by simp[Cist.ratDown]
 |k+1=>by
   have:=xcp size start ds k
   rw[Cist.ratDown]
   split<;>omega
theorem xo6(s:Shf)(pe:Int):∀k,deepR s pe k<=k
 |0=>Nat.le_refl _
 |k+1=>by
   have:=xo6 s pe k
   rw[deepR]
   split<;>omega
theorem ynr{l:List Int}(h:∀z∈l,m6 z):∀i,i<l.length->m6 (l.getD i 0):=fun i hi=>by
 rw[List.getD_eq_getElem?_getD,List.getElem?_eq_getElem hi];exact h _ (List.getElem_mem hi)
theorem xbk(q:Qn)(t:Twn)(a:List Int)(hv:chkT t=0):(askQ q t a).1.m6:=by
 obtain⟨h1,h2,h3⟩:=xvx.1 hv
 have ok:t.s.ok:=by
  unfold chkF at h1
  split at h1
  ·assumption
  ·cases h1
 have O:=xgm h2
 have Y:=Cist.chk_zero.1 h3
 have hl:=ok.2.2.1
 have hds:=Y.2.2.2.2.1
 have D:∀{w:Wi},Sg w->Div t.b (fairP t.b w):=fun S=>(xkw O.toOk S).div
 cases q with
 |fewest=>
   have hw:okW _ (bestW ltF t.s 12):=xcc (lt:=ltF) ok (k:=min 12 t.s.feet.length) 0
   unfold okW at hw
   show m6 (fewestF t.s)
   unfold fewestF
   split
   ·exact om
   ·exact(by decide)
 |cheap=>
   by_cases h:findE ltC t.s=0
   ·have:=xow (s:=t.s) h
    exact(by show -1000000<=cheapF t.s/\cheapF t.s<=1000000;omega)
   ·show m6 (cheapF t.s)
    rw[cheapF,if_neg h];decide
 |deep=>
   show m6 (deepF t.s (a.getD 0 0))
   unfold deepF
   split
   ·have:=xo6 t.s (a.getD 0 0) t.s.feet.length
    exact om
   ·exact(by decide)
 |next=>
   show m6 (nextF t.s (a.getD 0 0))
   unfold nextF
   by_cases hn:nextE t.s (a.getD 0 0)=0
   case neg=>rw[if_neg hn];decide
   rw[if_pos hn]
   unfold nextE at hn
   split at hn
   ·rename_i z;exact absurd hn z
   split at hn
   ·cases hn
   split at hn
   ·rename_i z;exact absurd hn z
   rename_i z
   have b1:=xow (s:=t.s) (Classical.not_not.1 z)
   have b2:=xow hn
   exact om
 |most=>
   show m6 (mostC t.b)
   unfold mostC
   rw[if_pos h2]
   have:=xs9 (f:=dv (fairP t.b none0)) (B:=9) (k:=t.b.m) (xrf O xvb)
   have hm:=O.nm
   exact(by show -1000000<=tot t.b _/\tot t.b _<=1000000;unfold tot;omega)
 |lacks=>
   show(LKc t.b).length<=60/\_
   rw[LKc_yes h2]
   refine⟨by rw[yxs];have:=O.nh;omega,ynr fun z hz=>?_⟩
   obtain⟨k,hk,rfl⟩:=yoz.1 hz
   have b1:=(D xvb).hs k hk
   have b2:=O.h k hk
   have b3:=xs9 (f:=fun i=>if t.b.wh i=k then dv (fairP t.b none0) i else 0) (B:=9) (k:=t.b.m) (fun i hi=>by have:=xrf O xvb i hi;unfold dv;split<;>omega)
   unfold lack
   unfold draw at b1⊢
   exact om
 |draws=>
   have b:∀s:Int,Sg ⟨a.getD 0 0,-1,s⟩->m6 (drawV t.b (a.getD 0 0) s):=fun s S=>by
    have b3:=xs9 (f:=fun i=>if t.b.wh i=(a.getD 0 0).toNat then dv (fairP t.b ⟨a.getD 0 0,-1,s⟩) i else 0) (B:=9) (k:=t.b.m) (fun i hi=>by have:=xrf O S i hi;unfold dv;split<;>omega)
    have hm:=O.nm
    exact(by show -1000000<=draw t.b _ _/\draw t.b _ _<=1000000;unfold draw;omega)
   show m6 (houseC t.b (a.getD 0 0) (-1))/\m6 (houseC t.b (a.getD 0 0) 1)
   unfold houseC
   constructor<;>split<;>first|exact b _ ⟨by simp,by simp⟩|exact(by decide)
 |dry=>
   show m6 (dryC t.b (a.getD 0 0))
   unfold dryC dryV
   split
   ·split
    ·exact(by decide)
    ·split<;>exact(by decide)
   ·exact(by decide)
 |short=>
   show(shortC t.b).length<=60/\_
   rw[xhg h2]
   have b:=xmt O.nh (2^t.b.nH) (Nat.le_refl _)
   exact⟨by have:=b.1;show(shortF t.b _).length<=60;omega,fun i hi=>by have:=b.2 i hi;exact(by show -1000000<=(shortF t.b _).getD i 0/\(shortF t.b _).getD i 0<=1000000;omega)⟩
 |empty=>
   show m6 (Cist.dryY t.y.size t.y.start t.y.days).1
   rw[Cist.dryY,if_pos Y]
   have:=xq5 (q:=fun d=>decide (0<d.hi)) (ds:=Cist.side t.y.size (min t.y.start t.y.size) (Cist.wantOf t.y.days) (Cist.loOf t.y.days) t.y.days.length)
   rw[Cist.side_length]at this
   have e:Cist.dryX t.y.size t.y.start t.y.days<(t.y.days.length:Int):=this
   show m6 (if Cist.dryX t.y.size t.y.start t.y.days<0 then 0 else Cist.dryX t.y.size t.y.start t.y.days)
   split<;>exact om
 |least=>
   show m6 (Cist.sizeR t.y.size t.y.start t.y.days).1
   rw[Cist.sizeR,if_pos Y]
   exact xu5 (n:=61) (fun r hr=>by have:=xm1 hr;omega) (by decide)
 |ration=>
   show m6 (if Cist.Ok t.y.size t.y.start t.y.days then Cist.ratDown t.y.size t.y.start t.y.days 20 else 0)
   rw[if_pos Y]
   have:=xcp t.y.size t.y.start t.y.days 20
   exact om
 |spare=>
   have e:(Cist.spareR t.y.size t.y.start t.y.days (a.getD 0 0)).1=0\/(Cist.spareR t.y.size t.y.start t.y.days (a.getD 0 0)).1=(Cist.found (Cist.spUp t.y.size t.y.start t.y.days (a.getD 0 0))).1:=by
    unfold Cist.spareR
    by_cases c1:Cist.askd t.y.size t.y.start t.y.days (decide (Cist.IsDay t.y.days (a.getD 0 0)))=0
    ·rw[if_pos c1]
     by_cases c2:Cist.Lasts t.y.size t.y.start t.y.days
     ·rw[if_pos c2];exact .inr rfl
     ·rw[if_neg c2];exact .inl rfl
    ·rw[if_neg c1];exact .inl rfl
   show m6 (Cist.spareR t.y.size t.y.start t.y.days (a.getD 0 0)).1
   rcases e with e|e
   ·rw[e];exact(by decide)
   ·rw[e];exact xu5 (n:=100) (fun r hr=>by have:=xm1 hr;omega) (by decide)
 |level=>
   show m6 (Cist.levY t.y.size t.y.start t.y.days (a.getD 0 0)).1.1/\m6 (Cist.levY t.y.size t.y.start t.y.days (a.getD 0 0)).1.2
   unfold Cist.levY
   by_cases c1:Cist.askd t.y.size t.y.start t.y.days (decide (Cist.IsDay t.y.days (a.getD 0 0)))=0
   ·rw[if_pos c1]
    obtain⟨b1,b2,b3,b4⟩:=Y.both (n:=t.y.days.length) rfl
    have hd:Cist.IsDay t.y.days (a.getD 0 0):=by
     unfold Cist.askd at c1
     rw[if_pos Y]at c1
     by_cases z:Cist.IsDay t.y.days (a.getD 0 0)
     ·exact z
     ·rw[if_neg (by rw[decide_eq_true_iff];exact z)]at c1
      cases c1
    have hk:(a.getD 0 0).toNat+1<=t.y.days.length:=by have:=hd.1;have:=hd.2;omega
    have l1:=Cist.lev_bound (size:=t.y.size) (start:=min t.y.start t.y.size) (want:=Cist.wantOf t.y.days) (rain:=Cist.loOf t.y.days) (n:=t.y.days.length) ⟨om,om⟩ (fun i hi=>(b2 i hi).1) _ hk
    have l2:=Cist.lev_bound (size:=t.y.size) (start:=min t.y.start t.y.size) (want:=Cist.wantOf t.y.days) (rain:=Cist.hiOf t.y.days) (n:=t.y.days.length) ⟨om,om⟩ (fun i hi=>(b2 i hi).1) _ hk
    have e:∀{n:Int},(0<=n/\n<=60)->m6 n:=fun h=>⟨om,om⟩
    exact⟨e (n:=Cist.lev _ _ _ _ _) om,e (n:=Cist.lev _ _ _ _ _) om⟩
   ·rw[if_neg c1];exact⟨show m6 0 by decide,show m6 0 by decide⟩
theorem xup(q:Qn)(t:Twn)(a:List Int)(hv:chkT t=0)(_:(askQ q t a).2=0):(askQ q t a).1.ok:=by
 have h:=xbk q t a hv
 have e:∀{n:Int},m6 n->i64 n:=fun h=>⟨om,om⟩
 cases c:(askQ q t a).1 with
 |num n=>rw[c]at h;exact e h
 |spn x y=>rw[c]at h;exact⟨e h.1,e h.2⟩
 |lst l=>rw[c]at h;exact⟨by have:=h.1;omega,fun i hi=>e (h.2 i hi)⟩
end Go.X.Ms
