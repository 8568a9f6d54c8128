/-
  Part of proofs about a town's master: a calculus for walks beside goroutines that are only leaving, and the walks. No condition.
-/
import Derived.Test.YtjcakmlipohaeaaGreatDoorGN
set_option maxRecDepth 20000
set_option synthInstance.maxSize 2000
namespace Go.Proofs.YtjcakmlipohaeaaGreatDoor
open Go.Proofs.Tryz
open Go.X Go.X.Ms Go.Conc
open Go.X.Flow (ics)
def RunX(p:PHeap)(t:Twn)(ls:List Str)(v:Value)(Y:Pcs):Prop:=∃(a:Option Addr)(c:Nat)(A:TA),v=.tuple #[.slice a ls.length c,twV A (runR t ls).2,.bool true]/\ls.length<=c/\ ∀p',PLe p p'->(∀y∈Y,p' y.1=some y.2)->Strs p' a ls.length (runR t ls).1/\TwP p' A (runR t ls).2
theorem yhw{p:PHeap}{h₀ h:Heap}{B₀:List Nat}{L Y:Pcs}{A:TA}{t:Twn}{ls:List Str}{v:Value}(o:OwnS 9 1 v (scs ls) Y)(s:St h₀ B₀ p h (Y++L))(T:TwP p A t)(g:GlP p)(hlm:∀s∈ls,s.length<=900)(hv:chkT t=0)(h30:ls.length<=30):
 CallsX prog (.main true) 36 #[twV A t,v] h fun v' h'=>∃Z,RunX p t ls v' Z/\New h h' Z:=by
 obtain⟨p',⟨g',gl⟩,hy,s'⟩:=s.lastAll
 obtain⟨a,c,e,S⟩:=o.inP hy
 subst e
 rw[xuq]at S⊢
 refine(yrn h p s.per p' s'.per g'.le A t T g a c ls S hlm hv h30).mono fun v' h' x=>?_
 obtain⟨Z,⟨p2,⟨a2,c2,A2,e2,hc2,S2,T2⟩,le⟩,N⟩:=x.pieces
 exact⟨Z,⟨a2,c2,A2,e2,hc2,fun p'' l y=>⟨Strs.mono (le p'' l y) S2,T2.mono (le p'' l y)⟩⟩,N⟩
theorem xjc{p:PHeap}{h₀ h:Heap}{B₀:List Nat}{L Y:Pcs}{v:Value}{w:Str}{l:List Int}{n:Nat}{md:Md}(o:OwnS 3 1 v (ics l) Y)(hl:l.length=n)(s:St h₀ B₀ p h (Y++L))(hw:w.length<=1000)(hn:n<=100)(hb:sm6 l):
 CallsX prog md 35 #[sv w,v] h fun v' h'=>∃Z,(v'=sv (sayK w l n)/\Z=[])/\New h h' Z:=by
 obtain⟨p',⟨g',gl⟩,hy,s'⟩:=s.lastAll
 obtain⟨a,c,e,S⟩:=o.inP hy
 subst e
 rw[xnx,hl]at S⊢
 exact(c35 md h p' s'.per w hw a n c l S hn fun i hi=>by
  have:=hb (l.getD i 0) (by rw[Flow.getD_at om];exact List.getElem_mem _)
  omega).mono fun v' h'⟨e,k⟩=>⟨[],⟨e,rfl⟩,New.of k⟩
end Go.Proofs.YtjcakmlipohaeaaGreatDoor
namespace Go.X.Ms
def ansS(e:Int)(s:Str):Str:=if e=3 then wNone else if e≠0 then wWrong else s
abbrev Ask:=Str×Qn×List Int
noncomputable def askT(t:Twn)(x:Ask):Str:=ansS (askQ x.2.1 t x.2.2).2 (askQ x.2.1 t x.2.2).1.text
def Ask.ok(x:Ask):Prop:=(32:UInt8)∉x.1/\x.1≠wKeep/\sm6 x.2.2/\qn (x.1++txt x.2.2.length)=some x.2.1
def Ask.line(x:Ask):Str:=sayK x.1 x.2.2 x.2.2.length
def wKeepZ:Str:=[107,101,101,112,32,122,32]
theorem xu6(d:Dsk)(q:Qn)(a:List Int)(l:Str):(askD d q a l).2=ansS (askQ q d.now.t a).2 (askQ q d.now.t a).1.text:=by
 unfold askD ansS
 split
 ·rfl
 ·split<;>rfl
theorem yjv(d:Dsk)(q:Qn)(a:List Int):(askD d q a []).1=d:=by
 unfold askD
 split
 ·rfl
 ·split
  ·rfl
  ·rfl
theorem yhk{d:Dsk}{x:Ask}(h:x.ok):doD d x.line=(d,askT d.now.t x):=by
 obtain⟨h1,h2,h3,h4⟩:=h
 have e:=yfs (d:=d) h1 h2 h3 h4
 unfold Ask.line
 rw[e]
 exact Prod.ext (yjv d _ _) (xu6 d _ _ _)
theorem yzc{d:Dsk}{x:Ask}(h:x.ok):doD d (wKeepZ++x.line)=askD d x.2.1 x.2.2 [122]:=by
 obtain⟨h1,h2,h3,h4⟩:=h
 have hs:splitS (wKeepZ++x.line)=wKeep::[122]::x.1::x.2.2.map txt:=by
  rw[show wKeepZ++x.line=wKeep++32::([122]++32::x.line) from rfl,xgc _ (by decide),xgc _ (by decide)]
  unfold Ask.line
  rw[xfg h1 _ (Nat.le_refl _),List.take_length]
 rw[xy2 hs (by decide)]
 exact xwv (by rw[List.length_map];exact h4) (xzm h3) (xud h3)
theorem xfr:∀{xs:List Ask}(d:Dsk),(∀x∈xs,x.ok)->runD d (xs.map Ask.line)=(d,xs.map (askT d.now.t))
 |[],_,_=>rfl
 |x::xs,d,h=>by rw[List.map_cons,runD,yhk (h x (by simp)),xfr d fun y hy=>h y (List.mem_cons_of_mem _ hy)];rfl
theorem xqt:∀{xs:List Ask}(d:Dsk),(∀x∈xs,x.ok)->(runD d (xs.map fun x=>wKeepZ++x.line)).2=xs.map (askT d.now.t)/\(runD d (xs.map fun x=>wKeepZ++x.line)).1.now.t=d.now.t
 |[],_,_=>⟨rfl,rfl⟩
 |x::xs,d,h=>by
   have e1:=(xc1 d x.2.1 x.2.2 [122]).1
   have ih:=xqt (askD d x.2.1 x.2.2 [122]).1 fun y hy=>h y (List.mem_cons_of_mem _ hy)
   rw[e1]at ih
   rw[List.map_cons,runD,yzc (h x (by simp))]
   exact⟨by rw[ih.1,xu6];rfl,ih.2⟩
def asks(p r h w d:Int):List Ask:=
 [([102,101,119,101,115,116],.fewest,[]),([99,104,101,97,112],.cheap,[]),([100,101,101,112],.deep,[p]),([110,101,120,116],.next,[r]),([109,111,115,116],.most,[]),([108,97,99,107,115],.lacks,[]),
  ([100,114,97,119,115],.draws,[h]),([100,114,121],.dry,[w]),([115,104,111,114,116],.short,[]),([101,109,112,116,121],.empty,[]),([108,101,97,115,116],.least,[]),([114,97,116,105,111,110],.ration,[]),
  ([115,112,97,114,101],.spare,[d]),([108,101,118,101,108],.level,[d])]
theorem xf3{p r h w d:Int}(H:sm6 [p,r,h,w,d]):∀x∈asks p r h w d,x.ok:=by
 have one:∀{n:Int},n∈[p,r,h,w,d]->sm6 [n]:=fun hn x hx=>by rw[List.mem_singleton.1 hx];exact H _ hn
 have nil:sm6 []:=fun x hx=>by cases hx
 have ok:∀(u:Str)(q:Qn)(l:List Int),(32:UInt8)∉u->u≠wKeep->l.length<10->qn (u++[UInt8.ofNat (48+l.length)])=some q->sm6 l->Ask.ok (u,q,l):=fun u q l h1 h2 h10 h4 h3=>⟨h1,h2,h3,by rw[xfv h10];exact h4⟩
 intro x hx
 simp only[asks,List.mem_cons,List.not_mem_nil,or_false]at hx
 rcases hx with rfl|rfl|rfl|rfl|rfl|rfl|rfl|rfl|rfl|rfl|rfl|rfl|rfl|rfl
 all_goals (refine ok _ _ _ (by decide) (by decide) (Nat.le_of_ble_eq_true rfl) rfl ?_)
 all_goals first|exact nil|exact one (by simp)
theorem yqd{t:Twn}(hv:chkT t=0){p r h w d:Int}(H:sm6 [p,r,h,w,d]):runR t ((asks p r h w d).map Ask.line)=((asks p r h w d).map (askT t),t):=by
 rw[xqb hv (by simp[asks]),xfr _ (xf3 H)];rfl
theorem yrz{t:Twn}(hv:chkT t=0){p r h w d:Int}(H:sm6 [p,r,h,w,d]):runR t ((asks p r h w d).map fun x=>wKeepZ++x.line)=((asks p r h w d).map (askT t),t):=by
 have e:=xqt (startD t) (xf3 H)
 rw[xqb hv (by simp[asks])]
 exact Prod.ext e.1 e.2
def numS(n e:Int):Str:=if n< -1000000000\/n>1000000000 then []else ansS e (txt n)
theorem xyj{n e:Int}(h:m6 n):numS n e=ansS e (txt n):=by unfold numS;rw[if_neg om]
def wTo:Str:=[32,116,111,32]
def spanS(a b e:Int):Str:=ansS e ((numS a 0++wTo)++numS b 0)
theorem xv3{a b e:Int}(ha:m6 a)(hb:m6 b):spanS a b e=ansS e (Rs.spn a b).text:=by
 unfold spanS
 rw[xyj ha,xyj hb]
 show ansS e ((txt a++wTo)++txt b)=ansS e (txt a++([32,116,111,32]++txt b))
 rw[List.append_assoc];rfl
def listK(l:List Int):Nat->Str
 |0=>[]
 |k+1=>if 0<k then(listK l k++[32])++numS (l.getD k 0) 0 else listK l k++numS (l.getD k 0) 0
def listS(l:List Int)(e:Int):Str:=if 60<l.length then []else ansS e (if listK l l.length=[]then [110,111,116,104,105,110,103]else listK l l.length)
theorem xj5{x:Int}{l:List Int}(h:∀y∈x::l,m6 y):∀k,k<=l.length->listK (x::l) (k+1)=txt x++txtT (l.take k)
 |0,_=>by rw[listK,if_neg om,listK];show []++numS x 0=_;rw[xyj (h x (by simp))];show []++txt x=txt x++[];simp
 |k+1,hk=>by
   have ht:∀(u:List Int)(y:Int),txtT (u++[y])=txtT u++32::txt y:=fun u y=>by
    induction u with
    |nil=>show 32::(txt y++[])=_;simp[txtT]
    |cons a u ih=>rw[List.cons_append,txtT,ih,txtT];simp
   have hg:(x::l).getD (k+1) 0=l[k]:=by rw[List.getD_cons_succ,List.getD_eq_getElem?_getD,List.getElem?_eq_getElem om];rfl
   rw[listK,if_pos om,xj5 h k om,hg,xyj (h _ (List.mem_cons_of_mem _ (List.getElem_mem _))),List.take_add_one,List.getElem?_eq_getElem om]
   show _=txt x++txtT (l.take k++[l[k]])
   rw[ht]
   show((txt x++txtT (l.take k))++[32])++txt l[k]=_
   simp
theorem xi5{l:List Int}{e:Int}(h:(Rs.lst l).m6):listS l e=ansS e (Rs.lst l).text:=by
 obtain⟨h1,h2⟩:=h
 unfold listS
 rw[if_neg om]
 cases l with
 |nil=>rfl
 |cons x l=>
   have hm:∀y∈x::l,m6 y:=fun y hy=>by
    obtain⟨i,hi,e⟩:=List.mem_iff_getElem.1 hy
    have:=h2 i hi
    rw[Flow.getD_at hi,e]at this;exact this
   have hk:=xj5 hm l.length (Nat.le_refl _)
   rw[List.take_length]at hk
   rw[List.length_cons,hk]
   have hne:txt x++txtT l≠[]:=fun e=>by
    have:=xn1 x
    have z:=(List.append_eq_nil_iff.1 e).1
    rw[z]at this;simp at this
   rw[if_neg hne];rfl
noncomputable def wants(t:Twn)(p r h w d:Int):List Str:=[numS (fewestF t.s) (findE ltF t.s),numS (cheapF t.s) (findE ltC t.s),numS (deepF t.s p) (deepE t.s p),numS (nextF t.s r) (nextE t.s r),numS (Flow.mostC t.b) (Flow.chkB t.b),listS (Flow.LKc t.b) (Flow.chkB t.b),spanS (Flow.houseC t.b h (-1)) (Flow.houseC t.b h 1) (Flow.askB t.b (decide (0<=h/\h<=(t.b.nH:Int)-1))),numS (Flow.dryC t.b w) (Flow.askB t.b (decide (0<=w/\w<=(t.b.nW:Int)-1))),listS (Flow.shortC t.b) (Flow.shortE t.b),numS ((Cist.dryY t.y.size t.y.start t.y.days).1) ((Cist.dryY t.y.size t.y.start t.y.days).2),numS ((Cist.sizeR t.y.size t.y.start t.y.days).1) ((Cist.sizeR t.y.size t.y.start t.y.days).2),numS (if Cist.Ok t.y.size t.y.start t.y.days then Cist.ratDown t.y.size t.y.start t.y.days 20 else 0) (Cist.chk t.y.size t.y.start t.y.days),numS ((Cist.spareR t.y.size t.y.start t.y.days d).1) ((Cist.spareR t.y.size t.y.start t.y.days d).2),spanS ((Cist.levY t.y.size t.y.start t.y.days d).1.1) ((Cist.levY t.y.size t.y.start t.y.days d).1.2) ((Cist.levY t.y.size t.y.start t.y.days d).2)]
theorem ykg{t:Twn}(hv:chkT t=0)(p r h w d:Int):(asks p r h w d).map (askT t)=wants t p r h w d:=
 congr (congrArg List.cons (xyj (xbk .fewest t [] hv)).symm) (congr (congrArg List.cons (xyj (xbk .cheap t [] hv)).symm) (congr (congrArg List.cons (xyj (xbk .deep t [p] hv)).symm) (congr (congrArg List.cons (xyj (xbk .next t [r] hv)).symm) (congr (congrArg List.cons (xyj (xbk .most t [] hv)).symm) (congr (congrArg List.cons (xi5 (xbk .lacks t [] hv)).symm) (congr (congrArg List.cons (xv3 (xbk .draws t [h] hv).1 (xbk .draws t [h] hv).2).symm) (congr (congrArg List.cons (xyj (xbk .dry t [w] hv)).symm) (congr (congrArg List.cons (xi5 (xbk .short t [] hv)).symm) (congr (congrArg List.cons (xyj (xbk .empty t [] hv)).symm) (congr (congrArg List.cons (xyj (xbk .least t [] hv)).symm) (congr (congrArg List.cons (xyj (xbk .ration t [] hv)).symm) (congr (congrArg List.cons (xyj (xbk .spare t [d] hv)).symm) (congr (congrArg List.cons (xv3 (xbk .level t [d] hv).1 (xbk .level t [d] hv).2).symm) rfl)))))))))))))
def asks3:List Ask:=[([99,104,101,97,112],.cheap,[]),([109,111,115,116],.most,[]),([108,101,97,115,116],.least,[])]
theorem yrd:∀x∈asks3,x.ok:=by
 have ok:∀(u:Str)(q:Qn),(32:UInt8)∉u->u≠wKeep->qn (u++[48])=some q->Ask.ok (u,q,[]):=fun u q h1 h2 h4=>⟨h1,h2,fun x hx=>(by cases hx),by rw[show txt (([]:List Int).length:Nat)=[48] from xfv (by decide)];exact h4⟩
 intro x hx
 simp only[asks3,List.mem_cons,List.not_mem_nil,or_false]at hx
 rcases hx with rfl|rfl|rfl<;>exact ok _ _ (by decide) (by decide) rfl
theorem xb1{t:Twn}(hv:chkT t=0):runR t (asks3.map Ask.line)=(asks3.map (askT t),t):=by
 rw[xqb hv (by simp[asks3]),xfr _ yrd];rfl
theorem ysd:asks3.map (askT exT)=[[49,55],[55],[57]]:=by
 have e1:askT exT ([99,104,101,97,112],.cheap,[])=[49,55]:=by
  show ansS (findE ltC exS) (txt (cheapF exS))=_
  rw[xsp.1,xsp.2.1,tx17];rfl
 have e2:askT exT ([109,111,115,116],.most,[])=[55]:=by
  show ansS (Flow.chkB Flow.exB) (txt (Flow.mostC Flow.exB))=_
  rw[Flow.chkE_B,show Flow.mostC Flow.exB=7 by rw[Flow.mostC,if_pos Flow.chkE_B,Flow.mostE_B]]
  show txt ((7:Nat):Int)=_
  rw[xfv (by decide)];rfl
 have e3:askT exT ([108,101,97,115,116],.least,[])=[57]:=by
  show ansS (Cist.sizeR exY.size exY.start exY.days).2 (txt (Cist.sizeR exY.size exY.start exY.days).1)=_
  rw[show Cist.sizeR exY.size exY.start exY.days=(9,0) by decide +kernel]
  show txt ((9:Nat):Int)=_
  rw[xfv (by decide)];rfl
 show [_,_,_]=_
 rw[e1,e2,e3]
end Go.X.Ms
namespace Go.Proofs.YtjcakmlipohaeaaGreatDoor
open Go.Proofs.Tryz
open Go.X Go.X.Ms Go.Conc
open Go.X.Flow (ics)
theorem c39(md:Md)(h:Heap)(p:PHeap)(hp:Per p h)(w:Str)(hw:w.length<=1000)(a:Option Addr)(n c:Nat)(l:List Int)(I:Ints p a n l)(hn:n<=100)(hb:∀i,i<n-> -1000000000<=l.getD i 0/\l.getD i 0<=1000000000):
 CallsX prog md 39 #[sv w,.slice a n c] h fun v h'=>v=sv (sayK w l n)/\Keep h h':=by
 have hl:=I.len
 refine xfq hp func39 fun _ _ _ K=>?_
 refine xbz (fun m_ l'=>∃j:Nat,m_=n-j/\l'=[(0,none,sv (sayK w l j)),(1,none,.slice a n c),(5,none,.int .i64 ((j:Nat):Int))]/\j<=n) ⟨0,rfl,rfl,Nat.zero_le _⟩ sb ?_
 rintro _ _ IH ⟨j,rfl,rfl,hj⟩
 refine cq (fun cd=>?_) (fun cd=>?_)
 ·have hjl:j<n:=om
  have hbj:=hb j hjl
  have hlen:=xkc (w:=w) (l:=l) (fun i hi=>⟨by have:=hb i om;omega,by have:=hb i om;omega⟩) j om
  have ht:=xnk (n:=l.getD j 0) ⟨om,om⟩
  refine ax ?_
  refine xlq rfl rfl (fun h pe=>c16 md h _ pe _ hbj) ?_
  refine ax ?_
  refine xeb (a:=[32]) rfl rfl (by simp only[List.length_cons,List.length_nil];omega) ?_
  refine ax ?_
  refine xeb rfl rfl (by simp only[List.length_append,List.length_cons,List.length_nil];omega) ?_
  refine ax ?_
  exact xnq (IH _ om ⟨j+1,rfl,rfl,om⟩)
 obtain rfl:j=n:=om
 refine ax ?_
 exact K.r rfl rfl fun _ H_=>⟨rfl,H_.kept⟩
theorem xcb{p:PHeap}{h₀ h:Heap}{B₀:List Nat}{L Y:Pcs}{v:Value}{w:Str}{l:List Int}{n:Nat}{md:Md}(o:OwnS 3 1 v (ics l) Y)(hl:l.length=n)(s:St h₀ B₀ p h (Y++L))(hw:w.length<=1000)(hn:n<=100)(hb:sm6 l):
 CallsX prog md 39 #[sv w,v] h fun v' h'=>∃Z,(v'=sv (sayK w l n)/\Z=[])/\New h h' Z:=by
 obtain⟨p',⟨g',gl⟩,hy,s'⟩:=s.lastAll
 obtain⟨a,c,e,S⟩:=o.inP hy
 subst e
 rw[xnx,hl]at S⊢
 exact(c39 md h p' s'.per w hw a n c l S hn fun i hi=>by
  have:=hb (l.getD i 0) (by rw[Flow.getD_at om];exact List.getElem_mem _)
  omega).mono fun v' h'⟨e,k⟩=>⟨[],⟨e,rfl⟩,New.of k⟩
set_option maxHeartbeats 400000 in
theorem c8(h:Heap)(p:PHeap)(hp:Per p h)(g:GlP p):CallsX prog (.main true) 8 #[] h fun v h'=>v=.bool true/\Keep h h':=by
 refine xfq hp func8 fun _ _ _ K=>?_
 refine xrz rfl rfl (fun _ pe=>c46 _ _ _ pe) ?_
 rintro _ p1 g1 ⟨A1,rfl,T1⟩
 refine ax ?_
 refine xdz rfl fun v1 Y1 o1=>?_
 have o1:OwnS 9 1 v1 (scs (asks3.map Ask.line)) Y1:=o1
 refine xbx o1 (m:=3) rfl (by decide) fun p2 a2 c2 g2 e2 hc2 S2=>?_
 subst e2
 refine ax ?_
 refine xrz rfl rfl (fun h pe=>c15 h _ pe A1 exT (T1.mono g2.le) ((xcz xtg).up om) (g.mono (g1.trans g2).le) a2 c2 (asks3.map Ask.line) S2 (by decide) (by decide) xup) ?_
 rintro _ p3 g3 ⟨a3,c3,A3,rfl,hc3,S3,T3⟩
 rw[xb1 xtg,ysd]at S3 hc3 T3⊢
 rw[xig xtg (by decide)]
 refine lq fun b8=>?_
 refine ax ?_
 refine xwt rfl rfl trivial fun v5 Y5 o5=>?_
 have o5:OwnS 9 1 v5 (scs [[49,55],[55],[57]]) Y5:=o5
 refine xbx o5 (m:=3) rfl (by decide) fun p5 a5 c5 g5 e5 hc5 S5=>?_
 subst e5
 refine ax ?_
 refine xvq rfl rfl rfl sdu (fun _ _ pe=>c37 _ _ _ pe _ _ _ _ _ _ [[49,55],[55],[57]] [[49,55],[55],[57]] (Sl.mono g5.le S3) S5 ⟨by decide,by decide⟩) ?_
 refine ax ?_
 exact K.r rfl rfl fun _ H_=>⟨by rfl,H_.kept⟩
end Go.Proofs.YtjcakmlipohaeaaGreatDoor
namespace Go.X.Cist
section
variable{size start size' start':Int}{want rain:Nat->Int}{ds:List Day}
theorem ysf(hs:size<=size')(hst:start<=start'):∀k,lev size start want rain k<=lev size' start' want rain k
 |0=>hst
 |k+1=>by
   have h1:=ysf hs hst k
   simp only[lev];omega
theorem xa8(hs:size<=size')(hst:min start size<=min start' size')(h:Lasts size start ds):Lasts size' start' ds:=by
 intro i hi
 have h1:=h i hi
 have h2:=ysf (want:=wantOf ds) (rain:=loOf ds) hs hst i
 unfold lack ovr at h1⊢
 omega
theorem xet{q:Nat->Bool}:∀(f k:Nat),(upTo q k f=none/\ ∀i,k<=i->i<k+f->q i=false)\/ ∃n,upTo q k f=some n/\k<=n/\n<k+f/\q n=true/\ ∀i,k<=i->i<n->q i=false
 |0,k=>.inl ⟨rfl,fun i h1 h2=>absurd h2 om⟩
 |f+1,k=>by
   unfold upTo
   by_cases h:q k=true
   ·rw[if_pos h]
    exact .inr ⟨k,rfl,Nat.le_refl _,om,h,fun i h1 h2=>absurd h2 om⟩
   ·rw[if_neg h]
    have hk:q k=false:=by simpa using h
    rcases xet f (k+1)with⟨e,x⟩|⟨n,e,h1,h2,h3,h4⟩
    ·refine .inl ⟨e,fun i a b=>?_⟩
     by_cases c:i=k
     ·rw[c];exact hk
     ·exact x i om om
    ·refine .inr ⟨n,e,om,om,h3,fun i a b=>?_⟩
     by_cases c:i=k
     ·rw[c];exact hk
     ·exact h4 i om b
theorem size_iff(hOk:Ok size start ds):((sizeR size start ds).2=0\/(sizeR size start ds).2=3)/\(0<=(sizeR size start ds).1/\(sizeR size start ds).1<=60)/\
 ∀z:Int,0<=z->z<=60->(Lasts z start ds<->(sizeR size start ds).2=0/\(sizeR size start ds).1<=z):=by
 have hm:∀z z':Int,z<=z'->Lasts z start ds->Lasts z' start ds:=fun z z' h x=>xa8 h om x
 unfold sizeR
 rw[if_pos hOk]
 rcases xet (q:=fun k=>decide (Lasts (k:Nat) start ds)) 61 0 with⟨e,x⟩|⟨n,e,_,h2,h3,h4⟩<;>rw[e]
 ·refine⟨.inr rfl,⟨Int.le_refl _,by decide⟩,fun z h0 h1=>⟨fun y=>?_,fun y=>absurd y.1 (by decide)⟩⟩
  have:=x z.toNat om om
  rw[show((z.toNat:Nat):Int)=z from by omega]at this
  exact absurd y (of_decide_eq_false this)
 ·refine⟨.inl rfl,⟨by show(0:Int)<=(n:Nat);omega,by show((n:Nat):Int)<=60;omega⟩,fun z h0 h1=>⟨fun y=>⟨rfl,Int.not_lt.1 fun hlt=>?_⟩,fun y=>hm _ _ y.2 (of_decide_eq_true h3)⟩⟩
  have hlt:z<((n:Nat):Int):=hlt
  have:=h4 z.toNat om om
  rw[show((z.toNat:Nat):Int)=z from by omega]at this
  exact absurd y (of_decide_eq_false this)
theorem dryY_iff(hOk:Ok size start ds):(dryY size start ds).2=3<->Lasts size start ds:=by
 unfold dryY
 rw[if_pos hOk]
 have key:dryX size start ds<0<->Lasts size start ds:=by
  rw[<- Int.not_le]
  unfold dryX
  rw[Flow.idxA_iff]
  unfold Lasts
  refine⟨fun h i hi hl=>h ⟨sideDay size (min start size) (wantOf ds) (loOf ds) i,List.mem_map.2 ⟨i,List.mem_range.2 hi,rfl⟩,decide_eq_true (show 0<lack size (min start size) (wantOf ds) (loOf ds) i from hl)⟩,fun h=>?_⟩
  rintro⟨d,hd,hl⟩
  obtain⟨i,hi,rfl⟩:=List.mem_map.1 hd
  exact h i (List.mem_range.1 hi) (show 0<lack size (min start size) (wantOf ds) (loOf ds) i from of_decide_eq_true hl)
 by_cases c:dryX size start ds<0
 ·rw[if_pos c,if_pos c];exact⟨fun _=>key.1 c,fun _=>rfl⟩
 ·rw[if_neg c,if_neg c];exact⟨fun h=>(by cases h),fun h=>absurd (key.2 h) c⟩
end
end Go.X.Cist
namespace Go.X.Ms
open Go.X.Cist (Ok Lasts sizeR dryY size_iff dryY_iff)
def szT(t:Twn)(x:Int):Twn:={t with y:={t.y with size:=x}}
theorem xpc{t:Twn}(h:chkT t=0)(x:Int):chkT (szT t x)=0<->t.y.start<=x/\x<=60:=by
 obtain⟨h1,h2,h3⟩:=xvx.1 h
 have O:=Cist.chk_zero.1 h3
 rw[xvx]
 show chkF t.s=0/\Flow.chkB t.b=0/\Cist.chk x t.y.start t.y.days=0<->_
 rw[Cist.chk_zero]
 unfold Ok at O⊢
 exact⟨fun h=>⟨h.2.2.2.2.2.1,h.2.2.2.1⟩,fun h=>⟨h1,h2,om,h.2,O.2.2.1,h.1,O.2.2.2.2⟩⟩
def wSize:Str:=[115,105,122,101]
def wEmpty:Str:=[101,109,112,116,121]
def wLeast:Str:=[108,101,97,115,116]
def wKeepN:Str:=[107,101,101,112,32,110,32,108,101,97,115,116]
def wSizeN:Str:=[115,105,122,101,32,110]
theorem ymx:qn (wSize++txt ((1:Nat):Int))=none:=by rw[xfv (by decide)];kernel_rfl
theorem xm2:od (wSize++txt ((1:Nat):Int))=some .size:=by rw[xfv (by decide)];kernel_rfl
theorem ymm{d:Dsk}(h:chkT d.now.t=0){x:Int}(hx: -999999<=x/\x<=999999):doD d (sayK wSize [x] 1)=if d.now.t.y.start<=x/\x<=60 then(setD d (szT d.now.t x),wOk)else(d,wNo):=by
 refine(ygk (d:=d) (w:=wSize) (l:=[x]) (o:=.size) (by decide) (by decide) (fun z hz=>by rw[List.mem_singleton.1 hz];exact hx) ymx xm2 rfl).trans ?_
 show(if chkT (szT d.now.t x)=0 then _ else _)=_
 by_cases c:d.now.t.y.start<=x/\x<=60
 ·rw[if_pos c,if_pos ((xpc h x).2 c)];rfl
 ·rw[if_neg c,if_neg fun z=>c ((xpc h x).1 z)]
theorem xl6{d:Dsk}(h:chkT d.now.t=0):doD d wSizeN=if d.now.kept.getD 13 0=0 then(d,wUnknown)else if d.now.t.y.start<=d.now.nums.getD 13 0/\d.now.nums.getD 13 0<=60 then(setD d (szT d.now.t (d.now.nums.getD 13 0)),wOk)else(d,wNo):=by
 have hs:splitS wSizeN=wSize::[[110]]:=by decide
 rw[xkn hs (by decide)]
 have hv:valS d.now [110]=if d.now.kept.getD 13 0=0 then none else some (d.now.nums.getD 13 0):=xzp (by decide)
 by_cases c:d.now.kept.getD 13 0=0
 ·rw[if_pos c]
  rw[if_pos c]at hv
  exact xk5 (by decide) (.inr ⟨rfl,by show od (wSize++txt ((1:Nat):Int))≠none;rw[xm2];simp⟩) (by rw[valsS,hv])
 ·rw[if_neg c]
  rw[if_neg c]at hv
  refine(xlf (o:=.size) (vs:=[d.now.nums.getD 13 0]) ymx xm2 (by decide) (by decide) (by rw[valsS,hv];rfl)).trans ?_
  show(if chkT (szT d.now.t (d.now.nums.getD 13 0))=0 then _ else _)=_
  by_cases c:d.now.t.y.start<=d.now.nums.getD 13 0/\d.now.nums.getD 13 0<=60
  ·rw[if_pos c,if_pos ((xpc h _).2 c)];rfl
  ·rw[if_neg c,if_neg fun z=>c ((xpc h _).1 z)]
theorem yfk{d:Dsk}{w:Str}(hw:(32:UInt8)∉w)(hk:w≠wKeep)(ho:opensW w 0=true)(hq:qn (w++[48])=none):doD d w=((tryD d w).1,doneW (tryD d w).2):=by
 rw[xkn (xec hw) hk]
 exact xl5 (by rw[xfv (by decide)];exact hq) ho
theorem xzf(d:Dsk):doD d wEmpty=(d,askT d.now.t (wEmpty,.empty,[])):=yhk (x:=(wEmpty,.empty,[])) ⟨by decide,by decide,fun x hx=>(by cases hx),by rw[show(txt (([]:List Int).length:Nat))=[48] from xfv (by decide)];rfl⟩
theorem yad(d:Dsk):doD d wKeepN=askD d .least [] [110]:=by
 have hs:splitS wKeepN=wKeep::[110]::wLeast::[]:=by decide
 rw[xy2 hs (by decide)]
 exact xwv (by rw[show(txt (([]:List Str).length:Nat))=[48] from xfv (by decide)];rfl) rfl rfl
theorem yrv{n:Int}:txt n≠wNone:=fun h=>by
 have hc:(111:UInt8)∈txt n:=by rw[h];decide
 unfold txt at hc
 have hd:¬ (111:UInt8)∈txtN n.natAbs:=fun z=>absurd (xdc _ z) (by decide)
 split at hc
 ·rcases List.mem_cons.1 hc with e|hc
  ·cases e
  ·exact hd hc
 ·exact hd hc
theorem ansS_none{n e:Int}:ansS e (txt n)=wNone<->e=3:=by
 unfold ansS
 by_cases c:e=3
 ·rw[if_pos c];exact⟨fun _=>c,fun _=>rfl⟩
 ·rw[if_neg c]
  refine⟨fun h=>?_,fun h=>absurd h c⟩
  split at h
  ·cases h
  ·exact absurd h yrv
theorem xop{t:Twn}(h:chkT t=0):askT t (wEmpty,.empty,[])=wNone<->Lasts t.y.size t.y.start t.y.days:=ansS_none.trans (dryY_iff (Cist.chk_zero.1 (xvx.1 h).2.2))
theorem yln{t:Twn}(h:chkT t=0){x:Int}(hx: -999999<=x/\x<=999999):∃a1 a2 a4 a5 a6 t',runR t [wBegin,sayK wSize [x] 1,wEmpty,wDrop,wKeepN,wSizeN,wEmpty]=([wOk,a1,a2,wOk,a4,a5,a6],t')/\
 ((a1=wOk<->t.y.start<=x/\x<=60)/\(a1=wOk\/a1=wNo))/\(a1=wOk->(a2=wNone<->(sizeR t.y.size t.y.start t.y.days).2=0/\(sizeR t.y.size t.y.start t.y.days).1<=x))/\
 ((sizeR t.y.size t.y.start t.y.days).2=0\/(sizeR t.y.size t.y.start t.y.days).2=3)/\(0<=(sizeR t.y.size t.y.start t.y.days).1/\(sizeR t.y.size t.y.start t.y.days).1<=60)/\
 ((sizeR t.y.size t.y.start t.y.days).2≠0->a4=wNone/\a5=wUnknown/\t'=t)/\
 ((sizeR t.y.size t.y.start t.y.days).2=0->a4=txt (sizeR t.y.size t.y.start t.y.days).1/\(a5=wOk<->t.y.start<=(sizeR t.y.size t.y.start t.y.days).1)/\(a5=wOk->a6=wNone)/\
   t'=if t.y.start<=(sizeR t.y.size t.y.start t.y.days).1 then szT t (sizeR t.y.size t.y.start t.y.days).1 else t):=by
 have O:=Cist.chk_zero.1 (xvx.1 h).2.2
 obtain⟨e3,⟨n0,n60⟩,hL⟩:=size_iff O
 rw[xqb (ls:=[wBegin,sayK wSize [x] 1,wEmpty,wDrop,wKeepN,wSizeN,wEmpty]) h (show(7:Nat)<=30 by decide)]
 have hb:doD (startD t) wBegin=(⟨(startD t).now,[(startD t).now]⟩,wOk):=yfk (by decide) (by decide) (by decide) (by kernel_rfl)
 have hdr:∀s:Snap,doD ⟨s,[(startD t).now]⟩ wDrop=(startD t,wOk):=fun s=>yfk (by decide) (by decide) (by decide) (by kernel_rfl)
 have hlast:∃a4 a5 a6 t',runD (startD t) [wKeepN,wSizeN,wEmpty]=((runD (startD t) [wKeepN,wSizeN,wEmpty]).1,[a4,a5,a6])/\(runD (startD t) [wKeepN,wSizeN,wEmpty]).1.now.t=t'/\
  ((sizeR t.y.size t.y.start t.y.days).2≠0->a4=wNone/\a5=wUnknown/\t'=t)/\
  ((sizeR t.y.size t.y.start t.y.days).2=0->a4=txt (sizeR t.y.size t.y.start t.y.days).1/\(a5=wOk<->t.y.start<=(sizeR t.y.size t.y.start t.y.days).1)/\(a5=wOk->a6=wNone)/\
    t'=if t.y.start<=(sizeR t.y.size t.y.start t.y.days).1 then szT t (sizeR t.y.size t.y.start t.y.days).1 else t):=by
  have hk:doD (startD t) wKeepN=askD (startD t) .least [] [110]:=yad _
  rw[runD,runD,runD,runD,hk]
  unfold askD
  show ∃a4 a5 a6 t',_
  have eq:askQ .least (startD t).now.t []=(.num (sizeR t.y.size t.y.start t.y.days).1,(sizeR t.y.size t.y.start t.y.days).2):=rfl
  rw[eq]
  generalize sizeR t.y.size t.y.start t.y.days=N at*
  obtain⟨n,e⟩:=N
  simp only at n0 n60 e3 hL
  rcases e3 with rfl|rfl
  ·simp only
   rw[if_neg (by decide),if_neg (by decide),if_pos (by decide)]
   have hs:=xl6 (d:=keepD (startD t) [110] (.num n)) h
   have k1:(keepD (startD t) [110] (.num n)).now.kept.getD 13 0=1:=rfl
   have k2:(keepD (startD t) [110] (.num n)).now.nums.getD 13 0=n:=rfl
   have k3:(keepD (startD t) [110] (.num n)).now.t=t:=rfl
   rw[k1,k2,k3,if_neg (by decide)]at hs
   rw[hs]
   by_cases c:t.y.start<=n
   ·rw[if_pos ⟨c,n60⟩,xzf]
    refine⟨_,_,_,_,rfl,rfl,fun z=>absurd rfl z,fun _=>⟨rfl,⟨fun _=>c,fun _=>rfl⟩,fun _=>?_,by rw[if_pos c];rfl⟩⟩
    show askT (szT t n) _=_
    rw[xop ((xpc h n).2 ⟨c,n60⟩)]
    exact(hL n n0 n60).2 ⟨rfl,Int.le_refl _⟩
   ·rw[if_neg fun z=>c z.1]
    exact⟨_,_,_,_,rfl,rfl,fun z=>absurd rfl z,fun _=>⟨rfl,⟨fun z=>(by cases z),fun z=>absurd z c⟩,fun z=>(by cases z),by rw[if_neg c,xzf];rfl⟩⟩
  ·simp only
   rw[if_pos trivial]
   have hs:=xl6 (d:=startD t) h
   rw[if_pos (by rfl)]at hs
   rw[hs]
   exact⟨_,_,_,_,rfl,rfl,fun _=>⟨rfl,rfl,by rw[xzf];rfl⟩,fun z=>absurd z (by decide)⟩
 obtain⟨a4,a5,a6,t',r1,r2,r3,r4⟩:=hlast
 have e1:=ymm (d:=⟨(startD t).now,[(startD t).now]⟩) h hx
 have e1:doD ⟨(startD t).now,[(startD t).now]⟩ (sayK wSize [x] 1)=if t.y.start<=x/\x<=60 then(⟨⟨szT t x,(startD t).now.nums,(startD t).now.kept⟩,[(startD t).now]⟩,wOk)else(⟨(startD t).now,[(startD t).now]⟩,wNo):=e1
 rw[runD,hb,runD,e1]
 by_cases c:t.y.start<=x/\x<=60
 ·rw[if_pos c,runD,xzf,runD,hdr,r1]
  refine⟨wOk,_,a4,a5,a6,t',Prod.ext rfl r2,⟨⟨fun _=>c,fun _=>rfl⟩,.inl rfl⟩,fun _=>?_,e3,⟨n0,n60⟩,r3,r4⟩
  show askT (szT t x) _=wNone<->_
  rw[xop ((xpc h x).2 c)]
  exact hL x (by have:=O.2.2.1;omega) c.2
 ·rw[if_neg c,runD,xzf,runD,hdr,r1]
  exact⟨wNo,_,a4,a5,a6,t',Prod.ext rfl r2,⟨⟨fun z=>(by cases z),fun z=>absurd z c⟩,.inr rfl⟩,fun z=>(by cases z),e3,⟨n0,n60⟩,r3,r4⟩
end Go.X.Ms
namespace Go.X.Ms
open Go.X.Flow (FWay Bf wz Vd YOk Tn)
theorem yut{x y z:FWay}(h:Bf x y)(k:Bf y z):Bf x z:=by unfold Bf at *;omega
theorem ymd{w x:FWay}:behW w x=true<->Bf w x:=by unfold behW Bf;rw[decide_eq_true_iff]
theorem xa7{x w:FWay}{xs:List FWay}:wayAt (x::xs) w=if behW w x=true then 0 else wayAt xs w+1:=by
 unfold wayAt
 rw[Flow.idxA]
 by_cases c:behW w x=true
 ·rw[if_pos c,if_pos c,if_neg (by decide)];rfl
 ·rw[if_neg c,if_neg c]
  by_cases k:Flow.idxA (behW w) xs<0
  ·rw[if_pos k,if_pos k,if_pos (by decide),List.length_cons]
  ·rw[if_neg k,if_neg k,if_neg om]
   omega
theorem yzz{x w:FWay}{xs:List FWay}:insW (x::xs) w=if behW w x=true then w::x::xs else x::insW xs w:=by
 unfold insW
 rw[xa7]
 split
 ·rfl
 ·rfl
theorem xp9{ws:List FWay}(h:∀i,i+1<ws.length->Bf (ws.getD i wz) (ws.getD (i+1) wz)):ws.Pairwise Bf:=by
 have key:∀k i,i+k+1<ws.length->Bf (ws.getD i wz) (ws.getD (i+k+1) wz):=by
  intro k
  induction k with
  |zero=>intro i hi;exact h i hi
  |succ k ih=>intro i hi;exact yut (ih i om) (h (i+k+1) om)
 rw[List.pairwise_iff_getElem]
 intro i j hi hj hij
 have:=key (j-i-1) i om
 rw[show i+(j-i-1)+1=j by omega,Flow.getD_at hi,Flow.getD_at hj]at this
 exact this
theorem xq9{ws:List FWay}(h:ws.Pairwise Bf){i j:Nat}(hij:i<j)(hj:j<ws.length):Bf (ws.getD i wz) (ws.getD j wz):=by
 have:=List.pairwise_iff_getElem.1 h i j om hj hij
 rwa[Flow.getD_at om,Flow.getD_at hj]
def wyT(t:Twn)(ws:List FWay):Twn:={t with b:={t.b with wy:=ws}}
def inR(t:Twn)(w:FWay):Prop:=(0<=w.1/\w.1<=(t.b.nH:Int)-1)/\0<=w.2/\w.2<=(t.b.nW:Int)-1
theorem xbc{b:Tn}:Flow.chkB b=0<->b.m<=12/\Vd b:=by
 rcases Flow.chkB_cases b with⟨h,k⟩|⟨h,k⟩
 ·exact⟨fun _=>k,fun _=>h⟩
 ·exact⟨fun z=>om,fun z=>absurd z k⟩
theorem ygd{t:Twn}(h:chkT t=0){ws:List FWay}:chkT (wyT t ws)=0<->ws.length<=12/\(∀w∈ws,inR t w)/\ws.Pairwise Bf:=by
 obtain⟨h1,h2,h3⟩:=xvx.1 h
 obtain⟨hm,V⟩:=xbc.1 h2
 rw[xvx]
 have e:Flow.chkB (wyT t ws).b=0<->ws.length<=12/\(∀w∈ws,inR t w)/\ws.Pairwise Bf:=by
  rw[xbc]
  refine⟨fun⟨k1,k2⟩=>⟨k1,fun w hw=>?_,xp9 fun i hi=>?_⟩,fun⟨k1,k2,k3⟩=>⟨k1,V.nh,V.nw,V.h,V.w,fun i hi=>?_⟩⟩
  ·obtain⟨i,hi,e⟩:=List.mem_iff_getElem.1 hw
   have:=k2.y i hi
   have e2:(wyT t ws).b.wy.getD i wz=w:=(Flow.getD_at (l:=ws) hi).trans e
   unfold YOk at this
   rw[e2]at this
   exact⟨this.1,this.2.1⟩
  ·have:=(k2.y (i+1) hi).2.2 om
   rw[show(((i+1:Nat):Int)-1).toNat=i by omega]at this
   exact this
  ·have hi:i<ws.length:=hi
   have e2:(wyT t ws).b.wy.getD i wz=ws[i]:=Flow.getD_at (l:=ws) hi
   have r:=k2 _ (List.getElem_mem hi)
   refine⟨by rw[e2];exact r.1,by rw[e2];exact r.2,fun h0=>?_⟩
   exact xq9 k3 om hi
 exact⟨fun k=>e.1 k.2.1,fun k=>⟨h1,e.2 k,h3⟩⟩
end Go.X.Ms
namespace Go.X.Ms
def wUp:Str:=[117,112]
def dnT(t:Twn)(fs:List Int):Twn:={t with s:={t.s with feet:=fs}}
theorem yhd{t:Twn}(h:chkT t=0){fs:List Int}:chkT (dnT t fs)=0<->fs.length<=12/\ ∀x∈fs,okF t.s.rocks.length x:=by
 obtain⟨h1,h2,h3⟩:=xvx.1 h
 have ok:=xnw.1 h1
 rw[xvx,xnw]
 exact⟨fun⟨k,_,_⟩=>⟨k.2.2.1,k.2.2.2.1⟩,fun k=>⟨⟨ok.1,ok.2.1,k.1,k.2,ok.2.2.2.2⟩,h2,h3⟩⟩
theorem yul{t:Twn}(h:chkT t=0):t.s.feet.length<=12/\ ∀x∈t.s.feet,okF t.s.rocks.length x:=by
 have:=(xnw.1 (xvx.1 h).1)
 exact⟨this.2.2.1,this.2.2.2.1⟩
end Go.X.Ms
namespace Go.X.Ms
open Go.X.Flow (FWay Bf wz Vd YOk Tn)
open Go.X.Cist (Day dz)
abbrev Cmd:=Str×Od×List Int
def Cmd.line(c:Cmd):Str:=sayK c.1 c.2.2 c.2.2.length
def Cmd.ok(c:Cmd):Prop:=((32:UInt8)∉c.1/\c.1≠wKeep)/\sm6 c.2.2/\qn (c.1++txt c.2.2.length)=none/\od (c.1++txt c.2.2.length)=some c.2.1/\opensW c.1 c.2.2.length=false/\c.1.length+21*c.2.2.length<=900
def StepsM:Twn->List Cmd->Twn->Prop
 |t,[],t'=>t=t'
 |t,c::cs,t'=>∃u,c.ok/\turnO c.2.1 t c.2.2=some u/\chkT u=0/\StepsM u cs t'
theorem xok:∀{a b:List Cmd}{t t':Twn},StepsM t (a++b) t'<-> ∃u,StepsM t a u/\StepsM u b t'
 |[],b,t,t'=>⟨fun h=>⟨t,rfl,h⟩,fun⟨u,e,h⟩=>by cases e;exact h⟩
 |c::a,b,t,t'=>by
   refine⟨fun⟨u,h1,h2,h3,h4⟩=>?_,fun⟨v,⟨u,h1,h2,h3,h4⟩,h5⟩=>⟨u,h1,h2,h3,xok.2 ⟨v,h4,h5⟩⟩⟩
   obtain⟨v,h5,h6⟩:=xok.1 h4
   exact⟨v,⟨u,h1,h2,h3,h5⟩,h6⟩
theorem xit:∀{a:List Cmd}{t t':Twn},StepsM t a t'->chkT t=0->chkT t'=0
 |[],_,_,e,h=>by cases e;exact h
 |_::_,_,_,⟨_,_,_,h3,h4⟩,_=>xit h4 h3
theorem xdr:∀{a:List Cmd}{t t':Twn},StepsM t a t'-> ∀c∈a,c.ok
 |[],_,_,_,c,hc=>by cases hc
 |x::a,_,_,⟨_,h1,_,_,h4⟩,c,hc=>by
   rcases List.mem_cons.1 hc with rfl|hc
   ·exact h1
   ·exact xdr h4 c hc
theorem xr1{a:List Cmd}{t t':Twn}(h:StepsM t a t')(n:Nat):∃u,StepsM t (a.take n) u/\StepsM u (a.drop n) t':=xok.1 (by rw[List.take_append_drop];exact h)
theorem xgk{α:Type}(g:α->Cmd):∀(xs:List α)(P:Nat->Twn),(∀i(hi:i<xs.length),(g xs[i]).ok/\turnO (g xs[i]).2.1 (P i) (g xs[i]).2.2=some (P (i+1))/\chkT (P (i+1))=0)->StepsM (P 0) (xs.map g) (P xs.length)
 |[],_,_=>rfl
 |x::xs,P,H=>by
   obtain⟨h1,h2,h3⟩:=H 0 (by simp)
   exact⟨P 1,h1,h2,h3,xgk g xs (fun i=>P (i+1)) fun i hi=>by have:=H (i+1) (by simpa using hi);simpa using this⟩
theorem xpt:∀{cs:List Cmd}{d:Dsk}{t':Twn},StepsM d.now.t cs t'->runD d (cs.map Cmd.line)=(setD d t',cs.map fun _=>wOk)
 |[],d,_,e=>by cases e;rfl
 |c::cs,d,t',⟨u,h1,h2,h3,h4⟩=>by
   obtain⟨⟨k1,k2⟩,k3,k4,k5,k6,_⟩:=h1
   have e:=ygk (d:=d) k1 k2 k3 k4 k5 k6
   rw[h2]at e
   simp only at e
   rw[if_pos h3]at e
   rw[List.map_cons,runD]
   unfold Cmd.line
   rw[e]
   have ih:=xpt (cs:=cs) (d:=setD d u) (t':=t') h4
   unfold Cmd.line setD at ih
   simp only[ih]
   rfl
theorem xn9{cs:List Cmd}{t t':Twn}(h:StepsM t cs t')(hv:chkT t=0)(hl:cs.length<=30):runR t (cs.map Cmd.line)=(cs.map fun _=>wOk,t'):=by
 rw[xqb hv (by simpa using hl),xpt (d:=startD t) h];rfl
theorem xym{w:Str}{o:Od}{l:List Int}(h1:(32:UInt8)∉w)(h2:w≠wKeep)(h10:l.length<10)(h3:sm6 l)(h4:qn (w++[UInt8.ofNat (48+l.length)])=none)(h5:od (w++[UInt8.ofNat (48+l.length)])=some o)(h6:opensW w l.length=false)(h7:w.length<=100):Cmd.ok (w,o,l):=
 ⟨⟨h1,h2⟩,h3,by show qn (w++txt l.length)=_;rw[xfv h10];exact h4,by show od (w++txt l.length)=_;rw[xfv h10];exact h5,h6,by show w.length+21*l.length<=900;omega⟩
def cDay(d:Day):Cmd:=([100,97,121],.day,[d.lo,d.hi,d.want])
def cHouse(x:Int):Cmd:=([104,111,117,115,101],.house,[x])
def cWell(x:Int):Cmd:=([119,101,108,108],.well,[x])
def cWay(w:FWay):Cmd:=([119,97,121],.way,[w.1,w.2])
def cRock(r:Rk):Cmd:=([114,111,99,107],.rock,[r.hr,r.pe,r.sd,r.st])
def cFoot(x:Int):Cmd:=([102,111,111,116],.foot,[x])
def cUp:Cmd:=(wUp,.up,[])
def cmds(t:Twn):List Cmd:=t.y.days.map cDay++(t.b.hs.map cHouse++(t.b.ws.map cWell++(t.b.wy.reverse.map cWay++(t.s.rocks.map cRock++t.s.feet.map cFoot))))
def partT(t:Twn)(f c d e r q:Nat):Twn:=⟨⟨t.s.rocks.take r,t.s.feet.take q,t.s.deep,t.s.haul,t.s.rest⟩,⟨t.b.hs.take c,t.b.ws.take d,t.b.wy.drop e⟩,⟨t.y.size,t.y.start,t.y.days.take f⟩⟩
theorem xnm{α:Type}{l:List α}{n i:Nat}{z:α}(h:i<n):(l.take n).getD i z=l.getD i z:=by
 rw[List.getD_eq_getElem?_getD,List.getD_eq_getElem?_getD,List.getElem?_take_of_lt h]
theorem xkd{t:Twn}(h:chkT t=0){f c d e r q:Nat}(hq:q=0\/t.s.rocks.length<=r)(he:t.b.wy.length<=e\/(t.b.hs.length<=c/\t.b.ws.length<=d)):chkT (partT t f c d e r q)=0:=by
 obtain⟨h1,h2,h3⟩:=xvx.1 h
 have S:=xnw.1 h1
 obtain⟨hm,V⟩:=xbc.1 h2
 have O:=Cist.chk_zero.1 h3
 refine xvx.2 ⟨xnw.2 ⟨?_,fun x hx=>S.2.1 x (List.mem_of_mem_take hx),?_,fun x hx=>?_,S.2.2.2.2⟩,xbc.2 ⟨?_,⟨?_,?_,fun i hi=>?_,fun i hi=>?_,fun i hi=>?_⟩⟩,Cist.chk_zero.2 ⟨O.1,O.2.1,O.2.2.1,O.2.2.2.1,?_,fun i hi=>?_⟩⟩
 ·show(t.s.rocks.take r).length<=4;rw[List.length_take];have:=S.1;omega
 ·show(t.s.feet.take q).length<=12;rw[List.length_take];have:=S.2.2.1;omega
 ·have hx:x∈t.s.feet.take q:=hx
  rcases hq with rfl|hq
  ·simp at hx
  ·show okF (t.s.rocks.take r).length x
   rw[List.take_of_length_le hq]
   exact S.2.2.2.1 x (List.mem_of_mem_take hx)
 ·show(t.b.wy.drop e).length<=12;rw[List.length_drop];have:t.b.wy.length<=12:=hm;omega
 ·show(t.b.hs.take c).length<=6;rw[List.length_take];have:t.b.hs.length<=6:=V.nh;omega
 ·show(t.b.ws.take d).length<=5;rw[List.length_take];have:t.b.ws.length<=5:=V.nw;omega
 ·have hi:i<(t.b.hs.take c).length:=hi
  rw[List.length_take]at hi
  show 0<=(t.b.hs.take c).getD i 0/\(t.b.hs.take c).getD i 0<=9
  rw[xnm om]
  exact V.h i (by show i<t.b.hs.length;omega)
 ·have hi:i<(t.b.ws.take d).length:=hi
  rw[List.length_take]at hi
  show 0<=(t.b.ws.take d).getD i 0/\(t.b.ws.take d).getD i 0<=20
  rw[xnm om]
  exact V.w i (by show i<t.b.ws.length;omega)
 ·have hi:i<(t.b.wy.drop e).length:=hi
  rw[List.length_drop]at hi
  have hcd:t.b.hs.length<=c/\t.b.ws.length<=d:=he.resolve_left om
  have Y:=V.y (e+i) (by show e+i<t.b.wy.length;omega)
  have g:∀j,(t.b.wy.drop e).getD j wz=t.b.wy.getD (e+j) wz:=fun j=>by rw[List.getD_eq_getElem?_getD,List.getD_eq_getElem?_getD,List.getElem?_drop]
  refine⟨?_,?_,fun h0=>?_⟩
  ·show 0<=((t.b.wy.drop e).getD i wz).1/\((t.b.wy.drop e).getD i wz).1<=(((t.b.hs.take c).length:Nat):Int)-1
   rw[g,List.take_of_length_le hcd.1];exact Y.1
  ·show 0<=((t.b.wy.drop e).getD i wz).2/\((t.b.wy.drop e).getD i wz).2<=(((t.b.ws.take d).length:Nat):Int)-1
   rw[g,List.take_of_length_le hcd.2];exact Y.2.1
  ·show Bf ((t.b.wy.drop e).getD ((i:Int)-1).toNat wz) ((t.b.wy.drop e).getD i wz)
   have b:=Y.2.2 om
   rw[g,g]
   rw[show(((e+i:Nat):Int)-1).toNat=e+((i:Int)-1).toNat by omega]at b
   exact b
 ·show(t.y.days.take f).length<=8;rw[List.length_take];have:=O.2.2.2.2.1;omega
 ·have hi:i<(t.y.days.take f).length:=hi
  rw[List.length_take]at hi
  show Cist.DayOk ((t.y.days.take f).getD i dz)
  rw[xnm om]
  exact O.2.2.2.2.2 i om
theorem xew{α:Type}{l:List α}{i:Nat}(hi:i<l.length):l.take i++[l[i]]=l.take (i+1):=by rw[List.take_add_one,List.getElem?_eq_getElem hi];rfl
theorem xd8{w:FWay}{ws:List FWay}(h:(w::ws).Pairwise Bf):insW ws w=w::ws:=by
 cases ws with
 |nil=>rfl
 |cons x xs=>rw[yzz,if_pos (ymd.2 ((List.pairwise_cons.1 h).1 x (by simp)))]
theorem xi7{l:List Int}(h:∀x∈l,-1<=x/\x<=100):sm6 l:=fun x hx=>by have:=h x hx;omega
theorem xsn{t:Twn}(h:chkT t=0):StepsM (partT t 0 0 0 t.b.wy.length 0 0) (cmds t) t:=by
 obtain⟨h1,h2,h3⟩:=xvx.1 h
 have S:=xnw.1 h1
 obtain⟨hm,V⟩:=xbc.1 h2
 have O:=Cist.chk_zero.1 h3
 obtain⟨f1,f2,f3⟩:=(ygd (ws:=t.b.wy) h).1 h
 have nh:t.b.hs.length<=6:=V.nh
 have nw:t.b.ws.length<=5:=V.nw
 have n4:=S.1
 have s1:=xgk cDay t.y.days (fun i=>partT t i 0 0 t.b.wy.length 0 0) fun i hi=>by
  have D:=O.2.2.2.2.2 i hi
  rw[Flow.getD_at hi]at D
  unfold Cist.DayOk at D
  refine⟨xym (by decide) (by decide) (Nat.le_of_ble_eq_true rfl) (xi7 fun x hx=>?_) (by kernel_rfl) (by kernel_rfl) rfl (by decide),?_,xkd h (.inl rfl) (.inl (Nat.le_refl _))⟩
  ·simp only[List.mem_cons,List.not_mem_nil,or_false]at hx
   rcases hx with rfl|rfl|rfl<;>omega
  ·show some (_:Twn)=_
   congr 1
   unfold partT
   rw[<- xew hi];rfl
 have s2:=xgk cHouse t.b.hs (fun i=>partT t t.y.days.length i 0 t.b.wy.length 0 0) fun i hi=>by
  have D:=V.h i hi
  rw[Flow.getD_at hi]at D
  refine⟨xym (by decide) (by decide) (Nat.le_of_ble_eq_true rfl) (xi7 fun x hx=>?_) (by kernel_rfl) (by kernel_rfl) rfl (by decide),?_,xkd h (.inl rfl) (.inl (Nat.le_refl _))⟩
  ·rw[List.mem_singleton.1 hx];omega
  ·show some (_:Twn)=_
   congr 1
   unfold partT
   rw[<- xew hi];rfl
 have s3:=xgk cWell t.b.ws (fun i=>partT t t.y.days.length t.b.hs.length i t.b.wy.length 0 0) fun i hi=>by
  have D:=V.w i hi
  rw[Flow.getD_at hi]at D
  refine⟨xym (by decide) (by decide) (Nat.le_of_ble_eq_true rfl) (xi7 fun x hx=>?_) (by kernel_rfl) (by kernel_rfl) rfl (by decide),?_,xkd h (.inl rfl) (.inl (Nat.le_refl _))⟩
  ·rw[List.mem_singleton.1 hx];omega
  ·show some (_:Twn)=_
   congr 1
   unfold partT
   rw[<- xew hi];rfl
 have s4:=xgk cWay t.b.wy.reverse (fun i=>partT t t.y.days.length t.b.hs.length t.b.ws.length (t.b.wy.length-i) 0 0) fun i hi=>by
  rw[List.length_reverse]at hi
  have hj:t.b.wy.length-1-i<t.b.wy.length:=om
  have hr:=f2 _ (List.getElem_mem hj)
  have e:t.b.wy.reverse[i]'(by rw[List.length_reverse];exact hi)=t.b.wy[t.b.wy.length-1-i]:=List.getElem_reverse _
  rw[e]
  have hd:t.b.wy.drop (t.b.wy.length-(i+1))=t.b.wy[t.b.wy.length-1-i]::t.b.wy.drop (t.b.wy.length-i):=by
   rw[List.drop_eq_getElem_cons (show t.b.wy.length-(i+1)<t.b.wy.length by omega)]
   congr 1
   ·congr 1;omega
   ·congr 1;omega
  have hp:(t.b.wy[t.b.wy.length-1-i]::t.b.wy.drop (t.b.wy.length-i)).Pairwise Bf:=by rw[<- hd];exact f3.sublist (List.drop_sublist _ _)
  refine⟨xym (by decide) (by decide) (Nat.le_of_ble_eq_true rfl) (xi7 fun x hx=>?_) (by kernel_rfl) (by kernel_rfl) rfl (by decide),?_,xkd h (.inl rfl) (.inr ⟨Nat.le_refl _,Nat.le_refl _⟩)⟩
  ·simp only[List.mem_cons,List.not_mem_nil,or_false]at hx
   have r1:=hr.1
   have r2:=hr.2
   have r3:(t.b.nH:Int)<=6:=by show((t.b.hs.length:Nat):Int)<=6;omega
   have r4:(t.b.nW:Int)<=5:=by show((t.b.ws.length:Nat):Int)<=5;omega
   rcases hx with rfl|rfl<;>omega
  ·show some (_:Twn)=_
   congr 1
   unfold partT
   rw[hd,<- xd8 hp];rfl
 have s5:=xgk cRock t.s.rocks (fun i=>partT t t.y.days.length t.b.hs.length t.b.ws.length 0 i 0) fun i hi=>by
  have D:=S.2.1 _ (List.getElem_mem hi)
  unfold okR at D
  refine⟨xym (by decide) (by decide) (Nat.le_of_ble_eq_true rfl) (xi7 fun x hx=>?_) (by kernel_rfl) (by kernel_rfl) rfl (by decide),?_,xkd h (.inl rfl) (.inr ⟨Nat.le_refl _,Nat.le_refl _⟩)⟩
  ·simp only[List.mem_cons,List.not_mem_nil,or_false]at hx
   rcases hx with rfl|rfl|rfl|rfl<;>omega
  ·show some (_:Twn)=_
   congr 1
   unfold partT
   rw[<- xew hi];rfl
 have s6:=xgk cFoot t.s.feet (fun i=>partT t t.y.days.length t.b.hs.length t.b.ws.length 0 t.s.rocks.length i) fun i hi=>by
  have D:=S.2.2.2.1 _ (List.getElem_mem hi)
  unfold okF at D
  refine⟨xym (by decide) (by decide) (Nat.le_of_ble_eq_true rfl) (xi7 fun x hx=>?_) (by kernel_rfl) (by kernel_rfl) rfl (by decide),?_,xkd h (.inr (Nat.le_refl _)) (.inr ⟨Nat.le_refl _,Nat.le_refl _⟩)⟩
  ·rw[List.mem_singleton.1 hx];omega
  ·show some (_:Twn)=_
   congr 1
   unfold partT
   rw[<- xew hi];rfl
 have eE:partT t t.y.days.length t.b.hs.length t.b.ws.length 0 t.s.rocks.length t.s.feet.length=t:=by
  unfold partT
  rw[List.take_length,List.take_length,List.take_length,List.take_length,List.take_length];rfl
 rw[eE]at s6
 unfold cmds
 refine xok.2 ⟨_,s1,xok.2 ⟨_,s2,xok.2 ⟨_,s3,xok.2 ⟨_,s4,xok.2 ⟨_,?_,s6⟩⟩⟩⟩⟩
 rw[List.length_reverse,Nat.sub_self]
 exact s5
theorem xm9{t:Twn}(h:chkT t=0):StepsM t (List.replicate t.s.feet.length cUp) (dnT t []):=by
 have key:∀n,n<=t.s.feet.length->StepsM (dnT t (t.s.feet.take n)) (List.replicate n cUp) (dnT t []):=fun n=>by
  induction n with
  |zero=>intro _;rfl
  |succ n ih=>
    intro hn
    have hf:=yul h
    refine⟨dnT t (t.s.feet.take n),xym (by decide) (by decide) (Nat.le_of_ble_eq_true rfl) (fun x hx=>by cases hx) (by kernel_rfl) (by kernel_rfl) rfl (by decide),?_,(yhd h).2 ⟨by rw[List.length_take];omega,fun x hx=>hf.2 x (List.mem_of_mem_take hx)⟩,ih om⟩
    show(if(t.s.feet.take (n+1)).length=0 then none else some (dnT t ((t.s.feet.take (n+1)).take ((t.s.feet.take (n+1)).length-1))))=_
    rw[List.length_take,if_neg om,List.take_take]
    congr 3
    omega
 have:=key _ (Nat.le_refl _)
 rw[List.take_length]at this
 exact this
theorem yhl{c:Cmd}(h:c.ok):c.line.length<=900:=by
 obtain⟨_,h2,_,_,_,h6⟩:=h
 have:=xkc (w:=c.1) (l:=c.2.2) (fun i hi=>by
  have:=h2 (c.2.2.getD i 0) (by rw[Flow.getD_at hi];exact List.getElem_mem hi)
  exact⟨om,om⟩) c.2.2.length (Nat.le_refl _)
 unfold Cmd.line;omega
def acc{α:Type}(L:List Str)(g:α->Cmd)(xs:List α)(j:Nat):List Str:=L++(xs.take j).map fun x=>(g x).line
theorem xcg{α:Type}(L:List Str)(g:α->Cmd)(xs:List α):acc L g xs 0=L:=by simp[acc]
theorem xtk{α:Type}{L:List Str}{g:α->Cmd}{xs:List α}{j:Nat}:(acc L g xs j).length<=L.length+j:=by simp[acc];omega
theorem xrc{α:Type}{L:List Str}{g:α->Cmd}{xs:List α}{j:Nat}(z:α)(h:j<xs.length):acc L g xs j++[(g (xs.getD j z)).line]=acc L g xs (j+1):=by
 unfold acc
 rw[List.getD_eq_getElem?_getD,List.getElem?_eq_getElem h,Option.getD_some,<- xew h,List.map_append,List.append_assoc];rfl
theorem yfd(t:Twn):(cmds t).map Cmd.line=acc (acc (acc (acc (acc (acc [] cDay t.y.days t.y.days.length) cHouse t.b.hs t.b.hs.length) cWell t.b.ws t.b.ws.length) cWay t.b.wy.reverse t.b.wy.length) cRock t.s.rocks t.s.rocks.length) cFoot t.s.feet t.s.feet.length:=by
 unfold acc cmds
 rw[List.take_length,List.take_length,List.take_length,List.take_length,List.take_length,show t.b.wy.reverse.take t.b.wy.length=t.b.wy.reverse from List.take_of_length_le (by simp)]
 simp[Function.comp_def]
theorem yxm{t:Twn}(h:chkT t=0):(∀x∈t.y.days,(cDay x).ok)/\(∀x∈t.b.hs,(cHouse x).ok)/\(∀x∈t.b.ws,(cWell x).ok)/\(∀x∈t.b.wy.reverse,(cWay x).ok)/\(∀x∈t.s.rocks,(cRock x).ok)/\ ∀x∈t.s.feet,(cFoot x).ok:=by
 have ok:=xdr (xsn h)
 unfold cmds at ok
 simp only[List.mem_append,List.mem_map]at ok
 exact⟨fun x hx=>ok _ (.inl ⟨x,hx,rfl⟩),fun x hx=>ok _ (.inr (.inl ⟨x,hx,rfl⟩)),fun x hx=>ok _ (.inr (.inr (.inl ⟨x,hx,rfl⟩))),fun x hx=>ok _ (.inr (.inr (.inr (.inl ⟨x,hx,rfl⟩)))),fun x hx=>ok _ (.inr (.inr (.inr (.inr (.inl ⟨x,hx,rfl⟩))))),fun x hx=>ok _ (.inr (.inr (.inr (.inr (.inr ⟨x,hx,rfl⟩)))))⟩
theorem xog{α:Type}{xs:List α}{i:Nat}{z:α}(h:i<xs.length):xs.getD i z∈xs:=by rw[List.getD_eq_getElem?_getD,List.getElem?_eq_getElem h];exact List.getElem_mem h
end Go.X.Ms
namespace Go.Proofs.YtjcakmlipohaeaaGreatDoor
open Go.Proofs.Tryz
open Go.X Go.X.Ms Go.Conc
open Go.X.Flow (ics)
open Go.X.Cist (dz)
theorem xsw(ls:List Str)(x:Str):scs ls++scs [x]=scs (ls++[x]):=by simp[scs]
set_option maxHeartbeats 800000 in
theorem c9(h:Heap)(p:PHeap)(hp:Per p h)(A:TA)(t:Twn)(T:TwP p A t)(g:GlP p)(a:Option Addr)(c:Nat)(cs:List Cmd)(S:Strs p a cs.length (cs.map Cmd.line))(hc:cs.length<=c)(hn:cs.length<=1000)(hv:chkT t=0){t':Twn}(hs:StepsM t cs t'):
 CallsX prog (.main true) 9 #[twV A t,.slice a cs.length c] h (LastR p h fun v p'=>∃A',v=.tuple #[twV A' t',.bool true]/\TwP p' A' t'):=by
 have S1:Sl p a cs.length 1 (scs (cs.map Cmd.line)):=S
 refine xfq hp func9 fun _ _ _ K=>?_
 refine xjq rfl fun b2=>?_
 refine lq fun b4=>?_
 refine ax ?_
 refine xpq (fun m_ l p_ L_=>∃(j:Nat)(u:Twn)(B:TA),m_=cs.length-30*j/\l=[(1,none,.slice a cs.length c),(2,none,.pointer (some ⟨b2,0,none⟩)),(4,none,.pointer (some ⟨b4,0,none⟩)),(6,none,.int .i64 ((30*j:Nat):Int))]/\PG h.size [] p p_/\
  L_=[[(b4,.cells (tcs zA zT).toArray 33 (0,0))],[(b2,.cells (tcs B u).toArray 33 (0,0))]]/\TwP p_ B u/\chkT u=0/\StepsM u (cs.drop (30*j)) t') ⟨0,t,A,rfl,rfl,PG.refl _ _ _,rfl,T,hv,hs⟩ sb ?_
 rintro m_ _ p1 _ IH ⟨j,u,B,hm,rfl,g1,rfl,T1,hu,hs⟩
 refine cq (fun cd=>?_) (fun cd=>?_)
 ·have hjl:30*j<cs.length:=om
  refine ax ?_
  refine xdz rfl fun v1 Y1 o1=>?_
  have o1:OwnS 9 1 v1 [] Y1:=o1
  refine ax ?_
  obtain⟨k,hk⟩:∃k:Nat,k=min cs.length (30*j+30):=⟨_,rfl⟩
  have ek:min ((cs.length:Nat):Int) (((30*j:Nat):Int)+30)=((k:Nat):Int):=om
  rw[ek]
  refine ax ?_
  have hd:=xr1 hs (k-30*j)
  obtain⟨w,hs1,hs2⟩:=hd
  have hw:=xit hs1 hu
  have hl:((cs.drop (30*j)).take (k-30*j)).length=k-30*j:=by rw[List.length_take,List.length_drop];omega
  have S2:=(S1.mono g1.le).part (l:=30*j) (r:=k) hc om om
  have eS:((scs (cs.map Cmd.line)).drop (30*j)).take (k-30*j)=scs (((cs.drop (30*j)).take (k-30*j)).map Cmd.line):=by simp[scs]
  rw[eS]at S2
  have hok:=xdr hs1
  generalize (cs.drop (30*j)).take (k-30*j)=ds at*
  have hd30:ds.length<=30:=om
  rw[<- hl]at S2
  refine yyn rfl rfl rfl ⟨om,om⟩ ?_
  rw[<- hl]
  refine ax ?_
  refine xhh rfl rfl o1 S2 (xx9 _) (by simp;omega) (fun v2 Y2 o2=>?_)
  rw[List.nil_append]at o2
  refine ax ?_
  have hf:=xcz hu
  refine xrz rfl rfl (fun _ pe=>c38 _ _ _ pe B u T1 (hf.up om)) ?_
  rintro _ p2 g2 ⟨B1,rfl,T2⟩
  refine ax ?_
  refine xbx o2 (m:=ds.length) (by rw[xuq,List.length_map]) (by decide) fun p3 a3 c3 g3 e3 h3 S3=>?_
  subst e3
  refine xrz rfl rfl (fun h pe=>by
   have c:=c15 h _ pe B1 u (T2.mono g3.le) (hf.up om) (g.mono ((g1.trans g2).trans g3).le) a3 c3 (ds.map Cmd.line) (by rw[List.length_map];exact S3) (by rw[List.length_map];omega) (fun s hs=>by
    obtain⟨x,hx,rfl⟩:=List.mem_map.1 hs
    exact yhl (hok x hx)) xup
   rw[List.length_map]at c
   exact c) ?_
  rintro _ p4 g4 ⟨a4,c4,B4,rfl,hc4,S4,T4⟩
  rw[xn9 hs1 hu hd30]at S4 hc4 T4⊢
  rw[xig (ls:=ds.map Cmd.line) hu (by rw[List.length_map];exact hd30)]
  have S4:Strs p4 a4 (ds.map fun _=>wOk).length (ds.map fun _=>wOk):=S4
  have T4:TwP p4 B4 w:=T4
  rw[List.length_map]at S4
  rw[show((ds.map fun _=>wOk),w).1.length=ds.length from List.length_map _]at hc4⊢
  refine lq fun b9=>?_
  refine ax ?_
  refine xvq rfl rfl rfl sdu (fun _ _ pe=>c7 _ _ _ pe B4 w T4 ((xcz hw).up om)) ?_
  refine cq (fun ce=>?_) (fun _=>?_)
  ·exfalso
   rw[hw]at ce
   simp at ce
  refine ax ?_
  refine xpq (fun m_ l p_ L_=>∃(i:Nat),m_=ds.length-i/\l=[(1,none,.slice a cs.length c),(2,none,.pointer (some ⟨b2,0,none⟩)),(4,none,.pointer (some ⟨b4,0,none⟩)),(6,none,.int .i64 ((30*j:Nat):Int)),(8,none,.slice a4 ds.length c4),(9,none,.pointer (some ⟨b9,0,none⟩)),(11,none,.int .i64 ((i:Nat):Int))]/\p_=p4/\
   L_=[[(b9,.cells (tcs B4 w).toArray 33 (0,0))],[(b4,.cells (tcs zA zT).toArray 33 (0,0))],[(b2,.cells (tcs B u).toArray 33 (0,0))]]/\i<=ds.length) ⟨0,rfl,rfl,rfl,rfl,Nat.zero_le _⟩ sb ?_
  rintro _ _ p4 _ IH2 ⟨i,rfl,rfl,rfl,rfl,hi⟩
  refine cq (fun ce=>?_) (fun ce=>?_)
  ·have hil:i<ds.length:=om
   have hwo:(ds.map fun _=>wOk).getD i []=wOk:=by rw[Flow.getD_at (by simpa using hil),List.getElem_map]
   refine ax ?_
   refine xvk rfl (Strs.get S4 hil) ?_
   rw[hwo]
   refine ax ?_
   refine xiq rfl (fun cf=>absurd rfl cf) (fun _=>?_)
   refine ax ?_
   exact xnq (IH2 _ _ _ om ⟨i+1,rfl,rfl,rfl,rfl,om⟩)
  refine ax ?_
  rw[show(((30*j:Nat):Int)+30)=((30*(j+1):Nat):Int) by omega]
  exact xnq (IH _ _ _ om ⟨j+1,w,B4,rfl,rfl,((g1.trans g2).trans g3).trans g4,rfl,T4,hw,by
   rw[List.drop_drop]at hs2
   have e1:30*j+(k-30*j)=k:=om
   rw[e1]at hs2
   by_cases h30:k=30*(j+1)
   ·rw[<- h30];exact hs2
   ·rw[List.drop_eq_nil_of_le om]at hs2⊢
    exact hs2⟩)
 have hj:cs.drop (30*j)=[]:=List.drop_eq_nil_of_le om
 rw[hj]at hs
 obtain rfl:u=t':=hs
 refine ax ?_
 exact K.e rfl (xqx rfl (.tmp rfl .nil)) fun _ H_=>(xzx H_ g1 ⟨B,rfl,T1⟩)
set_option maxHeartbeats 1600000 in
theorem c10(md:Md)(h:Heap)(p:PHeap)(hp:Per p h)(A:TA)(t:Twn)(T:TwP p A t)(hv:chkT t=0):
 CallsX prog md 10 #[twV A t] h fun v h'=>∃Y,OwnS 9 1 v (scs ((cmds t).map Cmd.line)) Y/\New h h' Y:=by
 have hf:=xcz hv
 obtain⟨⟨n1,n2⟩,⟨n3,n4,n5⟩,n6⟩:=hf
 have n3:t.b.hs.length<=12:=n3
 have n4:t.b.ws.length<=12:=n4
 have n5:t.b.wy.length<=12:=n5
 have Td:Sl p A.d.1 t.y.days.length 3 (Cist.dcs t.y.days):=T.d
 have Th:Sl p A.h.1 t.b.nH 1 (ics t.b.hs):=T.b.h
 have Tw:Sl p A.w.1 t.b.nW 1 (ics t.b.ws):=T.b.w
 have Ty:Sl p A.y.1 t.b.m 2 (Go.X.Flow.wcs t.b.wy):=T.b.y
 have Tr:Sl p A.r.1 t.s.rocks.length 4 (rcs t.s.rocks):=T.s.r
 have Tf:Sl p A.f.1 t.s.feet.length 1 (ics t.s.feet):=T.s.f
 have hb0:([]:List Str).length=0:=rfl
 obtain⟨kDay,kHouse,kWell,kWay,kRock,kFoot⟩:=yxm hv
 refine xez hp func10 fun _ _ _ K=>?_
 rw[yfd]at K
 refine bq fun b1=>?_
 refine ax ?_
 refine xfb 9 1 fun o0=>?_
 refine xpq (fun m_ l p_ L_=>∃(j:Nat)(v:Value)(Y:Pcs),m_=t.y.days.length-j/\l=[(1,none,.pointer (some ⟨b1,0,none⟩)),(3,none,v),(4,none,.int .i64 (((j:Nat):Int)))]/\p_=p/\
  L_=[Y,[(b1,.cells (tcs A t).toArray 33 (0,0))]]/\j<=t.y.days.length/\OwnS 9 1 v (scs (acc ([]:List Str) cDay t.y.days j)) Y) ⟨0,_,_,rfl,rfl,rfl,rfl,Nat.zero_le _,o0⟩ sb ?_
 clear o0
 rintro _ _ p _ IH ⟨j,v,Y,rfl,rfl,rfl,rfl,hj,o⟩
 refine cq (fun cd=>?_) (fun cd=>?_)
 ·have hjl:j<t.y.days.length:=om
  have hok:=kDay _ (xog (z:=dz) hjl)
  refine ax ?_
  refine xqk rfl (Cist.Days.all T.d hjl) ?_
  refine lq fun b5=>?_
  refine ax ?_
  refine xdz rfl fun v1 Y1 o1=>?_
  have o1:OwnS 3 1 v1 (ics (cDay (t.y.days.getD j dz)).2.2) Y1:=o1
  refine ax ?_
  refine xwl rfl rfl (fun h s=>xcb (w:=(cDay (t.y.days.getD j dz)).1) o1 rfl s (Nat.le_of_ble_eq_true rfl) (show(3:Nat)<=100 by decide) hok.2.1) fun v2 Y2 q2=>?_
  obtain⟨rfl,rfl⟩:=q2
  refine ax ?_
  refine xdz rfl fun v3 Y3 o3=>?_
  have o3:OwnS 9 1 v3 (scs [(cDay (t.y.days.getD j dz)).line]) Y3:=o3
  refine ax ?_
  refine xcf rfl rfl o o3 (by simp[scs,sv,isOne]) (by rw[xuq,xuq];have:=xtk (L:=([]:List Str)) (g:=cDay) (xs:=t.y.days) (j:=j);simp;omega) fun v4 Y4 o4=>?_
  refine ax ?_
  exact xnq (IH _ _ _ om ⟨j+1,v4,Y4,rfl,rfl,rfl,rfl,om,o4.as (by rw[xsw,xrc _ (hjl)])⟩)
 obtain rfl:j=t.y.days.length:=om
 clear IH
 have hb1:=xtk (L:=([]:List Str)) (g:=cDay) (xs:=t.y.days) (j:=t.y.days.length)
 generalize acc ([]:List Str) cDay t.y.days t.y.days.length=L1 at o K hb1
 refine ax ?_
 refine xpq (fun m_ l p_ L_=>∃(j:Nat)(v:Value)(Y:Pcs),m_=t.b.hs.length-j/\l=[(1,none,.pointer (some ⟨b1,0,none⟩)),(3,none,v),(6,none,.int .i64 (((j:Nat):Int)))]/\p_=p/\
  L_=[Y,[(b1,.cells (tcs A t).toArray 33 (0,0))]]/\j<=t.b.hs.length/\OwnS 9 1 v (scs (acc L1 cHouse t.b.hs j)) Y) ⟨0,_,_,rfl,rfl,rfl,rfl,Nat.zero_le _,(by rw[xcg];exact o)⟩ sb ?_
 clear o
 rintro _ _ p _ IH ⟨j,v,Y,rfl,rfl,rfl,rfl,hj,o⟩
 refine cq (fun cd=>?_) (fun cd=>?_)
 ·have hjl:j<t.b.hs.length:=by have:t.b.nH=t.b.hs.length:=rfl;omega
  have hok:=kHouse _ (xog (z:=0) hjl)
  refine ax ?_
  refine xdz rfl fun v1 Y1 o1=>?_
  have o1:OwnS 3 1 v1 (ics (cHouse (t.b.hs.getD j 0)).2.2) Y1:=o1
  refine ax ?_
  refine xwl rfl rfl (fun h s=>xcb (w:=(cHouse (t.b.hs.getD j 0)).1) o1 rfl s (Nat.le_of_ble_eq_true rfl) (show(1:Nat)<=100 by decide) hok.2.1) fun v2 Y2 q2=>?_
  obtain⟨rfl,rfl⟩:=q2
  refine ax ?_
  refine xdz rfl fun v3 Y3 o3=>?_
  have o3:OwnS 9 1 v3 (scs [(cHouse (t.b.hs.getD j 0)).line]) Y3:=o3
  refine ax ?_
  refine xcf rfl rfl o o3 (by simp[scs,sv,isOne]) (by rw[xuq,xuq];have:=xtk (L:=L1) (g:=cHouse) (xs:=t.b.hs) (j:=j);simp;omega) fun v4 Y4 o4=>?_
  refine ax ?_
  exact xnq (IH _ _ _ om ⟨j+1,v4,Y4,rfl,rfl,rfl,rfl,om,o4.as (by rw[xsw,xrc _ (hjl)])⟩)
 obtain rfl:j=t.b.hs.length:=by have:t.b.nH=t.b.hs.length:=rfl;omega
 clear IH
 have hb2:=xtk (L:=L1) (g:=cHouse) (xs:=t.b.hs) (j:=t.b.hs.length)
 generalize acc L1 cHouse t.b.hs t.b.hs.length=L2 at o K hb2
 refine ax ?_
 refine xpq (fun m_ l p_ L_=>∃(j:Nat)(v:Value)(Y:Pcs),m_=t.b.ws.length-j/\l=[(1,none,.pointer (some ⟨b1,0,none⟩)),(3,none,v),(7,none,.int .i64 (((j:Nat):Int)))]/\p_=p/\
  L_=[Y,[(b1,.cells (tcs A t).toArray 33 (0,0))]]/\j<=t.b.ws.length/\OwnS 9 1 v (scs (acc L2 cWell t.b.ws j)) Y) ⟨0,_,_,rfl,rfl,rfl,rfl,Nat.zero_le _,(by rw[xcg];exact o)⟩ sb ?_
 clear o
 rintro _ _ p _ IH ⟨j,v,Y,rfl,rfl,rfl,rfl,hj,o⟩
 refine cq (fun cd=>?_) (fun cd=>?_)
 ·have hjl:j<t.b.ws.length:=by have:t.b.nW=t.b.ws.length:=rfl;omega
  have hok:=kWell _ (xog (z:=0) hjl)
  refine ax ?_
  refine xdz rfl fun v1 Y1 o1=>?_
  have o1:OwnS 3 1 v1 (ics (cWell (t.b.ws.getD j 0)).2.2) Y1:=o1
  refine ax ?_
  refine xwl rfl rfl (fun h s=>xcb (w:=(cWell (t.b.ws.getD j 0)).1) o1 rfl s (Nat.le_of_ble_eq_true rfl) (show(1:Nat)<=100 by decide) hok.2.1) fun v2 Y2 q2=>?_
  obtain⟨rfl,rfl⟩:=q2
  refine ax ?_
  refine xdz rfl fun v3 Y3 o3=>?_
  have o3:OwnS 9 1 v3 (scs [(cWell (t.b.ws.getD j 0)).line]) Y3:=o3
  refine ax ?_
  refine xcf rfl rfl o o3 (by simp[scs,sv,isOne]) (by rw[xuq,xuq];have:=xtk (L:=L2) (g:=cWell) (xs:=t.b.ws) (j:=j);simp;omega) fun v4 Y4 o4=>?_
  refine ax ?_
  exact xnq (IH _ _ _ om ⟨j+1,v4,Y4,rfl,rfl,rfl,rfl,om,o4.as (by rw[xsw,xrc _ (hjl)])⟩)
 obtain rfl:j=t.b.ws.length:=by have:t.b.nW=t.b.ws.length:=rfl;omega
 clear IH
 have hb3:=xtk (L:=L2) (g:=cWell) (xs:=t.b.ws) (j:=t.b.ws.length)
 generalize acc L2 cWell t.b.ws t.b.ws.length=L3 at o K hb3
 refine ax ?_
 rw[show((t.b.m:Nat):Int)-1=((t.b.wy.length:Nat):Int)-1-((0:Nat):Int) by have:t.b.m=t.b.wy.length:=rfl;omega]
 refine xpq (fun m_ l p_ L_=>∃(j:Nat)(v:Value)(Y:Pcs),m_=t.b.wy.length-j/\l=[(1,none,.pointer (some ⟨b1,0,none⟩)),(3,none,v),(8,none,.int .i64 (((t.b.wy.length:Nat):Int)-1-((j:Nat):Int)))]/\p_=p/\
  L_=[Y,[(b1,.cells (tcs A t).toArray 33 (0,0))]]/\j<=t.b.wy.length/\OwnS 9 1 v (scs (acc L3 cWay t.b.wy.reverse j)) Y) ⟨0,_,_,rfl,rfl,rfl,rfl,Nat.zero_le _,(by rw[xcg];exact o)⟩ sb ?_
 clear o
 rintro _ _ p _ IH ⟨j,v,Y,rfl,rfl,rfl,rfl,hj,o⟩
 refine cq (fun cd=>?_) (fun cd=>?_)
 ·have hjl:j<t.b.wy.length:=om
  have hok:=kWay _ (xog (z:=Go.X.Flow.wz) (show j<t.b.wy.reverse.length by rw[List.length_reverse];exact hjl))
  obtain⟨k,hk⟩:∃k:Nat,k=t.b.wy.length-1-j:=⟨_,rfl⟩
  have ek:((t.b.wy.length:Nat):Int)-1-((j:Nat):Int)=((k:Nat):Int):=om
  have e2:((k:Nat):Int)-1=((t.b.wy.length:Nat):Int)-1-((j+1:Nat):Int):=om
  have hkl:k<t.b.m:=by have:t.b.m=t.b.wy.length:=rfl;omega
  have er:t.b.wy.reverse.getD j Go.X.Flow.wz=t.b.wy.getD k Go.X.Flow.wz:=by
   rw[Flow.getD_at (by rw[List.length_reverse];exact hjl),Flow.getD_at (show k<t.b.wy.length by omega),List.getElem_reverse]
   congr 1;exact hk.symm
  rw[ek]
  refine ax ?_
  refine xjx [15,16,17] R18 ?_
  refine ex ?_
  refine xag rfl rfl (Flow.Wys.ho T.b.y hkl) ?_
  refine ex ?_
  refine xag rfl rfl (Flow.Wys.we T.b.y hkl) ?_
  refine ex ?_
  refine xjb rfl rfl fun v1 Y1 o1=>?_
  have o1:OwnS 3 1 v1 (ics (cWay (t.b.wy.getD k Go.X.Flow.wz)).2.2) Y1:=o1
  rw[<- er]at o1
  refine ex ?_
  refine xbg (first:=[]) (cap:=[]) (Q:=fun v Z=>v=sv (cWay (t.b.wy.reverse.getD j Go.X.Flow.wz)).line/\Z=[]) Y1 rfl rfl rfl (fun h L s=>xcb (w:=(cWay (t.b.wy.reverse.getD j Go.X.Flow.wz)).1) o1 rfl s (Nat.le_of_ble_eq_true rfl) (show(2:Nat)<=100 by decide) hok.2.1) fun v2 Y2 q2=>?_
  obtain⟨rfl,rfl⟩:=q2
  refine ex ?_
  refine xjb rfl rfl fun v3 Y3 o3=>?_
  have o3:OwnS 9 1 v3 (scs [(cWay (t.b.wy.reverse.getD j Go.X.Flow.wz)).line]) Y3:=o3
  refine ex ?_
  refine ax ?_
  refine xcf rfl rfl o o3 (by simp[scs,sv,isOne]) (by rw[xuq,xuq];have:=xtk (L:=L3) (g:=cWay) (xs:=t.b.wy.reverse) (j:=j);simp;omega) fun v4 Y4 o4=>?_
  refine ax ?_
  rw[e2]
  exact xnq (IH _ _ _ om ⟨j+1,v4,Y4,rfl,rfl,rfl,rfl,om,o4.as (by rw[xsw,xrc _ (by rw[List.length_reverse];exact hjl)])⟩)
 obtain rfl:j=t.b.wy.length:=om
 clear IH
 have hb4:=xtk (L:=L3) (g:=cWay) (xs:=t.b.wy.reverse) (j:=t.b.wy.length)
 generalize acc L3 cWay t.b.wy.reverse t.b.wy.length=L4 at o K hb4
 refine ax ?_
 refine xpq (fun m_ l p_ L_=>∃(j:Nat)(v:Value)(Y:Pcs),m_=t.s.rocks.length-j/\l=[(1,none,.pointer (some ⟨b1,0,none⟩)),(3,none,v),(9,none,.int .i64 (((j:Nat):Int)))]/\p_=p/\
  L_=[Y,[(b1,.cells (tcs A t).toArray 33 (0,0))]]/\j<=t.s.rocks.length/\OwnS 9 1 v (scs (acc L4 cRock t.s.rocks j)) Y) ⟨0,_,_,rfl,rfl,rfl,rfl,Nat.zero_le _,(by rw[xcg];exact o)⟩ sb ?_
 clear o
 rintro _ _ p _ IH ⟨j,v,Y,rfl,rfl,rfl,rfl,hj,o⟩
 refine cq (fun cd=>?_) (fun cd=>?_)
 ·have hjl:j<t.s.rocks.length:=om
  have hok:=kRock _ (xog (z:=rz) hjl)
  refine ax ?_
  refine xqk rfl (Rks.all T.s.r hjl) ?_
  refine lq fun b10=>?_
  refine ax ?_
  refine xdz rfl fun v1 Y1 o1=>?_
  have o1:OwnS 3 1 v1 (ics (cRock (t.s.rocks.getD j rz)).2.2) Y1:=o1
  refine ax ?_
  refine xwl rfl rfl (fun h s=>xcb (w:=(cRock (t.s.rocks.getD j rz)).1) o1 rfl s (Nat.le_of_ble_eq_true rfl) (show(4:Nat)<=100 by decide) hok.2.1) fun v2 Y2 q2=>?_
  obtain⟨rfl,rfl⟩:=q2
  refine ax ?_
  refine xdz rfl fun v3 Y3 o3=>?_
  have o3:OwnS 9 1 v3 (scs [(cRock (t.s.rocks.getD j rz)).line]) Y3:=o3
  refine ax ?_
  refine xcf rfl rfl o o3 (by simp[scs,sv,isOne]) (by rw[xuq,xuq];have:=xtk (L:=L4) (g:=cRock) (xs:=t.s.rocks) (j:=j);simp;omega) fun v4 Y4 o4=>?_
  refine ax ?_
  exact xnq (IH _ _ _ om ⟨j+1,v4,Y4,rfl,rfl,rfl,rfl,om,o4.as (by rw[xsw,xrc _ (hjl)])⟩)
 obtain rfl:j=t.s.rocks.length:=om
 clear IH
 have hb5:=xtk (L:=L4) (g:=cRock) (xs:=t.s.rocks) (j:=t.s.rocks.length)
 generalize acc L4 cRock t.s.rocks t.s.rocks.length=L5 at o K hb5
 refine ax ?_
 refine xpq (fun m_ l p_ L_=>∃(j:Nat)(v:Value)(Y:Pcs),m_=t.s.feet.length-j/\l=[(1,none,.pointer (some ⟨b1,0,none⟩)),(3,none,v),(11,none,.int .i64 (((j:Nat):Int)))]/\p_=p/\
  L_=[Y,[(b1,.cells (tcs A t).toArray 33 (0,0))]]/\j<=t.s.feet.length/\OwnS 9 1 v (scs (acc L5 cFoot t.s.feet j)) Y) ⟨0,_,_,rfl,rfl,rfl,rfl,Nat.zero_le _,(by rw[xcg];exact o)⟩ sb ?_
 clear o
 rintro _ _ p _ IH ⟨j,v,Y,rfl,rfl,rfl,rfl,hj,o⟩
 refine cq (fun cd=>?_) (fun cd=>?_)
 ·have hjl:j<t.s.feet.length:=om
  have hok:=kFoot _ (xog (z:=0) hjl)
  refine ax ?_
  refine xdz rfl fun v1 Y1 o1=>?_
  have o1:OwnS 3 1 v1 (ics (cFoot (t.s.feet.getD j 0)).2.2) Y1:=o1
  refine ax ?_
  refine xwl rfl rfl (fun h s=>xcb (w:=(cFoot (t.s.feet.getD j 0)).1) o1 rfl s (Nat.le_of_ble_eq_true rfl) (show(1:Nat)<=100 by decide) hok.2.1) fun v2 Y2 q2=>?_
  obtain⟨rfl,rfl⟩:=q2
  refine ax ?_
  refine xdz rfl fun v3 Y3 o3=>?_
  have o3:OwnS 9 1 v3 (scs [(cFoot (t.s.feet.getD j 0)).line]) Y3:=o3
  refine ax ?_
  refine xcf rfl rfl o o3 (by simp[scs,sv,isOne]) (by rw[xuq,xuq];have:=xtk (L:=L5) (g:=cFoot) (xs:=t.s.feet) (j:=j);simp;omega) fun v4 Y4 o4=>?_
  refine ax ?_
  exact xnq (IH _ _ _ om ⟨j+1,v4,Y4,rfl,rfl,rfl,rfl,om,o4.as (by rw[xsw,xrc _ (hjl)])⟩)
 obtain rfl:j=t.s.feet.length:=om
 clear IH
 have hb6:=xtk (L:=L5) (g:=cFoot) (xs:=t.s.feet) (j:=t.s.feet.length)
 generalize acc L5 cFoot t.s.feet t.s.feet.length=L6 at o K hb6
 refine ax ?_
 exact xqq func10 rfl rfl fun _ H_=>K _ _ ⟨Y,o,newR H_⟩
end Go.Proofs.YtjcakmlipohaeaaGreatDoor
namespace Go.X.Ms
open Go.X Go.X.Flow Go.Proofs.YtjcakmlipohaeaaGreatDoor
theorem yor{t:Twn}(hv:chkT t=0):(findE ltC t.s=0\/findE ltC t.s=3)/\(0<=cheapF t.s/\cheapF t.s<=1000000)/\(0<=mostC t.b/\mostC t.b<=1000000)/\((Cist.sizeR t.y.size t.y.start t.y.days).2=0\/(Cist.sizeR t.y.size t.y.start t.y.days).2=3)/\(0<=(Cist.sizeR t.y.size t.y.start t.y.days).1/\(Cist.sizeR t.y.size t.y.start t.y.days).1<=60):=by
 obtain⟨h1,h2,h3⟩:=xvx.1 hv
 have ok:t.s.ok:=by
  unfold chkF at h1
  split at h1
  ·assumption
  ·cases h1
 have O:=xgm h2
 obtain⟨s1,s2,_⟩:=Cist.size_iff (Cist.chk_zero.1 h3)
 refine⟨?_,?_,?_,s1,s2⟩
 ·unfold findE
  rw[if_pos ok]
  split
  ·exact .inr rfl
  ·exact .inl rfl
 ·by_cases h:findE ltC t.s=0
  ·have:=xow (s:=t.s) h;omega
  ·rw[cheapF,if_neg h];omega
 ·unfold mostC
  rw[if_pos h2]
  have:=xs9 (f:=dv (fairP t.b none0)) (B:=9) (k:=t.b.m) (xrf O xvb)
  have hm:=O.nm
  exact(by show 0<=tot t.b _/\tot t.b _<=1000000;unfold tot;omega)
def bareT(t:Twn):Twn:=⟨⟨[],[],t.s.deep,t.s.haul,t.s.rest⟩,⟨[],[],[]⟩,⟨t.y.size,t.y.start,[]⟩⟩
theorem xe7{t:Twn}(hv:chkT t=0):StepsM (bareT t) (cmds t) t:=by
 have e:=xsn hv
 have:partT t 0 0 0 t.b.wy.length 0 0=bareT t:=by simp[partT,bareT]
 rwa[this]at e
theorem yid{t:Twn}(hv:chkT t=0):chkT (bareT t)=0:=by
 have e:=xkd hv (f:=0) (c:=0) (d:=0) (e:=t.b.wy.length) (r:=0) (q:=0) (.inl rfl) (.inl (Nat.le_refl _))
 have:partT t 0 0 0 t.b.wy.length 0 0=bareT t:=by simp[partT,bareT]
 rwa[this]at e
theorem yed{t:Twn}(hv:chkT t=0):(cmds t).length<=1000:=by
 obtain⟨⟨n1,n2⟩,⟨n3,n4,n5⟩,n6⟩:=xcz hv
 have n3:t.b.hs.length<=12:=n3
 have n4:t.b.ws.length<=12:=n4
 have n5:t.b.wy.length<=12:=n5
 simp only[cmds,List.length_append,List.length_map,List.length_reverse]
 omega
end Go.X.Ms
namespace Go.X
abbrev R37:List Nat:=0::1::2::3::4::5::6::7::8::9::10::11::12::13::14::15::16::17::18::19::20::21::22::23::24::25::26::27::28::29::30::31::32::33::34::35::[36]
end Go.X
namespace Go.Proofs.YtjcakmlipohaeaaGreatDoor
open Go.Proofs.Tryz
open Go.X Go.X.Ms Go.Conc
open Go.X.Flow (ics)
def FstX(s:Shf)(v:Value)(p':PHeap):Prop:=∃a ca b cb,v=.agg #[.slice a s.rocks.length ca,.slice b 0 cb,.int .i64 s.deep,.int .i64 s.haul,.int .i64 s.rest]/\s.rocks.length<=ca/\Rks p' a s.rocks.length s.rocks
theorem c17(md:Md)(h:Heap)(p:PHeap)(hp:Per p h)(a b:Option Addr)(ca cb:Nat)(s:Shf)(S:ShfP p a b s)(hn:s.rocks.length<=2^20/\s.feet.length<=2^20):
 CallsX prog md 17 #[.agg #[.slice a s.rocks.length ca,.slice b s.feet.length cb,.int .i64 s.deep,.int .i64 s.haul,.int .i64 s.rest],.int .i64 0] h (LastR p h (FstX s)):=by
 refine xfq hp func17 fun _ _ _ K=>?_
 refine xjq rfl fun b2=>?_
 refine lq fun b4=>?_
 refine ax ?_
 refine xck rfl rfl (fun _ pe=>c61 md _ _ pe _ _ _ _ s S hn) ?_
 rintro _ _ ⟨a1,c1,a2,c2,Y1,Y2,rfl,o1,o2,rfl⟩
 refine lq fun b5=>?_
 refine ax ?_
 refine xxn (j:=0) rfl rfl (Nat.zero_le _) ?_
 refine ax ?_
 refine xwk Y1 Y2 ?_
 refine xtx o1 (m:=s.rocks.length) (by simp[rcs]) (by decide) fun p1 a3 c3 g1 e1 hc1 S1=>?_
 cases e1
 exact K.e rfl (xqx rfl .nil) fun _ H_=>(xzx H_ g1 ⟨_,_,_,_,rfl,hc1,S1⟩)
def OrdX(p:PHeap)(t':Twn)(v:Value)(Y:Pcs):Prop:=∃A:TA,v=.tuple #[twV A t',.bool true]/\ ∀p',PLe p p'->(∀y∈Y,p' y.1=some y.2)->TwP p' A t'
theorem yvx{p:PHeap}{h₀ h:Heap}{B₀:List Nat}{L Y:Pcs}{A:TA}{t t':Twn}{cs:List Cmd}{v:Value}(o:OwnS 9 1 v (scs (cs.map Cmd.line)) Y)(s:St h₀ B₀ p h (Y++L))(T:TwP p A t)(g:GlP p)(hn:cs.length<=1000)(hv:chkT t=0)(hs:StepsM t cs t'):
 CallsX prog (.main true) 9 #[twV A t,v] h fun v' h'=>∃Z,OrdX p t' v' (Z++Y)/\New h h' Z:=by
 obtain⟨p',⟨g',gl⟩,hy,s'⟩:=s.lastAll
 obtain⟨a,c,e,S⟩:=o.inP hy
 have hc:=o.room (by decide) e
 subst e
 rw[xuq,List.length_map]at S hc⊢
 refine(c9 h p' s'.per A t (T.mono g'.le) (g.mono g'.le) a c cs S hc hn hv hs).mono fun v' h' x=>?_
 obtain⟨Z,⟨p2,⟨A2,e2,T2⟩,le⟩,N⟩:=x.pieces
 exact⟨Z,⟨A2,e2,fun p'' l y=>T2.mono (le p'' (gl p'' l fun z hz=>y z (List.mem_append_right _ hz)) fun z hz=>y z (List.mem_append_left _ hz))⟩,N⟩
set_option maxHeartbeats 1600000 in
theorem ydk(h:Heap)(p:PHeap)(hp:Per p h)(A:TA)(t:Twn)(T:TwP p A t)(hn:t.fit 9223372036854775807)(g:GlP p):EntersX prog (.main true) 3 #[twV A t] h fun v h'=>v=.bool true/\Keep h h':=by
 refine xqs hp func3 ?_
 refine bq fun b1=>?_
 refine ax ?_
 refine xxl rfl rfl (fun h pe=>c6 _ h _ pe A t T hn) ?_
 rintro _ ⟨q,rfl,hq⟩
 refine ax ?_
 refine xvq rfl rfl rfl sdu (fun cg _ pe=>c7 _ _ _ pe A t T ((hq (by simpa using cg)).up om)) ?_
 refine cq (fun _=>?_) (fun cc=>?_)
 ·refine ax ?_
  refine xlq rfl rfl (fun _ pe=>c8 _ _ pe g) ?_
  refine ax ?_
  exact xww (by kernel_rfl) func3 rfl rfl fun _ H_=>⟨rfl,H_.kept⟩
 have hv:chkT t=0:=by
  simp at cc
  omega
 have hf:=xcz hv
 have hL:=yed hv
 refine lq fun b3=>?_
 refine ax ?_
 have Tb:TwP p zA (bareT t):=⟨⟨Sl.nil _ _ _,Sl.nil _ _ _⟩,⟨Sl.nil _ _ _,Sl.nil _ _ _,Sl.nil _ _ _⟩,Sl.nil _ _ _,⟨⟨Nat.le_refl _,Nat.le_refl _⟩,⟨Nat.le_refl _,Nat.le_refl _,Nat.le_refl _⟩,Nat.le_refl _⟩⟩
 refine xap 9 [3,8] [0,1,4,5,6] [2,3,7,8] (fun i=>match i with|3=>[2]|8=>[7]|_=>[]) (fun i=>match i with|2=>[1]|3=>[0,2]|4=>[3]|5=>[3,4]|6=>[3,4]|8=>[3,5,7]|_=>[])
  (fun i val _ v x=>match i with
   |0=>v=twV zA (bareT t)/\x=[]
   |1=>v=twV A t/\x=[]
   |2=>OwnS 9 1 v (scs ((cmds t).map Cmd.line)) x
   |3=>OrdX p t v x
   |4=>v=val 3/\x=[]
   |5=>(∀u w,val 3=.tuple #[u,w]->v=u)/\x=[]
   |6=>(∀u w,val 3=.tuple #[u,w]->v=w)/\x=[]
   |7=>∃b,v=.pointer (some ⟨b,0,none⟩)/\x=[(b,.cells (tcs zA zT).toArray 33 (0,0))]
   |8=>∃b A' u,val 7=.pointer (some ⟨b,0,none⟩)/\val 3=.tuple #[twV A' t,u]/\x=[(b,.cells (tcs A' t).toArray 33 (0,0))]
   |_=>True) (fun i hi val piece hq=>?_) (fun val piece j hj v x q=>?_) (fun val piece hq=>?_)
 ·match i,hi with
  |0,_|1,_=>
   refine ex ?_
   exact xmx ⟨⟨_,rfl⟩,fun v e=>⟨xrq e,rfl⟩⟩
  |2,_=>
   refine xqv (first:=[]) (cap:=[]) (vs:=[twV A t]) rfl rfl (by show some ([],[val 1])=_;rw[(hq 1 rfl).1]) (fun _ pe=>c10 _ _ _ pe A t T hv) fun v Y o=>?_
   exact xmx ⟨⟨_,rfl⟩,fun v' e=>by
    have e':=xrq e
    subst e'
    show OwnS _ _ _ _ (Y++[])
    rw[List.append_nil];exact o⟩
  |3,_=>
   have o:OwnS 9 1 (val 2) (scs ((cmds t).map Cmd.line)) (piece 2):=hq 2 rfl
   have e0:val 0=twV zA (bareT t):=(hq 0 rfl).1
   show DE _ _ _ _ _ _ _ _ _ [piece 2]
   refine ytk (first:=[]) (cap:=[]) (vs:=[twV zA (bareT t),val 2]) (Q:=fun v Z=>OrdX p t v (Z++piece 2)) (piece 2) rfl rfl (by show some ([],[val 0,val 2])=_;rw[e0]) (fun h L s=>yvx o s Tb g hL (yid hv) (xe7 hv)) fun v Z e=>?_
   exact xmx ⟨⟨_,rfl⟩,fun v' e'=>by
    have e'':=xrq e'
    subst e''
    show OrdX _ _ _ ((Z++piece 2)++[])
    rw[List.append_nil];exact e⟩
  |4,_=>
   refine ex ?_
   exact xmx ⟨⟨_,rfl⟩,fun v e=>⟨xrq e,rfl⟩⟩
  |5,_=>
   obtain⟨A',e3,-⟩:=hq 3 rfl
   have e4:val 4=val 3:=(hq 4 rfl).1
   refine xvc (ss:=[]) (v:=twV A' t) rfl rfl (ynf (by show some ([],val 4)=_;rw[e4,e3]) rfl) trivial ?_
   exact xmx ⟨⟨_,rfl⟩,fun v e=>⟨fun u w eq=>by
    have eq:val 3=_:=eq
    rw[xrq e]
    rw[e3]at eq
    simp only[Value.tuple.injEq,Array.mk.injEq,List.cons.injEq]at eq
    exact eq.1,rfl⟩⟩
  |6,_=>
   obtain⟨A',e3,-⟩:=hq 3 rfl
   have e4:val 4=val 3:=(hq 4 rfl).1
   refine xvc (ss:=[]) (v:=.bool true) rfl rfl (ynf (by show some ([],val 4)=_;rw[e4,e3]) rfl) trivial ?_
   exact xmx ⟨⟨_,rfl⟩,fun v e=>⟨fun u w eq=>by
    have eq:val 3=_:=eq
    rw[xrq e]
    rw[e3]at eq
    simp only[Value.tuple.injEq,Array.mk.injEq,List.cons.injEq]at eq
    exact eq.2.1,rfl⟩⟩
  |7,_=>
   refine xus rfl fun b=>?_
   exact xmx ⟨⟨_,rfl⟩,fun v e=>⟨b,xrq e,rfl⟩⟩
  |8,_=>
   obtain⟨A',e3,-⟩:=hq 3 rfl
   have e5:val 5=twV A' t:=(hq 5 rfl).1 _ _ e3
   obtain⟨b,e7,x7⟩:=hq 7 rfl
   have e7:val 7=.pointer (some ⟨b,0,none⟩):=e7
   have x7:piece 7=[(b,.cells (tcs zA zT).toArray 33 (0,0))]:=x7
   show DE _ _ _ _ _ _ _ _ _ [piece 7]
   rw[x7]
   refine xuh (b:=b) (off:=0) (cs:=tcs zA zT) (v:=twV A' t) rfl (by show some ([],val 7)=_;rw[e7]) (by show some ([],val 5)=_;rw[e5]) ?_
   exact xmx ⟨⟨undef,rfl⟩,fun v e=>⟨b,A',_,e7,e3,rfl⟩⟩
 ·simp only[List.mem_cons,List.not_mem_nil,or_false]at hj
  rcases hj with rfl|rfl|rfl|rfl|rfl<;>exact q.2
 obtain⟨A1,e3,hl⟩:=hq 3 (by decide)
 have e3:val 3=.tuple #[twV A1 t,.bool true]:=e3
 have e6:val 6=.bool true:=(hq 6 (by decide)).1 _ _ e3
 obtain⟨b4,A2,u,e7,e3',e8⟩:=hq 8 (by decide)
 have e7:val 7=.pointer (some ⟨b4,0,none⟩):=e7
 have e3':val 3=.tuple #[twV A2 t,u]:=e3'
 have eA:tcs A2 t=tcs A1 t:=by
  rw[e3]at e3'
  simp only[Value.tuple.injEq,Array.mk.injEq,List.cons.injEq]at e3'
  have:=e3'.1
  unfold twV at this
  simpa using this.symm
 rw[eA]at e8
 refine xzd (l':=[(1,none,.pointer (some ⟨b1,0,none⟩)),(4,none,.pointer (some ⟨b4,0,none⟩)),(51,none,.bool true)]) ?_ ⟨rfl,by show some (none,val 7)=_;rw[e7],by show some (none,val 6)=_;rw[e6],trivial⟩
 show RO _ _ _ _ _ _ [piece 3,piece 8,[(b3,.cells (tcs zA (bareT t)).toArray 33 (0,0))],[(b1,.cells (tcs A t).toArray 33 (0,0))]]
 rw[e8]
 refine xkr (piece 3) fun p2 g2 hy=>?_
 have T2:=hl p2 g2.le hy
 clear hl hy hq e8 eA e3' e7 e6 e3
 have Tt:=T.mono g2.le
 have G2:=g.mono g2.le
 clear T g Tb
 refine ax ?_
 refine xvq rfl rfl rfl sdu (fun cg _ pe=>c11 _ _ _ pe A1 A t T2 Tt (hf.up om)) ?_
 refine ax ?_
 refine xiq rfl (fun cd=>absurd cd (by simp)) (fun _=>?_)
 have hf':=hf
 obtain⟨⟨n1,n2⟩,⟨n3,n4,n5⟩,n6⟩:=hf'
 obtain⟨ts,zs,hs⟩:=G2.sn
 obtain⟨tb,zb,hb⟩:=G2.bn
 refine ax ?_
 refine xlq rfl rfl (fun _ pe=>c12 _ _ _ pe _ _ _ _ t.s Tt.s ⟨om,om⟩ zs hs) ?_
 refine ax ?_
 refine xlq rfl rfl (fun _ pe=>c13 _ pe _ _ _ _ _ _ t.b Tt.b ⟨om,om,om⟩ hb) ?_
 refine ax ?_
 refine xlq rfl rfl (fun _ pe=>c14 _ _ _ pe _ _ _ _ _ _ Tt.d om) ?_
 refine ax ?_
 refine xdz rfl fun v3 Y3 o3=>?_
 have o3:OwnS 9 1 v3 (scs (asks3.map Ask.line)) Y3:=o3
 refine xbx o3 (m:=3) rfl (by decide) fun p3 a3 c3 g3 e3 hc3 S3=>?_
 subst e3
 refine ax ?_
 refine xrz rfl rfl (fun h pe=>c15 h _ pe A1 t (T2.mono g3.le) (hf.up om) (G2.mono g3.le) a3 c3 (asks3.map Ask.line) S3 (by decide) (by decide) xup) ?_
 rintro _ p4 g4 ⟨a4,c4,A4,rfl,hc4,S4,T4⟩
 rw[xb1 hv]at S4 hc4 T4⊢
 rw[xig hv (by decide)]
 rw[show(asks3.map (askT t),t).1.length=3 from rfl]at hc4⊢
 obtain⟨b1',b2',b3',b4',b5'⟩:=yor hv
 have hcb:Flow.chkB t.b=0:=(xvx.1 hv).2.1
 rw[hcb]
 have S4:Strs p4 a4 3 [ansS (findE ltC t.s) (txt (cheapF t.s)),ansS (Flow.chkB t.b) (txt (Flow.mostC t.b)),ansS (Cist.sizeR t.y.size t.y.start t.y.days).2 (txt (Cist.sizeR t.y.size t.y.start t.y.days).1)]:=S4
 rw[hcb,show ∀s,ansS 0 s=s from fun s=>rfl]at S4
 clear hcb
 generalize cheapF t.s=kk at*
 generalize findE ltC t.s=ee at*
 generalize Flow.mostC t.b=mm at*
 generalize (Cist.sizeR t.y.size t.y.start t.y.days).1=nn at*
 generalize (Cist.sizeR t.y.size t.y.start t.y.days).2=gg at*
 have S4':Sl p4 a4 3 1 (scs [ansS ee (txt kk),txt mm,ansS gg (txt nn)]):=S4
 refine lq fun b13=>?_
 refine ax ?_
 refine yih rfl rfl rfl rfl sdu sdu sdu ?_
 refine ax ?_
 refine ykh rfl rfl rfl rfl sdu sdu sdu ?_
 refine cq (fun cd=>?_) (fun _=>?_)
 ·exfalso
  rcases cd with(((((⟨c1,c2⟩|c1)|⟨c1,c2⟩)|c1)|c1)|c1)|c1
  ·omega
  ·exact c1 rfl
  ·omega
  ·exact c1 rfl
  ·exact c1 rfl
  ·omega
  ·omega
 refine ax ?_
 refine xih (l':=[(1,none,.pointer (some ⟨b1,0,none⟩)),(4,none,.pointer (some ⟨b4,0,none⟩)),(6,none,.int .i64 kk),(7,none,.int .i64 ee),(8,none,.int .i64 mm),(10,none,.int .i64 nn),(11,none,.int .i64 gg),(12,none,.slice a4 3 c4)]) ?_ sb
 refine xjx [] R37 ?_
 refine ex ?_
 refine xsj rfl rfl rfl rfl sdu sdu (fun _=>⟨⟨om,om⟩,Sl.ne S4' om⟩) ?_
 refine xdj (u:=sv (ansS ee (txt kk))) rfl rfl rfl sdu (fun _=>Strs.get S4 (i:=0) om) ?_
 refine ex ?_
 refine xak rfl rfl rfl rfl sdu (fun _ _ pe=>c16 _ _ _ pe kk om) ?_
 refine ex ?_
 refine xqp rfl rfl rfl rfl sdu sdu ?_
 refine ex ?_
 refine xsj rfl rfl rfl rfl sdu sdu (fun _=>⟨⟨om,om⟩,Sl.ne S4' om⟩) ?_
 refine xdj (u:=sv (ansS ee (txt kk))) rfl rfl rfl sdu (fun _=>Strs.get S4 (i:=0) om) ?_
 refine ex ?_
 refine xqp rfl rfl rfl rfl sdu sdu ?_
 refine ex ?_
 refine xsj rfl rfl rfl rfl sdu sdu (fun _=>⟨⟨om,om⟩,Sl.ne S4' om⟩) ?_
 refine xdj (u:=sv (txt mm)) rfl rfl rfl sdu (fun _=>Strs.get S4 (i:=1) om) ?_
 refine ex ?_
 refine xak rfl rfl rfl rfl sdu (fun _ _ pe=>c16 _ _ _ pe mm om) ?_
 refine ex ?_
 refine xqp rfl rfl rfl rfl sdu sdu ?_
 refine ex ?_
 refine xsj rfl rfl rfl rfl sdu sdu (fun _=>⟨⟨om,om⟩,Sl.ne S4' om⟩) ?_
 refine xdj (u:=sv (ansS gg (txt nn))) rfl rfl rfl sdu (fun _=>Strs.get S4 (i:=2) om) ?_
 refine ex ?_
 refine xak rfl rfl rfl rfl sdu (fun _ _ pe=>c16 _ _ _ pe nn om) ?_
 refine ex ?_
 refine ax ?_
 refine xsb rfl rfl rfl sdu sdu (fun _=>⟨⟨om,om⟩,Sl.ne S4' om⟩) ?_
 refine xgw (u:=sv (ansS gg (txt nn))) rfl rfl sdu (fun _=>Strs.get S4 (i:=2) om) ?_
 refine ydq rfl rfl rfl sdu sdu ?_
 refine cq (fun cd=>?_) (fun _=>?_)
 ·exfalso
  rcases cd with(((⟨c1,c2⟩|⟨c1,c2⟩)|c1)|⟨c1,c2⟩)|⟨c1,c2⟩
  ·subst c1;exact c2 rfl
  ·obtain rfl:=b1'.resolve_left c1;exact c2 rfl
  ·exact c1 rfl
  ·subst c1;exact c2 rfl
  ·obtain rfl:=b4'.resolve_left c1;exact c2 rfl
 clear S4 S4' T4 hc4
 have T4:=T2.mono (g3.trans g4).le
 have G4:=G2.mono (g3.trans g4).le
 have Tt4:=Tt.mono (g3.trans g4).le
 refine ax ?_
 refine xfb 9 1 fun o0=>?_
 refine xpq (fun m_ l p_ L_=>∃(j:Nat)(v:Value)(Y:Pcs)(ob ob':Obj),m_=t.s.feet.length-j/\l=[(1,none,.pointer (some ⟨b1,0,none⟩)),(4,none,.pointer (some ⟨b4,0,none⟩)),(15,none,v),(16,none,.int .i64 ((j:Nat):Int))]/\p_=p4/\
  L_=[Y,[(b13,ob)],[(b4,.cells (tcs A1 t).toArray 33 (0,0))],[(b3,ob')],[(b1,.cells (tcs A t).toArray 33 (0,0))]]/\j<=t.s.feet.length/\OwnS 9 1 v (scs (List.replicate j wUp)) Y) ⟨0,_,_,_,_,rfl,rfl,rfl,rfl,Nat.zero_le _,o0⟩ sb ?_
 clear o0
 rintro _ _ p4 _ IH ⟨j,v,Y,ob,ob',rfl,rfl,rfl,rfl,hj,o⟩
 refine cq (fun cd=>?_) (fun cd=>?_)
 ·refine ax ?_
  refine xdz rfl fun v3 Y3 o3=>?_
  have o3:OwnS 9 1 v3 (scs [wUp]) Y3:=o3
  refine xcf rfl rfl o o3 (by simp[scs,sv,isOne]) (by simp[scs];omega) fun v4 Y4 o4=>?_
  refine ax ?_
  exact xnq (IH _ _ _ om ⟨j+1,v4,Y4,ob,ob',rfl,rfl,rfl,rfl,om,o4.as (by rw[xsw,List.replicate_succ'])⟩)
 obtain rfl:j=t.s.feet.length:=om
 clear IH
 refine ax ?_
 refine xbx o (m:=t.s.feet.length) (by rw[xuq,List.length_replicate]) (by decide) fun p5 a5 c5 g5 e5 h5 S5=>?_
 subst e5
 refine xrz rfl rfl (fun h pe=>by
  have c:=c9 h _ pe A1 t (T4.mono g5.le) (G4.mono g5.le) a5 c5 (List.replicate t.s.feet.length cUp) (by rw[List.map_replicate,List.length_replicate];exact S5) (by rw[List.length_replicate];exact h5) (by rw[List.length_replicate];omega) hv (xm9 hv)
  rw[List.length_replicate]at c
  exact c) ?_
 rintro _ p6 g6 ⟨A6,rfl,T6⟩
 refine lq fun b17=>?_
 refine ax ?_
 have Tt6:=Tt4.mono (g5.trans g6).le
 refine xjx [5] [0,1,2,3,4,6,7,8,9,5,10] ?_
 refine ex ?_
 refine yqs (LR:=[]) (first:=[]) (cap:=[]) (Q:=fun v Y=>∃a ca b cb,v=.agg #[.slice a t.s.rocks.length ca,.slice b 0 cb,.int .i64 t.s.deep,.int .i64 t.s.haul,.int .i64 t.s.rest]/\t.s.rocks.length<=ca/\ ∀p',PLe p6 p'->(∀y∈Y,p' y.1=some y.2)->Rks p' a t.s.rocks.length t.s.rocks) [] (ii:=⟨List.Perm.refl _⟩) rfl rfl rfl rfl ⟨rfl,trivial⟩ (fun h L s=>(c17 _ h _ s.per _ _ _ _ t.s Tt6.s ⟨om,om⟩).mono fun v h' x=>by
  obtain⟨Z,⟨p2,⟨a,ca,b,cb,e,hc,S⟩,le⟩,N⟩:=x.pieces
  exact⟨Z,⟨a,ca,b,cb,e,hc,fun p' l y=>S.mono (le p' l y)⟩,N⟩) fun v Z q=>?_
 obtain⟨a,ca,b,cb,rfl,hca,hl⟩:=q
 refine ex ?_
 refine xkr (Z++[]) fun p7 g7 hy=>?_
 have S7:=hl p7 g7.le (by simpa using hy)
 have T7:=T6.mono g7.le
 have Tt7:=Tt6.mono g7.le
 have Tf:TwP p7 ⟨(a,ca),(b,cb),A.h,A.w,A.y,A.d⟩ (dnT t []):=⟨⟨S7,Sl.nil _ _ _⟩,Tt7.b,Tt7.d,⟨hca,Nat.zero_le _⟩,Tt7.c.2⟩
 have fd:(dnT t []).fit (2^20):=⟨⟨(hf.up om).1.1,Nat.zero_le _⟩,(hf.up om).2⟩
 refine ax ?_
 refine xvq rfl rfl rfl sdu (fun cg _ pe=>c11 _ _ _ pe A6 ⟨(a,ca),(b,cb),A.h,A.w,A.y,A.d⟩ (dnT t []) T7 Tf fd) ?_
 refine ax ?_
 refine xvq rfl rfl rfl sdu (fun cg _ pe=>c8 _ _ pe (G4.mono ((g5.trans g6).trans g7).le)) ?_
 refine ax ?_
 exact xww (by kernel_rfl) func3 rfl rfl fun _ H_=>⟨by rfl,H_.kept⟩
end Go.Proofs.YtjcakmlipohaeaaGreatDoor
