/-
  TopTried, for every input: the law returns true and leaves its arguments as they were. The row, and the tied card. No condition.
-/
import Derived.Test.YtjcakmlipohaeaaGreatDoorGN
import Derived.Test.YtjcakmlipohaeaaGreatDoorCards
import Derived.Test.YtjcakmlipohaeaaGreatDoorTie
set_option maxRecDepth 100000
set_option synthInstance.maxSize 2000
namespace Go.Proofs.YtjcakmlipohaeaaGreatDoor
open Go.Proofs.Tryz
open Go.X Go.X.Ms Go.Conc
open Go.X.Flow (ics)
def RunX(p:PHeap)(t:Twn)(ls:List Str)(v:Value)(Y:Pcs):Prop:=∃(a:Option Addr)(c:Nat)(A:TA),v=.tuple #[.slice a ls.length c,twV A (runR t ls).2,.bool true]/\ls.length<=c/\ ∀p',PLe p p'->(∀y∈Y,p' y.1=some y.2)->Strs p' a ls.length (runR t ls).1/\TwP p' A (runR t ls).2
theorem yhw{p:PHeap}{h₀ h:Heap}{B₀:List Nat}{L Y:Pcs}{A:TA}{t:Twn}{ls:List Str}{v:Value}(o:OwnS 9 1 v (scs ls) Y)(s:St h₀ B₀ p h (Y++L))(T:TwP p A t)(g:GlP p)(hlm:∀s∈ls,s.length<=900)(hv:chkT t=0)(h30:ls.length<=30):
 CallsX prog (.main true) 36 #[twV A t,v] h fun v' h'=>∃Z,RunX p t ls v' Z/\New h h' Z:=by
 obtain⟨p',⟨g',gl⟩,hy,s'⟩:=s.lastAll
 obtain⟨a,c,e,S⟩:=o.inP hy
 subst e
 rw[xuq]at S⊢
 refine(yrn h p s.per p' s'.per g'.le A t T g a c ls S hlm hv h30).mono fun v' h' x=>?_
 obtain⟨Z,⟨p2,⟨a2,c2,A2,e2,hc2,S2,T2⟩,le⟩,N⟩:=x.pieces
 exact⟨Z,⟨a2,c2,A2,e2,hc2,fun p'' l y=>⟨Strs.mono (le p'' l y) S2,T2.mono (le p'' l y)⟩⟩,N⟩
theorem xjc{p:PHeap}{h₀ h:Heap}{B₀:List Nat}{L Y:Pcs}{v:Value}{w:Str}{l:List Int}{n:Nat}{md:Md}(o:OwnS 3 1 v (ics l) Y)(hl:l.length=n)(s:St h₀ B₀ p h (Y++L))(hw:w.length<=1000)(hn:n<=100)(hb:sm6 l):
 CallsX prog md 35 #[sv w,v] h fun v' h'=>∃Z,(v'=sv (sayK w l n)/\Z=[])/\New h h' Z:=by
 obtain⟨p',⟨g',gl⟩,hy,s'⟩:=s.lastAll
 obtain⟨a,c,e,S⟩:=o.inP hy
 subst e
 rw[xnx,hl]at S⊢
 exact(c35 md h p' s'.per w hw a n c l S hn fun i hi=>by
  have:=hb (l.getD i 0) (by rw[Flow.getD_at om];exact List.getElem_mem _)
  omega).mono fun v' h'⟨e,k⟩=>⟨[],⟨e,rfl⟩,New.of k⟩
end Go.Proofs.YtjcakmlipohaeaaGreatDoor
namespace Go.X.Ms
def ansS(e:Int)(s:Str):Str:=if e=3 then wNone else if e≠0 then wWrong else s
abbrev Ask:=Str×Qn×List Int
noncomputable def askT(t:Twn)(x:Ask):Str:=ansS (askQ x.2.1 t x.2.2).2 (askQ x.2.1 t x.2.2).1.text
def Ask.ok(x:Ask):Prop:=(32:UInt8)∉x.1/\x.1≠wKeep/\sm6 x.2.2/\qn (x.1++txt x.2.2.length)=some x.2.1
def Ask.line(x:Ask):Str:=sayK x.1 x.2.2 x.2.2.length
def wKeepZ:Str:=[107,101,101,112,32,122,32]
theorem xu6(d:Dsk)(q:Qn)(a:List Int)(l:Str):(askD d q a l).2=ansS (askQ q d.now.t a).2 (askQ q d.now.t a).1.text:=by
 unfold askD ansS
 split
 ·rfl
 ·split<;>rfl
theorem yjv(d:Dsk)(q:Qn)(a:List Int):(askD d q a []).1=d:=by
 unfold askD
 split
 ·rfl
 ·split
  ·rfl
  ·rfl
theorem yhk{d:Dsk}{x:Ask}(h:x.ok):doD d x.line=(d,askT d.now.t x):=by
 obtain⟨h1,h2,h3,h4⟩:=h
 have e:=yfs (d:=d) h1 h2 h3 h4
 unfold Ask.line
 rw[e]
 exact Prod.ext (yjv d _ _) (xu6 d _ _ _)
theorem yzc{d:Dsk}{x:Ask}(h:x.ok):doD d (wKeepZ++x.line)=askD d x.2.1 x.2.2 [122]:=by
 obtain⟨h1,h2,h3,h4⟩:=h
 have hs:splitS (wKeepZ++x.line)=wKeep::[122]::x.1::x.2.2.map txt:=by
  rw[show wKeepZ++x.line=wKeep++32::([122]++32::x.line) from rfl,xgc _ (by decide),xgc _ (by decide)]
  unfold Ask.line
  rw[xfg h1 _ (Nat.le_refl _),List.take_length]
 rw[xy2 hs (by decide)]
 exact xwv (by rw[List.length_map];exact h4) (xzm h3) (xud h3)
theorem xfr:∀{xs:List Ask}(d:Dsk),(∀x∈xs,x.ok)->runD d (xs.map Ask.line)=(d,xs.map (askT d.now.t))
 |[],_,_=>rfl
 |x::xs,d,h=>by rw[List.map_cons,runD,yhk (h x (by simp)),xfr d fun y hy=>h y (List.mem_cons_of_mem _ hy)];rfl
theorem xqt:∀{xs:List Ask}(d:Dsk),(∀x∈xs,x.ok)->(runD d (xs.map fun x=>wKeepZ++x.line)).2=xs.map (askT d.now.t)/\(runD d (xs.map fun x=>wKeepZ++x.line)).1.now.t=d.now.t
 |[],_,_=>⟨rfl,rfl⟩
 |x::xs,d,h=>by
   have e1:=(xc1 d x.2.1 x.2.2 [122]).1
   have ih:=xqt (askD d x.2.1 x.2.2 [122]).1 fun y hy=>h y (List.mem_cons_of_mem _ hy)
   rw[e1]at ih
   rw[List.map_cons,runD,yzc (h x (by simp))]
   exact⟨by rw[ih.1,xu6];rfl,ih.2⟩
def asks(p r h w d:Int):List Ask:=
 [([102,101,119,101,115,116],.fewest,[]),([99,104,101,97,112],.cheap,[]),([100,101,101,112],.deep,[p]),([110,101,120,116],.next,[r]),([109,111,115,116],.most,[]),([108,97,99,107,115],.lacks,[]),
  ([100,114,97,119,115],.draws,[h]),([100,114,121],.dry,[w]),([115,104,111,114,116],.short,[]),([101,109,112,116,121],.empty,[]),([108,101,97,115,116],.least,[]),([114,97,116,105,111,110],.ration,[]),
  ([115,112,97,114,101],.spare,[d]),([108,101,118,101,108],.level,[d])]
theorem xf3{p r h w d:Int}(H:sm6 [p,r,h,w,d]):∀x∈asks p r h w d,x.ok:=by
 have one:∀{n:Int},n∈[p,r,h,w,d]->sm6 [n]:=fun hn x hx=>by rw[List.mem_singleton.1 hx];exact H _ hn
 have nil:sm6 []:=fun x hx=>by cases hx
 have ok:∀(u:Str)(q:Qn)(l:List Int),(32:UInt8)∉u->u≠wKeep->l.length<10->qn (u++[UInt8.ofNat (48+l.length)])=some q->sm6 l->Ask.ok (u,q,l):=fun u q l h1 h2 h10 h4 h3=>⟨h1,h2,h3,by rw[xfv h10];exact h4⟩
 intro x hx
 simp only[asks,List.mem_cons,List.not_mem_nil,or_false]at hx
 rcases hx with rfl|rfl|rfl|rfl|rfl|rfl|rfl|rfl|rfl|rfl|rfl|rfl|rfl|rfl
 all_goals (refine ok _ _ _ (by decide) (by decide) (Nat.le_of_ble_eq_true rfl) rfl ?_)
 all_goals first|exact nil|exact one (by simp)
theorem yqd{t:Twn}(hv:chkT t=0){p r h w d:Int}(H:sm6 [p,r,h,w,d]):runR t ((asks p r h w d).map Ask.line)=((asks p r h w d).map (askT t),t):=by
 rw[xqb hv (by simp[asks]),xfr _ (xf3 H)];rfl
theorem yrz{t:Twn}(hv:chkT t=0){p r h w d:Int}(H:sm6 [p,r,h,w,d]):runR t ((asks p r h w d).map fun x=>wKeepZ++x.line)=((asks p r h w d).map (askT t),t):=by
 have e:=xqt (startD t) (xf3 H)
 rw[xqb hv (by simp[asks])]
 exact Prod.ext e.1 e.2
def numS(n e:Int):Str:=if n< -1000000000\/n>1000000000 then []else ansS e (txt n)
theorem xyj{n e:Int}(h:m6 n):numS n e=ansS e (txt n):=by unfold numS;rw[if_neg om]
def wTo:Str:=[32,116,111,32]
def spanS(a b e:Int):Str:=ansS e ((numS a 0++wTo)++numS b 0)
theorem xv3{a b e:Int}(ha:m6 a)(hb:m6 b):spanS a b e=ansS e (Rs.spn a b).text:=by
 unfold spanS
 rw[xyj ha,xyj hb]
 show ansS e ((txt a++wTo)++txt b)=ansS e (txt a++([32,116,111,32]++txt b))
 rw[List.append_assoc];rfl
def listK(l:List Int):Nat->Str
 |0=>[]
 |k+1=>if 0<k then(listK l k++[32])++numS (l.getD k 0) 0 else listK l k++numS (l.getD k 0) 0
def listS(l:List Int)(e:Int):Str:=if 60<l.length then []else ansS e (if listK l l.length=[]then [110,111,116,104,105,110,103]else listK l l.length)
theorem xj5{x:Int}{l:List Int}(h:∀y∈x::l,m6 y):∀k,k<=l.length->listK (x::l) (k+1)=txt x++txtT (l.take k)
 |0,_=>by rw[listK,if_neg om,listK];show []++numS x 0=_;rw[xyj (h x (by simp))];show []++txt x=txt x++[];simp
 |k+1,hk=>by
   have ht:∀(u:List Int)(y:Int),txtT (u++[y])=txtT u++32::txt y:=fun u y=>by
    induction u with
    |nil=>show 32::(txt y++[])=_;simp[txtT]
    |cons a u ih=>rw[List.cons_append,txtT,ih,txtT];simp
   have hg:(x::l).getD (k+1) 0=l[k]:=by rw[List.getD_cons_succ,List.getD_eq_getElem?_getD,List.getElem?_eq_getElem om];rfl
   rw[listK,if_pos om,xj5 h k om,hg,xyj (h _ (List.mem_cons_of_mem _ (List.getElem_mem _))),List.take_add_one,List.getElem?_eq_getElem om]
   show _=txt x++txtT (l.take k++[l[k]])
   rw[ht]
   show((txt x++txtT (l.take k))++[32])++txt l[k]=_
   simp
theorem xi5{l:List Int}{e:Int}(h:(Rs.lst l).m6):listS l e=ansS e (Rs.lst l).text:=by
 obtain⟨h1,h2⟩:=h
 unfold listS
 rw[if_neg om]
 cases l with
 |nil=>rfl
 |cons x l=>
   have hm:∀y∈x::l,m6 y:=fun y hy=>by
    obtain⟨i,hi,e⟩:=List.mem_iff_getElem.1 hy
    have:=h2 i hi
    rw[Flow.getD_at hi,e]at this;exact this
   have hk:=xj5 hm l.length (Nat.le_refl _)
   rw[List.take_length]at hk
   rw[List.length_cons,hk]
   have hne:txt x++txtT l≠[]:=fun e=>by
    have:=xn1 x
    have z:=(List.append_eq_nil_iff.1 e).1
    rw[z]at this;simp at this
   rw[if_neg hne];rfl
noncomputable def wants(t:Twn)(p r h w d:Int):List Str:=[numS (fewestF t.s) (findE ltF t.s),numS (cheapF t.s) (findE ltC t.s),numS (deepF t.s p) (deepE t.s p),numS (nextF t.s r) (nextE t.s r),numS (Flow.mostC t.b) (Flow.chkB t.b),listS (Flow.LKc t.b) (Flow.chkB t.b),spanS (Flow.houseC t.b h (-1)) (Flow.houseC t.b h 1) (Flow.askB t.b (decide (0<=h/\h<=(t.b.nH:Int)-1))),numS (Flow.dryC t.b w) (Flow.askB t.b (decide (0<=w/\w<=(t.b.nW:Int)-1))),listS (Flow.shortC t.b) (Flow.shortE t.b),numS ((Cist.dryY t.y.size t.y.start t.y.days).1) ((Cist.dryY t.y.size t.y.start t.y.days).2),numS ((Cist.sizeR t.y.size t.y.start t.y.days).1) ((Cist.sizeR t.y.size t.y.start t.y.days).2),numS (if Cist.Ok t.y.size t.y.start t.y.days then Cist.ratDown t.y.size t.y.start t.y.days 20 else 0) (Cist.chk t.y.size t.y.start t.y.days),numS ((Cist.spareR t.y.size t.y.start t.y.days d).1) ((Cist.spareR t.y.size t.y.start t.y.days d).2),spanS ((Cist.levY t.y.size t.y.start t.y.days d).1.1) ((Cist.levY t.y.size t.y.start t.y.days d).1.2) ((Cist.levY t.y.size t.y.start t.y.days d).2)]
theorem ykg{t:Twn}(hv:chkT t=0)(p r h w d:Int):(asks p r h w d).map (askT t)=wants t p r h w d:=
 congr (congrArg List.cons (xyj (xbk .fewest t [] hv)).symm) (congr (congrArg List.cons (xyj (xbk .cheap t [] hv)).symm) (congr (congrArg List.cons (xyj (xbk .deep t [p] hv)).symm) (congr (congrArg List.cons (xyj (xbk .next t [r] hv)).symm) (congr (congrArg List.cons (xyj (xbk .most t [] hv)).symm) (congr (congrArg List.cons (xi5 (xbk .lacks t [] hv)).symm) (congr (congrArg List.cons (xv3 (xbk .draws t [h] hv).1 (xbk .draws t [h] hv).2).symm) (congr (congrArg List.cons (xyj (xbk .dry t [w] hv)).symm) (congr (congrArg List.cons (xi5 (xbk .short t [] hv)).symm) (congr (congrArg List.cons (xyj (xbk .empty t [] hv)).symm) (congr (congrArg List.cons (xyj (xbk .least t [] hv)).symm) (congr (congrArg List.cons (xyj (xbk .ration t [] hv)).symm) (congr (congrArg List.cons (xyj (xbk .spare t [d] hv)).symm) (congr (congrArg List.cons (xv3 (xbk .level t [d] hv).1 (xbk .level t [d] hv).2).symm) rfl)))))))))))))
def asks3:List Ask:=[([99,104,101,97,112],.cheap,[]),([109,111,115,116],.most,[]),([108,101,97,115,116],.least,[])]
theorem yrd:∀x∈asks3,x.ok:=by
 have ok:∀(u:Str)(q:Qn),(32:UInt8)∉u->u≠wKeep->qn (u++[48])=some q->Ask.ok (u,q,[]):=fun u q h1 h2 h4=>⟨h1,h2,fun x hx=>(by cases hx),by rw[show txt (([]:List Int).length:Nat)=[48] from xfv (by decide)];exact h4⟩
 intro x hx
 simp only[asks3,List.mem_cons,List.not_mem_nil,or_false]at hx
 rcases hx with rfl|rfl|rfl<;>exact ok _ _ (by decide) (by decide) rfl
theorem xb1{t:Twn}(hv:chkT t=0):runR t (asks3.map Ask.line)=(asks3.map (askT t),t):=by
 rw[xqb hv (by simp[asks3]),xfr _ yrd];rfl
theorem ysd:asks3.map (askT exT)=[[49,55],[55],[57]]:=by
 have e1:askT exT ([99,104,101,97,112],.cheap,[])=[49,55]:=by
  show ansS (findE ltC exS) (txt (cheapF exS))=_
  rw[xsp.1,xsp.2.1,tx17];rfl
 have e2:askT exT ([109,111,115,116],.most,[])=[55]:=by
  show ansS (Flow.chkB Flow.exB) (txt (Flow.mostC Flow.exB))=_
  rw[Flow.chkE_B,show Flow.mostC Flow.exB=7 by rw[Flow.mostC,if_pos Flow.chkE_B,Flow.mostE_B]]
  show txt ((7:Nat):Int)=_
  rw[xfv (by decide)];rfl
 have e3:askT exT ([108,101,97,115,116],.least,[])=[57]:=by
  show ansS (Cist.sizeR exY.size exY.start exY.days).2 (txt (Cist.sizeR exY.size exY.start exY.days).1)=_
  rw[show Cist.sizeR exY.size exY.start exY.days=(9,0) by decide +kernel]
  show txt ((9:Nat):Int)=_
  rw[xfv (by decide)];rfl
 show [_,_,_]=_
 rw[e1,e2,e3]
end Go.X.Ms
namespace Go.Proofs.YtjcakmlipohaeaaGreatDoor
open Go.Proofs.Tryz
open Go.X Go.X.Ms Go.Conc
open Go.X.Flow (ics)
theorem c39(md:Md)(h:Heap)(p:PHeap)(hp:Per p h)(w:Str)(hw:w.length<=1000)(a:Option Addr)(n c:Nat)(l:List Int)(I:Ints p a n l)(hn:n<=100)(hb:∀i,i<n-> -1000000000<=l.getD i 0/\l.getD i 0<=1000000000):
 CallsX prog md 39 #[sv w,.slice a n c] h fun v h'=>v=sv (sayK w l n)/\Keep h h':=by
 have hl:=I.len
 refine xfq hp func39 fun _ _ _ K=>?_
 refine xbz (fun m_ l'=>∃j:Nat,m_=n-j/\l'=[(0,none,sv (sayK w l j)),(1,none,.slice a n c),(5,none,.int .i64 ((j:Nat):Int))]/\j<=n) ⟨0,rfl,rfl,Nat.zero_le _⟩ sb ?_
 rintro _ _ IH ⟨j,rfl,rfl,hj⟩
 refine cq (fun cd=>?_) (fun cd=>?_)
 ·have hjl:j<n:=om
  have hbj:=hb j hjl
  have hlen:=xkc (w:=w) (l:=l) (fun i hi=>⟨by have:=hb i om;omega,by have:=hb i om;omega⟩) j om
  have ht:=xnk (n:=l.getD j 0) ⟨om,om⟩
  refine ax ?_
  refine xlq rfl rfl (fun h pe=>c16 md h _ pe _ hbj) ?_
  refine ax ?_
  refine xeb (a:=[32]) rfl rfl (by simp only[List.length_cons,List.length_nil];omega) ?_
  refine ax ?_
  refine xeb rfl rfl (by simp only[List.length_append,List.length_cons,List.length_nil];omega) ?_
  refine ax ?_
  exact xnq (IH _ om ⟨j+1,rfl,rfl,om⟩)
 obtain rfl:j=n:=om
 refine ax ?_
 exact K.r rfl rfl fun _ H_=>⟨rfl,H_.kept⟩
theorem xcb{p:PHeap}{h₀ h:Heap}{B₀:List Nat}{L Y:Pcs}{v:Value}{w:Str}{l:List Int}{n:Nat}{md:Md}(o:OwnS 3 1 v (ics l) Y)(hl:l.length=n)(s:St h₀ B₀ p h (Y++L))(hw:w.length<=1000)(hn:n<=100)(hb:sm6 l):
 CallsX prog md 39 #[sv w,v] h fun v' h'=>∃Z,(v'=sv (sayK w l n)/\Z=[])/\New h h' Z:=by
 obtain⟨p',⟨g',gl⟩,hy,s'⟩:=s.lastAll
 obtain⟨a,c,e,S⟩:=o.inP hy
 subst e
 rw[xnx,hl]at S⊢
 exact(c39 md h p' s'.per w hw a n c l S hn fun i hi=>by
  have:=hb (l.getD i 0) (by rw[Flow.getD_at om];exact List.getElem_mem _)
  omega).mono fun v' h'⟨e,k⟩=>⟨[],⟨e,rfl⟩,New.of k⟩
set_option maxHeartbeats 400000 in
theorem c8(h:Heap)(p:PHeap)(hp:Per p h)(g:GlP p):CallsX prog (.main true) 8 #[] h fun v h'=>v=.bool true/\Keep h h':=by
 refine xfq hp func8 fun _ _ _ K=>?_
 refine xrz rfl rfl (fun _ pe=>c46 _ _ _ pe) ?_
 rintro _ p1 g1 ⟨A1,rfl,T1⟩
 refine ax ?_
 refine xdz rfl fun v1 Y1 o1=>?_
 have o1:OwnS 9 1 v1 (scs (asks3.map Ask.line)) Y1:=o1
 refine xbx o1 (m:=3) rfl (by decide) fun p2 a2 c2 g2 e2 hc2 S2=>?_
 subst e2
 refine ax ?_
 refine xrz rfl rfl (fun h pe=>c15 h _ pe A1 exT (T1.mono g2.le) ((xcz xtg).up om) (g.mono (g1.trans g2).le) a2 c2 (asks3.map Ask.line) S2 (by decide) (by decide) xup) ?_
 rintro _ p3 g3 ⟨a3,c3,A3,rfl,hc3,S3,T3⟩
 rw[xb1 xtg,ysd]at S3 hc3 T3⊢
 rw[xig xtg (by decide)]
 refine lq fun b8=>?_
 refine ax ?_
 refine xwt rfl rfl trivial fun v5 Y5 o5=>?_
 have o5:OwnS 9 1 v5 (scs [[49,55],[55],[57]]) Y5:=o5
 refine xbx o5 (m:=3) rfl (by decide) fun p5 a5 c5 g5 e5 hc5 S5=>?_
 subst e5
 refine ax ?_
 refine xvq rfl rfl rfl sdu (fun _ _ pe=>c37 _ _ _ pe _ _ _ _ _ _ [[49,55],[55],[57]] [[49,55],[55],[57]] (Sl.mono g5.le S3) S5 ⟨by decide,by decide⟩) ?_
 refine ax ?_
 exact K.r rfl rfl fun _ H_=>⟨by rfl,H_.kept⟩
end Go.Proofs.YtjcakmlipohaeaaGreatDoor
namespace Go.X.Cist
section
variable{size start size' start':Int}{want rain:Nat->Int}{ds:List Day}
theorem ysf(hs:size<=size')(hst:start<=start'):∀k,lev size start want rain k<=lev size' start' want rain k
 |0=>hst
 |k+1=>by
   have h1:=ysf hs hst k
   simp only[lev];omega
theorem xa8(hs:size<=size')(hst:min start size<=min start' size')(h:Lasts size start ds):Lasts size' start' ds:=by
 intro i hi
 have h1:=h i hi
 have h2:=ysf (want:=wantOf ds) (rain:=loOf ds) hs hst i
 unfold lack ovr at h1⊢
 omega
theorem xet{q:Nat->Bool}:∀(f k:Nat),(upTo q k f=none/\ ∀i,k<=i->i<k+f->q i=false)\/ ∃n,upTo q k f=some n/\k<=n/\n<k+f/\q n=true/\ ∀i,k<=i->i<n->q i=false
 |0,k=>.inl ⟨rfl,fun i h1 h2=>absurd h2 om⟩
 |f+1,k=>by
   unfold upTo
   by_cases h:q k=true
   ·rw[if_pos h]
    exact .inr ⟨k,rfl,Nat.le_refl _,om,h,fun i h1 h2=>absurd h2 om⟩
   ·rw[if_neg h]
    have hk:q k=false:=by simpa using h
    rcases xet f (k+1)with⟨e,x⟩|⟨n,e,h1,h2,h3,h4⟩
    ·refine .inl ⟨e,fun i a b=>?_⟩
     by_cases c:i=k
     ·rw[c];exact hk
     ·exact x i om om
    ·refine .inr ⟨n,e,om,om,h3,fun i a b=>?_⟩
     by_cases c:i=k
     ·rw[c];exact hk
     ·exact h4 i om b
theorem size_iff(hOk:Ok size start ds):((sizeR size start ds).2=0\/(sizeR size start ds).2=3)/\(0<=(sizeR size start ds).1/\(sizeR size start ds).1<=60)/\
 ∀z:Int,0<=z->z<=60->(Lasts z start ds<->(sizeR size start ds).2=0/\(sizeR size start ds).1<=z):=by
 have hm:∀z z':Int,z<=z'->Lasts z start ds->Lasts z' start ds:=fun z z' h x=>xa8 h om x
 unfold sizeR
 rw[if_pos hOk]
 rcases xet (q:=fun k=>decide (Lasts (k:Nat) start ds)) 61 0 with⟨e,x⟩|⟨n,e,_,h2,h3,h4⟩<;>rw[e]
 ·refine⟨.inr rfl,⟨Int.le_refl _,by decide⟩,fun z h0 h1=>⟨fun y=>?_,fun y=>absurd y.1 (by decide)⟩⟩
  have:=x z.toNat om om
  rw[show((z.toNat:Nat):Int)=z from by omega]at this
  exact absurd y (of_decide_eq_false this)
 ·refine⟨.inl rfl,⟨by show(0:Int)<=(n:Nat);omega,by show((n:Nat):Int)<=60;omega⟩,fun z h0 h1=>⟨fun y=>⟨rfl,Int.not_lt.1 fun hlt=>?_⟩,fun y=>hm _ _ y.2 (of_decide_eq_true h3)⟩⟩
  have hlt:z<((n:Nat):Int):=hlt
  have:=h4 z.toNat om om
  rw[show((z.toNat:Nat):Int)=z from by omega]at this
  exact absurd y (of_decide_eq_false this)
theorem dryY_iff(hOk:Ok size start ds):(dryY size start ds).2=3<->Lasts size start ds:=by
 unfold dryY
 rw[if_pos hOk]
 have key:dryX size start ds<0<->Lasts size start ds:=by
  rw[<- Int.not_le]
  unfold dryX
  rw[Flow.idxA_iff]
  unfold Lasts
  refine⟨fun h i hi hl=>h ⟨sideDay size (min start size) (wantOf ds) (loOf ds) i,List.mem_map.2 ⟨i,List.mem_range.2 hi,rfl⟩,decide_eq_true (show 0<lack size (min start size) (wantOf ds) (loOf ds) i from hl)⟩,fun h=>?_⟩
  rintro⟨d,hd,hl⟩
  obtain⟨i,hi,rfl⟩:=List.mem_map.1 hd
  exact h i (List.mem_range.1 hi) (show 0<lack size (min start size) (wantOf ds) (loOf ds) i from of_decide_eq_true hl)
 by_cases c:dryX size start ds<0
 ·rw[if_pos c,if_pos c];exact⟨fun _=>key.1 c,fun _=>rfl⟩
 ·rw[if_neg c,if_neg c];exact⟨fun h=>(by cases h),fun h=>absurd (key.2 h) c⟩
end
end Go.X.Cist
namespace Go.X.Ms
open Go.X.Cist (Ok Lasts sizeR dryY size_iff dryY_iff)
def szT(t:Twn)(x:Int):Twn:={t with y:={t.y with size:=x}}
theorem xpc{t:Twn}(h:chkT t=0)(x:Int):chkT (szT t x)=0<->t.y.start<=x/\x<=60:=by
 obtain⟨h1,h2,h3⟩:=xvx.1 h
 have O:=Cist.chk_zero.1 h3
 rw[xvx]
 show chkF t.s=0/\Flow.chkB t.b=0/\Cist.chk x t.y.start t.y.days=0<->_
 rw[Cist.chk_zero]
 unfold Ok at O⊢
 exact⟨fun h=>⟨h.2.2.2.2.2.1,h.2.2.2.1⟩,fun h=>⟨h1,h2,om,h.2,O.2.2.1,h.1,O.2.2.2.2⟩⟩
def wSize:Str:=[115,105,122,101]
def wEmpty:Str:=[101,109,112,116,121]
def wLeast:Str:=[108,101,97,115,116]
def wKeepN:Str:=[107,101,101,112,32,110,32,108,101,97,115,116]
def wSizeN:Str:=[115,105,122,101,32,110]
theorem ymx:qn (wSize++txt ((1:Nat):Int))=none:=by rw[xfv (by decide)];kernel_rfl
theorem xm2:od (wSize++txt ((1:Nat):Int))=some .size:=by rw[xfv (by decide)];kernel_rfl
theorem ymm{d:Dsk}(h:chkT d.now.t=0){x:Int}(hx: -999999<=x/\x<=999999):doD d (sayK wSize [x] 1)=if d.now.t.y.start<=x/\x<=60 then(setD d (szT d.now.t x),wOk)else(d,wNo):=by
 refine(ygk (d:=d) (w:=wSize) (l:=[x]) (o:=.size) (by decide) (by decide) (fun z hz=>by rw[List.mem_singleton.1 hz];exact hx) ymx xm2 rfl).trans ?_
 show(if chkT (szT d.now.t x)=0 then _ else _)=_
 by_cases c:d.now.t.y.start<=x/\x<=60
 ·rw[if_pos c,if_pos ((xpc h x).2 c)];rfl
 ·rw[if_neg c,if_neg fun z=>c ((xpc h x).1 z)]
theorem xl6{d:Dsk}(h:chkT d.now.t=0):doD d wSizeN=if d.now.kept.getD 13 0=0 then(d,wUnknown)else if d.now.t.y.start<=d.now.nums.getD 13 0/\d.now.nums.getD 13 0<=60 then(setD d (szT d.now.t (d.now.nums.getD 13 0)),wOk)else(d,wNo):=by
 have hs:splitS wSizeN=wSize::[[110]]:=by decide
 rw[xkn hs (by decide)]
 have hv:valS d.now [110]=if d.now.kept.getD 13 0=0 then none else some (d.now.nums.getD 13 0):=xzp (by decide)
 by_cases c:d.now.kept.getD 13 0=0
 ·rw[if_pos c]
  rw[if_pos c]at hv
  exact xk5 (by decide) (.inr ⟨rfl,by show od (wSize++txt ((1:Nat):Int))≠none;rw[xm2];simp⟩) (by rw[valsS,hv])
 ·rw[if_neg c]
  rw[if_neg c]at hv
  refine(xlf (o:=.size) (vs:=[d.now.nums.getD 13 0]) ymx xm2 (by decide) (by decide) (by rw[valsS,hv];rfl)).trans ?_
  show(if chkT (szT d.now.t (d.now.nums.getD 13 0))=0 then _ else _)=_
  by_cases c:d.now.t.y.start<=d.now.nums.getD 13 0/\d.now.nums.getD 13 0<=60
  ·rw[if_pos c,if_pos ((xpc h _).2 c)];rfl
  ·rw[if_neg c,if_neg fun z=>c ((xpc h _).1 z)]
theorem yfk{d:Dsk}{w:Str}(hw:(32:UInt8)∉w)(hk:w≠wKeep)(ho:opensW w 0=true)(hq:qn (w++[48])=none):doD d w=((tryD d w).1,doneW (tryD d w).2):=by
 rw[xkn (xec hw) hk]
 exact xl5 (by rw[xfv (by decide)];exact hq) ho
theorem xzf(d:Dsk):doD d wEmpty=(d,askT d.now.t (wEmpty,.empty,[])):=yhk (x:=(wEmpty,.empty,[])) ⟨by decide,by decide,fun x hx=>(by cases hx),by rw[show(txt (([]:List Int).length:Nat))=[48] from xfv (by decide)];rfl⟩
theorem yad(d:Dsk):doD d wKeepN=askD d .least [] [110]:=by
 have hs:splitS wKeepN=wKeep::[110]::wLeast::[]:=by decide
 rw[xy2 hs (by decide)]
 exact xwv (by rw[show(txt (([]:List Str).length:Nat))=[48] from xfv (by decide)];rfl) rfl rfl
theorem yrv{n:Int}:txt n≠wNone:=fun h=>by
 have hc:(111:UInt8)∈txt n:=by rw[h];decide
 unfold txt at hc
 have hd:¬ (111:UInt8)∈txtN n.natAbs:=fun z=>absurd (xdc _ z) (by decide)
 split at hc
 ·rcases List.mem_cons.1 hc with e|hc
  ·cases e
  ·exact hd hc
 ·exact hd hc
theorem ansS_none{n e:Int}:ansS e (txt n)=wNone<->e=3:=by
 unfold ansS
 by_cases c:e=3
 ·rw[if_pos c];exact⟨fun _=>c,fun _=>rfl⟩
 ·rw[if_neg c]
  refine⟨fun h=>?_,fun h=>absurd h c⟩
  split at h
  ·cases h
  ·exact absurd h yrv
theorem xop{t:Twn}(h:chkT t=0):askT t (wEmpty,.empty,[])=wNone<->Lasts t.y.size t.y.start t.y.days:=ansS_none.trans (dryY_iff (Cist.chk_zero.1 (xvx.1 h).2.2))
theorem yln{t:Twn}(h:chkT t=0){x:Int}(hx: -999999<=x/\x<=999999):∃a1 a2 a4 a5 a6 t',runR t [wBegin,sayK wSize [x] 1,wEmpty,wDrop,wKeepN,wSizeN,wEmpty]=([wOk,a1,a2,wOk,a4,a5,a6],t')/\
 ((a1=wOk<->t.y.start<=x/\x<=60)/\(a1=wOk\/a1=wNo))/\(a1=wOk->(a2=wNone<->(sizeR t.y.size t.y.start t.y.days).2=0/\(sizeR t.y.size t.y.start t.y.days).1<=x))/\
 ((sizeR t.y.size t.y.start t.y.days).2=0\/(sizeR t.y.size t.y.start t.y.days).2=3)/\(0<=(sizeR t.y.size t.y.start t.y.days).1/\(sizeR t.y.size t.y.start t.y.days).1<=60)/\
 ((sizeR t.y.size t.y.start t.y.days).2≠0->a4=wNone/\a5=wUnknown/\t'=t)/\
 ((sizeR t.y.size t.y.start t.y.days).2=0->a4=txt (sizeR t.y.size t.y.start t.y.days).1/\(a5=wOk<->t.y.start<=(sizeR t.y.size t.y.start t.y.days).1)/\(a5=wOk->a6=wNone)/\
   t'=if t.y.start<=(sizeR t.y.size t.y.start t.y.days).1 then szT t (sizeR t.y.size t.y.start t.y.days).1 else t):=by
 have O:=Cist.chk_zero.1 (xvx.1 h).2.2
 obtain⟨e3,⟨n0,n60⟩,hL⟩:=size_iff O
 rw[xqb (ls:=[wBegin,sayK wSize [x] 1,wEmpty,wDrop,wKeepN,wSizeN,wEmpty]) h (show(7:Nat)<=30 by decide)]
 have hb:doD (startD t) wBegin=(⟨(startD t).now,[(startD t).now]⟩,wOk):=yfk (by decide) (by decide) (by decide) (by kernel_rfl)
 have hdr:∀s:Snap,doD ⟨s,[(startD t).now]⟩ wDrop=(startD t,wOk):=fun s=>yfk (by decide) (by decide) (by decide) (by kernel_rfl)
 have hlast:∃a4 a5 a6 t',runD (startD t) [wKeepN,wSizeN,wEmpty]=((runD (startD t) [wKeepN,wSizeN,wEmpty]).1,[a4,a5,a6])/\(runD (startD t) [wKeepN,wSizeN,wEmpty]).1.now.t=t'/\
  ((sizeR t.y.size t.y.start t.y.days).2≠0->a4=wNone/\a5=wUnknown/\t'=t)/\
  ((sizeR t.y.size t.y.start t.y.days).2=0->a4=txt (sizeR t.y.size t.y.start t.y.days).1/\(a5=wOk<->t.y.start<=(sizeR t.y.size t.y.start t.y.days).1)/\(a5=wOk->a6=wNone)/\
    t'=if t.y.start<=(sizeR t.y.size t.y.start t.y.days).1 then szT t (sizeR t.y.size t.y.start t.y.days).1 else t):=by
  have hk:doD (startD t) wKeepN=askD (startD t) .least [] [110]:=yad _
  rw[runD,runD,runD,runD,hk]
  unfold askD
  show ∃a4 a5 a6 t',_
  have eq:askQ .least (startD t).now.t []=(.num (sizeR t.y.size t.y.start t.y.days).1,(sizeR t.y.size t.y.start t.y.days).2):=rfl
  rw[eq]
  generalize sizeR t.y.size t.y.start t.y.days=N at*
  obtain⟨n,e⟩:=N
  simp only at n0 n60 e3 hL
  rcases e3 with rfl|rfl
  ·simp only
   rw[if_neg (by decide),if_neg (by decide),if_pos (by decide)]
   have hs:=xl6 (d:=keepD (startD t) [110] (.num n)) h
   have k1:(keepD (startD t) [110] (.num n)).now.kept.getD 13 0=1:=rfl
   have k2:(keepD (startD t) [110] (.num n)).now.nums.getD 13 0=n:=rfl
   have k3:(keepD (startD t) [110] (.num n)).now.t=t:=rfl
   rw[k1,k2,k3,if_neg (by decide)]at hs
   rw[hs]
   by_cases c:t.y.start<=n
   ·rw[if_pos ⟨c,n60⟩,xzf]
    refine⟨_,_,_,_,rfl,rfl,fun z=>absurd rfl z,fun _=>⟨rfl,⟨fun _=>c,fun _=>rfl⟩,fun _=>?_,by rw[if_pos c];rfl⟩⟩
    show askT (szT t n) _=_
    rw[xop ((xpc h n).2 ⟨c,n60⟩)]
    exact(hL n n0 n60).2 ⟨rfl,Int.le_refl _⟩
   ·rw[if_neg fun z=>c z.1]
    exact⟨_,_,_,_,rfl,rfl,fun z=>absurd rfl z,fun _=>⟨rfl,⟨fun z=>(by cases z),fun z=>absurd z c⟩,fun z=>(by cases z),by rw[if_neg c,xzf];rfl⟩⟩
  ·simp only
   rw[if_pos trivial]
   have hs:=xl6 (d:=startD t) h
   rw[if_pos (by rfl)]at hs
   rw[hs]
   exact⟨_,_,_,_,rfl,rfl,fun _=>⟨rfl,rfl,by rw[xzf];rfl⟩,fun z=>absurd z (by decide)⟩
 obtain⟨a4,a5,a6,t',r1,r2,r3,r4⟩:=hlast
 have e1:=ymm (d:=⟨(startD t).now,[(startD t).now]⟩) h hx
 have e1:doD ⟨(startD t).now,[(startD t).now]⟩ (sayK wSize [x] 1)=if t.y.start<=x/\x<=60 then(⟨⟨szT t x,(startD t).now.nums,(startD t).now.kept⟩,[(startD t).now]⟩,wOk)else(⟨(startD t).now,[(startD t).now]⟩,wNo):=e1
 rw[runD,hb,runD,e1]
 by_cases c:t.y.start<=x/\x<=60
 ·rw[if_pos c,runD,xzf,runD,hdr,r1]
  refine⟨wOk,_,a4,a5,a6,t',Prod.ext rfl r2,⟨⟨fun _=>c,fun _=>rfl⟩,.inl rfl⟩,fun _=>?_,e3,⟨n0,n60⟩,r3,r4⟩
  show askT (szT t x) _=wNone<->_
  rw[xop ((xpc h x).2 c)]
  exact hL x (by have:=O.2.2.1;omega) c.2
 ·rw[if_neg c,runD,xzf,runD,hdr,r1]
  exact⟨wNo,_,a4,a5,a6,t',Prod.ext rfl r2,⟨⟨fun z=>(by cases z),fun z=>absurd z c⟩,.inr rfl⟩,fun z=>(by cases z),e3,⟨n0,n60⟩,r3,r4⟩
end Go.X.Ms
namespace Go.X
abbrev R49:List Nat:=[0,1,2,3,4,5,6,7,8,9,10,11,12,13,14,15,16,17,18,19,20,21,22,23,24,25,26,27,28,29,30,31,32,33,34,35,36,37,38,39,40,41,42,43,44,45,46,47,48]
end Go.X
namespace Go.Proofs.YtjcakmlipohaeaaGreatDoor
open Go.Proofs.Tryz
open Go.X Go.X.Ms Go.Conc
open Go.X.Flow (ics)
set_option maxHeartbeats 800000 in
theorem ybs(h:Heap)(p:PHeap)(hp:Per p h)(A:TA)(t:Twn)(T:TwP p A t)(hn:t.fit 9223372036854775807)(g:GlP p)(k:Int):EntersX prog (.main true) 5 #[twV A t,.int .i64 k] h fun v h'=>v=.bool true/\Keep h h':=by
 refine xqs hp func5 ?_
 refine bq fun b2=>?_
 refine ax ?_
 refine xxl rfl rfl (fun h pe=>c6 _ h _ pe A t T hn) ?_
 rintro _ ⟨q,rfl,hq⟩
 refine ax ?_
 refine xvq rfl rfl rfl sdu (fun cg _ pe=>c7 _ _ _ pe A t T ((hq (by simpa using cg)).up om)) ?_
 refine cq (fun _=>?_) (fun cc=>?_)
 ·refine ax ?_
  refine xlq rfl rfl (fun _ pe=>c8 _ _ pe g) ?_
  refine ax ?_
  exact xww (by kernel_rfl) func5 rfl rfl fun _ H_=>⟨rfl,H_.kept⟩
 obtain⟨hv,hk⟩:chkT t=0/\(-999999<=k/\k<=999999):=by
  simp at cc
  omega
 have hf:=xcz hv
 have hsm:sm6 [k]:=fun x hx=>by rw[List.mem_singleton.1 hx];exact hk
 obtain⟨z,hz⟩:∃z,z=sayK wSize [k] 1:=⟨_,rfl⟩
 have hlm:∀s∈[wBegin,z,wEmpty,wDrop,wKeepN,wSizeN,wEmpty],s.length<=900:=fun s hs=>by
  simp only[List.mem_cons,List.not_mem_nil,or_false]at hs
  rcases hs with rfl|rfl|rfl|rfl|rfl|rfl|rfl
  case inr.inl=>
   have:=xkc (w:=wSize) (l:=[k]) (fun i hi=>by
    obtain rfl:i=0:=by simpa using hi
    exact⟨by show _<=k;omega,by show k<=_;omega⟩) 1 (by simp)
   have e:wSize.length=4:=rfl
   rw[hz];omega
  all_goals decide
 refine ax ?_
 refine xlq rfl rfl (fun _ pe=>c14 _ _ _ pe t.y.size t.y.start _ _ _ t.y.days T.d (by have:=hf.2.2;omega)) ?_
 refine ax ?_
 refine xrz rfl rfl (fun _ pe=>c38 _ _ _ pe A t T (hf.up om)) ?_
 rintro _ p1 g1 ⟨A1,rfl,T1⟩
 have Tt:=T.mono g1.le
 refine ax ?_
 refine xdz rfl fun v1 Y1 o1=>?_
 have o1:OwnS 3 1 v1 (ics [k]) Y1:=o1
 refine ax ?_
 refine xwl rfl rfl (fun h s=>xcb (w:=wSize) (n:=1) o1 rfl s (by decide) (by decide) hsm) fun v2 Y2 q2=>?_
 obtain⟨rfl,rfl⟩:=q2
 rw[<- hz]
 refine ax ?_
 refine xdz (cells:=#[sv wBegin,sv z,sv wEmpty,sv wDrop,sv wKeepN,sv wSizeN,sv wEmpty]) rfl (fun v3 Y3 o3=>?_) (hf:=by kernel_rfl) (hc:=by kernel_rfl) (hw:=by kernel_rfl) (hn:=by kernel_rfl)
 have o3:OwnS 9 1 v3 (scs [wBegin,z,wEmpty,wDrop,wKeepN,wSizeN,wEmpty]) Y3:=o3
 refine xbx o3 (m:=7) rfl (by decide) fun p2 a2 c2 g2 e2 hc2 S2=>?_
 subst e2
 refine ax ?_
 refine xrz rfl rfl (fun h pe=>c15 h _ pe A1 t (T1.mono g2.le) (hf.up om) (g.mono (g1.trans g2).le) a2 c2 [wBegin,z,wEmpty,wDrop,wKeepN,wSizeN,wEmpty] S2 (show(7:Nat)<=2^20 by decide) hlm xup) ?_
 rintro _ p3 g3 ⟨a3,c3,A3,rfl,hc3,S3,T3⟩
 obtain⟨x1,x2,x4,x5,x6,t',hR,h1,h2,h3,h4,h5,h6⟩:=yln hv hk
 rw[<- hz]at hR
 rw[hR]at S3 hc3 T3⊢
 rw[xig (ls:=[wBegin,z,wEmpty,wDrop,wKeepN,wSizeN,wEmpty]) hv (show(7:Nat)<=30 by decide)]
 rw[show([wOk,x1,x2,wOk,x4,x5,x6],t').1.length=7 from rfl]at hc3⊢
 have S3:Strs p3 a3 7 [wOk,x1,x2,wOk,x4,x5,x6]:=S3
 have T3:TwP p3 A3 t':=T3
 clear hR hlm
 refine lq fun b8=>?_
 refine ax ?_
 have S4:Sl p3 a3 7 1 (scs [wOk,x1,x2,wOk,x4,x5,x6]):=S3
 generalize (Cist.sizeR t.y.size t.y.start t.y.days).1=n at*
 generalize (Cist.sizeR t.y.size t.y.start t.y.days).2=e at*
 refine xjx [] R49 ?_
 refine ex ?_
 refine xsj rfl rfl rfl rfl sdu sdu (fun _=>⟨⟨om,om⟩,Sl.ne S4 om⟩) ?_
 refine xdj (u:=sv [111,107]) rfl rfl rfl sdu (fun _=>Strs.get S3 (i:=0) om) ?_
 refine xqp rfl rfl rfl rfl sdu sdu ?_
 refine ex ?_
 refine xsj rfl rfl rfl rfl sdu sdu (fun _=>⟨⟨om,om⟩,Sl.ne S4 om⟩) ?_
 refine xdj (u:=sv [111,107]) rfl rfl rfl sdu (fun _=>Strs.get S3 (i:=3) om) ?_
 refine xqp rfl rfl rfl rfl sdu sdu ?_
 refine ex ?_
 refine xsj rfl rfl rfl rfl sdu sdu (fun _=>⟨⟨om,om⟩,Sl.ne S4 om⟩) ?_
 refine xdj (u:=sv x1) rfl rfl rfl sdu (fun _=>Strs.get S3 (i:=1) om) ?_
 refine ex ?_
 refine ax ?_
 refine yeq rfl rfl rfl sdu sdu ?_
 refine ax ?_
 refine xsb rfl rfl rfl sdu sdu (fun _=>⟨⟨om,om⟩,Sl.ne S4 om⟩) ?_
 refine xgw (u:=sv x1) rfl rfl sdu (fun _=>Strs.get S3 (i:=1) om) ?_
 refine ax ?_
 refine xsb rfl rfl rfl sdu sdu (fun _=>⟨⟨om,om⟩,Sl.ne S4 om⟩) ?_
 refine xgw (u:=sv x1) rfl rfl sdu (fun _=>Strs.get S3 (i:=1) om) ?_
 refine cq (fun cd=>?_) (fun _=>?_)
 ·exfalso
  have hb:(decide (x1=[111,107])==(decide (t.y.start<=k)&&decide (k<=60)))=true:=by
   rw[beq_iff_eq,Bool.eq_iff_iff,Bool.and_eq_true,decide_eq_true_eq,decide_eq_true_eq,decide_eq_true_eq];exact h1.1
  rcases cd with(((((((⟨c1,c2⟩|c)|c)|c)|c)|c)|c)|c)|⟨c1,c2⟩
  ·rcases h3 with h3|h3
   ·exact c1 h3
   ·exact c2 h3
  ·exact c rfl
  ·exact c rfl
  ·omega
  ·omega
  ·exact c rfl
  ·exact c rfl
  ·exact c hb
  ·rcases h1.2 with z|z
   ·exact c1 z
   ·exact c2 z
 refine ax ?_
 refine xvk rfl (Strs.get S3 (i:=1) om) ?_
 refine ax ?_
 refine xsb rfl rfl rfl sdu sdu (fun _=>⟨⟨om,om⟩,Sl.ne S4 om⟩) ?_
 refine xgw (u:=sv x2) rfl rfl sdu (fun _=>Strs.get S3 (i:=2) om) ?_
 refine ax ?_
 refine yeq rfl rfl rfl sdu sdu ?_
 refine cq (fun cd=>?_) (fun _=>?_)
 ·exfalso
  refine cd.2 ?_
  have c1:x1=wOk:=cd.1
  rw[beq_iff_eq,Bool.eq_iff_iff,Bool.and_eq_true,decide_eq_true_eq,decide_eq_true_eq,decide_eq_true_eq];exact h2 c1
 have Tp:=(Tt.mono g2.le).mono g3.le
 have gp:=g.mono ((g1.trans g2).trans g3).le
 refine cq (fun ce=>?_) (fun ce=>?_)
 ·obtain⟨rfl,rfl,rfl⟩:=h5 ce
  refine ax ?_
  refine xvk rfl (Strs.get S3 (i:=4) om) ?_
  refine ax ?_
  refine xsb rfl rfl rfl sdu sdu (fun _=>⟨⟨om,om⟩,Sl.ne S4 om⟩) ?_
  refine xgw (u:=sv wUnknown) rfl rfl sdu (fun _=>Strs.get S3 (i:=5) om) ?_
  refine ax ?_
  refine xvq rfl rfl rfl sdu (fun _ _ pe=>c11 _ _ _ pe A3 A _ T3 Tp (hf.up om)) ?_
  refine ax ?_
  refine xvq rfl rfl rfl sdu (fun _ _ pe=>c8 _ _ pe gp) ?_
  refine ax ?_
  exact xww (by kernel_rfl) func5 rfl rfl fun _ H_=>⟨rfl,H_.kept⟩
 have he:e=0:=om
 obtain⟨r4,r5,r6,rt⟩:=h6 he
 refine ax ?_
 refine xjx [] R16 ?_
 refine ex ?_
 refine xag rfl rfl (Strs.get S3 (i:=4) om) ?_
 refine ex ?_
 refine xiz rfl rfl rfl (fun _ pe=>c16 _ _ _ pe n om) ?_
 refine ex ?_
 refine xqp rfl rfl rfl rfl sdt sdt ?_
 refine ex ?_
 refine xsj rfl rfl rfl rfl sdu sdu (fun _=>⟨⟨om,om⟩,Sl.ne S4 om⟩) ?_
 refine xdj (u:=sv x5) rfl rfl rfl sdu (fun _=>Strs.get S3 (i:=5) om) ?_
 refine ex ?_
 refine ax ?_
 refine yeq rfl rfl rfl sdu sdu ?_
 refine ax ?_
 refine xsb rfl rfl rfl sdu sdu (fun _=>⟨⟨om,om⟩,Sl.ne S4 om⟩) ?_
 refine xgw (u:=sv x5) rfl rfl sdu (fun _=>Strs.get S3 (i:=5) om) ?_
 refine ax ?_
 refine xsb rfl rfl rfl sdu sdu (fun _=>⟨⟨om,om⟩,Sl.ne S4 om⟩) ?_
 refine xgw (u:=sv x6) rfl rfl sdu (fun _=>Strs.get S3 (i:=6) om) ?_
 refine cq (fun cd=>?_) (fun _=>?_)
 ·exfalso
  rcases cd with(c|c)|⟨c1,c2⟩
  ·exact c r4
  ·refine c ?_
   rw[beq_iff_eq,Bool.eq_iff_iff,decide_eq_true_eq,decide_eq_true_eq];exact r5
  ·exact c2 (r6 c1)
 refine lq fun b10=>?_
 refine ax ?_
 refine xvk rfl (Strs.get S3 (i:=5) om) ?_
 refine cq (fun cf=>?_) (fun cf=>?_)
 ·have hst:t.y.start<=n:=r5.1 cf
  rw[if_pos hst]at rt
  subst rt
  refine ax ?_
  refine xck rfl rfl (fun _ pe=>c40 _ _ _ pe t.y.size t.y.start _ _ _ t.y.days Tp.d (by have:=hf.2.2;omega)) fun v5 Y5 q5=>?_
  obtain⟨a5,c5,rfl,o5⟩:=q5
  refine ax ?_
  refine xbx o5 (m:=t.y.days.length) (by rw[Cist.dcs_length]) (by decide) fun p5 a6 c6 g5 e6 hc6 S6=>?_
  obtain⟨rfl,rfl⟩:a5=a6/\c5=c6:=by simpa using e6
  refine xlq rfl rfl (fun _ pe=>c11 _ _ _ pe A3 {A with d:=(a5,c5)} (szT t n) (T3.mono g5.le) ⟨(Tp.mono g5.le).s,(Tp.mono g5.le).b,S6,⟨Tp.c.1,Tp.c.2.1,hc6⟩⟩ (hf.up om:t.fit (2^20))) ?_
  refine ax ?_
  refine xvq rfl rfl rfl sdu (fun _ _ pe=>c8 _ _ pe (gp.mono g5.le)) ?_
  refine ax ?_
  exact xww (by kernel_rfl) func5 rfl rfl fun _ H_=>⟨rfl,H_.kept⟩
 ·rw[if_neg fun h=>cf (r5.2 h)]at rt
  subst rt
  refine ax ?_
  refine xlq rfl rfl (fun _ pe=>c11 _ _ _ pe A3 A _ T3 Tp (hf.up om)) ?_
  refine ax ?_
  refine xvq rfl rfl rfl sdu (fun _ _ pe=>c8 _ _ pe gp) ?_
  refine ax ?_
  exact xww (by kernel_rfl) func5 rfl rfl fun _ H_=>⟨rfl,H_.kept⟩
end Go.Proofs.YtjcakmlipohaeaaGreatDoor
namespace Go.Proofs.YtjcakmlipohaeaaGreatDoor
open Go.Proofs.Tryz
open Go.X Go.X.Ms Go.Conc Go.RowKit Go.ChangeShapes Go.WideShapes Go.ChangeAt Go.Joins
theorem xjn(os:Os)(started:os.Started)(H:Type)(enc:TypeId×Value->H):
 ReturnsInLeavingWide {} Tryz.checked os 5 .any (fun w args=>(Rows.topTriedSpec.pre enc prog Tryz.f5 Rows.topTriedRow.domain false w args/\laidMetH prog Rows.topTriedRow.laid w)/\sizedMet enc prog Tryz.f5 (OpenSpec.ofChange Rows.topTriedSpec) false w args) (Rows.topTriedSpec.post enc prog Tryz.f5 false true false false):=by
 refine xnd (C:=Tryz.checked) (X:=fun w _=>laidMetH prog Rows.topTriedRow.laid w) (fun _ _ _ hh h=>h.of_heap hh) pOwn started func5
  (ChangeSpec.witness_shaped (enc:=enc) (C:=Tryz.checked) (os:=os) (X:=fun w _=>laidMetH prog Rows.topTriedRow.laid w) false (laidW os) #[.agg #[.slice none 0 0,.slice none 0 0,.int .i64 0,.int .i64 0,.int .i64 0,.slice none 0 0,.slice none 0 0,.slice none 0 0,.int .i64 0,.int .i64 0,.slice none 0 0],.int .i64 0] 8 (World.laidAll_os _ _ _)
   (World.shaped_of_ZipB (by kernel_rfl) (by kernel_rfl)) (by kernel_rfl) (by kernel_rfl) (by kernel_rfl) (xlm os _)) ?_
 intro W base args ds gs before hval0 hW hL
 have hval:∀(j:Nat)t v,Tryz.f5.params[j]?=some t->args[j]?=some v->Value.okWide prog W .any base t v:=hval0
 have hW2:=hW
 obtain⟨p,q,hA0,hV,rfl,_,_⟩:=hW2
 have hA:DataW.TrodAll enc prog W 0 (fun _=>true) true Tryz.f5.params.toList args.toList ds p:=hA0
 rw[Tryz.params5]at hA hval
 obtain⟨v0,v1,d0,d1,p0,p1,rfl,rfl,_,h0,h1⟩:=trodAll_two hA
 obtain⟨rfl,rfl⟩:=trodVars_none hV
 obtain⟨A,t,rfl,hn,T⟩:=xld (hval 0 33 v0 rfl rfl) h0
 obtain⟨k1,rfl,hk1⟩:=yib (hval 1 3 v1 rfl rfl) h1
 obtain⟨N,last,o,w2,t2,r1,r2,r3,r4⟩:=xbw (w:=W) (ybs (nilV W.heap) (vwP W) (xl1 W) A t T hn (xrg hL) k1) fun v h2 r=>r.2
 refine⟨N,last,o,w2,t2,r1,r2,r3,r4.mono fun v⟨hB,h2,e,_⟩=>?_⟩
 subst e
 exact xbs ybl rfl (fun t ht=>by rw[Tryz.params5]at ht;revert t;decide +kernel) rfl underlying4 hW rfl hB
set_option maxHeartbeats 4000000 in
theorem xc8:joinedFacts prog 5 Tryz.f5 Rows.topTriedSpec Rows.topTriedRow=true:=by
 unfold joinedFacts
 repeat' (with_reducible refine Bool.and_eq_true_iff.2 ⟨?_,?_⟩)
 all_goals (as_aux_lemma=>kernel_rfl)
theorem topTriedRowHolds:Rows.TopTriedSaid:=
 OpenClaim.holds_of_wide_leaving 5 Tryz.f5 rfl rfl rfl rfl rfl rfl rfl ⟨rfl,rfl,rfl,rfl,rfl⟩ rfl rfl rfl rfl rfl (by kernel_rfl) func5 xc8
  (of_decide_eq_true (by kernel_rfl)) (by unfold Func.isWrapper;first|(rw[if_pos (by decide +kernel)];kernel_rfl)|(rw[if_neg (by decide +kernel)];exact⟨rfl,rfl⟩))
  (fun os started H enc _=>xjn os started H enc)
theorem topTriedHolds:Rows.TopTriedCardSaid:=
 xll .later [.data, .data, .data, .data, .data, .data, .sentinel, .sentinel, .pinned] true (true, "a578bae1aa3b42223cf9e8912de88cb3c1d6fb893348a9844022307e04602158") true topTriedRowHolds (by kernel_rfl) topTried_row_tie rfl ⟨rfl, rfl⟩ (by kernel_rfl) rfl
  (fun f fn hf hfn=>by
   obtain rfl : f = 5 := Option.some.inj ((show prog.funcNamed "steening/steeningtop.TopTried" = some 5 by kernel_rfl).symm.trans hf) |>.symm
   obtain rfl:fn=Tryz.f5:=(Option.some.inj (func5.symm.trans hfn)).symm
   exact⟨by kernel_rfl,fun j t ht=>by
    rw[Tryz.params5]at ht
    have hm:t∈[33,3]:=by simpa using Array.mem_of_getElem? ht
    have hall:([33,3].all fun u=>!prog.wantsStandIn u)=true:=by kernel_rfl
    exact(show prog.wantsStandIn t=false by simpa using List.all_eq_true.1 hall t hm)⟩)
  (by kernel_rfl)
#print axioms topTriedHolds
end Go.Proofs.YtjcakmlipohaeaaGreatDoor
