/-
  Part of proofs about a town's master: a calculus for walks beside goroutines that are only leaving, and the walks. No condition.
-/
import Derived.Test.YtjcakmlipohaeaaGreatDoorGN
set_option maxRecDepth 20000
set_option synthInstance.maxSize 2000
namespace Go.Proofs.YtjcakmlipohaeaaGreatDoor
open Go.Proofs.Tryz
open Go.X Go.X.Ms Go.Conc
open Go.X.Flow (ics)
def RunX(p:PHeap)(t:Twn)(ls:List Str)(v:Value)(Y:Pcs):Prop:=∃(a:Option Addr)(c:Nat)(A:TA),v=.tuple #[.slice a ls.length c,twV A (runR t ls).2,.bool true]/\ls.length<=c/\ ∀p',PLe p p'->(∀y∈Y,p' y.1=some y.2)->Strs p' a ls.length (runR t ls).1/\TwP p' A (runR t ls).2
theorem yhw{p:PHeap}{h₀ h:Heap}{B₀:List Nat}{L Y:Pcs}{A:TA}{t:Twn}{ls:List Str}{v:Value}(o:OwnS 9 1 v (scs ls) Y)(s:St h₀ B₀ p h (Y++L))(T:TwP p A t)(g:GlP p)(hlm:∀s∈ls,s.length<=900)(hv:chkT t=0)(h30:ls.length<=30):
 CallsX prog (.main true) 36 #[twV A t,v] h fun v' h'=>∃Z,RunX p t ls v' Z/\New h h' Z:=by
 obtain⟨p',⟨g',gl⟩,hy,s'⟩:=s.lastAll
 obtain⟨a,c,e,S⟩:=o.inP hy
 subst e
 rw[xuq]at S⊢
 refine(yrn h p s.per p' s'.per g'.le A t T g a c ls S hlm hv h30).mono fun v' h' x=>?_
 obtain⟨Z,⟨p2,⟨a2,c2,A2,e2,hc2,S2,T2⟩,le⟩,N⟩:=x.pieces
 exact⟨Z,⟨a2,c2,A2,e2,hc2,fun p'' l y=>⟨Strs.mono (le p'' l y) S2,T2.mono (le p'' l y)⟩⟩,N⟩
theorem xjc{p:PHeap}{h₀ h:Heap}{B₀:List Nat}{L Y:Pcs}{v:Value}{w:Str}{l:List Int}{n:Nat}{md:Md}(o:OwnS 3 1 v (ics l) Y)(hl:l.length=n)(s:St h₀ B₀ p h (Y++L))(hw:w.length<=1000)(hn:n<=100)(hb:sm6 l):
 CallsX prog md 35 #[sv w,v] h fun v' h'=>∃Z,(v'=sv (sayK w l n)/\Z=[])/\New h h' Z:=by
 obtain⟨p',⟨g',gl⟩,hy,s'⟩:=s.lastAll
 obtain⟨a,c,e,S⟩:=o.inP hy
 subst e
 rw[xnx,hl]at S⊢
 exact(c35 md h p' s'.per w hw a n c l S hn fun i hi=>by
  have:=hb (l.getD i 0) (by rw[Flow.getD_at om];exact List.getElem_mem _)
  omega).mono fun v' h'⟨e,k⟩=>⟨[],⟨e,rfl⟩,New.of k⟩
end Go.Proofs.YtjcakmlipohaeaaGreatDoor
namespace Go.X.Ms
def ansS(e:Int)(s:Str):Str:=if e=3 then wNone else if e≠0 then wWrong else s
abbrev Ask:=Str×Qn×List Int
noncomputable def askT(t:Twn)(x:Ask):Str:=ansS (askQ x.2.1 t x.2.2).2 (askQ x.2.1 t x.2.2).1.text
def Ask.ok(x:Ask):Prop:=(32:UInt8)∉x.1/\x.1≠wKeep/\sm6 x.2.2/\qn (x.1++txt x.2.2.length)=some x.2.1
def Ask.line(x:Ask):Str:=sayK x.1 x.2.2 x.2.2.length
def wKeepZ:Str:=[107,101,101,112,32,122,32]
theorem xu6(d:Dsk)(q:Qn)(a:List Int)(l:Str):(askD d q a l).2=ansS (askQ q d.now.t a).2 (askQ q d.now.t a).1.text:=by
 unfold askD ansS
 split
 ·rfl
 ·split<;>rfl
theorem yjv(d:Dsk)(q:Qn)(a:List Int):(askD d q a []).1=d:=by
 unfold askD
 split
 ·rfl
 ·split
  ·rfl
  ·rfl
theorem yhk{d:Dsk}{x:Ask}(h:x.ok):doD d x.line=(d,askT d.now.t x):=by
 obtain⟨h1,h2,h3,h4⟩:=h
 have e:=yfs (d:=d) h1 h2 h3 h4
 unfold Ask.line
 rw[e]
 exact Prod.ext (yjv d _ _) (xu6 d _ _ _)
theorem yzc{d:Dsk}{x:Ask}(h:x.ok):doD d (wKeepZ++x.line)=askD d x.2.1 x.2.2 [122]:=by
 obtain⟨h1,h2,h3,h4⟩:=h
 have hs:splitS (wKeepZ++x.line)=wKeep::[122]::x.1::x.2.2.map txt:=by
  rw[show wKeepZ++x.line=wKeep++32::([122]++32::x.line) from rfl,xgc _ (by decide),xgc _ (by decide)]
  unfold Ask.line
  rw[xfg h1 _ (Nat.le_refl _),List.take_length]
 rw[xy2 hs (by decide)]
 exact xwv (by rw[List.length_map];exact h4) (xzm h3) (xud h3)
theorem xfr:∀{xs:List Ask}(d:Dsk),(∀x∈xs,x.ok)->runD d (xs.map Ask.line)=(d,xs.map (askT d.now.t))
 |[],_,_=>rfl
 |x::xs,d,h=>by rw[List.map_cons,runD,yhk (h x (by simp)),xfr d fun y hy=>h y (List.mem_cons_of_mem _ hy)];rfl
theorem xqt:∀{xs:List Ask}(d:Dsk),(∀x∈xs,x.ok)->(runD d (xs.map fun x=>wKeepZ++x.line)).2=xs.map (askT d.now.t)/\(runD d (xs.map fun x=>wKeepZ++x.line)).1.now.t=d.now.t
 |[],_,_=>⟨rfl,rfl⟩
 |x::xs,d,h=>by
   have e1:=(xc1 d x.2.1 x.2.2 [122]).1
   have ih:=xqt (askD d x.2.1 x.2.2 [122]).1 fun y hy=>h y (List.mem_cons_of_mem _ hy)
   rw[e1]at ih
   rw[List.map_cons,runD,yzc (h x (by simp))]
   exact⟨by rw[ih.1,xu6];rfl,ih.2⟩
def asks(p r h w d:Int):List Ask:=
 [([102,101,119,101,115,116],.fewest,[]),([99,104,101,97,112],.cheap,[]),([100,101,101,112],.deep,[p]),([110,101,120,116],.next,[r]),([109,111,115,116],.most,[]),([108,97,99,107,115],.lacks,[]),
  ([100,114,97,119,115],.draws,[h]),([100,114,121],.dry,[w]),([115,104,111,114,116],.short,[]),([101,109,112,116,121],.empty,[]),([108,101,97,115,116],.least,[]),([114,97,116,105,111,110],.ration,[]),
  ([115,112,97,114,101],.spare,[d]),([108,101,118,101,108],.level,[d])]
theorem xf3{p r h w d:Int}(H:sm6 [p,r,h,w,d]):∀x∈asks p r h w d,x.ok:=by
 have one:∀{n:Int},n∈[p,r,h,w,d]->sm6 [n]:=fun hn x hx=>by rw[List.mem_singleton.1 hx];exact H _ hn
 have nil:sm6 []:=fun x hx=>by cases hx
 have ok:∀(u:Str)(q:Qn)(l:List Int),(32:UInt8)∉u->u≠wKeep->l.length<10->qn (u++[UInt8.ofNat (48+l.length)])=some q->sm6 l->Ask.ok (u,q,l):=fun u q l h1 h2 h10 h4 h3=>⟨h1,h2,h3,by rw[xfv h10];exact h4⟩
 intro x hx
 simp only[asks,List.mem_cons,List.not_mem_nil,or_false]at hx
 rcases hx with rfl|rfl|rfl|rfl|rfl|rfl|rfl|rfl|rfl|rfl|rfl|rfl|rfl|rfl
 all_goals (refine ok _ _ _ (by decide) (by decide) (Nat.le_of_ble_eq_true rfl) rfl ?_)
 all_goals first|exact nil|exact one (by simp)
theorem yqd{t:Twn}(hv:chkT t=0){p r h w d:Int}(H:sm6 [p,r,h,w,d]):runR t ((asks p r h w d).map Ask.line)=((asks p r h w d).map (askT t),t):=by
 rw[xqb hv (by simp[asks]),xfr _ (xf3 H)];rfl
theorem yrz{t:Twn}(hv:chkT t=0){p r h w d:Int}(H:sm6 [p,r,h,w,d]):runR t ((asks p r h w d).map fun x=>wKeepZ++x.line)=((asks p r h w d).map (askT t),t):=by
 have e:=xqt (startD t) (xf3 H)
 rw[xqb hv (by simp[asks])]
 exact Prod.ext e.1 e.2
def numS(n e:Int):Str:=if n< -1000000000\/n>1000000000 then []else ansS e (txt n)
theorem xyj{n e:Int}(h:m6 n):numS n e=ansS e (txt n):=by unfold numS;rw[if_neg om]
def wTo:Str:=[32,116,111,32]
def spanS(a b e:Int):Str:=ansS e ((numS a 0++wTo)++numS b 0)
theorem xv3{a b e:Int}(ha:m6 a)(hb:m6 b):spanS a b e=ansS e (Rs.spn a b).text:=by
 unfold spanS
 rw[xyj ha,xyj hb]
 show ansS e ((txt a++wTo)++txt b)=ansS e (txt a++([32,116,111,32]++txt b))
 rw[List.append_assoc];rfl
def listK(l:List Int):Nat->Str
 |0=>[]
 |k+1=>if 0<k then(listK l k++[32])++numS (l.getD k 0) 0 else listK l k++numS (l.getD k 0) 0
def listS(l:List Int)(e:Int):Str:=if 60<l.length then []else ansS e (if listK l l.length=[]then [110,111,116,104,105,110,103]else listK l l.length)
theorem xj5{x:Int}{l:List Int}(h:∀y∈x::l,m6 y):∀k,k<=l.length->listK (x::l) (k+1)=txt x++txtT (l.take k)
 |0,_=>by rw[listK,if_neg om,listK];show []++numS x 0=_;rw[xyj (h x (by simp))];show []++txt x=txt x++[];simp
 |k+1,hk=>by
   have ht:∀(u:List Int)(y:Int),txtT (u++[y])=txtT u++32::txt y:=fun u y=>by
    induction u with
    |nil=>show 32::(txt y++[])=_;simp[txtT]
    |cons a u ih=>rw[List.cons_append,txtT,ih,txtT];simp
   have hg:(x::l).getD (k+1) 0=l[k]:=by rw[List.getD_cons_succ,List.getD_eq_getElem?_getD,List.getElem?_eq_getElem om];rfl
   rw[listK,if_pos om,xj5 h k om,hg,xyj (h _ (List.mem_cons_of_mem _ (List.getElem_mem _))),List.take_add_one,List.getElem?_eq_getElem om]
   show _=txt x++txtT (l.take k++[l[k]])
   rw[ht]
   show((txt x++txtT (l.take k))++[32])++txt l[k]=_
   simp
theorem xi5{l:List Int}{e:Int}(h:(Rs.lst l).m6):listS l e=ansS e (Rs.lst l).text:=by
 obtain⟨h1,h2⟩:=h
 unfold listS
 rw[if_neg om]
 cases l with
 |nil=>rfl
 |cons x l=>
   have hm:∀y∈x::l,m6 y:=fun y hy=>by
    obtain⟨i,hi,e⟩:=List.mem_iff_getElem.1 hy
    have:=h2 i hi
    rw[Flow.getD_at hi,e]at this;exact this
   have hk:=xj5 hm l.length (Nat.le_refl _)
   rw[List.take_length]at hk
   rw[List.length_cons,hk]
   have hne:txt x++txtT l≠[]:=fun e=>by
    have:=xn1 x
    have z:=(List.append_eq_nil_iff.1 e).1
    rw[z]at this;simp at this
   rw[if_neg hne];rfl
noncomputable def wants(t:Twn)(p r h w d:Int):List Str:=[numS (fewestF t.s) (findE ltF t.s),numS (cheapF t.s) (findE ltC t.s),numS (deepF t.s p) (deepE t.s p),numS (nextF t.s r) (nextE t.s r),numS (Flow.mostC t.b) (Flow.chkB t.b),listS (Flow.LKc t.b) (Flow.chkB t.b),spanS (Flow.houseC t.b h (-1)) (Flow.houseC t.b h 1) (Flow.askB t.b (decide (0<=h/\h<=(t.b.nH:Int)-1))),numS (Flow.dryC t.b w) (Flow.askB t.b (decide (0<=w/\w<=(t.b.nW:Int)-1))),listS (Flow.shortC t.b) (Flow.shortE t.b),numS ((Cist.dryY t.y.size t.y.start t.y.days).1) ((Cist.dryY t.y.size t.y.start t.y.days).2),numS ((Cist.sizeR t.y.size t.y.start t.y.days).1) ((Cist.sizeR t.y.size t.y.start t.y.days).2),numS (if Cist.Ok t.y.size t.y.start t.y.days then Cist.ratDown t.y.size t.y.start t.y.days 20 else 0) (Cist.chk t.y.size t.y.start t.y.days),numS ((Cist.spareR t.y.size t.y.start t.y.days d).1) ((Cist.spareR t.y.size t.y.start t.y.days d).2),spanS ((Cist.levY t.y.size t.y.start t.y.days d).1.1) ((Cist.levY t.y.size t.y.start t.y.days d).1.2) ((Cist.levY t.y.size t.y.start t.y.days d).2)]
theorem ykg{t:Twn}(hv:chkT t=0)(p r h w d:Int):(asks p r h w d).map (askT t)=wants t p r h w d:=
 congr (congrArg List.cons (xyj (xbk .fewest t [] hv)).symm) (congr (congrArg List.cons (xyj (xbk .cheap t [] hv)).symm) (congr (congrArg List.cons (xyj (xbk .deep t [p] hv)).symm) (congr (congrArg List.cons (xyj (xbk .next t [r] hv)).symm) (congr (congrArg List.cons (xyj (xbk .most t [] hv)).symm) (congr (congrArg List.cons (xi5 (xbk .lacks t [] hv)).symm) (congr (congrArg List.cons (xv3 (xbk .draws t [h] hv).1 (xbk .draws t [h] hv).2).symm) (congr (congrArg List.cons (xyj (xbk .dry t [w] hv)).symm) (congr (congrArg List.cons (xi5 (xbk .short t [] hv)).symm) (congr (congrArg List.cons (xyj (xbk .empty t [] hv)).symm) (congr (congrArg List.cons (xyj (xbk .least t [] hv)).symm) (congr (congrArg List.cons (xyj (xbk .ration t [] hv)).symm) (congr (congrArg List.cons (xyj (xbk .spare t [d] hv)).symm) (congr (congrArg List.cons (xv3 (xbk .level t [d] hv).1 (xbk .level t [d] hv).2).symm) rfl)))))))))))))
end Go.X.Ms
namespace Go.Proofs.YtjcakmlipohaeaaGreatDoor
open Go.Proofs.Tryz
open Go.X Go.X.Ms Go.Conc
open Go.X.Flow (ics)
theorem c63(md:Md)(h:Heap)(p:PHeap)(hp:Per p h)(e:Int)(s:Str):
 CallsX prog md 63 #[.int .i64 e,sv s] h fun v h'=>v=sv (ansS e s)/\Keep h h':=by
 refine xez hp func63 fun _ _ _ K=>?_
 unfold ansS at K
 refine cq (fun cc=>?_) (fun cc=>?_)
 ·rw[if_pos cc]at K
  refine ax ?_
  exact xqq func63 rfl rfl fun _ H_=>K _ _ ⟨rfl,H_.kept⟩
 rw[if_neg cc]at K
 refine cq (fun cd=>?_) (fun cd=>?_)
 ·rw[if_pos cd]at K
  refine ax ?_
  exact xqq func63 rfl rfl fun _ H_=>K _ _ ⟨rfl,H_.kept⟩
 rw[if_neg cd]at K
 refine ax ?_
 exact xqq func63 rfl rfl fun _ H_=>K _ _ ⟨rfl,H_.kept⟩
theorem c21(md:Md)(h:Heap)(p:PHeap)(hp:Per p h)(n e:Int):
 CallsX prog md 21 #[.int .i64 n,.int .i64 e] h fun v h'=>v=sv (numS n e)/\Keep h h':=by
 refine xez hp func21 fun _ _ _ K=>?_
 unfold numS at K
 refine cq (fun cc=>?_) (fun cc=>?_)
 ·rw[if_pos om]at K
  refine ax ?_
  exact xqq func21 rfl rfl fun _ H_=>K _ _ ⟨rfl,H_.kept⟩
 rw[if_neg om]at K
 refine ax ?_
 refine xlq rfl rfl (fun _ pe=>c16 _ _ _ pe n om) ?_
 refine ax ?_
 refine xlq rfl rfl (fun _ pe=>c63 _ _ _ pe e (txt n)) ?_
 refine ax ?_
 exact xqq func21 rfl rfl fun _ H_=>K _ _ ⟨rfl,H_.kept⟩
theorem xcl(n:Int):(numS n 0).length<=20:=by
 unfold numS
 split
 ·exact Nat.zero_le _
 ·show(txt n).length<=20
  exact xnk ⟨om,om⟩
theorem c27(md:Md)(h:Heap)(p:PHeap)(hp:Per p h)(a b e:Int):
 CallsX prog md 27 #[.agg #[.int .i64 a,.int .i64 b],.int .i64 e] h fun v h'=>v=sv (spanS a b e)/\Keep h h':=by
 have la:=xcl a
 have lb:=xcl b
 refine xfq hp func27 fun _ _ _ K=>?_
 refine xjq rfl fun b2=>?_
 refine ax ?_
 refine xjx [] R9 ?_
 refine ex ?_
 refine xiz rfl rfl rfl (fun _ pe=>c21 _ _ _ pe a 0) ?_
 refine ex ?_
 refine yuk (b:=wTo) rfl rfl rfl (by simp only[wTo,List.length_cons,List.length_nil];omega) ?_
 refine ex ?_
 refine xiz rfl rfl rfl (fun _ pe=>c21 _ _ _ pe b 0) ?_
 refine ex ?_
 refine yuk rfl rfl rfl (by simp only[wTo,List.length_append,List.length_cons,List.length_nil];omega) ?_
 refine ex ?_
 refine ax ?_
 refine xlq rfl rfl (fun _ pe=>c63 _ _ _ pe e _) ?_
 refine ax ?_
 exact K.r rfl rfl fun _ H_=>⟨rfl,H_.kept⟩
theorem xim(l:List Int):∀k,(listK l k).length<=21*k
 |0=>Nat.zero_le _
 |k+1=>by
   have:=xim l k
   have:=xcl (l.getD k 0)
   rw[listK]
   split<;>simp only[List.length_append,List.length_cons,List.length_nil]<;>omega
theorem c25(md:Md)(h:Heap)(p:PHeap)(hp:Per p h)(a:Option Addr)(n c:Nat)(l:List Int)(I:Ints p a n l)(e:Int)(hn:n<=2^30):
 CallsX prog md 25 #[.slice a n c,.int .i64 e] h fun v h'=>v=sv (listS l e)/\Keep h h':=by
 have hl:=I.len
 refine xez hp func25 fun _ _ _ K=>?_
 unfold listS at K
 rw[hl]at K
 refine cq (fun cc=>?_) (fun cc=>?_)
 ·rw[if_pos om]at K
  refine ax ?_
  exact xqq func25 rfl rfl fun _ H_=>K _ _ ⟨rfl,H_.kept⟩
 rw[if_neg om]at K
 refine ax ?_
 refine xbz (fun m_ l'=>∃j:Nat,m_=n-j/\l'=[(0,none,.slice a n c),(1,none,.int .i64 e),(5,none,sv (listK l j)),(6,none,.int .i64 ((j:Nat):Int))]/\j<=n) ⟨0,rfl,rfl,Nat.zero_le _⟩ sb ?_
 rintro _ _ IH ⟨j,rfl,rfl,hj⟩
 refine cq (fun cd=>?_) (fun cd=>?_)
 ·have hjl:j<n:=om
  have h1:=xim l j
  have h2:=xcl (l.getD j 0)
  refine ax ?_
  refine xgj (fun l' p_ L_=>l'=[(0,none,.slice a n c),(1,none,.int .i64 e),(5,none,sv (if 0<j then listK l j++[32]else listK l j)),(6,none,.int .i64 ((j:Nat):Int))]/\p_=p/\L_=[]) ?_ fun k' nx=>?_
  rotate_left
  ·refine xiq rfl (fun ce=>?_) (fun ce=>?_)
   ·refine ax ?_
    refine xeb rfl rfl (by simp only[List.length_cons,List.length_nil];omega) ?_
    refine ax ?_
    exact xih (nx _ _ _ ⟨rfl,rfl,rfl⟩) ⟨rfl,rfl,by rw[if_pos om];rfl,rfl,trivial⟩
   ·refine ax ?_
    exact xih (nx _ _ _ ⟨rfl,rfl,rfl⟩) ⟨rfl,rfl,by rw[if_neg om];rfl,rfl,trivial⟩
  rintro _ p _ ⟨rfl,rfl,rfl⟩
  refine ax ?_
  refine xlq rfl rfl (fun _ pe=>c21 _ _ _ pe (l.getD j 0) 0) ?_
  refine ax ?_
  have hb:(if 0<j then listK l j++[32]else listK l j).length<=21*j+1:=by
   split
   ·rw[List.length_append];exact Nat.add_le_add h1 (Nat.le_refl _)
   ·omega
  refine xeb rfl rfl om ?_
  rw[show(if 0<j then listK l j++[32]else listK l j)++numS (l.getD j 0) 0=listK l (j+1) by rw[listK];split<;>rfl]
  refine ax ?_
  exact xnq (IH _ om ⟨j+1,rfl,rfl,om⟩)
 obtain rfl:j=n:=om
 have h1:=xim l j
 refine ax ?_
 refine xgj (fun l' p_ L_=>l'=[(1,none,.int .i64 e),(5,none,sv (if listK l j=[]then [110,111,116,104,105,110,103]else listK l j))]/\p_=p/\L_=[]) ?_ fun k' nx=>?_
 rotate_left
 ·refine xiq rfl (fun ce=>?_) (fun ce=>?_)
  ·refine ax ?_
   exact xih (nx _ _ _ ⟨rfl,rfl,rfl⟩) ⟨rfl,by rw[if_pos ce];rfl,trivial⟩
  ·refine ax ?_
   exact xih (nx _ _ _ ⟨rfl,rfl,rfl⟩) ⟨rfl,by rw[if_neg ce];rfl,trivial⟩
 rintro _ p _ ⟨rfl,rfl,rfl⟩
 refine ax ?_
 refine xlq rfl rfl (fun _ pe=>c63 _ _ _ pe e _) ?_
 refine ax ?_
 exact xqq func25 rfl rfl fun _ H_=>K _ _ ⟨rfl,H_.kept⟩
theorem xl0{p:PHeap}{h₀ h:Heap}{B₀:List Nat}{L Y:Pcs}{v:Value}{l:List Int}{e:Int}{md:Md}(o:OwnS 3 1 v (ics l) Y)(s:St h₀ B₀ p h (Y++L))(hn:l.length<=2^30):
 CallsX prog md 25 #[v,.int .i64 e] h fun v' h'=>∃Z,(v'=sv (listS l e)/\Z=[])/\New h h' Z:=by
 obtain⟨p',⟨g',gl⟩,hy,s'⟩:=s.lastAll
 obtain⟨a,c,e',S⟩:=o.inP hy
 subst e'
 rw[xnx]at S⊢
 exact(c25 md h p' s'.per a l.length c l S e hn).mono fun v' h'⟨e,k⟩=>⟨[],⟨e,rfl⟩,New.of k⟩
end Go.Proofs.YtjcakmlipohaeaaGreatDoor
namespace Go.X.Ms
def keepL(ls:List Str)(j:Nat):List Str:=(ls.take j).map (wKeepZ++ ·)++ls.drop j
theorem xn5{ls:List Str}{j:Nat}(h:j<ls.length):(scs (keepL ls j))[j]?=some [sv (ls.getD j [])]:=by
 unfold scs keepL
 rw[List.getElem?_map,List.getElem?_append_right (by simp;omega),List.length_map,List.length_take,Nat.min_eq_left om,Nat.sub_self,List.getElem?_drop,List.getD_eq_getElem?_getD,Nat.add_zero,List.getElem?_eq_getElem h];rfl
theorem ysz{ls:List Str}{j:Nat}(h:j<ls.length):(scs (keepL ls j)).set j [sv (wKeepZ++ls.getD j [])]=scs (keepL ls (j+1)):=by
 have e:((ls.take j).map (wKeepZ++ ·)).length=j:=by simp;omega
 have z:(keepL ls j).set j (wKeepZ++ls.getD j [])=keepL ls (j+1):=by
  unfold keepL
  rw[List.set_append_right _ _ om,e,Nat.sub_self,List.take_add_one,List.getElem?_eq_getElem h,List.getD_eq_getElem?_getD,List.getElem?_eq_getElem h,List.drop_eq_getElem_cons h,List.map_append,List.append_assoc]
  rfl
 rw[<- z]
 unfold scs
 rw[List.map_set]
theorem ytz(ls:List Str)(j:Nat):(keepL ls j).length=ls.length:=by simp[keepL];omega
theorem yuz(ls:List Str):keepL ls ls.length=ls.map (wKeepZ++ ·):=by simp[keepL]
theorem ygn{p r h w d:Int}(H:sm6 [p,r,h,w,d]):∀s∈(asks p r h w d).map Ask.line,s.length<=893:=fun s hs=>by
 obtain⟨x,hx,rfl⟩:=List.mem_map.1 hs
 have hs:=(xf3 H x hx).2.2.1
 have hb:x.1.length<=6/\x.2.2.length<=1:=by
  simp only[asks,List.mem_cons,List.not_mem_nil,or_false]at hx
  rcases hx with rfl|rfl|rfl|rfl|rfl|rfl|rfl|rfl|rfl|rfl|rfl|rfl|rfl|rfl<;>exact⟨Nat.le_of_ble_eq_true rfl,Nat.le_of_ble_eq_true rfl⟩
 have:=xkc (w:=x.1) (l:=x.2.2) (fun i hi=>by
  have:=hs (x.2.2.getD i 0) (by rw[Flow.getD_at hi];exact List.getElem_mem _)
  unfold i64
  omega) x.2.2.length (Nat.le_refl _)
 unfold Ask.line
 omega
end Go.X.Ms
namespace Go.X
abbrev R95:List Nat:=[0,1,2,3,4,5,6,7,8,9,10,11,12,13,14,15,16,17,18,19,20,21,22,23,24,25,26,27,28,29,30,31,32,33,34,35,40,41,42,43,48,49,50,51,56,57,62,63,68,69,74,75,80,81,82,83,88,89,90,91,36,37,38,39,44,45,46,47,52,53,54,55,58,59,60,61,64,65,66,67,70,71,72,73,76,77,78,79,84,85,86,87,92,93,94]
end Go.X
namespace Go.Proofs.YtjcakmlipohaeaaGreatDoor
open Go.Proofs.Tryz
open Go.X Go.X.Ms Go.Conc
open Go.X.Flow (ics chkB LKc shortC shortE)
set_option maxHeartbeats 16000000 in
theorem ycs(h:Heap)(p:PHeap)(hp:Per p h)(A:TA)(t:Twn)(T:TwP p A t)(hn:t.fit 9223372036854775807)(g:GlP p)(k1 k2 k3 k4 k5:Int):EntersX prog (.main true) 4 #[twV A t,.agg #[.int .i64 k1,.int .i64 k2,.int .i64 k3,.int .i64 k4,.int .i64 k5]] h fun v h'=>v=.bool true/\Keep h h':=by
 refine xqs hp func4 ?_
 refine bq fun b2=>?_
 refine bq fun b3=>?_
 refine ax ?_
 refine xxl rfl rfl (fun h pe=>c18 _ h _ pe A t T hn) ?_
 rintro _ ⟨q,rfl,hq⟩
 refine ax ?_
 cases q with
 |false=>
   refine xkg undef rfl ?_
   refine ax ?_
   refine xkg (.bool true) rfl ?_
   refine ax ?_
   refine xiq rfl (fun _=>?_) (fun cc=>(cc (by simp)).elim)
   refine ax ?_
   refine xlq rfl rfl (fun _ pe=>c20 _ _ pe g) ?_
   refine ax ?_
   exact xww (by kernel_rfl) func4 rfl rfl fun _ H_=>⟨rfl,H_.kept⟩
 |true=>
 have hv:=hq rfl
 refine xwt rfl rfl ⟨rfl,rfl,rfl,rfl,rfl,trivial⟩ fun v1 Y1 o1=>?_
 have o1:OwnS 3 1 v1 (ics [k1,k2,k3,k4,k5]) Y1:=o1
 refine xbx o1 (m:=5) rfl (by decide) fun p1 a1 c1 g1 e1 _ S1=>?_
 subst e1
 refine ax ?_
 refine xvq rfl rfl rfl sdu (fun _ _ pe=>c19 _ _ _ pe a1 5 c1 [k1,k2,k3,k4,k5] S1 om) ?_
 refine cq (fun cc=>?_) (fun cc=>?_)
 ·refine ax ?_
  refine xlq rfl rfl (fun _ pe=>c20 _ _ pe (g.mono g1.le)) ?_
  refine ax ?_
  exact xww (by kernel_rfl) func4 rfl rfl fun _ H_=>⟨rfl,H_.kept⟩
 have hsm:sm6 [k1,k2,k3,k4,k5]:=fun x hx=>by
  simp at cc
  simp only[List.mem_cons,List.not_mem_nil,or_false]at hx
  rcases hx with rfl|rfl|rfl|rfl|rfl<;>omega
 clear cc o1
 have T:=T.mono g1.le
 have g:=g.mono g1.le
 have hf:=xcz hv
 obtain⟨⟨n1,n2⟩,⟨n3,n4,n5⟩,n6⟩:=hf
 obtain⟨ts,zs,hs⟩:=g.sn
 obtain⟨tb,zb,hb⟩:=g.bn
 obtain⟨td,zd,hd⟩:=g.db
 refine ax ?_
 refine xjx [36,39,58,61] R95 ?_
 refine ex ?_
 refine xiz rfl rfl rfl (fun _ pe=>c22 _ _ _ pe _ _ _ _ t.s T.s ⟨om,om⟩ zs hs) ?_
 refine ex ?_
 refine xiz rfl rfl rfl (fun _ pe=>c21 _ _ _ pe _ _) ?_
 refine ex ?_
 refine xiz rfl rfl rfl (fun _ pe=>c12 _ _ _ pe _ _ _ _ t.s T.s ⟨om,om⟩ zs hs) ?_
 refine ex ?_
 refine xiz rfl rfl rfl (fun _ pe=>c21 _ _ _ pe _ _) ?_
 refine ex ?_
 refine xiz rfl rfl rfl (fun _ pe=>c23 _ _ _ pe _ _ _ _ t.s T.s ⟨om,om⟩ T.c.1.2 zs hs k1) ?_
 refine ex ?_
 refine xiz rfl rfl rfl (fun _ pe=>c21 _ _ _ pe _ _) ?_
 refine ex ?_
 refine xiz rfl rfl rfl (fun _ pe=>c24 _ _ _ pe _ _ _ _ t.s T.s ⟨om,om⟩ T.c.1.2 zs hs k2) ?_
 refine ex ?_
 refine xiz rfl rfl rfl (fun _ pe=>c21 _ _ _ pe _ _) ?_
 refine ex ?_
 refine xiz rfl rfl rfl (fun _ pe=>c13 _ pe _ _ _ _ _ _ t.b T.b ⟨om,om,om⟩ hb) ?_
 refine ex ?_
 refine xiz rfl rfl rfl (fun _ pe=>c21 _ _ _ pe _ _) ?_
 refine ex ?_
 refine xqv rfl rfl rfl (fun _ pe=>c26 _ pe _ _ _ _ _ _ t.b T.b ⟨om,om,om⟩ hb) fun v5 Y5 o5=>?_
 obtain⟨w5,rfl,o5⟩:=o5
 refine ex ?_
 refine ytk (first:=[]) (cap:=[]) (vs:=[w5,.int .i64 (chkB t.b)]) (Q:=fun v Z=>v=sv (listS (LKc t.b) (chkB t.b))/\Z=[]) Y5 rfl rfl rfl (fun h L s=>xl0 o5 s (Nat.le_trans (xbk .lacks t [] hv).1 (by decide))) fun v Z e=>?_
 obtain⟨rfl,rfl⟩:=e
 refine ex ?_
 refine xiz rfl rfl rfl (fun _ pe=>c28 _ pe _ _ _ _ _ _ t.b T.b ⟨om,om,om⟩ k3) ?_
 refine ex ?_
 refine xiz rfl rfl rfl (fun _ pe=>c27 _ _ _ pe _ _ _) ?_
 refine ex ?_
 refine xiz rfl rfl rfl (fun _ pe=>c29 _ pe _ _ _ _ _ _ t.b T.b ⟨om,om,om⟩ k4) ?_
 refine ex ?_
 refine xiz rfl rfl rfl (fun _ pe=>c21 _ _ _ pe _ _) ?_
 refine ex ?_
 refine xqv rfl rfl rfl (fun _ pe=>c30 _ pe _ _ _ _ _ _ t.b T.b ⟨om,om,om⟩ hd) fun v8 Y8 o8=>?_
 obtain⟨w8,rfl,o8⟩:=o8
 refine ex ?_
 refine ytk (first:=[]) (cap:=[]) (vs:=[w8,.int .i64 (shortE t.b)]) (Q:=fun v Z=>v=sv (listS (shortC t.b) (shortE t.b))/\Z=[]) Y8 rfl rfl rfl (fun h L s=>xl0 o8 s (Nat.le_trans (xbk .short t [] hv).1 (by decide))) fun v Z e=>?_
 obtain⟨rfl,rfl⟩:=e
 refine ex ?_
 refine xiz rfl rfl rfl (fun _ pe=>c31 _ _ pe _ _ _ _ _ _ T.d om) ?_
 refine ex ?_
 refine xiz rfl rfl rfl (fun _ pe=>c21 _ _ _ pe _ _) ?_
 refine ex ?_
 refine xiz rfl rfl rfl (fun _ pe=>c14 _ _ _ pe _ _ _ _ _ _ T.d om) ?_
 refine ex ?_
 refine xiz rfl rfl rfl (fun _ pe=>c21 _ _ _ pe _ _) ?_
 refine ex ?_
 refine xiz rfl rfl rfl (fun _ pe=>c32 _ _ _ pe _ _ _ _ _ _ T.d om) ?_
 refine ex ?_
 refine xiz rfl rfl rfl (fun _ pe=>c21 _ _ _ pe _ _) ?_
 refine ex ?_
 refine xiz rfl rfl rfl (fun _ pe=>c33 _ _ _ pe _ _ _ _ _ _ T.d om k5) ?_
 refine ex ?_
 refine xiz rfl rfl rfl (fun _ pe=>c21 _ _ _ pe _ _) ?_
 refine ex ?_
 refine xiz rfl rfl rfl (fun _ pe=>c34 _ _ pe _ _ _ _ _ _ T.d om k5) ?_
 refine ex ?_
 refine xzd (l':=[(2,none,.pointer (some ⟨b2,0,none⟩)),(3,none,.pointer (some ⟨b3,0,none⟩)),(38,none,_),(44,none,_),(52,none,_),(60,none,_),(66,none,_),(72,none,_),(80,none,_),(88,none,_),(94,none,_),(100,none,_),(106,none,_),(112,none,_),(120,none,_),(126,none,_),(127,none,_)]) ?_ sb
 refine xlq rfl rfl (fun _ pe=>c27 _ _ _ pe _ _ _) ?_
 refine xdz (cells:=((wants t k1 k2 k3 k4 k5).map sv).toArray) rfl (fun v9 Y9 o9=>?_) (hf:=by kernel_rfl) (hc:=by kernel_rfl) (hw:=by kernel_rfl) (hn:=by kernel_rfl)
 have o9:OwnS 9 1 v9 (scs (wants t k1 k2 k3 k4 k5)) Y9:=o9.as (by kernel_rfl)
 rw[<- ykg hv]at o9
 refine xbx o9 (m:=14) rfl (by decide) fun p2 a2 c2 g2 e2 _ S2=>?_
 subst e2
 clear o9
 refine ax ?_
 refine xnq (l':=[(2,none,.pointer (some ⟨b2,0,none⟩)),(3,none,.pointer (some ⟨b3,0,none⟩)),(5,none,.slice a2 14 c2)]) (LL':=[[(b3,.cells #[.int .i64 k1,.int .i64 k2,.int .i64 k3,.int .i64 k4,.int .i64 k5] 53 (0,0))],[(b2,.cells (tcs A t).toArray 33 (0,0))]]) ?_
 have one:∀x,x∈[k1,k2,k3,k4,k5]->sm6 [x]:=fun x hx y hy=>by rw[List.mem_singleton.1 hy];exact hsm x hx
 refine xap 23 [22] [0,1,3,4,5,7,8,9,11,12,13,15,16,17,19,20,21] [2,3,6,7,10,11,14,15,18,19,22] (fun i=>match i with|3=>[2]|7=>[6]|11=>[10]|15=>[14]|19=>[18]|_=>[]) (fun i=>match i with|0|4|8|12|16|20=>[]|_=>[i-1])
  (fun i val _ v x=>match i with
   |0=>v=.pointer (some ⟨b3,0,none⟩)/\x=[]
   |1=>v=.int .i64 k1/\x=[]
   |2=>OwnS 3 1 v (ics [k1]) x
   |3=>v=sv (sayK [100,101,101,112] [k1] 1)/\x=[]
   |4=>v=.pointer (some ⟨b3,1,none⟩)/\x=[]
   |5=>v=.int .i64 k2/\x=[]
   |6=>OwnS 3 1 v (ics [k2]) x
   |7=>v=sv (sayK [110,101,120,116] [k2] 1)/\x=[]
   |8=>v=.pointer (some ⟨b3,2,none⟩)/\x=[]
   |9=>v=.int .i64 k3/\x=[]
   |10=>OwnS 3 1 v (ics [k3]) x
   |11=>v=sv (sayK [100,114,97,119,115] [k3] 1)/\x=[]
   |12=>v=.pointer (some ⟨b3,3,none⟩)/\x=[]
   |13=>v=.int .i64 k4/\x=[]
   |14=>OwnS 3 1 v (ics [k4]) x
   |15=>v=sv (sayK [100,114,121] [k4] 1)/\x=[]
   |16=>v=.pointer (some ⟨b3,4,none⟩)/\x=[]
   |17=>v=.int .i64 k5/\x=[]
   |18=>OwnS 3 1 v (ics [k5]) x
   |19=>v=sv (sayK [115,112,97,114,101] [k5] 1)/\x=[]
   |20=>v=.pointer (some ⟨b3,4,none⟩)/\x=[]
   |21=>v=.int .i64 k5/\x=[]
   |22=>OwnS 3 1 v (ics [k5]) x
   |_=>True) (fun i hi val piece hq=>?_) (fun val piece j hj v x q=>?_) (fun val piece hq=>?_)
 ·match i,hi with
  |0,_=>
   refine ex ?_
   exact xmx ⟨⟨_,rfl⟩,fun v e=>⟨xrq e,rfl⟩⟩
  |1,_=>
   refine xwc (b:=b3) (off:=0) rfl rfl (by show some (([]:List Prop),val 0)=_;rw[(hq 0 rfl).1]) sdt ?_
   exact xmx ⟨⟨_,rfl⟩,fun v e=>⟨xrq e,rfl⟩⟩
  |2,_=>
   refine xjb (vs:=[(0,.int .i64 k1)]) rfl (by show some [(0,val 1)]=_;rw[(hq 1 rfl).1]) fun v Y(o:OwnS 3 1 v (ics [k1]) Y)=>?_
   exact xmx ⟨⟨_,rfl⟩,fun v' e=>by
    have e':=xrq e
    subst e'
    show OwnS _ _ _ _ (Y++[])
    rw[List.append_nil];exact o⟩
  |3,_=>
   show DE _ _ _ _ _ _ _ _ _ [piece 2]
   refine xbg (first:=[]) (cap:=[]) (vs:=[sv [100,101,101,112],val 2]) (Q:=fun v Z=>v=sv (sayK [100,101,101,112] [k1] 1)/\Z=[]) (piece 2) rfl rfl rfl (fun h L s=>xjc (hq 2 rfl) rfl s (by decide) (by decide) (one _ (by simp))) fun v Z e=>?_
   obtain⟨rfl,rfl⟩:=e
   exact xmx ⟨⟨_,rfl⟩,fun v' e=>⟨xrq e,rfl⟩⟩
  |4,_=>
   refine ex ?_
   exact xmx ⟨⟨_,rfl⟩,fun v e=>⟨xrq e,rfl⟩⟩
  |5,_=>
   refine xwc (b:=b3) (off:=1) rfl rfl (by show some (([]:List Prop),val 4)=_;rw[(hq 4 rfl).1]) sdt ?_
   exact xmx ⟨⟨_,rfl⟩,fun v e=>⟨xrq e,rfl⟩⟩
  |6,_=>
   refine xjb (vs:=[(0,.int .i64 k2)]) rfl (by show some [(0,val 5)]=_;rw[(hq 5 rfl).1]) fun v Y(o:OwnS 3 1 v (ics [k2]) Y)=>?_
   exact xmx ⟨⟨_,rfl⟩,fun v' e=>by
    have e':=xrq e
    subst e'
    show OwnS _ _ _ _ (Y++[])
    rw[List.append_nil];exact o⟩
  |7,_=>
   show DE _ _ _ _ _ _ _ _ _ [piece 6]
   refine xbg (first:=[]) (cap:=[]) (vs:=[sv [110,101,120,116],val 6]) (Q:=fun v Z=>v=sv (sayK [110,101,120,116] [k2] 1)/\Z=[]) (piece 6) rfl rfl rfl (fun h L s=>xjc (hq 6 rfl) rfl s (by decide) (by decide) (one _ (by simp))) fun v Z e=>?_
   obtain⟨rfl,rfl⟩:=e
   exact xmx ⟨⟨_,rfl⟩,fun v' e=>⟨xrq e,rfl⟩⟩
  |8,_=>
   refine ex ?_
   exact xmx ⟨⟨_,rfl⟩,fun v e=>⟨xrq e,rfl⟩⟩
  |9,_=>
   refine xwc (b:=b3) (off:=2) rfl rfl (by show some (([]:List Prop),val 8)=_;rw[(hq 8 rfl).1]) sdt ?_
   exact xmx ⟨⟨_,rfl⟩,fun v e=>⟨xrq e,rfl⟩⟩
  |10,_=>
   refine xjb (vs:=[(0,.int .i64 k3)]) rfl (by show some [(0,val 9)]=_;rw[(hq 9 rfl).1]) fun v Y(o:OwnS 3 1 v (ics [k3]) Y)=>?_
   exact xmx ⟨⟨_,rfl⟩,fun v' e=>by
    have e':=xrq e
    subst e'
    show OwnS _ _ _ _ (Y++[])
    rw[List.append_nil];exact o⟩
  |11,_=>
   show DE _ _ _ _ _ _ _ _ _ [piece 10]
   refine xbg (first:=[]) (cap:=[]) (vs:=[sv [100,114,97,119,115],val 10]) (Q:=fun v Z=>v=sv (sayK [100,114,97,119,115] [k3] 1)/\Z=[]) (piece 10) rfl rfl rfl (fun h L s=>xjc (hq 10 rfl) rfl s (by decide) (by decide) (one _ (by simp))) fun v Z e=>?_
   obtain⟨rfl,rfl⟩:=e
   exact xmx ⟨⟨_,rfl⟩,fun v' e=>⟨xrq e,rfl⟩⟩
  |12,_=>
   refine ex ?_
   exact xmx ⟨⟨_,rfl⟩,fun v e=>⟨xrq e,rfl⟩⟩
  |13,_=>
   refine xwc (b:=b3) (off:=3) rfl rfl (by show some (([]:List Prop),val 12)=_;rw[(hq 12 rfl).1]) sdt ?_
   exact xmx ⟨⟨_,rfl⟩,fun v e=>⟨xrq e,rfl⟩⟩
  |14,_=>
   refine xjb (vs:=[(0,.int .i64 k4)]) rfl (by show some [(0,val 13)]=_;rw[(hq 13 rfl).1]) fun v Y(o:OwnS 3 1 v (ics [k4]) Y)=>?_
   exact xmx ⟨⟨_,rfl⟩,fun v' e=>by
    have e':=xrq e
    subst e'
    show OwnS _ _ _ _ (Y++[])
    rw[List.append_nil];exact o⟩
  |15,_=>
   show DE _ _ _ _ _ _ _ _ _ [piece 14]
   refine xbg (first:=[]) (cap:=[]) (vs:=[sv [100,114,121],val 14]) (Q:=fun v Z=>v=sv (sayK [100,114,121] [k4] 1)/\Z=[]) (piece 14) rfl rfl rfl (fun h L s=>xjc (hq 14 rfl) rfl s (by decide) (by decide) (one _ (by simp))) fun v Z e=>?_
   obtain⟨rfl,rfl⟩:=e
   exact xmx ⟨⟨_,rfl⟩,fun v' e=>⟨xrq e,rfl⟩⟩
  |16,_=>
   refine ex ?_
   exact xmx ⟨⟨_,rfl⟩,fun v e=>⟨xrq e,rfl⟩⟩
  |17,_=>
   refine xwc (b:=b3) (off:=4) rfl rfl (by show some (([]:List Prop),val 16)=_;rw[(hq 16 rfl).1]) sdt ?_
   exact xmx ⟨⟨_,rfl⟩,fun v e=>⟨xrq e,rfl⟩⟩
  |18,_=>
   refine xjb (vs:=[(0,.int .i64 k5)]) rfl (by show some [(0,val 17)]=_;rw[(hq 17 rfl).1]) fun v Y(o:OwnS 3 1 v (ics [k5]) Y)=>?_
   exact xmx ⟨⟨_,rfl⟩,fun v' e=>by
    have e':=xrq e
    subst e'
    show OwnS _ _ _ _ (Y++[])
    rw[List.append_nil];exact o⟩
  |19,_=>
   show DE _ _ _ _ _ _ _ _ _ [piece 18]
   refine xbg (first:=[]) (cap:=[]) (vs:=[sv [115,112,97,114,101],val 18]) (Q:=fun v Z=>v=sv (sayK [115,112,97,114,101] [k5] 1)/\Z=[]) (piece 18) rfl rfl rfl (fun h L s=>xjc (hq 18 rfl) rfl s (by decide) (by decide) (one _ (by simp))) fun v Z e=>?_
   obtain⟨rfl,rfl⟩:=e
   exact xmx ⟨⟨_,rfl⟩,fun v' e=>⟨xrq e,rfl⟩⟩
  |20,_=>
   refine ex ?_
   exact xmx ⟨⟨_,rfl⟩,fun v e=>⟨xrq e,rfl⟩⟩
  |21,_=>
   refine xwc (b:=b3) (off:=4) rfl rfl (by show some (([]:List Prop),val 20)=_;rw[(hq 20 rfl).1]) sdt ?_
   exact xmx ⟨⟨_,rfl⟩,fun v e=>⟨xrq e,rfl⟩⟩
  |22,_=>
   refine xjb (vs:=[(0,.int .i64 k5)]) rfl (by show some [(0,val 21)]=_;rw[(hq 21 rfl).1]) fun v Y(o:OwnS 3 1 v (ics [k5]) Y)=>?_
   exact xmx ⟨⟨_,rfl⟩,fun v' e=>by
    have e':=xrq e
    subst e'
    show OwnS _ _ _ _ (Y++[])
    rw[List.append_nil];exact o⟩
  |n+23,h=>exact absurd h om
 ·simp only[List.mem_cons,List.not_mem_nil,or_false]at hj
  rcases hj with rfl|rfl|rfl|rfl|rfl|rfl|rfl|rfl|rfl|rfl|rfl|rfl|rfl|rfl|rfl|rfl|rfl<;>exact q.2
 refine xzd (l':=[(2,none,.pointer (some ⟨b2,0,none⟩)),(5,none,.slice a2 14 c2),(133,none,sv (sayK [100,101,101,112] [k1] 1)),(137,none,sv (sayK [110,101,120,116] [k2] 1)),(141,none,sv (sayK [100,114,97,119,115] [k3] 1)),(145,none,sv (sayK [100,114,121] [k4] 1)),(149,none,sv (sayK [115,112,97,114,101] [k5] 1)),(152,none,val 22)]) ?_ ⟨rfl,rfl,by show some (none,val 3)=_;rw[(hq 3 (by decide)).1],by show some (none,val 7)=_;rw[(hq 7 (by decide)).1],by show some (none,val 11)=_;rw[(hq 11 (by decide)).1],by show some (none,val 15)=_;rw[(hq 15 (by decide)).1],by show some (none,val 19)=_;rw[(hq 19 (by decide)).1],rfl,trivial⟩
 have o7:OwnS 3 1 (val 22) (ics [k5]) (piece 22):=hq 22 (by decide)
 show RO _ _ _ _ _ _ [piece 22,[(b3,_)],[(b2,_)]]
 generalize val 22=v7 at*
 generalize piece 22=Y7 at*
 clear hq
 refine xwl rfl rfl (fun h s=>xjc (n:=1) o7 rfl s (by decide) (by decide) (one _ (by simp))) fun v8 Y8 q8=>?_
 obtain⟨rfl,rfl⟩:=q8
 refine xdz (cells:=(((asks k1 k2 k3 k4 k5).map Go.X.Ms.Ask.line).map sv).toArray) rfl (fun v6 Y6 o6=>?_) (hf:=by kernel_rfl) (hc:=by kernel_rfl) (hw:=by kernel_rfl) (hn:=by kernel_rfl)
 have o6:OwnS 9 1 v6 (scs ((asks k1 k2 k3 k4 k5).map Go.X.Ms.Ask.line)) Y6:=o6.as (by kernel_rfl)
 have hlm:∀s∈(asks k1 k2 k3 k4 k5).map Go.X.Ms.Ask.line,s.length<=893:=ygn hsm
 have hr:=yqd hv hsm
 have hr2:=yrz hv hsm
 have hl14:((asks k1 k2 k3 k4 k5).map Go.X.Ms.Ask.line).length=14:=rfl
 have ek:((asks k1 k2 k3 k4 k5).map fun x=>wKeepZ++x.line)=((asks k1 k2 k3 k4 k5).map Go.X.Ms.Ask.line).map (wKeepZ++ ·):=by rw[List.map_map];rfl
 rw[ek]at hr2
 generalize (asks k1 k2 k3 k4 k5).map Go.X.Ms.Ask.line=ls at*
 have hw14:((asks k1 k2 k3 k4 k5).map (askT t)).length=14:=rfl
 generalize (asks k1 k2 k3 k4 k5).map (askT t)=ws at*
 have T2:=T.mono g2.le
 have G2:=g.mono g2.le
 refine ax ?_
 refine xwl rfl rfl (fun h s=>yhw o6 s T2 G2 (fun s hs=>by have:=hlm s hs;omega) hv om) fun v10 Z10 q10=>?_
 obtain⟨a4,c4,A4,rfl,hc4,hl⟩:=q10
 rw[hl14]at hc4 hl⊢
 rw[hr]at hl⊢
 refine xkr Z10 fun p3 g3 hy=>?_
 obtain⟨S3,T3⟩:=hl p3 g3.le hy
 clear hl hy hr
 refine lq fun b8=>?_
 refine ax ?_
 refine xpq (fun m_ l p_ L_=>∃(j:Nat)(Y:Pcs)(ob:Obj),m_=14-j/\l=[(2,none,.pointer (some ⟨b2,0,none⟩)),(5,none,.slice a2 14 c2),(6,none,v6),(7,none,.slice a4 14 c4),(8,none,.pointer (some ⟨b8,0,none⟩)),(9,none,.bool true),(10,none,.int .i64 ((j:Nat):Int))]/\p_=p3/\
  L_=[[(b8,.cells (tcs A4 t).toArray 33 (0,0))],Y,[],Y7,[(b3,ob)],[(b2,.cells (tcs A t).toArray 33 (0,0))]]/\j<=14/\OwnS 9 1 v6 (scs (keepL ls j)) Y) ⟨0,_,_,rfl,rfl,rfl,rfl,Nat.zero_le _,o6⟩ sb ?_
 clear o6
 rintro _ _ p3 _ IH ⟨j,Y,ob,rfl,rfl,rfl,rfl,hj,o⟩
 have hlen:(scs (keepL ls j)).length=14:=by rw[xuq,ytz,hl14]
 refine ax ?_
 refine xul rfl rfl sdt o hlen ?_
 refine cq (fun cd=>?_) (fun cd=>?_)
 ·have hj':j<ls.length:=om
  have hlj:=hlm (ls.getD j []) (by rw[Flow.getD_at hj'];exact List.getElem_mem _)
  refine ax ?_
  refine xuk rfl rfl o (i:=j) om ?_
  refine xgh rfl o xox (xn5 hj') rfl ?_
  refine xeb (a:=wKeepZ) rfl rfl (by have:wKeepZ.length=7:=rfl;omega) ?_
  refine xuk rfl rfl o (i:=j) om ?_
  refine xjv (j:=0) rfl rfl o xox rfl rfl rfl (xn5 hj') (Nat.le_refl _) fun Y2 o2=>?_
  have o2:=o2.as (ysz hj')
  refine ax ?_
  exact xnq (IH _ _ _ om ⟨j+1,Y2,ob,rfl,rfl,rfl,rfl,om,o2⟩)
 obtain rfl:j=14:=om
 clear IH
 rw[<- hl14,yuz]at o
 have T3:TwP p3 A4 t:=T3
 have S3:Strs p3 a4 14 ws:=S3
 refine ax ?_
 refine xbx o (m:=14) (by rw[xuq,List.length_map,hl14]) (by decide) fun p4 a5 c5 g4 e4 hc5 S5=>?_
 subst e4
 refine xrz rfl rfl (fun h pe=>by
  have c:=c36 h _ pe A t (T2.mono (g3.trans g4).le) (G2.mono (g3.trans g4).le) a5 c5 (ls.map (wKeepZ++ ·)) (by rw[List.length_map,hl14];exact S5) (fun s hs=>by
   obtain⟨x,hx,rfl⟩:=List.mem_map.1 hs
   have:=hlm x hx
   have h7:wKeepZ.length=7:=rfl
   rw[List.length_append];omega) hv (by rw[List.length_map];omega)
  unfold runV at c
  rw[List.length_map,hl14,hr2]at c
  exact c) ?_
 rintro _ p5 g5 ⟨a6,c6,A6,rfl,hc6,S6,T6⟩
 have T6:TwP p5 A6 t:=T6
 have S6:Strs p5 a6 14 ws:=S6
 have Tt:=T2.mono ((g3.trans g4).trans g5).le
 have S2:=Sl.mono ((g3.trans g4).trans g5).le S2
 have hfit:t.fit (2^20):=(xcz hv).up om
 refine lq fun b12=>?_
 refine ax ?_
 refine xvq rfl rfl rfl sdu (fun _ _ pe=>c11 _ _ _ pe A4 A t (T3.mono (g4.trans g5).le) Tt hfit) ?_
 refine ax ?_
 refine xvq rfl rfl rfl sdu (fun _ _ pe=>c11 _ _ _ pe A6 A t T6 Tt hfit) ?_
 refine ax ?_
 refine xvq rfl rfl rfl sdu (fun _ _ pe=>c37 _ _ _ pe _ _ _ _ _ _ ws ws (Strs.mono (g4.trans g5).le S3) S2 ⟨by decide,by decide⟩) ?_
 refine ax ?_
 refine xvq rfl rfl rfl sdu (fun _ _ pe=>c37 _ _ _ pe _ _ _ _ _ _ ws ws S6 S2 ⟨by decide,by decide⟩) ?_
 refine ax ?_
 refine xvq rfl rfl rfl sdu (fun _ _ pe=>c20 _ _ pe (G2.mono ((g3.trans g4).trans g5).le)) ?_
 refine ax ?_
 exact xww (by kernel_rfl) func4 rfl rfl fun _ H_=>⟨by simp,H_.kept⟩
end Go.Proofs.YtjcakmlipohaeaaGreatDoor
