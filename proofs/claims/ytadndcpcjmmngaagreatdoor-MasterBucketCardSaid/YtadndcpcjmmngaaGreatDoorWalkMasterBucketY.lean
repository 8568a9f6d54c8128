/-
  Part of proofs about a town's master: a calculus for Bj beside goroutines that are only leaving, and the Bj. No condition.
-/
import Derived.Test.YtadndcpcjmmngaaGreatDoorYR
set_option maxHeartbeats 1600000
set_option maxRecDepth 20000
set_option synthInstance.maxSize 2000
namespace Go.X.Ms
variable{d:Dsk}{h p w:Int}{l:List Int}{t:Twn}
def ansS(e:Int)(s:Str):Str:=if e=3 then D9 else if e≠0 then Gk else s
abbrev Ask:=Str×Qn×List Int
variable{x:Ask}
noncomputable def askT(t:Twn)(x:Ask):Str:=ansS (By x.2.1 t x.2.2).2 (By x.2.1 t x.2.2).1.text
def Ask.ok(x:Ask):Prop:=(32:UInt8)∉x.1/\x.1≠Cl/\sm6 x.2.2/\qn (x.1++txt x.2.2.length)=some x.2.1
def Ask.line(x:Ask):Str:=sayK x.1 x.2.2 x.2.2.length
def wKeepZ:Str:=[107,101,101,112,32,122,32]
theorem xk7(d:Dsk)(q:Qn)(a:List Int)(l:Str):(De d q a l).2=ansS (By q d.now.t a).2 (By q d.now.t a).1.text:=by
 unfold De ansS;split
 ·rfl
 ·split<;>rfl
theorem yqv(d:Dsk)(q:Qn)(a:List Int):(De d q a []).1=d:=by
 unfold De;split
 ·rfl
 ·split
  ·rfl
  ·rfl
theorem xdn(h:x.ok):doD d x.line=(d,askT d.now.t x):=by
 obtain⟨O,V,M,H⟩:=h;have e:=ylt (d:=d) O V M H;unfold Ask.line;rw[e];exact Prod.ext (yqv d _ _) (xk7 d _ _ _)
theorem yrd(h:x.ok):doD d (wKeepZ++x.line)=De d x.2.1 x.2.2 [122]:=by
 obtain⟨O,V,H,M⟩:=h;have hs:Ad (wKeepZ++x.line)=Cl::[122]::x.1::x.2.2.map txt:=by
  rw[show wKeepZ++x.line=Cl++32::([122]++32::x.line) from rfl,xyb _ d_,xyb _ d_];unfold Ask.line;rw[xzf O _ (Nat.le_refl _),List.take_length]
 rw[xps hs d_];exact xtk (by rw[List.length_map];exact M) (xhn H) (xdd H)
theorem xm4:∀{xs:List Ask}(d:Dsk),(∀x∈xs,x.ok)->Bw d (xs.map Ask.line)=(d,xs.map (askT d.now.t))
 |[],_,_=>rfl
 |x::xs,d,h=>by rw[List.map_cons,Bw,xdn (h x s_),xm4 d fun y H=>h y (List.mem_cons_of_mem _ H)];rfl
theorem xst:∀{xs:List Ask}(d:Dsk),(∀x∈xs,x.ok)->(Bw d (xs.map fun x=>wKeepZ++x.line)).2=xs.map (askT d.now.t)/\(Bw d (xs.map fun x=>wKeepZ++x.line)).1.now.t=d.now.t
 |[],_,_=>⟨rfl,rfl⟩
 |x::xs,d,h=>by
   have O:=(xub d x.2.1 x.2.2 [122]).1;have H:=xst (De d x.2.1 x.2.2 [122]).1 fun y M=>h y (List.mem_cons_of_mem _ M);rw[O]at H;rw[List.map_cons,Bw,yrd (h x s_)];exact⟨by rw[H.1,xk7];rfl,H.2⟩
def asks(p r h w d:Int):List Ask:=
 [([102,101,119,101,115,116],.fewest,[]),([99,104,101,97,112],.cheap,[]),([100,101,101,112],.deep,[p]),([110,101,120,116],.next,[r]),([109,111,115,116],.Ea,[]),([108,97,99,107,115],.Ca,[]),
  ([100,114,97,119,115],.draws,[h]),([100,114,121],.dry,[w]),([115,104,111,114,116],.short,[]),([101,109,112,116,121],.empty,[]),([108,101,97,115,116],.least,[]),([114,97,116,105,111,110],.ration,[]),
  ([115,112,97,114,101],.spare,[d]),([108,101,118,101,108],.level,[d])]
theorem ypv{r d:Int}(H:sm6 [p,r,h,w,d]):∀x∈asks p r h w d,x.ok:=by
 have one:∀{n:Int},n∈[p,r,h,w,d]->sm6 [n]:=fun hn x M=>by rw[List.mem_singleton.1 M];exact H _ hn
 have nil:sm6 []:=fun x M=>by cases M
 have ok:∀(u:Str)(q:Qn)(l:List Int),(32:UInt8)∉u->u≠Cl->l.length<10->qn (u++[UInt8.ofNat (48+l.length)])=some q->sm6 l->Ask.ok (u,q,l):=fun u q l h1 h2 O V h3=>⟨h1,h2,h3,by rw[xcj O];exact V⟩
 intro x M;simp only[asks,List.mem_cons,List.not_mem_nil,or_false]at M;rcases M with rfl|rfl|rfl|rfl|rfl|rfl|rfl|rfl|rfl|rfl|rfl|rfl|rfl|rfl
 all_goals (refine ok _ _ _ d_ d_ (Nat.le_of_ble_eq_true rfl) rfl ?_)
 all_goals first|exact nil|exact one s_
theorem yo1(hv:Bp t=0){r d:Int}(H:sm6 [p,r,h,w,d]):E0 t ((asks p r h w d).map Ask.line)=((asks p r h w d).map (askT t),t):=by
 rw[xkb hv (by simp[asks]),xm4 _ (ypv H)];rfl
theorem yus(hv:Bp t=0){r d:Int}(H:sm6 [p,r,h,w,d]):E0 t ((asks p r h w d).map fun x=>wKeepZ++x.line)=((asks p r h w d).map (askT t),t):=by
 have e:=xst (Ah t) (ypv H);rw[xkb hv (by simp[asks])];exact Prod.ext e.1 e.2
def numS(n e:Int):Str:=if n< -1000000000\/n>1000000000 then []else ansS e (txt n)
theorem xgk{n e:Int}(h:m6 n):numS n e=ansS e (txt n):=by unfold numS;rw[if_neg om]
def wTo:Str:=[32,116,111,32]
def spanS(a b e:Int):Str:=ansS e ((numS a 0++wTo)++numS b 0)
theorem xh4{a b e:Int}(M:m6 a)(H:m6 b):spanS a b e=ansS e (Rs.spn a b).text:=by
 unfold spanS;rw[xgk M,xgk H];show ansS e ((txt a++wTo)++txt b)=ansS e (txt a++([32,116,111,32]++txt b));rw[List.append_assoc];rfl
def listK(l:List Int):Nat->Str
 |0=>[]
 |k+1=>if 0<k then(listK l k++[32])++numS (l.getD k 0) 0 else listK l k++numS (l.getD k 0) 0
def listS(l:List Int)(e:Int):Str:=if 60<l.length then []else ansS e (if listK l l.length=[]then [110,111,116,104,105,110,103]else listK l l.length)
theorem xx5{x:Int}{l:List Int}(h:∀y∈x::l,m6 y):∀k,k<=l.length->listK (x::l) (k+1)=txt x++Fw (l.take k)
 |0,_=>by rw[listK,if_neg om,listK];show []++numS x 0=_;rw[xgk (h x s_)];show []++txt x=txt x++[];simp
 |k+1,hk=>by
   have M:∀(u:List Int)(y:Int),Fw (u++[y])=Fw u++32::txt y:=fun u y=>by
    induction u with
    |nil=>show 32::(txt y++[])=_;simp[Fw]
    |cons a u ih=>rw[List.cons_append,Fw,ih,Fw];simp
   have H:(x::l).getD (k+1) 0=l[k]:=by rw[List.getD_cons_succ,List.getD_eq_getElem?_getD,List.getElem?_eq_getElem om];rfl
   rw[listK,if_pos om,xx5 h k om,H,xgk (h _ (List.mem_cons_of_mem _ (List.getElem_mem _))),List.take_add_one,List.getElem?_eq_getElem om];show _=txt x++Fw (l.take k++[l[k]]);rw[M];show((txt x++Fw (l.take k))++[32])++txt l[k]=_;simp
theorem xw5{e:Int}(h:(Rs.lst l).m6):listS l e=ansS e (Rs.lst l).text:=by
 obtain⟨h1,h2⟩:=h;unfold listS;rw[if_neg om];cases l with
 |nil=>rfl
 |cons x l=>
   have V:∀y∈x::l,m6 y:=fun y O=>by
    obtain⟨i,hi,e⟩:=List.mem_iff_getElem.1 O;have:=h2 i hi;rw[Flow.A8 hi,e]at this;exact this
   have M:=xx5 V l.length (Nat.le_refl _);rw[List.take_length]at M;rw[List.length_cons,M];have H:txt x++Fw l≠[]:=fun e=>by
    have:=xw1 x;have z:=(List.append_eq_nil_iff.1 e).1;rw[z]at this;simp at this
   rw[if_neg H];rfl
noncomputable def wants(t:Twn)(p r h w d:Int):List Str:=[numS (Ef t.s) (B7 ltF t.s),numS (Cg t.s) (B7 ltC t.s),numS (Hb t.s p) (Ko t.s p),numS (Gg t.s r) (E4 t.s r),numS (Flow.Cc t.b) (Flow.C6 t.b),listS (Flow.LKc t.b) (Flow.C6 t.b),spanS (Flow.C2 t.b h (-1)) (Flow.C2 t.b h 1) (Flow.Ht t.b (decide (0<=h/\h<=(t.b.nH:Int)-1))),numS (Flow.Ls t.b w) (Flow.Ht t.b (decide (0<=w/\w<=(t.b.nW:Int)-1))),listS (Flow.Fg t.b) (Flow.Ev t.b),numS ((Cist.Gp t.y.size t.y.start t.y.days).1) ((Cist.Gp t.y.size t.y.start t.y.days).2),numS ((Cist.Av t.y.size t.y.start t.y.days).1) ((Cist.Av t.y.size t.y.start t.y.days).2),numS (if Cist.Ok t.y.size t.y.start t.y.days then Cist.Bi t.y.size t.y.start t.y.days 20 else 0) (Cist.chk t.y.size t.y.start t.y.days),numS ((Cist.Cn t.y.size t.y.start t.y.days d).1) ((Cist.Cn t.y.size t.y.start t.y.days d).2),spanS ((Cist.Hh t.y.size t.y.start t.y.days d).1.1) ((Cist.Hh t.y.size t.y.start t.y.days d).1.2) ((Cist.Hh t.y.size t.y.start t.y.days d).2)]
theorem yb2(hv:Bp t=0)(p r h w d:Int):(asks p r h w d).map (askT t)=wants t p r h w d:=
 congr (congrArg List.cons (xgk (xyk .fewest t [] hv)).symm) (congr (congrArg List.cons (xgk (xyk .cheap t [] hv)).symm) (congr (congrArg List.cons (xgk (xyk .deep t [p] hv)).symm) (congr (congrArg List.cons (xgk (xyk .next t [r] hv)).symm) (congr (congrArg List.cons (xgk (xyk .Ea t [] hv)).symm) (congr (congrArg List.cons (xw5 (xyk .Ca t [] hv)).symm) (congr (congrArg List.cons (xh4 (xyk .draws t [h] hv).1 (xyk .draws t [h] hv).2).symm) (congr (congrArg List.cons (xgk (xyk .dry t [w] hv)).symm) (congr (congrArg List.cons (xw5 (xyk .short t [] hv)).symm) (congr (congrArg List.cons (xgk (xyk .empty t [] hv)).symm) (congr (congrArg List.cons (xgk (xyk .least t [] hv)).symm) (congr (congrArg List.cons (xgk (xyk .ration t [] hv)).symm) (congr (congrArg List.cons (xgk (xyk .spare t [d] hv)).symm) (congr (congrArg List.cons (xh4 (xyk .level t [d] hv).1 (xyk .level t [d] hv).2).symm) rfl)))))))))))))
end Go.X.Ms
namespace Go.X.Flow
variable{w x:Nat}{t:Tn}
theorem yz2(h:C6 t=0):t.m<=12/\Vd t:=Em h
theorem ypf{u:Tn}(M:u.nH=t.nH)(O:u.nW=t.nW)(H:u.wy=t.wy)(i:Nat)(h:YOk t i):YOk u i:=by
 unfold YOk at h⊢;rw[M,O,H];exact h
theorem chkB_well(h:C6 t=0)(hw:w<t.nW)(n:Int):C6 ⟨t.hs,t.ws.set w n,t.wy⟩=0<->0<=n/\n<=20:=by
 obtain⟨O,v⟩:=Em h;have e:(⟨t.hs,t.ws.set w n,t.wy⟩:Tn).nW=t.nW:=List.length_set ..;have H:∀j,(t.ws.set w n).getD j 0=if w=j then n else t.ws.getD j 0:=fun j=>getD_set hw
 constructor
 ·intro V;obtain⟨_,v'⟩:=Em V;have:=v'.w w (by rw[e];exact hw);rw[show(⟨t.hs,t.ws.set w n,t.wy⟩:Tn).ws=t.ws.set w n from rfl,H,if_pos rfl]at this;exact this
 ·intro hn;refine Cf O ⟨v.nh,by rw[e];exact v.nw,v.h,fun j M=>?_,fun i hi=>ypf (t:=t) (u:=⟨t.hs,t.ws.set w n,t.wy⟩) rfl e rfl i (v.y i hi)⟩;rw[show(⟨t.hs,t.ws.set w n,t.wy⟩:Tn).ws=t.ws.set w n from rfl,H];split
  ·exact hn
  ·exact v.w j (by rw[e]at M;exact M)
theorem chkB_house(h:C6 t=0)(O:x<t.nH):C6 ⟨t.hs.set x 0,t.ws,t.wy⟩=0:=by
 obtain⟨M,v⟩:=Em h;have e:(⟨t.hs.set x 0,t.ws,t.wy⟩:Tn).nH=t.nH:=List.length_set ..;have V:∀j,(t.hs.set x 0).getD j 0=if x=j then 0 else t.hs.getD j 0:=fun j=>getD_set O
 refine Cf M ⟨by rw[e];exact v.nh,v.nw,fun j H=>?_,v.w,fun i hi=>ypf (t:=t) (u:=⟨t.hs.set x 0,t.ws,t.wy⟩) e rfl rfl i (v.y i hi)⟩;rw[show(⟨t.hs.set x 0,t.ws,t.wy⟩:Tn).hs=t.hs.set x 0 from rfl,V];split
 ·exact⟨d_,d_⟩
 ·exact v.h j (by rw[e]at H;exact H)
theorem most_more(h:C6 t=0)(hw:w<t.nW)(hn:t.wv w+1<=20):Cc t<=Cc ⟨t.hs,t.ws.set w (t.wv w+1),t.wy⟩/\Cc ⟨t.hs,t.ws.set w (t.wv w+1),t.wy⟩<=Cc t+1:=by
 obtain⟨V,v⟩:=Em h;have O:=v.ok (show t.m<=13 by omega);have hv:=v.w w hw;have hc:=(chkB_well h hw (t.wv w+1)).2 ⟨by unfold Tn.wv at hn⊢;omega,hn⟩;have H:Cc t=tot t (Bz t Dm):=if_pos h;have M:Cc ⟨t.hs,t.ws.set w (t.wv w+1),t.wy⟩=tot (pour t w) (Bz (pour t w) Dm):=if_pos hc;rw[H,M];exact⟨yez O hw om,ymb O hw om⟩
theorem most_bd(h:C6 t=0):0<=Cc t/\Cc t<=108:=by
 have O:=xfm h;have:=ywq (f:=dv (Bz t Dm)) (B:=9) (k:=t.m) (xif O xhk);obtain⟨H,_⟩:=Em h;have e:Cc t=tot t (Bz t Dm):=if_pos h;rw[e];unfold tot;exact⟨this.1,om⟩
theorem most_less(h:C6 t=0)(M:x<t.nH):Cc ⟨t.hs.set x 0,t.ws,t.wy⟩<=Cc t:=by
 obtain⟨hm,v⟩:=Em h;have O:=v.ok (show t.m<=13 by omega);have hc:=chkB_house h M;obtain⟨a2,v'⟩:=Em hc;have O':=v'.ok om;have e1:Cc t=tot t (Bz t Dm):=if_pos h;have e2:Cc ⟨t.hs.set x 0,t.ws,t.wy⟩=tot t (Bz ⟨t.hs.set x 0,t.ws,t.wy⟩ Dm):=if_pos hc;rw[e1,e2];have D:=(xyz O' xhk).div;have e:(⟨t.hs.set x 0,t.ws,t.wy⟩:Tn).nH=t.nH:=List.length_set ..;refine Km.Ea O (xyz O xhk) (d':=Bz ⟨t.hs.set x 0,t.ws,t.wy⟩ Dm) ⟨D.len,D.pos,fun j H=>?_,D.ws⟩;have V:=D.hs j (by rw[e];exact H);have hg:(⟨t.hs.set x 0,t.ws,t.wy⟩:Tn).hv j=if x=j then 0 else t.hv j:=getD_set M
 rw[hg]at V;have h0:=(v.h j H).1;refine Int.le_trans V ?_;split
 ·exact h0
 ·exact Int.le_refl _
end Go.X.Flow
namespace Go.X.Ms
open Go.X.Flow (Tn)
variable{d:Dsk}{n:Int}{l:List Int}{w x:Nat}{t:Twn}
def wHas:Str:=[104,97,115]
def wWant:Str:=[119,97,110,116]
def wMost:Str:=[109,111,115,116]
def wellT(t:Twn)(w:Nat)(n:Int):Twn:={t with b:=⟨t.b.hs,t.b.ws.set w n,t.b.wy⟩}
def houseT(t:Twn)(h:Nat):Twn:={t with b:=⟨t.b.hs.set h 0,t.b.ws,t.b.wy⟩}
theorem xvs(h:Bp t=0)(hw:w<t.b.nW)(n:Int):Bp (wellT t w n)=0<->0<=n/\n<=20:=by
 obtain⟨M,H,O⟩:=xxq.1 h;rw[xxq];exact⟨fun h=>(Flow.chkB_well H hw n).1 h.2.1,fun h=>⟨M,(Flow.chkB_well H hw n).2 h,O⟩⟩
theorem xtf(h:Bp t=0)(M:x<t.b.nH):Bp (houseT t x)=0:=by
 obtain⟨O,H,V⟩:=xxq.1 h;exact xxq.2 ⟨O,Flow.chkB_house H M,V⟩
theorem yvk(h:Bp d.now.t=0)(hw:w<d.now.t.b.nW)(hn: -999999<=n/\n<=999999):doD d (sayK wHas [((w:Nat):Int),n] 2)=if 0<=n/\n<=20 then(setD d (wellT d.now.t w n),wOk)else(d,wNo):=by
 have M:=(Flow.Em (xxq.1 h).2.1).2.nw;refine(xos (d:=d) (w:=wHas) (l:=[((w:Nat):Int),n]) (o:=.has) d_ d_ (fun z H=>?_) (by show qn (wHas++txt ((2:Nat):Int))=none;rw[xcj d_];kernel_rfl) (by show od (wHas++txt ((2:Nat):Int))=some .has;rw[xcj d_];kernel_rfl) rfl).trans ?_
 ·simp only[List.mem_cons,List.not_mem_nil,or_false]at H;rcases H with rfl|rfl
  ·omega
  ·exact hn
 ·have e:C4 .has d.now.t [((w:Nat):Int),n]=some (wellT d.now.t w n):=by
   show(Ka d.now.t.b.ws ((w:Nat):Int) n).map _=_;rw[Ka,if_pos (show 0<=((w:Nat):Int)/\((w:Nat):Int)<(d.now.t.b.ws.length:Int) by unfold Tn.nW at hw;omega),Int.toNat_natCast];rfl
  rw[e];show(if Bp (wellT d.now.t w n)=0 then _ else _)=_;by_cases c:0<=n/\n<=20
  ·rw[if_pos c,if_pos ((xvs h hw n).2 c)];rfl
  ·rw[if_neg c,if_neg fun z=>c ((xvs h hw n).1 z)]
theorem yen(h:Bp d.now.t=0)(M:x<d.now.t.b.nH):doD d (sayK wWant [((x:Nat):Int),0] 2)=(setD d (houseT d.now.t x),wOk):=by
 have O:=(Flow.Em (xxq.1 h).2.1).2.nh;refine(xos (d:=d) (w:=wWant) (l:=[((x:Nat):Int),0]) (o:=.want) d_ d_ (fun z H=>?_) (by show qn (wWant++txt ((2:Nat):Int))=none;rw[xcj d_];kernel_rfl) (by show od (wWant++txt ((2:Nat):Int))=some .want;rw[xcj d_];kernel_rfl) rfl).trans ?_
 ·simp only[List.mem_cons,List.not_mem_nil,or_false]at H;rcases H with rfl|rfl<;>omega
 ·have e:C4 .want d.now.t [((x:Nat):Int),0]=some (houseT d.now.t x):=by
   show(Ka d.now.t.b.hs ((x:Nat):Int) 0).map _=_;rw[Ka,if_pos (show 0<=((x:Nat):Int)/\((x:Nat):Int)<(d.now.t.b.hs.length:Int) by unfold Tn.nH at M;omega),Int.toNat_natCast];rfl
  rw[e];show(if Bp (houseT d.now.t x)=0 then _ else _)=_;rw[if_pos (xtf h M)];rfl
theorem xf3(h:Bp d.now.t=0):doD d wMost=(d,txt (Flow.Cc d.now.t.b)):=by
 have e:=xdn (d:=d) (x:=(wMost,.Ea,[])) ⟨d_,d_,fun x H=>(by cases H),by rw[show(txt (([]:List Int).length:Nat))=[48] from xcj d_];rfl⟩;refine e.trans (Prod.ext rfl ?_);show ansS (Flow.C6 d.now.t.b) (txt (Flow.Cc d.now.t.b))=_;rw[(xxq.1 h).2.1];rfl
theorem xl4(h:w<l.length):l.set w (l.getD w 0)=l:=by
 rw[Flow.A8 h];exact List.set_getElem_self h
theorem yaq(h:w<t.b.nW):wellT t w (t.b.ws.getD w 0)=t:=by
 unfold wellT;rw[xl4 h]
theorem ybq(h:w<t.b.nW):wellT (wellT t w n) w (t.b.ws.getD w 0)=t:=by
 show {t with b:=⟨t.b.hs,(t.b.ws.set w n).set w (t.b.ws.getD w 0),t.b.wy⟩}=t;rw[List.set_set,xl4 h]
theorem xtz(d:Dsk)(x:Str)(xs:List Str):Bw d (x::xs)=((Bw (doD d x).1 xs).1,(doD d x).2::(Bw (doD d x).1 xs).2):=by rw[Bw]
theorem xh7(hv:Bp t=0)(hw:w<t.b.nW)(M:x<t.b.nH):
 ∃(m k j:Int)(O:Str),E0 t [sayK wHas [((w:Nat):Int),t.b.ws.getD w 0] 2,wMost,sayK wHas [((w:Nat):Int),t.b.ws.getD w 0+1] 2,wMost,sayK wHas [((w:Nat):Int),t.b.ws.getD w 0] 2,sayK wWant [((x:Nat):Int),0] 2,wMost]=
  ([wOk,txt m,O,txt k,wOk,wOk,txt j],houseT t x)/\((0<=m/\m<=108)/\(0<=k/\k<=108)/\0<=j/\j<=108)/\(O=wOk<->t.b.ws.getD w 0<20)/\m<=k/\k<=m+1/\j<=m/\(O=wOk\/k=m):=by
 obtain⟨h1,h2,h3⟩:=xxq.1 hv;have vw:=(Flow.Em h2).2.w w hw;have hn:t.b.ws.getD w 0=t.b.wv w:=rfl;have H:∀u:Twn,Bp u=0->0<=Flow.Cc u.b/\Flow.Cc u.b<=108:=fun u hu=>Flow.most_bd (xxq.1 hu).2.1;rw[xkb hv s_];have s0:(Ah t).now.t=t:=rfl;have sw:wellT t w (t.b.ws.getD w 0)=t:=yaq hw;have e1:doD (Ah t) (sayK wHas [((w:Nat):Int),t.b.ws.getD w 0] 2)=(Ah t,wOk):=by
  rw[yvk (d:=Ah t) hv hw om,if_pos vw,s0,sw];rfl
 have em:doD (Ah t) wMost=(Ah t,txt (Flow.Cc t.b)):=xf3 hv;have ew:doD (Ah t) (sayK wWant [((x:Nat):Int),0] 2)=(setD (Ah t) (houseT t x),wOk):=yen hv M;have ej:doD (setD (Ah t) (houseT t x)) wMost=(setD (Ah t) (houseT t x),txt (Flow.Cc (houseT t x).b)):=xf3 (xtf hv M);have e2:=yvk (d:=Ah t) hv hw (n:=t.b.ws.getD w 0+1) om;rw[xtz,e1,xtz,em,xtz,e2,s0];have hj:=Flow.most_less h2 M;by_cases c:0<=t.b.ws.getD w 0+1/\t.b.ws.getD w 0+1<=20
 ·rw[if_pos c];have V:Bp (wellT t w (t.b.ws.getD w 0+1))=0:=(xvs hv hw _).2 c;have ek:doD (setD (Ah t) (wellT t w (t.b.ws.getD w 0+1))) wMost=(setD (Ah t) (wellT t w (t.b.ws.getD w 0+1)),txt (Flow.Cc (wellT t w (t.b.ws.getD w 0+1)).b)):=xf3 V;have a3:w<(wellT t w (t.b.ws.getD w 0+1)).b.nW:=by
   show w<(t.b.ws.set w _).length;rw[List.length_set];exact hw
  have eb:doD (setD (Ah t) (wellT t w (t.b.ws.getD w 0+1))) (sayK wHas [((w:Nat):Int),t.b.ws.getD w 0] 2)=(Ah t,wOk):=by
   rw[yvk (d:=setD (Ah t) (wellT t w (t.b.ws.getD w 0+1))) V a3 om,if_pos vw];show(setD _ (wellT (wellT t w _) w _),wOk)=_;rw[ybq hw];rfl
  simp only;rw[xtz,ek,xtz,eb,xtz,ew,xtz,ej];have hm:=Flow.most_more h2 hw (by rw[<- hn];exact c.2);exact⟨_,_,_,_,rfl,⟨H t hv,H _ V,H _ (xtf hv M)⟩,⟨fun _=>om,fun _=>rfl⟩,hm.1,hm.2,hj,.inl rfl⟩
 ·rw[if_neg c];simp only;rw[xtz,em,xtz,e1,xtz,ew,xtz,ej];exact⟨_,_,_,_,rfl,⟨H t hv,H t hv,H _ (xtf hv M)⟩,⟨fun z=>absurd z d_,fun z=>absurd (show 0<=t.b.ws.getD w 0+1/\t.b.ws.getD w 0+1<=20 by omega) c⟩,Int.le_refl _,om,hj,.inr rfl⟩
end Go.X.Ms
namespace Go.Proofs.YtadndcpcjmmngaaGreatDoor
open Go.X Go.X.Ms Go.Conc
open Go.X.Flow (ics)
variable{h z9:Heap}{l:List Int}{zz:List Nat}{ls:List Str}{p:Aa}{Y:Pcs}{A:TA}{t:Twn}{v:Value}
def RunX(p:Aa)(t:Twn)(ls:List Str)(v:Value)(Y:Pcs):Prop:=∃(a:Option Addr)(c:Nat)(A:TA),v=.tuple #[.slice a ls.length c,twV A (E0 t ls).2,.bool true]/\ls.length<=c/\ ∀p',PLe p p'->(∀y∈Y,p' y.1=some y.2)->Bs p' a ls.length (E0 t ls).1/\TwP p' A (E0 t ls).2
theorem yrw{L:Pcs}(o:Ab 9 1 v (scs ls) Y)(s:St z9 zz p h (Y++L))(T:TwP p A t)(g:GlP p)(M:∀s∈ls,s.length<=900)(hv:Bp t=0)(V:ls.length<=30):
 Ac Tryz.prog (.main true) 10 #[twV A t,v] h fun v' h'=>∃Z,RunX p t ls v' Z/\New h h' Z:=by
 obtain⟨p',⟨g',gl⟩,hy,s'⟩:=s.D6;obtain⟨a,c,e,S⟩:=o.inP hy;subst e;rw[xwx]at S⊢;refine(yxp h p s.per p' s'.per g'.le A t T g a c ls S M hv V).mono fun v' h' x=>?_;obtain⟨Z,⟨p2,⟨a2,c2,A2,e2,O,S2,T2⟩,le⟩,N⟩:=x.pieces;exact⟨Z,⟨a2,c2,A2,e2,O,fun H l y=>⟨Bs.mono (le H l y) S2,T2.mono (le H l y)⟩⟩,N⟩
theorem yzp{L:Pcs}(o:Ab 9 1 v (scs ls) Y)(s:St z9 zz p h (Y++L))(T:TwP p A t)(g:GlP p)(M:∀s∈ls,s.length<=900)(hv:Bp t=0)(O:ls.length<=30):
 Ac Tryz.prog (.main true) 10 #[twV A t,v] h fun v' h'=>∃Z,RunX p t ls v' (Z++Y)/\New h h' Z:=
 (yrw o s T g M hv O).mono fun _ _⟨Z,⟨a,c,A2,e,hc,V⟩,N⟩=>⟨Z,⟨a,c,A2,e,hc,fun H l y=>V H l fun z hz=>y z (List.mem_append_left _ hz)⟩,N⟩
theorem xjd{L:Pcs}{w:Str}{n:Nat}{md:Md}(o:Ab 3 1 v (ics l) Y)(hl:l.length=n)(s:St z9 zz p h (Y++L))(hw:w.length<=1000)(hn:n<=100)(V:sm6 l):
 Ac Tryz.prog md 9 #[sv w,v] h fun v' H=>∃Z,(v'=sv (sayK w l n)/\Z=[])/\New h H Z:=by
 obtain⟨p',⟨g',gl⟩,O,M⟩:=s.D6;obtain⟨a,c,e,S⟩:=o.inP O;subst e;rw[xpq,hl]at S⊢;exact(cf9 M.per w hw n c l S hn fun i hi=>by
  have:=V (l.getD i 0) (by rw[Flow.A8 om];exact List.getElem_mem _);omega).mono fun v' H⟨e,k⟩=>⟨[],⟨e,rfl⟩,New.of k⟩
open Go.X.Flow (ics Tn)
theorem ydn(h:Heap)(p:Aa)(hp:Per p h)(A:TA)(t:Twn)(T:TwP p A t)(hn:t.fit 9223372036854775807)(g:GlP p)(k1 k2:Int):Fl Tryz.prog (.main true) 3 #[twV A t,.J k1,.J k2] h fun v h'=>v=.bool true/\As h h':=by
 refine xv6 hp Tryz.func3 ?_;refine bq fun b3=>?_;refine ckq (xn3 A t T hn 0 0 [] (Sl.nil _ _ _)) ?_;rintro _ ⟨q,rfl,hq⟩;refine ax ?_;refine xxj rfl rfl rfl sdu (fun cg=>cf6 t.b (by have:=(xhz (hq (by simpa using cg)).1).2.1.2.1;omega) k1) ?_;refine ax ?_;refine xxj rfl rfl rfl sdu (fun cg=>cf7 t.b (by have:=(xhz (hq (by simp at cg;exact cg.1)).1).2.1.1;omega) k2) ?_;refine cq (fun _=>?_) (fun cc=>?_)
 ·refine cdq (cf8 g) ?_;refine ax ?_;exact xwc k_ Tryz.func3 rfl rfl fun _ H_=>⟨rfl,H_.kept⟩
 obtain⟨hv,hw,hx⟩:Bp t=0/\(0<=k1/\k1<=(t.b.nW:Int)-1)/\(0<=k2/\k2<=(t.b.nH:Int)-1):=by
  simp at cc;exact⟨(hq cc.1.1).1,om,om⟩
 obtain⟨w,rfl⟩:∃w:Nat,k1=(w:Nat):=⟨k1.toNat,om⟩
 obtain⟨x,rfl⟩:∃x:Nat,k2=(x:Nat):=⟨k2.toNat,om⟩
 have hw:w<t.b.nW:=om;have hx:x<t.b.nH:=om;have hf:=xhz hv;have V:=(Flow.Em (xxq.1 hv).2.1).2;have vw:=V.w w hw;have n5:=V.nw;have n6:=V.nh;have Tw:=T.b.w;have s1:sm6 [((w:Nat):Int),t.b.ws.getD w 0]:=fun z O=>by
  simp only[List.mem_cons,List.not_mem_nil,or_false]at O;rcases O with rfl|rfl<;>omega
 have s2:sm6 [((w:Nat):Int),t.b.ws.getD w 0+1]:=fun z O=>by
  simp only[List.mem_cons,List.not_mem_nil,or_false]at O;rcases O with rfl|rfl<;>omega
 have s3:sm6 [((x:Nat):Int),0]:=fun z O=>by
  simp only[List.mem_cons,List.not_mem_nil,or_false]at O;rcases O with rfl|rfl<;>omega
 obtain⟨m,k,j,a2,hR,⟨m1,m2,m3⟩,h1,h2,h3,h4,h5⟩:=xh7 hv hw hx;refine ax ?_;refine xtx rfl fun v1 Y1 o1=>?_;have o1:Ab 3 1 v1 (ics [((w:Nat):Int),t.b.ws.getD w 0]) Y1:=o1;refine ax ?_;refine xzt rfl rfl (fun h s=>xjd (w:=wHas) (n:=2) o1 rfl s d_ d_ s1) fun b5 a5 q1=>?_;obtain⟨rfl,rfl⟩:=q1;refine ax ?_;refine xtx rfl fun v2 Y2 o2=>?_;have o2:Ab 3 1 v2 (ics [((w:Nat):Int),t.b.ws.getD w 0+1]) Y2:=o2;refine ax ?_;refine xzt rfl rfl (fun h s=>xjd (w:=wHas) (n:=2) o2 rfl s d_ d_ s2) fun a7 b7 q2=>?_;obtain⟨rfl,rfl⟩:=q2;refine ax ?_;refine xtx rfl fun v3 Y3 o3=>?_;have o3:Ab 3 1 v3 (ics [((w:Nat):Int),t.b.ws.getD w 0]) Y3:=o3;refine ax ?_;refine xzt rfl rfl (fun h s=>xjd (w:=wHas) (n:=2) o3 rfl s d_ d_ s1) fun b0 b6 q3=>?_;obtain⟨rfl,rfl⟩:=q3;refine ax ?_;refine xtx rfl fun v4 Y4 o4=>?_;have o4:Ab 3 1 v4 (ics [((x:Nat):Int),0]) Y4:=o4;refine ax ?_;refine xzt rfl rfl (fun h s=>xjd (w:=wWant) (n:=2) o4 rfl s d_ d_ s3) fun b4 a8 q4=>?_;obtain⟨rfl,rfl⟩:=q4;refine ax ?_;obtain⟨H,e1⟩:∃z,z=sayK wHas [((w:Nat):Int),t.b.ws.getD w 0] 2:=⟨_,rfl⟩
 obtain⟨z2,e2⟩:∃z,z=sayK wHas [((w:Nat):Int),t.b.ws.getD w 0+1] 2:=⟨_,rfl⟩
 obtain⟨z3,e3⟩:∃z,z=sayK wWant [((x:Nat):Int),0] 2:=⟨_,rfl⟩
 rw[<- e1,<- e2,<- e3]at hR⊢;have hlen:∀(u:Str)(l:List Int),u.length<=4->l.length=2->sm6 l->(sayK u l 2).length<=900:=fun u l hu hl h=>by
  have:=xxh (w:=u) (l:=l) (fun i hi=>by
   have:=h (l.getD i 0) (by rw[Flow.A8 hi];exact List.getElem_mem _);exact⟨om,om⟩) 2 om
  omega
 have l1:H.length<=900:=by rw[e1];exact hlen _ _ d_ rfl s1
 have l2:z2.length<=900:=by rw[e2];exact hlen _ _ d_ rfl s2
 have l3:z3.length<=900:=by rw[e3];exact hlen _ _ d_ rfl s3
 have a4:∀s∈[H,wMost,z2,wMost,H,z3,wMost],s.length<=900:=fun s hs=>by
  simp only[List.mem_cons,List.not_mem_nil,or_false]at hs;rcases hs with rfl|rfl|rfl|rfl|rfl|rfl|rfl<;>first|assumption|decide
 refine xtx (cells:=#[sv H,sv wMost,sv z2,sv wMost,sv H,sv z3,sv wMost]) rfl (fun v5 Y5 o5=>?_) (hf:=by kernel_rfl) (hc:=by kernel_rfl) (hw:=by kernel_rfl) (hn:=by kernel_rfl);have o5:Ab 9 1 v5 (scs [H,wMost,z2,wMost,H,z3,wMost]) Y5:=o5;refine xhx o5 (m:=7) rfl d_ fun p1 a1 c1 g1 e4 _ S1=>?_;subst e4;have S1:Bs p1 a1 7 [H,wMost,z2,wMost,H,z3,wMost]:=S1;refine ckq (xn3 A t (T.mono g1.le) hn 7 c1 _ S1) ?_;rintro _ ⟨q2,rfl,_⟩;refine cq (fun _=>?_) (fun _=>?_)
 ·refine cdq (cf8 (g.mono g1.le)) ?_;refine ax ?_;exact xwc k_ Tryz.func3 rfl rfl fun _ H_=>⟨rfl,H_.kept⟩
 refine ax ?_;refine xwv rfl rfl (fun h pe=>cf10 pe A t (T.mono g1.le) (g.mono g1.le) c1 [H,wMost,z2,wMost,H,z3,wMost] S1 a4 hv (show(7:Nat)<=30 by decide)) ?_;rintro _ p6 g6 ⟨a6,c6,A6,rfl,b8,M,T6⟩;rw[hR]at M T6⊢;rw[show([H,wMost,z2,wMost,H,z3,wMost]:List Str).length=7 from rfl];have M:Bs p6 a6 7 [wOk,txt m,a2,txt k,wOk,wOk,txt j]:=M;have S7:Sl p6 a6 7 1 (scs [wOk,txt m,a2,txt k,wOk,wOk,txt j]):=M;have T6:TwP p6 A6 (houseT t x):=T6;have G6:=(g.mono g1.le).mono g6.le;have eh:(houseT t x).b.nH=t.b.nH:=List.length_set ..;have ew:(houseT t x).b.nW=t.b.nW:=rfl;refine lq fun a9=>?_;refine ax ?_;refine ro_y rfl (xkz rfl rfl sdu sdu (fun _=>⟨⟨om,om⟩,Sl.ne S7 om⟩)) ?_;refine ro_y rfl (xoz rfl sdu (fun _=>Bs.get M (i:=0) om) (u:=sv wOk)) ?_;refine ax ?_;refine ro_y rfl (xkz rfl rfl sdu sdu (fun _=>⟨⟨om,om⟩,Sl.ne S7 om⟩)) ?_;refine ro_y rfl (xoz rfl sdu (fun _=>Bs.get M (i:=4) om) (u:=sv wOk)) ?_;refine ax ?_;refine ro_y rfl (xkz rfl rfl sdu sdu (fun _=>⟨⟨om,om⟩,Sl.ne S7 om⟩)) ?_;refine ro_y rfl (xoz rfl sdu (fun _=>Bs.get M (i:=5) om) (u:=sv wOk)) ?_;refine ax ?_;refine ro_y rfl (xkz rfl rfl sdu sdu (fun _=>⟨⟨om,om⟩,Sl.ne S7 om⟩)) ?_;refine ro_y rfl (xoz rfl sdu (fun _=>Bs.get M (i:=2) om) (u:=sv a2)) ?_;refine ax ?_;refine ro_y rfl (ylp rfl rfl sdu sdu) ?_;refine ax ?_;refine xxj rfl rfl rfl sdu (fun _=>cf7 (houseT t x).b om _) ?_;refine ax ?_;refine xxj rfl rfl rfl sdu (fun _=>cf6 (houseT t x).b om _) ?_;have Th:Ar p6 A6.h.1 (houseT t x).b.nH (houseT t x).b.hs:=T6.b.h;have a3:Ar p6 A6.w.1 (houseT t x).b.nW (houseT t x).b.ws:=T6.b.w;refine ax ?_;refine ro_y rfl (xkz rfl rfl sdu sdu (fun _=>⟨⟨om,by show((x:Nat):Int)<((houseT t x).b.nH:Nat);omega⟩,Sl.ne Th om⟩)) ?_;refine ro_y rfl (xoz rfl sdu (fun _=>Ar.get Th om) (u:=.J ((houseT t x).b.hs.getD x 0))) ?_;refine ax ?_;refine ro_y rfl (xkz rfl rfl sdu sdu (fun _=>⟨⟨om,by show((w:Nat):Int)<((houseT t x).b.nW:Nat);omega⟩,Sl.ne a3 om⟩)) ?_;refine ro_y rfl (xoz rfl sdu (fun _=>Ar.get a3 om) (u:=.J ((houseT t x).b.ws.getD w 0))) ?_;have z0:(houseT t x).b.hs.getD x 0=0:=by
  show(t.b.hs.set x 0).getD x 0=0;rw[Flow.getD_set hx,if_pos rfl]
 have w0:(houseT t x).b.ws.getD w 0=t.b.ws.getD w 0:=rfl;refine cq (fun cd=>?_) (fun _=>?_)
 ·exfalso;rw[z0,w0]at cd;rcases cd with(((((((c|c)|c)|c)|c)|c)|c)|c)|c
  ·exact c trivial
  ·exact c rfl
  ·exact c rfl
  ·exact c rfl
  ·exact c (by rw[beq_iff_eq,Bool.eq_iff_iff,decide_eq_true_eq,decide_eq_true_eq];exact h1)
  ·exact c om
  ·exact c om
  ·exact c rfl
  ·exact c rfl
 refine ax ?_;refine ro_y rfl (y_lp rfl (Bs.get M (i:=1) om)) ?_;refine cdq (cf11 (txt m)) ?_;rw[show Na (Cw (txt m))=.tuple #[.J m,.bool true] by rw[xww om];rfl];refine ax ?_;refine ro_y rfl (y_lp rfl (Bs.get M (i:=3) om)) ?_;refine cdq (cf11 (txt k)) ?_;rw[show Na (Cw (txt k))=.tuple #[.J k,.bool true] by rw[xww om];rfl];refine ax ?_;refine ro_y rfl (y_lp rfl (Bs.get M (i:=6) om)) ?_;refine cdq (cf11 (txt j)) ?_;rw[show Na (Cw (txt j))=.tuple #[.J j,.bool true] by rw[xww om];rfl];refine ax ?_;refine ro_y rfl (xkz rfl rfl sdu sdu (fun _=>⟨⟨om,om⟩,Sl.ne S7 om⟩)) ?_;refine ro_y rfl (xoz rfl sdu (fun _=>Bs.get M (i:=2) om) (u:=sv a2)) ?_;refine cgq (fun _=>cf8 G6) ?_;refine ax ?_;exact xwc k_ Tryz.func3 rfl rfl fun _ H_=>⟨congrArg Value.bool (by
  rw[Bool.eq_iff_iff];simp only[Bool.and_eq_true,Bool.or_eq_true,decide_eq_true_eq,Bool.true_and,iff_true];exact⟨⟨⟨⟨h2,h3⟩,h4⟩,h5⟩,trivial⟩),H_.kept⟩
end Go.Proofs.YtadndcpcjmmngaaGreatDoor
