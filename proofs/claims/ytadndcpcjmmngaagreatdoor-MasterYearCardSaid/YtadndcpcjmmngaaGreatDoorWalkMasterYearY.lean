/-
  Part of proofs about a town's master: a calculus for Bj beside goroutines that are only leaving, and the Bj. No condition.
-/
import Derived.Test.YtadndcpcjmmngaaGreatDoorYR
set_option maxHeartbeats 1600000
set_option maxRecDepth 20000
set_option synthInstance.maxSize 2000
namespace Go.X.Ms
variable{d:Dsk}{h p w:Int}{l:List Int}{t:Twn}
def ansS(e:Int)(s:Str):Str:=if e=3 then D9 else if e≠0 then Gk else s
abbrev Ask:=Str×Qn×List Int
variable{x:Ask}
noncomputable def askT(t:Twn)(x:Ask):Str:=ansS (By x.2.1 t x.2.2).2 (By x.2.1 t x.2.2).1.text
def Ask.ok(x:Ask):Prop:=(32:UInt8)∉x.1/\x.1≠Cl/\sm6 x.2.2/\qn (x.1++txt x.2.2.length)=some x.2.1
def Ask.line(x:Ask):Str:=sayK x.1 x.2.2 x.2.2.length
def wKeepZ:Str:=[107,101,101,112,32,122,32]
theorem xk7(d:Dsk)(q:Qn)(a:List Int)(l:Str):(De d q a l).2=ansS (By q d.now.t a).2 (By q d.now.t a).1.text:=by
 unfold De ansS;split
 ·rfl
 ·split<;>rfl
theorem yqv(d:Dsk)(q:Qn)(a:List Int):(De d q a []).1=d:=by
 unfold De;split
 ·rfl
 ·split
  ·rfl
  ·rfl
theorem xdn(h:x.ok):doD d x.line=(d,askT d.now.t x):=by
 obtain⟨O,V,M,H⟩:=h;have e:=ylt (d:=d) O V M H;unfold Ask.line;rw[e];exact Prod.ext (yqv d _ _) (xk7 d _ _ _)
theorem yrd(h:x.ok):doD d (wKeepZ++x.line)=De d x.2.1 x.2.2 [122]:=by
 obtain⟨O,V,H,M⟩:=h;have hs:Ad (wKeepZ++x.line)=Cl::[122]::x.1::x.2.2.map txt:=by
  rw[show wKeepZ++x.line=Cl++32::([122]++32::x.line) from rfl,xyb _ d_,xyb _ d_];unfold Ask.line;rw[xzf O _ (Nat.le_refl _),List.take_length]
 rw[xps hs d_];exact xtk (by rw[List.length_map];exact M) (xhn H) (xdd H)
theorem xm4:∀{xs:List Ask}(d:Dsk),(∀x∈xs,x.ok)->Bw d (xs.map Ask.line)=(d,xs.map (askT d.now.t))
 |[],_,_=>rfl
 |x::xs,d,h=>by rw[List.map_cons,Bw,xdn (h x s_),xm4 d fun y H=>h y (List.mem_cons_of_mem _ H)];rfl
theorem xst:∀{xs:List Ask}(d:Dsk),(∀x∈xs,x.ok)->(Bw d (xs.map fun x=>wKeepZ++x.line)).2=xs.map (askT d.now.t)/\(Bw d (xs.map fun x=>wKeepZ++x.line)).1.now.t=d.now.t
 |[],_,_=>⟨rfl,rfl⟩
 |x::xs,d,h=>by
   have O:=(xub d x.2.1 x.2.2 [122]).1;have H:=xst (De d x.2.1 x.2.2 [122]).1 fun y M=>h y (List.mem_cons_of_mem _ M);rw[O]at H;rw[List.map_cons,Bw,yrd (h x s_)];exact⟨by rw[H.1,xk7];rfl,H.2⟩
def asks(p r h w d:Int):List Ask:=
 [([102,101,119,101,115,116],.fewest,[]),([99,104,101,97,112],.cheap,[]),([100,101,101,112],.deep,[p]),([110,101,120,116],.next,[r]),([109,111,115,116],.Ea,[]),([108,97,99,107,115],.Ca,[]),
  ([100,114,97,119,115],.draws,[h]),([100,114,121],.dry,[w]),([115,104,111,114,116],.short,[]),([101,109,112,116,121],.empty,[]),([108,101,97,115,116],.least,[]),([114,97,116,105,111,110],.ration,[]),
  ([115,112,97,114,101],.spare,[d]),([108,101,118,101,108],.level,[d])]
theorem ypv{r d:Int}(H:sm6 [p,r,h,w,d]):∀x∈asks p r h w d,x.ok:=by
 have one:∀{n:Int},n∈[p,r,h,w,d]->sm6 [n]:=fun hn x M=>by rw[List.mem_singleton.1 M];exact H _ hn
 have nil:sm6 []:=fun x M=>by cases M
 have ok:∀(u:Str)(q:Qn)(l:List Int),(32:UInt8)∉u->u≠Cl->l.length<10->qn (u++[UInt8.ofNat (48+l.length)])=some q->sm6 l->Ask.ok (u,q,l):=fun u q l h1 h2 O V h3=>⟨h1,h2,h3,by rw[xcj O];exact V⟩
 intro x M;simp only[asks,List.mem_cons,List.not_mem_nil,or_false]at M;rcases M with rfl|rfl|rfl|rfl|rfl|rfl|rfl|rfl|rfl|rfl|rfl|rfl|rfl|rfl
 all_goals (refine ok _ _ _ d_ d_ (Nat.le_of_ble_eq_true rfl) rfl ?_)
 all_goals first|exact nil|exact one s_
theorem yo1(hv:Bp t=0){r d:Int}(H:sm6 [p,r,h,w,d]):E0 t ((asks p r h w d).map Ask.line)=((asks p r h w d).map (askT t),t):=by
 rw[xkb hv (by simp[asks]),xm4 _ (ypv H)];rfl
theorem yus(hv:Bp t=0){r d:Int}(H:sm6 [p,r,h,w,d]):E0 t ((asks p r h w d).map fun x=>wKeepZ++x.line)=((asks p r h w d).map (askT t),t):=by
 have e:=xst (Ah t) (ypv H);rw[xkb hv (by simp[asks])];exact Prod.ext e.1 e.2
def numS(n e:Int):Str:=if n< -1000000000\/n>1000000000 then []else ansS e (txt n)
theorem xgk{n e:Int}(h:m6 n):numS n e=ansS e (txt n):=by unfold numS;rw[if_neg om]
def wTo:Str:=[32,116,111,32]
def spanS(a b e:Int):Str:=ansS e ((numS a 0++wTo)++numS b 0)
theorem xh4{a b e:Int}(M:m6 a)(H:m6 b):spanS a b e=ansS e (Rs.spn a b).text:=by
 unfold spanS;rw[xgk M,xgk H];show ansS e ((txt a++wTo)++txt b)=ansS e (txt a++([32,116,111,32]++txt b));rw[List.append_assoc];rfl
def listK(l:List Int):Nat->Str
 |0=>[]
 |k+1=>if 0<k then(listK l k++[32])++numS (l.getD k 0) 0 else listK l k++numS (l.getD k 0) 0
def listS(l:List Int)(e:Int):Str:=if 60<l.length then []else ansS e (if listK l l.length=[]then [110,111,116,104,105,110,103]else listK l l.length)
theorem xx5{x:Int}{l:List Int}(h:∀y∈x::l,m6 y):∀k,k<=l.length->listK (x::l) (k+1)=txt x++Fw (l.take k)
 |0,_=>by rw[listK,if_neg om,listK];show []++numS x 0=_;rw[xgk (h x s_)];show []++txt x=txt x++[];simp
 |k+1,hk=>by
   have M:∀(u:List Int)(y:Int),Fw (u++[y])=Fw u++32::txt y:=fun u y=>by
    induction u with
    |nil=>show 32::(txt y++[])=_;simp[Fw]
    |cons a u ih=>rw[List.cons_append,Fw,ih,Fw];simp
   have H:(x::l).getD (k+1) 0=l[k]:=by rw[List.getD_cons_succ,List.getD_eq_getElem?_getD,List.getElem?_eq_getElem om];rfl
   rw[listK,if_pos om,xx5 h k om,H,xgk (h _ (List.mem_cons_of_mem _ (List.getElem_mem _))),List.take_add_one,List.getElem?_eq_getElem om];show _=txt x++Fw (l.take k++[l[k]]);rw[M];show((txt x++Fw (l.take k))++[32])++txt l[k]=_;simp
theorem xw5{e:Int}(h:(Rs.lst l).m6):listS l e=ansS e (Rs.lst l).text:=by
 obtain⟨h1,h2⟩:=h;unfold listS;rw[if_neg om];cases l with
 |nil=>rfl
 |cons x l=>
   have V:∀y∈x::l,m6 y:=fun y O=>by
    obtain⟨i,hi,e⟩:=List.mem_iff_getElem.1 O;have:=h2 i hi;rw[Flow.A8 hi,e]at this;exact this
   have M:=xx5 V l.length (Nat.le_refl _);rw[List.take_length]at M;rw[List.length_cons,M];have H:txt x++Fw l≠[]:=fun e=>by
    have:=xw1 x;have z:=(List.append_eq_nil_iff.1 e).1;rw[z]at this;simp at this
   rw[if_neg H];rfl
noncomputable def wants(t:Twn)(p r h w d:Int):List Str:=[numS (Ef t.s) (B7 ltF t.s),numS (Cg t.s) (B7 ltC t.s),numS (Hb t.s p) (Ko t.s p),numS (Gg t.s r) (E4 t.s r),numS (Flow.Cc t.b) (Flow.C6 t.b),listS (Flow.LKc t.b) (Flow.C6 t.b),spanS (Flow.C2 t.b h (-1)) (Flow.C2 t.b h 1) (Flow.Ht t.b (decide (0<=h/\h<=(t.b.nH:Int)-1))),numS (Flow.Ls t.b w) (Flow.Ht t.b (decide (0<=w/\w<=(t.b.nW:Int)-1))),listS (Flow.Fg t.b) (Flow.Ev t.b),numS ((Cist.Gp t.y.size t.y.start t.y.days).1) ((Cist.Gp t.y.size t.y.start t.y.days).2),numS ((Cist.Av t.y.size t.y.start t.y.days).1) ((Cist.Av t.y.size t.y.start t.y.days).2),numS (if Cist.Ok t.y.size t.y.start t.y.days then Cist.Bi t.y.size t.y.start t.y.days 20 else 0) (Cist.chk t.y.size t.y.start t.y.days),numS ((Cist.Cn t.y.size t.y.start t.y.days d).1) ((Cist.Cn t.y.size t.y.start t.y.days d).2),spanS ((Cist.Hh t.y.size t.y.start t.y.days d).1.1) ((Cist.Hh t.y.size t.y.start t.y.days d).1.2) ((Cist.Hh t.y.size t.y.start t.y.days d).2)]
theorem yb2(hv:Bp t=0)(p r h w d:Int):(asks p r h w d).map (askT t)=wants t p r h w d:=
 congr (congrArg List.cons (xgk (xyk .fewest t [] hv)).symm) (congr (congrArg List.cons (xgk (xyk .cheap t [] hv)).symm) (congr (congrArg List.cons (xgk (xyk .deep t [p] hv)).symm) (congr (congrArg List.cons (xgk (xyk .next t [r] hv)).symm) (congr (congrArg List.cons (xgk (xyk .Ea t [] hv)).symm) (congr (congrArg List.cons (xw5 (xyk .Ca t [] hv)).symm) (congr (congrArg List.cons (xh4 (xyk .draws t [h] hv).1 (xyk .draws t [h] hv).2).symm) (congr (congrArg List.cons (xgk (xyk .dry t [w] hv)).symm) (congr (congrArg List.cons (xw5 (xyk .short t [] hv)).symm) (congr (congrArg List.cons (xgk (xyk .empty t [] hv)).symm) (congr (congrArg List.cons (xgk (xyk .least t [] hv)).symm) (congr (congrArg List.cons (xgk (xyk .ration t [] hv)).symm) (congr (congrArg List.cons (xgk (xyk .spare t [d] hv)).symm) (congr (congrArg List.cons (xh4 (xyk .level t [d] hv).1 (xyk .level t [d] hv).2).symm) rfl)))))))))))))
end Go.X.Ms
namespace Go.X.Cist
section
variable{size start size' start':Int}{want rain:Nat->Int}{ds:List Day}
theorem ykg(hs:size<=size')(H:start<=start'):∀k,lev size start want rain k<=lev size' start' want rain k
 |0=>H
 |k+1=>by
   have M:=ykg hs H k;simp only[lev];omega
theorem xo8(hs:size<=size')(H:min start size<=min start' size')(h:Bg size start ds):Bg size' start' ds:=by
 intro i hi;have M:=h i hi;have O:=ykg (want:=Ag ds) (rain:=C7 ds) hs H i;unfold Al ovr at M⊢;omega
theorem xgt{q:Nat->Bool}:∀(f k:Nat),(Gx q k f=none/\ ∀i,k<=i->i<k+f->q i=false)\/ ∃n,Gx q k f=some n/\k<=n/\n<k+f/\q n=true/\ ∀i,k<=i->i<n->q i=false
 |0,k=>.inl ⟨rfl,fun i O H=>absurd H om⟩
 |f+1,k=>by
   unfold Gx;by_cases h:q k=true
   ·rw[if_pos h];exact .inr ⟨k,rfl,Nat.le_refl _,om,h,fun i O H=>absurd H om⟩
   ·rw[if_neg h];have M:q k=false:=by simpa using h
    rcases xgt f (k+1)with⟨e,x⟩|⟨n,e,O,H,h3,V⟩
    ·refine .inl ⟨e,fun i a b=>?_⟩;by_cases c:i=k
     ·rw[c];exact M
     ·exact x i om om
    ·refine .inr ⟨n,e,om,om,h3,fun i a b=>?_⟩;by_cases c:i=k
     ·rw[c];exact M
     ·exact V i om b
theorem size_iff(O:Ok size start ds):((Av size start ds).2=0\/(Av size start ds).2=3)/\(0<=(Av size start ds).1/\(Av size start ds).1<=60)/\
 ∀z:Int,0<=z->z<=60->(Bg z start ds<->(Av size start ds).2=0/\(Av size start ds).1<=z):=by
 have hm:∀z M:Int,z<=M->Bg z start ds->Bg M start ds:=fun z M h x=>xo8 h om x;unfold Av;rw[if_pos O];rcases xgt (q:=fun k=>decide (Bg (k:Nat) start ds)) 61 0 with⟨e,x⟩|⟨n,e,_,h2,h3,h4⟩<;>rw[e]
 ·refine⟨.inr rfl,⟨Int.le_refl _,d_⟩,fun z V h1=>⟨fun y=>?_,fun y=>absurd y.1 d_⟩⟩;have:=x z.toNat om om;rw[show((z.toNat:Nat):Int)=z from by omega]at this;exact absurd y (of_decide_eq_false this)
 ·refine⟨.inl rfl,⟨by show(0:Int)<=(n:Nat);omega,by show((n:Nat):Int)<=60;omega⟩,fun z V h1=>⟨fun y=>⟨rfl,Int.not_lt.1 fun H=>?_⟩,fun y=>hm _ _ y.2 (of_decide_eq_true h3)⟩⟩;have H:z<((n:Nat):Int):=H;have:=h4 z.toNat om om;rw[show((z.toNat:Nat):Int)=z from by omega]at this;exact absurd y (of_decide_eq_false this)
theorem dryY_iff(M:Ok size start ds):(Gp size start ds).2=3<->Bg size start ds:=by
 unfold Gp;rw[if_pos M];have key:Le size start ds<0<->Bg size start ds:=by
  rw[<- Int.not_le];unfold Le;rw[Flow.Dl];unfold Bg;refine⟨fun h i hi H=>h ⟨C0 size (min start size) (Ag ds) (C7 ds) i,List.mem_map.2 ⟨i,List.mem_range.2 hi,rfl⟩,decide_eq_true (show 0<Al size (min start size) (Ag ds) (C7 ds) i from H)⟩,fun h=>?_⟩;rintro⟨d,hd,H⟩;obtain⟨i,hi,rfl⟩:=List.mem_map.1 hd;exact h i (List.mem_range.1 hi) (show 0<Al size (min start size) (Ag ds) (C7 ds) i from of_decide_eq_true H)
 by_cases c:Le size start ds<0
 ·rw[if_pos c,if_pos c];exact⟨fun _=>key.1 c,fun _=>rfl⟩
 ·rw[if_neg c,if_neg c];exact⟨fun h=>(by cases h),fun h=>absurd (key.2 h) c⟩
end
end Go.X.Cist
namespace Go.X.Ms
open Go.X.Cist (Ok Bg Av Gp size_iff dryY_iff)
variable{d:Dsk}{n x:Int}{t:Twn}
def szT(t:Twn)(x:Int):Twn:={t with y:={t.y with size:=x}}
theorem xdv(h:Bp t=0)(x:Int):Bp (szT t x)=0<->t.y.start<=x/\x<=60:=by
 obtain⟨M,H,V⟩:=xxq.1 h;have O:=Cist.A7.1 V;rw[xxq];show Hd t.s=0/\Flow.C6 t.b=0/\Cist.chk x t.y.start t.y.days=0<->_;rw[Cist.A7];unfold Ok at O⊢;exact⟨fun h=>⟨h.2.2.2.2.2.1,h.2.2.2.1⟩,fun h=>⟨M,H,om,h.2,O.2.2.1,h.1,O.2.2.2.2⟩⟩
def wSize:Str:=[115,105,122,101]
def wEmpty:Str:=[101,109,112,116,121]
def wLeast:Str:=[108,101,97,115,116]
def wKeepN:Str:=[107,101,101,112,32,110,32,108,101,97,115,116]
def wSizeN:Str:=[115,105,122,101,32,110]
theorem xn2:qn (wSize++txt ((1:Nat):Int))=none:=by rw[xcj d_];kernel_rfl
theorem xgm:od (wSize++txt ((1:Nat):Int))=some .size:=by rw[xcj d_];kernel_rfl
theorem ygn(h:Bp d.now.t=0)(M: -999999<=x/\x<=999999):doD d (sayK wSize [x] 1)=if d.now.t.y.start<=x/\x<=60 then(setD d (szT d.now.t x),wOk)else(d,wNo):=by
 refine(xos (d:=d) (w:=wSize) (l:=[x]) (o:=.size) d_ d_ (fun z H=>by rw[List.mem_singleton.1 H];exact M) xn2 xgm rfl).trans ?_;show(if Bp (szT d.now.t x)=0 then _ else _)=_;by_cases c:d.now.t.y.start<=x/\x<=60
 ·rw[if_pos c,if_pos ((xdv h x).2 c)];rfl
 ·rw[if_neg c,if_neg fun z=>c ((xdv h x).1 z)]
theorem xy6(h:Bp d.now.t=0):doD d wSizeN=if d.now.kept.getD 13 0=0 then(d,B8)else if d.now.t.y.start<=d.now.B1.getD 13 0/\d.now.B1.getD 13 0<=60 then(setD d (szT d.now.t (d.now.B1.getD 13 0)),wOk)else(d,wNo):=by
 have hs:Ad wSizeN=wSize::[[110]]:=by decide
 rw[xcn hs d_];have hv:Ki d.now [110]=if d.now.kept.getD 13 0=0 then none else some (d.now.B1.getD 13 0):=xrh d_
 by_cases c:d.now.kept.getD 13 0=0
 ·rw[if_pos c];rw[if_pos c]at hv;exact xyd d_ (.inr ⟨rfl,by show od (wSize++txt ((1:Nat):Int))≠none;rw[xgm];simp⟩) (by rw[Br,hv])
 ·rw[if_neg c];rw[if_neg c]at hv;refine(xow (o:=.size) (vs:=[d.now.B1.getD 13 0]) xn2 xgm d_ d_ (by rw[Br,hv];rfl)).trans ?_;show(if Bp (szT d.now.t (d.now.B1.getD 13 0))=0 then _ else _)=_;by_cases c:d.now.t.y.start<=d.now.B1.getD 13 0/\d.now.B1.getD 13 0<=60
  ·rw[if_pos c,if_pos ((xdv h _).2 c)];rfl
  ·rw[if_neg c,if_neg fun z=>c ((xdv h _).1 z)]
theorem yuk{w:Str}(hw:(32:UInt8)∉w)(H:w≠Cl)(O:Cq w 0=true)(M:qn (w++[48])=none):doD d w=((tryD d w).1,Hs (tryD d w).2):=by
 rw[xcn (xxb hw) H];exact xas (by rw[xcj d_];exact M) O
theorem xik(d:Dsk):doD d wEmpty=(d,askT d.now.t (wEmpty,.empty,[])):=xdn (x:=(wEmpty,.empty,[])) ⟨d_,d_,fun x H=>(by cases H),by rw[show(txt (([]:List Int).length:Nat))=[48] from xcj d_];rfl⟩
theorem ytd:doD d wKeepN=De d .least [] [110]:=by
 have hs:Ad wKeepN=Cl::[110]::wLeast::[]:=by decide
 rw[xps hs d_];exact xtk (by rw[show(txt (([]:List Str).length:Nat))=[48] from xcj d_];rfl) rfl rfl
theorem yaw:txt n≠D9:=fun h=>by
 have hc:(111:UInt8)∈txt n:=by rw[h];decide
 unfold txt at hc;have H:¬ (111:UInt8)∈Dk n.natAbs:=fun z=>absurd (xwb _ z) d_;split at hc
 ·rcases List.mem_cons.1 hc with e|hc
  ·cases e
  ·exact H hc
 ·exact H hc
theorem ansS_none{e:Int}:ansS e (txt n)=D9<->e=3:=by
 unfold ansS;by_cases c:e=3
 ·rw[if_pos c];exact⟨fun _=>c,fun _=>rfl⟩
 ·rw[if_neg c];refine⟨fun h=>?_,fun h=>absurd h c⟩;split at h
  ·cases h
  ·exact absurd h yaw
theorem xmg(h:Bp t=0):askT t (wEmpty,.empty,[])=D9<->Bg t.y.size t.y.start t.y.days:=ansS_none.trans (dryY_iff (Cist.A7.1 (xxq.1 h).2.2))
theorem yc2(h:Bp t=0)(hx: -999999<=x/\x<=999999):∃a1 a2 a4 H a6 V,E0 t [Dy,sayK wSize [x] 1,wEmpty,F5,wKeepN,wSizeN,wEmpty]=([wOk,a1,a2,wOk,a4,H,a6],V)/\
 ((a1=wOk<->t.y.start<=x/\x<=60)/\(a1=wOk\/a1=wNo))/\(a1=wOk->(a2=D9<->(Av t.y.size t.y.start t.y.days).2=0/\(Av t.y.size t.y.start t.y.days).1<=x))/\
 ((Av t.y.size t.y.start t.y.days).2=0\/(Av t.y.size t.y.start t.y.days).2=3)/\(0<=(Av t.y.size t.y.start t.y.days).1/\(Av t.y.size t.y.start t.y.days).1<=60)/\
 ((Av t.y.size t.y.start t.y.days).2≠0->a4=D9/\H=B8/\V=t)/\
 ((Av t.y.size t.y.start t.y.days).2=0->a4=txt (Av t.y.size t.y.start t.y.days).1/\(H=wOk<->t.y.start<=(Av t.y.size t.y.start t.y.days).1)/\(H=wOk->a6=D9)/\
   V=if t.y.start<=(Av t.y.size t.y.start t.y.days).1 then szT t (Av t.y.size t.y.start t.y.days).1 else t):=by
 have O:=Cist.A7.1 (xxq.1 h).2.2;obtain⟨e3,⟨n0,M⟩,hL⟩:=size_iff O;rw[xkb (ls:=[Dy,sayK wSize [x] 1,wEmpty,F5,wKeepN,wSizeN,wEmpty]) h (show(7:Nat)<=30 by decide)];have hb:doD (Ah t) Dy=(⟨(Ah t).now,[(Ah t).now]⟩,wOk):=yuk d_ d_ d_ k_;have a7:∀s:Eg,doD ⟨s,[(Ah t).now]⟩ F5=(Ah t,wOk):=fun s=>yuk d_ d_ d_ k_
 have a3:∃a4 H a6 V,Bw (Ah t) [wKeepN,wSizeN,wEmpty]=((Bw (Ah t) [wKeepN,wSizeN,wEmpty]).1,[a4,H,a6])/\(Bw (Ah t) [wKeepN,wSizeN,wEmpty]).1.now.t=V/\
  ((Av t.y.size t.y.start t.y.days).2≠0->a4=D9/\H=B8/\V=t)/\
  ((Av t.y.size t.y.start t.y.days).2=0->a4=txt (Av t.y.size t.y.start t.y.days).1/\(H=wOk<->t.y.start<=(Av t.y.size t.y.start t.y.days).1)/\(H=wOk->a6=D9)/\
    V=if t.y.start<=(Av t.y.size t.y.start t.y.days).1 then szT t (Av t.y.size t.y.start t.y.days).1 else t):=by
  have hk:doD (Ah t) wKeepN=De (Ah t) .least [] [110]:=ytd;rw[Bw,Bw,Bw,Bw,hk];unfold De;show ∃a4 H a6 V,_;have eq:By .least (Ah t).now.t []=(.num (Av t.y.size t.y.start t.y.days).1,(Av t.y.size t.y.start t.y.days).2):=rfl;rw[eq];generalize Av t.y.size t.y.start t.y.days=N at*;obtain⟨n,e⟩:=N;simp only at n0 M e3 hL;rcases e3 with rfl|rfl
  ·simp only;rw[if_neg d_,if_neg d_,if_pos d_];have hs:=xy6 (d:=F9 (Ah t) [110] (.num n)) h;have k1:(F9 (Ah t) [110] (.num n)).now.kept.getD 13 0=1:=rfl;have k2:(F9 (Ah t) [110] (.num n)).now.B1.getD 13 0=n:=rfl;have k3:(F9 (Ah t) [110] (.num n)).now.t=t:=rfl;rw[k1,k2,k3,if_neg d_]at hs;rw[hs];by_cases c:t.y.start<=n
   ·rw[if_pos ⟨c,M⟩,xik];refine⟨_,_,_,_,rfl,rfl,fun z=>absurd rfl z,fun _=>⟨rfl,⟨fun _=>c,fun _=>rfl⟩,fun _=>?_,by rw[if_pos c];rfl⟩⟩;show askT (szT t n) _=_;rw[xmg ((xdv h n).2 ⟨c,M⟩)];exact(hL n n0 M).2 ⟨rfl,Int.le_refl _⟩
   ·rw[if_neg fun z=>c z.1];exact⟨_,_,_,_,rfl,rfl,fun z=>absurd rfl z,fun _=>⟨rfl,⟨fun z=>(by cases z),fun z=>absurd z c⟩,fun z=>(by cases z),by rw[if_neg c,xik];rfl⟩⟩
  ·simp only;rw[if_pos trivial];have hs:=xy6 (d:=Ah t) h;rw[if_pos (by rfl)]at hs;rw[hs];exact⟨_,_,_,_,rfl,rfl,fun _=>⟨rfl,rfl,by rw[xik];rfl⟩,fun z=>absurd z d_⟩
 obtain⟨a4,H,a6,V,r1,r2,r3,r4⟩:=a3;have e1:=ygn (d:=⟨(Ah t).now,[(Ah t).now]⟩) h hx;have e1:doD ⟨(Ah t).now,[(Ah t).now]⟩ (sayK wSize [x] 1)=if t.y.start<=x/\x<=60 then(⟨⟨szT t x,(Ah t).now.B1,(Ah t).now.kept⟩,[(Ah t).now]⟩,wOk)else(⟨(Ah t).now,[(Ah t).now]⟩,wNo):=e1
 rw[Bw,hb,Bw,e1];by_cases c:t.y.start<=x/\x<=60
 ·rw[if_pos c,Bw,xik,Bw,a7,r1];refine⟨wOk,_,a4,H,a6,V,Prod.ext rfl r2,⟨⟨fun _=>c,fun _=>rfl⟩,.inl rfl⟩,fun _=>?_,e3,⟨n0,M⟩,r3,r4⟩;show askT (szT t x) _=D9<->_;rw[xmg ((xdv h x).2 c)];exact hL x (by have:=O.2.2.1;omega) c.2
 ·rw[if_neg c,Bw,xik,Bw,a7,r1];exact⟨wNo,_,a4,H,a6,V,Prod.ext rfl r2,⟨⟨fun z=>(by cases z),fun z=>absurd z c⟩,.inr rfl⟩,fun z=>(by cases z),e3,⟨n0,M⟩,r3,r4⟩
end Go.X.Ms
namespace Go.X.Flow
theorem idxA_snoc{α:Type}{q:α->Bool}{x:α}(h:q x=false):∀l:List α,Cp q (l++[x])=Cp q l
 |[]=>by
   show(if q x=true then(0:Int)else if Cp q []<0 then -1 else Cp q []+1)=Cp q [];rw[h,if_neg s_];rfl
 |y::l=>by
   rw[List.cons_append,Cp,Cp,idxA_snoc h l]
end Go.X.Flow
namespace Go.X.Cist
variable{x:Day}{ds:List Day}
section
variable{size start lo hi:Int}
def nday(lo hi:Int):Day:=⟨lo,hi,0⟩
theorem xlg{i:Nat}(h:i<ds.length):(ds++[x]).getD i dz=ds.getD i dz:=by
 rw[List.getD_eq_getElem?_getD,List.getElem?_append_left h,List.getD_eq_getElem?_getD]
theorem getD_snoc2:(ds++[x]).getD ds.length dz=x:=by
 rw[List.getD_eq_getElem?_getD,List.getElem?_append_right (Nat.le_refl _)];simp
theorem xw2{want rain M H:Nat->Int}:∀{k:Nat},(∀i,i<k->want i=M i/\rain i=H i)->lev size start want rain k=lev size start M H k
 |0,_=>rfl
 |k+1,h=>by rw[lev,lev,xw2 fun i hi=>h i om,(h k om).1,(h k om).2]
theorem xds{want rain M H:Nat->Int}{k:Nat}(h:∀i,i<k+1->want i=M i/\rain i=H i):Al size start want rain k=Al size start M H k:=by
 unfold Al ovr;rw[xw2 fun i hi=>h i om,(h k om).1,(h k om).2]
theorem xyr{k:Nat}(H:k<=ds.length):∀i,i<k->Ag (ds++[x]) i=Ag ds i/\C7 (ds++[x]) i=C7 ds i:=fun i hi=>by
 unfold Ag C7;rw[xlg om];exact⟨rfl,rfl⟩
theorem xa6(hs:0<=start/\start<=size)(hw:∀i,i<ds.length->0<=Ag ds i)(M:0<=lo):Al size start (Ag (ds++[nday lo hi])) (C7 (ds++[nday lo hi])) ds.length=0:=by
 have O:Ag (ds++[nday lo hi]) ds.length=0:=by unfold Ag;rw[getD_snoc2];rfl
 have H:C7 (ds++[nday lo hi]) ds.length=lo:=by unfold C7;rw[getD_snoc2];rfl
 have V:=Cv (size:=size) (start:=start) (want:=Ag ds) (rain:=C7 ds) hs hw ds.length (Nat.le_refl _);unfold Al ovr;rw[O,H,xw2 (xyr (Nat.le_refl _))];omega
theorem lasts_new(hs:0<=min start size/\0<=size)(hw:∀i,i<ds.length->0<=Ag ds i)(M:0<=lo):Bg size start (ds++[nday lo hi])<->Bg size start ds:=by
 have hn:=xa6 (size:=size) (start:=min start size) (hi:=hi) (ds:=ds) ⟨hs.1,om⟩ hw M;unfold Bg;constructor
 ·intro h i H;have:=h i (by rw[List.length_append,List.length_singleton];omega);rwa[xds (xyr om)]at this
 ·intro h i H;rw[List.length_append,List.length_singleton]at H;by_cases c:i=ds.length
  ·rw[c,hn];omega
  ·rw[xds (xyr om)];exact h i om
theorem xg0{r:Int}(hr:0<=r):At r (ds++[nday lo hi])=At r ds++[nday lo hi]:=by
 unfold At;have O:(Fq (fun _ w=>min w r) (ds++[nday lo hi])).length=ds.length+1:=by rw[A5,List.length_append];rfl
 refine xdc (d:=dz) (by rw[O,List.length_append,A5];rfl) fun i M=>?_;rw[O]at M;have V:(Fq (fun _ w=>min w r) (ds++[nday lo hi])).getD i dz={ (ds++[nday lo hi]).getD i dz with want:=min ((ds++[nday lo hi]).getD i dz).want r}:=by
  have H:i<(ds++[nday lo hi]).length:=by rw[List.length_append];exact M
  unfold Fq;rw[xwz H,if_pos H]
 rw[V];by_cases c:i=ds.length
 ·have e2:(Fq (fun _ w=>min w r) ds++[nday lo hi]).getD i dz=nday lo hi:=by
   rw[c,show ds.length=(Fq (fun _ w=>min w r) ds).length from(A5 ..).symm];exact getD_snoc2
  rw[e2,c,getD_snoc2];show(⟨lo,hi,min 0 r⟩:Day)=⟨lo,hi,0⟩
  rw[show min 0 r=0 by omega]
 ·have H:i<ds.length:=om;rw[xlg H,xlg (by rw[A5];exact H)];unfold Fq;rw[xwz H,if_pos H]
theorem xrr{r:Int}(M:0<=r)(hw:∀i,i<ds.length->0<=Ag ds i):∀i,i<(At r ds).length->0<=Ag (At r ds) i:=fun i H=>by
 unfold At at H⊢;rw[A5]at H;have:=hw i H;unfold Ag at this⊢;unfold Fq;rw[xwz H,if_pos H];show 0<=min (ds.getD i dz).want r;omega
theorem rat_new(hs:0<=min start size/\0<=size)(hw:∀i,i<ds.length->0<=Ag ds i)(H:0<=lo):∀k,Bi size start (ds++[nday lo hi]) k=Bi size start ds k
 |0=>rfl
 |k+1=>by
   have e:Bg size start (At ((k+1:Nat):Int) (ds++[nday lo hi]))<->Bg size start (At ((k+1:Nat):Int) ds):=by
    rw[xg0 om];exact lasts_new hs (xrr om hw) H
   rw[Bi,Bi,rat_new hs hw H k];by_cases c:Bg size start (At ((k+1:Nat):Int) ds)
   ·rw[if_pos c,if_pos (e.2 c)]
   ·rw[if_neg c,if_neg fun z=>c (e.1 z)]
theorem upTo_ext{p q:Nat->Bool}(h:∀k,p k=q k):∀(f k:Nat),Gx p k f=Gx q k f
 |0,_=>rfl
 |f+1,k=>by rw[Gx,Gx,h,upTo_ext h f]
theorem dry_new(hs:0<=min start size/\0<=size)(hw:∀i,i<ds.length->0<=Ag ds i)(H:0<=lo):Le size start (ds++[nday lo hi])=Le size start ds:=by
 have hn:=xa6 (size:=size) (start:=min start size) (hi:=hi) (ds:=ds) ⟨hs.1,om⟩ hw H
 have e:side size (min start size) (Ag (ds++[nday lo hi])) (C7 (ds++[nday lo hi])) (ds++[nday lo hi]).length=
  ((List.range ds.length).map fun i=>C0 size (min start size) (Ag (ds++[nday lo hi])) (C7 (ds++[nday lo hi])) i)++[C0 size (min start size) (Ag (ds++[nday lo hi])) (C7 (ds++[nday lo hi])) ds.length]:=by
  unfold side;rw[List.length_append,List.length_singleton,List.range_succ,List.map_append];rfl
 unfold Le;rw[e,Flow.idxA_snoc (by
  show decide (0<Al size (min start size) (Ag (ds++[nday lo hi])) (C7 (ds++[nday lo hi])) ds.length)=false;rw[hn];rfl)]
 have V:∀(n:Nat),n<=ds.length->Flow.Cp (fun d:Day=>decide (0<d.hi)) ((List.range n).map fun i=>C0 size (min start size) (Ag (ds++[nday lo hi])) (C7 (ds++[nday lo hi])) i)=
  Flow.Cp (fun d:Day=>decide (0<d.hi)) ((List.range n).map fun i=>C0 size (min start size) (Ag ds) (C7 ds) i):=fun n hn=>by
  have hm:∀(l:List Nat),(∀i∈l,i<ds.length)->Flow.Cp (fun d:Day=>decide (0<d.hi)) (l.map fun i=>C0 size (min start size) (Ag (ds++[nday lo hi])) (C7 (ds++[nday lo hi])) i)=
   Flow.Cp (fun d:Day=>decide (0<d.hi)) (l.map fun i=>C0 size (min start size) (Ag ds) (C7 ds) i):=fun l O=>by
   induction l with
   |nil=>rfl
   |cons x l ih=>
     have hx:(C0 size (min start size) (Ag (ds++[nday lo hi])) (C7 (ds++[nday lo hi])) x).hi=(C0 size (min start size) (Ag ds) (C7 ds) x).hi:=xds (xyr (by have:=O x s_;omega));rw[List.map_cons,List.map_cons,Flow.Cp,Flow.Cp,hx,ih fun i hi=>O i (List.mem_cons_of_mem _ hi)]
  exact hm _ fun i M=>by have:=List.mem_range.1 M;omega
 exact V _ (Nat.le_refl _)
end
end Go.X.Cist
namespace Go.X.Ms
open Go.X.Cist (Day nday Bg Av Gp Bi)
variable{d:Dsk}{t:Twn}
def wDay:Str:=[100,97,121]
def wRation:Str:=[114,97,116,105,111,110]
def wKeepS:Str:=[107,101,101,112,32,115,32,108,101,97,115,116]
def wSizeS:Str:=[115,105,122,101,32,115]
def dayT(t:Twn)(lo hi:Int):Twn:={t with y:={t.y with days:=t.y.days++[nday lo hi]}}
theorem ykt{lo hi:Int}(M:(-999999<=lo/\lo<=999999)/\(-999999<=hi/\hi<=999999)):doD d (sayK wDay [lo,hi,0] 3)=if Bp (dayT d.now.t lo hi)=0 then(setD d (dayT d.now.t lo hi),wOk)else(d,wNo):=by
 refine(xos (d:=d) (w:=wDay) (l:=[lo,hi,0]) (o:=.day) d_ d_ (fun z H=>?_) (by show qn (wDay++txt ((3:Nat):Int))=none;rw[xcj d_];kernel_rfl) (by show od (wDay++txt ((3:Nat):Int))=some .day;rw[xcj d_];kernel_rfl) rfl).trans rfl;simp only[List.mem_cons,List.not_mem_nil,or_false]at H;rcases H with rfl|rfl|rfl
 ·exact M.1
 ·exact M.2
 ·omega
theorem ysd:doD d wKeepS=De d .least [] [115]:=by
 have hs:Ad wKeepS=Cl::[115]::wLeast::[]:=by decide
 rw[xps hs d_];exact xtk (by rw[show(txt (([]:List Str).length:Nat))=[48] from xcj d_];rfl) rfl rfl
theorem yqd(h:Bp d.now.t=0):doD d wSizeS=if d.now.kept.getD 18 0=0 then(d,B8)else if d.now.t.y.start<=d.now.B1.getD 18 0/\d.now.B1.getD 18 0<=60 then(setD d (szT d.now.t (d.now.B1.getD 18 0)),wOk)else(d,wNo):=by
 have hs:Ad wSizeS=wSize::[[115]]:=by decide
 rw[xcn hs d_];have hv:Ki d.now [115]=if d.now.kept.getD 18 0=0 then none else some (d.now.B1.getD 18 0):=xrh d_
 by_cases c:d.now.kept.getD 18 0=0
 ·rw[if_pos c];rw[if_pos c]at hv;exact xyd d_ (.inr ⟨rfl,by show od (wSize++txt ((1:Nat):Int))≠none;rw[xgm];simp⟩) (by rw[Br,hv])
 ·rw[if_neg c];rw[if_neg c]at hv;refine(xow (o:=.size) (vs:=[d.now.B1.getD 18 0]) xn2 xgm d_ d_ (by rw[Br,hv];rfl)).trans ?_;show(if Bp (szT d.now.t (d.now.B1.getD 18 0))=0 then _ else _)=_;by_cases c:d.now.t.y.start<=d.now.B1.getD 18 0/\d.now.B1.getD 18 0<=60
  ·rw[if_pos c,if_pos ((xdv h _).2 c)];rfl
  ·rw[if_neg c,if_neg fun z=>c ((xdv h _).1 z)]
theorem xbn(d:Dsk):doD d wRation=(d,askT d.now.t (wRation,.ration,[])):=xdn (x:=(wRation,.ration,[])) ⟨d_,d_,fun x H=>(by cases H),by rw[show(txt (([]:List Int).length:Nat))=[48] from xcj d_];rfl⟩
theorem xz6(d:Dsk):doD d wLeast=(d,askT d.now.t (wLeast,.least,[])):=xdn (x:=(wLeast,.least,[])) ⟨d_,d_,fun x H=>(by cases H),by rw[show(txt (([]:List Int).length:Nat))=[48] from xcj d_];rfl⟩
theorem yvd(h:Bp t=0){lo hi:Int}(h':Bp (dayT t lo hi)=0):askT (dayT t lo hi) (wEmpty,.empty,[])=askT t (wEmpty,.empty,[])/\askT (dayT t lo hi) (wRation,.ration,[])=askT t (wRation,.ration,[])/\
 Av t.y.size t.y.start (t.y.days++[nday lo hi])=Av t.y.size t.y.start t.y.days/\ ∀z:Int,0<=z->(Bg z t.y.start (t.y.days++[nday lo hi])<->Bg z t.y.start t.y.days):=by
 have O:=Cist.A7.1 (xxq.1 h).2.2;have M:Cist.Ok t.y.size t.y.start (t.y.days++[nday lo hi]):=Cist.A7.1 (xxq.1 h').2.2;have hw:∀i,i<t.y.days.length->0<=Cist.Ag t.y.days i:=fun i V=>by have:=O.2.2.2.2.2 i V;unfold Cist.Di at this;exact this.2.2.2.2.1
 have H:0<=lo:=by
  have:=M.2.2.2.2.2 t.y.days.length (by rw[List.length_append,List.length_singleton];omega);rw[Cist.getD_snoc2]at this;exact this.1
 have hs:0<=min t.y.start t.y.size/\0<=t.y.size:=by have:=O.1;have:=O.2.2.1;omega
 have hL:∀z:Int,0<=z->(Bg z t.y.start (t.y.days++[nday lo hi])<->Bg z t.y.start t.y.days):=fun z hz=>Cist.lasts_new (by have:=O.2.2.1;omega) hw H;refine⟨?_,?_,?_,hL⟩
 ·show ansS (Gp t.y.size t.y.start (t.y.days++[nday lo hi])).2 (txt (Gp t.y.size t.y.start (t.y.days++[nday lo hi])).1)=ansS (Gp t.y.size t.y.start t.y.days).2 (txt (Gp t.y.size t.y.start t.y.days).1);unfold Cist.Gp;rw[if_pos O,if_pos M,Cist.dry_new hs hw H]
 ·show ansS (Cist.chk t.y.size t.y.start (t.y.days++[nday lo hi])) (txt (if Cist.Ok t.y.size t.y.start (t.y.days++[nday lo hi])then Bi t.y.size t.y.start (t.y.days++[nday lo hi]) 20 else 0))=ansS (Cist.chk t.y.size t.y.start t.y.days) (txt (if Cist.Ok t.y.size t.y.start t.y.days then Bi t.y.size t.y.start t.y.days 20 else 0));rw[if_pos O,if_pos M,Cist.Ei O,Cist.Ei M,Cist.rat_new hs hw H]
 ·unfold Cist.Av;rw[if_pos O,if_pos M,Cist.upTo_ext fun k=>?_];exact decide_eq_decide.2 (hL _ om)
theorem year(h:Bp t=0){lo hi:Int}(hl:(-999999<=lo/\lo<=999999)/\(-999999<=hi/\hi<=999999)):
 ∃a0 a1 a2 a3 H M t',E0 t [wEmpty,wRation,wKeepS,sayK wDay [lo,hi,0] 3,wEmpty,wRation,wLeast,wSizeS,wEmpty]=([a0,a1,a2,a3,a0,a1,a2,H,M],t')/\
  (a3=wOk<->Cist.chk t.y.size t.y.start (t.y.days++[nday lo hi])=0)/\(Cw a2=none->H=B8/\M=a0)/\ ∀n,Cw a2=some n->(H=wOk<->t.y.start<=n)/\(H=wOk->M=D9):=by
 have O:=Cist.A7.1 (xxq.1 h).2.2;obtain⟨e3,⟨n0,a4⟩,hL⟩:=Cist.size_iff O;rw[xkb h s_];have hk:doD (Ah t) wKeepS=De (Ah t) .least [] [115]:=ysd;have V:Bp (dayT t lo hi)=0<->Cist.chk t.y.size t.y.start (t.y.days++[nday lo hi])=0:=by
  obtain⟨h1,h2,h3⟩:=xxq.1 h;rw[xxq];exact⟨fun z=>z.2.2,fun z=>⟨h1,h2,z⟩⟩
 obtain⟨s,hs,es⟩:∃s:Eg,s.t=t/\doD (Ah t) wKeepS=(⟨s,[]⟩,askT t (wLeast,.least,[]))/\
  (((Av t.y.size t.y.start t.y.days).2=0/\s.kept.getD 18 0=1/\s.B1.getD 18 0=(Av t.y.size t.y.start t.y.days).1)\/((Av t.y.size t.y.start t.y.days).2=3/\s.kept.getD 18 0=0)):=by
  rw[hk];have eq:By .least (Ah t).now.t []=(.num (Av t.y.size t.y.start t.y.days).1,(Av t.y.size t.y.start t.y.days).2):=rfl;have ea:askT t (wLeast,.least,[])=ansS (Av t.y.size t.y.start t.y.days).2 (txt (Av t.y.size t.y.start t.y.days).1):=rfl;unfold De;rw[eq,ea];rcases e3 with e|e
  ·rw[e];exact⟨(F9 (Ah t) [115] (.num (Av t.y.size t.y.start t.y.days).1)).now,rfl,rfl,.inl ⟨rfl,rfl,rfl⟩⟩
  ·rw[e];exact⟨(Ah t).now,rfl,rfl,.inr ⟨rfl,rfl⟩⟩
 obtain⟨es,hc⟩:=es
 have tail:∀(u:Twn),Bp u=0->u.y.start=t.y.start->u.y.size=t.y.size->(∀z:Int,0<=z->(Bg z t.y.start u.y.days<->Bg z t.y.start t.y.days))->askT u (wEmpty,.empty,[])=askT t (wEmpty,.empty,[])->
  ∃H M t',Bw ⟨⟨u,s.B1,s.kept⟩,[]⟩ [wSizeS,wEmpty]=((Bw ⟨⟨u,s.B1,s.kept⟩,[]⟩ [wSizeS,wEmpty]).1,[H,M])/\(Bw ⟨⟨u,s.B1,s.kept⟩,[]⟩ [wSizeS,wEmpty]).1.now.t=t'/\
   (Cw (askT t (wLeast,.least,[]))=none->H=B8/\M=askT t (wEmpty,.empty,[]))/\ ∀n,Cw (askT t (wLeast,.least,[]))=some n->(H=wOk<->t.y.start<=n)/\(H=wOk->M=D9):=fun u hu e1 e2 b0 a6=>by
  have ea:askT t (wLeast,.least,[])=ansS (Av t.y.size t.y.start t.y.days).2 (txt (Av t.y.size t.y.start t.y.days).1):=rfl;have ez:=yqd (d:=⟨⟨u,s.B1,s.kept⟩,[]⟩) hu;have ez:doD ⟨⟨u,s.B1,s.kept⟩,[]⟩ wSizeS=if s.kept.getD 18 0=0 then(⟨⟨u,s.B1,s.kept⟩,[]⟩,B8)else if u.y.start<=s.B1.getD 18 0/\s.B1.getD 18 0<=60 then(⟨⟨szT u (s.B1.getD 18 0),s.B1,s.kept⟩,[]⟩,wOk)else(⟨⟨u,s.B1,s.kept⟩,[]⟩,wNo):=ez
  rw[Bw,ez,ea];rcases hc with⟨c0,ck,cn⟩|⟨c0,ck⟩
  ·rw[ck,cn,if_neg d_,c0,e1];have en:Cw (ansS 0 (txt (Av t.y.size t.y.start t.y.days).1))=some (Av t.y.size t.y.start t.y.days).1:=xww om;rw[en];by_cases c:t.y.start<=(Av t.y.size t.y.start t.y.days).1
   ·rw[if_pos ⟨c,a4⟩,Bw,xik];refine⟨_,_,_,rfl,rfl,fun z=>(by cases z),fun n hn=>⟨⟨fun _=>by cases hn;exact c,fun _=>rfl⟩,fun _=>?_⟩⟩;show askT (szT u _) _=_;rw[xmg ((xdv hu _).2 ⟨by rw[e1];exact c,a4⟩)];show Bg (Av t.y.size t.y.start t.y.days).1 u.y.start u.y.days;rw[e1,b0 _ n0];exact(hL _ n0 a4).2 ⟨c0,Int.le_refl _⟩
   ·rw[if_neg fun z=>c z.1,Bw,xik];exact⟨_,_,_,rfl,rfl,fun z=>(by cases z),fun n hn=>⟨⟨fun z=>absurd (show wNo=wOk from z) d_,fun z=>by cases hn;exact absurd z c⟩,fun z=>absurd (show wNo=wOk from z) d_⟩⟩
  ·rw[ck,if_pos rfl,c0];have en:Cw (ansS 3 (txt (Av t.y.size t.y.start t.y.days).1))=none:=by
    show Cw D9=none;decide
   rw[en,Bw,xik];exact⟨_,_,_,rfl,rfl,fun _=>⟨rfl,a6⟩,fun n hn=>by cases hn⟩
 have e0:doD (Ah t) wEmpty=(Ah t,askT t (wEmpty,.empty,[])):=xik _;have e1:doD (Ah t) wRation=(Ah t,askT t (wRation,.ration,[])):=xbn _;have ed:=ykt (d:=⟨s,[]⟩) hl;rw[hs]at ed;rw[Bw,e0,Bw,e1,Bw,es,Bw,ed];by_cases c:Bp (dayT t lo hi)=0
 ·rw[if_pos c];obtain⟨q1,q2,q3,q4⟩:=yvd h c;obtain⟨H,M,t',r1,r2,r3,r4⟩:=tail (dayT t lo hi) c rfl rfl q4 q1;have a5:setD ⟨s,[]⟩ (dayT t lo hi)=⟨⟨dayT t lo hi,s.B1,s.kept⟩,[]⟩:=rfl;have q5:askT (dayT t lo hi) (wLeast,.least,[])=askT t (wLeast,.least,[]):=by
   show ansS (Av t.y.size t.y.start (t.y.days++[nday lo hi])).2 (txt (Av t.y.size t.y.start (t.y.days++[nday lo hi])).1)=_;rw[q3];rfl
  simp only;rw[a5,Bw,xik,Bw,xbn,Bw,xz6,r1];refine⟨askT t (wEmpty,.empty,[]),askT t (wRation,.ration,[]),askT t (wLeast,.least,[]),wOk,H,M,t',Prod.ext ?_ r2,⟨fun _=>V.1 c,fun _=>rfl⟩,r3,r4⟩;simp only;rw[q1,q2,q5]
 ·rw[if_neg c];have a9:(⟨s,[]⟩:Dsk)=⟨⟨t,s.B1,s.kept⟩,[]⟩:=by rw[<- hs]
  obtain⟨H,M,t',r1,r2,r3,r4⟩:=tail t h rfl rfl (fun _ _=>Iff.rfl) rfl;simp only;rw[a9,Bw,xik,Bw,xbn,Bw,xz6,r1];exact⟨_,_,_,wNo,H,M,t',Prod.ext rfl r2,⟨fun z=>absurd z d_,fun z=>absurd (V.2 z) c⟩,r3,r4⟩
end Go.X.Ms
namespace Go.X
variable{aft:Array Edge}{b:Bool}{LL:List Pcs}{tm:List Value}{x y:Operand}{gd:Option (Nat×Bool)}{g:Option Bool}{d:Option Tmp}{p:Aa}{P:Program}{T T' ty:TypeId}
abbrev R37:List Nat:=[0,1,2,3,4,5,6,7,8,9,10,11,12,13,14,15,16,17,18,19,20,21,22,23,24,25,26,27,28,29,30,31,32,33,34,35,36]
theorem xf9{h:Heap}{pos:String}{a:Bool}(H:P.underlying T=some .bool)(O:evl tm x=.bool a)(M:evl tm y=.bool b):
 Exd P tm ⟨d,.binOp .eql T x y T',ty,pos,aft,gd⟩ h (.bool (a==b)):=by
 refine xpx O M (fun K z=>xjh z) ?_;simp only[binOp,Op.equal,Op.maxDepth];refine xaq (xbp H ?_);exact xbq ⟨rfl,rfl⟩
theorem yw1{X:Cx}{l:Env}{ss ss':List Prop}{a:Bool}(V:evS l x=some (ss,.bool a))(hy:evS l y=some (ss',.bool b))(hs:Ba g (Bb ss))(H:Ba g (Bb ss'))(O:X.P.underlying T=some .bool:=by kernel_rfl):Yl X p LL l g (.binOp .eql T x y T') (.bool (a==b)):=⟨rfl,(xkk hs H fun h1 h2 _ _ _ E _=>xf9 O (xdq E V h1) (xdq E hy h2))⟩
end Go.X
namespace Go.Proofs.YtadndcpcjmmngaaGreatDoor
open Go.Proofs.Tryz
open Go.X Go.X.Ms Go.Conc Go.RowKit Go.ChangeShapes Go.WideShapes Go.ChangeAt Go.Joins
variable{h z9:Heap}{l:List Int}{zz:List Nat}{v:Value}{W:World}
theorem yqz{H:Type}{enc:TypeId×Value->H}{M:Nat}{d:DataW H}{p:List MemPlace}(hv:Value.okWide prog W .any M 45 v)(h:DataW.Trod enc prog W 0 (fun _=>true) true 45 v d p):
 ∃a b:Int,v=.agg #[.J a,.J b]:=by
 obtain⟨cs,rfl,a2⟩:=okWide_struct underlying45 hv;obtain⟨fuel,hf⟩:=h;obtain⟨y0,y1,n,_,hl,h0,h1⟩:=trod_struct2 underlying45 hf;rw[pCp]at hl;obtain⟨a,O⟩:=xvz h0;obtain⟨b,V⟩:=xvz h1;obtain⟨l⟩:=cs
 match l,hl with
 |[c0,c1],_=>
   simp[pCi,Value.cells]at O V;exact⟨a,b,by rw[O,V]⟩
open Go.X Go.X.Ms Go.Conc
open Go.X.Flow (ics)
variable{ls:List Str}{p:Aa}{Y:Pcs}{A:TA}{t:Twn}
def RunX(p:Aa)(t:Twn)(ls:List Str)(v:Value)(Y:Pcs):Prop:=∃(a:Option Addr)(c:Nat)(A:TA),v=.tuple #[.slice a ls.length c,twV A (E0 t ls).2,.bool true]/\ls.length<=c/\ ∀p',PLe p p'->(∀y∈Y,p' y.1=some y.2)->Bs p' a ls.length (E0 t ls).1/\TwP p' A (E0 t ls).2
theorem yrw{L:Pcs}(o:Ab 9 1 v (scs ls) Y)(s:St z9 zz p h (Y++L))(T:TwP p A t)(g:GlP p)(M:∀s∈ls,s.length<=900)(hv:Bp t=0)(V:ls.length<=30):
 Ac prog (.main true) 10 #[twV A t,v] h fun v' h'=>∃Z,RunX p t ls v' Z/\New h h' Z:=by
 obtain⟨p',⟨g',gl⟩,hy,s'⟩:=s.D6;obtain⟨a,c,e,S⟩:=o.inP hy;subst e;rw[xwx]at S⊢;refine(yxp h p s.per p' s'.per g'.le A t T g a c ls S M hv V).mono fun v' h' x=>?_;obtain⟨Z,⟨p2,⟨a2,c2,A2,e2,O,S2,T2⟩,le⟩,N⟩:=x.pieces;exact⟨Z,⟨a2,c2,A2,e2,O,fun H l y=>⟨Bs.mono (le H l y) S2,T2.mono (le H l y)⟩⟩,N⟩
theorem yzp{L:Pcs}(o:Ab 9 1 v (scs ls) Y)(s:St z9 zz p h (Y++L))(T:TwP p A t)(g:GlP p)(M:∀s∈ls,s.length<=900)(hv:Bp t=0)(O:ls.length<=30):
 Ac prog (.main true) 10 #[twV A t,v] h fun v' h'=>∃Z,RunX p t ls v' (Z++Y)/\New h h' Z:=
 (yrw o s T g M hv O).mono fun _ _⟨Z,⟨a,c,A2,e,hc,V⟩,N⟩=>⟨Z,⟨a,c,A2,e,hc,fun H l y=>V H l fun z hz=>y z (List.mem_append_left _ hz)⟩,N⟩
theorem xjd{L:Pcs}{w:Str}{n:Nat}{md:Md}(o:Ab 3 1 v (ics l) Y)(hl:l.length=n)(s:St z9 zz p h (Y++L))(hw:w.length<=1000)(hn:n<=100)(V:sm6 l):
 Ac prog md 9 #[sv w,v] h fun v' H=>∃Z,(v'=sv (sayK w l n)/\Z=[])/\New h H Z:=by
 obtain⟨p',⟨g',gl⟩,O,M⟩:=s.D6;obtain⟨a,c,e,S⟩:=o.inP O;subst e;rw[xpq,hl]at S⊢;exact(cf9 M.per w hw n c l S hn fun i hi=>by
  have:=V (l.getD i 0) (by rw[Flow.A8 om];exact List.getElem_mem _);omega).mono fun v' H⟨e,k⟩=>⟨[],⟨e,rfl⟩,New.of k⟩
open Go.X.Cist (Day Bl dcs Ct Aj nday)
theorem yw2(h:Heap)(p:Aa)(hp:Per p h)(A:TA)(t:Twn)(T:TwP p A t)(hn:t.fit 9223372036854775807)(g:GlP p)(lo hi:Int):Fl prog (.main true) 4 #[twV A t,.agg #[.J lo,.J hi]] h fun v h'=>v=.bool true/\As h h':=by
 refine xv6 hp func4 ?_;refine bq fun b2=>?_;refine bq fun b3=>?_;refine ax ?_;refine xtx rfl fun v1 Y1 o1=>?_;have o1:Ab 3 1 v1 (ics [lo,hi]) Y1:=o1;refine xhx o1 (m:=2) rfl d_ fun p1 a1 c1 g1 e1 _ S1=>?_;subst e1;have T1:=T.mono g1.le;have G1:=g.mono g1.le;refine ax ?_;refine xrx rfl rfl (cf12 2 c1 [lo,hi] S1 om) ?_;refine cq (fun _=>?_) (fun cc=>?_)
 ·refine cdq (cf8 G1) ?_;refine ax ?_;exact xwc k_ func4 rfl rfl fun _ H_=>⟨rfl,H_.kept⟩
 have hl:(-999999<=lo/\lo<=999999)/\(-999999<=hi/\hi<=999999):=by
  simp at cc;omega
 have s3:sm6 [lo,hi,0]:=fun z hz=>by
  simp only[List.mem_cons,List.not_mem_nil,or_false]at hz;rcases hz with rfl|rfl|rfl<;>omega
 refine ax ?_;refine xtx rfl fun v2 Y2 o2=>?_;have o2:Ab 3 1 v2 (ics [lo,hi,0]) Y2:=o2;refine ax ?_;refine xzt rfl rfl (fun h s=>xjd (w:=wDay) (n:=3) o2 rfl s d_ d_ s3) fun v3 Y3 q3=>?_;obtain⟨rfl,rfl⟩:=q3;obtain⟨z1,e2⟩:∃z,z=sayK wDay [lo,hi,0] 3:=⟨_,rfl⟩
 rw[<- e2];have l1:z1.length<=900:=by
  have:=xxh (w:=wDay) (l:=[lo,hi,0]) (fun i a5=>by
   have:=s3 (List.getD [lo,hi,0] i 0) (by rw[Flow.A8 a5];exact List.getElem_mem _);exact⟨om,om⟩) 3 s_
  have e:wDay.length=3:=rfl;rw[e2];omega
 have b0:∀s∈[wEmpty,wRation,wKeepS,z1,wEmpty,wRation,wLeast,wSizeS,wEmpty],s.length<=900:=fun s hs=>by
  simp only[List.mem_cons,List.not_mem_nil,or_false]at hs;rcases hs with rfl|rfl|rfl|rfl|rfl|rfl|rfl|rfl|rfl<;>first|assumption|decide
 refine ax ?_;refine xtx (cells:=#[sv wEmpty,sv wRation,sv wKeepS,sv z1,sv wEmpty,sv wRation,sv wLeast,sv wSizeS,sv wEmpty]) rfl (fun v5 Y5 o5=>?_) (hf:=by kernel_rfl) (hc:=by kernel_rfl) (hw:=by kernel_rfl) (hn:=by kernel_rfl);have o5:Ab 9 1 v5 (scs [wEmpty,wRation,wKeepS,z1,wEmpty,wRation,wLeast,wSizeS,wEmpty]) Y5:=o5;refine xhx o5 (m:=9) rfl d_ fun p2 a4 c4 g2 e4 _ S4=>?_;subst e4;have S4:Bs p2 a4 9 [wEmpty,wRation,wKeepS,z1,wEmpty,wRation,wLeast,wSizeS,wEmpty]:=S4;have T2:=T1.mono g2.le;have G2:=G1.mono g2.le;refine ckq (xn3 A t T2 hn 9 c4 _ S4) ?_;rintro _ ⟨q,rfl,O⟩;refine cq (fun _=>?_) (fun cc=>?_)
 ·refine cdq (cf8 G2) ?_;refine ax ?_;exact xwc k_ func4 rfl rfl fun _ H_=>⟨rfl,H_.kept⟩
 obtain⟨hv,_,_⟩:=O (by simpa using cc);obtain⟨a0,M,V,a3,a7,a8,t',hR,h1,h2,h3⟩:=year hv hl;rw[<- e2]at hR;refine ax ?_;refine xwv rfl rfl (fun h pe=>cf10 pe A t T2 G2 c4 [wEmpty,wRation,wKeepS,z1,wEmpty,wRation,wLeast,wSizeS,wEmpty] S4 b0 hv (show(9:Nat)<=30 by decide)) ?_;rintro _ p6 g6 ⟨a6,c6,A6,rfl,b4,H,T6⟩;rw[hR]at H T6⊢;rw[show([wEmpty,wRation,wKeepS,z1,wEmpty,wRation,wLeast,wSizeS,wEmpty]:List Str).length=9 from rfl];have H:Bs p6 a6 9 [a0,M,V,a3,a0,M,V,a7,a8]:=H;have S7:Sl p6 a6 9 1 (scs [a0,M,V,a3,a0,M,V,a7,a8]):=H;have Tp:=T2.mono g6.le;have G6:=G2.mono g6.le;have hd:=(xhz hv).2.2;clear hR b0 S4 S1;refine lq fun b7=>?_;refine lq fun b9=>?_;refine ax ?_
 refine xqd 8 [4,7] [1,2,3,5,6] [0,4,7] (fun i=>match i with|4=>[0]|_=>[]) (fun i=>match i with|2=>[1]|3=>[2]|4=>[0,3]|6=>[5]|7=>[6]|_=>[])
  (fun i _ _ v x=>match i with
   |0=>Ab 48 3 v [] x
   |1=>v=w_ b2 8/\x=[]
   |2=>v=w_ b2 10/\x=[]
   |3=>v=.slice A.d.1 t.y.days.length A.d.2/\x=[]
   |4=>Ab 48 3 v (dcs t.y.days) x
   |5=>v=.agg #[.J lo,.J hi]/\x=[]
   |6=>v=.agg #[.J lo,.J hi,.J 0]/\x=[]
   |7=>Ab 48 3 v (dcs [nday lo hi]) x
   |_=>True) (fun i a5 val piece O=>?_) (fun val piece j hj v x q=>?_) (fun val piece O=>?_)
 ·match i,a5 with
   |0,_=>
     refine xjk rfl rfl fun v Y o=>?_;have o:Ab 48 3 v [] Y:=o;exact xjz ⟨⟨_,rfl⟩,fun v' e=>by
      have e':=xqx e;subst e';show Ab _ _ _ _ ([Y]++[]).flatten;have ey:([Y]++([]:List Pcs)).flatten=Y:=by simp
      rw[ey];exact o⟩
   |1,_=>
     exact det
   |2,_=>
     refine de_y rfl rfl (y_fb (by show some ([],val 1)=_;rw[(O 1 rfl).1]) sdt) ?_;exact det
   |3,_=>
     refine de_y rfl rfl (y_ld (by show some ([],val 2)=_;rw[(O 2 rfl).1]) sdt (b:=b2) (off:=10) (cs:=(tcs A t).toArray) (T:=33) (z:=(0,0))) ?_;exact det
   |4,_=>
     have o1:Ab 48 3 (val 0) [] (piece 0):=O 0 rfl;show DE _ _ _ _ _ _ _ _ _ [piece 0];refine xsf rfl rfl (by show some ([],val 3)=_;rw[(O 3 rfl).1]) o1 Tp.d (Ct _) (by simp;omega) fun v Y o=>?_;rw[List.nil_append]at o;exact xjz ⟨⟨_,rfl⟩,fun v' e=>by
      have e':=xqx e;subst e';show Ab _ _ _ _ ([Y]++[]).flatten;have ey:([Y]++([]:List Pcs)).flatten=Y:=by simp
      rw[ey];exact o⟩
   |5,_=>
     exact det
   |6,_=>
     refine de_y rfl rfl (y_bd (by rw[<- (O 5 rfl).1];rfl) (vs:=[(0,.agg #[.J lo,.J hi])])) ?_;exact det
   |7,_=>
     refine xjk (vs:=[(0,.agg #[.J lo,.J hi,.J 0])]) rfl (by rw[<- (O 6 rfl).1];rfl) fun v Y o=>?_;have o:Ab 48 3 v (dcs [nday lo hi]) Y:=o;exact xjz ⟨⟨_,rfl⟩,fun v' e=>by
      have e':=xqx e;subst e';show Ab _ _ _ _ ([Y]++[]).flatten;have ey:([Y]++([]:List Pcs)).flatten=Y:=by simp
      rw[ey];exact o⟩
 ·simp only[List.mem_cons,List.not_mem_nil,or_false]at hj;rcases hj with rfl|rfl|rfl|rfl|rfl<;>exact q.2
 have o1:Ab 48 3 (val 4) (dcs t.y.days) (piece 4):=O 4 d_;have o2:Ab 48 3 (val 7) (dcs [nday lo hi]) (piece 7):=O 7 d_;refine xkw (l':=[(2,none,w_ b2 0),(6,none,.slice a6 9 c6),(8,none,.bool true),(9,none,w_ b9 0),(45,none,val 4),(48,none,val 7)]) ?_ ⟨rfl,rfl,rfl,rfl,rfl,rfl,trivial⟩;clear O;generalize val 4=u1 at*;generalize val 7=u2 at*;show RO _ _ _ _ _ _ [piece 4,piece 7,_,_,_,_,_,_];generalize piece 4=Z1 at*;generalize piece 7=Z2 at*;refine ax ?_;refine xbv rfl rfl o1 o2 (Ct _) (by rw[Aj,Aj];simp;omega) fun u3 Z3 o3=>?_;have o3:Ab 48 3 u3 (dcs (t.y.days++[nday lo hi])) Z3:=o3.as (by simp[dcs]);refine xhx o3 (m:=(t.y.days++[nday lo hi]).length) (Aj _) d_ fun p7 a9 c9 g7 e7 _ D7=>?_;subst e7;have H:Bs p7 a6 9 [a0,M,V,a3,a0,M,V,a7,a8]:=Sl.mono g7.le H;have S7:Sl p7 a6 9 1 (scs [a0,M,V,a3,a0,M,V,a7,a8]):=H;have G7:=G6.mono g7.le;refine drq [] R37 ?_;refine de_y rfl rfl (xkz rfl rfl sdu sdu (fun _=>⟨⟨om,om⟩,Sl.ne S7 om⟩)) ?_;refine de_y rfl rfl (xoz rfl sdu (fun _=>Bs.get H (i:=3) om) (u:=sv a3)) ?_;refine ex ?_;refine xxk rfl rfl rfl rfl sdu (fun _=>cf13 t.y.size t.y.start c9 (t.y.days++[nday lo hi]) D7 (by simp;omega)) ?_;refine ex ?_;refine de_y rfl rfl (ylp rfl rfl sdu sdu) ?_;refine ex ?_;refine de_y rfl rfl (xkz rfl rfl sdu sdu (fun _=>⟨⟨om,om⟩,Sl.ne S7 om⟩)) ?_;refine de_y rfl rfl (xoz rfl sdu (fun _=>Bs.get H (i:=0) om) (u:=sv a0)) ?_;refine ex ?_;refine de_y rfl rfl (xkz rfl rfl sdu sdu (fun _=>⟨⟨om,om⟩,Sl.ne S7 om⟩)) ?_;refine de_y rfl rfl (xoz rfl sdu (fun _=>Bs.get H (i:=4) om) (u:=sv a0)) ?_;refine ex ?_;refine de_y rfl rfl (ych rfl rfl sdu sdu) ?_;refine ex ?_;refine de_y rfl rfl (xkz rfl rfl sdu sdu (fun _=>⟨⟨om,om⟩,Sl.ne S7 om⟩)) ?_;refine de_y rfl rfl (xoz rfl sdu (fun _=>Bs.get H (i:=1) om) (u:=sv M)) ?_;refine ex ?_;refine de_y rfl rfl (xkz rfl rfl sdu sdu (fun _=>⟨⟨om,om⟩,Sl.ne S7 om⟩)) ?_;refine de_y rfl rfl (xoz rfl sdu (fun _=>Bs.get H (i:=5) om) (u:=sv M)) ?_;refine ex ?_;refine de_y rfl rfl (ych rfl rfl sdu sdu) ?_;refine ex ?_;refine de_y rfl rfl (xkz rfl rfl sdu sdu (fun _=>⟨⟨om,om⟩,Sl.ne S7 om⟩)) ?_;refine de_y rfl rfl (xoz rfl sdu (fun _=>Bs.get H (i:=2) om) (u:=sv V)) ?_;refine ex ?_;refine de_y rfl rfl (xkz rfl rfl sdu sdu (fun _=>⟨⟨om,om⟩,Sl.ne S7 om⟩)) ?_;refine de_y rfl rfl (xoz rfl sdu (fun _=>Bs.get H (i:=6) om) (u:=sv V)) ?_;refine ex ?_;refine cq (fun cd=>?_) (fun _=>?_)
 ·exfalso;rcases cd with(((c|c)|c)|c)|c
  ·exact c trivial
  ·exact c (by rw[beq_iff_eq,Bool.eq_iff_iff,decide_eq_true_eq,decide_eq_true_eq];exact h1)
  ·exact c rfl
  ·exact c rfl
  ·exact c rfl
 refine ax ?_;refine ro_y rfl (y_lp rfl (Bs.get H (i:=2) om)) ?_;refine cdq (cf11 V) ?_;cases hN:Cw V with
 |none=>
   obtain⟨rfl,rfl⟩:=h2 hN;rw[show Na none=.tuple #[.J 0,.bool false] from rfl];refine cq (fun _=>?_) (fun c=>?_);rotate_left
   ·exact(c fun z=>z).elim
   refine drq [] R11 ?_;refine de_y rfl rfl (y_lp rfl (Bs.get H (i:=7) om)) ?_;refine ex ?_;refine de_y rfl rfl (xkz rfl rfl sdu sdu (fun _=>⟨⟨om,om⟩,Sl.ne S7 om⟩)) ?_;refine de_y rfl rfl (xoz rfl sdu (fun _=>Bs.get H (i:=8) om) (u:=sv a8)) ?_;refine ex ?_;refine de_y rfl rfl (xkz rfl rfl sdu sdu (fun _=>⟨⟨om,om⟩,Sl.ne S7 om⟩)) ?_;refine de_y rfl rfl (xoz rfl sdu (fun _=>Bs.get H (i:=4) om) (u:=sv a8)) ?_;refine xa ?_;refine cgq (fun _=>cf8 G7) ?_;refine ax ?_;exact xwc k_ func4 rfl rfl fun _ H_=>⟨congrArg Value.bool (by simp;decide),H_.kept⟩
 |some n=>
   have h3:=h3 n hN;rw[show Na (some n)=.tuple #[.J n,.bool true] from rfl];refine cq (fun c=>?_) (fun _=>?_)
   ·exact(c trivial).elim
   refine drq [] R9 ?_;refine de_y rfl rfl (y_lp rfl (Bs.get H (i:=7) om)) ?_;refine xa ?_;refine ro_y rfl (yw1 rfl rfl sdt sdt) ?_;refine ax ?_;refine ro_y rfl (xkz rfl rfl sdu sdu (fun _=>⟨⟨om,om⟩,Sl.ne S7 om⟩)) ?_;refine ro_y rfl (xoz rfl sdu (fun _=>Bs.get H (i:=7) om) (u:=sv a7)) ?_;refine ax ?_;refine ro_y rfl (xkz rfl rfl sdu sdu (fun _=>⟨⟨om,om⟩,Sl.ne S7 om⟩)) ?_;refine ro_y rfl (xoz rfl sdu (fun _=>Bs.get H (i:=8) om) (u:=sv a8)) ?_;refine cgq (fun _=>cf8 G7) ?_;refine ax ?_;exact xwc k_ func4 rfl rfl fun _ H_=>⟨congrArg Value.bool (by
    show(decide (a7=wOk)==decide (t.y.start<=n)&&(!decide (a7=wOk)||decide (a8=D9))&&true)=true;by_cases c:a7=wOk
    ·rw[decide_eq_true c,decide_eq_true (h3.1.1 c),decide_eq_true (h3.2 c)];rfl
    ·rw[decide_eq_false c,decide_eq_false fun z=>c (h3.1.2 z)];rfl),H_.kept⟩
end Go.Proofs.YtadndcpcjmmngaaGreatDoor
