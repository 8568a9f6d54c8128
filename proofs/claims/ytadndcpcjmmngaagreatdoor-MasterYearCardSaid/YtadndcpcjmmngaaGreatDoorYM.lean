/-
  Part of proofs about a town's master: a calculus for Bj beside goroutines that are only leaving, and the Bj. No condition.
-/
import Derived.Test.YtadndcpcjmmngaaGreatDoorYU
import Derived.Test.YtadndcpcjmmngaaGreatDoorYV
set_option maxHeartbeats 1600000
set_option maxRecDepth 20000
set_option synthInstance.maxSize 2000
namespace Go.X.Ms
open Go.X.Flow (Tn Ch Am C6 Ht Cc LKc C2 Ls Fg Ev)
open Go.X.Cist (Day Bl chk Av Cn Bi Gp Hh)
structure Yr where
 size:Int
 start:Int
 days:List Day
structure Twn where
 s:Shf
 b:Tn
 y:Yr
noncomputable def Bp(t:Twn):Int:=if Hd t.s=0/\C6 t.b=0/\chk t.y.size t.y.start t.y.days=0 then 0 else 120
inductive Qn where
 |fewest|cheap|deep|next|Ea|Ca|draws|dry|short|empty|least|ration|spare|level
def Qn.ar:Qn->Nat
 |.deep|.next|.draws|.dry|.spare|.level=>1
 |_=>0
def qn(w:Str):Option Qn:=
 if w=[102,101,119,101,115,116,48]then some .fewest
 else if w=[99,104,101,97,112,48]then some .cheap
 else if w=[100,101,101,112,49]then some .deep
 else if w=[110,101,120,116,49]then some .next
 else if w=[109,111,115,116,48]then some .Ea
 else if w=[108,97,99,107,115,48]then some .Ca
 else if w=[100,114,97,119,115,49]then some .draws
 else if w=[100,114,121,49]then some .dry
 else if w=[115,104,111,114,116,48]then some .short
 else if w=[101,109,112,116,121,48]then some .empty
 else if w=[108,101,97,115,116,48]then some .least
 else if w=[114,97,116,105,111,110,48]then some .ration
 else if w=[115,112,97,114,101,49]then some .spare
 else if w=[108,101,118,101,108,49]then some .level
 else none
inductive Od where
 |Kz|Fm|up|Er|Kf|want|has|way|day|size
def Od.ar:Od->Nat
 |.Kz=>4
 |.up=>0
 |.want|.has|.way=>2
 |.day=>3
 |_=>1
def od(w:Str):Option Od:=
 if w=[114,111,99,107,52]then some .Kz
 else if w=[102,111,111,116,49]then some .Fm
 else if w=[117,112,48]then some .up
 else if w=[104,111,117,115,101,49]then some .Er
 else if w=[119,101,108,108,49]then some .Kf
 else if w=[119,97,110,116,50]then some .want
 else if w=[104,97,115,50]then some .has
 else if w=[119,97,121,50]then some .way
 else if w=[100,97,121,51]then some .day
 else if w=[115,105,122,101,49]then some .size
 else none
inductive Rs where
 |num (n:Int)
 |spn (a b:Int)
 |lst (l:List Int)
noncomputable def By(q:Qn)(t:Twn)(a:List Int):Rs×Int:=match q with
 |.fewest=>(.num (Ef t.s),B7 ltF t.s)
 |.cheap=>(.num (Cg t.s),B7 ltC t.s)
 |.deep=>(.num (Hb t.s (a.getD 0 0)),Ko t.s (a.getD 0 0))
 |.next=>(.num (Gg t.s (a.getD 0 0)),E4 t.s (a.getD 0 0))
 |.Ea=>(.num (Cc t.b),C6 t.b)
 |.Ca=>(.lst (LKc t.b),C6 t.b)
 |.draws=>(.spn (C2 t.b (a.getD 0 0) (-1)) (C2 t.b (a.getD 0 0) 1),Ht t.b (decide (0<=a.getD 0 0/\a.getD 0 0<=(t.b.nH:Int)-1)))
 |.dry=>(.num (Ls t.b (a.getD 0 0)),Ht t.b (decide (0<=a.getD 0 0/\a.getD 0 0<=(t.b.nW:Int)-1)))
 |.short=>(.lst (Fg t.b),Ev t.b)
 |.empty=>(.num (Gp t.y.size t.y.start t.y.days).1,(Gp t.y.size t.y.start t.y.days).2)
 |.least=>(.num (Av t.y.size t.y.start t.y.days).1,(Av t.y.size t.y.start t.y.days).2)
 |.ration=>(.num (if Cist.Ok t.y.size t.y.start t.y.days then Bi t.y.size t.y.start t.y.days 20 else 0),chk t.y.size t.y.start t.y.days)
 |.spare=>(.num (Cn t.y.size t.y.start t.y.days (a.getD 0 0)).1,(Cn t.y.size t.y.start t.y.days (a.getD 0 0)).2)
 |.level=>(.spn (Hh t.y.size t.y.start t.y.days (a.getD 0 0)).1.1 (Hh t.y.size t.y.start t.y.days (a.getD 0 0)).1.2,(Hh t.y.size t.y.start t.y.days (a.getD 0 0)).2)
def Fw:List Int->Str
 |[]=>[]
 |x::xs=>32::(txt x++Fw xs)
def Ny:List Int->Str
 |[]=>[110,111,116,104,105,110,103]
 |x::xs=>txt x++Fw xs
def Rs.text:Rs->Str
 |.num n=>txt n
 |.spn a b=>txt a++([32,116,111,32]++txt b)
 |.lst l=>Ny l
def Ka(l:List Int)(i x:Int):Option (List Int):=if 0<=i/\i<(l.length:Int)then some (l.set i.toNat x)else none
def Ml(w x:Ch):Bool:=decide (w.1<x.1\/w.1=x.1/\w.2<x.2)
def Kp(H:List Ch)(w:Ch):Nat:=if Flow.Cp (Ml w) H<0 then H.length else(Flow.Cp (Ml w) H).toNat
def Pm(H:List Ch)(w:Ch):List Ch:=H.take (Kp H w)++w::H.drop (Kp H w)
def C4(o:Od)(t:Twn)(a:List Int):Option Twn:=match o with
 |.Kz=>some {t with s:={t.s with Ai:=t.s.Ai++[⟨a.getD 0 0,a.getD 1 0,a.getD 2 0,a.getD 3 0⟩]}}
 |.Fm=>some {t with s:={t.s with Af:=t.s.Af++[a.getD 0 0]}}
 |.up=>if t.s.Af.length=0 then none else some {t with s:={t.s with Af:=t.s.Af.take (t.s.Af.length-1)}}
 |.Er=>some {t with b:={t.b with hs:=t.b.hs++[a.getD 0 0]}}
 |.Kf=>some {t with b:={t.b with ws:=t.b.ws++[a.getD 0 0]}}
 |.want=>(Ka t.b.hs (a.getD 0 0) (a.getD 1 0)).map fun l=>{t with b:={t.b with hs:=l}}
 |.has=>(Ka t.b.ws (a.getD 0 0) (a.getD 1 0)).map fun l=>{t with b:={t.b with ws:=l}}
 |.way=>some {t with b:={t.b with wy:=Pm t.b.wy (a.getD 0 0,a.getD 1 0)}}
 |.day=>some {t with y:={t.y with days:=t.y.days++[⟨a.getD 0 0,a.getD 1 0,a.getD 2 0⟩]}}
 |.size=>some {t with y:={t.y with size:=a.getD 0 0}}
structure Eg where
 t:Twn
 B1:List Int
 kept:List Int
structure Dsk where
 now:Eg
 Cu:List Eg
def D5(s:Str):Nat:=(s.headD 0).toNat-97
def Ki(d:Eg)(s:Str):Option Int:=if isLet s=true then(if d.kept.getD (D5 s) 0=0 then none else some (d.B1.getD (D5 s) 0))else some ((Cw s).getD 0)
def Br(d:Eg):List Str->Option (List Int)
 |[]=>some []
 |s::ss=>match Ki d s with
   |none=>none
   |some n=>(Br d ss).map (n:: ·)
def F9(d:Dsk)(H:Str):Rs->Dsk
 |.num n=>{d with now:={d.now with B1:=d.now.B1.set (D5 H) n,kept:=d.now.kept.set (D5 H) 1}}
 |_=>d
def D9:Str:=[110,111,110,101]
def Gk:Str:=[119,114,111,110,103]
def Fj:Str:=[119,104,97,116]
def B8:Str:=[117,110,107,110,111,119,110]
def wOk:Str:=[111,107]
def wNo:Str:=[110,111]
def Dy:Str:=[98,101,103,105,110]
def Ox:Str:=[101,110,100]
def F5:Str:=[100,114,111,112]
def Cl:Str:=[107,101,101,112]
noncomputable def De(d:Dsk)(q:Qn)(a:List Int)(H:Str):Dsk×Str:=
 if(By q d.now.t a).2=3 then(d,D9)
 else if(By q d.now.t a).2≠0 then(d,Gk)
 else(if H≠[]then F9 d H (By q d.now.t a).1 else d,(By q d.now.t a).1.text)
def tryD(d:Dsk)(w:Str):Dsk×Bool:=
 if w=Dy then({d with Cu:=d.Cu++[d.now]},true)
 else match d.Cu.getLast? with
  |none=>(d,false)
  |some x=>if w=F5 then(⟨x,d.Cu.take (d.Cu.length-1)⟩,true)else(⟨d.now,d.Cu.take (d.Cu.length-1)⟩,true)
def Hs(b:Bool):Str:=if b then wOk else wNo
def Cq(w:Str)(n:Nat):Bool:=decide (n=0)&&(decide (w=Dy)||decide (w=Ox)||decide (w=F5))
noncomputable def Cr(d:Dsk)(H:Str)(parts:List Str):Dsk×Str:=
 let word:=parts.headD []
 let args:=parts.tail
 let how:=qn (word++txt args.length)
 let N6:=od (word++txt args.length)
 if args.all Bc=false\/(how=none/\(H≠[]\/(N6=none/\Cq word args.length=false)))then(d,Fj)
 else match Br d.now args with
  |none=>(d,B8)
  |some vs=>match how with
    |some q=>De d q vs H
    |none=>if Cq word args.length=true then((tryD d word).1,Hs (tryD d word).2)
      else match N6 with
       |none=>(d,wNo)
       |some o=>match C4 o d.now.t vs with
         |none=>(d,wNo)
         |some t=>if Bp t=0 then({d with now:={d.now with t:=t}},wOk)else(d,wNo)
noncomputable def doD(d:Dsk)(H:Str):Dsk×Str:=
 let parts:=Ad H
 if parts.headD []=Cl then(if parts.length<3\/isLet (parts.getD 1 [])=false then(d,Fj)else Cr d (parts.getD 1 []) (parts.drop 2))else Cr d [] parts
noncomputable def Bw:Dsk->List Str->Dsk×List Str
 |d,[]=>(d,[])
 |d,x::xs=>((Bw (doD d x).1 xs).1,(doD d x).2::(Bw (doD d x).1 xs).2)
def Ah(t:Twn):Dsk:=⟨⟨t,List.replicate 26 0,List.replicate 26 0⟩,[]⟩
open Go.X.Flow (Tn Ch Am)
open Go.X.Cist (Day Bl)
abbrev AC:=Option Addr×Nat
structure TA where
 r:AC
 f:AC
 h:AC
 w:AC
 y:AC
 d:AC
abbrev tcs(A:TA)(t:Twn):List Value:=[.slice A.r.1 t.s.Ai.length A.r.2,.slice A.f.1 t.s.Af.length A.f.2,.J t.s.deep,.J t.s.Cs,.J t.s.rest,.slice A.h.1 t.b.nH A.h.2,.slice A.w.1 t.b.nW A.w.2,.slice A.y.1 t.b.m A.y.2,.J t.y.size,.J t.y.start,.slice A.d.1 t.y.days.length A.d.2]
structure TwP(p:Aa)(A:TA)(t:Twn):Prop where
 s:Cz p A.r.1 A.f.1 t.s
 b:Am p A.h.1 t.b.nH A.w.1 t.b.nW A.y.1 t.b.m t.b
 d:Bl p A.d.1 t.y.days.length t.y.days
 c:(t.s.Ai.length<=A.r.2/\t.s.Af.length<=A.f.2)/\(t.b.nH<=A.h.2/\t.b.nW<=A.w.2/\t.b.m<=A.y.2)/\t.y.days.length<=A.d.2
theorem TwP.mono{p p':Aa}{A:TA}{t:Twn}(T:TwP p A t)(H:PLe p p'):TwP p' A t:=⟨T.s.mono H,⟨T.b.h.mono H,T.b.w.mono H,T.b.y.mono H⟩,Sl.mono H T.d,T.c⟩
def Twn.fit(t:Twn)(n:Nat):Prop:=(t.s.Ai.length<=n/\t.s.Af.length<=n)/\(t.b.nH<=n/\t.b.nW<=n/\t.b.m<=n)/\t.y.days.length<=n
theorem xxq{t:Twn}:Bp t=0<->Hd t.s=0/\Flow.C6 t.b=0/\Cist.chk t.y.size t.y.start t.y.days=0:=by
 unfold Bp;split
 ·rename_i h;simp[h]
 ·rename_i h;simp only[h];simp
theorem xhz{t:Twn}(h:Bp t=0):t.fit 12:=by
 obtain⟨H,V,h3⟩:=xxq.1 h;have s:t.s.ok:=by
  unfold Hd at H;split at H
  ·assumption
  ·cases H
 obtain⟨O,v⟩:=Flow.Em V;have M:=v.ok om;have y:=Cist.A7.1 h3;have:=s.1;have:=s.2.2.1;have:=y.2.2.2.2.1
 refine⟨⟨om,om⟩,⟨?_,?_,O⟩,om⟩
 ·have:=M.nh;omega
 ·have:=M.nw;omega
end Go.X.Ms
namespace Go.X
abbrev Ms.twV(A:Ms.TA)(t:Ms.Twn):Value:=.agg (Ms.tcs A t).toArray
theorem xm2(xs:List Rk):∀u∈(rcs xs).flatten,Be u=true:=by
 intro u H;simp only[rcs,List.mem_flatten,List.mem_map]at H;obtain⟨_,⟨w,_,rfl⟩,H⟩:=H;simp only[Rk.cells,List.mem_cons,List.not_mem_nil,or_false]at H;rcases H with rfl|rfl|rfl|rfl<;>rfl
theorem xtm(xs:List Flow.Ch):∀u∈(Flow.wcs xs).flatten,Be u=true:=by
 intro u H;simp only[Flow.wcs,List.mem_flatten,List.mem_map]at H;obtain⟨_,⟨w,_,rfl⟩,H⟩:=H;simp only[Flow.Ch.cells,List.mem_cons,List.not_mem_nil,or_false]at H;rcases H with rfl|rfl<;>rfl
end Go.X
namespace Go.X.Flow
theorem xu1(xs H:List Ch):wcs (xs++H)=wcs xs++wcs H:=by simp[wcs]
theorem xu3(xs:List Ch)(i:Nat):wcs (xs.take i)=(wcs xs).take i:=by simp[wcs]
theorem xv3(xs:List Ch)(i:Nat):wcs (xs.drop i)=(wcs xs).drop i:=by simp[wcs]
theorem xom(xs:List Ch):∀u∈(wcs xs).flatten,Be u=true:=by
 intro u H;simp only[wcs,List.mem_flatten,List.mem_map]at H;obtain⟨_,⟨w,_,rfl⟩,H⟩:=H;simp only[Ch.cells,List.mem_cons,List.not_mem_nil,or_false]at H;rcases H with rfl|rfl<;>rfl
theorem yxs{α:Type}{A B zs:List α}{x:α}(M:zs.length=B.length+1):(A++zs).take A.length++([x]++(A++zs).drop (A.length+1))=(A++[x])++zs.drop 1/\((A++[x])++zs.drop 1).length=A.length+B.length+1/\
 ((A++[x])++zs.drop 1).take (A.length+1)++(B++((A++[x])++zs.drop 1).drop (A.length+1+B.length))=A++x::B:=by
 have H:((A++[x])++zs.drop 1).length=A.length+B.length+1:=by simp;omega
 refine⟨?_,H,?_⟩
 ·rw[List.take_left' rfl,<- List.drop_drop,List.drop_left' rfl,List.append_assoc]
 ·rw[List.take_left' s_,List.drop_of_length_le om,List.append_nil,List.append_assoc];rfl
theorem yys{α:Type}{W:List α}{u x:α}{i n:Nat}(hn:W.length=n)(hi:i<n):((W++[u]).drop i).take (n-i)=W.drop i/\((W++[u]).take (i+1)++(W.drop i++(W++[u]).drop (i+1+(n-i)))).length=n+1/\
 ((W++[u]).take (i+1)++(W.drop i++(W++[u]).drop (i+1+(n-i)))).take i++([x]++((W++[u]).take (i+1)++(W.drop i++(W++[u]).drop (i+1+(n-i)))).drop (i+1))=W.take i++x::W.drop i:=by
 subst hn;have H:(W++[u]).drop (i+1+(W.length-i))=[]:=List.drop_of_length_le (by simp;omega);have M:((W++[u]).take (i+1)).length=i+1:=by simp;omega
 refine⟨?_,by rw[H];simp;omega,?_⟩
 ·rw[List.drop_append_of_le_length om,List.take_left' s_]
 ·rw[H,List.append_nil,List.drop_left' M,List.take_append_of_le_length om,List.take_take,Nat.min_eq_left om,List.take_append_of_le_length om];rfl
end Go.X.Flow
namespace Go.X.Ms
theorem yiq{n:Nat}(h:n<=999999):(txt (n:Int)).length<=6:=by
 have e:txt (n:Int)=Dk n:=by
  unfold txt;rw[if_neg om,Int.natAbs_natCast]
 rw[e];exact xdj (k:=5) om
def L9(l:List Int):Nat->Str
 |0=>[]
 |k+1=>L9 l k++((if k=0 then []else [32])++txt (l.getD k 0))
theorem xh0(x:Int)(xs:List Int):∀k,k<=xs.length->L9 (x::xs) (k+1)=txt x++Fw (xs.take k)
 |0,_=>by simp[L9,Fw]
 |k+1,h=>by
   rw[L9,xh0 x xs k om,if_neg om,List.append_assoc];congr 1;have e:∀(H:List Int)(z:Int),Fw (H++[z])=Fw H++(32::txt z):=by
    intro H z
    induction H with
    |nil=>simp[Fw]
    |cons y H ih=>simp[Fw,ih]
   have M:xs.take (k+1)=xs.take k++[xs.getD k 0]:=by
    rw[List.take_succ_eq_append_getElem om];rw[List.getD_eq_getElem?_getD,List.getElem?_eq_getElem om];rfl
   rw[M,e];simp
theorem ylb{l:List Int}(h:0<l.length):L9 l l.length=Ny l:=by
 cases l with
 |nil=>simp at h
 |cons x xs=>rw[List.length_cons,xh0 x xs xs.length (Nat.le_refl _),List.take_length];rfl
def i64(n:Int):Prop:=-9223372036854775808<=n/\n<=9223372036854775807
theorem xbk{n:Int}(h:i64 n):(txt n).length<=20:=by
 have M:=h.1;have H:=h.2;have e:(Dk n.natAbs).length<=19:=xdj (k:=18) om;unfold txt;split
 ·simp;exact e
 ·omega
theorem xsr{l:List Int}(h:∀i,i<l.length->i64 (l.getD i 0)):∀k,k<=l.length->(L9 l k).length<=21*k
 |0,_=>by simp[L9]
 |k+1,hk=>by
   have:=xsr h k om;have:=xbk (h k om);rw[L9];generalize txt (l.getD k 0)=u at*;split<;>simp only[List.length_append,List.length_nil,List.length_cons]<;>omega
theorem xw1(n:Int):0<(txt n).length:=by
 unfold txt;split
 ·simp
 ·exact xfd _
end Go.X.Ms
namespace Go.Proofs.YtadndcpcjmmngaaGreatDoor
open Go.Proofs.Tryz
open Go.X Go.X.Ms Go.Conc
open Go.X.Flow (Ch Wys wz ics)
open Go.X.Cist (Day Bl dcs dz Ct)
variable{h z9:Heap}{zz:List Nat}{xs:List Rk}{md:Md}{n:Nat}{z zB:Nat×Nat}{p:Aa}{tB tT:TypeId}{v:Value}
theorem cf61{a:Option Addr}{c:Nat}(S:Rks p a n xs)(hn:n<=2^20):Nc prog md p 61 #[.slice a n c] (fun v Y=>Ab 105 4 v (rcs xs) Y):=by
 have hl:=S.len;refine xlq func61 fun K=>?_;refine ro_y rfl (xx9 rfl) ?_;refine cq (fun H=>?_) (fun H=>?_)
 ·refine ax ?_;have e:xs=[]:=by
   by_cases O:0<n
   ·rw[Sl.ne S O]at H;cases H
   ·exact List.eq_nil_of_length_eq_zero om
  subst e;refine xyj 105 4 fun o=>?_;exact K.r rfl rfl fun _ M=>⟨_,o,El M⟩
 refine ax ?_;refine xtx rfl fun v Y o=>?_;refine ax ?_;refine xmw rfl rfl o S (xm2 xs) (by simp[chs];omega) (fun v' Y' V=>?_);refine ax ?_;exact K.r rfl rfl fun _ M=>⟨_,V,El M⟩
theorem cf63{a:Option Addr}{c:Nat}{xs:List Ch}(S:Wys p a n xs)(hn:n<=2^20):Nc prog md p 63 #[.slice a n c] (fun v Y=>Ab 93 2 v (Flow.wcs xs) Y):=by
 have hl:=S.len;refine xlq func63 fun K=>?_;refine ro_y rfl (xx9 rfl) ?_;refine cq (fun H=>?_) (fun H=>?_)
 ·refine ax ?_;have e:xs=[]:=by
   by_cases O:0<n
   ·rw[Sl.ne S O]at H;cases H
   ·exact List.eq_nil_of_length_eq_zero om
  subst e;refine xyj 93 2 fun o=>?_;exact K.r rfl rfl fun _ M=>⟨_,o,El M⟩
 refine ax ?_;refine xtx rfl fun v Y o=>?_;refine ax ?_;refine xmw rfl rfl o S (xtm xs) (by simp[chs];omega) (fun v' Y' V=>?_);refine ax ?_;exact K.r rfl rfl fun _ M=>⟨_,V,El M⟩
theorem yf7{a:Option Addr}{c:Nat}(S:Rks p a n xs)(hc:n<=c)(hn:n<=2^20)(x:Rk):Nc prog md p 138 #[.slice a n c,.agg #[.J x.hr,.J x.pe,.J x.sd,.J x.st]] (fun v Y=>Ab 105 4 v (rcs (xs++[x])) Y):=by
 have hl:=S.len;have O:rcs (xs++[x])=rcs xs++rcs [x]:=by simp[rcs]
 refine xkq func138 fun K b1=>?_;refine drq [7] R8 ?_;refine de_y rfl rfl (xt9 rfl rfl rfl hc) ?_;refine ex ?_;refine xjk rfl rfl fun v2 V H=>?_;refine xa ?_;have H:Ab 105 4 v2 (rcs [x]) V:=H;refine xa0 rfl rfl S H (Nat.succ_pos _) (by simp[rcs];omega) fun v3 Y3 o3=>?_;refine ax ?_;exact K.r rfl rfl fun _ M=>⟨Y3,o3.as O.symm,El M⟩
theorem yvn{a:Option Addr}{c:Nat}{xs:List Int}(S:Ar p a n xs)(hc:n<=c)(hn:n<=2^20)(x:Int):Nc prog md p 140 #[.slice a n c,.J x] (fun v Y=>Ab 3 1 v (ics (xs++[x])) Y):=by
 have hl:=S.len;have O:ics (xs++[x])=ics xs++ics [x]:=by simp[ics]
 refine xlq func140 fun K=>?_;refine ro_y rfl (xt9 rfl rfl rfl hc) ?_;refine ax ?_;refine xtx rfl fun v2 V H=>?_;have H:Ab 3 1 v2 (ics [x]) V:=H;refine xa0 rfl rfl S H (Nat.succ_pos _) (by simp[ics];omega) fun v3 Y3 o3=>?_;refine ax ?_;exact K.r rfl rfl fun _ M=>⟨Y3,o3.as O.symm,El M⟩
theorem yt6{a:Option Addr}{c:Nat}{xs:List Day}(S:Bl p a n xs)(hc:n<=c)(hn:n<=2^20)(x:Day):Nc prog md p 152 #[.slice a n c,.agg #[.J x.lo,.J x.hi,.J x.want]] (fun v Y=>Ab 48 3 v (dcs (xs++[x])) Y):=by
 have hl:=S.len;have ec:dcs (xs++[x])=dcs xs++dcs [x]:=by simp[dcs]
 refine xkq func152 fun K b1=>?_;refine drq [7] R8 ?_;refine de_y rfl rfl (xt9 rfl rfl rfl hc) ?_;refine ex ?_;refine xjk rfl rfl fun V M H=>?_;refine xa ?_;have H:Ab 48 3 V (dcs [x]) M:=H;refine xa0 rfl rfl S H (Nat.succ_pos _) (by simp[dcs];omega) fun v3 Y3 o3=>?_;refine ax ?_;exact K.r rfl rfl fun _ O=>⟨Y3,o3.as ec.symm,El O⟩
theorem cf59(b:Bool):Dc prog md p 59 #[.bool b] (sv (Hs b)):=by
 refine xlq func59 fun K=>?_;refine cq (fun H=>?_) (fun H=>?_)
 ·refine K.q ?_;rw[show b=true from H];rfl
 ·refine K.q ?_;rw[show b=false from by simpa using H];rfl
theorem cf29(A:TA)(t:Twn)(T:TwP p A t)(hn:t.fit (2^20)):Dc prog md p 29 #[twV A t] (.J (Bp t)):=by
 obtain⟨⟨O,n2⟩,⟨V,n4,M⟩,n6⟩:=hn;refine xkq func29 fun K b1=>?_;refine ax ?_;refine xrx rfl rfl (cf49 t.s T.s ⟨om,om⟩) ?_;refine ax ?_;refine xxj rfl rfl rfl sdt (fun _=>cf50 t.b T.b ⟨om,om,om⟩) ?_;refine ax ?_;refine xxj rfl rfl rfl sdt (fun _=>cf51 _ _ _ _ _ T.d om) ?_;refine cq (fun H=>?_) (fun H=>?_)
 ·refine K.q ?_;rw[Bp,if_neg (fun z=>by simp[z]at H)];rfl
 ·refine K.q ?_;rw[Bp,if_pos (by simp at H;exact⟨H.1.1,H.1.2,H.2⟩)];rfl
open Go.X Go.X.Flow Go.Conc
theorem yv6(C:Pcs){Y Z:Pcs}{z:Value}(xs:List Ch)(x:Ch)(i:Nat)(hi:i<=xs.length)(hn:xs.length<=2^20)(o:Ab 93 2 v (wcs xs) Y)(oz:Ab 93 2 z (wcs [x]) Z)(s:St z9 zz p h ((Y++Z)++C)):
 Ac prog md 150 #[v,.J ((i:Nat):Int),z] h fun v' h'=>∃Y',Ab 93 2 v' (wcs (xs.take i++x::xs.drop i)) Y'/\St z9 zz p h' (Y'++C):=by
 have hl:(wcs xs).length=xs.length:=Ap xs;refine xjj s func150 fun _ _ _ K=>?_;refine xqz Y Z ?_;obtain⟨a,c,rfl,-⟩:=o.val;have a4:=o.room d_ rfl;rw[hl]at o a4⊢;obtain⟨bz,cz,rfl,b0,-⟩:∃b cap,z=.slice (some ⟨b,0,none⟩) 1 cap/\1<=cap/\True:=by
  obtain⟨b,cap,e,hc,-⟩:=oz.at0 (by rw[Ap];exact Nat.one_pos) d_;exact⟨b,cap,e,hc,trivial⟩
 refine ax ?_;refine xwt rfl rfl (j:=i) ⟨hi,a4⟩ ?_;refine ax ?_;refine xjx rfl (fun cc=>absurd cc d_) (fun _=>?_);refine cq (fun cc=>?_) (fun cc=>?_)
 ·have ei:i=xs.length:=om;refine ax ?_;refine xbv rfl rfl o oz (xom _) (by simp[Ap];omega) fun v' Y' o'=>?_;refine ax ?_;exact xrq func150 rfl rfl fun _ H_=>K _ _ ⟨Y',by rw[ei,List.take_length,List.drop_length,xu1];exact o',xrg H_⟩
 have a5:i<xs.length:=om;refine ax ?_;refine ro_y rfl (yx1 rfl) ?_;refine cq (fun ce=>?_) (fun ce=>?_)
 ·have a7:c=xs.length:=om;subst a7;refine ax ?_;refine xhx o (m:=xs.length) hl d_ fun p1 a1 c1 g1 e1 b7 O=>?_;cases e1;refine xhx oz (m:=1) rfl d_ fun p2 a2 c2 g2 e2 a8 S2=>?_;cases e2;have O:=O.mono g2.le;have Si:Sl p2 a i 2 (wcs (xs.take i)):=by
   have z:=O.cut (lo:=0) (hi:=i) (Nat.zero_le _) om (a':=a) (fun _=>by rw[Nat.zero_mul];exact(O.ne om).trans (by rfl));rw[xu3];simpa using z
  have Sd:Sl p2 (Ga a xs.length i 2) (xs.length-i) 2 (wcs (xs.drop i)):=by
   have z:=O.cut (lo:=i) (hi:=xs.length) hi (Nat.le_refl _) (a':=Ga a xs.length i 2) (fun _=>by rw[O.ne om,xoc a5];rfl);rw[xv3];have e:((wcs xs).drop i).take (xs.length-i)=(wcs xs).drop i:=List.take_of_length_le (by simp[Ap]);rwa[e]at z
  refine xmd rfl rfl (j:=i) om ?_;refine ax ?_;have e3:((xs.length:Nat):Int)+((1:Nat):Int)-((i:Nat):Int)=((xs.length+1-i:Nat):Int):=om;refine yqr (m:=xs.length+1-i) rfl (congrArg (fun z=>some ([],Value.J z)) e3) Si om om om fun v' Y' zs hz o'=>?_;have a6:(wcs (xs.take i)++zs).length=xs.length+1:=by rw[List.length_append,Ap,List.length_take,hz];omega
  obtain⟨b3,c3,rfl,b6,-⟩:∃b cap,v'=.slice (some ⟨b,0,none⟩) (xs.length+1) cap/\xs.length+1<=cap/\True:=by
   obtain⟨b,cap,e,hc,-⟩:=o'.at0 om d_;rw[a6]at e hc;exact⟨b,cap,e,hc,trivial⟩
  refine ax ?_;refine xwt rfl rfl (j:=i) ⟨om,om⟩ ?_;refine ax ?_;refine yjx (off:=i) (by rw[xoc om,xnx,Nat.zero_add];rfl) rfl o' S2 a6 om om om (xom _) fun Y2 V=>?_;refine drq [] R8 ?_;refine de_y rfl rfl (xys rfl rfl ⟨om,om⟩ (j:=i+1)) ?_;refine ex ?_;refine de_y rfl rfl (xys rfl rfl ⟨hi,om⟩ (j:=i)) ?_;refine xa ?_;have eA:(wcs (xs.take i)).length=i:=by rw[Ap,List.length_take];omega
  have eB:(wcs (xs.drop i)).length=xs.length-i:=by rw[Ap,List.length_drop]
  have H:=yxs (A:=wcs (xs.take i)) (B:=wcs (xs.drop i)) (zs:=zs) (x:=x.cells) om;rw[eA,eB]at H;have V:=V.as H.1;have a3:=H.2.1;rw[show i+(xs.length-i)+1=xs.length+1 by omega]at a3;refine yjx (off:=i+1) (by by_cases z:i+1<c3;(rw[xoc z,xnx,Nat.zero_add];rfl);omega) rfl V Sd a3 om om om (xom _) fun Y3 M=>?_;refine ax ?_;have M:=M.as (H.2.2.trans (show _=wcs (xs.take i++x::xs.drop i) by rw[xu1];rfl));exact xrq func150 rfl rfl fun _ H_=>K _ _ ⟨Y3,M,(xrg H_).forget (g1.le.trans g2.le)⟩
 obtain⟨b,rfl⟩:∃b,a=some ⟨b,0,none⟩:=by
  obtain⟨b,cap,e,-,-⟩:=o.at0 om d_;injection e with e1 _ _;exact⟨b,e1⟩
 obtain⟨u,o1⟩:=o.more om;refine ax ?_;refine xmd rfl (congrArg (fun z=>some ([],Value.J z)) (show((xs.length:Nat):Int)+((1:Nat):Int)=((xs.length+1:Nat):Int) by omega)) (j:=xs.length+1) om ?_;refine ax ?_;refine xwt rfl (congrArg (fun z=>some ([],Value.J z)) (show((i:Nat):Int)+((1:Nat):Int)=((i+1:Nat):Int) by omega)) (j:=i+1) ⟨om,om⟩ ?_;rw[xoc om,xnx,Nat.zero_add];refine ax ?_;obtain⟨cy,rfl,b4⟩:=o1.blk;obtain⟨cw,rfl,b5⟩:=oz.blk;refine yer (tS:=26) (tR:=4) (eT:=93) (w:=2) (i:=1) (j:=0) func219 k_ rfl rfl rfl rfl om rfl om d_ ?_;refine ax ?_;rw[Bool.not_false];refine xjx rfl (fun _=>?_) (fun cd=>absurd trivial cd);refine drq [] R8 ?_;refine de_y rfl rfl (xys rfl (congrArg (fun z=>some ([],Value.J z)) (show((i:Nat):Int)+((1:Nat):Int)=((i+1:Nat):Int) by omega)) ⟨om,om⟩ (j:=i+1)) ?_;refine ex ?_;refine de_y rfl rfl (xys rfl rfl ⟨om,om⟩ (j:=i)) ?_;refine xa ?_;rw[xoc om,xnx,Nat.zero_add,xoc om,xnx,Nat.zero_add];have a9:(wcs xs++[u]).length=xs.length+1:=by rw[List.length_append,hl];rfl
 have H:=yys (W:=wcs xs) (u:=u) (x:=x.cells) hl a5;refine ymr (off:=i+1) (j:=i) (q:=xs.length-i) rfl rfl o1 a9 om (by show min _ _=_;omega) om om (fun z hz=>xom xs z ?_) fun Y2 V=>?_
 ·rw[H.1]at hz;obtain⟨e,h2,h3⟩:=List.mem_flatten.1 hz;exact List.mem_flatten.2 ⟨e,List.mem_of_mem_drop h2,h3⟩
 rw[H.1]at V;refine ax ?_;refine xhx oz (m:=1) rfl d_ fun p2 a2 c2 g2 e2 a8 S2=>?_;cases e2;refine xwt rfl rfl (j:=i) ⟨om,om⟩ ?_;refine ax ?_;refine yjx (off:=i) (by rw[xoc om,xnx,Nat.zero_add];rfl) rfl V S2 H.2.1 om om om (xom _) fun Y3 M=>?_;have M:=M.as (H.2.2.trans (show _=wcs (xs.take i++x::xs.drop i) by rw[xu1,<- xu3];show _=_++(x.cells::wcs (xs.drop i));rw[xv3]));refine ax ?_;exact xrq func150 rfl rfl fun _ H_=>K _ _ ⟨Y3,M,(xrg H_).forget g2.le⟩
open Go.X.Flow (Ch Wys wz ics Am wcs)
open Go.X.Cist (Day Bl dcs dz Ct Aj)
theorem xpq(xs:List Int):(ics xs).length=xs.length:=by simp[ics]
theorem xqv(xs:List Rk):(rcs xs).length=xs.length:=by simp[rcs]
theorem cf31(A:TA){t:Twn}(T:TwP p A t)(hn:t.fit (2^20)):Lc prog md p 31 #[twV A t] (fun v p'=>∃A',v=twV A' t/\TwP p' A' t):=by
 obtain⟨⟨n1,n2⟩,⟨n3,n4,n5⟩,n6⟩:=hn;refine xkq func31 fun K b1=>?_;refine lq fun b2=>?_;refine drq [3,7] [0,1,2,4,5,6,3,8,9,7] ?_;refine xsk rfl rfl rfl (cf61 T.s.r n1) fun v1 Y1 V=>?_;obtain⟨a1,c1,rfl,-⟩:=V.val;rw[xqv]at V⊢;refine ex ?_;refine xsk rfl rfl rfl (cf62 T.s.f n2) fun v2 Y2 o2=>?_;obtain⟨a2,c2,rfl,-⟩:=o2.val;rw[xpq]at o2⊢;refine ex ?_;refine drq [3,7,11] [0,1,2,4,5,6,8,9,10,3,12,13,7,11] ?_;refine xsk rfl rfl rfl (cf62 T.b.h n3) fun v3 Y3 o3=>?_;obtain⟨a3,c3,rfl,-⟩:=o3.val;rw[xpq]at o3⊢;refine ex ?_;refine xsk rfl rfl rfl (cf62 T.b.w n4) fun v4 Y4 o4=>?_;obtain⟨a4,c4,rfl,-⟩:=o4.val;rw[xpq]at o4⊢;refine ex ?_;refine xsk rfl rfl rfl (cf63 T.b.y n5) fun v5 Y5 o5=>?_;obtain⟨a5,c5,rfl,-⟩:=o5.val;rw[Flow.Ap]at o5⊢;refine xa ?_;refine coq (cf64 _ _ _ T.d n6) fun v6 Y6 o6=>?_;obtain⟨a6,c6,rfl,-⟩:=o6.val;rw[Aj]at o6⊢;refine ax ?_;refine xiq V (m:=t.s.Ai.length) (xqv _) d_ fun p1 _ _ g1 e1 a9 S1=>?_;cases e1;refine xiq o2 (m:=t.s.Af.length) (xpq _) d_ fun p2 _ _ g2 e2 a7 S2=>?_;cases e2;refine xiq o3 (m:=t.b.nH) (xpq _) d_ fun p3 _ _ g3 e3 a8 S3=>?_;cases e3;refine xiq o4 (m:=t.b.nW) (xpq _) d_ fun p4 _ _ O e4 b3 S4=>?_;cases e4;refine xiq o5 (m:=t.b.m) (Flow.Ap _) d_ fun p5 _ _ M e5 b4 S5=>?_;cases e5;refine xiq o6 (m:=t.y.days.length) (Aj _) d_ fun p6 _ _ H e6 b0 S6=>?_;cases e6
 exact K.e rfl (xoq rfl .nil) fun _ H_=>(xqq H_ (((((g1.trans g2).trans g3).trans O).trans M).trans H) ⟨⟨(a1,c1),(a2,c2),(a3,c3),(a4,c4),(a5,c5),(a6,c6)⟩,rfl,
  ⟨⟨Sl.mono ((((g2.trans g3).trans O).trans M).trans H).le S1,Sl.mono (((g3.trans O).trans M).trans H).le S2⟩,⟨Sl.mono ((O.trans M).trans H).le S3,Sl.mono (M.trans H).le S4,Sl.mono H.le S5⟩,S6,⟨a9,a7⟩,⟨a8,b3,b4⟩,b0⟩⟩)
open Go.X.Flow (Ch Wys wz ics Co Ck Am wcs)
def Dj(o:Od)(t:Twn)(vs:List Int)(v:Value)(p':Aa)(ob:Obj):Prop:=match C4 o t vs with
 |none=>v=.bool false
 |some t'=>v=.bool true/\ ∃H:TA,ob=.cells (tcs H t').toArray 33 (0,0)/\TwP p' H t'
theorem yg7(hp:Per p h)(b:Nat)(A:TA)(t:Twn)(hb:h[b]?=some (.cells (tcs A t).toArray 33 (0,0)))(M:p b=none)(T:TwP p A t)(hn:t.fit (2^20)){a:Option Addr}(n c:Nat)(vs:List Int)(V:Ar p a n vs)(hv:n=4):
 Ac prog md 137 #[w_ b 0,.slice a n c] h (Dg p h b (Dj .Kz t vs)):=by
 obtain⟨⟨n1,n2⟩,⟨n3,n4,n5⟩,n6⟩:=hn;obtain⟨⟨k1,k2⟩,⟨k3,k4,k5⟩,k6⟩:=T.c;refine xnz hp hb M func137 fun _ _ _ K=>?_;refine drq [19] R20 ?_;refine xsk rfl rfl rfl (yf7 T.s.r k1 n1 ⟨vs.getD 0 0,vs.getD 1 0,vs.getD 2 0,vs.getD 3 0⟩) fun v1 Y1 H=>?_;obtain⟨a1,c1,rfl,-⟩:=H.val;rw[xqv]at H⊢;refine xa ?_;refine xiq H (m:=(t.s.Ai++[_]).length) (xqv _) d_ fun p1 _ _ g1 e1 O S1=>?_;cases e1;have T:=T.mono g1.le;exact xrq func137 rfl rfl fun _ H_=>K _ _ (xkj H_ g1 ⟨rfl,⟨(a1,c1),A.f,A.h,A.w,A.y,A.d⟩,rfl,⟨⟨S1,T.s.f⟩,T.b,T.d,⟨O,k2⟩,T.c.2⟩⟩)
theorem ye7(hp:Per p h)(b:Nat)(A:TA)(t:Twn)(hb:h[b]?=some (.cells (tcs A t).toArray 33 (0,0)))(M:p b=none)(T:TwP p A t)(hn:t.fit (2^20)){a:Option Addr}(n c:Nat)(vs:List Int)(V:Ar p a n vs)(hv:n=1):
 Ac prog md 139 #[w_ b 0,.slice a n c] h (Dg p h b (Dj .Fm t vs)):=by
 obtain⟨⟨n1,n2⟩,⟨n3,n4,n5⟩,n6⟩:=hn;obtain⟨⟨k1,k2⟩,⟨k3,k4,k5⟩,k6⟩:=T.c;refine xnz hp hb M func139 fun _ _ _ K=>?_;refine drq [9] R10 ?_;refine xsk rfl rfl rfl (yvn T.s.f k2 n2 (vs.getD 0 0)) fun v1 Y1 H=>?_;obtain⟨a1,c1,rfl,-⟩:=H.val;rw[xpq]at H⊢;refine xa ?_;refine xiq H (m:=(t.s.Af++[_]).length) (xpq _) d_ fun p1 _ _ g1 e1 O S1=>?_;cases e1;have T:=T.mono g1.le;exact xrq func139 rfl rfl fun _ H_=>K _ _ (xkj H_ g1 ⟨rfl,⟨A.r,(a1,c1),A.h,A.w,A.y,A.d⟩,rfl,⟨⟨T.s.r,S1⟩,T.b,T.d,⟨k1,O⟩,T.c.2⟩⟩)
theorem yc7(hp:Per p h)(b:Nat)(A:TA)(t:Twn)(hb:h[b]?=some (.cells (tcs A t).toArray 33 (0,0)))(M:p b=none)(T:TwP p A t)(hn:t.fit (2^20)){a:Option Addr}(n c:Nat)(vs:List Int)(V:Ar p a n vs)(hv:n=1):
 Ac prog md 142 #[w_ b 0,.slice a n c] h (Dg p h b (Dj .Er t vs)):=by
 obtain⟨⟨n1,n2⟩,⟨n3,n4,n5⟩,n6⟩:=hn;obtain⟨⟨k1,k2⟩,⟨k3,k4,k5⟩,k6⟩:=T.c;refine xnz hp hb M func142 fun _ _ _ K=>?_;refine drq [9] R10 ?_;refine xsk rfl rfl rfl (yvn T.b.h k3 n3 (vs.getD 0 0)) fun v1 Y1 H=>?_;obtain⟨a1,c1,rfl,-⟩:=H.val;rw[xpq]at H⊢;refine xa ?_;refine xiq H (m:=(t.b.hs++[_]).length) (xpq _) d_ fun p1 _ _ g1 e1 O S1=>?_;cases e1;have T:=T.mono g1.le;exact xrq func142 rfl rfl fun _ H_=>K _ _ (xkj H_ g1 ⟨rfl,⟨A.r,A.f,(a1,c1),A.w,A.y,A.d⟩,rfl,⟨T.s,⟨S1,T.b.w,T.b.y⟩,T.d,T.c.1,⟨O,k4,k5⟩,k6⟩⟩)
theorem yb7(hp:Per p h)(b:Nat)(A:TA)(t:Twn)(hb:h[b]?=some (.cells (tcs A t).toArray 33 (0,0)))(M:p b=none)(T:TwP p A t)(hn:t.fit (2^20)){a:Option Addr}(n c:Nat)(vs:List Int)(V:Ar p a n vs)(hv:n=1):
 Ac prog md 143 #[w_ b 0,.slice a n c] h (Dg p h b (Dj .Kf t vs)):=by
 obtain⟨⟨n1,n2⟩,⟨n3,n4,n5⟩,n6⟩:=hn;obtain⟨⟨k1,k2⟩,⟨k3,k4,k5⟩,k6⟩:=T.c;refine xnz hp hb M func143 fun _ _ _ K=>?_;refine drq [9] R10 ?_;refine xsk rfl rfl rfl (yvn T.b.w k4 n4 (vs.getD 0 0)) fun v1 Y1 H=>?_;obtain⟨a1,c1,rfl,-⟩:=H.val;rw[xpq]at H⊢;refine xa ?_;refine xiq H (m:=(t.b.ws++[_]).length) (xpq _) d_ fun p1 _ _ g1 e1 O S1=>?_;cases e1;have T:=T.mono g1.le;exact xrq func143 rfl rfl fun _ H_=>K _ _ (xkj H_ g1 ⟨rfl,⟨A.r,A.f,A.h,(a1,c1),A.y,A.d⟩,rfl,⟨T.s,⟨T.b.h,S1,T.b.y⟩,T.d,T.c.1,⟨k3,O,k5⟩,k6⟩⟩)
theorem yu6(hp:Per p h)(b:Nat)(A:TA)(t:Twn)(hb:h[b]?=some (.cells (tcs A t).toArray 33 (0,0)))(M:p b=none)(T:TwP p A t)(hn:t.fit (2^20)){a:Option Addr}(n c:Nat)(vs:List Int)(V:Ar p a n vs)(hv:n=3):
 Ac prog md 151 #[w_ b 0,.slice a n c] h (Dg p h b (Dj .day t vs)):=by
 obtain⟨⟨n1,n2⟩,⟨n3,n4,n5⟩,n6⟩:=hn;obtain⟨⟨k1,k2⟩,⟨k3,k4,k5⟩,k6⟩:=T.c;refine xnz hp hb M func151 fun _ _ _ K=>?_;refine drq [17] R18 ?_;refine xsk rfl rfl rfl (yt6 T.d k6 n6 ⟨vs.getD 0 0,vs.getD 1 0,vs.getD 2 0⟩) fun v1 Y1 H=>?_;obtain⟨a1,c1,rfl,-⟩:=H.val;rw[Aj]at H⊢;refine xa ?_;refine xiq H (m:=(t.y.days++[_]).length) (Aj _) d_ fun p1 _ _ g1 e1 O S1=>?_;cases e1;have T:=T.mono g1.le;exact xrq func151 rfl rfl fun _ H_=>K _ _ (xkj H_ g1 ⟨rfl,⟨A.r,A.f,A.h,A.w,A.y,(a1,c1)⟩,rfl,⟨T.s,T.b,S1,T.c.1,T.c.2.1,O⟩⟩)
theorem ys6(hp:Per p h)(b:Nat)(A:TA)(t:Twn)(O:h[b]?=some (.cells (tcs A t).toArray 33 (0,0)))(H:p b=none)(T:TwP p A t)(hn:t.fit (2^20)){a:Option Addr}(n c:Nat)(vs:List Int)(V:Ar p a n vs)(hv:n=1):
 Ac prog md 153 #[w_ b 0,.slice a n c] h (Dg p h b (Dj .size t vs)):=by
 obtain⟨⟨n1,n2⟩,⟨n3,n4,n5⟩,n6⟩:=hn;obtain⟨⟨k1,k2⟩,⟨k3,k4,k5⟩,k6⟩:=T.c;refine xnz hp O H func153 fun _ _ _ K=>?_;refine ax ?_;exact xrq func153 rfl rfl fun _ M=>K _ _ (xkj M (.refl _ _ _) ⟨rfl,A,rfl,T.s,T.b,T.d,T.c⟩)
theorem yd7(hp:Per p h)(b:Nat)(A:TA)(t:Twn)(hb:h[b]?=some (.cells (tcs A t).toArray 33 (0,0)))(H:p b=none)(T:TwP p A t)(hn:t.fit (2^20)){a:Option Addr}(n c:Nat)(vs:List Int):
 Ac prog md 141 #[w_ b 0,.slice a n c] h (Dg p h b (Dj .up t vs)):=by
 obtain⟨⟨n1,n2⟩,⟨n3,n4,n5⟩,n6⟩:=hn;obtain⟨⟨k1,k2⟩,⟨k3,k4,k5⟩,k6⟩:=T.c;refine xnz hp hb H func141 fun _ _ _ K=>?_;refine cq (fun cc=>?_) (fun cc=>?_)
 ·have e:C4 .up t vs=none:=by unfold C4;rw[if_pos om]
  refine ax ?_;exact xrq func141 rfl rfl fun _ M=>K _ _ (xkj M (.refl _ _ _) (by unfold Dj;rw[e];rfl))
 have e:C4 .up t vs=some {t with s:={t.s with Af:=t.s.Af.take (t.s.Af.length-1)}}:=by unfold C4;rw[if_neg om]
 have O:((t.s.Af.length:Nat):Int)-1=((t.s.Af.length-1:Nat):Int):=om;have V:(t.s.Af.take (t.s.Af.length-1)).length=t.s.Af.length-1:=by rw[List.length_take];omega
 refine ax ?_;refine ro_y rfl (yip rfl (congrArg (fun z=>some ([],Value.J z)) O) (congrArg (fun z=>some ([],Value.J z)) O) om (j:=t.s.Af.length-1)) ?_;refine ax ?_;exact xrq func141 rfl rfl fun _ M=>K _ _ (xkj M (.refl _ _ _) (by
  unfold Dj;rw[e];refine⟨rfl,⟨A.r,(A.f.1,t.s.Af.length-1),A.h,A.w,A.y,A.d⟩,?_,⟨T.s.r,?_⟩,T.b,T.d,⟨k1,?_⟩,T.c.2⟩
  ·simp only[tcs];rw[V];rfl
  ·have S:Sl p A.f.1 (t.s.Af.take (t.s.Af.length-1)).length 1 (ics (t.s.Af.take (t.s.Af.length-1))):=by
    have z:=Sl.cut (lo:=0) (hi:=t.s.Af.length-1) (a':=A.f.1) T.s.f (Nat.zero_le _) om fun _=>by rw[Nat.zero_mul];exact(T.s.f.ne om).trans rfl
    rw[V];simpa[ics,List.map_take]using z
   exact S
  ·show(t.s.Af.take (t.s.Af.length-1)).length<=t.s.Af.length-1;omega))
theorem yz6(hp:Per p h)(b:Nat)(A:TA)(t:Twn)(hb:h[b]?=some (.cells (tcs A t).toArray 33 (0,0)))(M:p b=none)(T:TwP p A t)(hn:t.fit (2^20))(i x:Int):
 Ac prog md 145 #[w_ b 5,.J i,.J x] h (Dg p h b (Dj .want t [i,x])):=by
 obtain⟨⟨n1,n2⟩,⟨n3,n4,n5⟩,n6⟩:=hn;obtain⟨⟨k1,k2⟩,⟨k3,k4,k5⟩,k6⟩:=T.c;have V:t.b.hs.length=t.b.nH:=rfl;refine xnz hp hb M func145 fun _ _ _ K=>?_;refine cq (fun cc=>?_) (fun cc=>?_)
 ·have e:C4 .want t [i,x]=none:=by
   show(Ka t.b.hs i x).map _=none;rw[Ka,if_neg om];rfl
  refine ax ?_;exact xrq func145 rfl rfl fun _ O=>K _ _ (xkj O (.refl _ _ _) (by unfold Dj;rw[e];rfl))
 have hi:0<=i/\i<(t.b.hs.length:Int):=om;have e:C4 .want t [i,x]=some {t with b:={t.b with hs:=t.b.hs.set i.toNat x}}:=by
  show(Ka t.b.hs i x).map _=_;rw[Ka,if_pos hi];rfl
 refine coq (cf62 T.b.h n3) fun v1 Y1 H=>?_;obtain⟨a1,c1,rfl,-⟩:=H.val;rw[xpq,V]at H⊢;refine ax ?_;refine xav rfl rfl H hi.1 (by rw[xpq];omega) ?_;refine xck (j:=0) rfl rfl H xmx rfl rfl rfl (Co om) (Nat.le_refl _) fun Y2 o2=>?_;have o2:=o2.as (show _=ics (t.b.hs.set i.toNat x) from Ck);refine ax ?_;refine xiq o2 (m:=t.b.nH) (by rw[xpq,List.length_set];exact V) d_ fun p1 _ _ g1 e1 a2 S1=>?_;cases e1;have T:=T.mono g1.le;exact xrq func145 rfl rfl fun _ O=>K _ _ (xkj O g1 (by
  unfold Dj;rw[e];have e2:(t.b.hs.set i.toNat x).length=t.b.nH:=by rw[List.length_set];exact V
  refine⟨rfl,⟨A.r,A.f,(a1,c1),A.w,A.y,A.d⟩,?_,T.s,⟨?_,T.b.w,T.b.y⟩,T.d,T.c.1,⟨?_,k4,k5⟩,k6⟩
  ·simp only[tcs,Flow.Tn.nH];rw[List.length_set];rfl
  ·show Ar p1 a1 (t.b.hs.set i.toNat x).length _;rw[e2];exact S1
  ·show(t.b.hs.set i.toNat x).length<=c1;omega))
theorem ya7(hp:Per p h)(b:Nat)(A:TA)(t:Twn)(M:h[b]?=some (.cells (tcs A t).toArray 33 (0,0)))(H:p b=none)(T:TwP p A t)(hn:t.fit (2^20)){a:Option Addr}(n c:Nat)(vs:List Int)(V:Ar p a n vs)(hv:n=2):
 Ac prog md 144 #[w_ b 0,.slice a n c] h (Dg p h b (Dj .want t vs)):=by
 refine xnz hp M H func144 fun _ _ _ K=>?_;refine drq [] R10 ?_;refine ax ?_;refine xyt rfl rfl (fun h_ pe M H=>yz6 pe b A t M H T hn (vs.getD 0 0) (vs.getD 1 0)) fun v p' o' g q=>?_;refine ax ?_;exact xrq func144 rfl rfl fun h_ O=>K _ _ (xkj O g q)
theorem d145(hp:Per p h)(b:Nat)(A:TA)(t:Twn)(hb:h[b]?=some (.cells (tcs A t).toArray 33 (0,0)))(M:p b=none)(T:TwP p A t)(hn:t.fit (2^20))(i x:Int):
 Ac prog md 145 #[w_ b 6,.J i,.J x] h (Dg p h b (Dj .has t [i,x])):=by
 obtain⟨⟨n1,n2⟩,⟨n3,n4,n5⟩,n6⟩:=hn;obtain⟨⟨k1,k2⟩,⟨k3,k4,k5⟩,k6⟩:=T.c;have V:t.b.ws.length=t.b.nW:=rfl;refine xnz hp hb M func145 fun _ _ _ K=>?_;refine cq (fun cc=>?_) (fun cc=>?_)
 ·have e:C4 .has t [i,x]=none:=by
   show(Ka t.b.ws i x).map _=none;rw[Ka,if_neg om];rfl
  refine ax ?_;exact xrq func145 rfl rfl fun _ O=>K _ _ (xkj O (.refl _ _ _) (by unfold Dj;rw[e];rfl))
 have hi:0<=i/\i<(t.b.ws.length:Int):=om;have e:C4 .has t [i,x]=some {t with b:={t.b with ws:=t.b.ws.set i.toNat x}}:=by
  show(Ka t.b.ws i x).map _=_;rw[Ka,if_pos hi];rfl
 refine coq (cf62 T.b.w n4) fun v1 Y1 H=>?_;obtain⟨a1,c1,rfl,-⟩:=H.val;rw[xpq,V]at H⊢;refine ax ?_;refine xav rfl rfl H hi.1 (by rw[xpq];omega) ?_;refine xck (j:=0) rfl rfl H xmx rfl rfl rfl (Co om) (Nat.le_refl _) fun Y2 o2=>?_;have o2:=o2.as (show _=ics (t.b.ws.set i.toNat x) from Ck);refine ax ?_;refine xiq o2 (m:=t.b.nW) (by rw[xpq,List.length_set];exact V) d_ fun p1 _ _ g1 e1 a2 S1=>?_;cases e1;have T:=T.mono g1.le;exact xrq func145 rfl rfl fun _ O=>K _ _ (xkj O g1 (by
  unfold Dj;rw[e];have e2:(t.b.ws.set i.toNat x).length=t.b.nW:=by rw[List.length_set];exact V
  refine⟨rfl,⟨A.r,A.f,A.h,(a1,c1),A.y,A.d⟩,?_,T.s,⟨T.b.h,?_,T.b.y⟩,T.d,T.c.1,⟨k3,?_,k5⟩,k6⟩
  ·simp only[tcs,Flow.Tn.nW];rw[List.length_set];rfl
  ·show Ar p1 a1 (t.b.ws.set i.toNat x).length _;rw[e2];exact S1
  ·show(t.b.ws.set i.toNat x).length<=c1;omega))
theorem yy6(hp:Per p h)(b:Nat)(A:TA)(t:Twn)(M:h[b]?=some (.cells (tcs A t).toArray 33 (0,0)))(H:p b=none)(T:TwP p A t)(hn:t.fit (2^20)){a:Option Addr}(n c:Nat)(vs:List Int)(V:Ar p a n vs)(hv:n=2):
 Ac prog md 146 #[w_ b 0,.slice a n c] h (Dg p h b (Dj .has t vs)):=by
 refine xnz hp M H func146 fun _ _ _ K=>?_;refine drq [] R10 ?_;refine ax ?_;refine xyt rfl rfl (fun h_ pe M H=>d145 pe b A t M H T hn (vs.getD 0 0) (vs.getD 1 0)) fun v p' o' g q=>?_;refine ax ?_;exact xrq func146 rfl rfl fun h_ O=>K _ _ (xkj O g q)
theorem yw6(b:Nat)(w x:Ch)(H:p b=some (.cells #[.J w.1,.J w.2] 93 z)):Dc prog md p 149 #[.agg #[.J x.1,.J x.2],w_ b 0] (.bool (Ml w x)):=by
 refine xkq func149 fun K b1=>?_;refine K.q ?_;refine congrArg Value.bool ?_;unfold Ml;rw[Bool.eq_iff_iff];simp;omega
open Go.X.Flow (Cp Ch Wys wz ics Co Ck Am wcs)
theorem ylj{α:Type}{q:α->Bool}:∀{ds:List α},Cp q ds<(ds.length:Int)
 |[]=>by show(-1:Int)<((0:Nat):Int);decide
 |d::ds=>by
   have:=ylj (q:=q) (ds:=ds);rw[Cp,List.length_cons];split
   ·omega
   ·split<;>omega
theorem yx6(hp:Per p h)(b:Nat)(A:TA)(t:Twn)(hb:h[b]?=some (.cells (tcs A t).toArray 33 (0,0)))(a6:p b=none)(T:TwP p A t)(hn:t.fit (2^20)){a:Option Addr}(n c:Nat)(vs:List Int)(V:Ar p a n vs)(hv:n=2):
 Ac prog md 147 #[w_ b 0,.slice a n c] h (Dg p h b (Dj .way t vs)):=by
 obtain⟨⟨n1,n2⟩,⟨n3,n4,n5⟩,n6⟩:=hn;obtain⟨⟨k1,k2⟩,⟨k3,k4,k5⟩,k6⟩:=T.c;have a9:t.b.wy.length=t.b.m:=rfl;refine xnz hp hb a6 func147 fun zq cs Stop K=>?_;refine drq [7] R8 ?_;refine xph rfl fun b5=>?_;refine xa ?_;obtain⟨w1,a3⟩:∃w,w=vs.getD 0 0:=⟨_,rfl⟩
 obtain⟨w2,a4⟩:∃w,w=vs.getD 1 0:=⟨_,rfl⟩
 rw[show vs.getD (Int.toNat 0) 0=w1 from a3.symm,show vs.getD (Int.toNat 1) 0=w2 from a4.symm];refine xf2 (b:=b5) fun p1 g1 a2=>?_;have a2:p1 b5=some (.cells #[.J w1,.J w2] 93 (0,0)):=a2;have T:=T.mono g1.le;refine xrx rfl rfl (fun _ pe=>yg1 pe _ t.b.wy T.b.y om (Ml (w1,w2)) (fun h_ pe i hi=>xgq (first:=[]) (cap:=[w_ b5 0]) k_ (yw6 b5 (w1,w2) (t.b.wy.getD i wz) a2 h_ pe))) ?_;refine ax ?_;have O:(Kp t.b.wy (w1,w2):Int)=if Cp (Ml (w1,w2)) t.b.wy<0 then(t.b.m:Int)else Cp (Ml (w1,w2)) t.b.wy:=by
  unfold Kp;split
  ·rfl
  ·omega
 refine xgz (fun l' p_ L_=>l'=[(0,none,w_ b 0),(5,none,w_ b5 0),(6,none,.J (Kp t.b.wy (w1,w2):Nat))]/\p_=p1/\L_=[[(b,.cells (tcs A t).toArray 33 (0,0))]]) ?_ fun k' H=>?_
 ·rintro _ p1 _ ⟨rfl,rfl,rfl⟩;refine ax ?_;generalize hW:Kp t.b.wy (w1,w2)=W;have a7:W<=t.b.wy.length:=by
   rw[<- hW];unfold Kp;split
   ·exact Nat.le_refl _
   ·rename_i z;have:=ylj (q:=Ml (w1,w2)) (ds:=t.b.wy);omega
  refine xqd 11 [10] [0,1,2,3,4,5,7,8] [6,9,10] (fun i=>match i with|10=>[6,9]|_=>[]) (fun i=>match i with|2=>[1]|3=>[2]|4=>[3]|5=>[4]|6=>[5]|9=>[8]|10=>[6,7,9]|_=>[])
   (fun i _ _ v x=>match i with
    |0=>v=w_ b 0/\x=[]
    |1=>v=w_ b 0/\x=[]
    |2=>v=w_ b 0/\x=[]
    |3=>v=w_ b 5/\x=[]
    |4=>v=w_ b 7/\x=[]
    |5=>v=.slice A.y.1 t.b.m A.y.2/\x=[]
    |6=>Ab 93 2 v (wcs t.b.wy) x
    |7=>v=.J ((W:Nat):Int)/\x=[]
    |8=>v=.agg #[.J w1,.J w2]/\x=[]
    |9=>Ab 93 2 v (wcs [(w1,w2)]) x
    |10=>Ab 93 2 v (wcs (t.b.wy.take W++(w1,w2)::t.b.wy.drop W)) x
    |_=>True) (fun i hi val piece M=>?_) (fun val piece j hj v x q=>?_) (fun val piece M=>?_)
  ·match i,hi with
   |0,_=>
     exact det
   |1,_=>
     exact det
   |2,_=>
     refine de_y rfl rfl (y_nc (by show some ([],val 1)=_;rw[(M 1 rfl).1]) sdt) ?_;exact det
   |3,_=>
     refine de_y rfl rfl (y_fb (by show some ([],val 2)=_;rw[(M 2 rfl).1]) sdt) ?_;exact det
   |4,_=>
     refine de_y rfl rfl (y_fb (by show some ([],val 3)=_;rw[(M 3 rfl).1]) sdt) ?_;exact det
   |5,_=>
     refine de_y rfl rfl (y_ld (by show some ([],val 4)=_;rw[(M 4 rfl).1]) sdt (b:=b) (off:=7) (cs:=(tcs A t).toArray) (T:=33) (z:=(0,0))) ?_;exact det
   |6,_=>
     refine xsk (vs:=[.slice A.y.1 t.b.m A.y.2]) rfl rfl (by show some ([],[val 5])=_;rw[(M 5 rfl).1]) (cf63 T.b.y n5) fun v Y o=>?_;exact xjz ⟨⟨_,rfl⟩,fun v' e=>by
      have e':=xqx e;subst e';show Ab _ _ _ _ ([Y]++[]).flatten;simpa using o⟩
   |7,_=>
     exact det
   |8,_=>
     exact det
   |9,_=>
     refine xjk rfl (by show some [(0,val 8)]=_;rw[(M 8 rfl).1]) fun v Y o=>?_;have o:Ab 93 2 v (wcs [(w1,w2)]) Y:=o;exact xjz ⟨⟨_,rfl⟩,fun v' e=>by
      have e':=xqx e;subst e';show Ab _ _ _ _ ([Y]++[]).flatten;simpa using o⟩
   |10,_=>
     have o1:Ab 93 2 (val 6) (wcs t.b.wy) (piece 6):=M 6 rfl;have o2:Ab 93 2 (val 9) (wcs [(w1,w2)]) (piece 9):=M 9 rfl;show DE _ _ _ _ _ _ _ _ _ [piece 6,piece 9]
     refine yxt (piece 6) (piece 9) (vs:=[val 6,.J ((W:Nat):Int),val 9]) (first:=[]) (cap:=[]) (ff:=150) rfl rfl (by show some ([],[val 6,val 7,val 9])=_;rw[(M 7 rfl).1])
      (fun h C s=>yv6 C t.b.wy (w1,w2) W a7 om o1 o2 s) fun v Y o=>?_
     exact xjz ⟨⟨_,rfl⟩,fun v' e=>by
      have e':=xqx e;subst e';show Ab _ _ _ _ ([Y]++[]).flatten;simpa using o⟩
  ·simp only[List.mem_cons,List.not_mem_nil,or_false]at hj;rcases hj with rfl|rfl|rfl|rfl|rfl|rfl|rfl|rfl<;>exact q.2
  have o1:Ab 93 2 (val 10) (wcs (t.b.wy.take W++(w1,w2)::t.b.wy.drop W)) (piece 10):=M 10 d_;refine xkw (l':=[(29,none,w_ b 0),(39,none,val 10)]) ?_ ⟨by show some (none,val 0)=_;rw[(M 0 d_).1],rfl,trivial⟩;show RO _ _ _ _ _ _ [piece 10,[(b,.cells (tcs A t).toArray 33 (0,0))]];clear M;generalize val 10=v1 at*;generalize piece 10=Y1 at*;obtain⟨a1,c1,rfl,-⟩:=o1.val;have a5:(wcs (t.b.wy.take W++(w1,w2)::t.b.wy.drop W)).length=t.b.m+1:=by
   rw[Flow.Ap];simp;omega
  rw[a5]at o1⊢;refine ax ?_;refine xiq o1 (m:=t.b.m+1) a5 d_ fun p2 _ _ g2 e1 a8 S1=>?_;cases e1;have T:=T.mono g2.le;have eT:C4 .way t vs=some {t with b:={t.b with wy:=t.b.wy.take W++(w1,w2)::t.b.wy.drop W}}:=by
   rw[<- hW,a3,a4];rfl
  exact xrq func147 rfl rfl fun h_ H_=>K _ _ (xkj H_ (g1.trans g2) (by
   unfold Dj;rw[eT];have e2:(t.b.wy.take W++(w1,w2)::t.b.wy.drop W).length=t.b.m+1:=by simp;omega
   refine⟨rfl,⟨A.r,A.f,A.h,A.w,(a1,c1),A.d⟩,?_,T.s,⟨T.b.h,T.b.w,?_⟩,T.d,T.c.1,⟨k3,k4,?_⟩,k6⟩
   ·simp only[tcs,Flow.Tn.m];rw[e2];rfl
   ·show Wys p2 a1 (t.b.wy.take W++(w1,w2)::t.b.wy.drop W).length _;rw[e2];exact S1
   ·show(t.b.wy.take W++(w1,w2)::t.b.wy.drop W).length<=c1;omega))
 refine cq (fun cc=>?_) (fun cc=>?_)
 ·rw[if_pos cc]at O;rw[O]at H;exact bkq (H _ _ _ ⟨rfl,rfl,rfl⟩)
 ·rw[if_neg cc]at O;rw[O]at H;exact bkq (H _ _ _ ⟨rfl,rfl,rfl⟩)
def N7:Option Od->Value
 |none=>.nilFunc
 |some .Kz=>.func (.func 137) #[] #[]
 |some .Fm=>.func (.func 139) #[] #[]
 |some .up=>.func (.func 141) #[] #[]
 |some .Er=>.func (.func 142) #[] #[]
 |some .Kf=>.func (.func 143) #[] #[]
 |some .want=>.func (.func 144) #[] #[]
 |some .has=>.func (.func 146) #[] #[]
 |some .way=>.func (.func 147) #[] #[]
 |some .day=>.func (.func 151) #[] #[]
 |some .size=>.func (.func 153) #[] #[]
theorem cf55(w:Str)(hw:w.length<=900)(n:Nat)(hn:n<=900){zT:Nat×Nat}(Z:p 5=some (.cells (Lib.pow10Tab.map (Value.int .u64)).toArray tT zT)):Dc prog md p 55 #[sv w,.J ((n:Nat):Int)] (N7 (od (w++txt n))):=by
 have hl:=yiq (n:=n) om;refine xlq func55 fun K=>?_;refine xrx rfl rfl (xl3 _ om Z) ?_;refine ax ?_;refine ro_y rfl (xwf rfl rfl om) ?_;refine ax ?_;generalize w++txt (n:Int)=s at*;refine cq (fun H=>?_) (fun c1=>?_)
 ·refine K.q ?_;rw[H];rfl
 refine cq (fun H=>?_) (fun O=>?_)
 ·refine K.q ?_;rw[H];rfl
 refine cq (fun H=>?_) (fun c3=>?_)
 ·refine K.q ?_;rw[H];rfl
 refine cq (fun H=>?_) (fun V=>?_)
 ·refine K.q ?_;rw[H];rfl
 refine cq (fun H=>?_) (fun c5=>?_)
 ·refine K.q ?_;rw[H];rfl
 refine cq (fun H=>?_) (fun c6=>?_)
 ·refine K.q ?_;rw[H];rfl
 refine cq (fun H=>?_) (fun c7=>?_)
 ·refine K.q ?_;rw[H];rfl
 refine cq (fun H=>?_) (fun c8=>?_)
 ·refine K.q ?_;rw[H];rfl
 refine cq (fun H=>?_) (fun c9=>?_)
 ·refine K.q ?_;rw[H];rfl
 refine cq (fun H=>?_) (fun M=>?_)
 ·refine K.q ?_;rw[H];rfl
 refine K.q ?_;unfold od;rw[if_neg c1,if_neg O,if_neg c3,if_neg V,if_neg c5,if_neg c6,if_neg c7,if_neg c8,if_neg c9,if_neg M];rfl
theorem yms(o:Od)(O:Per p h)(b:Nat)(A:TA)(t:Twn)(M:h[b]?=some (.cells (tcs A t).toArray 33 (0,0)))(H:p b=none)(T:TwP p A t)(hn:t.fit (2^20)){a:Option Addr}(c:Nat)(vs:List Int)(V:Ar p a n vs)(hv:n=o.ar):
 Ay prog md (N7 (some o)) [w_ b 0,.slice a n c] h (Dg p h b (Dj o t vs)):=by
 cases o
 ·exact xgq (first:=[]) (cap:=[]) k_ (yg7 O b A t M H T hn n c vs V hv)
 ·exact xgq (first:=[]) (cap:=[]) k_ (ye7 O b A t M H T hn n c vs V hv)
 ·exact xgq (first:=[]) (cap:=[]) k_ (yd7 O b A t M H T hn n c vs)
 ·exact xgq (first:=[]) (cap:=[]) k_ (yc7 O b A t M H T hn n c vs V hv)
 ·exact xgq (first:=[]) (cap:=[]) k_ (yb7 O b A t M H T hn n c vs V hv)
 ·exact xgq (first:=[]) (cap:=[]) k_ (ya7 O b A t M H T hn n c vs V hv)
 ·exact xgq (first:=[]) (cap:=[]) k_ (yy6 O b A t M H T hn n c vs V hv)
 ·exact xgq (first:=[]) (cap:=[]) k_ (yx6 O b A t M H T hn n c vs V hv)
 ·exact xgq (first:=[]) (cap:=[]) k_ (yu6 O b A t M H T hn n c vs V hv)
 ·exact xgq (first:=[]) (cap:=[]) k_ (ys6 O b A t M H T hn n c vs V hv)
open Go.X.Flow (ics LKc Fg Dz)
variable{f:FuncId}{p':Aa}{l:Str}
structure GlP(p:Aa):Prop where
 sn:∃tN z,p 1=some (.cells #[.J (-1),.J 0,.J 0] tN z)
 bn:∃tN z,p 0=some (.cells #[.J (-1),.J (-1),.J 0] tN z)
 db:∃tT zT,p 7=some (.cells (Dz.map fun n=>Value.int .u8 ((n:Nat):Int)).toArray tT zT)
 pw:∃tT zT,p 5=some (.cells (Lib.pow10Tab.map (Value.int .u64)).toArray tT zT)
 es:∃te ue tE zE,p 8=some (.cells #[.iface te ue] tE zE)
 er:∃te ue tE zE,p 9=some (.cells #[.iface te ue] tE zE)
theorem GlP.mono{p p':Aa}(g:GlP p)(H:PLe p p'):GlP p':=
 ⟨g.sn.imp fun _ x=>x.imp fun _ x=>H _ _ x,g.bn.imp fun _ x=>x.imp fun _ x=>H _ _ x,g.db.imp fun _ x=>x.imp fun _ x=>H _ _ x,g.pw.imp fun _ x=>x.imp fun _ x=>H _ _ x,
  g.es.imp fun _ x=>x.imp fun _ x=>x.imp fun _ x=>x.imp fun _ x=>H _ _ x,g.er.imp fun _ x=>x.imp fun _ x=>x.imp fun _ x=>x.imp fun _ x=>H _ _ x⟩
def RsW(p:Aa):Rs->Value->Prop
 |.num n,v=>v=.J n
 |.spn a b,v=>v=.agg #[.J a,.J b]
 |.lst l,v=>∃a c,v=.slice a l.length c/\Ar p a l.length l
theorem yh8(A:TA)(t:Twn)(T:TwP p A t)(hn:t.fit 12)(g:GlP p){a:Option Addr}(n c:Nat)(vs:List Int):Lc prog (.main true) p 107 #[twV A t,.slice a n c] (fun v p'=>∃r,v=.tuple #[r,.J (By .fewest t vs).2]/\RsW p' (By .fewest t vs).1 r):=by
 obtain⟨⟨n1,n2⟩,⟨n3,O,M⟩,V⟩:=hn;obtain⟨⟨k1,k2⟩,⟨k3,k4,k5⟩,k6⟩:=T.c;obtain⟨_,zs,hs⟩:=g.sn;obtain⟨tb,zb,hb⟩:=g.bn;obtain⟨td,zd,hd⟩:=g.db;refine xkq func107 fun K b2=>?_;refine ax ?_;refine xrx rfl rfl (yg8 t.s T.s ⟨om,om⟩ zs hs) ?_;refine ax ?_;exact K.r rfl rfl fun _ H=>(xqq H (.refl _ _ _) ⟨_,rfl,rfl⟩)
theorem yf8(A:TA)(t:Twn)(T:TwP p A t)(hn:t.fit 12)(g:GlP p){a:Option Addr}(n c:Nat)(vs:List Int):Lc prog (.main true) p 109 #[twV A t,.slice a n c] (fun v p'=>∃r,v=.tuple #[r,.J (By .cheap t vs).2]/\RsW p' (By .cheap t vs).1 r):=by
 obtain⟨⟨n1,n2⟩,⟨n3,O,M⟩,V⟩:=hn;obtain⟨⟨k1,k2⟩,⟨k3,k4,k5⟩,k6⟩:=T.c;obtain⟨_,zs,hs⟩:=g.sn;obtain⟨tb,zb,hb⟩:=g.bn;obtain⟨td,zd,hd⟩:=g.db;refine xkq func109 fun K b2=>?_;refine ax ?_;refine xrx rfl rfl (yhf _ _ _ _ _ t.s T.s ⟨om,om⟩ zs hs) ?_;refine ax ?_;exact K.r rfl rfl fun _ H=>(xqq H (.refl _ _ _) ⟨_,rfl,rfl⟩)
theorem ye8(A:TA)(t:Twn)(T:TwP p A t)(hn:t.fit 12)(g:GlP p){a:Option Addr}(n c:Nat)(vs:List Int)(V:Ar p a n vs)(hv:n=1):Lc prog (.main true) p 111 #[twV A t,.slice a n c] (fun v p'=>∃r,v=.tuple #[r,.J (By .deep t vs).2]/\RsW p' (By .deep t vs).1 r):=by
 obtain⟨⟨n1,n2⟩,⟨n3,O,M⟩,n6⟩:=hn;obtain⟨⟨k1,k2⟩,⟨k3,k4,k5⟩,k6⟩:=T.c;obtain⟨_,zs,hs⟩:=g.sn;obtain⟨tb,zb,hb⟩:=g.bn;obtain⟨td,zd,hd⟩:=g.db;refine xkq func111 fun K b2=>?_;refine drq [] R8 ?_;refine xaj rfl rfl rfl (yd8 t.s T.s ⟨om,om⟩ k2 zs hs (vs.getD 0 0)) ?_;refine xa ?_;exact K.r rfl rfl fun _ H=>(xqq H (.refl _ _ _) ⟨_,rfl,rfl⟩)
theorem yc8(A:TA)(t:Twn)(T:TwP p A t)(hn:t.fit 12)(g:GlP p){a:Option Addr}(n c:Nat)(vs:List Int)(V:Ar p a n vs)(hv:n=1):Lc prog (.main true) p 113 #[twV A t,.slice a n c] (fun v p'=>∃r,v=.tuple #[r,.J (By .next t vs).2]/\RsW p' (By .next t vs).1 r):=by
 obtain⟨⟨n1,n2⟩,⟨n3,O,M⟩,n6⟩:=hn;obtain⟨⟨k1,k2⟩,⟨k3,k4,k5⟩,k6⟩:=T.c;obtain⟨_,zs,hs⟩:=g.sn;obtain⟨tb,zb,hb⟩:=g.bn;obtain⟨td,zd,hd⟩:=g.db;refine xkq func113 fun K b2=>?_;refine drq [] R8 ?_;refine xaj rfl rfl rfl (yb8 t.s T.s ⟨om,om⟩ k2 zs hs (vs.getD 0 0)) ?_;refine xa ?_;exact K.r rfl rfl fun _ H=>(xqq H (.refl _ _ _) ⟨_,rfl,rfl⟩)
theorem ya8(A:TA)(t:Twn)(T:TwP p A t)(hn:t.fit 12)(g:GlP p){a:Option Addr}(n c:Nat)(vs:List Int):Lc prog (.main true) p 115 #[twV A t,.slice a n c] (fun v p'=>∃r,v=.tuple #[r,.J (By .Ea t vs).2]/\RsW p' (By .Ea t vs).1 r):=by
 obtain⟨⟨n1,n2⟩,⟨n3,n4,V⟩,n6⟩:=hn;obtain⟨⟨k1,k2⟩,⟨k3,k4,k5⟩,k6⟩:=T.c;obtain⟨_,zs,hs⟩:=g.sn;obtain⟨tb,zb,O⟩:=g.bn;obtain⟨td,zd,hd⟩:=g.db;refine xkq func115 fun K b2=>?_;refine ax ?_;refine xrx rfl rfl (fun _ M=>yz7 M t.b T.b ⟨om,om,om⟩ O) ?_;refine ax ?_;exact K.r rfl rfl fun _ H=>(xqq H (.refl _ _ _) ⟨_,rfl,rfl⟩)
theorem yy7(A:TA)(t:Twn)(T:TwP p A t)(hn:t.fit 12)(g:GlP p){a:Option Addr}(n c:Nat)(vs:List Int):Lc prog (.main true) p 118 #[twV A t,.slice a n c] (fun v p'=>∃r,v=.tuple #[r,.J (By .Ca t vs).2]/\RsW p' (By .Ca t vs).1 r):=by
 obtain⟨⟨n1,n2⟩,⟨n3,n4,n5⟩,n6⟩:=hn;obtain⟨⟨k1,k2⟩,⟨k3,k4,k5⟩,k6⟩:=T.c;obtain⟨_,zs,hs⟩:=g.sn;obtain⟨tb,zb,M⟩:=g.bn;obtain⟨td,zd,hd⟩:=g.db;refine xkq func118 fun K b2=>?_;refine ax ?_;refine xeb rfl rfl (fun _ O=>yx7 O t.b T.b ⟨om,om,om⟩ M) ?_;rintro _ Y ⟨w,rfl,o⟩;obtain⟨a1,V,rfl,-⟩:=o.val;rw[xpq]at o⊢;refine ax ?_;refine xiq o (xpq _) d_ fun p' _ _ g' e hc S=>?_;cases e;exact K.r rfl rfl fun _ H=>(xqq H g' ⟨_,rfl,a1,V,rfl,S⟩)
theorem yw7(A:TA)(t:Twn)(T:TwP p A t)(hn:t.fit 12)(g:GlP p){a:Option Addr}(n c:Nat)(vs:List Int)(V:Ar p a n vs)(hv:n=1):Lc prog (.main true) p 121 #[twV A t,.slice a n c] (fun v p'=>∃r,v=.tuple #[r,.J (By .draws t vs).2]/\RsW p' (By .draws t vs).1 r):=by
 obtain⟨⟨n1,n2⟩,⟨n3,n4,O⟩,n6⟩:=hn;obtain⟨⟨k1,k2⟩,⟨k3,k4,k5⟩,k6⟩:=T.c;obtain⟨_,zs,hs⟩:=g.sn;obtain⟨tb,zb,hb⟩:=g.bn;obtain⟨td,zd,hd⟩:=g.db;refine xkq func121 fun K b2=>?_;refine lq fun b4=>?_;refine drq [] R8 ?_;refine xaj rfl rfl rfl (fun _ M=>yv7 M t.b T.b ⟨om,om,om⟩ (vs.getD 0 0)) ?_;refine xa ?_;exact K.e rfl (xoq rfl (.tmp rfl .nil)) fun _ H=>(xqq H (.refl _ _ _) ⟨_,rfl,rfl⟩)
theorem yu7(A:TA)(t:Twn)(T:TwP p A t)(hn:t.fit 12)(g:GlP p){a:Option Addr}(n c:Nat)(vs:List Int)(V:Ar p a n vs)(hv:n=1):Lc prog (.main true) p 123 #[twV A t,.slice a n c] (fun v p'=>∃r,v=.tuple #[r,.J (By .dry t vs).2]/\RsW p' (By .dry t vs).1 r):=by
 obtain⟨⟨n1,n2⟩,⟨n3,n4,O⟩,n6⟩:=hn;obtain⟨⟨k1,k2⟩,⟨k3,k4,k5⟩,k6⟩:=T.c;obtain⟨_,zs,hs⟩:=g.sn;obtain⟨tb,zb,hb⟩:=g.bn;obtain⟨td,zd,hd⟩:=g.db;refine xkq func123 fun K b2=>?_;refine drq [] R8 ?_;refine xaj rfl rfl rfl (fun _ M=>yt7 M t.b T.b ⟨om,om,om⟩ (vs.getD 0 0)) ?_;refine xa ?_;exact K.r rfl rfl fun _ H=>(xqq H (.refl _ _ _) ⟨_,rfl,rfl⟩)
theorem ys7(A:TA)(t:Twn)(T:TwP p A t)(hn:t.fit 12)(g:GlP p){a:Option Addr}(n c:Nat)(vs:List Int):Lc prog (.main true) p 125 #[twV A t,.slice a n c] (fun v p'=>∃r,v=.tuple #[r,.J (By .short t vs).2]/\RsW p' (By .short t vs).1 r):=by
 obtain⟨⟨n1,n2⟩,⟨n3,n4,n5⟩,n6⟩:=hn;obtain⟨⟨k1,k2⟩,⟨k3,k4,k5⟩,k6⟩:=T.c;obtain⟨_,zs,hs⟩:=g.sn;obtain⟨tb,zb,hb⟩:=g.bn;obtain⟨td,zd,M⟩:=g.db;refine xkq func125 fun K b2=>?_;refine ax ?_;refine xeb rfl rfl (fun _ O=>yr7 O t.b T.b ⟨om,om,om⟩ M) ?_;rintro _ Y ⟨w,rfl,o⟩;obtain⟨a1,V,rfl,-⟩:=o.val;rw[xpq]at o⊢;refine ax ?_;refine xiq o (xpq _) d_ fun p' _ _ g' e hc S=>?_;cases e;exact K.r rfl rfl fun _ H=>(xqq H g' ⟨_,rfl,a1,V,rfl,S⟩)
theorem yq7(A:TA)(t:Twn)(T:TwP p A t)(hn:t.fit 12)(g:GlP p){a:Option Addr}(n c:Nat)(vs:List Int):Lc prog (.main true) p 127 #[twV A t,.slice a n c] (fun v p'=>∃r,v=.tuple #[r,.J (By .empty t vs).2]/\RsW p' (By .empty t vs).1 r):=by
 obtain⟨⟨n1,n2⟩,⟨n3,O,M⟩,V⟩:=hn;obtain⟨⟨k1,k2⟩,⟨k3,k4,k5⟩,k6⟩:=T.c;obtain⟨_,zs,hs⟩:=g.sn;obtain⟨tb,zb,hb⟩:=g.bn;obtain⟨td,zd,hd⟩:=g.db;refine xkq func127 fun K b2=>?_;refine ax ?_;refine xrx rfl rfl (yp7 T.d om) ?_;refine ax ?_;exact K.r rfl rfl fun _ H=>(xqq H (.refl _ _ _) ⟨_,rfl,rfl⟩)
theorem yo7(A:TA)(t:Twn)(T:TwP p A t)(hn:t.fit 12)(g:GlP p){a:Option Addr}(n c:Nat)(vs:List Int):Lc prog (.main true) p 129 #[twV A t,.slice a n c] (fun v p'=>∃r,v=.tuple #[r,.J (By .least t vs).2]/\RsW p' (By .least t vs).1 r):=by
 obtain⟨⟨n1,n2⟩,⟨n3,O,M⟩,V⟩:=hn;obtain⟨⟨k1,k2⟩,⟨k3,k4,k5⟩,k6⟩:=T.c;obtain⟨_,zs,hs⟩:=g.sn;obtain⟨tb,zb,hb⟩:=g.bn;obtain⟨td,zd,hd⟩:=g.db;refine xkq func129 fun K b2=>?_;refine ax ?_;refine xrx rfl rfl (yn7 T.d om) ?_;refine ax ?_;exact K.r rfl rfl fun _ H=>(xqq H (.refl _ _ _) ⟨_,rfl,rfl⟩)
theorem ym7(A:TA)(t:Twn)(T:TwP p A t)(hn:t.fit 12)(g:GlP p){a:Option Addr}(n c:Nat)(vs:List Int):Lc prog (.main true) p 131 #[twV A t,.slice a n c] (fun v p'=>∃r,v=.tuple #[r,.J (By .ration t vs).2]/\RsW p' (By .ration t vs).1 r):=by
 obtain⟨⟨n1,n2⟩,⟨n3,O,M⟩,V⟩:=hn;obtain⟨⟨k1,k2⟩,⟨k3,k4,k5⟩,k6⟩:=T.c;obtain⟨_,zs,hs⟩:=g.sn;obtain⟨tb,zb,hb⟩:=g.bn;obtain⟨td,zd,hd⟩:=g.db;refine xkq func131 fun K b2=>?_;refine ax ?_;refine xrx rfl rfl (yl7 T.d om) ?_;refine ax ?_;exact K.r rfl rfl fun _ H=>(xqq H (.refl _ _ _) ⟨_,rfl,rfl⟩)
theorem yk7(A:TA)(t:Twn)(T:TwP p A t)(hn:t.fit 12)(g:GlP p){a:Option Addr}(n c:Nat)(vs:List Int)(V:Ar p a n vs)(hv:n=1):Lc prog (.main true) p 133 #[twV A t,.slice a n c] (fun v p'=>∃r,v=.tuple #[r,.J (By .spare t vs).2]/\RsW p' (By .spare t vs).1 r):=by
 obtain⟨⟨n1,n2⟩,⟨n3,O,M⟩,n6⟩:=hn;obtain⟨⟨k1,k2⟩,⟨k3,k4,k5⟩,k6⟩:=T.c;obtain⟨_,zs,hs⟩:=g.sn;obtain⟨tb,zb,hb⟩:=g.bn;obtain⟨td,zd,hd⟩:=g.db;refine xkq func133 fun K b2=>?_;refine drq [] R8 ?_;refine xaj rfl rfl rfl (yj7 T.d om (vs.getD 0 0)) ?_;refine xa ?_;exact K.r rfl rfl fun _ H=>(xqq H (.refl _ _ _) ⟨_,rfl,rfl⟩)
theorem yi7(A:TA)(t:Twn)(T:TwP p A t)(hn:t.fit 12)(g:GlP p){a:Option Addr}(n c:Nat)(vs:List Int)(V:Ar p a n vs)(hv:n=1):Lc prog (.main true) p 135 #[twV A t,.slice a n c] (fun v p'=>∃r,v=.tuple #[r,.J (By .level t vs).2]/\RsW p' (By .level t vs).1 r):=by
 obtain⟨⟨n1,n2⟩,⟨n3,O,M⟩,n6⟩:=hn;obtain⟨⟨k1,k2⟩,⟨k3,k4,k5⟩,k6⟩:=T.c;obtain⟨_,zs,hs⟩:=g.sn;obtain⟨tb,zb,hb⟩:=g.bn;obtain⟨td,zd,hd⟩:=g.db;refine xkq func135 fun K b2=>?_;refine lq fun b4=>?_;refine drq [] R8 ?_;refine xaj rfl rfl rfl (yh7 T.d om (vs.getD 0 0)) ?_;refine xa ?_;exact K.e rfl (xoq rfl (.tmp rfl .nil)) fun _ H=>(xqq H (.refl _ _ _) ⟨_,rfl,rfl⟩)
def O9:Qn->FuncId
 |.fewest=>191
 |.cheap=>191
 |.deep=>191
 |.next=>191
 |.Ea=>191
 |.Ca=>199
 |.draws=>201
 |.dry=>191
 |.short=>199
 |.empty=>191
 |.least=>191
 |.ration=>191
 |.spare=>191
 |.level=>201
def inF:Qn->FuncId
 |.fewest=>107
 |.cheap=>109
 |.deep=>111
 |.next=>113
 |.Ea=>115
 |.Ca=>118
 |.draws=>121
 |.dry=>123
 |.short=>125
 |.empty=>127
 |.least=>129
 |.ration=>131
 |.spare=>133
 |.level=>135
def Nl(q:Qn)(v:Value)(p:Aa):Prop:=∃b T z,v=.func (.func (O9 q)) #[] #[w_ b 0]/\p b=some (.cells #[.func (.func (inF q)) #[] #[]] T z)
theorem Nl.mono{q:Qn}{v:Value}{p p':Aa}(x:Nl q v p)(M:PLe p p'):Nl q v p':=by
 obtain⟨b,T,z,e,H⟩:=x;exact⟨b,T,z,e,M _ _ H⟩
def RsV(p:Aa):Rs->Value->Prop
 |.num n,v=>v=.iface 174 (.J n)
 |.spn a b,v=>v=.iface 223 (.agg #[.J a,.J b])
 |.lst l,v=>∃a c,v=.iface 222 (.slice a l.length c)/\Ar p a l.length l
theorem xxn:Lc prog md p 106 #[.func (.func f) #[] #[]] (fun v p'=>∃b T z,v=.func (.func 191) #[] #[w_ b 0]/\p' b=some (.cells #[.func (.func f) #[] #[]] T z)):=by
 refine xkq func106 fun K b1=>?_;refine ax ?_;refine xk2 (b:=b1) fun V M H=>?_;exact K.r rfl rfl fun _ O=>(xqq O M ⟨b1,_,_,rfl,H⟩)
theorem xwn(hp:Per p h)(A:TA)(t:Twn){a:Option Addr}(n c:Nat)(b:Nat)(hb:p b=some (.cells #[.func (.func f) #[] #[]] tB zB))(R:Rs×Int)(hR:∃x e,R=(.num x,e))
 (hf:∀h,Per p h->Ay prog (.main true) (.func (.func f) #[] #[]) [twV A t,.slice a n c] h (Cm p h fun v p'=>∃r,v=.tuple #[r,.J R.2]/\RsW p' R.1 r)):
 Ac prog (.main true) 191 #[twV A t,.slice a n c,w_ b 0] h (Cm p h fun v p'=>∃r,v=.tuple #[r,.J R.2]/\RsV p' R.1 r):=by
 refine xsq hp func191 fun K b3=>?_;refine ax ?_;refine xu4 rfl rfl (fun h V=>hf h V) ?_;obtain⟨x,e,rfl⟩:=hR;rintro _ p1 M ⟨r,rfl,H⟩;cases H;refine ax ?_;refine ro_y rfl (y_mi rfl trivial underlying174) ?_;refine ax ?_;exact K.r rfl rfl fun _ O=>(xqq O M ⟨_,rfl,rfl⟩)
theorem yh1:Lc prog md p 120 #[.func (.func f) #[] #[]] (fun v p'=>∃b T z,v=.func (.func 201) #[] #[w_ b 0]/\p' b=some (.cells #[.func (.func f) #[] #[]] T z)):=by
 refine xkq func120 fun K b1=>?_;refine ax ?_;refine xk2 (b:=b1) fun V M H=>?_;exact K.r rfl rfl fun _ O=>(xqq O M ⟨b1,_,_,rfl,H⟩)
theorem yr0(hp:Per p h)(A:TA)(t:Twn){a:Option Addr}(n c:Nat)(b:Nat)(hb:p b=some (.cells #[.func (.func f) #[] #[]] tB zB))(R:Rs×Int)(hR:∃x y e,R=(.spn x y,e))
 (hf:∀h,Per p h->Ay prog (.main true) (.func (.func f) #[] #[]) [twV A t,.slice a n c] h (Cm p h fun v p'=>∃r,v=.tuple #[r,.J R.2]/\RsW p' R.1 r)):
 Ac prog (.main true) 201 #[twV A t,.slice a n c,w_ b 0] h (Cm p h fun v p'=>∃r,v=.tuple #[r,.J R.2]/\RsV p' R.1 r):=by
 refine xsq hp func201 fun K b3=>?_;refine ax ?_;refine xu4 rfl rfl (fun h V=>hf h V) ?_;obtain⟨x,y,e,rfl⟩:=hR;rintro _ p1 M ⟨r,rfl,H⟩;cases H;refine lq fun b7=>?_;refine ax ?_;refine ro_y rfl (y_mi rfl trivial underlying223) ?_;refine ax ?_;exact K.r rfl rfl fun _ O=>(xqq O M ⟨_,rfl,rfl⟩)
theorem yi1:Lc prog md p 117 #[.func (.func f) #[] #[]] (fun v p'=>∃b T z,v=.func (.func 199) #[] #[w_ b 0]/\p' b=some (.cells #[.func (.func f) #[] #[]] T z)):=by
 refine xkq func117 fun K b1=>?_;refine ax ?_;refine xk2 (b:=b1) fun V M H=>?_;exact K.r rfl rfl fun _ O=>(xqq O M ⟨b1,_,_,rfl,H⟩)
theorem ys0(hp:Per p h)(A:TA)(t:Twn){a:Option Addr}(n c:Nat)(b:Nat)(hb:p b=some (.cells #[.func (.func f) #[] #[]] tB zB))(R:Rs×Int)(hR:∃l e,R=(.lst l,e))
 (hf:∀h,Per p h->Ay prog (.main true) (.func (.func f) #[] #[]) [twV A t,.slice a n c] h (Cm p h fun v p'=>∃r,v=.tuple #[r,.J R.2]/\RsW p' R.1 r)):
 Ac prog (.main true) 199 #[twV A t,.slice a n c,w_ b 0] h (Cm p h fun v p'=>∃r,v=.tuple #[r,.J R.2]/\RsV p' R.1 r):=by
 refine xsq hp func199 fun K b3=>?_;refine ax ?_;refine xu4 rfl rfl (fun h V=>hf h V) ?_;obtain⟨l,e,rfl⟩:=hR;rintro _ p1 M ⟨r,rfl,a1,c1,H,I⟩;cases H;refine ax ?_;refine ro_y rfl (y_mi rfl trivial underlying222) ?_;refine ax ?_;exact K.r rfl rfl fun _ O=>(xqq O M ⟨_,rfl,a1,c1,rfl,I⟩)
theorem xcr(q:Qn)(v:Value)(h:Heap)(p:Aa)(O:Per p h)(x:Nl q v p)(A:TA)(t:Twn)(T:TwP p A t)(hn:t.fit 12)(g:GlP p)(a:Option Addr)(n c:Nat)(vs:List Int)(V:Ar p a n vs)(hv:n=q.ar):
 Ay prog (.main true) v [twV A t,.slice a n c] h (Cm p h fun v p'=>∃r,v=.tuple #[r,.J (By q t vs).2]/\RsV p' (By q t vs).1 r):=by
 obtain⟨b,tB,zB,rfl,M⟩:=x;cases q
 ·exact xgq (first:=[]) (cap:=[w_ b 0]) k_ (xwn O A t n c b M (By .fewest t vs) ⟨_,_,rfl⟩ fun h H=>xgq (first:=[]) (cap:=[]) k_ (yh8 A t T hn g n c vs h H))
 ·exact xgq (first:=[]) (cap:=[w_ b 0]) k_ (xwn O A t n c b M (By .cheap t vs) ⟨_,_,rfl⟩ fun h H=>xgq (first:=[]) (cap:=[]) k_ (yf8 A t T hn g n c vs h H))
 ·exact xgq (first:=[]) (cap:=[w_ b 0]) k_ (xwn O A t n c b M (By .deep t vs) ⟨_,_,rfl⟩ fun h H=>xgq (first:=[]) (cap:=[]) k_ (ye8 A t T hn g n c vs V hv h H))
 ·exact xgq (first:=[]) (cap:=[w_ b 0]) k_ (xwn O A t n c b M (By .next t vs) ⟨_,_,rfl⟩ fun h H=>xgq (first:=[]) (cap:=[]) k_ (yc8 A t T hn g n c vs V hv h H))
 ·exact xgq (first:=[]) (cap:=[w_ b 0]) k_ (xwn O A t n c b M (By .Ea t vs) ⟨_,_,rfl⟩ fun h H=>xgq (first:=[]) (cap:=[]) k_ (ya8 A t T hn g n c vs h H))
 ·exact xgq (first:=[]) (cap:=[w_ b 0]) k_ (ys0 O A t n c b M (By .Ca t vs) ⟨_,_,rfl⟩ fun h H=>xgq (first:=[]) (cap:=[]) k_ (yy7 A t T hn g n c vs h H))
 ·exact xgq (first:=[]) (cap:=[w_ b 0]) k_ (yr0 O A t n c b M (By .draws t vs) ⟨_,_,_,rfl⟩ fun h H=>xgq (first:=[]) (cap:=[]) k_ (yw7 A t T hn g n c vs V hv h H))
 ·exact xgq (first:=[]) (cap:=[w_ b 0]) k_ (xwn O A t n c b M (By .dry t vs) ⟨_,_,rfl⟩ fun h H=>xgq (first:=[]) (cap:=[]) k_ (yu7 A t T hn g n c vs V hv h H))
 ·exact xgq (first:=[]) (cap:=[w_ b 0]) k_ (ys0 O A t n c b M (By .short t vs) ⟨_,_,rfl⟩ fun h H=>xgq (first:=[]) (cap:=[]) k_ (ys7 A t T hn g n c vs h H))
 ·exact xgq (first:=[]) (cap:=[w_ b 0]) k_ (xwn O A t n c b M (By .empty t vs) ⟨_,_,rfl⟩ fun h H=>xgq (first:=[]) (cap:=[]) k_ (yq7 A t T hn g n c vs h H))
 ·exact xgq (first:=[]) (cap:=[w_ b 0]) k_ (xwn O A t n c b M (By .least t vs) ⟨_,_,rfl⟩ fun h H=>xgq (first:=[]) (cap:=[]) k_ (yo7 A t T hn g n c vs h H))
 ·exact xgq (first:=[]) (cap:=[w_ b 0]) k_ (xwn O A t n c b M (By .ration t vs) ⟨_,_,rfl⟩ fun h H=>xgq (first:=[]) (cap:=[]) k_ (ym7 A t T hn g n c vs h H))
 ·exact xgq (first:=[]) (cap:=[w_ b 0]) k_ (xwn O A t n c b M (By .spare t vs) ⟨_,_,rfl⟩ fun h H=>xgq (first:=[]) (cap:=[]) k_ (yk7 A t T hn g n c vs V hv h H))
 ·exact xgq (first:=[]) (cap:=[w_ b 0]) k_ (yr0 O A t n c b M (By .level t vs) ⟨_,_,_,rfl⟩ fun h H=>xgq (first:=[]) (cap:=[]) k_ (yi7 A t T hn g n c vs V hv h H))
theorem cf54(w:Str)(hw:w.length<=900)(n:Nat)(hn:n<=900){zT:Nat×Nat}(Z:p 5=some (.cells (Lib.pow10Tab.map (Value.int .u64)).toArray tT zT)):Lc prog md p 54 #[sv w,.J ((n:Nat):Int)] (fun v p'=>match qn (w++txt n)with
   |none=>v=.nilFunc
   |some q=>Nl q v p'):=by
 have hl:=yiq (n:=n) om;refine xlq func54 fun K=>?_;refine xrx rfl rfl (xl3 _ om Z) ?_;refine ax ?_;refine ro_y rfl (xwf rfl rfl om) ?_;refine ax ?_;generalize w++txt (n:Int)=s at*;refine cq (fun V=>?_) (fun c0=>?_)
 ·refine cpq xxn ?_;rintro _ p1 M ⟨b,T,z,rfl,O⟩;refine ax ?_;exact K.r rfl rfl fun _ H=>(xqq H M (by rw[V];exact⟨b,T,z,rfl,O⟩))
 refine cq (fun V=>?_) (fun c1=>?_)
 ·refine cpq xxn ?_;rintro _ p1 M ⟨b,T,z,rfl,O⟩;refine ax ?_;exact K.r rfl rfl fun _ H=>(xqq H M (by rw[V];exact⟨b,T,z,rfl,O⟩))
 refine cq (fun V=>?_) (fun c2=>?_)
 ·refine cpq xxn ?_;rintro _ p1 M ⟨b,T,z,rfl,O⟩;refine ax ?_;exact K.r rfl rfl fun _ H=>(xqq H M (by rw[V];exact⟨b,T,z,rfl,O⟩))
 refine cq (fun V=>?_) (fun c3=>?_)
 ·refine cpq xxn ?_;rintro _ p1 M ⟨b,T,z,rfl,O⟩;refine ax ?_;exact K.r rfl rfl fun _ H=>(xqq H M (by rw[V];exact⟨b,T,z,rfl,O⟩))
 refine cq (fun V=>?_) (fun c4=>?_)
 ·refine cpq xxn ?_;rintro _ p1 M ⟨b,T,z,rfl,O⟩;refine ax ?_;exact K.r rfl rfl fun _ H=>(xqq H M (by rw[V];exact⟨b,T,z,rfl,O⟩))
 refine cq (fun V=>?_) (fun c5=>?_)
 ·refine cpq yi1 ?_;rintro _ p1 M ⟨b,T,z,rfl,O⟩;refine ax ?_;exact K.r rfl rfl fun _ H=>(xqq H M (by rw[V];exact⟨b,T,z,rfl,O⟩))
 refine cq (fun V=>?_) (fun c6=>?_)
 ·refine cpq yh1 ?_;rintro _ p1 M ⟨b,T,z,rfl,O⟩;refine ax ?_;exact K.r rfl rfl fun _ H=>(xqq H M (by rw[V];exact⟨b,T,z,rfl,O⟩))
 refine cq (fun V=>?_) (fun c7=>?_)
 ·refine cpq xxn ?_;rintro _ p1 M ⟨b,T,z,rfl,O⟩;refine ax ?_;exact K.r rfl rfl fun _ H=>(xqq H M (by rw[V];exact⟨b,T,z,rfl,O⟩))
 refine cq (fun V=>?_) (fun c8=>?_)
 ·refine cpq yi1 ?_;rintro _ p1 M ⟨b,T,z,rfl,O⟩;refine ax ?_;exact K.r rfl rfl fun _ H=>(xqq H M (by rw[V];exact⟨b,T,z,rfl,O⟩))
 refine cq (fun V=>?_) (fun c9=>?_)
 ·refine cpq xxn ?_;rintro _ p1 M ⟨b,T,z,rfl,O⟩;refine ax ?_;exact K.r rfl rfl fun _ H=>(xqq H M (by rw[V];exact⟨b,T,z,rfl,O⟩))
 refine cq (fun V=>?_) (fun a4=>?_)
 ·refine cpq xxn ?_;rintro _ p1 M ⟨b,T,z,rfl,O⟩;refine ax ?_;exact K.r rfl rfl fun _ H=>(xqq H M (by rw[V];exact⟨b,T,z,rfl,O⟩))
 refine cq (fun V=>?_) (fun a5=>?_)
 ·refine cpq xxn ?_;rintro _ p1 M ⟨b,T,z,rfl,O⟩;refine ax ?_;exact K.r rfl rfl fun _ H=>(xqq H M (by rw[V];exact⟨b,T,z,rfl,O⟩))
 refine cq (fun V=>?_) (fun a2=>?_)
 ·refine cpq xxn ?_;rintro _ p1 M ⟨b,T,z,rfl,O⟩;refine ax ?_;exact K.r rfl rfl fun _ H=>(xqq H M (by rw[V];exact⟨b,T,z,rfl,O⟩))
 refine cq (fun V=>?_) (fun a3=>?_)
 ·refine cpq yh1 ?_;rintro _ p1 M ⟨b,T,z,rfl,O⟩;refine ax ?_;exact K.r rfl rfl fun _ H=>(xqq H M (by rw[V];exact⟨b,T,z,rfl,O⟩))
 refine ax ?_;exact K.r rfl rfl fun _ H=>(xqq H (.refl _ _ _) (by
  unfold qn;rw[if_neg c0,if_neg c1,if_neg c2,if_neg c3,if_neg c4,if_neg c5,if_neg c6,if_neg c7,if_neg c8,if_neg c9,if_neg a4,if_neg a5,if_neg a2,if_neg a3];rfl))
def Nx(b:Nat)(l:Str)(X:Pcs):Prop:=∃a v Y,X=[(b,.cells #[.pointer a,v] 397 (0,0))]++Y/\(a=none\/a=some ⟨b,0,none⟩)/\Ab 5 1 v (bcs l) Y
theorem yzt(hp:Per p h)(b:Nat){a:Option Addr}(v:Value)(ha:a=none\/a=some ⟨b,0,none⟩)(V:h[b]?=some (.cells #[.pointer a,v] 397 (0,0)))(M:p b=none):
 Ac prog md 374 #[w_ b 0] h (Dg p h b fun _ _ o'=>o'=.cells #[w_ b 0,v] 397 (0,0)):=by
 refine xnz hp V M func374 fun _ _ _ K=>?_;refine ax ?_;rcases ha with rfl|rfl
 ·refine ro_y rfl (yrf true rfl rfl rfl underlying395) ?_;refine ax ?_;refine xjx rfl (fun H=>?_) (fun H=>absurd trivial H);refine ax ?_;refine ydr (i:=0) (w:=1) underlying395 underlying306 k_ rfl (by show 0<2;decide) rfl ?_;refine ax ?_;refine ro_y rfl (yfh func375 k_ rfl rfl (fun h=>xbq ⟨rfl,rfl⟩) (e:=Extern.AbiNoEscape.same)) ?_;refine ax ?_;refine yxw (i:=0) (w:=1) underlying306 underlying395 k_ rfl (by show 0<2;decide) k_ rfl ?_;refine ax ?_;exact xob func374 rfl fun _ O=>K _ _ (xkj O (.refl _ _ _) rfl)
 ·refine ro_y rfl (yrf false rfl rfl rfl underlying395) ?_;refine ax ?_;refine xjx rfl (fun H=>absurd H id) (fun H=>?_);refine ax ?_;refine ro_y rfl (ys1 rfl rfl underlying395 k_ (w:=1)) ?_;refine ax ?_;refine xjx rfl (fun H=>absurd H id) (fun H=>?_);refine ax ?_;exact xob func374 rfl fun _ O=>K _ _ (xkj O (.refl _ _ _) rfl)
theorem ylv(l:Str):(bcs l).length=l.length:=xzj l
theorem yd3(C X:Pcs)(b:Nat)(B:Nx b l X)(hl:l.length<=100000)(c:UInt8)(s:St z9 zz p h (X++C)):
 Ac prog md 371 #[w_ b 0,.int .u8 ((c.toNat:Nat):Int)] h fun _ h'=>∃O,Nx b (l++[c]) O/\St z9 zz p h' (O++C):=by
 obtain⟨a,v,Y,rfl,ha,o⟩:=B;refine xjj s func371 fun _ _ _ K=>?_;refine xqz [(b,.cells #[.pointer a,v] 397 (0,0))] Y ?_;refine ax ?_;refine xyt rfl rfl (fun h_ pe hb H=>yzt pe b v ha hb H) fun r p1 o1 g1 e1=>?_;subst e1;obtain⟨a1,c1,rfl,-⟩:=o.val;refine ax ?_;refine xtx rfl fun v2 Y2 M=>?_;have M:Ab 5 1 v2 (bcs [c]) Y2:=M;refine xbv rfl rfl o M (by simp[bcs,Be]) (by simp[ylv];omega) fun v3 V o3=>?_;obtain⟨a3,c3,rfl,-⟩:=o3.val;refine ax ?_;refine xfk (LL':=[[(b,.cells #[w_ b 0,.slice a3 _ c3] 397 (0,0))],V,C]) ?_ (fun _ s=>s);exact xrq func371 rfl rfl fun h_ H_=>K _ _ ⟨_,⟨_,_,V,rfl,.inr rfl,o3.as (by simp[bcs])⟩,(xj7 H_).forget g1.le⟩
theorem yc3(C X:Pcs)(b:Nat)(B:Nx b l X)(hl:l.length<=100000)(m:Str)(hm:m.length<=100000)(s:St z9 zz p h (X++C)):
 Ac prog md 372 #[w_ b 0,sv m] h fun _ h'=>∃O,Nx b (l++m) O/\St z9 zz p h' (O++C):=by
 obtain⟨a,v,Y,rfl,ha,o⟩:=B;refine xjj s func372 fun _ _ _ K=>?_;refine xqz [(b,.cells #[.pointer a,v] 397 (0,0))] Y ?_;refine ax ?_;refine xyt rfl rfl (fun h_ pe hb H=>yzt pe b v ha hb H) fun r p1 o1 g1 e1=>?_;subst e1;obtain⟨a1,c1,rfl,-⟩:=o.val;refine ax ?_;refine yab rfl rfl o om fun v3 V M=>?_;obtain⟨a3,c3,rfl,-⟩:=M.val;refine ax ?_;refine xfk (LL':=[[(b,.cells #[w_ b 0,.slice a3 _ c3] 397 (0,0))],V,C]) ?_ (fun _ s=>s);exact xrq func372 rfl rfl fun h_ H_=>K _ _ ⟨_,⟨_,_,V,rfl,.inr rfl,M⟩,(xj7 H_).forget g1.le⟩
theorem yb3(C X:Pcs)(b:Nat)(B:Nx b l X)(M:0<l.length)(hl:l.length<=1000000)(s:St z9 zz p h (X++C)):
 Ac prog md 373 #[w_ b 0] h fun r h'=>∃V:Pcs,r=sv l/\St z9 zz p h' (V++C):=by
 obtain⟨a,v,Y,rfl,ha,o⟩:=B;refine xjj s func373 fun _ _ _ K=>?_;refine xqz [(b,.cells #[.pointer a,v] 397 (0,0))] Y ?_;have H:=ylv l;obtain⟨b1,c1,rfl,a2,-⟩:=o.at0 om d_;refine drq [] R10 ?_;refine de_y rfl rfl (yp1 rfl om) ?_;refine xa ?_;rw[H]at o⊢;refine ycr o M hl rfl rfl underlying368 k_ ?_;refine ax ?_;exact xrq func373 rfl rfl fun _ O=>K _ _ ⟨_,rfl,xrg (Y:=[(b,.cells #[.pointer a,.slice (some ⟨b1,0,none⟩) l.length c1] 397 (0,0))]) O⟩
end Go.Proofs.YtadndcpcjmmngaaGreatDoor
namespace Go.X.Ms
open Go.X.Flow (ics)
variable{x:Int}{l:List Int}{xs:List Str}{z:List Value}{i:Nat}{p p':Aa}{d:Eg}{s:Str}{A:TA}{tr tr' v:Value}
def iv(l:List Int):List Value:=l.map (Value.int .i64)
theorem xiz(l:List Int):(iv l).length=l.length:=by simp[iv]
theorem yvs(h:i<l.length):(iv l)[i]?=some (.J (l.getD i 0)):=by
 rw[iv,List.getElem?_map,List.getD_eq_getElem?_getD,List.getElem?_eq_getElem h];rfl
theorem ymg:(iv l).set i (.J x)=iv (l.set i x):=by simp[iv,List.map_set]
def dkc(A:TA)(d:Eg)(tr:Value):List Value:=tcs A d.t++(iv d.B1++(iv d.kept++[tr]))
def Eg.wf(d:Eg):Prop:=d.B1.length=26/\d.kept.length=26
theorem yuz{l:List Value}(h:l[i]?=some v):nth l i=some v:=by
 induction l generalizing i with
 |nil=>simp at h
 |cons a l ih=>
   cases i with
   |zero=>exact h
   |succ i=>exact ih (by simpa using h)
theorem xlv{t:Twn}:(tcs A t).length=11:=rfl
theorem xnc(w:d.wf):(dkc A d tr).length=64:=by
 simp[dkc,xiz,w.1,w.2]
theorem ynt(w:d.wf)(h:i<26):nth (dkc A d tr) (11+i)=some (.J (d.B1.getD i 0)):=yuz (by
 rw[dkc,List.getElem?_append_right (by rw[xlv];omega),xlv,Nat.add_sub_cancel_left,List.getElem?_append_left (by rw[xiz,w.1];exact h)];exact yvs (by rw[w.1];exact h))
theorem ymt(w:d.wf)(h:i<26):nth (dkc A d tr) (37+i)=some (.J (d.kept.getD i 0)):=yuz (by
 rw[dkc,List.getElem?_append_right (by rw[xlv];omega),xlv,List.getElem?_append_right (by rw[xiz,w.1];omega),xiz,w.1,List.getElem?_append_left (by rw[xiz,w.2];omega)];rw[show 37+i-11-26=i by omega];exact yvs (by rw[w.2];exact h))
theorem xf1(w:d.wf):nth (dkc A d tr) 63=some tr:=yuz (by
 rw[dkc,List.getElem?_append_right (by rw[xlv];omega),xlv,List.getElem?_append_right (by rw[xiz,w.1];omega),xiz,w.1,List.getElem?_append_right (by rw[xiz,w.2];omega),xiz,w.2];rfl)
theorem xh3(w:d.wf):((dkc A d tr).drop 11).take 52=iv d.B1++iv d.kept:=by
 have e:(tcs A d.t).length=11:=rfl;rw[dkc,List.drop_left' e,<- List.append_assoc];exact List.take_left' (by rw[List.length_append,xiz,xiz,w.1,w.2])
theorem xwh{a r vs:List Value}{n:Nat}(hn:a.length=n)(h:vs.length<=r.length):Ce (a++r) n vs=a++(vs++r.drop vs.length):=by subst hn;exact xmv h
theorem yxk(w:d.wf):Ce (dkc A d tr) 63 [tr']=dkc A d tr':=by
 have e:dkc A d tr=(tcs A d.t++(iv d.B1++iv d.kept))++[tr]:=by simp[dkc,List.append_assoc]
 have H:(tcs A d.t++(iv d.B1++iv d.kept)).length=63:=by
  rw[List.length_append,List.length_append,xiz,xiz,w.1,w.2];rfl
 rw[e];refine(xwh (r:=[tr]) (vs:=[tr']) H (Nat.le_refl 1)).trans ?_;simp[dkc,List.append_assoc]
theorem yin(w:d.wf)(h:i<26):Ce (dkc A d tr) (11+i) [.J x]=dkc A {d with B1:=d.B1.set i x} tr:=by
 show(dkc A d tr).set (11+i) (.J x)=_;rw[dkc,List.set_append_right (h:=by rw[xlv];omega),xlv,Nat.add_sub_cancel_left,List.set_append_left (h:=by rw[xiz,w.1];exact h),ymg];rfl
theorem yhn(w:d.wf)(h:i<26):Ce (dkc A d tr) (37+i) [.J x]=dkc A {d with kept:=d.kept.set i x} tr:=by
 show(dkc A d tr).set (37+i) (.J x)=_;rw[dkc,List.set_append_right (h:=by rw[xlv];omega),xlv,List.set_append_right (h:=by rw[xiz,w.1];omega),xiz,w.1,List.set_append_left (h:=by rw[xiz,w.2];omega),show 37+i-11-26=i by omega,ymg];rfl
theorem ywk(w:d.wf){d':Eg}(w':d'.wf):Ce (dkc A d tr) 11 (iv d'.B1++iv d'.kept)=dkc A {d with B1:=d'.B1,kept:=d'.kept} tr:=by
 have e:(tcs A d.t).length=11:=rfl;have M:(iv d'.B1++iv d'.kept).length=52:=by rw[List.length_append,xiz,xiz,w'.1,w'.2]
 have H:(iv d.B1++iv d.kept).length=52:=by rw[List.length_append,xiz,xiz,w.1,w.2]
 rw[dkc,xwh e (by simp[xiz,w.1,w.2,w'.1,w'.2]),M,<- List.append_assoc (iv d.B1),List.drop_left' H];simp[dkc,List.append_assoc]
theorem xg3{H:TA}{M:Twn}:Ce (dkc A d tr) 0 (tcs H M)=dkc H {d with t:=M } tr:=by
 have:=xwh (a:=[]) (r:=dkc A d tr) (vs:=tcs H M) (n:=0) rfl (by rw[dkc,List.length_append];simp);rw[List.nil_append]at this;rw[this];rfl
structure SnP(p:Aa)(A:TA)(d:Eg):Prop where
 T:TwP p A d.t
 ok:Bp d.t=0
 w:d.wf
theorem SnP.mono{p p':Aa}{A:TA}{d:Eg}(s:SnP p A d)(H:PLe p p'):SnP p' A d:=⟨s.T.mono H,s.ok,s.w⟩
def K4(xs:List (TA×Eg)):List (List Value):=xs.map fun x=>dkc x.1 x.2 (.slice none 0 0)
structure Hy(p:Aa)(a:Option Addr)(c:Nat)(xs:List (TA×Eg)):Prop where
 c:xs.length<=c
 s:Sl p a xs.length 64 (K4 xs)
 e:∀x∈xs,SnP p x.1 x.2
theorem Hy.mono{p p':Aa}{a:Option Addr}{c:Nat}{xs:List (TA×Eg)}(s:Hy p a c xs)(H:PLe p p'):Hy p' a c xs:=⟨s.c,s.s.mono H,fun x M=>(s.e x M).mono H⟩
structure DkP(p:Aa)(D:Dsk)(ob:Obj)(T:TypeId):Prop where
 h:∃A a c xs,ob=.cells (dkc A D.now (.slice a xs.length c)).toArray T (0,0)/\SnP p A D.now/\Hy p a c xs/\xs.map (·.2)=D.Cu
theorem xxf(d:Eg)(s:Str):∀xs:List Str,Br d (xs++[s])=match Br d xs with
  |none=>none
  |some vs=>(Ki d s).map fun n=>vs++[n]
 |[]=>by
   rw[List.nil_append,Br,Br];cases Ki d s<;>rfl
 |x::xs=>by
   rw[List.cons_append,Br,Br,xxf d s xs];cases Ki d x with
   |none=>rfl
   |some n=>
     cases Br d xs with
     |none=>rfl
     |some vs=>cases Ki d s<;>rfl
theorem xpn(d:Eg)(h:Br d xs=none):∀H:List Str,Br d (xs++H)=none:=by
 induction xs with
 |nil=>cases h
 |cons x xs ih=>
   intro H;rw[List.cons_append,Br];rw[Br]at h;cases M:Ki d x with
   |none=>rfl
   |some n=>
     rw[M]at h;simp only at h⊢;rw[ih (by simpa using h) H];rfl
theorem xed(d:Eg):∀{xs:List Str}{vs:List Int},Br d xs=some vs->vs.length=xs.length
 |[],_,h=>by cases h;rfl
 |x::xs,vs,h=>by
   rw[Br]at h;cases H:Ki d x with
   |none=>rw[H]at h;cases h
   |some n=>
     rw[H]at h;obtain⟨O,M,rfl⟩:=Option.map_eq_some_iff.1 h;rw[List.length_cons,xed d M,List.length_cons]
theorem xrh(h:isLet s=true):Ki d s=if d.kept.getD (D5 s) 0=0 then none else some (d.B1.getD (D5 s) 0):=by unfold Ki;rw[if_pos h]
theorem xqh(h:¬ isLet s=true):Ki d s=some ((Cw s).getD 0):=by unfold Ki;rw[if_neg h]
theorem yjg(h:isLet s=true):(s.getD 0 0).toNat=97+D5 s/\D5 s<26/\0<s.length:=by
 have z:=xcf.1 h;have e:s.headD 0=s.getD 0 0:=by cases s<;>rfl
 unfold D5;rw[e];omega
theorem ysp{j:Nat}(h:j<xs.length):xs.getD j []∈xs/\xs.take (j+1)=xs.take j++[xs.getD j []]:=by
 have e:xs.getD j []=xs[j]:=by rw[List.getD_eq_getElem?_getD,List.getElem?_eq_getElem h];rfl
 rw[e];exact⟨List.getElem_mem _,by rw[List.take_succ_eq_append_getElem h]⟩
open Go.Conc
theorem xqt{l:List Value}(h:l.length=z.length):Ce z 0 l=l:=by
 have:=xwh (a:=[]) (r:=z) (vs:=l) (n:=0) rfl om;rw[List.nil_append]at this;rw[this,h,List.drop_length,List.append_nil];rfl
theorem Mu{w:Nat}(H:z.length=w)(hv:v.cells.toList.length=w):Instr.fill (fun i=>some (i*w,w)) z.toArray [(0,v)]=some v.cells:=by
 have e:=xel (pl:=[(0,w)]) (vs:=[(0,v)]) (cs:=z) (r:=v.cells.toList) (by
  unfold Gl;simp only[Nn];rw[hv,Nat.beq_refl,show Nat.ble (0+w) z.length=true from Nat.ble_eq ▸ (show 0+w<=z.length by omega)];simp only[Bool.and_self];rw[Gl,xqt om])
 simp only[Instr.fill,List.getElem?_cons_zero,Nat.zero_mul]at e⊢;simpa using e
def zT:Twn:=⟨⟨[],[],0,0,0⟩,⟨[],[],[]⟩,⟨0,0,[]⟩⟩
def zA:TA:=⟨(none,0),(none,0),(none,0),(none,0),(none,0),(none,0)⟩
def zS:Eg:=⟨zT,List.replicate 26 0,List.replicate 26 0⟩
theorem ylm(w:d.wf):Gl [(0,11),(11,52),(63,1)] (dkc zA zS (.slice none 0 0)) [(0,.agg (tcs A d.t).toArray),(1,.agg (iv d.B1++iv d.kept).toArray)]=some (dkc A d (.slice none 0 0)):=by
 have H:zS.wf:=⟨rfl,rfl⟩
 have V:(iv d.B1++iv d.kept).length=52:=by rw[List.length_append,xiz,xiz,w.1,w.2]
 have M:(Value.agg (tcs A d.t).toArray).cells.toList=tcs A d.t:=rfl;have O:(Value.agg (iv d.B1++iv d.kept).toArray).cells.toList=iv d.B1++iv d.kept:=by simp[Value.cells]
 unfold Gl;simp only[Nn];rw[M,xlv,show Nat.beq 11 11=true from rfl,xnc H,show Nat.ble (0+11) 64=true from rfl];simp only[Bool.and_self];rw[xg3];have w1:({zS with t:=d.t}:Eg).wf:=⟨rfl,rfl⟩
 unfold Gl;simp only[Nn];rw[O,V,show Nat.beq 52 52=true from rfl,xnc w1,show Nat.ble (11+52) 64=true from rfl];simp only[Bool.and_self];rw[ywk w1 w];rfl
end Go.X.Ms
namespace Go.X
open Go.Conc
section
variable{X:Cx}{k:List Item}{ops:List Oper}{m:Ks}{l:Env}{p:Aa}{LF LL:List Pcs}{effs todo:List Nat}{dd:Nat}{ty:TypeId}{pos:String}{aft:Array Edge}{x:Operand}{i w:Nat}{v:Value}
theorem yyt{M eT:TypeId}{z:Value}{cs:List Value}(O:ops[i]?=some ⟨some dd,.buildSlice M 1 #[(0,x)],ty,pos,aft,none⟩)(hx:Mp l [(0,x)]=some [(0,v)])(hv:v.cells=cs.toArray)(hw:cs.length=w)[hT:Cb X.P M eT][hs:Ak X.P eT w][hz:A9 X.P eT z]
 (nx:∀u Y,Ab eT w u [cs] Y->DE X k ops m p LF effs todo ((dd,none,u)::l) (Y::LL))(he:effs.contains i=true:=by rfl)(V:w<=1000:=by decide):DE X k ops m p LF effs (i::todo) l LL:=by
 have H:chs w 1 v.cells.toList=[cs]:=by
  rw[hv,chs,chs,List.take_of_length_le (by simp;omega)]
 refine xjk (cells:=v.cells) (parts:=[(0,x)]) O hx (fun u Y o=>nx u Y (by rw[H]at o;exact o)) he (Ms.Mu s_ (by rw[hv];simpa using hw)) (by rw[H,hv];simp) (by rw[H];simp[hw]) (by rw[H];rfl) om
end
end Go.X
namespace Go.X.Ms
theorem xj4(xs:List (TA×Eg)):(K4 xs).length=xs.length:=by simp[K4]
theorem ysh{xs:List (TA×Eg)}{i:Nat}(h:i<xs.length):(K4 xs)[i]?=some (dkc (xs[i]'h).1 (xs[i]'h).2 (.slice none 0 0)):=by
 rw[K4,List.getElem?_map,List.getElem?_eq_getElem h];rfl
theorem yx2{A:TA}{d:Eg}{tr:Value}(h:Be tr=true):∀u∈dkc A d tr,Be u=true:=by
 intro u H;simp only[dkc,tcs,iv,List.mem_append,List.mem_cons,List.not_mem_nil,or_false,List.mem_map]at H;rcases H with(rfl|rfl|rfl|rfl|rfl|rfl|rfl|rfl|rfl|rfl|rfl)|⟨_,_,rfl⟩|⟨_,_,rfl⟩|rfl
 all_goals first|rfl|exact h
end Go.X.Ms
namespace Go.X
open Go.Conc
variable{aft:Array Edge}{cs:Array Value}{ops:List Oper}{ss:List Prop}{z:Nat×Nat}{x:Operand}{gd:Option (Nat×Bool)}{g:Option Bool}{d:Option Tmp}{p:Aa}{T t ty:TypeId}{u:Value}
section
variable{X:Cx}{k:List Item}{m:Ks}{l:Env}{LF LL LR:List Pcs}{effs todo:List Nat}{pos:String}{i:Nat}
theorem yug{b off:Nat}(M:ops[i]?=some ⟨d,.load t x,ty,pos,aft,gd⟩)(H:gdc ops l gd=some g)(V:evS l x=some (ss,w_ b off))(hs:Ba g (Bb ss))[a:Cd X.P t false][mm:Bx LL b (.cells cs T z) LR]
 (n:DE X k ops m p LF effs todo (ent d g u l) LL)(hv:nth cs.toList off=some u)(O:N5 ops effs todo i=true:=by kernel_rfl):DE X k ops m p LF effs (i::todo) l LL:=
 xd7 M H rfl (xfx hs fun hs _ _ E s=>xhh (i:=0) (s.perm (List.perm_append_comm.trans (List.Perm.append_right LF.flatten mm.h))) a.h (xdq E V hs) rfl (by rw[<- Array.getElem?_toList];exact xsp hv)) n O
end
end Go.X
namespace Go.X.Ms
def Rs.ok:Rs->Prop
 |.num n=>i64 n
 |.spn a b=>i64 a/\i64 b
 |.lst l=>l.length<=100/\ ∀i,i<l.length->i64 (l.getD i 0)
end Go.X.Ms
namespace Go.X
open Go.Conc
section
variable{X:Cx}{k:List Item}{ops:List Oper}{m:Ks}{l:Env}{p:Aa}{LF LL:List Pcs}{effs todo:List Nat}{d:Option Tmp}{ty:TypeId}{pos:String}{aft:Array Edge}{x y:Operand}{i:Nat}
theorem yut{t e:TypeId}{w len j b o:Nat}{k1:IntKind}(O:X.P.underlying t=some (.array len e))(H:ops[i]?=some ⟨d,.indexAddr t x y,ty,pos,aft,none⟩)(V:evS l x=some ([],w_ b o))(M:evS l y=some ([],.int k1 ((j:Nat):Int)))(h:j<len)[sz:Ak X.P e w](n:DE X k ops m p LF effs todo (ent d none (.pointer (some ⟨b,o+j*w,none⟩)) l) LL):
 DE X k ops m p LF effs (i::todo) l LL:=xj9 (g:=none) H rfl rfl (fun _ _ _ E _=>by
  have z:=xih (d:=d) (ty:=ty) (pos:=pos) (aft:=aft) (gd:=none) (h:=by assumption) O sz.h (xdq E V trivial) (xdq E M trivial) h;rw[xnx]at z;exact z) n
end
end Go.X
namespace Go.X.Ms
variable{xs:List Str}{n:Nat}{p:Aa}{w:Str}{d:UInt8}
theorem ynh:∀c∈txt (n:Int),Eo c=true:=by
 have e:txt (n:Int)=Dk n:=by unfold txt;rw[if_neg om,Int.natAbs_natCast]
 rw[e];exact xwb
theorem ylh(h:txt (n:Int)=[d]):n+48=d.toNat:=by
 have e:txt (n:Int)=Dk n:=by unfold txt;rw[if_neg om,Int.natAbs_natCast]
 rw[e]at h;by_cases H:n<10
 ·rw[xsj H]at h;have h:UInt8.ofNat (48+n)=d:=List.head_eq_of_cons_eq h;rw[<- h];have:(48+n)%256=48+n:=Nat.mod_eq_of_lt om;show _=(48+n)%256;omega
 ·have:=xtw (k:=1) (n:=n) om;rw[h]at this;simp at this
theorem xsx{u:Str}{x:UInt8}(h:w++txt (n:Int)=u++[x,d])(V:Eo x=false):n+48=d.toNat:=by
 have H:=congrArg List.reverse h;rw[List.reverse_append,List.reverse_append]at H;have O:=xw1 (n:Int);have hd:=ynh (n:=n);have M:∀c∈(txt (n:Int)).reverse,Eo c=true:=fun c hc=>hd c (List.mem_reverse.1 hc);cases e:(txt (n:Int)).reverse with
 |nil=>have:=congrArg List.length e;rw[List.length_reverse]at this;simp at this;rw[this]at O;simp at O
 |cons y t=>
   rw[e]at H M;have h2:y::(t++w.reverse)=d::x::u.reverse:=H;injection h2 with e1 e2;subst e1;cases t with
   |nil=>
     refine ylh ?_;have:=congrArg List.reverse e;rwa[List.reverse_reverse]at this
   |cons z t=>
     injection e2 with e3 e4;have:=M z s_;rw[e3,V]at this;cases this
theorem ybs{q:Qn}(h:qn (w++txt (n:Int))=some q):n=q.ar:=by
 unfold qn at h;by_cases c0:w++txt (n:Int)=[102,101,119,101,115,116,48]
 ·rw[if_pos c0]at h;cases h;have:=xsx (u:=[102,101,119,101,115]) c0 d_;show n=0;have e:(48:UInt8).toNat=48:=rfl;omega
 rw[if_neg c0]at h;by_cases c1:w++txt (n:Int)=[99,104,101,97,112,48]
 ·rw[if_pos c1]at h;cases h;have:=xsx (u:=[99,104,101,97]) c1 d_;show n=0;have e:(48:UInt8).toNat=48:=rfl;omega
 rw[if_neg c1]at h;by_cases c2:w++txt (n:Int)=[100,101,101,112,49]
 ·rw[if_pos c2]at h;cases h;have:=xsx (u:=[100,101,101]) c2 d_;show n=1;have e:(49:UInt8).toNat=49:=rfl;omega
 rw[if_neg c2]at h;by_cases c3:w++txt (n:Int)=[110,101,120,116,49]
 ·rw[if_pos c3]at h;cases h;have:=xsx (u:=[110,101,120]) c3 d_;show n=1;have e:(49:UInt8).toNat=49:=rfl;omega
 rw[if_neg c3]at h;by_cases c4:w++txt (n:Int)=[109,111,115,116,48]
 ·rw[if_pos c4]at h;cases h;have:=xsx (u:=[109,111,115]) c4 d_;show n=0;have e:(48:UInt8).toNat=48:=rfl;omega
 rw[if_neg c4]at h;by_cases c5:w++txt (n:Int)=[108,97,99,107,115,48]
 ·rw[if_pos c5]at h;cases h;have:=xsx (u:=[108,97,99,107]) c5 d_;show n=0;have e:(48:UInt8).toNat=48:=rfl;omega
 rw[if_neg c5]at h;by_cases c6:w++txt (n:Int)=[100,114,97,119,115,49]
 ·rw[if_pos c6]at h;cases h;have:=xsx (u:=[100,114,97,119]) c6 d_;show n=1;have e:(49:UInt8).toNat=49:=rfl;omega
 rw[if_neg c6]at h;by_cases c7:w++txt (n:Int)=[100,114,121,49]
 ·rw[if_pos c7]at h;cases h;have:=xsx (u:=[100,114]) c7 d_;show n=1;have e:(49:UInt8).toNat=49:=rfl;omega
 rw[if_neg c7]at h;by_cases c8:w++txt (n:Int)=[115,104,111,114,116,48]
 ·rw[if_pos c8]at h;cases h;have:=xsx (u:=[115,104,111,114]) c8 d_;show n=0;have e:(48:UInt8).toNat=48:=rfl;omega
 rw[if_neg c8]at h;by_cases c9:w++txt (n:Int)=[101,109,112,116,121,48]
 ·rw[if_pos c9]at h;cases h;have:=xsx (u:=[101,109,112,116]) c9 d_;show n=0;have e:(48:UInt8).toNat=48:=rfl;omega
 rw[if_neg c9]at h;by_cases O:w++txt (n:Int)=[108,101,97,115,116,48]
 ·rw[if_pos O]at h;cases h;have:=xsx (u:=[108,101,97,115]) O d_;show n=0;have e:(48:UInt8).toNat=48:=rfl;omega
 rw[if_neg O]at h;by_cases V:w++txt (n:Int)=[114,97,116,105,111,110,48]
 ·rw[if_pos V]at h;cases h;have:=xsx (u:=[114,97,116,105,111]) V d_;show n=0;have e:(48:UInt8).toNat=48:=rfl;omega
 rw[if_neg V]at h;by_cases H:w++txt (n:Int)=[115,112,97,114,101,49]
 ·rw[if_pos H]at h;cases h;have:=xsx (u:=[115,112,97,114]) H d_;show n=1;have e:(49:UInt8).toNat=49:=rfl;omega
 rw[if_neg H]at h;by_cases M:w++txt (n:Int)=[108,101,118,101,108,49]
 ·rw[if_pos M]at h;cases h;have:=xsx (u:=[108,101,118,101]) M d_;show n=1;have e:(49:UInt8).toNat=49:=rfl;omega
 rw[if_neg M]at h;cases h
theorem yps{q:Od}(h:od (w++txt (n:Int))=some q):n=q.ar:=by
 unfold od at h;by_cases c0:w++txt (n:Int)=[114,111,99,107,52]
 ·rw[if_pos c0]at h;cases h;have:=xsx (u:=[114,111,99]) c0 d_;show n=4;have e:(52:UInt8).toNat=52:=rfl;omega
 rw[if_neg c0]at h;by_cases V:w++txt (n:Int)=[102,111,111,116,49]
 ·rw[if_pos V]at h;cases h;have:=xsx (u:=[102,111,111]) V d_;show n=1;have e:(49:UInt8).toNat=49:=rfl;omega
 rw[if_neg V]at h;by_cases O:w++txt (n:Int)=[117,112,48]
 ·rw[if_pos O]at h;cases h;have:=xsx (u:=[117]) O d_;show n=0;have e:(48:UInt8).toNat=48:=rfl;omega
 rw[if_neg O]at h;by_cases c3:w++txt (n:Int)=[104,111,117,115,101,49]
 ·rw[if_pos c3]at h;cases h;have:=xsx (u:=[104,111,117,115]) c3 d_;show n=1;have e:(49:UInt8).toNat=49:=rfl;omega
 rw[if_neg c3]at h;by_cases H:w++txt (n:Int)=[119,101,108,108,49]
 ·rw[if_pos H]at h;cases h;have:=xsx (u:=[119,101,108]) H d_;show n=1;have e:(49:UInt8).toNat=49:=rfl;omega
 rw[if_neg H]at h;by_cases M:w++txt (n:Int)=[119,97,110,116,50]
 ·rw[if_pos M]at h;cases h;have:=xsx (u:=[119,97,110]) M d_;show n=2;have e:(50:UInt8).toNat=50:=rfl;omega
 rw[if_neg M]at h;by_cases c6:w++txt (n:Int)=[104,97,115,50]
 ·rw[if_pos c6]at h;cases h;have:=xsx (u:=[104,97]) c6 d_;show n=2;have e:(50:UInt8).toNat=50:=rfl;omega
 rw[if_neg c6]at h;by_cases c7:w++txt (n:Int)=[119,97,121,50]
 ·rw[if_pos c7]at h;cases h;have:=xsx (u:=[119,97]) c7 d_;show n=2;have e:(50:UInt8).toNat=50:=rfl;omega
 rw[if_neg c7]at h;by_cases c8:w++txt (n:Int)=[100,97,121,51]
 ·rw[if_pos c8]at h;cases h;have:=xsx (u:=[100,97]) c8 d_;show n=3;have e:(51:UInt8).toNat=51:=rfl;omega
 rw[if_neg c8]at h;by_cases c9:w++txt (n:Int)=[115,105,122,101,49]
 ·rw[if_pos c9]at h;cases h;have:=xsx (u:=[115,105,122]) c9 d_;show n=1;have e:(49:UInt8).toNat=49:=rfl;omega
 rw[if_neg c9]at h;cases h
theorem xhw:∀{s x:Str},x∈Ad s->x.length<=s.length
 |[],x,h=>by simp[Ad]at h;subst h;exact Nat.le_refl _
 |c::s,x,h=>by
   rw[Ad]at h;split at h
   ·rcases List.mem_cons.1 h with rfl|h
    ·exact Nat.zero_le _
    ·have:=xhw h;simp;omega
   ·rcases List.mem_cons.1 h with rfl|h
    ·have:(Ad s).headD []∈Ad s:=by
      cases e:Ad s with
      |nil=>exact absurd e (xej s)
      |cons a t=>simp
     have:=xhw this;simp only[List.length_cons];omega
    ·have:=xhw (List.mem_of_mem_tail h);simp;omega
theorem xuf{a:Option Addr}{c:Nat}(S:Bs p a n xs)(j:Nat)(H:j<=n)(hc:n<=c):Bs p (Ga a c j 1) (n-j) (xs.drop j):=by
 have M:=S.len;have z:=Sl.cut (lo:=j) (hi:=n) (a':=Ga a c j 1) S H (Nat.le_refl _) fun h=>by
  have e:=Bs.ne S om;rw[e,xoc om];rfl
 have e:((scs xs).drop j).take (n-j)=scs (xs.drop j):=by
  rw[List.take_of_length_le (by rw[List.length_drop,xwx];omega)];simp[scs]
 rw[e]at z;exact z
theorem ynq{o:Od}{t M:Twn}{a:List Int}(h:C4 o t a=some M)(hn:t.fit n):M.fit (n+1):=by
 obtain⟨⟨h1,h2⟩,⟨h3,O,V⟩,h6⟩:=hn;have H:∀{l l':List Int}{i x:Int},Ka l i x=some l'->l'.length=l.length:=fun{l l' i x}e=>by
  unfold Ka at e;split at e
  ·cases e;simp
  ·cases e
 unfold Flow.Tn.nH at h3;unfold Flow.Tn.nW at O;unfold Flow.Tn.m at V;cases o<;>simp only[C4]at h
 case up=>
  split at h
  ·cases h
  ·cases h;refine⟨⟨?_,?_⟩,⟨?_,?_,?_⟩,?_⟩<;>first|(simp only[Flow.Tn.nH,Flow.Tn.nW,Flow.Tn.m,List.length_take];omega)|omega
 case want=>
  obtain⟨l,e,rfl⟩:=Option.map_eq_some_iff.1 h;have:=H e;refine⟨⟨?_,?_⟩,⟨?_,?_,?_⟩,?_⟩<;>first|(simp only[Flow.Tn.nH,Flow.Tn.nW,Flow.Tn.m];omega)|omega
 case has=>
  obtain⟨l,e,rfl⟩:=Option.map_eq_some_iff.1 h;have:=H e;refine⟨⟨?_,?_⟩,⟨?_,?_,?_⟩,?_⟩<;>first|(simp only[Flow.Tn.nH,Flow.Tn.nW,Flow.Tn.m];omega)|omega
 all_goals
  cases h;refine⟨⟨?_,?_⟩,⟨?_,?_,?_⟩,?_⟩<;>first|(simp only[Flow.Tn.nH,Flow.Tn.nW,Flow.Tn.m,Pm,List.length_append,List.length_cons,List.length_nil,List.length_take,List.length_drop];omega)|omega
theorem xuk(D:Dsk)(M H:Str)(args:List Str):Cr D M (H::args)=if args.all Bc=false\/(qn (H++txt args.length)=none/\(M≠[]\/(od (H++txt args.length)=none/\Cq H args.length=false)))then(D,Fj)
 else match Br D.now args with
  |none=>(D,B8)
  |some vs=>match qn (H++txt args.length)with
    |some q=>De D q vs M
    |none=>if Cq H args.length=true then((tryD D H).1,Hs (tryD D H).2)
      else match od (H++txt args.length)with
       |none=>(D,wNo)
       |some o=>match C4 o D.now.t vs with
         |none=>(D,wNo)
         |some t=>if Bp t=0 then({D with now:={D.now with t:=t}},wOk)else(D,wNo):=rfl
theorem xtt(x:Str):∀(xs:List Str)(d:Dsk),Bw d (xs++[x])=((doD (Bw d xs).1 x).1,(Bw d xs).2++[(doD (Bw d xs).1 x).2])
 |[],d=>rfl
 |y::ys,d=>by
   rw[List.cons_append,Bw,xtt x ys];rfl
theorem xir:∀(xs:List Str)(d:Dsk),(Bw d xs).2.length=xs.length
 |[],_=>rfl
 |x::xs,d=>by rw[Bw];simp[xir xs]
theorem ypq(d:Dsk)(w:Str):(tryD d w).1.Cu.length<=d.Cu.length+1:=by
 unfold tryD;split
 ·simp
 ·split
  ·simp
  ·split<;>simp<;>omega
theorem xp8{d:Dsk}{l:Str}{r:Rs}:(F9 d l r).Cu=d.Cu:=by cases r<;>rfl
theorem xm1(d:Dsk)(q:Qn)(a:List Int)(l:Str):(De d q a l).1.Cu=d.Cu:=by
 unfold De;split
 ·rfl
 ·split
  ·rfl
  ·split
   ·exact xp8
   ·rfl
theorem xtp(d:Dsk)(l w:Str)(args:List Str):(Cr d l (w::args)).1.Cu.length<=d.Cu.length+1:=by
 rw[xuk];split
 ·simp
 ·cases Br d.now args with
  |none=>simp
  |some vs=>
    cases qn (w++txt args.length)with
    |some q=>simp only;rw[xm1];omega
    |none=>
      simp only;split
      ·exact ypq d w
      ·cases od (w++txt args.length)with
       |none=>simp
       |some o=>
         simp only;cases C4 o d.now.t vs with
         |none=>simp
         |some t=>simp only;split<;>simp
theorem yud(d:Dsk)(x:Str):(doD d x).1.Cu.length<=d.Cu.length+1:=by
 have e:∀(l:Str)(H:List Str),(Cr d l H).1.Cu.length<=d.Cu.length+1:=fun l H=>by
  cases H with
  |nil=>exact xtp d l [] []
  |cons w args=>exact xtp d l w args
 unfold doD;simp only;split
 ·split
  ·simp
  ·exact e _ _
 ·exact e _ _
theorem xut:∀(xs:List Str)(d:Dsk),(Bw d xs).1.Cu.length<=d.Cu.length+xs.length
 |[],_=>by simp[Bw]
 |x::xs,d=>by
   have:=xut xs (doD d x).1;have:=yud d x;rw[Bw,List.length_cons];simp only;omega
noncomputable def E0(t:Twn)(ls:List Str):List Str×Twn:=if Bp t≠0\/30<ls.length then([],zT)else((Bw (Ah t) ls).2,(Bw (Ah t) ls).1.now.t)
noncomputable def Mj(t:Twn)(ls:List Str):Int:=if Bp t≠0 then Bp t else if 30<ls.length then 2 else 0
end Go.X.Ms
namespace Go.X.Flow
theorem ywq{f:Nat->Int}{B:Int}:∀{k:Nat},(∀i,i<k->0<=f i/\f i<=B)->0<=sm k f/\sm k f<=B*k
 |0,_=>by simp[sm]
 |k+1,h=>by
   have H:=ywq (f:=f) (B:=B) (k:=k) fun i hi=>h i om;have M:=h k om;rw[sm];have e:B*((k+1:Nat):Int)=B*(k:Int)+B:=by rw[Int.natCast_succ,Int.mul_add,Int.mul_one]
   omega
theorem xpt{t:Tn}(hn:t.nH<=6):∀k,k<=2^t.nH->(Ax t k).length<=6/\ ∀i,i<(Ax t k).length->0<=(Ax t k).getD i 0/\(Ax t k).getD i 0<6
 |0,_=>by simp[Ax]
 |k+1,hk=>by
   have M:=xpt hn k om;rw[Ax];split
   ·have H:2^t.nH<=2^6:=Nat.pow_le_pow_right d_ hn;exact⟨xn1 k om,fun i hi=>by have:=yfp (k:=6) (g:=k) d_ om i hi;omega⟩
   ·exact M
theorem xf6{α:Type}{q:α->Bool}:∀{ds:List α},Cp q ds<(ds.length:Int)
 |[]=>by show(-1:Int)<((0:Nat):Int);decide
 |d::ds=>by
   have:=xf6 (q:=q) (ds:=ds);rw[Cp,List.length_cons];split
   ·omega
   ·split<;>omega
end Go.X.Flow
namespace Go.X.Ms
open Go.X.Flow Go.Proofs.YtadndcpcjmmngaaGreatDoor
abbrev m6(n:Int):Prop:=-999999<=n/\n<=999999
def Rs.m6:Rs->Prop
 |.num n=>Ms.m6 n
 |.spn a b=>Ms.m6 a/\Ms.m6 b
 |.lst l=>l.length<=60/\ ∀i,i<l.length->Ms.m6 (l.getD i 0)
theorem xv1{q:Nat->Bool}:∀{f k r:Nat},Cist.Gx q k f=some r->r<k+f
 |0,k,r,h=>by cases h
 |f+1,k,r,h=>by
   rw[Cist.Gx]at h;split at h
   ·cases h;omega
   ·have:=xv1 h;omega
theorem xj6{o:Option Nat}{n:Nat}(h:∀r,o=some r->r<n)(hn:n<=1000):m6 (Cist.found o).1:=by
 cases o with
 |none=>exact d_
 |some r=>have:=h r rfl;exact(by show -999999<=((r:Nat):Int)/\((r:Nat):Int)<=999999;omega)
theorem xpp(size start:Int)(ds:List Cist.Day):∀k:Nat,0<=Cist.Bi size start ds k/\Cist.Bi size start ds k<=k
 |0=>by simp[Cist.Bi]
 |k+1=>by
   have:=xpp size start ds k;rw[Cist.Bi];split<;>omega
theorem xc7(s:Shf)(H:Int):∀k,Kt s H k<=k
 |0=>Nat.le_refl _
 |k+1=>by
   have:=xc7 s H k;rw[Kt];split<;>omega
theorem yrs{l:List Int}(h:∀z∈l,m6 z):∀i,i<l.length->m6 (l.getD i 0):=fun i hi=>by
 rw[List.getD_eq_getElem?_getD,List.getElem?_eq_getElem hi];exact h _ (List.getElem_mem hi)
theorem xyk(q:Qn)(t:Twn)(a:List Int)(hv:Bp t=0):(By q t a).1.m6:=by
 obtain⟨h1,V,h3⟩:=xxq.1 hv;have ok:t.s.ok:=by
  unfold Hd at h1;split at h1
  ·assumption
  ·cases h1
 have O:=xfm V;have Y:=Cist.A7.1 h3;have hl:=ok.2.2.1;have a2:=Y.2.2.2.2.1;have D:∀{w:Wi},Sg w->Div t.b (Bz t.b w):=fun S=>(xyz O.toOk S).div;cases q with
 |fewest=>
   have hw:okW _ (D8 ltF t.s 12):=xvb (lt:=ltF) ok (k:=min 12 t.s.Af.length) 0;unfold okW at hw;show m6 (Ef t.s);unfold Ef;split
   ·exact om
   ·exact d_
 |cheap=>
   by_cases h:B7 ltC t.s=0
   ·have:=xtb (s:=t.s) h;exact(by show -999999<=Cg t.s/\Cg t.s<=999999;omega)
   ·show m6 (Cg t.s);rw[Cg,if_neg h];decide
 |deep=>
   show m6 (Hb t.s (a.getD 0 0));unfold Hb;split
   ·have:=xc7 t.s (a.getD 0 0) t.s.Af.length;exact om
   ·exact d_
 |next=>
   show m6 (Gg t.s (a.getD 0 0));unfold Gg;by_cases hn:E4 t.s (a.getD 0 0)=0
   case neg=>rw[if_neg hn];decide
   rw[if_pos hn];unfold E4 at hn;split at hn
   ·rename_i z;exact absurd hn z
   split at hn
   ·cases hn
   split at hn
   ·rename_i z;exact absurd hn z
   rename_i z;have b1:=xtb (s:=t.s) (Classical.not_not.1 z);have b2:=xtb hn;exact om
 |Ea=>
   show m6 (Cc t.b);unfold Cc;rw[if_pos V];have:=ywq (f:=dv (Bz t.b Dm)) (B:=9) (k:=t.b.m) (xif O xhk);have hm:=O.nm;exact(by show -999999<=tot t.b _/\tot t.b _<=999999;unfold tot;omega)
 |Ca=>
   show(LKc t.b).length<=60/\_;rw[Lv V];refine⟨by rw[yl1];have:=O.nh;omega,yrs fun z hz=>?_⟩;obtain⟨k,M,rfl⟩:=xt0.1 hz;have b1:=(D xhk).hs k M;have b2:=O.h k M;have b3:=ywq (f:=fun i=>if t.b.wh i=k then dv (Bz t.b Dm) i else 0) (B:=9) (k:=t.b.m) (fun i hi=>by have:=xif O xhk i hi;unfold dv;split<;>omega);unfold Al;unfold draw at b1⊢;exact om
 |draws=>
   have b:∀s:Int,Sg ⟨a.getD 0 0,-1,s⟩->m6 (L8 t.b (a.getD 0 0) s):=fun s S=>by
    have b3:=ywq (f:=fun i=>if t.b.wh i=(a.getD 0 0).toNat then dv (Bz t.b ⟨a.getD 0 0,-1,s⟩) i else 0) (B:=9) (k:=t.b.m) (fun i hi=>by have:=xif O S i hi;unfold dv;split<;>omega);have hm:=O.nm;exact(by show -999999<=draw t.b _ _/\draw t.b _ _<=999999;unfold draw;omega)
   show m6 (C2 t.b (a.getD 0 0) (-1))/\m6 (C2 t.b (a.getD 0 0) 1);unfold C2;constructor<;>split<;>first|exact b _ ⟨s_,s_⟩|exact d_
 |dry=>
   show m6 (Ls t.b (a.getD 0 0));unfold Ls On;split
   ·split
    ·exact d_
    ·split<;>exact d_
   ·exact d_
 |short=>
   show(Fg t.b).length<=60/\_;rw[xcg V];have b:=xpt O.nh (2^t.b.nH) (Nat.le_refl _);exact⟨by have:=b.1;show(Ax t.b _).length<=60;omega,fun i hi=>by have:=b.2 i hi;exact(by show -999999<=(Ax t.b _).getD i 0/\(Ax t.b _).getD i 0<=999999;omega)⟩
 |empty=>
   show m6 (Cist.Gp t.y.size t.y.start t.y.days).1;rw[Cist.Gp,if_pos Y];have:=xf6 (q:=fun d=>decide (0<d.hi)) (ds:=Cist.side t.y.size (min t.y.start t.y.size) (Cist.Ag t.y.days) (Cist.C7 t.y.days) t.y.days.length);rw[Cist.B5]at this;have e:Cist.Le t.y.size t.y.start t.y.days<(t.y.days.length:Int):=this;show m6 (if Cist.Le t.y.size t.y.start t.y.days<0 then 0 else Cist.Le t.y.size t.y.start t.y.days);split<;>exact om
 |least=>
   show m6 (Cist.Av t.y.size t.y.start t.y.days).1;rw[Cist.Av,if_pos Y];exact xj6 (n:=61) (fun r hr=>by have:=xv1 hr;omega) d_
 |ration=>
   show m6 (if Cist.Ok t.y.size t.y.start t.y.days then Cist.Bi t.y.size t.y.start t.y.days 20 else 0);rw[if_pos Y];have:=xpp t.y.size t.y.start t.y.days 20;exact om
 |spare=>
   have e:(Cist.Cn t.y.size t.y.start t.y.days (a.getD 0 0)).1=0\/(Cist.Cn t.y.size t.y.start t.y.days (a.getD 0 0)).1=(Cist.found (Cist.Pb t.y.size t.y.start t.y.days (a.getD 0 0))).1:=by
    unfold Cist.Cn;by_cases H:Cist.Kj t.y.size t.y.start t.y.days (decide (Cist.Dx t.y.days (a.getD 0 0)))=0
    ·rw[if_pos H];by_cases c2:Cist.Bg t.y.size t.y.start t.y.days
     ·rw[if_pos c2];exact .inr rfl
     ·rw[if_neg c2];exact .inl rfl
    ·rw[if_neg H];exact .inl rfl
   show m6 (Cist.Cn t.y.size t.y.start t.y.days (a.getD 0 0)).1;rcases e with e|e
   ·rw[e];exact d_
   ·rw[e];exact xj6 (n:=100) (fun r hr=>by have:=xv1 hr;omega) d_
 |level=>
   show m6 (Cist.Hh t.y.size t.y.start t.y.days (a.getD 0 0)).1.1/\m6 (Cist.Hh t.y.size t.y.start t.y.days (a.getD 0 0)).1.2;unfold Cist.Hh;by_cases H:Cist.Kj t.y.size t.y.start t.y.days (decide (Cist.Dx t.y.days (a.getD 0 0)))=0
   ·rw[if_pos H];obtain⟨b1,b2,b3,b4⟩:=Y.both (n:=t.y.days.length) rfl;have hd:Cist.Dx t.y.days (a.getD 0 0):=by
     unfold Cist.Kj at H;rw[if_pos Y]at H;by_cases z:Cist.Dx t.y.days (a.getD 0 0)
     ·exact z
     ·rw[if_neg (by rw[decide_eq_true_iff];exact z)]at H;cases H
    have M:(a.getD 0 0).toNat+1<=t.y.days.length:=by have:=hd.1;have:=hd.2;omega
    have l1:=Cist.Cv (size:=t.y.size) (start:=min t.y.start t.y.size) (want:=Cist.Ag t.y.days) (rain:=Cist.C7 t.y.days) (n:=t.y.days.length) ⟨om,om⟩ (fun i hi=>(b2 i hi).1) _ M;have l2:=Cist.Cv (size:=t.y.size) (start:=min t.y.start t.y.size) (want:=Cist.Ag t.y.days) (rain:=Cist.Lg t.y.days) (n:=t.y.days.length) ⟨om,om⟩ (fun i hi=>(b2 i hi).1) _ M;have e:∀{n:Int},(0<=n/\n<=60)->m6 n:=fun h=>⟨om,om⟩
    exact⟨e (n:=Cist.lev _ _ _ _ _) om,e (n:=Cist.lev _ _ _ _ _) om⟩
   ·rw[if_neg H];exact⟨show m6 0 by decide,show m6 0 by decide⟩
theorem yzg(q:Qn)(t:Twn)(a:List Int)(hv:Bp t=0)(_:(By q t a).2=0):(By q t a).1.ok:=by
 have h:=xyk q t a hv;have e:∀{n:Int},m6 n->i64 n:=fun h=>⟨om,om⟩
 cases c:(By q t a).1 with
 |num n=>rw[c]at h;exact e h
 |spn x y=>rw[c]at h;exact⟨e h.1,e h.2⟩
 |lst l=>rw[c]at h;exact⟨by have:=h.1;omega,fun i hi=>e (h.2 i hi)⟩
end Go.X.Ms
namespace Go.Proofs.YtadndcpcjmmngaaGreatDoor
open Go.Proofs.Tryz
open Go.X Go.X.Ms Go.Conc
variable{h:Heap}{md:Md}{n:Nat}{p:Aa}{tT:TypeId}{tr:Value}
section
variable{zT:Nat×Nat}
theorem yf3(n:Int)(hn:i64 n)(Z:p 5=some (.cells (Lib.pow10Tab.map (Value.int .u64)).toArray tT zT)):Dc prog md p 369 #[.J n] (sv (txt n)):=by
 refine xlq func369 fun K=>?_;refine cdq (xl3 n hn Z) ?_;exact K.q rfl
theorem ya3(a b:Int)(H:i64 a)(M:i64 b)(Z:p 5=some (.cells (Lib.pow10Tab.map (Value.int .u64)).toArray tT zT)):Dc prog md p 376 #[.agg #[.J a,.J b]] (sv (txt a++([32,116,111,32]++txt b))):=by
 have V:=xbk H;have O:=xbk M;refine xkq func376 fun K b1=>?_;refine drq [] [0,1,2,3,4,5,6] ?_;refine xaj rfl rfl rfl (xl3 a H Z) ?_;refine ex ?_;refine de_y rfl rfl (xwf rfl rfl (by simp;omega) (b:=[32,116,111,32])) ?_;refine ex ?_;refine xaj rfl rfl rfl (xl3 b M Z) ?_;refine xa ?_;refine ro_y rfl (xwf rfl rfl (by simp;omega)) ?_;refine K.q ?_;rw[<- List.append_assoc];rfl
theorem ye3{a:Option Addr}(c:Nat)(l:List Int)(I:Ar p a n l)(hn:n<=100)(hl:∀i,i<n->i64 (l.getD i 0))(Z:p 5=some (.cells (Lib.pow10Tab.map (Value.int .u64)).toArray tT zT)):Dc prog md p 370 #[.slice a n c] (sv (Ny l)):=by
 intro h hp;have a2:=I.len;refine xxx hp func370 fun K=>?_;refine cq (fun cc=>?_) (fun cc=>?_)
 ·refine ax ?_;have e:l=[]:=List.eq_nil_of_length_eq_zero om;subst e;exact K.q rfl
 refine lq fun M=>?_;refine ax ?_;refine xjq (fun m_ l' p_ L_=>∃(k:Nat)(X:Pcs),m_=n-k/\l'=[(3,none,w_ M 0),(9,none,.slice a n c),(10,none,.J ((n:Nat):Int)),(11,none,.J ((k:Nat):Int))]/\p_=p/\L_=[X]/\k<=n/\Nx M (L9 l k) X) ⟨0,_,rfl,rfl,rfl,rfl,Nat.zero_le _,⟨none,.slice none 0 0,[],(List.append_nil _).symm,.inl rfl,.empty _ _⟩⟩ sb ?_;rintro _ _ p _ IH ⟨k,X,rfl,rfl,rfl,rfl,hk,B⟩;refine cq (fun cd=>?_) (fun cd=>?_)
 ·have V:k<n:=om;have hlen:=xsr (fun i hi=>hl i om) k om;have ht:=xbk (hl k V);refine ax ?_;refine xgz (fun l' p_ L_=>∃(X:Pcs),l'=[(3,none,w_ M 0),(5,none,.J (l.getD k 0)),(9,none,.slice a n c),(10,none,.J ((n:Nat):Int)),(11,none,.J ((k:Nat):Int))]/\p_=p/\L_=[X]/\Nx M (L9 l k++(if k=0 then []else [32])) X) ?_ fun k' H=>?_
  ·rintro _ p _ ⟨X,rfl,rfl,rfl,B⟩;refine cdq (xl3 _ (hl k V) Z) ?_;refine ax ?_;refine xwl X rfl rfl (fun h C s=>yc3 C X M B (by split<;>simp<;>omega) (txt (l.getD k 0)) om s) fun v X' B'=>?_;exact bkq (IH _ _ _ om ⟨k+1,X',rfl,rfl,rfl,rfl,om,by rw[L9,<- List.append_assoc];exact B'⟩)
  ·refine cq (fun ce=>?_) (fun ce=>?_)
   ·refine ax ?_;refine xwl X rfl rfl (fun h C s=>yd3 C X M B om 32 s) fun v X' B'=>?_;exact bkq (H _ _ _ ⟨X',rfl,rfl,rfl,by rw[if_neg om];exact B'⟩)
   ·exact bkq (H _ _ _ ⟨X,rfl,rfl,rfl,by rw[if_pos om,List.append_nil];exact B⟩)
 obtain rfl:k=l.length:=om;have hlen:=xsr (fun i hi=>hl i om) l.length om;rw[ylb om]at B hlen;have O:0<(Ny l).length:=by
  cases l with
  |nil=>simp at a2;omega
  |cons x xs=>simp only[Ny,List.length_append];have:=xw1 x;omega
 refine ax ?_;refine xwl X rfl rfl (fun h C s=>yb3 C X M B O om s) ?_;rintro _ X' rfl;exact K.q rfl
end
open Go.X.Flow (ics)
variable{xs:List (TA×Eg)}{ls:List Str}{p':Aa}
def Nk(o:Option (List Int))(v:Value)(p':Aa):Prop:=match o with
 |none=>v=.tuple #[.slice none 0 0,.bool false]
 |some vs=>∃a c,v=.tuple #[.slice a vs.length c,.bool true]/\Ar p' a vs.length vs
theorem cf57(hp:Per p h)(b:Nat)(A:TA)(d:Eg)(w:d.wf)(hb:h[b]?=some (.cells (dkc A d tr).toArray 77 (0,0)))(a2:p b=none)(g:GlP p)
 {a:Option Addr}(c:Nat)(xs:List Str)(S:Bs p a n xs)(hn:n<=1000)(hs:∀s∈xs,s.length<=900)(hc:∀s∈xs,Bc s=true):
 Ac prog md 57 #[w_ b 0,.slice a n c] h (Dg p h b fun v p' o'=>o'=.cells (dkc A d tr).toArray 77 (0,0)/\Nk (Br d xs) v p'):=by
 have hl:=S.len;have S1:Sl p a n 1 (scs xs):=S;obtain⟨te,ue,tE,zE,E⟩:=g.es;obtain⟨tr',ur,tR,zR,R⟩:=g.er;obtain⟨tT,zT,Z⟩:=g.pw;refine xnz hp hb a2 func57 fun _ _ _ K=>?_;refine ax ?_;refine xyj 3 1 fun o0=>?_
 refine xjq (fun m_ l p_ L_=>∃(j:Nat)(v:Value)(vs:List Int)(Y:Pcs),m_=n-j/\l=[(0,none,w_ b 0),(6,none,v),(11,none,.slice a n c),(12,none,.J ((n:Nat):Int)),(13,none,.J ((j:Nat):Int))]/\p_=p/\L_=[Y,[(b,.cells (dkc A d tr).toArray 77 (0,0))]]/\j<=n/\Ab 3 1 v (ics vs) Y/\Br d (xs.take j)=some vs)
  ⟨0,_,[],_,rfl,rfl,rfl,rfl,Nat.zero_le _,o0,rfl⟩ sb ?_
 rintro _ _ p _ IH ⟨j,v,vs,Y,rfl,rfl,rfl,rfl,hj,o,hv⟩;refine cq (fun cd=>?_) (fun cd=>?_)
 ·have a3:j<n:=om;obtain⟨hm,V⟩:=ysp (xs:=xs) (j:=j) om;refine ax ?_;refine ro_y rfl (y_lp rfl (Bs.get S a3)) ?_;generalize a7:xs.getD j []=s at*;refine ckq (yf1 (hs _ hm) E R Z) ?_;rintro _ ⟨k,rfl,hk⟩;refine cdq (cf53 s) ?_;refine ax ?_;refine xgz (fun l' p_ L_=>∃x:Int,l'=[(0,none,w_ b 0),(6,none,v),(9,none,.J x),(11,none,.slice a n c),(12,none,.J ((n:Nat):Int)),(13,none,.J ((j:Nat):Int))]/\p_=p/\L_=[Y,[(b,.cells (dkc A d tr).toArray 77 (0,0))]]/\Ki d s=some x) ?_ fun k' H=>?_
  ·rintro _ p _ ⟨x,rfl,rfl,rfl,hx⟩;refine ax ?_;refine xtx rfl fun v2 Y2 o2=>?_;have o2:Ab 3 1 v2 (ics [x]) Y2:=o2;refine xbv rfl rfl o o2 (by simp[ics,Be]) (by have:=xed d hv;simp[ics]at *;omega) fun v3 Y3 o3=>?_;exact bkq (IH _ _ _ om ⟨j+1,v3,vs++[x],Y3,rfl,rfl,rfl,rfl,om,o3.as (by simp[ics]),by rw[V,xxf,hv,hx];rfl⟩)
  refine cq (fun O=>?_) (fun O=>?_)
  ·obtain⟨e1,e2,e3⟩:=yjg O;have e4:(((s.getD (Int.toNat 0) 0).toNat:Nat):Int)-97=((D5 s:Nat):Int):=by show(((s.getD 0 0).toNat:Nat):Int)-97=_;omega
   have e5:((s.getD (Int.toNat 0) 0).toNat:Int)<=122/\(97:Int)<=((s.getD (Int.toNat 0) 0).toNat:Int):=by show((s.getD 0 0).toNat:Int)<=122/\_<=((s.getD 0 0).toNat:Int);omega
   refine drq [] R7 ?_;refine de_y rfl rfl (xzz rfl rfl trivial trivial ⟨d_,om⟩) ?_;refine ex ?_;refine de_y rfl rfl (y_pv rfl ⟨wr8 om,trivial⟩) ?_;rw[e4];refine xa ?_;refine xt4 (i:=D5 s) underlying72 rfl rfl e2 ?_;refine ax ?_;refine ro_y rfl (y_ld rfl trivial (by
    have z:=ynt (A:=A) (tr:=tr) w e2;rwa[show 11+D5 s=0+11+0+D5 s*1 by omega]at z) (u:=.J (d.B1.getD (D5 s) 0))) ?_
   refine drq [] R7 ?_;refine de_y rfl rfl (xzz rfl rfl trivial trivial ⟨d_,om⟩) ?_;refine ex ?_;refine de_y rfl rfl (y_pv rfl ⟨wr8 om,trivial⟩) ?_;rw[e4];refine xa ?_;refine xt4 (i:=D5 s) underlying72 rfl rfl e2 ?_;refine ax ?_;refine ro_y rfl (y_ld rfl trivial (by
    have z:=ymt (A:=A) (tr:=tr) w e2;rwa[show 37+D5 s=0+11+26+D5 s*1 by omega]at z) (u:=.J (d.kept.getD (D5 s) 0))) ?_
   refine cq (fun cf=>?_) (fun cf=>?_)
   ·have e0:Br d xs=none:=by
     rw[<- List.take_append_drop (j+1) xs];refine xpn d ?_ _;rw[V,xxf,hv,xrh O,if_pos cf];rfl
    refine ax ?_;exact xrq func57 rfl rfl fun _ H_=>K _ _ (xkj H_ (.refl _ _ _) ⟨rfl,by unfold Nk;rw[e0];rfl⟩)
   ·exact bkq (H _ _ _ ⟨_,rfl,rfl,rfl,by rw[xrh O,if_neg cf]⟩)
  ·refine ax ?_;have M:=hc s hm;have a4:Ki d s=some k:=by
    rw[xqh O];unfold Bc at M;cases hn:Cw s with
    |none=>rw[hn]at M;simp at M;exact absurd M O
    |some q=>rw[hk q hn];rfl
   exact bkq (H _ _ _ ⟨k,rfl,rfl,rfl,a4⟩)
 obtain rfl:j=n:=om;rw[List.take_of_length_le om]at hv;have a5:=xed d hv;obtain⟨a1,c1,rfl,-⟩:=o.val;refine ax ?_;refine xiq o rfl d_ fun p1 _ _ g1 e1 a6 S1=>?_;cases e1;have e0:(ics vs).length=vs.length:=xpq vs;exact xrq func57 rfl rfl fun _ H_=>K _ _ (xkj H_ g1 ⟨rfl,by
  unfold Nk;rw[hv];exact⟨a1,c1,by rw[e0];rfl,e0 ▸ S1⟩⟩)
theorem yr6{a:Option Addr}(c:Nat)(xs:List (TA×Eg))(S:Sl p a n 64 (K4 xs))(hc:n<=c)(hn:n<=2^10)(A:TA)(d:Eg)(w:d.wf):Nc prog md p 155 #[.slice a n c,.agg (dkc A d (.slice none 0 0)).toArray] (fun v Y=>Ab 77 64 v (K4 (xs++[(A,d)])) Y):=by
 have hl:=S.len;have M:K4 (xs++[(A,d)])=K4 xs++[dkc A d (.slice none 0 0)]:=by simp[K4]
 have H:(dkc A d (.slice none 0 0)).length=64:=xnc w;generalize dkc A d (.slice none 0 0)=cs at M H⊢;refine xkq func155 fun K b1=>?_;refine drq [7] R8 ?_;refine de_y rfl rfl (xt9 rfl rfl rfl hc) ?_;refine ex ?_;refine de_y rfl rfl (xw9 rfl trivial (by simp[Value.cells,H])) ?_;refine ex ?_;refine yyt (cs:=cs) rfl rfl (by simp[Value.cells,List.take_of_length_le (Nat.le_of_eq H)]) H fun v2 Y2 O=>?_;refine xa ?_;refine xa0 rfl rfl S O (Nat.succ_pos _) (by simp;omega) fun v3 Y3 o3=>?_;refine ax ?_;exact K.r rfl rfl fun _ V=>⟨Y3,o3.as M.symm,El V⟩
theorem ykz{H:Aa}{a a1:Option Addr}{c M:Nat}{A:TA}{d:Eg}(P:Hy p a c xs)(O:PLe p H)(s:SnP p A d)(hc:(xs++[(A,d)]).length<=M)(S:Sl H a1 (xs++[(A,d)]).length 64 (K4 (xs++[(A,d)]))):Hy H a1 M (xs++[(A,d)]):=
 ⟨hc,S,fun x V=>(List.mem_append.1 V).elim (fun h=>(P.e x h).mono O) fun h=>by rw[List.mem_singleton.1 h];exact s.mono O⟩
theorem yjz{a:Option Addr}{c:Nat}(P:Hy p a c xs)(h:0<xs.length):Hy p a c (xs.take (xs.length-1)):=by
 have e:(xs.take (xs.length-1)).length=xs.length-1:=by rw[List.length_take];omega
 refine⟨by have:=P.c;omega,?_,fun x H=>P.e x (List.mem_of_mem_take H)⟩;have z:=Sl.cut (lo:=0) (hi:=xs.length-1) (a':=a) P.s (Nat.zero_le _) om fun _=>by rw[Nat.zero_mul];exact(P.s.ne h).trans rfl
 rw[e];simpa[K4,List.map_take]using z
theorem cf60(hp:Per p h)(b:Nat)(D:Dsk){ob:Obj}(hD:DkP p D ob 77)(hb:h[b]?=some ob)(a6:p b=none)(w:Str)(hn:D.Cu.length<=1000):
 Ac prog md 60 #[w_ b 0,sv w] h (Dg p h b fun v p' o'=>v=.bool (tryD D w).2/\DkP p' (tryD D w).1 o' 77):=by
 obtain⟨A,a,c,xs,rfl,N,P,hx⟩:=hD;have b0:xs.length=D.Cu.length:=by rw[<- hx,List.length_map]
 have V:=N.w;have Pc:=P.c;have Ps:=P.s;refine xnz hp hb a6 func60 fun _ _ _ K=>?_;refine cq (fun cc=>?_) (fun cc=>?_)
 ·have e0:tryD D w=({D with Cu:=D.Cu++[D.now]},true):=by unfold tryD;rw[if_pos (show w=Dy from cc)]
  refine drq [14] R15 ?_;refine de_y rfl rfl (y_ld rfl trivial (xf1 V)) ?_;refine ex ?_;refine de_y rfl rfl (xw9 rfl trivial (by
   show(((dkc A D.now (.slice a xs.length c)).drop 11).take 52).length=52;rw[xh3 V,List.length_append,xiz,xiz,V.1,V.2])) ?_
  rw[show(((dkc A D.now (.slice a xs.length c)).toArray.toList.drop (0+11)).take 52)=iv D.now.B1++iv D.now.kept from xh3 V];refine de_y rfl rfl (ygh rfl (ylm V) (cells:=dkc A D.now (.slice none 0 0))) ?_;refine xsk rfl rfl rfl (yr6 c xs Ps Pc om A D.now V) fun v1 Y1 o1=>?_;obtain⟨a1,c1,rfl,-⟩:=o1.val;rw[xj4]at o1⊢;refine xa ?_;refine xld rfl rfl ?_ rfl rfl (by rw[xnc V];exact Nat.le_refl _);refine ax ?_;refine xiq o1 (m:=(xs++[(A,D.now)]).length) (xj4 _) d_ fun p1 _ _ g1 e1 b3 S1=>?_;cases e1;exact xrq func60 rfl rfl fun _ H_=>K _ _ (xkj H_ g1 (by
   rw[e0];exact⟨rfl,A,a1,c1,xs++[(A,D.now)],congrArg (fun l=>Obj.cells (List.toArray l) _ (0,0)) (yxk V),N.mono g1.le,ykz P g1.le N b3 S1,by simp[hx]⟩))
 refine ax ?_;refine ro_y rfl (y_ld rfl trivial (xf1 V)) ?_;refine cq (fun cd=>?_) (fun cd=>?_)
 ·have e0:tryD D w=(D,false):=by
   have:D.Cu=[]:=List.eq_nil_of_length_eq_zero om;unfold tryD;rw[if_neg (show ¬ w=Dy from cc),this];rfl
  refine ax ?_;exact xrq func60 rfl rfl fun _ H_=>K _ _ (xkj H_ (.refl _ _ _) (by rw[e0];exact⟨rfl,A,a,c,xs,rfl,N,P,hx⟩))
 have a4:0<xs.length:=om;have e1:((xs.length:Nat):Int)-1=((xs.length-1:Nat):Int):=om;have O:xs.length-1<xs.length:=om;obtain⟨M,a3⟩:∃x,x=xs[xs.length-1]'O:=⟨_,rfl⟩
 have a7:M∈xs:=by rw[a3];exact List.getElem_mem _
 have a9:D.Cu.getLast?=some M.2:=by
  rw[<- hx,List.getLast?_eq_getElem?,List.getElem?_map,List.length_map,List.getElem?_eq_getElem O,a3];rfl
 have a5:(K4 xs)[xs.length-1]?=some (dkc M.1 M.2 (.slice none 0 0)):=by rw[a3];exact ysh O
 have N1:=P.e M a7;rw[e1];refine ax ?_;refine xgz (fun l' p_ L_=>∃(A2:TA)(d2:Eg),l'=[(0,none,w_ b 0),(5,none,.J ((xs.length-1:Nat):Int))]/\p_=p/\L_=[[(b,.cells (dkc A2 d2 (.slice a xs.length c)).toArray 77 (0,0))]]/\SnP p A2 d2/\d2=if w=F5 then M.2 else D.now) ?_ fun k' H=>?_
 ·rintro _ p _ ⟨A2,d2,rfl,rfl,rfl,N2,a8⟩;refine ax ?_;refine ro_y rfl (y_ld rfl trivial (xf1 N2.w)) ?_;refine ax ?_;refine xmd rfl rfl (j:=xs.length-1) om ?_;refine ax ?_;refine xld rfl rfl ?_ rfl rfl (by rw[xnc N2.w];exact Nat.le_refl _);refine ax ?_;have e0:tryD D w=(⟨d2,D.Cu.take (D.Cu.length-1)⟩,true):=by
   unfold tryD;rw[if_neg (show ¬ w=Dy from cc),a9,a8];simp only;by_cases hw:w=F5
   ·rw[if_pos hw,if_pos hw]
   ·rw[if_neg hw,if_neg hw]
  have P2:=yjz P a4;have e2:(xs.take (xs.length-1)).length=xs.length-1:=by rw[List.length_take];omega
  exact xrq func60 rfl rfl fun _ H_=>K _ _ (xkj H_ (.refl _ _ _) (by
   rw[e0];refine⟨rfl,A2,a,c,xs.take (xs.length-1),?_,N2,P2,by rw[List.map_take,hx,b0]⟩;rw[e2];exact congrArg (fun l=>Obj.cells (List.toArray l) _ (0,0)) (yxk N2.w)))
 refine cq (fun ce=>?_) (fun ce=>?_)
 ·refine ax ?_;have b4:(dkc M.1 M.2 (.slice none 0 0)).length=64:=xnc N1.w;refine xpv [20] R21 b ?_;refine ex ?_;refine yug rfl rfl rfl trivial ?_ (xf1 V);refine ex ?_;refine de_y rfl rfl (xzc rfl trivial (fun j v hv=>?_) (vs:=tcs M.1 M.2.t)) ?_
  ·have z:=Ps.get _ _ a5 j v (by rw[dkc,List.getElem?_append_left (List.getElem?_eq_some_iff.1 hv).1];exact hv);exact z
  refine ex ?_;refine yug rfl rfl rfl trivial ?_ (xf1 V);refine ex ?_;refine de_y rfl rfl (xzc rfl trivial (fun j v hv=>?_) (by rw[List.length_append,xiz,xiz,N1.w.1,N1.w.2]) (vs:=iv M.2.B1++iv M.2.kept)) ?_
  ·rw[<- xh3 (A:=M.1) (tr:=.slice none 0 0) N1.w]at hv;have z:=Ps.get _ _ a5 (11+j) v (by
    rw[List.getElem?_take]at hv;split at hv
    ·rwa[List.getElem?_drop]at hv
    ·cases hv)
   rw[<- xp3]at z;exact z
  refine xa ?_;refine xnr (LL':=[[(b,.cells (dkc M.1 {D.now with t:=M.2.t} (.slice a xs.length c)).toArray 77 (0,0))]]) ?_ (fun _ s=>by
   have e:Ce (dkc A D.now (.slice a xs.length c)) 0 (tcs M.1 M.2.t)=dkc M.1 {D.now with t:=M.2.t} (.slice a xs.length c):=xg3;rw[<- e];exact s)
  have w2:({D.now with t:=M.2.t}:Eg).wf:=V;have a2:(iv M.2.B1++iv M.2.kept).length=52:=by rw[List.length_append,xiz,xiz,N1.w.1,N1.w.2]
  refine xld rfl rfl ?_ (by simp[Value.cells,a2]) (by
   simp only[Value.cells,List.all_eq_true,iv,List.mem_append,List.mem_map];rintro u (⟨_,_,rfl⟩|⟨_,_,rfl⟩)<;>rfl) (by rw[xnc w2];simp[Value.cells,a2])
  refine ax ?_;refine xfk (LL':=[[(b,.cells (dkc M.1 M.2 (.slice a xs.length c)).toArray 77 (0,0))]]) ?_ (fun _ s=>by
   have e:Ce (dkc M.1 {D.now with t:=M.2.t} (.slice a xs.length c)) 11 (iv M.2.B1++iv M.2.kept)=dkc M.1 M.2 (.slice a xs.length c):=ywk w2 N1.w;rw[<- e];exact s)
  exact bkq (H _ _ _ ⟨M.1,M.2,rfl,rfl,rfl,N1,(if_pos ce).symm⟩)
 ·exact bkq (H _ _ _ ⟨A,D.now,rfl,rfl,rfl,N,(if_neg ce).symm⟩)
theorem cf58(hp:Per p h)(b:Nat)(D:Dsk){ob:Obj}(hD:DkP p D ob 77)(hb:h[b]?=some ob)(a3:p b=none)(g:GlP p)(q:Qn)(fv:Value)(x:Nl q fv p){a:Option Addr}(c:Nat)(vs:List Int)(V:Ar p a n vs)(hv:n=q.ar)(M:Str)(hl:M=[]\/isLet M=true)
 (hR:(By q D.now.t vs).2=0->(By q D.now.t vs).1.ok):
 Ac prog (.main true) 58 #[w_ b 0,fv,.slice a n c,sv M] h (Dg p h b fun v p' o'=>v=sv (De D q vs M).2/\DkP p' (De D q vs M).1 o' 77):=by
 obtain⟨A,O,ct,xs,rfl,N,P,hx⟩:=hD;have w0:=N.w;refine xnz hp hb a3 func58 fun _ _ _ K=>?_;refine ax ?_;refine xu4 rfl rfl (fun h pe=>xcr q fv h _ pe x A D.now.t N.T (xhz N.ok) g a n c vs V hv) ?_;rintro _ p1 g1 ⟨r,rfl,hr⟩;have N:=N.mono g1.le;have P:=P.mono g1.le;have g:=g.mono g1.le;obtain⟨tT,zT,Z⟩:=g.pw;refine cq (fun cc=>?_) (fun cc=>?_)
 ·have e0:De D q vs M=(D,D9):=by unfold De;rw[if_pos cc]
  refine ax ?_;exact xrq func58 rfl rfl fun h_ H_=>K _ _ (xkj H_ g1 (by rw[e0];exact⟨rfl,A,O,ct,xs,rfl,N,P,hx⟩))
 refine cq (fun cd=>?_) (fun cd=>?_)
 ·have e0:De D q vs M=(D,Gk):=by unfold De;rw[if_neg cc,if_pos cd]
  refine ax ?_;exact xrq func58 rfl rfl fun h_ H_=>K _ _ (xkj H_ g1 (by rw[e0];exact⟨rfl,A,O,ct,xs,rfl,N,P,hx⟩))
 have cd:=Classical.not_not.1 cd;have e0:De D q vs M=(if M≠[]then F9 D M (By q D.now.t vs).1 else D,(By q D.now.t vs).1.text):=by unfold De;rw[if_neg cc,if_neg (by rw[cd];simp)]
 rw[e0]at K;have hR:=hR cd;clear cc cd e0 hv V x;generalize (By q D.now.t vs).1=R at*;refine ax ?_;refine xgz (fun l' p_ L_=>∃d2:Eg,l'=[(9,none,r)]/\p_=p1/\L_=[[(b,.cells (dkc A d2 (.slice O xs.length ct)).toArray 77 (0,0))]]/\SnP p1 A d2/\({D with now:=d2}:Dsk)=if M≠[]then F9 D M R else D) ?_ fun k' H=>?_
 ·rintro _ p1 _ ⟨d2,rfl,rfl,rfl,N2,a4⟩;refine ax ?_;have fin:∀{h_:Heap},St h [b] p1 h_ (List.flatten [[(b,.cells (dkc A d2 (.slice O xs.length ct)).toArray 77 (0,0))]])->Dg p h b (fun v p' o'=>v=sv R.text/\DkP p' (if M≠[]then F9 D M R else D) o' 77) (sv R.text) h_:=fun H_=>xkj H_ g1 (by rw[<- a4];exact⟨rfl,A,O,ct,xs,rfl,N2,P,hx⟩);cases R with
  |num n=>
    cases hr;refine ygx rfl rfl (g:=369) k_ (yf3 n hR Z) ?_;refine ax ?_;exact xrq func58 rfl rfl fun h_ H_=>K _ _ (fin H_)
  |spn u v=>
    cases hr;refine ygx rfl rfl (g:=376) k_ (ya3 u v hR.1 hR.2 Z) ?_;refine ax ?_;exact xrq func58 rfl rfl fun h_ H_=>K _ _ (fin H_)
  |lst l=>
    obtain⟨a2,c2,rfl,I⟩:=hr;refine ygx rfl rfl (g:=370) k_ (ye3 c2 l I hR.1 hR.2 Z) ?_;refine ax ?_;exact xrq func58 rfl rfl fun h_ H_=>K _ _ (fin H_)
 refine cq (fun ce=>?_) (fun ce=>?_)
 ·refine ax ?_;cases R with
  |num n=>
    cases hr;refine ycl rfl underlying174 (z:=.J 0) k_ (if_pos rfl) ?_;refine ax ?_;refine xjx rfl (fun _=>?_) (fun cf=>absurd trivial cf);refine ax ?_;have il:=hl.resolve_left ce;obtain⟨e1,e2,e3⟩:=yjg il;have e4:(((M.getD (Int.toNat 0) 0).toNat:Nat):Int)-97=((D5 M:Nat):Int):=by show(((M.getD 0 0).toNat:Nat):Int)-97=_;omega
    have e5:((M.getD (Int.toNat 0) 0).toNat:Int)<=122/\(97:Int)<=((M.getD (Int.toNat 0) 0).toNat:Int):=by show((M.getD 0 0).toNat:Int)<=122/\_<=((M.getD 0 0).toNat:Int);omega
    refine xpv [13] [0,1,2,3,4,5,6,7,8,9,10,11,12,14,15,16,13] b ?_;refine ex ?_;refine de_y rfl rfl (xzz rfl rfl trivial trivial ⟨d_,om⟩) ?_;refine ex ?_;refine de_y rfl rfl (y_pv rfl ⟨wr8 om,trivial⟩) ?_;rw[e4];refine ex ?_;refine de_y rfl rfl (xzz rfl rfl trivial trivial ⟨d_,om⟩) ?_;refine ex ?_;refine de_y rfl rfl (y_pv rfl ⟨wr8 om,trivial⟩) ?_;rw[e4];refine ex ?_;refine yut (j:=D5 M) underlying72 rfl rfl rfl e2 ?_;refine ex ?_;refine xfn rfl rfl rfl ?_ (hlen:=by rw[xnc w0];show 0+11+0+D5 M*1+1<=64;omega);refine xa ?_;have w1:({D.now with B1:=D.now.B1.set (D5 M) n}:Eg).wf:=⟨by rw[List.length_set];exact w0.1,w0.2⟩
    refine xnr (LL':=[[(b,.cells (dkc A {D.now with B1:=D.now.B1.set (D5 M) n} (.slice O xs.length ct)).toArray 77 (0,0))]]) ?_ (fun _ s=>by
     have e:Ce (dkc A D.now (.slice O xs.length ct)) (0+11+0+D5 M*1) [.J n]=dkc A {D.now with B1:=D.now.B1.set (D5 M) n} (.slice O xs.length ct):=by
      rw[show 0+11+0+D5 M*1=11+D5 M by omega];exact yin w0 e2
     rw[<- e];exact s)
    refine xt4 (i:=D5 M) underlying72 rfl rfl e2 ?_;refine xld rfl rfl ?_ rfl rfl (by rw[xnc w1];show 0+11+26+D5 M*1+1<=64;omega);refine ax ?_;refine xfk (LL':=[[(b,.cells (dkc A {D.now with B1:=D.now.B1.set (D5 M) n,kept:=D.now.kept.set (D5 M) 1} (.slice O xs.length ct)).toArray 77 (0,0))]]) ?_ (fun _ s=>by
     have e:Ce (dkc A {D.now with B1:=D.now.B1.set (D5 M) n} (.slice O xs.length ct)) (0+11+26+D5 M*1) [.J 1]=dkc A {D.now with B1:=D.now.B1.set (D5 M) n,kept:=D.now.kept.set (D5 M) 1} (.slice O xs.length ct):=by
      rw[show 0+11+26+D5 M*1=37+D5 M by omega];exact yhn w1 e2
     rw[<- e];exact s)
    exact bkq (H _ _ _ ⟨{D.now with B1:=D.now.B1.set (D5 M) n,kept:=D.now.kept.set (D5 M) 1},rfl,rfl,rfl,⟨N.T,N.ok,⟨w1.1,by show(D.now.kept.set _ _).length=26;rw[List.length_set];exact w0.2⟩⟩,by rw[if_pos ce];rfl⟩)
  |spn u v=>
    cases hr;refine ycl rfl underlying174 (z:=.J 0) k_ (if_neg d_) ?_;refine ax ?_;refine xjx rfl (fun cf=>absurd cf id) (fun _=>?_);exact bkq (H _ _ _ ⟨D.now,rfl,rfl,rfl,N,by rw[if_pos ce];rfl⟩)
  |lst l=>
    obtain⟨a2,c2,rfl,I⟩:=hr;refine ycl rfl underlying174 (z:=.J 0) k_ (if_neg d_) ?_;refine ax ?_;refine xjx rfl (fun cf=>absurd cf id) (fun _=>?_);exact bkq (H _ _ _ ⟨D.now,rfl,rfl,rfl,N,by rw[if_pos ce];rfl⟩)
 ·exact bkq (H _ _ _ ⟨D.now,rfl,rfl,rfl,N,by rw[if_neg ce]⟩)
theorem cf30(hp:Per p h)(b:Nat){D:Dsk}(ob:Obj)(hD:DkP p D ob 77)(hb:h[b]?=some ob)(a7:p b=none)(g:GlP p)(O:Str)(hl:O.length<=900)(hn:D.Cu.length<=900)
 (hR:∀q t vs,Bp t=0->(By q t vs).2=0->(By q t vs).1.ok):
 Ac prog (.main true) 30 #[w_ b 0,sv O] h (Dg p h b fun v p' o'=>v=sv (doD D O).2/\DkP p' (doD D O).1 o' 77):=by
 refine xnz hp hb a7 func30 fun _ _ _ K=>?_;refine cpq (cf52 O hl) ?_;rintro _ p1 g1 ⟨a,c,rfl,hc,S⟩;have hD:=hD;obtain⟨A,a6,ct,xs,rfl,N,P,hx⟩:=hD;have N:=N.mono g1.le;have P:=P.mono g1.le;have g:=g.mono g1.le;have w0:=N.w;have a9:0<(Ad O).length:=List.length_pos_iff.2 (xej O);have b4:∀s∈Ad O,s.length<=900:=fun s hs=>Nat.le_trans (xhw hs) hl;have d7:(Ad O).length<=901:=by rw[xvk];have:=List.count_le_length (a:=(32:UInt8)) (l:=O);omega
 have S1:Sl p1 a (Ad O).length 1 (scs (Ad O)):=S;have b7:doD D O=if(Ad O).headD []=Cl then(if(Ad O).length<3\/isLet ((Ad O).getD 1 [])=false then(D,Fj)else Cr D ((Ad O).getD 1 []) ((Ad O).drop 2))else Cr D [] (Ad O):=rfl
 generalize Ad O=ps at*;have h0:ps.headD []=ps.getD 0 []:=by cases ps<;>rfl
 rw[h0]at b7;rw[b7]at K;clear b7 h0;refine ax ?_;refine ro_y rfl (y_lp rfl (Bs.get S a9)) ?_;refine ax ?_
 refine xgz (fun l' p_ L_=>∃(a2:Option Addr)(c2:Nat)(qs:List Str)(a5:Str),l'=[(0,none,w_ b 0),(5,none,.slice a2 qs.length c2),(6,none,sv a5)]/\p_=p1/\L_=[[(b,.cells (dkc A D.now (.slice a6 xs.length ct)).toArray 77 (0,0))]]/\Bs p1 a2 qs.length qs/\0<qs.length/\qs.length<=c2/\qs.length<=901/\(∀s∈qs,s.length<=900)/\(a5=[]\/isLet a5=true)/\
  (if ps.getD 0 []=Cl then(if ps.length<3\/isLet (ps.getD 1 [])=false then(D,Fj)else Cr D (ps.getD 1 []) (ps.drop 2))else Cr D [] ps)=Cr D a5 qs) ?_ fun k' H=>?_
 ·rintro _ p1 _ ⟨a2,c2,qs,a5,rfl,rfl,rfl,S2,b8,c5,e1,b5,d8,eL⟩;rw[eL]at K;have S3:Sl p1 a2 qs.length 1 (scs qs):=S2;obtain⟨tT,zT,Z⟩:=g.pw;obtain⟨te,ue,tE,zE,E⟩:=g.es;obtain⟨tr',ur,tR,zR,R⟩:=g.er;have h0:qs.headD []=qs.getD 0 []:=by cases qs<;>rfl
  have c6:(qs.getD 0 []).length<=900:=by
   cases qs with
   |nil=>exact absurd b8 s_
   |cons x t=>exact b5 x s_
  have b0:=xuf S2 1 om c5;refine drq [] R6 ?_;refine de_y rfl rfl (y_lp rfl (Bs.get S2 (i:=0) om)) ?_;refine ex ?_;refine de_y rfl rfl (xys rfl rfl ⟨om,om⟩ (j:=1)) ?_;refine xa ?_;have eT:qs.drop 1=qs.tail:=List.drop_one;rw[eT]at b0;have d5:(qs.tail).length=qs.length-1:=List.length_tail;rw[<- d5]at b0⊢;have c8:Cr D a5 qs=Cr D a5 (qs.getD 0 []::qs.tail):=by rw[<- h0];cases qs with|nil=>exact absurd b8 s_|cons x t=>rfl
  rw[c8]at K;have c1:∀s∈qs.tail,s.length<=900:=fun s hs=>b5 s (List.mem_of_mem_tail hs);have d0:qs.tail.length<=900:=om;generalize qs.getD 0 []=M at*;generalize qs.tail=args at*;generalize Ga a2 c2 1 1=a3 at*;generalize c2-1=c3 at*;clear S3 S2 c8 h0 eT d5 eL b8 c5 e1 b5;refine cpq (cf54 M c6 args.length d0 Z) ?_;intro fv p2 g2 a8;refine cdq (cf55 M c6 args.length d0 (g2.le _ _ Z)) ?_;refine ax ?_;have d9:(decide (((args.length:Nat):Int)=0)&&(decide (M=[98,101,103,105,110])||decide (M=[101,110,100])||decide (M=[100,114,111,112])))=Cq M args.length:=by
   unfold Cq;congr 1;rw[Bool.eq_iff_iff];simp
  refine xkw (l':=[(0,none,w_ b 0),(6,none,sv a5),(7,none,sv M),(8,none,.slice a3 args.length c3),(9,none,fv),(10,none,N7 (od (M++txt args.length))),(11,none,.bool (Cq M args.length)),(64,none,.slice a3 args.length c3)]) ?_ ⟨rfl,rfl,rfl,rfl,rfl,rfl,by rw[<- d9];rfl,rfl,trivial⟩;have hF:(fv=.nilFunc\/ ∃f a b,fv=.func f a b)/\G0 fv=(qn (M++txt args.length)).isNone:=by
   cases e:qn (M++txt args.length)with
   |none=>rw[e]at a8;exact⟨.inl a8,by rw[a8];rfl⟩
   |some q=>rw[e]at a8;obtain⟨b',T,z,rfl,_⟩:=a8;exact⟨.inr ⟨_,_,_,rfl⟩,rfl⟩
  have hO:(N7 (od (M++txt args.length))=.nilFunc\/ ∃f a b,N7 (od (M++txt args.length))=.func f a b)/\G0 (N7 (od (M++txt args.length)))=(od (M++txt args.length)).isNone:=by
   cases od (M++txt args.length)with
   |none=>exact⟨.inl rfl,rfl⟩
   |some o=>cases o<;>exact⟨.inr ⟨_,_,_,rfl⟩,rfl⟩
  refine xrx rfl rfl (cf56 c3 args (Bs.mono g2.le b0) om c1 (g2.le _ _ E) (g2.le _ _ R) (g2.le _ _ Z)) ?_;refine ax ?_;refine ro_y rfl (ypp rfl sdu hF.1 underlying111) ?_;refine ax ?_;refine ro_y rfl (ypp rfl sdu hO.1 underlying114) ?_;refine ax ?_;rw[hF.2,hO.2];refine cq (fun cd=>?_) (fun cd=>?_)
  ·have e0:Cr D a5 (M::args)=(D,Fj):=by
    rw[xuk,if_pos (by simpa using cd)]
   rw[e0]at K;refine ax ?_;exact xrq func30 rfl rfl fun _ H_=>K _ _ (xkj H_ (g1.trans g2) ⟨rfl,A,a6,ct,xs,rfl,N.mono g2.le,P.mono g2.le,hx⟩)
  have d6:∀s∈args,Bc s=true:=by
   have:args.all Bc=true:=by
    cases e:args.all Bc with
    |true=>rfl
    |false=>exact absurd (.inl (by rw[e];simp)) cd
   simpa using this
  rw[xuk,if_neg (by simpa using cd)]at K;have N:=N.mono g2.le;have P:=P.mono g2.le;have g:=g.mono g2.le;refine ax ?_;refine xyt rfl rfl (fun h pe hb a7=>cf57 pe b A D.now w0 hb a7 g c3 args (Bs.mono g2.le b0) om c1 d6) fun v p3 o3 g3 q3=>?_;obtain⟨rfl,q3⟩:=q3;have N:=N.mono g3.le;have P:=P.mono g3.le;have g:=g.mono g3.le;have gg:=(g1.trans g2).trans g3;cases b9:Br D.now args with
  |none=>
    rw[b9]at K q3;obtain rfl:v=.tuple #[.slice none 0 0,.bool false]:=q3;refine ax ?_;refine xjx rfl (fun _=>?_) (fun ce=>absurd s_ ce);refine ax ?_;exact xrq func30 rfl rfl fun _ H_=>K _ _ (xkj H_ gg ⟨rfl,A,a6,ct,xs,rfl,N,P,hx⟩)
  |some vs=>
    rw[b9]at K q3;obtain⟨a4,c4,rfl,V⟩:=q3;have c7:=xed D.now b9;refine ax ?_;refine xjx rfl (fun ce=>absurd ce s_) (fun _=>?_);refine ax ?_;refine ro_y rfl (yt1 rfl sdu hF.1 underlying111) ?_;refine ax ?_;rw[hF.2];cases hq:qn (M++txt args.length)with
    |some q=>
      rw[hq]at K a8;refine xjx rfl (fun _=>?_) (fun ce=>absurd s_ ce);refine ax ?_;refine xyt rfl rfl (fun h pe hb a7=>cf58 pe b D ⟨A,a6,ct,xs,rfl,N,P,hx⟩ hb a7 g q fv (Nl.mono a8 g3.le) c4 vs V (by rw[c7];exact ybs hq) a5 d8 (hR q D.now.t vs N.ok)) fun v p4 o4 g4 q4=>?_;obtain⟨rfl,q4⟩:=q4;refine ax ?_;exact xrq func30 rfl rfl fun _ H_=>K _ _ (xkj H_ (gg.trans g4) ⟨rfl,q4⟩)
    |none=>
      rw[hq]at K a8;refine xjx rfl (fun ce=>absurd ce s_) (fun _=>?_);refine cq (fun ce=>?_) (fun ce=>?_)
      ·simp only[if_pos ce]at K;refine ax ?_;refine xyt rfl rfl (fun h pe hb a7=>cf60 pe b D ⟨A,a6,ct,xs,rfl,N,P,hx⟩ hb a7 M om) fun v p4 o4 g4 q4=>?_;obtain⟨rfl,q4⟩:=q4;refine cdq (cf59 _) ?_;refine ax ?_;exact xrq func30 rfl rfl fun _ H_=>K _ _ (xkj H_ (gg.trans g4) ⟨rfl,q4⟩)
      simp only[if_neg ce]at K;cases ho:od (M++txt args.length)with
      |none=>exact absurd (.inr ⟨by rw[hq];rfl,.inr ⟨by rw[ho];rfl,ce⟩⟩) cd
      |some o=>
        rw[ho]at K;simp only at K;refine lq fun b6=>?_;refine ax ?_;refine xnr (LL':=[[(b6,.cells (tcs A D.now.t).toArray 33 (0,0))],[(b,.cells (dkc A D.now (.slice a6 xs.length ct)).toArray 77 (0,0))]]) ?_ (fun _ s=>s);refine yjr (b:=b6) (Q:=Dj o D.now.t vs) rfl rfl (fun h pe hb a7=>yms o pe b6 A D.now.t hb a7 N.T ⟨⟨by have:=(xhz N.ok).1.1;omega,by have:=(xhz N.ok).1.2;omega⟩,⟨by have:=(xhz N.ok).2.1.1;omega,by have:=(xhz N.ok).2.1.2.1;omega,by have:=(xhz N.ok).2.1.2.2;omega⟩,by have:=(xhz N.ok).2.2;omega⟩ c4 vs V (by rw[c7];exact yps ho)) fun v p4 o4 g4 q4=>?_;have N:=N.mono g4.le;have P:=P.mono g4.le;have gg:=gg.trans g4;unfold Dj at q4;cases ht:C4 o D.now.t vs with
        |none=>
          rw[ht]at K q4;simp only at K;obtain rfl:v=.bool false:=q4;refine ax ?_;refine xvl (.bool false) rfl ?_;refine xvl (.J 0) rfl ?_;refine xvl (.bool false) rfl ?_;refine ax ?_;refine xjx rfl (fun _=>?_) (fun cf=>absurd s_ cf);refine cdq (cf59 false) ?_;refine ax ?_;exact xrq func30 rfl rfl fun _ H_=>K _ _ (xkj H_ gg ⟨rfl,A,a6,ct,xs,rfl,N,P,hx⟩)
        |some t'=>
          rw[ht]at K q4;simp only at K;obtain⟨rfl,A',rfl,T'⟩:=q4;have hf:=ynq ht (xhz N.ok);refine ax ?_;refine xxj rfl rfl rfl sdu (fun _=>cf29 A' t' T' ⟨⟨by have:=hf.1.1;omega,by have:=hf.1.2;omega⟩,⟨by have:=hf.2.1.1;omega,by have:=hf.2.1.2.1;omega,by have:=hf.2.1.2.2;omega⟩,by have:=hf.2.2;omega⟩) ?_;refine cq (fun cf=>?_) (fun cf=>?_)
          ·have b3:¬ Bp t'=0:=by simpa using cf
           simp only[if_neg b3]at K;refine cdq (cf59 false) ?_;refine ax ?_;exact xrq func30 rfl rfl fun _ H_=>K _ _ (xkj H_ gg ⟨rfl,A,a6,ct,xs,rfl,N,P,hx⟩)
          ·have b3:Bp t'=0:=by simpa using cf
           simp only[if_pos b3]at K;refine cdq (cf59 true) ?_;refine ax ?_;exact xrq func30 rfl rfl fun _ H_=>K _ _ (xkj H_ gg ⟨rfl,A',a6,ct,xs,congrArg (fun l=>Obj.cells (List.toArray l) _ (0,0)) xg3,⟨T',b3,N.w⟩,P,hx⟩)
 refine cq (fun cc=>?_) (fun cc=>?_)
 ·refine ax ?_;refine ro_y rfl (xkz rfl rfl sdu sdu (fun hc=>⟨⟨d_,by simp at hc;omega⟩,Sl.ne S1 a9⟩)) ?_;refine ro_y rfl (xoz rfl sdu (fun hc=>Bs.get S (by simp at hc;omega)) (u:=sv (ps.getD 1 []))) ?_;refine cgq (fun _=>cf53 (ps.getD 1 [])) ?_;refine cq (fun cd=>?_) (fun cd=>?_)
  ·have e0:(if ps.getD 0 []=Cl then(if ps.length<3\/isLet (ps.getD 1 [])=false then(D,Fj)else Cr D (ps.getD 1 []) (ps.drop 2))else Cr D [] ps)=(D,Fj):=by
    rw[if_pos (show ps.getD 0 []=Cl from cc),if_pos (by simp at cd;rcases cd with z|z;exact .inl om;exact .inr (by simpa using z))]
   rw[e0]at K;refine ax ?_;exact xrq func30 rfl rfl fun _ H_=>K _ _ (xkj H_ g1 ⟨rfl,A,a6,ct,xs,rfl,N,P,hx⟩)
  have c9:3<=ps.length/\isLet (ps.getD 1 [])=true:=by
   simp at cd;exact⟨om,by simpa using cd.2⟩
  refine drq [] R6 ?_;refine de_y rfl rfl (y_lp rfl (Bs.get S (i:=1) om)) ?_;refine ex ?_;refine de_y rfl rfl (xys rfl rfl ⟨om,om⟩ (j:=2)) ?_;refine ex ?_;exact bkq (H _ _ _ ⟨Ga a c 2 1,c-2,ps.drop 2,ps.getD 1 [],by rw[List.length_drop],rfl,rfl,by rw[List.length_drop];exact xuf S 2 om hc,by rw[List.length_drop];omega,by rw[List.length_drop];omega,by rw[List.length_drop];omega,fun s hs=>b4 s (List.mem_of_mem_drop hs),.inr c9.2,by
   rw[if_pos (show ps.getD 0 []=Cl from cc),if_neg (by rw[c9.2];simp;omega)]⟩)
 ·exact bkq (H _ _ _ ⟨a,c,ps,[],rfl,rfl,rfl,S,a9,hc,d7,b4,.inl rfl,by rw[if_neg (show ¬ ps.getD 0 []=Cl from cc)]⟩)
def O3(t:Twn)(ls:List Str)(v:Value)(p':Aa):Prop:=∃(a:Option Addr)(c:Nat)(A:TA),v=.tuple #[.slice a (E0 t ls).1.length c,twV A (E0 t ls).2,.J (Mj t ls)]/\(E0 t ls).1.length<=c/\Bs p' a (E0 t ls).1.length (E0 t ls).1/\TwP p' A (E0 t ls).2
theorem Pr:TwP p zA zT:=⟨⟨Sl.nil _ _ _,Sl.nil _ _ _⟩,⟨Sl.nil _ _ _,Sl.nil _ _ _,Sl.nil _ _ _⟩,Sl.nil _ _ _,⟨Nat.le_refl _,Nat.le_refl _⟩,⟨Nat.le_refl _,Nat.le_refl _,Nat.le_refl _⟩,Nat.le_refl _⟩
theorem xn4{t:Twn}(h:Bp t≠0\/30<ls.length):O3 t ls (.tuple #[.slice none 0 0,twV zA zT,.J (Mj t ls)]) p':=by
 have e:E0 t ls=([],zT):=by unfold E0;rw[if_pos h]
 unfold O3;rw[e];exact⟨none,0,zA,rfl,Nat.le_refl _,Sl.nil _ _ _,Pr⟩
theorem cf17(A:TA)(t:Twn)(T:TwP p A t)(hn:t.fit (2^20))(g:GlP p){a:Option Addr}(c:Nat)(ls:List Str)(S:Bs p a ls.length ls)(a9:ls.length<=2^20)(a6:∀s∈ls,s.length<=900)(hR:∀q t vs,Bp t=0->(By q t vs).2=0->(By q t vs).1.ok):Lc prog (.main true) p 17 #[twV A t,.slice a ls.length c] (O3 t ls):=by
 intro h hp;refine xez hp func17 fun _ _ _ K=>?_;refine bq fun b2=>?_;refine lq fun b5=>?_;refine cdq (cf29 A t T hn) ?_;refine cq (fun H=>?_) (fun H=>?_)
 ·have eE:Mj t ls=Bp t:=by unfold Mj;rw[if_pos (by simpa using H)]
  refine ax ?_;exact xbz func17 rfl (.tmp rfl (xoq rfl (.tmp rfl .nil))) fun _ V=>K _ _ (xqq V (.refl _ _ _) (by have z:=xn4 (p':=p) (t:=t) (ls:=ls) (.inl (by simpa using H));rw[eE]at z;exact z))
 have H:Bp t=0:=by simpa using H
 refine cq (fun cd=>?_) (fun cd=>?_)
 ·have eE:Mj t ls=2:=by unfold Mj;rw[if_neg (by rw[H];simp),if_pos om]
  refine ax ?_;exact xbz func17 rfl (.tmp rfl (xoq rfl (.tmp rfl .nil))) fun _ V=>K _ _ (xqq V (.refl _ _ _) (by have z:=xn4 (p':=p) (t:=t) (ls:=ls) (.inr om);rw[eE]at z;exact z))
 have b4:ls.length<=30:=om;refine ax ?_;refine xkw (l':=[(1,none,.slice a ls.length c),(4,none,.slice none 0 0),(5,none,w_ b5 0),(22,none,.agg (dkc A (Ah t).now (.slice none 0 0)).toArray)]) ?_ ⟨rfl,rfl,rfl,k_,trivial⟩;refine xbx fun b8=>?_;refine ax ?_;have e8:∀z:List Value,z.length=64->Ce z 0 (Value.agg (dkc A (Ah t).now (.slice none 0 0)).toArray).cells.toList=dkc A (Ah t).now (.slice none 0 0):=fun z hz=>xqt (by rw[hz];exact xnc ⟨rfl,rfl⟩);refine xyj 9 1 fun o0=>?_;refine xfk (LL':=[[],[(b8,.cells (dkc A (Ah t).now (.slice none 0 0)).toArray 77 (0,0))],[(b5,.cells (tcs zA zT).toArray 33 (0,0))],[(b2,.cells (tcs A t).toArray 33 (0,0))]]) ?_ (fun _ s=>by
  rw[e8 _ k_]at s;exact s)
 have D0:DkP p (Ah t) (.cells (dkc A (Ah t).now (.slice none 0 0)).toArray 77 (0,0)) 77:=
  ⟨A,none,0,[],rfl,⟨T,H,rfl,rfl⟩,⟨Nat.le_refl _,Sl.nil _ _ _,s_⟩,rfl⟩
 refine xjq (fun m_ l p_ L_=>∃(j:Nat)(v:Value)(ob:Obj)(Y:Pcs),m_=ls.length-j/\l=[(4,none,v),(5,none,w_ b5 0),(8,none,w_ b8 0),(23,none,.slice a ls.length c),(24,none,.J ((ls.length:Nat):Int)),(25,none,.J ((j:Nat):Int))]/\PG h.size [] p p_/\
  L_=[Y,[(b8,ob)],[(b5,.cells (tcs zA zT).toArray 33 (0,0))],[(b2,.cells (tcs A t).toArray 33 (0,0))]]/\j<=ls.length/\Ab 9 1 v (scs (Bw (Ah t) (ls.take j)).2) Y/\DkP p_ (Bw (Ah t) (ls.take j)).1 ob 77)
  ⟨0,_,.cells (dkc A (Ah t).now (.slice none 0 0)).toArray 77 (0,0),_,rfl,rfl,.refl _ _ _,rfl,Nat.zero_le _,o0,D0⟩ sb ?_
 clear D0 o0;rintro _ _ p1 _ IH ⟨j,v,ob,Y,rfl,rfl,g1,rfl,hj,o,hD⟩;have S1:=Bs.mono g1.le S;have S2:Sl p1 a ls.length 1 (scs ls):=S1;have M:(Bw (Ah t) (ls.take j)).2.length=j:=by rw[xir,List.length_take];omega
 have a8:(Bw (Ah t) (ls.take j)).1.Cu.length<=30:=by
  have:=xut (ls.take j) (Ah t);rw[List.length_take]at this;have e:(Ah t).Cu.length=0:=rfl;omega
 refine cq (fun ce=>?_) (fun ce=>?_)
 ·have O:j<ls.length:=om;obtain⟨hm,a5⟩:=ysp (xs:=ls) (j:=j) O;refine ax ?_;refine ro_y rfl (y_lp rfl (Bs.get S1 O)) ?_;refine ax ?_;refine xyt rfl rfl (fun h pe hb a3=>cf30 pe b8 ob hD hb a3 (g.mono g1.le) (ls.getD j []) (a6 _ hm) om hR) fun v2 p2 o2 g2 q2=>?_;obtain⟨rfl,a4⟩:=q2;refine ax ?_;refine xtx rfl fun v3 Y3 o3=>?_;have o3:Ab 9 1 v3 (scs [(doD (Bw (Ah t) (ls.take j)).1 (ls.getD j [])).2]) Y3:=o3;refine xbv rfl rfl o o3 (by simp[scs,sv,Be]) (by rw[xwx,M,xwx];simp;omega) fun v4 Y4 o4=>?_;refine ax ?_;have eS:=xtt (ls.getD j []) (ls.take j) (Ah t);rw[<- a5]at eS;exact bkq (IH _ _ _ om ⟨j+1,v4,o2,Y4,rfl,rfl,g1.trans g2,rfl,om,o4.as (by rw[eS];simp[scs]),by rw[eS];exact a4⟩)
 obtain rfl:j=ls.length:=om;rw[List.take_length]at o hD M;have eR:E0 t ls=((Bw (Ah t) ls).2,(Bw (Ah t) ls).1.now.t):=by unfold E0;rw[if_neg (by rw[H];simp;omega)]
 have eE:Mj t ls=0:=by unfold Mj;rw[if_neg (by rw[H];simp),if_neg om]
 obtain⟨A1,b0,b3,b7,rfl,N1,P1,b6⟩:=hD;refine ax ?_;refine xhx o (m:=(Bw (Ah t) ls).2.length) (xwx _) d_ fun p2 a2 c2 g2 e2 a7 S3=>?_;subst e2;have hf:=xhz N1.ok;refine xwv rfl rfl (cf31 A1 (N1.T.mono g2.le) ⟨⟨by have:=hf.1.1;omega,by have:=hf.1.2;omega⟩,⟨by have:=hf.2.1.1;omega,by have:=hf.2.1.2.1;omega,by have:=hf.2.1.2.2;omega⟩,by have:=hf.2.2;omega⟩) ?_;rintro _ p3 g3 ⟨A',rfl,T'⟩;refine ax ?_;exact xbz func17 rfl (.tmp rfl (xoq rfl (.tmp rfl .nil))) fun _ V=>K _ _ (xqq V ((g1.trans g2).trans g3) (by
  unfold O3;rw[eR,eE];exact⟨a2,c2,A',rfl,a7,Bs.mono g3.le S3,T'⟩))
end Go.Proofs.YtadndcpcjmmngaaGreatDoor
