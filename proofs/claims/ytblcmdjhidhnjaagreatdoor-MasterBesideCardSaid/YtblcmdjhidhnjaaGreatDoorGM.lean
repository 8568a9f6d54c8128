/-
  Part of proofs about a town's master: a calculus for Be beside goroutines that are only leaving, and the Be. No condition.
-/
import Derived.Test.YtblcmdjhidhnjaaGreatDoorGU
import Derived.Test.YtblcmdjhidhnjaaGreatDoorGV
set_option maxRecDepth 20000
set_option synthInstance.maxSize 2000
namespace Go.X.Ms
open Go.X.Flow (Tn Cc Ao D5 K0 Fx LKc Do M2 F8 Fl)
open Go.X.Cist (Day Ba chk Gm Cy B8 Mi K5)
structure Yr where
 size:Int
 start:Int
 days:List Day
structure Twn where
 s:Shf
 b:Tn
 y:Yr
noncomputable def B9(t:Twn):Int:=if Hc t.s=0/\D5 t.b=0/\chk t.y.size t.y.start t.y.days=0 then 0 else 120
inductive Qn where
 |fewest|cheap|deep|next|E8|Dy|draws|dry|short|empty|least|ration|spare|level
def Qn.ar:Qn->Nat
 |.deep|.next|.draws|.dry|.spare|.level=>1
 |_=>0
def qn(w:Str):Option Qn:=
 if w=[102,101,119,101,115,116,48]then some .fewest
 else if w=[99,104,101,97,112,48]then some .cheap
 else if w=[100,101,101,112,49]then some .deep
 else if w=[110,101,120,116,49]then some .next
 else if w=[109,111,115,116,48]then some .E8
 else if w=[108,97,99,107,115,48]then some .Dy
 else if w=[100,114,97,119,115,49]then some .draws
 else if w=[100,114,121,49]then some .dry
 else if w=[115,104,111,114,116,48]then some .short
 else if w=[101,109,112,116,121,48]then some .empty
 else if w=[108,101,97,115,116,48]then some .least
 else if w=[114,97,116,105,111,110,48]then some .ration
 else if w=[115,112,97,114,101,49]then some .spare
 else if w=[108,101,118,101,108,49]then some .level
 else none
inductive Od where
 |Kc|E7|up|D9|Hx|want|has|way|day|size
def Od.ar:Od->Nat
 |.Kc=>4
 |.up=>0
 |.want|.has|.way=>2
 |.day=>3
 |_=>1
def od(w:Str):Option Od:=
 if w=[114,111,99,107,52]then some .Kc
 else if w=[102,111,111,116,49]then some .E7
 else if w=[117,112,48]then some .up
 else if w=[104,111,117,115,101,49]then some .D9
 else if w=[119,101,108,108,49]then some .Hx
 else if w=[119,97,110,116,50]then some .want
 else if w=[104,97,115,50]then some .has
 else if w=[119,97,121,50]then some .way
 else if w=[100,97,121,51]then some .day
 else if w=[115,105,122,101,49]then some .size
 else none
inductive Rs where
 |num (n:Int)
 |spn (a b:Int)
 |lst (l:List Int)
noncomputable def Bs(q:Qn)(t:Twn)(a:List Int):Rs×Int:=match q with
 |.fewest=>(.num (Fi t.s),Cb ltF t.s)
 |.cheap=>(.num (Ch t.s),Cb ltC t.s)
 |.deep=>(.num (Ke t.s (a.getD 0 0)),Lo t.s (a.getD 0 0))
 |.next=>(.num (Ha t.s (a.getD 0 0)),Fa t.s (a.getD 0 0))
 |.E8=>(.num (Fx t.b),D5 t.b)
 |.Dy=>(.lst (LKc t.b),D5 t.b)
 |.draws=>(.spn (Do t.b (a.getD 0 0) (-1)) (Do t.b (a.getD 0 0) 1),K0 t.b (decide (0<=a.getD 0 0/\a.getD 0 0<=(t.b.nH:Int)-1)))
 |.dry=>(.num (M2 t.b (a.getD 0 0)),K0 t.b (decide (0<=a.getD 0 0/\a.getD 0 0<=(t.b.nW:Int)-1)))
 |.short=>(.lst (F8 t.b),Fl t.b)
 |.empty=>(.num (Mi t.y.size t.y.start t.y.days).1,(Mi t.y.size t.y.start t.y.days).2)
 |.least=>(.num (Gm t.y.size t.y.start t.y.days).1,(Gm t.y.size t.y.start t.y.days).2)
 |.ration=>(.num (if Cist.Ok t.y.size t.y.start t.y.days then B8 t.y.size t.y.start t.y.days 20 else 0),chk t.y.size t.y.start t.y.days)
 |.spare=>(.num (Cy t.y.size t.y.start t.y.days (a.getD 0 0)).1,(Cy t.y.size t.y.start t.y.days (a.getD 0 0)).2)
 |.level=>(.spn (K5 t.y.size t.y.start t.y.days (a.getD 0 0)).1.1 (K5 t.y.size t.y.start t.y.days (a.getD 0 0)).1.2,(K5 t.y.size t.y.start t.y.days (a.getD 0 0)).2)
def M6:List Int->Str
 |[]=>[]
 |x::xs=>32::(txt x++M6 xs)
def Nx:List Int->Str
 |[]=>[110,111,116,104,105,110,103]
 |x::xs=>txt x++M6 xs
def Rs.text:Rs->Str
 |.num n=>txt n
 |.spn a b=>txt a++([32,116,111,32]++txt b)
 |.lst l=>Nx l
def Kn(l:List Int)(i x:Int):Option (List Int):=if 0<=i/\i<(l.length:Int)then some (l.set i.toNat x)else none
def Mg(w x:Cc):Bool:=decide (w.1<x.1\/w.1=x.1/\w.2<x.2)
def Kj(H:List Cc)(w:Cc):Nat:=if Flow.C2 (Mg w) H<0 then H.length else(Flow.C2 (Mg w) H).toNat
def Q0(H:List Cc)(w:Cc):List Cc:=H.take (Kj H w)++w::H.drop (Kj H w)
def B7(o:Od)(t:Twn)(a:List Int):Option Twn:=match o with
 |.Kc=>some {t with s:={t.s with Ah:=t.s.Ah++[⟨a.getD 0 0,a.getD 1 0,a.getD 2 0,a.getD 3 0⟩]}}
 |.E7=>some {t with s:={t.s with Ag:=t.s.Ag++[a.getD 0 0]}}
 |.up=>if t.s.Ag.length=0 then none else some {t with s:={t.s with Ag:=t.s.Ag.take (t.s.Ag.length-1)}}
 |.D9=>some {t with b:={t.b with hs:=t.b.hs++[a.getD 0 0]}}
 |.Hx=>some {t with b:={t.b with ws:=t.b.ws++[a.getD 0 0]}}
 |.want=>(Kn t.b.hs (a.getD 0 0) (a.getD 1 0)).map fun l=>{t with b:={t.b with hs:=l}}
 |.has=>(Kn t.b.ws (a.getD 0 0) (a.getD 1 0)).map fun l=>{t with b:={t.b with ws:=l}}
 |.way=>some {t with b:={t.b with wy:=Q0 t.b.wy (a.getD 0 0,a.getD 1 0)}}
 |.day=>some {t with y:={t.y with days:=t.y.days++[⟨a.getD 0 0,a.getD 1 0,a.getD 2 0⟩]}}
 |.size=>some {t with y:={t.y with size:=a.getD 0 0}}
structure Dt where
 t:Twn
 Da:List Int
 kept:List Int
structure Dsk where
 now:Dt
 Ci:List Dt
def Dl(s:Str):Nat:=(s.headD 0).toNat-97
def Kx(d:Dt)(s:Str):Option Int:=if isLet s=true then(if d.kept.getD (Dl s) 0=0 then none else some (d.Da.getD (Dl s) 0))else some ((C8 s).getD 0)
def Bo(d:Dt):List Str->Option (List Int)
 |[]=>some []
 |s::ss=>match Kx d s with
   |none=>none
   |some n=>(Bo d ss).map (n:: ·)
def Ka(d:Dsk)(H:Str):Rs->Dsk
 |.num n=>{d with now:={d.now with Da:=d.now.Da.set (Dl H) n,kept:=d.now.kept.set (Dl H) 1}}
 |_=>d
def Ml:Str:=[110,111,110,101]
def Gs:Str:=[119,114,111,110,103]
def Ew:Str:=[119,104,97,116]
def D4:Str:=[117,110,107,110,111,119,110]
def wOk:Str:=[111,107]
def wNo:Str:=[110,111]
def Ei:Str:=[98,101,103,105,110]
def Oo:Str:=[101,110,100]
def Gw:Str:=[100,114,111,112]
def Er:Str:=[107,101,101,112]
noncomputable def Eu(d:Dsk)(q:Qn)(a:List Int)(H:Str):Dsk×Str:=
 if(Bs q d.now.t a).2=3 then(d,Ml)
 else if(Bs q d.now.t a).2≠0 then(d,Gs)
 else(if H≠[]then Ka d H (Bs q d.now.t a).1 else d,(Bs q d.now.t a).1.text)
def tryD(d:Dsk)(w:Str):Dsk×Bool:=
 if w=Ei then({d with Ci:=d.Ci++[d.now]},true)
 else match d.Ci.getLast? with
  |none=>(d,false)
  |some x=>if w=Gw then(⟨x,d.Ci.take (d.Ci.length-1)⟩,true)else(⟨d.now,d.Ci.take (d.Ci.length-1)⟩,true)
def Ki(b:Bool):Str:=if b then wOk else wNo
def Co(w:Str)(n:Nat):Bool:=decide (n=0)&&(decide (w=Ei)||decide (w=Oo)||decide (w=Gw))
noncomputable def Cl(d:Dsk)(H:Str)(parts:List Str):Dsk×Str:=
 let word:=parts.headD []
 let args:=parts.tail
 let how:=qn (word++txt args.length)
 let Nz:=od (word++txt args.length)
 if args.all Bb=false\/(how=none/\(H≠[]\/(Nz=none/\Co word args.length=false)))then(d,Ew)
 else match Bo d.now args with
  |none=>(d,D4)
  |some vs=>match how with
    |some q=>Eu d q vs H
    |none=>if Co word args.length=true then((tryD d word).1,Ki (tryD d word).2)
      else match Nz with
       |none=>(d,wNo)
       |some o=>match B7 o d.now.t vs with
         |none=>(d,wNo)
         |some t=>if B9 t=0 then({d with now:={d.now with t:=t}},wOk)else(d,wNo)
noncomputable def doD(d:Dsk)(H:Str):Dsk×Str:=
 let parts:=Ad H
 if parts.headD []=Er then(if parts.length<3\/isLet (parts.getD 1 [])=false then(d,Ew)else Cl d (parts.getD 1 []) (parts.drop 2))else Cl d [] parts
noncomputable def Ds:Dsk->List Str->Dsk×List Str
 |d,[]=>(d,[])
 |d,x::xs=>((Ds (doD d x).1 xs).1,(doD d x).2::(Ds (doD d x).1 xs).2)
def Al(t:Twn):Dsk:=⟨⟨t,List.replicate 26 0,List.replicate 26 0⟩,[]⟩
open Go.X.Flow (Tn Cc Ao)
open Go.X.Cist (Day Ba)
abbrev AC:=Option Addr×Nat
structure TA where
 r:AC
 f:AC
 h:AC
 w:AC
 y:AC
 d:AC
abbrev tcs(A:TA)(t:Twn):List Value:=[.slice A.r.1 t.s.Ah.length A.r.2,.slice A.f.1 t.s.Ag.length A.f.2,.J t.s.deep,.J t.s.Cf,.J t.s.rest,.slice A.h.1 t.b.nH A.h.2,.slice A.w.1 t.b.nW A.w.2,.slice A.y.1 t.b.m A.y.2,.J t.y.size,.J t.y.start,.slice A.d.1 t.y.days.length A.d.2]
structure TwP(p:Ab)(A:TA)(t:Twn):Prop where
 s:Ck p A.r.1 A.f.1 t.s
 b:Ao p A.h.1 t.b.nH A.w.1 t.b.nW A.y.1 t.b.m t.b
 d:Ba p A.d.1 t.y.days.length t.y.days
 c:(t.s.Ah.length<=A.r.2/\t.s.Ag.length<=A.f.2)/\(t.b.nH<=A.h.2/\t.b.nW<=A.w.2/\t.b.m<=A.y.2)/\t.y.days.length<=A.d.2
theorem TwP.mono{p p':Ab}{A:TA}{t:Twn}(T:TwP p A t)(H:PLe p p'):TwP p' A t:=⟨T.s.mono H,⟨T.b.h.mono H,T.b.w.mono H,T.b.y.mono H⟩,Sl.mono H T.d,T.c⟩
def Twn.fit(t:Twn)(n:Nat):Prop:=(t.s.Ah.length<=n/\t.s.Ag.length<=n)/\(t.b.nH<=n/\t.b.nW<=n/\t.b.m<=n)/\t.y.days.length<=n
theorem xhj{t:Twn}:B9 t=0<->Hc t.s=0/\Flow.D5 t.b=0/\Cist.chk t.y.size t.y.start t.y.days=0:=by
 unfold B9;split
 ·rename_i h;simp[h]
 ·rename_i h;simp only[h];simp
theorem xsz{t:Twn}(h:B9 t=0):t.fit 12:=by
 obtain⟨H,h2,O⟩:=xhj.1 h;have s:t.s.ok:=by
  unfold Hc at H;split at H
  ·assumption
  ·cases H
 obtain⟨V,v⟩:=Flow.Mk h2;have M:=v.ok om;have y:=Cist.Bu.1 O;have:=s.1;have:=s.2.2.1;have:=y.2.2.2.2.1
 refine⟨⟨om,om⟩,⟨?_,?_,V⟩,om⟩
 ·have:=M.nh;omega
 ·have:=M.nw;omega
end Go.X.Ms
namespace Go.X
abbrev Ms.twV(A:Ms.TA)(t:Ms.Twn):Value:=.agg (Ms.tcs A t).toArray
theorem xh1(xs:List Rk):∀u∈(rcs xs).flatten,A7 u=true:=by
 intro u H;simp only[rcs,List.mem_flatten,List.mem_map]at H;obtain⟨_,⟨w,_,rfl⟩,H⟩:=H;simp only[Rk.cells,List.mem_cons,List.not_mem_nil,or_false]at H;rcases H with rfl|rfl|rfl|rfl<;>rfl
theorem xdm(xs:List Flow.Cc):∀u∈(Flow.wcs xs).flatten,A7 u=true:=by
 intro u H;simp only[Flow.wcs,List.mem_flatten,List.mem_map]at H;obtain⟨_,⟨w,_,rfl⟩,H⟩:=H;simp only[Flow.Cc.cells,List.mem_cons,List.not_mem_nil,or_false]at H;rcases H with rfl|rfl<;>rfl
end Go.X
namespace Go.X.Flow
theorem xm0(xs H:List Cc):wcs (xs++H)=wcs xs++wcs H:=by simp[wcs]
theorem xm2(xs:List Cc)(i:Nat):wcs (xs.take i)=(wcs xs).take i:=by simp[wcs]
theorem xn2(xs:List Cc)(i:Nat):wcs (xs.drop i)=(wcs xs).drop i:=by simp[wcs]
theorem xyl(xs:List Cc):∀u∈(wcs xs).flatten,A7 u=true:=by
 intro u H;simp only[wcs,List.mem_flatten,List.mem_map]at H;obtain⟨_,⟨w,_,rfl⟩,H⟩:=H;simp only[Cc.cells,List.mem_cons,List.not_mem_nil,or_false]at H;rcases H with rfl|rfl<;>rfl
theorem ylp{α:Type}{A B zs:List α}{x:α}(M:zs.length=B.length+1):(A++zs).take A.length++([x]++(A++zs).drop (A.length+1))=(A++[x])++zs.drop 1/\((A++[x])++zs.drop 1).length=A.length+B.length+1/\
 ((A++[x])++zs.drop 1).take (A.length+1)++(B++((A++[x])++zs.drop 1).drop (A.length+1+B.length))=A++x::B:=by
 have H:((A++[x])++zs.drop 1).length=A.length+B.length+1:=by simp;omega
 refine⟨?_,H,?_⟩
 ·rw[List.take_left' rfl,<- List.drop_drop,List.drop_left' rfl,List.append_assoc]
 ·rw[List.take_left' s_,List.drop_of_length_le om,List.append_nil,List.append_assoc];rfl
theorem ymp{α:Type}{W:List α}{u x:α}{i n:Nat}(hn:W.length=n)(hi:i<n):((W++[u]).drop i).take (n-i)=W.drop i/\((W++[u]).take (i+1)++(W.drop i++(W++[u]).drop (i+1+(n-i)))).length=n+1/\
 ((W++[u]).take (i+1)++(W.drop i++(W++[u]).drop (i+1+(n-i)))).take i++([x]++((W++[u]).take (i+1)++(W.drop i++(W++[u]).drop (i+1+(n-i)))).drop (i+1))=W.take i++x::W.drop i:=by
 subst hn;have H:(W++[u]).drop (i+1+(W.length-i))=[]:=List.drop_of_length_le (by simp;omega);have M:((W++[u]).take (i+1)).length=i+1:=by simp;omega
 refine⟨?_,by rw[H];simp;omega,?_⟩
 ·rw[List.drop_append_of_le_length om,List.take_left' s_]
 ·rw[H,List.append_nil,List.drop_left' M,List.take_append_of_le_length om,List.take_take,Nat.min_eq_left om,List.take_append_of_le_length om];rfl
end Go.X.Flow
namespace Go.X.Ms
theorem xh8{n:Nat}(h:n<=999999):(txt (n:Int)).length<=6:=by
 have e:txt (n:Int)=Dk n:=by
  unfold txt;rw[if_neg om,Int.natAbs_natCast]
 rw[e];exact xbj (k:=5) om
def Lf(l:List Int):Nat->Str
 |0=>[]
 |k+1=>Lf l k++((if k=0 then []else [32])++txt (l.getD k 0))
theorem xft(x:Int)(xs:List Int):∀k,k<=xs.length->Lf (x::xs) (k+1)=txt x++M6 (xs.take k)
 |0,_=>by simp[Lf,M6]
 |k+1,h=>by
   rw[Lf,xft x xs k om,if_neg om,List.append_assoc];congr 1;have e:∀(H:List Int)(z:Int),M6 (H++[z])=M6 H++(32::txt z):=by
    intro H z
    induction H with
    |nil=>simp[M6]
    |cons y H ih=>simp[M6,ih]
   have M:xs.take (k+1)=xs.take k++[xs.getD k 0]:=by
    rw[List.take_succ_eq_append_getElem om];rw[List.getD_eq_getElem?_getD,List.getElem?_eq_getElem om];rfl
   rw[M,e];simp
theorem ytv{l:List Int}(h:0<l.length):Lf l l.length=Nx l:=by
 cases l with
 |nil=>simp at h
 |cons x xs=>rw[List.length_cons,xft x xs xs.length (Nat.le_refl _),List.take_length];rfl
def i64(n:Int):Prop:=-9223372036854775808<=n/\n<=9223372036854775807
theorem xnv{n:Int}(h:i64 n):(txt n).length<=20:=by
 have M:=h.1;have H:=h.2;have e:(Dk n.natAbs).length<=19:=xbj (k:=18) om;unfold txt;split
 ·simp;exact e
 ·omega
theorem xar{l:List Int}(h:∀i,i<l.length->i64 (l.getD i 0)):∀k,k<=l.length->(Lf l k).length<=21*k
 |0,_=>by simp[Lf]
 |k+1,hk=>by
   have:=xar h k om;have:=xnv (h k om);rw[Lf];generalize txt (l.getD k 0)=u at*;split<;>simp only[List.length_append,List.length_nil,List.length_cons]<;>omega
theorem xf8(n:Int):0<(txt n).length:=by
 unfold txt;split
 ·simp
 ·exact xfh _
end Go.X.Ms
namespace Go.Proofs.YtblcmdjhidhnjaaGreatDoor
open Go.Proofs.Tryz
open Go.X Go.X.Ms Go.Conc
open Go.X.Flow (Cc Wys wz ics)
open Go.X.Cist (Day Ba dcs dz Dm)
section
variable{h:Heap}{md:Md}{p:Ab}
theorem c51(hp:Per p h){a:Option Addr}{n c:Nat}{xs:List Rk}(S:Rks p a n xs)(hn:n<=2^20):
 Aa prog md 51 #[.slice a n c] h fun v O=>∃Y,Ac 92 4 v (rcs xs) Y/\New h O Y:=by
 have hl:=S.len;refine xdq hp func51 fun _ _ _ K=>?_;refine xvs rfl ?_;refine cq (fun M=>?_) (fun M=>?_)
 ·refine ax ?_;have e:xs=[]:=by
   by_cases V:0<n
   ·rw[Sl.ne S V]at M;cases M
   ·exact List.eq_nil_of_length_eq_zero om
  subst e;refine xzj 92 4 fun o=>?_;exact K.r rfl rfl fun _ H=>⟨_,o,D6 H⟩
 refine ax ?_;refine xbz rfl fun v Y o=>?_;refine ax ?_;refine xow rfl rfl o S (xh1 xs) (by simp[chs];omega) (fun v' Y' o'=>?_);refine ax ?_;exact K.r rfl rfl fun _ H=>⟨_,o',D6 H⟩
theorem c53(hp:Per p h){a:Option Addr}{n c:Nat}{xs:List Cc}(S:Wys p a n xs)(hn:n<=2^20):
 Aa prog md 53 #[.slice a n c] h fun v O=>∃Y,Ac 94 2 v (Flow.wcs xs) Y/\New h O Y:=by
 have hl:=S.len;refine xdq hp func53 fun _ _ _ K=>?_;refine xvs rfl ?_;refine cq (fun M=>?_) (fun M=>?_)
 ·refine ax ?_;have e:xs=[]:=by
   by_cases V:0<n
   ·rw[Sl.ne S V]at M;cases M
   ·exact List.eq_nil_of_length_eq_zero om
  subst e;refine xzj 94 2 fun o=>?_;exact K.r rfl rfl fun _ H=>⟨_,o,D6 H⟩
 refine ax ?_;refine xbz rfl fun v Y o=>?_;refine ax ?_;refine xow rfl rfl o S (xdm xs) (by simp[chs];omega) (fun v' Y' o'=>?_);refine ax ?_;exact K.r rfl rfl fun _ H=>⟨_,o',D6 H⟩
theorem Vv(hp:Per p h){a:Option Addr}{n c:Nat}{xs:List Rk}(S:Rks p a n xs)(hc:n<=c)(hn:n<=2^20)(x:Rk):
 Aa prog md 115 #[.slice a n c,.agg #[.J x.hr,.J x.pe,.J x.sd,.J x.st]] h fun v h'=>∃Y,Ac 92 4 v (rcs (xs++[x])) Y/\New h h' Y:=by
 have hl:=S.len;have ec:rcs (xs++[x])=rcs xs++rcs [x]:=by simp[rcs]
 refine xdq hp func115 fun _ _ _ K=>?_;refine xgq rfl fun b1=>?_;refine ax ?_;refine xqq [7] R8 ?_;refine ex ?_;refine ygj rfl rfl rfl rfl hc ?_;refine ex ?_;refine xvk rfl rfl fun V Y2 H=>?_;refine ex ?_;refine ax ?_;have H:Ac 92 4 V (rcs [x]) Y2:=H;refine xzs rfl rfl S H (Nat.succ_pos _) (by simp[rcs];omega) fun v3 M o3=>?_;refine ax ?_;exact K.r rfl rfl fun _ O=>⟨M,o3.as ec.symm,D6 O⟩
theorem P5(hp:Per p h){a:Option Addr}{n c:Nat}{xs:List Int}(S:As p a n xs)(hc:n<=c)(hn:n<=2^20)(x:Int):
 Aa prog md 117 #[.slice a n c,.J x] h fun v h'=>∃Y,Ac 3 1 v (ics (xs++[x])) Y/\New h h' Y:=by
 have hl:=S.len;have ec:ics (xs++[x])=ics xs++ics [x]:=by simp[ics]
 refine xdq hp func117 fun _ _ _ K=>?_;refine yrc rfl rfl rfl hc ?_;refine ax ?_;refine xbz rfl fun V Y2 H=>?_;have H:Ac 3 1 V (ics [x]) Y2:=H;refine xzs rfl rfl S H (Nat.succ_pos _) (by simp[ics];omega) fun v3 M o3=>?_;refine ax ?_;exact K.r rfl rfl fun _ O=>⟨M,o3.as ec.symm,D6 O⟩
theorem Ux(hp:Per p h){a:Option Addr}{n c:Nat}{xs:List Day}(S:Ba p a n xs)(hc:n<=c)(hn:n<=2^20)(x:Day):
 Aa prog md 129 #[.slice a n c,.agg #[.J x.lo,.J x.hi,.J x.want]] h fun v h'=>∃Y,Ac 98 3 v (dcs (xs++[x])) Y/\New h h' Y:=by
 have hl:=S.len;have ec:dcs (xs++[x])=dcs xs++dcs [x]:=by simp[dcs]
 refine xdq hp func129 fun _ _ _ K=>?_;refine xgq rfl fun b1=>?_;refine ax ?_;refine xqq [7] R8 ?_;refine ex ?_;refine ygj rfl rfl rfl rfl hc ?_;refine ex ?_;refine xvk rfl rfl fun V Y2 H=>?_;refine ex ?_;refine ax ?_;have H:Ac 98 3 V (dcs [x]) Y2:=H;refine xzs rfl rfl S H (Nat.succ_pos _) (by simp[dcs];omega) fun v3 M o3=>?_;refine ax ?_;exact K.r rfl rfl fun _ O=>⟨M,o3.as ec.symm,D6 O⟩
theorem c49(O:Per p h)(b:Bool):
 Aa prog md 49 #[.bool b] h fun v V=>v=sv (Ki b)/\Af h V:=by
 refine xdq O func49 fun _ _ _ K=>?_;refine xlq rfl (fun M=>?_) (fun M=>?_)
 ·refine ax ?_;exact K.r rfl rfl fun _ H=>⟨by rw[show b=true from M];rfl,H.kept⟩
 ·refine ax ?_;exact K.r rfl rfl fun _ H=>⟨by rw[show b=false from by simpa using M];rfl,H.kept⟩
theorem c25(hp:Per p h)(A:TA)(t:Twn)(T:TwP p A t)(hn:t.fit (2^20)):
 Aa prog md 25 #[twV A t] h fun v V=>v=.J (B9 t)/\Af h V:=by
 obtain⟨⟨n1,n2⟩,⟨n3,n4,n5⟩,n6⟩:=hn;refine xdq hp func25 fun _ _ _ K=>?_;refine xgq rfl fun b1=>?_;refine ax ?_;refine xiq rfl rfl (fun _ M=>c39 M t.s T.s ⟨om,om⟩) ?_;refine ax ?_;refine xfx rfl rfl rfl sdt (fun _ _ M=>c40 M t.b T.b ⟨om,om,om⟩) ?_;refine ax ?_;refine xfx rfl rfl rfl sdt (fun _ _ M=>c41 M _ _ _ _ _ T.d om) ?_;refine cq (fun H=>?_) (fun H=>?_)
 ·refine ax ?_;exact K.r rfl rfl fun _ O=>⟨by rw[B9,if_neg (fun z=>by simp[z]at H)];rfl,O.kept⟩
 ·refine ax ?_;exact K.r rfl rfl fun _ O=>⟨by rw[B9,if_pos (by simp at H;exact⟨H.1.1,H.1.2,H.2⟩)];rfl,O.kept⟩
end
open Go.X Go.X.Flow Go.Conc
theorem Rj{md:Md}{z9 h:Heap}{zz:List Nat}{p:Ab}(C:Pcs){Y Z:Pcs}{v z:Value}(xs:List Cc)(x:Cc)(i:Nat)(hi:i<=xs.length)(hn:xs.length<=2^20)(o:Ac 94 2 v (wcs xs) Y)(oz:Ac 94 2 z (wcs [x]) Z)(s:St z9 zz p h ((Y++Z)++C)):
 Aa prog md 127 #[v,.J ((i:Nat):Int),z] h fun v' h'=>∃Y',Ac 94 2 v' (wcs (xs.take i++x::xs.drop i)) Y'/\St z9 zz p h' (Y'++C):=by
 have hl:(wcs xs).length=xs.length:=Ap xs;refine xkj s func127 fun _ _ _ K=>?_;refine xpz Y Z ?_;obtain⟨a,c,rfl,-⟩:=o.val;have a4:=o.room d_ rfl;rw[hl]at o a4⊢;obtain⟨bz,cz,rfl,b5,-⟩:∃b cap,z=.slice (some ⟨b,0,none⟩) 1 cap/\1<=cap/\True:=by
  obtain⟨b,cap,e,hc,-⟩:=oz.at0 (by rw[Ap];exact Nat.one_pos) d_;exact⟨b,cap,e,hc,trivial⟩
 refine ax ?_;refine xts rfl rfl (j:=i) ⟨hi,a4⟩ ?_;refine ax ?_;refine xlq rfl (fun cc=>absurd cc d_) (fun _=>?_);refine cq (fun cc=>?_) (fun cc=>?_)
 ·have ei:i=xs.length:=om;refine ax ?_;refine xfv rfl rfl o oz (xyl _) (by simp[Ap];omega) fun v' Y' o'=>?_;refine ax ?_;exact xxq func127 rfl rfl fun _ H_=>K _ _ ⟨Y',by rw[ei,List.take_length,List.drop_length,xm0];exact o',xfg H_⟩
 have a6:i<xs.length:=om;refine ax ?_;refine ygn rfl ?_;refine cq (fun ce=>?_) (fun ce=>?_)
 ·have a8:c=xs.length:=om;subst a8;refine ax ?_;refine xpx o (m:=xs.length) hl d_ fun p1 a1 c1 g1 e1 b6 V=>?_;cases e1;refine xpx oz (m:=1) rfl d_ fun p2 a2 c2 g2 e2 a7 S2=>?_;cases e2;have V:=V.mono g2.le;have Si:Sl p2 a i 2 (wcs (xs.take i)):=by
   have z:=V.cut (lo:=0) (hi:=i) (Nat.zero_le _) om (a':=a) (fun _=>by rw[Nat.zero_mul];exact(V.ne om).trans (by rfl));rw[xm2];simpa using z
  have Sd:Sl p2 (Ft a xs.length i 2) (xs.length-i) 2 (wcs (xs.drop i)):=by
   have z:=V.cut (lo:=i) (hi:=xs.length) hi (Nat.le_refl _) (a':=Ft a xs.length i 2) (fun _=>by rw[V.ne om,xsc a6];rfl);rw[xn2];have e:((wcs xs).drop i).take (xs.length-i)=(wcs xs).drop i:=List.take_of_length_le (by simp[Ap]);rwa[e]at z
  refine xld rfl rfl (j:=i) om ?_;refine ax ?_;have e3:((xs.length:Nat):Int)+((1:Nat):Int)-((i:Nat):Int)=((xs.length+1-i:Nat):Int):=om;refine yjn (m:=xs.length+1-i) rfl (congrArg (fun z=>some ([],Value.J z)) e3) Si om om om fun v' Y' zs hz o'=>?_;have a3:(wcs (xs.take i)++zs).length=xs.length+1:=by rw[List.length_append,Ap,List.length_take,hz];omega
  obtain⟨b3,c3,rfl,b4,-⟩:∃b cap,v'=.slice (some ⟨b,0,none⟩) (xs.length+1) cap/\xs.length+1<=cap/\True:=by
   obtain⟨b,cap,e,hc,-⟩:=o'.at0 om d_;rw[a3]at e hc;exact⟨b,cap,e,hc,trivial⟩
  refine ax ?_;refine xts rfl rfl (j:=i) ⟨om,om⟩ ?_;refine ax ?_;refine xx9 (off:=i) (by rw[xsc om,xsx,Nat.zero_add];rfl) rfl o' S2 a3 om om om (xyl _) fun Y2 O=>?_;refine ax ?_;refine xqq [] R8 ?_;refine ex ?_;refine xwg (j:=i+1) rfl rfl rfl ⟨om,om⟩ ?_;refine ex ?_;refine xwg (j:=i) rfl rfl rfl ⟨hi,om⟩ ?_;refine ex ?_;refine ax ?_;have eA:(wcs (xs.take i)).length=i:=by rw[Ap,List.length_take];omega
  have eB:(wcs (xs.drop i)).length=xs.length-i:=by rw[Ap,List.length_drop]
  have H:=ylp (A:=wcs (xs.take i)) (B:=wcs (xs.drop i)) (zs:=zs) (x:=x.cells) om;rw[eA,eB]at H;have O:=O.as H.1;have a5:=H.2.1;rw[show i+(xs.length-i)+1=xs.length+1 by omega]at a5;refine xx9 (off:=i+1) (by by_cases z:i+1<c3;(rw[xsc z,xsx,Nat.zero_add];rfl);omega) rfl O Sd a5 om om om (xyl _) fun Y3 M=>?_;refine ax ?_;have M:=M.as (H.2.2.trans (show _=wcs (xs.take i++x::xs.drop i) by rw[xm0];rfl));exact xxq func127 rfl rfl fun _ H_=>K _ _ ⟨Y3,M,(xfg H_).forget (g1.le.trans g2.le)⟩
 obtain⟨b,rfl⟩:∃b,a=some ⟨b,0,none⟩:=by
  obtain⟨b,cap,e,-,-⟩:=o.at0 om d_;injection e with e1 _ _;exact⟨b,e1⟩
 obtain⟨u,o1⟩:=o.more om;refine ax ?_;refine xld rfl (congrArg (fun z=>some ([],Value.J z)) (show((xs.length:Nat):Int)+((1:Nat):Int)=((xs.length+1:Nat):Int) by omega)) (j:=xs.length+1) om ?_;refine ax ?_;refine xts rfl (congrArg (fun z=>some ([],Value.J z)) (show((i:Nat):Int)+((1:Nat):Int)=((i+1:Nat):Int) by omega)) (j:=i+1) ⟨om,om⟩ ?_;rw[xsc om,xsx,Nat.zero_add];refine ax ?_;obtain⟨cy,rfl,b0⟩:=o1.blk;obtain⟨cw,rfl,b7⟩:=oz.blk;refine yqm (tS:=26) (tR:=4) (eT:=94) (w:=2) (i:=1) (j:=0) func196 k_ rfl rfl rfl rfl om rfl om d_ ?_;refine ax ?_;rw[Bool.not_false];refine xlq rfl (fun _=>?_) (fun cd=>absurd trivial cd);refine ax ?_;refine xqq [] R8 ?_;refine ex ?_;refine xwg (j:=i+1) rfl rfl (congrArg (fun z=>some ([],Value.J z)) (show((i:Nat):Int)+((1:Nat):Int)=((i+1:Nat):Int) by omega)) ⟨om,om⟩ ?_;refine ex ?_;refine xwg (j:=i) rfl rfl rfl ⟨om,om⟩ ?_;refine ex ?_;refine ax ?_;rw[xsc om,xsx,Nat.zero_add,xsc om,xsx,Nat.zero_add];have a9:(wcs xs++[u]).length=xs.length+1:=by rw[List.length_append,hl];rfl
 have H:=ymp (W:=wcs xs) (u:=u) (x:=x.cells) hl a6;refine ydn (off:=i+1) (j:=i) (q:=xs.length-i) rfl rfl o1 a9 om (by show min _ _=_;omega) om om (fun z hz=>xyl xs z ?_) fun Y2 O=>?_
 ·rw[H.1]at hz;obtain⟨e,h2,h3⟩:=List.mem_flatten.1 hz;exact List.mem_flatten.2 ⟨e,List.mem_of_mem_drop h2,h3⟩
 rw[H.1]at O;refine ax ?_;refine xpx oz (m:=1) rfl d_ fun p2 a2 c2 g2 e2 a7 S2=>?_;cases e2;refine xts rfl rfl (j:=i) ⟨om,om⟩ ?_;refine ax ?_;refine xx9 (off:=i) (by rw[xsc om,xsx,Nat.zero_add];rfl) rfl O S2 H.2.1 om om om (xyl _) fun Y3 M=>?_;have M:=M.as (H.2.2.trans (show _=wcs (xs.take i++x::xs.drop i) by rw[xm0,<- xm2];show _=_++(x.cells::wcs (xs.drop i));rw[xn2]));refine ax ?_;exact xxq func127 rfl rfl fun _ H_=>K _ _ ⟨Y3,M,(xfg H_).forget g2.le⟩
open Go.X.Flow (Cc Wys wz ics Ao wcs)
open Go.X.Cist (Day Ba dcs dz Dm Aj)
theorem xvq(xs:List Int):(ics xs).length=xs.length:=by simp[ics]
theorem xvv(xs:List Rk):(rcs xs).length=xs.length:=by simp[rcs]
theorem c27{md:Md}{h:Heap}{p:Ab}(hp:Per p h)(A:TA){t:Twn}(T:TwP p A t)(hn:t.fit (2^20)):
 Aa prog md 27 #[twV A t] h fun v h'=>Ar p h (fun v p'=>∃A',v=twV A' t/\TwP p' A' t) v h':=by
 obtain⟨⟨n1,n2⟩,⟨n3,n4,n5⟩,n6⟩:=hn;refine xdq hp func27 fun _ _ _ K=>?_;refine xgq rfl fun b1=>?_;refine lq fun b2=>?_;refine ax ?_;refine xqq [3,7] [0,1,2,4,5,6,3,8,9,7] ?_;refine ex ?_;refine xuk rfl rfl rfl (fun _ H=>c51 H T.s.r n1) fun v1 Y1 o1=>?_;obtain⟨a1,c1,rfl,-⟩:=o1.val;rw[xvv]at o1⊢;refine ex ?_;refine xuk rfl rfl rfl (fun _ H=>c52 H T.s.f n2) fun v2 Y2 o2=>?_;obtain⟨a2,c2,rfl,-⟩:=o2.val;rw[xvq]at o2⊢;refine ex ?_;refine ax ?_;refine xqq [3,7,11] [0,1,2,4,5,6,8,9,10,3,12,13,7,11] ?_;refine ex ?_;refine xuk rfl rfl rfl (fun _ H=>c52 H T.b.h n3) fun v3 Y3 o3=>?_;obtain⟨a3,c3,rfl,-⟩:=o3.val;rw[xvq]at o3⊢;refine ex ?_;refine xuk rfl rfl rfl (fun _ H=>c52 H T.b.w n4) fun v4 Y4 o4=>?_;obtain⟨a4,c4,rfl,-⟩:=o4.val;rw[xvq]at o4⊢;refine ex ?_;refine xuk rfl rfl rfl (fun _ H=>c53 H T.b.y n5) fun v5 Y5 o5=>?_;obtain⟨a5,c5,rfl,-⟩:=o5.val;rw[Flow.Ap]at o5⊢;refine ex ?_;refine ax ?_;refine xdj rfl rfl (fun _ H=>c54 H _ _ _ T.d n6) fun v6 Y6 o6=>?_;obtain⟨a6,c6,rfl,-⟩:=o6.val;rw[Aj]at o6⊢;refine ax ?_;refine xoq o1 (m:=t.s.Ah.length) (xvv _) d_ fun p1 _ _ g1 e1 b4 S1=>?_;cases e1;refine xoq o2 (m:=t.s.Ag.length) (xvq _) d_ fun p2 _ _ g2 e2 a9 S2=>?_;cases e2;refine xoq o3 (m:=t.b.nH) (xvq _) d_ fun p3 _ _ g3 e3 b3 S3=>?_;cases e3;refine xoq o4 (m:=t.b.nW) (xvq _) d_ fun p4 _ _ V e4 a7 S4=>?_;cases e4;refine xoq o5 (m:=t.b.m) (Flow.Ap _) d_ fun p5 _ _ O e5 a8 S5=>?_;cases e5;refine xoq o6 (m:=t.y.days.length) (Aj _) d_ fun p6 _ _ M e6 b0 S6=>?_;cases e6
 exact K.e rfl (xtq rfl .nil) fun _ H_=>(xwq H_ (((((g1.trans g2).trans g3).trans V).trans O).trans M) ⟨⟨(a1,c1),(a2,c2),(a3,c3),(a4,c4),(a5,c5),(a6,c6)⟩,rfl,
  ⟨⟨Sl.mono ((((g2.trans g3).trans V).trans O).trans M).le S1,Sl.mono (((g3.trans V).trans O).trans M).le S2⟩,⟨Sl.mono ((V.trans O).trans M).le S3,Sl.mono (O.trans M).le S4,Sl.mono M.le S5⟩,S6,⟨b4,a9⟩,⟨b3,a7,a8⟩,b0⟩⟩)
open Go.X.Flow (Cc Wys wz ics Cg Ce Ao wcs)
section
variable{h:Heap}{md:Md}{a:Option Addr}{p:Ab}
def C0(o:Od)(t:Twn)(vs:List Int)(v:Value)(p':Ab)(ob:Obj):Prop:=match B7 o t vs with
 |none=>v=.bool false
 |some t'=>v=.bool true/\ ∃H:TA,ob=.cells (tcs H t').toArray 33 (0,0)/\TwP p' H t'
theorem Wh(hp:Per p h)(b:Nat)(A:TA)(t:Twn)(hb:h[b]?=some (.cells (tcs A t).toArray 33 (0,0)))(M:p b=none)(T:TwP p A t)(hn:t.fit (2^20))(n c:Nat)(vs:List Int)(V:As p a n vs)(hv:n=4):
 Aa prog md 114 #[w_ b 0,.slice a n c] h (Cz p h b (C0 .Kc t vs)):=by
 obtain⟨⟨n1,n2⟩,⟨n3,n4,n5⟩,n6⟩:=hn;obtain⟨⟨k1,k2⟩,⟨k3,k4,k5⟩,k6⟩:=T.c;refine xmz hp hb M func114 fun _ _ _ K=>?_;refine ax ?_;refine xqq [19] R20 ?_;refine ex ?_;refine xuk rfl rfl rfl (fun _ pe=>Vv pe T.s.r k1 n1 ⟨vs.getD 0 0,vs.getD 1 0,vs.getD 2 0,vs.getD 3 0⟩) fun v1 Y1 H=>?_;obtain⟨a1,c1,rfl,-⟩:=H.val;rw[xvv]at H⊢;refine ex ?_;refine ax ?_;refine xoq H (m:=(t.s.Ah++[_]).length) (xvv _) d_ fun p1 _ _ g1 e1 O S1=>?_;cases e1;have T:=T.mono g1.le;exact xxq func114 rfl rfl fun _ H_=>K _ _ (xlj H_ g1 ⟨rfl,⟨(a1,c1),A.f,A.h,A.w,A.y,A.d⟩,rfl,⟨⟨S1,T.s.f⟩,T.b,T.d,⟨O,k2⟩,T.c.2⟩⟩)
theorem Tz(hp:Per p h)(b:Nat)(A:TA)(t:Twn)(hb:h[b]?=some (.cells (tcs A t).toArray 33 (0,0)))(M:p b=none)(T:TwP p A t)(hn:t.fit (2^20))(n c:Nat)(vs:List Int)(V:As p a n vs)(hv:n=1):
 Aa prog md 116 #[w_ b 0,.slice a n c] h (Cz p h b (C0 .E7 t vs)):=by
 obtain⟨⟨n1,n2⟩,⟨n3,n4,n5⟩,n6⟩:=hn;obtain⟨⟨k1,k2⟩,⟨k3,k4,k5⟩,k6⟩:=T.c;refine xmz hp hb M func116 fun _ _ _ K=>?_;refine ax ?_;refine xqq [9] R10 ?_;refine ex ?_;refine xuk rfl rfl rfl (fun _ pe=>P5 pe T.s.f k2 n2 (vs.getD 0 0)) fun v1 Y1 H=>?_;obtain⟨a1,c1,rfl,-⟩:=H.val;rw[xvq]at H⊢;refine ex ?_;refine ax ?_;refine xoq H (m:=(t.s.Ag++[_]).length) (xvq _) d_ fun p1 _ _ g1 e1 O S1=>?_;cases e1;have T:=T.mono g1.le;exact xxq func116 rfl rfl fun _ H_=>K _ _ (xlj H_ g1 ⟨rfl,⟨A.r,(a1,c1),A.h,A.w,A.y,A.d⟩,rfl,⟨⟨T.s.r,S1⟩,T.b,T.d,⟨k1,O⟩,T.c.2⟩⟩)
theorem Ta(hp:Per p h)(b:Nat)(A:TA)(t:Twn)(hb:h[b]?=some (.cells (tcs A t).toArray 33 (0,0)))(M:p b=none)(T:TwP p A t)(hn:t.fit (2^20))(n c:Nat)(vs:List Int)(V:As p a n vs)(hv:n=1):
 Aa prog md 119 #[w_ b 0,.slice a n c] h (Cz p h b (C0 .D9 t vs)):=by
 obtain⟨⟨n1,n2⟩,⟨n3,n4,n5⟩,n6⟩:=hn;obtain⟨⟨k1,k2⟩,⟨k3,k4,k5⟩,k6⟩:=T.c;refine xmz hp hb M func119 fun _ _ _ K=>?_;refine ax ?_;refine xqq [9] R10 ?_;refine ex ?_;refine xuk rfl rfl rfl (fun _ pe=>P5 pe T.b.h k3 n3 (vs.getD 0 0)) fun v1 Y1 H=>?_;obtain⟨a1,c1,rfl,-⟩:=H.val;rw[xvq]at H⊢;refine ex ?_;refine ax ?_;refine xoq H (m:=(t.b.hs++[_]).length) (xvq _) d_ fun p1 _ _ g1 e1 O S1=>?_;cases e1;have T:=T.mono g1.le;exact xxq func119 rfl rfl fun _ H_=>K _ _ (xlj H_ g1 ⟨rfl,⟨A.r,A.f,(a1,c1),A.w,A.y,A.d⟩,rfl,⟨T.s,⟨S1,T.b.w,T.b.y⟩,T.d,T.c.1,⟨O,k4,k5⟩,k6⟩⟩)
theorem V2(hp:Per p h)(b:Nat)(A:TA)(t:Twn)(hb:h[b]?=some (.cells (tcs A t).toArray 33 (0,0)))(M:p b=none)(T:TwP p A t)(hn:t.fit (2^20))(n c:Nat)(vs:List Int)(V:As p a n vs)(hv:n=1):
 Aa prog md 120 #[w_ b 0,.slice a n c] h (Cz p h b (C0 .Hx t vs)):=by
 obtain⟨⟨n1,n2⟩,⟨n3,n4,n5⟩,n6⟩:=hn;obtain⟨⟨k1,k2⟩,⟨k3,k4,k5⟩,k6⟩:=T.c;refine xmz hp hb M func120 fun _ _ _ K=>?_;refine ax ?_;refine xqq [9] R10 ?_;refine ex ?_;refine xuk rfl rfl rfl (fun _ pe=>P5 pe T.b.w k4 n4 (vs.getD 0 0)) fun v1 Y1 H=>?_;obtain⟨a1,c1,rfl,-⟩:=H.val;rw[xvq]at H⊢;refine ex ?_;refine ax ?_;refine xoq H (m:=(t.b.ws++[_]).length) (xvq _) d_ fun p1 _ _ g1 e1 O S1=>?_;cases e1;have T:=T.mono g1.le;exact xxq func120 rfl rfl fun _ H_=>K _ _ (xlj H_ g1 ⟨rfl,⟨A.r,A.f,A.h,(a1,c1),A.y,A.d⟩,rfl,⟨T.s,⟨T.b.h,S1,T.b.y⟩,T.d,T.c.1,⟨k3,O,k5⟩,k6⟩⟩)
theorem Wf(hp:Per p h)(b:Nat)(A:TA)(t:Twn)(hb:h[b]?=some (.cells (tcs A t).toArray 33 (0,0)))(M:p b=none)(T:TwP p A t)(hn:t.fit (2^20))(n c:Nat)(vs:List Int)(V:As p a n vs)(hv:n=3):
 Aa prog md 128 #[w_ b 0,.slice a n c] h (Cz p h b (C0 .day t vs)):=by
 obtain⟨⟨n1,n2⟩,⟨n3,n4,n5⟩,n6⟩:=hn;obtain⟨⟨k1,k2⟩,⟨k3,k4,k5⟩,k6⟩:=T.c;refine xmz hp hb M func128 fun _ _ _ K=>?_;refine ax ?_;refine xqq [17] R18 ?_;refine ex ?_;refine xuk rfl rfl rfl (fun _ pe=>Ux pe T.d k6 n6 ⟨vs.getD 0 0,vs.getD 1 0,vs.getD 2 0⟩) fun v1 Y1 H=>?_;obtain⟨a1,c1,rfl,-⟩:=H.val;rw[Aj]at H⊢;refine ex ?_;refine ax ?_;refine xoq H (m:=(t.y.days++[_]).length) (Aj _) d_ fun p1 _ _ g1 e1 O S1=>?_;cases e1;have T:=T.mono g1.le;exact xxq func128 rfl rfl fun _ H_=>K _ _ (xlj H_ g1 ⟨rfl,⟨A.r,A.f,A.h,A.w,A.y,(a1,c1)⟩,rfl,⟨T.s,T.b,S1,T.c.1,T.c.2.1,O⟩⟩)
theorem U9(hp:Per p h)(b:Nat)(A:TA)(t:Twn)(O:h[b]?=some (.cells (tcs A t).toArray 33 (0,0)))(H:p b=none)(T:TwP p A t)(hn:t.fit (2^20))(n c:Nat)(vs:List Int)(V:As p a n vs)(hv:n=1):
 Aa prog md 130 #[w_ b 0,.slice a n c] h (Cz p h b (C0 .size t vs)):=by
 obtain⟨⟨n1,n2⟩,⟨n3,n4,n5⟩,n6⟩:=hn;obtain⟨⟨k1,k2⟩,⟨k3,k4,k5⟩,k6⟩:=T.c;refine xmz hp O H func130 fun _ _ _ K=>?_;refine ax ?_;exact xxq func130 rfl rfl fun _ M=>K _ _ (xlj M (.refl _ _ _) ⟨rfl,A,rfl,T.s,T.b,T.d,T.c⟩)
theorem Uv(hp:Per p h)(b:Nat)(A:TA)(t:Twn)(hb:h[b]?=some (.cells (tcs A t).toArray 33 (0,0)))(M:p b=none)(T:TwP p A t)(hn:t.fit (2^20))(n c:Nat)(vs:List Int):
 Aa prog md 118 #[w_ b 0,.slice a n c] h (Cz p h b (C0 .up t vs)):=by
 obtain⟨⟨n1,n2⟩,⟨n3,n4,n5⟩,n6⟩:=hn;obtain⟨⟨k1,k2⟩,⟨k3,k4,k5⟩,k6⟩:=T.c;refine xmz hp hb M func118 fun _ _ _ K=>?_;refine cq (fun cc=>?_) (fun cc=>?_)
 ·have e:B7 .up t vs=none:=by unfold B7;rw[if_pos om]
  refine ax ?_;exact xxq func118 rfl rfl fun _ H=>K _ _ (xlj H (.refl _ _ _) (by unfold C0;rw[e];rfl))
 have e:B7 .up t vs=some {t with s:={t.s with Ag:=t.s.Ag.take (t.s.Ag.length-1)}}:=by unfold B7;rw[if_neg om]
 have O:((t.s.Ag.length:Nat):Int)-1=((t.s.Ag.length-1:Nat):Int):=om;have V:(t.s.Ag.take (t.s.Ag.length-1)).length=t.s.Ag.length-1:=by rw[List.length_take];omega
 refine ax ?_;refine ywf (j:=t.s.Ag.length-1) rfl (congrArg (fun z=>some ([],Value.J z)) O) (congrArg (fun z=>some ([],Value.J z)) O) om ?_;refine ax ?_;exact xxq func118 rfl rfl fun _ H=>K _ _ (xlj H (.refl _ _ _) (by
  unfold C0;rw[e];refine⟨rfl,⟨A.r,(A.f.1,t.s.Ag.length-1),A.h,A.w,A.y,A.d⟩,?_,⟨T.s.r,?_⟩,T.b,T.d,⟨k1,?_⟩,T.c.2⟩
  ·simp only[tcs];rw[V];rfl
  ·have S:Sl p A.f.1 (t.s.Ag.take (t.s.Ag.length-1)).length 1 (ics (t.s.Ag.take (t.s.Ag.length-1))):=by
    have z:=Sl.cut (lo:=0) (hi:=t.s.Ag.length-1) (a':=A.f.1) T.s.f (Nat.zero_le _) om fun _=>by rw[Nat.zero_mul];exact(T.s.f.ne om).trans rfl
    rw[V];simpa[ics,List.map_take]using z
   exact S
  ·show(t.s.Ag.take (t.s.Ag.length-1)).length<=t.s.Ag.length-1;omega))
theorem Vj(hp:Per p h)(b:Nat)(A:TA)(t:Twn)(hb:h[b]?=some (.cells (tcs A t).toArray 33 (0,0)))(a2:p b=none)(T:TwP p A t)(hn:t.fit (2^20))(i x:Int):
 Aa prog md 122 #[w_ b 5,.J i,.J x] h (Cz p h b (C0 .want t [i,x])):=by
 obtain⟨⟨n1,n2⟩,⟨n3,n4,n5⟩,n6⟩:=hn;obtain⟨⟨k1,k2⟩,⟨k3,k4,k5⟩,k6⟩:=T.c;have O:t.b.hs.length=t.b.nH:=rfl;refine xmz hp hb a2 func122 fun _ _ _ K=>?_;refine cq (fun cc=>?_) (fun cc=>?_)
 ·have e:B7 .want t [i,x]=none:=by
   show(Kn t.b.hs i x).map _=none;rw[Kn,if_neg om];rfl
  refine ax ?_;exact xxq func122 rfl rfl fun _ M=>K _ _ (xlj M (.refl _ _ _) (by unfold C0;rw[e];rfl))
 have hi:0<=i/\i<(t.b.hs.length:Int):=om;have e:B7 .want t [i,x]=some {t with b:={t.b with hs:=t.b.hs.set i.toNat x}}:=by
  show(Kn t.b.hs i x).map _=_;rw[Kn,if_pos hi];rfl
 refine ax ?_;refine xdj rfl rfl (fun _ pe=>c52 pe T.b.h n3) fun v1 Y1 H=>?_;obtain⟨a1,c1,rfl,-⟩:=H.val;rw[xvq,O]at H⊢;refine ax ?_;refine xcv rfl rfl H hi.1 (by rw[xvq];omega) ?_;refine xek (j:=0) rfl rfl H xrx rfl rfl rfl (Cg om) (Nat.le_refl _) fun Y2 V=>?_;have V:=V.as (show _=ics (t.b.hs.set i.toNat x) from Ce);refine ax ?_;refine xoq V (m:=t.b.nH) (by rw[xvq,List.length_set];exact O) d_ fun p1 _ _ g1 e1 a3 S1=>?_;cases e1;have T:=T.mono g1.le;exact xxq func122 rfl rfl fun _ M=>K _ _ (xlj M g1 (by
  unfold C0;rw[e];have e2:(t.b.hs.set i.toNat x).length=t.b.nH:=by rw[List.length_set];exact O
  refine⟨rfl,⟨A.r,A.f,(a1,c1),A.w,A.y,A.d⟩,?_,T.s,⟨?_,T.b.w,T.b.y⟩,T.d,T.c.1,⟨?_,k4,k5⟩,k6⟩
  ·simp only[tcs,Flow.Tn.nH];rw[List.length_set];rfl
  ·show As p1 a1 (t.b.hs.set i.toNat x).length _;rw[e2];exact S1
  ·show(t.b.hs.set i.toNat x).length<=c1;omega))
theorem Uo(hp:Per p h)(b:Nat)(A:TA)(t:Twn)(M:h[b]?=some (.cells (tcs A t).toArray 33 (0,0)))(H:p b=none)(T:TwP p A t)(hn:t.fit (2^20))(n c:Nat)(vs:List Int)(V:As p a n vs)(hv:n=2):
 Aa prog md 121 #[w_ b 0,.slice a n c] h (Cz p h b (C0 .want t vs)):=by
 refine xmz hp M H func121 fun _ _ _ K=>?_;refine ax ?_;refine xqq [] R10 ?_;refine ex ?_;refine ax ?_;refine xws rfl rfl (fun h_ pe M H=>Vj pe b A t M H T hn (vs.getD 0 0) (vs.getD 1 0)) fun v p' o' g q=>?_;refine ax ?_;exact xxq func121 rfl rfl fun h_ O=>K _ _ (xlj O g q)
theorem d122(hp:Per p h)(b:Nat)(A:TA)(t:Twn)(hb:h[b]?=some (.cells (tcs A t).toArray 33 (0,0)))(a2:p b=none)(T:TwP p A t)(hn:t.fit (2^20))(i x:Int):
 Aa prog md 122 #[w_ b 6,.J i,.J x] h (Cz p h b (C0 .has t [i,x])):=by
 obtain⟨⟨n1,n2⟩,⟨n3,n4,n5⟩,n6⟩:=hn;obtain⟨⟨k1,k2⟩,⟨k3,k4,k5⟩,k6⟩:=T.c;have O:t.b.ws.length=t.b.nW:=rfl;refine xmz hp hb a2 func122 fun _ _ _ K=>?_;refine cq (fun cc=>?_) (fun cc=>?_)
 ·have e:B7 .has t [i,x]=none:=by
   show(Kn t.b.ws i x).map _=none;rw[Kn,if_neg om];rfl
  refine ax ?_;exact xxq func122 rfl rfl fun _ M=>K _ _ (xlj M (.refl _ _ _) (by unfold C0;rw[e];rfl))
 have hi:0<=i/\i<(t.b.ws.length:Int):=om;have e:B7 .has t [i,x]=some {t with b:={t.b with ws:=t.b.ws.set i.toNat x}}:=by
  show(Kn t.b.ws i x).map _=_;rw[Kn,if_pos hi];rfl
 refine ax ?_;refine xdj rfl rfl (fun _ pe=>c52 pe T.b.w n4) fun v1 Y1 H=>?_;obtain⟨a1,c1,rfl,-⟩:=H.val;rw[xvq,O]at H⊢;refine ax ?_;refine xcv rfl rfl H hi.1 (by rw[xvq];omega) ?_;refine xek (j:=0) rfl rfl H xrx rfl rfl rfl (Cg om) (Nat.le_refl _) fun Y2 V=>?_;have V:=V.as (show _=ics (t.b.ws.set i.toNat x) from Ce);refine ax ?_;refine xoq V (m:=t.b.nW) (by rw[xvq,List.length_set];exact O) d_ fun p1 _ _ g1 e1 a3 S1=>?_;cases e1;have T:=T.mono g1.le;exact xxq func122 rfl rfl fun _ M=>K _ _ (xlj M g1 (by
  unfold C0;rw[e];have e2:(t.b.ws.set i.toNat x).length=t.b.nW:=by rw[List.length_set];exact O
  refine⟨rfl,⟨A.r,A.f,A.h,(a1,c1),A.y,A.d⟩,?_,T.s,⟨T.b.h,?_,T.b.y⟩,T.d,T.c.1,⟨k3,?_,k5⟩,k6⟩
  ·simp only[tcs,Flow.Tn.nW];rw[List.length_set];rfl
  ·show As p1 a1 (t.b.ws.set i.toNat x).length _;rw[e2];exact S1
  ·show(t.b.ws.set i.toNat x).length<=c1;omega))
theorem T0(hp:Per p h)(b:Nat)(A:TA)(t:Twn)(M:h[b]?=some (.cells (tcs A t).toArray 33 (0,0)))(H:p b=none)(T:TwP p A t)(hn:t.fit (2^20))(n c:Nat)(vs:List Int)(V:As p a n vs)(hv:n=2):
 Aa prog md 123 #[w_ b 0,.slice a n c] h (Cz p h b (C0 .has t vs)):=by
 refine xmz hp M H func123 fun _ _ _ K=>?_;refine ax ?_;refine xqq [] R10 ?_;refine ex ?_;refine ax ?_;refine xws rfl rfl (fun h_ pe M H=>d122 pe b A t M H T hn (vs.getD 0 0) (vs.getD 1 0)) fun v p' o' g q=>?_;refine ax ?_;exact xxq func123 rfl rfl fun h_ O=>K _ _ (xlj O g q)
theorem Ue(M:Per p h)(b:Nat){z:Nat×Nat}(w x:Cc)(V:p b=some (.cells #[.J w.1,.J w.2] 94 z)):
 Aa prog md 126 #[.agg #[.J x.1,.J x.2],w_ b 0] h fun v O=>v=.bool (Mg w x)/\Af h O:=by
 refine xdq M func126 fun _ _ _ K=>?_;refine xgq rfl fun b1=>?_;refine ax ?_;exact K.r rfl rfl fun _ H=>⟨by
  refine congrArg Value.bool ?_;unfold Mg;rw[Bool.eq_iff_iff];simp;omega,H.kept⟩
end
open Go.X.Flow (C2 Cc Wys wz ics Cg Ce Ao wcs)
theorem yxx{α:Type}{q:α->Bool}:∀{ds:List α},C2 q ds<(ds.length:Int)
 |[]=>by show(-1:Int)<((0:Nat):Int);decide
 |d::ds=>by
   have:=yxx (q:=q) (ds:=ds);rw[C2,List.length_cons];split
   ·omega
   ·split<;>omega
theorem Ru{md:Md}{h:Heap}{p:Ab}(hp:Per p h)(b:Nat)(A:TA)(t:Twn)(hb:h[b]?=some (.cells (tcs A t).toArray 33 (0,0)))(a7:p b=none)(T:TwP p A t)(hn:t.fit (2^20)){a:Option Addr}(n c:Nat)(vs:List Int)(V:As p a n vs)(hv:n=2):
 Aa prog md 124 #[w_ b 0,.slice a n c] h (Cz p h b (C0 .way t vs)):=by
 obtain⟨⟨n1,n2⟩,⟨n3,n4,n5⟩,n6⟩:=hn;obtain⟨⟨k1,k2⟩,⟨k3,k4,k5⟩,k6⟩:=T.c;have a8:t.b.wy.length=t.b.m:=rfl;refine xmz hp hb a7 func124 fun zq cs Stop K=>?_;refine ax ?_;refine xqq [7] R8 ?_;refine ex ?_;refine xdh rfl fun b5=>?_;refine ex ?_;refine ax ?_;obtain⟨w1,a5⟩:∃w,w=vs.getD 0 0:=⟨_,rfl⟩
 obtain⟨w2,a3⟩:∃w,w=vs.getD 1 0:=⟨_,rfl⟩
 rw[show vs.getD (Int.toNat 0) 0=w1 from a5.symm,show vs.getD (Int.toNat 1) 0=w2 from a3.symm];refine xx0 (b:=b5) fun p1 g1 a2=>?_;have a2:p1 b5=some (.cells #[.J w1,.J w2] 94 (0,0)):=a2;have T:=T.mono g1.le;refine xiq rfl rfl (fun _ pe=>Q6 pe _ t.b.wy T.b.y om (Mg (w1,w2)) (fun h_ pe i hi=>xkq (first:=[]) (cap:=[w_ b5 0]) k_ (Ue pe b5 (w1,w2) (t.b.wy.getD i wz) a2))) ?_;refine ax ?_;have O:(Kj t.b.wy (w1,w2):Int)=if C2 (Mg (w1,w2)) t.b.wy<0 then(t.b.m:Int)else C2 (Mg (w1,w2)) t.b.wy:=by
  unfold Kj;split
  ·rfl
  ·omega
 refine xiz (fun l' p_ L_=>l'=[(0,none,w_ b 0),(5,none,w_ b5 0),(6,none,.J (Kj t.b.wy (w1,w2):Nat))]/\p_=p1/\L_=[[(b,.cells (tcs A t).toArray 33 (0,0))]]) ?_ fun k' H=>?_
 ·rintro _ p1 _ ⟨rfl,rfl,rfl⟩;refine ax ?_;generalize hW:Kj t.b.wy (w1,w2)=W;have a6:W<=t.b.wy.length:=by
   rw[<- hW];unfold Kj;split
   ·exact Nat.le_refl _
   ·rename_i z;have:=yxx (q:=Mg (w1,w2)) (ds:=t.b.wy);omega
  refine xpg 11 [10] [0,1,2,3,4,5,7,8] [6,9,10] (fun i=>match i with|10=>[6,9]|_=>[]) (fun i=>match i with|2=>[1]|3=>[2]|4=>[3]|5=>[4]|6=>[5]|9=>[8]|10=>[6,7,9]|_=>[])
   (fun i _ _ v x=>match i with
    |0=>v=w_ b 0/\x=[]
    |1=>v=w_ b 0/\x=[]
    |2=>v=w_ b 0/\x=[]
    |3=>v=w_ b 5/\x=[]
    |4=>v=w_ b 7/\x=[]
    |5=>v=.slice A.y.1 t.b.m A.y.2/\x=[]
    |6=>Ac 94 2 v (wcs t.b.wy) x
    |7=>v=.J ((W:Nat):Int)/\x=[]
    |8=>v=.agg #[.J w1,.J w2]/\x=[]
    |9=>Ac 94 2 v (wcs [(w1,w2)]) x
    |10=>Ac 94 2 v (wcs (t.b.wy.take W++(w1,w2)::t.b.wy.drop W)) x
    |_=>True) (fun i hi val piece M=>?_) (fun val piece j hj v x q=>?_) (fun val piece M=>?_)
  ·match i,hi with
   |0,_=>
     refine ex ?_;exact xzq ⟨⟨_,rfl⟩,fun v e=>⟨xpq e,rfl⟩⟩
   |1,_=>
     refine ex ?_;exact xzq ⟨⟨_,rfl⟩,fun v e=>⟨xpq e,rfl⟩⟩
   |2,_=>
     refine yol rfl rfl (by show some ([],val 1)=_;rw[(M 1 rfl).1]) sdt ?_;exact xzq ⟨⟨_,rfl⟩,fun v e=>⟨xpq e,rfl⟩⟩
   |3,_=>
     refine ymj rfl rfl (by show some ([],val 2)=_;rw[(M 2 rfl).1]) sdt ?_;exact xzq ⟨⟨_,rfl⟩,fun v e=>⟨xpq e,rfl⟩⟩
   |4,_=>
     refine ymj rfl rfl (by show some ([],val 3)=_;rw[(M 3 rfl).1]) sdt ?_;exact xzq ⟨⟨_,rfl⟩,fun v e=>⟨xpq e,rfl⟩⟩
   |5,_=>
     refine xnf (b:=b) (off:=7) (cs:=(tcs A t).toArray) (T:=33) (z:=(0,0)) rfl rfl (by show some ([],val 4)=_;rw[(M 4 rfl).1]) sdt ?_;exact xzq ⟨⟨_,rfl⟩,fun v e=>⟨xpq e,rfl⟩⟩
   |6,_=>
     refine xuk (vs:=[.slice A.y.1 t.b.m A.y.2]) rfl rfl (by show some ([],[val 5])=_;rw[(M 5 rfl).1]) (fun _ pe=>c53 pe T.b.y n5) fun v Y o=>?_;exact xzq ⟨⟨_,rfl⟩,fun v' e=>by
      have e':=xpq e;subst e';show Ac _ _ _ _ ([Y]++[]).flatten;simpa using o⟩
   |7,_=>
     refine ex ?_;exact xzq ⟨⟨_,rfl⟩,fun v e=>⟨xpq e,rfl⟩⟩
   |8,_=>
     refine ex ?_;exact xzq ⟨⟨_,rfl⟩,fun v e=>⟨xpq e,rfl⟩⟩
   |9,_=>
     refine xvk rfl (by show some [(0,val 8)]=_;rw[(M 8 rfl).1]) fun v Y o=>?_;have o:Ac 94 2 v (wcs [(w1,w2)]) Y:=o;exact xzq ⟨⟨_,rfl⟩,fun v' e=>by
      have e':=xpq e;subst e';show Ac _ _ _ _ ([Y]++[]).flatten;simpa using o⟩
   |10,_=>
     have o1:Ac 94 2 (val 6) (wcs t.b.wy) (piece 6):=M 6 rfl;have o2:Ac 94 2 (val 9) (wcs [(w1,w2)]) (piece 9):=M 9 rfl;show DE _ _ _ _ _ _ _ _ _ [piece 6,piece 9]
     refine yjr (piece 6) (piece 9) (vs:=[val 6,.J ((W:Nat):Int),val 9]) (first:=[]) (cap:=[]) (ff:=127) rfl rfl (by show some ([],[val 6,val 7,val 9])=_;rw[(M 7 rfl).1])
      (fun h C s=>Rj C t.b.wy (w1,w2) W a6 om o1 o2 s) fun v Y o=>?_
     exact xzq ⟨⟨_,rfl⟩,fun v' e=>by
      have e':=xpq e;subst e';show Ac _ _ _ _ ([Y]++[]).flatten;simpa using o⟩
  ·simp only[List.mem_cons,List.not_mem_nil,or_false]at hj;rcases hj with rfl|rfl|rfl|rfl|rfl|rfl|rfl|rfl<;>exact q.2
  have o1:Ac 94 2 (val 10) (wcs (t.b.wy.take W++(w1,w2)::t.b.wy.drop W)) (piece 10):=M 10 d_;refine xgb (l':=[(29,none,w_ b 0),(39,none,val 10)]) ?_ ⟨by show some (none,val 0)=_;rw[(M 0 d_).1],rfl,trivial⟩;show RO _ _ _ _ _ _ [piece 10,[(b,.cells (tcs A t).toArray 33 (0,0))]];clear M;generalize val 10=v1 at*;generalize piece 10=Y1 at*;obtain⟨a1,c1,rfl,-⟩:=o1.val;have a4:(wcs (t.b.wy.take W++(w1,w2)::t.b.wy.drop W)).length=t.b.m+1:=by
   rw[Flow.Ap];simp;omega
  rw[a4]at o1⊢;refine ax ?_;refine xoq o1 (m:=t.b.m+1) a4 d_ fun p2 _ _ g2 e1 a9 S1=>?_;cases e1;have T:=T.mono g2.le;have eT:B7 .way t vs=some {t with b:={t.b with wy:=t.b.wy.take W++(w1,w2)::t.b.wy.drop W}}:=by
   rw[<- hW,a5,a3];rfl
  exact xxq func124 rfl rfl fun h_ H_=>K _ _ (xlj H_ (g1.trans g2) (by
   unfold C0;rw[eT];have e2:(t.b.wy.take W++(w1,w2)::t.b.wy.drop W).length=t.b.m+1:=by simp;omega
   refine⟨rfl,⟨A.r,A.f,A.h,A.w,(a1,c1),A.d⟩,?_,T.s,⟨T.b.h,T.b.w,?_⟩,T.d,T.c.1,⟨k3,k4,?_⟩,k6⟩
   ·simp only[tcs,Flow.Tn.m];rw[e2];rfl
   ·show Wys p2 a1 (t.b.wy.take W++(w1,w2)::t.b.wy.drop W).length _;rw[e2];exact S1
   ·show(t.b.wy.take W++(w1,w2)::t.b.wy.drop W).length<=c1;omega))
 refine xlq rfl (fun cc=>?_) (fun cc=>?_)
 ·rw[if_pos cc]at O;rw[O]at H;refine ax ?_;exact xhq (H _ _ _ ⟨rfl,rfl,rfl⟩)
 ·rw[if_neg cc]at O;rw[O]at H;refine ax ?_;exact xhq (H _ _ _ ⟨rfl,rfl,rfl⟩)
def N6:Option Od->Value
 |none=>.nilFunc
 |some .Kc=>.func (.func 114) #[] #[]
 |some .E7=>.func (.func 116) #[] #[]
 |some .up=>.func (.func 118) #[] #[]
 |some .D9=>.func (.func 119) #[] #[]
 |some .Hx=>.func (.func 120) #[] #[]
 |some .want=>.func (.func 121) #[] #[]
 |some .has=>.func (.func 123) #[] #[]
 |some .way=>.func (.func 124) #[] #[]
 |some .day=>.func (.func 128) #[] #[]
 |some .size=>.func (.func 130) #[] #[]
theorem c45{md:Md}{h:Heap}{p:Ab}(hp:Per p h)(w:Str)(hw:w.length<=900)(n:Nat)(hn:n<=900){tT:TypeId}{zT:Nat×Nat}(Z:p 5=some (.cells (Lib.pow10Tab.map (Value.int .u64)).toArray tT zT)):
 Aa prog md 45 #[sv w,.J ((n:Nat):Int)] h fun v O=>v=N6 (od (w++txt n))/\Af h O:=by
 have hl:=xh8 (n:=n) om;refine xdq hp func45 fun _ _ _ K=>?_;refine xiq rfl rfl (fun _ pe=>c82 pe _ om Z) ?_;refine ax ?_;refine xmd rfl rfl om ?_;refine ax ?_;generalize w++txt (n:Int)=s at*;refine xlq rfl (fun M=>?_) (fun c1=>?_)
 ·refine ax ?_;exact K.r rfl rfl fun _ H=>⟨by rw[M];rfl,H.kept⟩
 refine cq (fun M=>?_) (fun V=>?_)
 ·refine ax ?_;exact K.r rfl rfl fun _ H=>⟨by rw[M];rfl,H.kept⟩
 refine cq (fun M=>?_) (fun c3=>?_)
 ·refine ax ?_;exact K.r rfl rfl fun _ H=>⟨by rw[M];rfl,H.kept⟩
 refine cq (fun M=>?_) (fun c4=>?_)
 ·refine ax ?_;exact K.r rfl rfl fun _ H=>⟨by rw[M];rfl,H.kept⟩
 refine cq (fun M=>?_) (fun c5=>?_)
 ·refine ax ?_;exact K.r rfl rfl fun _ H=>⟨by rw[M];rfl,H.kept⟩
 refine cq (fun M=>?_) (fun c6=>?_)
 ·refine ax ?_;exact K.r rfl rfl fun _ H=>⟨by rw[M];rfl,H.kept⟩
 refine cq (fun M=>?_) (fun c7=>?_)
 ·refine ax ?_;exact K.r rfl rfl fun _ H=>⟨by rw[M];rfl,H.kept⟩
 refine cq (fun M=>?_) (fun c8=>?_)
 ·refine ax ?_;exact K.r rfl rfl fun _ H=>⟨by rw[M];rfl,H.kept⟩
 refine cq (fun M=>?_) (fun c9=>?_)
 ·refine ax ?_;exact K.r rfl rfl fun _ H=>⟨by rw[M];rfl,H.kept⟩
 refine cq (fun M=>?_) (fun c10=>?_)
 ·refine ax ?_;exact K.r rfl rfl fun _ H=>⟨by rw[M];rfl,H.kept⟩
 refine ax ?_;exact K.r rfl rfl fun _ H=>⟨by
  unfold od;rw[if_neg c1,if_neg V,if_neg c3,if_neg c4,if_neg c5,if_neg c6,if_neg c7,if_neg c8,if_neg c9,if_neg c10];rfl,H.kept⟩
theorem ydp{md:Md}(o:Od){h:Heap}{p:Ab}(M:Per p h)(b:Nat)(A:TA)(t:Twn)(O:h[b]?=some (.cells (tcs A t).toArray 33 (0,0)))(H:p b=none)(T:TwP p A t)(hn:t.fit (2^20)){a:Option Addr}{n:Nat}(c:Nat)(vs:List Int)(V:As p a n vs)(hv:n=o.ar):
 Az prog md (N6 (some o)) [w_ b 0,.slice a n c] h (Cz p h b (C0 o t vs)):=by
 cases o
 ·exact xkq (first:=[]) (cap:=[]) k_ (Wh M b A t O H T hn n c vs V hv)
 ·exact xkq (first:=[]) (cap:=[]) k_ (Tz M b A t O H T hn n c vs V hv)
 ·exact xkq (first:=[]) (cap:=[]) k_ (Uv M b A t O H T hn n c vs)
 ·exact xkq (first:=[]) (cap:=[]) k_ (Ta M b A t O H T hn n c vs V hv)
 ·exact xkq (first:=[]) (cap:=[]) k_ (V2 M b A t O H T hn n c vs V hv)
 ·exact xkq (first:=[]) (cap:=[]) k_ (Uo M b A t O H T hn n c vs V hv)
 ·exact xkq (first:=[]) (cap:=[]) k_ (T0 M b A t O H T hn n c vs V hv)
 ·exact xkq (first:=[]) (cap:=[]) k_ (Ru M b A t O H T hn n c vs V hv)
 ·exact xkq (first:=[]) (cap:=[]) k_ (Wf M b A t O H T hn n c vs V hv)
 ·exact xkq (first:=[]) (cap:=[]) k_ (U9 M b A t O H T hn n c vs V hv)
open Go.X.Flow (ics LKc F8 Dz)
section
variable{h:Heap}{a:Option Addr}{p:Ab}
structure GlP(p:Ab):Prop where
 sn:∃tN z,p 1=some (.cells #[.J (-1),.J 0,.J 0] tN z)
 bn:∃tN z,p 0=some (.cells #[.J (-1),.J (-1),.J 0] tN z)
 db:∃tT zT,p 7=some (.cells (Dz.map fun n=>Value.int .u8 ((n:Nat):Int)).toArray tT zT)
 pw:∃tT zT,p 5=some (.cells (Lib.pow10Tab.map (Value.int .u64)).toArray tT zT)
 es:∃te ue tE zE,p 8=some (.cells #[.iface te ue] tE zE)
 er:∃te ue tE zE,p 9=some (.cells #[.iface te ue] tE zE)
theorem GlP.mono{p':Ab}(g:GlP p)(H:PLe p p'):GlP p':=
 ⟨g.sn.imp fun _ x=>x.imp fun _ x=>H _ _ x,g.bn.imp fun _ x=>x.imp fun _ x=>H _ _ x,g.db.imp fun _ x=>x.imp fun _ x=>H _ _ x,g.pw.imp fun _ x=>x.imp fun _ x=>H _ _ x,
  g.es.imp fun _ x=>x.imp fun _ x=>x.imp fun _ x=>x.imp fun _ x=>H _ _ x,g.er.imp fun _ x=>x.imp fun _ x=>x.imp fun _ x=>x.imp fun _ x=>H _ _ x⟩
def RsW(p:Ab):Rs->Value->Prop
 |.num n,v=>v=.J n
 |.spn a b,v=>v=.agg #[.J a,.J b]
 |.lst l,v=>∃a c,v=.slice a l.length c/\As p a l.length l
theorem c84(M:Per p h)(A:TA)(t:Twn)(T:TwP p A t)(hn:t.fit 12)(g:GlP p)(n c:Nat)(vs:List Int):
 Aa prog (.main true) 84 #[twV A t,.slice a n c] h (Ar p h fun v p'=>∃r,v=.tuple #[r,.J (Bs .fewest t vs).2]/\RsW p' (Bs .fewest t vs).1 r):=by
 obtain⟨⟨n1,n2⟩,⟨V,n4,n5⟩,n6⟩:=hn;obtain⟨⟨k1,k2⟩,⟨k3,k4,k5⟩,k6⟩:=T.c;obtain⟨_,zs,hs⟩:=g.sn;obtain⟨tb,zb,hb⟩:=g.bn;obtain⟨td,zd,hd⟩:=g.db;refine xdq M func84 fun _ _ _ K=>?_;refine xgq rfl fun b2=>?_;refine ax ?_;refine xiq rfl rfl (fun _ O=>c85 O t.s T.s ⟨om,om⟩ zs hs) ?_;refine ax ?_;exact K.r rfl rfl fun _ H=>(xwq H (.refl _ _ _) ⟨_,rfl,rfl⟩)
theorem c86(M:Per p h)(A:TA)(t:Twn)(T:TwP p A t)(hn:t.fit 12)(g:GlP p)(n c:Nat)(vs:List Int):
 Aa prog (.main true) 86 #[twV A t,.slice a n c] h (Ar p h fun v p'=>∃r,v=.tuple #[r,.J (Bs .cheap t vs).2]/\RsW p' (Bs .cheap t vs).1 r):=by
 obtain⟨⟨n1,n2⟩,⟨V,n4,n5⟩,n6⟩:=hn;obtain⟨⟨k1,k2⟩,⟨k3,k4,k5⟩,k6⟩:=T.c;obtain⟨_,zs,hs⟩:=g.sn;obtain⟨tb,zb,hb⟩:=g.bn;obtain⟨td,zd,hd⟩:=g.db;refine xdq M func86 fun _ _ _ K=>?_;refine xgq rfl fun b2=>?_;refine ax ?_;refine xiq rfl rfl (fun _ O=>c87 _ O _ _ _ _ t.s T.s ⟨om,om⟩ zs hs) ?_;refine ax ?_;exact K.r rfl rfl fun _ H=>(xwq H (.refl _ _ _) ⟨_,rfl,rfl⟩)
theorem c88(M:Per p h)(A:TA)(t:Twn)(T:TwP p A t)(hn:t.fit 12)(g:GlP p)(n c:Nat)(vs:List Int)(V:As p a n vs)(hv:n=1):
 Aa prog (.main true) 88 #[twV A t,.slice a n c] h (Ar p h fun v p'=>∃r,v=.tuple #[r,.J (Bs .deep t vs).2]/\RsW p' (Bs .deep t vs).1 r):=by
 obtain⟨⟨n1,n2⟩,⟨n3,n4,n5⟩,n6⟩:=hn;obtain⟨⟨k1,k2⟩,⟨k3,k4,k5⟩,k6⟩:=T.c;obtain⟨_,zs,hs⟩:=g.sn;obtain⟨tb,zb,hb⟩:=g.bn;obtain⟨td,zd,hd⟩:=g.db;refine xdq M func88 fun _ _ _ K=>?_;refine xgq rfl fun b2=>?_;refine ax ?_;refine xqq [] R8 ?_;refine ex ?_;refine xvz rfl rfl rfl (fun _ O=>c89 O t.s T.s ⟨om,om⟩ k2 zs hs (vs.getD 0 0)) ?_;refine ex ?_;refine ax ?_;exact K.r rfl rfl fun _ H=>(xwq H (.refl _ _ _) ⟨_,rfl,rfl⟩)
theorem c90(M:Per p h)(A:TA)(t:Twn)(T:TwP p A t)(hn:t.fit 12)(g:GlP p)(n c:Nat)(vs:List Int)(V:As p a n vs)(hv:n=1):
 Aa prog (.main true) 90 #[twV A t,.slice a n c] h (Ar p h fun v p'=>∃r,v=.tuple #[r,.J (Bs .next t vs).2]/\RsW p' (Bs .next t vs).1 r):=by
 obtain⟨⟨n1,n2⟩,⟨n3,n4,n5⟩,n6⟩:=hn;obtain⟨⟨k1,k2⟩,⟨k3,k4,k5⟩,k6⟩:=T.c;obtain⟨_,zs,hs⟩:=g.sn;obtain⟨tb,zb,hb⟩:=g.bn;obtain⟨td,zd,hd⟩:=g.db;refine xdq M func90 fun _ _ _ K=>?_;refine xgq rfl fun b2=>?_;refine ax ?_;refine xqq [] R8 ?_;refine ex ?_;refine xvz rfl rfl rfl (fun _ O=>c91 O t.s T.s ⟨om,om⟩ k2 zs hs (vs.getD 0 0)) ?_;refine ex ?_;refine ax ?_;exact K.r rfl rfl fun _ H=>(xwq H (.refl _ _ _) ⟨_,rfl,rfl⟩)
theorem c92(O:Per p h)(A:TA)(t:Twn)(T:TwP p A t)(hn:t.fit 12)(g:GlP p)(n c:Nat)(vs:List Int):
 Aa prog (.main true) 92 #[twV A t,.slice a n c] h (Ar p h fun v p'=>∃r,v=.tuple #[r,.J (Bs .E8 t vs).2]/\RsW p' (Bs .E8 t vs).1 r):=by
 obtain⟨⟨n1,n2⟩,⟨n3,n4,n5⟩,n6⟩:=hn;obtain⟨⟨k1,k2⟩,⟨k3,k4,k5⟩,k6⟩:=T.c;obtain⟨_,zs,hs⟩:=g.sn;obtain⟨tb,zb,M⟩:=g.bn;obtain⟨td,zd,hd⟩:=g.db;refine xdq O func92 fun _ _ _ K=>?_;refine xgq rfl fun b2=>?_;refine ax ?_;refine xiq rfl rfl (fun _ V=>c93 V t.b T.b ⟨om,om,om⟩ M) ?_;refine ax ?_;exact K.r rfl rfl fun _ H=>(xwq H (.refl _ _ _) ⟨_,rfl,rfl⟩)
theorem c95(V:Per p h)(A:TA)(t:Twn)(T:TwP p A t)(hn:t.fit 12)(g:GlP p)(n c:Nat)(vs:List Int):
 Aa prog (.main true) 95 #[twV A t,.slice a n c] h (Ar p h fun v p'=>∃r,v=.tuple #[r,.J (Bs .Dy t vs).2]/\RsW p' (Bs .Dy t vs).1 r):=by
 obtain⟨⟨n1,n2⟩,⟨n3,n4,n5⟩,n6⟩:=hn;obtain⟨⟨k1,k2⟩,⟨k3,k4,k5⟩,k6⟩:=T.c;obtain⟨_,zs,hs⟩:=g.sn;obtain⟨tb,zb,O⟩:=g.bn;obtain⟨td,zd,hd⟩:=g.db;refine xdq V func95 fun _ _ _ K=>?_;refine xgq rfl fun b2=>?_;refine ax ?_;refine xdj rfl rfl (fun _ pe=>c96 pe t.b T.b ⟨om,om,om⟩ O) ?_;rintro _ Y ⟨w,rfl,o⟩;obtain⟨a1,M,rfl,-⟩:=o.val;rw[xvq]at o⊢;refine ax ?_;refine xoq o (xvq _) d_ fun p' _ _ g' e hc S=>?_;cases e;exact K.r rfl rfl fun _ H=>(xwq H g' ⟨_,rfl,a1,M,rfl,S⟩)
theorem c98(M:Per p h)(A:TA)(t:Twn)(T:TwP p A t)(hn:t.fit 12)(g:GlP p)(n c:Nat)(vs:List Int)(V:As p a n vs)(hv:n=1):
 Aa prog (.main true) 98 #[twV A t,.slice a n c] h (Ar p h fun v p'=>∃r,v=.tuple #[r,.J (Bs .draws t vs).2]/\RsW p' (Bs .draws t vs).1 r):=by
 obtain⟨⟨n1,n2⟩,⟨n3,n4,n5⟩,n6⟩:=hn;obtain⟨⟨k1,k2⟩,⟨k3,k4,k5⟩,k6⟩:=T.c;obtain⟨_,zs,hs⟩:=g.sn;obtain⟨tb,zb,hb⟩:=g.bn;obtain⟨td,zd,hd⟩:=g.db;refine xdq M func98 fun _ _ _ K=>?_;refine xgq rfl fun b2=>?_;refine lq fun b4=>?_;refine ax ?_;refine xqq [] R8 ?_;refine ex ?_;refine xvz rfl rfl rfl (fun _ O=>c99 O t.b T.b ⟨om,om,om⟩ (vs.getD 0 0)) ?_;refine ex ?_;refine ax ?_;exact K.e rfl (xtq rfl (.tmp rfl .nil)) fun _ H=>(xwq H (.refl _ _ _) ⟨_,rfl,rfl⟩)
theorem Up(M:Per p h)(A:TA)(t:Twn)(T:TwP p A t)(hn:t.fit 12)(g:GlP p)(n c:Nat)(vs:List Int)(V:As p a n vs)(hv:n=1):
 Aa prog (.main true) 100 #[twV A t,.slice a n c] h (Ar p h fun v p'=>∃r,v=.tuple #[r,.J (Bs .dry t vs).2]/\RsW p' (Bs .dry t vs).1 r):=by
 obtain⟨⟨n1,n2⟩,⟨n3,n4,n5⟩,n6⟩:=hn;obtain⟨⟨k1,k2⟩,⟨k3,k4,k5⟩,k6⟩:=T.c;obtain⟨_,zs,hs⟩:=g.sn;obtain⟨tb,zb,hb⟩:=g.bn;obtain⟨td,zd,hd⟩:=g.db;refine xdq M func100 fun _ _ _ K=>?_;refine xgq rfl fun b2=>?_;refine ax ?_;refine xqq [] R8 ?_;refine ex ?_;refine xvz rfl rfl rfl (fun _ O=>Wo O t.b T.b ⟨om,om,om⟩ (vs.getD 0 0)) ?_;refine ex ?_;refine ax ?_;exact K.r rfl rfl fun _ H=>(xwq H (.refl _ _ _) ⟨_,rfl,rfl⟩)
theorem T7(O:Per p h)(A:TA)(t:Twn)(T:TwP p A t)(hn:t.fit 12)(g:GlP p)(n c:Nat)(vs:List Int):
 Aa prog (.main true) 102 #[twV A t,.slice a n c] h (Ar p h fun v p'=>∃r,v=.tuple #[r,.J (Bs .short t vs).2]/\RsW p' (Bs .short t vs).1 r):=by
 obtain⟨⟨n1,n2⟩,⟨n3,n4,n5⟩,n6⟩:=hn;obtain⟨⟨k1,k2⟩,⟨k3,k4,k5⟩,k6⟩:=T.c;obtain⟨_,zs,hs⟩:=g.sn;obtain⟨tb,zb,hb⟩:=g.bn;obtain⟨td,zd,V⟩:=g.db;refine xdq O func102 fun _ _ _ K=>?_;refine xgq rfl fun b2=>?_;refine ax ?_;refine xdj rfl rfl (fun _ pe=>Wm pe t.b T.b ⟨om,om,om⟩ V) ?_;rintro _ Y ⟨w,rfl,o⟩;obtain⟨a1,M,rfl,-⟩:=o.val;rw[xvq]at o⊢;refine ax ?_;refine xoq o (xvq _) d_ fun p' _ _ g' e hc S=>?_;cases e;exact K.r rfl rfl fun _ H=>(xwq H g' ⟨_,rfl,a1,M,rfl,S⟩)
theorem Wd(M:Per p h)(A:TA)(t:Twn)(T:TwP p A t)(hn:t.fit 12)(g:GlP p)(n c:Nat)(vs:List Int):
 Aa prog (.main true) 104 #[twV A t,.slice a n c] h (Ar p h fun v p'=>∃r,v=.tuple #[r,.J (Bs .empty t vs).2]/\RsW p' (Bs .empty t vs).1 r):=by
 obtain⟨⟨n1,n2⟩,⟨V,n4,n5⟩,n6⟩:=hn;obtain⟨⟨k1,k2⟩,⟨k3,k4,k5⟩,k6⟩:=T.c;obtain⟨_,zs,hs⟩:=g.sn;obtain⟨tb,zb,hb⟩:=g.bn;obtain⟨td,zd,hd⟩:=g.db;refine xdq M func104 fun _ _ _ K=>?_;refine xgq rfl fun b2=>?_;refine ax ?_;refine xiq rfl rfl (fun _ O=>U5 O T.d om) ?_;refine ax ?_;exact K.r rfl rfl fun _ H=>(xwq H (.refl _ _ _) ⟨_,rfl,rfl⟩)
theorem Wl(M:Per p h)(A:TA)(t:Twn)(T:TwP p A t)(hn:t.fit 12)(g:GlP p)(n c:Nat)(vs:List Int):
 Aa prog (.main true) 106 #[twV A t,.slice a n c] h (Ar p h fun v p'=>∃r,v=.tuple #[r,.J (Bs .least t vs).2]/\RsW p' (Bs .least t vs).1 r):=by
 obtain⟨⟨n1,n2⟩,⟨V,n4,n5⟩,n6⟩:=hn;obtain⟨⟨k1,k2⟩,⟨k3,k4,k5⟩,k6⟩:=T.c;obtain⟨_,zs,hs⟩:=g.sn;obtain⟨tb,zb,hb⟩:=g.bn;obtain⟨td,zd,hd⟩:=g.db;refine xdq M func106 fun _ _ _ K=>?_;refine xgq rfl fun b2=>?_;refine ax ?_;refine xiq rfl rfl (fun _ O=>Te O T.d om) ?_;refine ax ?_;exact K.r rfl rfl fun _ H=>(xwq H (.refl _ _ _) ⟨_,rfl,rfl⟩)
theorem V9(M:Per p h)(A:TA)(t:Twn)(T:TwP p A t)(hn:t.fit 12)(g:GlP p)(n c:Nat)(vs:List Int):
 Aa prog (.main true) 108 #[twV A t,.slice a n c] h (Ar p h fun v p'=>∃r,v=.tuple #[r,.J (Bs .ration t vs).2]/\RsW p' (Bs .ration t vs).1 r):=by
 obtain⟨⟨n1,n2⟩,⟨V,n4,n5⟩,n6⟩:=hn;obtain⟨⟨k1,k2⟩,⟨k3,k4,k5⟩,k6⟩:=T.c;obtain⟨_,zs,hs⟩:=g.sn;obtain⟨tb,zb,hb⟩:=g.bn;obtain⟨td,zd,hd⟩:=g.db;refine xdq M func108 fun _ _ _ K=>?_;refine xgq rfl fun b2=>?_;refine ax ?_;refine xiq rfl rfl (fun _ O=>Rb O T.d om) ?_;refine ax ?_;exact K.r rfl rfl fun _ H=>(xwq H (.refl _ _ _) ⟨_,rfl,rfl⟩)
theorem Sy(M:Per p h)(A:TA)(t:Twn)(T:TwP p A t)(hn:t.fit 12)(g:GlP p)(n c:Nat)(vs:List Int)(V:As p a n vs)(hv:n=1):
 Aa prog (.main true) 110 #[twV A t,.slice a n c] h (Ar p h fun v p'=>∃r,v=.tuple #[r,.J (Bs .spare t vs).2]/\RsW p' (Bs .spare t vs).1 r):=by
 obtain⟨⟨n1,n2⟩,⟨n3,n4,n5⟩,n6⟩:=hn;obtain⟨⟨k1,k2⟩,⟨k3,k4,k5⟩,k6⟩:=T.c;obtain⟨_,zs,hs⟩:=g.sn;obtain⟨tb,zb,hb⟩:=g.bn;obtain⟨td,zd,hd⟩:=g.db;refine xdq M func110 fun _ _ _ K=>?_;refine xgq rfl fun b2=>?_;refine ax ?_;refine xqq [] R8 ?_;refine ex ?_;refine xvz rfl rfl rfl (fun _ O=>Sj O T.d om (vs.getD 0 0)) ?_;refine ex ?_;refine ax ?_;exact K.r rfl rfl fun _ H=>(xwq H (.refl _ _ _) ⟨_,rfl,rfl⟩)
theorem Vu(M:Per p h)(A:TA)(t:Twn)(T:TwP p A t)(hn:t.fit 12)(g:GlP p)(n c:Nat)(vs:List Int)(V:As p a n vs)(hv:n=1):
 Aa prog (.main true) 112 #[twV A t,.slice a n c] h (Ar p h fun v p'=>∃r,v=.tuple #[r,.J (Bs .level t vs).2]/\RsW p' (Bs .level t vs).1 r):=by
 obtain⟨⟨n1,n2⟩,⟨n3,n4,n5⟩,n6⟩:=hn;obtain⟨⟨k1,k2⟩,⟨k3,k4,k5⟩,k6⟩:=T.c;obtain⟨_,zs,hs⟩:=g.sn;obtain⟨tb,zb,hb⟩:=g.bn;obtain⟨td,zd,hd⟩:=g.db;refine xdq M func112 fun _ _ _ K=>?_;refine xgq rfl fun b2=>?_;refine lq fun b4=>?_;refine ax ?_;refine xqq [] R8 ?_;refine ex ?_;refine xvz rfl rfl rfl (fun _ O=>U7 O T.d om (vs.getD 0 0)) ?_;refine ex ?_;refine ax ?_;exact K.e rfl (xtq rfl (.tmp rfl .nil)) fun _ H=>(xwq H (.refl _ _ _) ⟨_,rfl,rfl⟩)
end
section
variable{h:Heap}{md:Md}{p:Ab}
def P0:Qn->FuncId
 |.fewest=>168
 |.cheap=>168
 |.deep=>168
 |.next=>168
 |.E8=>168
 |.Dy=>176
 |.draws=>178
 |.dry=>168
 |.short=>176
 |.empty=>168
 |.least=>168
 |.ration=>168
 |.spare=>168
 |.level=>178
def inF:Qn->FuncId
 |.fewest=>84
 |.cheap=>86
 |.deep=>88
 |.next=>90
 |.E8=>92
 |.Dy=>95
 |.draws=>98
 |.dry=>100
 |.short=>102
 |.empty=>104
 |.least=>106
 |.ration=>108
 |.spare=>110
 |.level=>112
def Ng(q:Qn)(v:Value)(p:Ab):Prop:=∃b T z,v=.func (.func (P0 q)) #[] #[w_ b 0]/\p b=some (.cells #[.func (.func (inF q)) #[] #[]] T z)
theorem Ng.mono{q:Qn}{v:Value}{p':Ab}(x:Ng q v p)(H:PLe p p'):Ng q v p':=by
 obtain⟨b,T,z,e,M⟩:=x;exact⟨b,T,z,e,H _ _ M⟩
def RsV(p:Ab):Rs->Value->Prop
 |.num n,v=>v=.iface 168 (.J n)
 |.spn a b,v=>v=.iface 204 (.agg #[.J a,.J b])
 |.lst l,v=>∃a c,v=.iface 202 (.slice a l.length c)/\As p a l.length l
theorem c83(V:Per p h){f:FuncId}:
 Aa prog md 83 #[.func (.func f) #[] #[]] h (Ar p h fun v p'=>∃b T z,v=.func (.func 168) #[] #[w_ b 0]/\p' b=some (.cells #[.func (.func f) #[] #[]] T z)):=by
 refine xdq V func83 fun _ _ _ K=>?_;refine xgq rfl fun b1=>?_;refine ax ?_;refine xf1 (b:=b1) fun p1 O H=>?_;exact K.r rfl rfl fun _ M=>(xwq M O ⟨b1,_,_,rfl,H⟩)
theorem Ma(hp:Per p h)(A:TA)(t:Twn){a:Option Addr}(n c:Nat)(b:Nat){f:FuncId}{M:TypeId}{O:Nat×Nat}(hb:p b=some (.cells #[.func (.func f) #[] #[]] M O))(R:Rs×Int)(V:∃x e,R=(.num x,e))
 (hf:∀h,Per p h->Az prog (.main true) (.func (.func f) #[] #[]) [twV A t,.slice a n c] h (Ar p h fun v p'=>∃r,v=.tuple #[r,.J R.2]/\RsW p' R.1 r)):
 Aa prog (.main true) 168 #[twV A t,.slice a n c,w_ b 0] h (Ar p h fun v p'=>∃r,v=.tuple #[r,.J R.2]/\RsV p' R.1 r):=by
 refine xdq hp func168 fun _ _ _ K=>?_;refine xgq rfl fun b3=>?_;refine ax ?_;refine xp3 rfl rfl (fun h pe=>hf h pe) ?_;obtain⟨x,e,rfl⟩:=V;rintro _ p1 g1 ⟨r,rfl,hr⟩;cases hr;refine ax ?_;refine xib rfl rfl trivial underlying168 ?_;refine ax ?_;exact K.r rfl rfl fun _ H=>(xwq H g1 ⟨_,rfl,rfl⟩)
theorem c97(V:Per p h){f:FuncId}:
 Aa prog md 97 #[.func (.func f) #[] #[]] h (Ar p h fun v p'=>∃b T z,v=.func (.func 178) #[] #[w_ b 0]/\p' b=some (.cells #[.func (.func f) #[] #[]] T z)):=by
 refine xdq V func97 fun _ _ _ K=>?_;refine xgq rfl fun b1=>?_;refine ax ?_;refine xf1 (b:=b1) fun p1 O H=>?_;exact K.r rfl rfl fun _ M=>(xwq M O ⟨b1,_,_,rfl,H⟩)
theorem Ra(hp:Per p h)(A:TA)(t:Twn){a:Option Addr}(n c:Nat)(b:Nat){f:FuncId}{M:TypeId}{O:Nat×Nat}(hb:p b=some (.cells #[.func (.func f) #[] #[]] M O))(R:Rs×Int)(V:∃x y e,R=(.spn x y,e))
 (hf:∀h,Per p h->Az prog (.main true) (.func (.func f) #[] #[]) [twV A t,.slice a n c] h (Ar p h fun v p'=>∃r,v=.tuple #[r,.J R.2]/\RsW p' R.1 r)):
 Aa prog (.main true) 178 #[twV A t,.slice a n c,w_ b 0] h (Ar p h fun v p'=>∃r,v=.tuple #[r,.J R.2]/\RsV p' R.1 r):=by
 refine xdq hp func178 fun _ _ _ K=>?_;refine xgq rfl fun b3=>?_;refine ax ?_;refine xp3 rfl rfl (fun h pe=>hf h pe) ?_;obtain⟨x,y,e,rfl⟩:=V;rintro _ p1 g1 ⟨r,rfl,hr⟩;cases hr;refine lq fun b7=>?_;refine ax ?_;refine xib rfl rfl trivial underlying204 ?_;refine ax ?_;exact K.r rfl rfl fun _ H=>(xwq H g1 ⟨_,rfl,rfl⟩)
theorem c94(V:Per p h){f:FuncId}:
 Aa prog md 94 #[.func (.func f) #[] #[]] h (Ar p h fun v p'=>∃b T z,v=.func (.func 176) #[] #[w_ b 0]/\p' b=some (.cells #[.func (.func f) #[] #[]] T z)):=by
 refine xdq V func94 fun _ _ _ K=>?_;refine xgq rfl fun b1=>?_;refine ax ?_;refine xf1 (b:=b1) fun p1 O H=>?_;exact K.r rfl rfl fun _ M=>(xwq M O ⟨b1,_,_,rfl,H⟩)
theorem Q5(hp:Per p h)(A:TA)(t:Twn){a:Option Addr}(n c:Nat)(b:Nat){f:FuncId}{M:TypeId}{V:Nat×Nat}(hb:p b=some (.cells #[.func (.func f) #[] #[]] M V))(R:Rs×Int)(hR:∃l e,R=(.lst l,e))
 (hf:∀h,Per p h->Az prog (.main true) (.func (.func f) #[] #[]) [twV A t,.slice a n c] h (Ar p h fun v p'=>∃r,v=.tuple #[r,.J R.2]/\RsW p' R.1 r)):
 Aa prog (.main true) 176 #[twV A t,.slice a n c,w_ b 0] h (Ar p h fun v p'=>∃r,v=.tuple #[r,.J R.2]/\RsV p' R.1 r):=by
 refine xdq hp func176 fun _ _ _ K=>?_;refine xgq rfl fun b3=>?_;refine ax ?_;refine xp3 rfl rfl (fun h pe=>hf h pe) ?_;obtain⟨l,e,rfl⟩:=hR;rintro _ p1 g1 ⟨r,rfl,a1,O,hr,I⟩;cases hr;refine ax ?_;refine xib rfl rfl trivial underlying202 ?_;refine ax ?_;exact K.r rfl rfl fun _ H=>(xwq H g1 ⟨_,rfl,a1,O,rfl,I⟩)
theorem xfp(q:Qn)(v:Value)(h:Heap)(p:Ab)(O:Per p h)(x:Ng q v p)(A:TA)(t:Twn)(T:TwP p A t)(hn:t.fit 12)(g:GlP p)(a:Option Addr)(n c:Nat)(vs:List Int)(V:As p a n vs)(hv:n=q.ar):
 Az prog (.main true) v [twV A t,.slice a n c] h (Ar p h fun v p'=>∃r,v=.tuple #[r,.J (Bs q t vs).2]/\RsV p' (Bs q t vs).1 r):=by
 obtain⟨b,tB,zB,rfl,M⟩:=x;cases q
 ·exact xkq (first:=[]) (cap:=[w_ b 0]) k_ (Ma O A t n c b M (Bs .fewest t vs) ⟨_,_,rfl⟩ fun h H=>xkq (first:=[]) (cap:=[]) k_ (c84 H A t T hn g n c vs))
 ·exact xkq (first:=[]) (cap:=[w_ b 0]) k_ (Ma O A t n c b M (Bs .cheap t vs) ⟨_,_,rfl⟩ fun h H=>xkq (first:=[]) (cap:=[]) k_ (c86 H A t T hn g n c vs))
 ·exact xkq (first:=[]) (cap:=[w_ b 0]) k_ (Ma O A t n c b M (Bs .deep t vs) ⟨_,_,rfl⟩ fun h H=>xkq (first:=[]) (cap:=[]) k_ (c88 H A t T hn g n c vs V hv))
 ·exact xkq (first:=[]) (cap:=[w_ b 0]) k_ (Ma O A t n c b M (Bs .next t vs) ⟨_,_,rfl⟩ fun h H=>xkq (first:=[]) (cap:=[]) k_ (c90 H A t T hn g n c vs V hv))
 ·exact xkq (first:=[]) (cap:=[w_ b 0]) k_ (Ma O A t n c b M (Bs .E8 t vs) ⟨_,_,rfl⟩ fun h H=>xkq (first:=[]) (cap:=[]) k_ (c92 H A t T hn g n c vs))
 ·exact xkq (first:=[]) (cap:=[w_ b 0]) k_ (Q5 O A t n c b M (Bs .Dy t vs) ⟨_,_,rfl⟩ fun h H=>xkq (first:=[]) (cap:=[]) k_ (c95 H A t T hn g n c vs))
 ·exact xkq (first:=[]) (cap:=[w_ b 0]) k_ (Ra O A t n c b M (Bs .draws t vs) ⟨_,_,_,rfl⟩ fun h H=>xkq (first:=[]) (cap:=[]) k_ (c98 H A t T hn g n c vs V hv))
 ·exact xkq (first:=[]) (cap:=[w_ b 0]) k_ (Ma O A t n c b M (Bs .dry t vs) ⟨_,_,rfl⟩ fun h H=>xkq (first:=[]) (cap:=[]) k_ (Up H A t T hn g n c vs V hv))
 ·exact xkq (first:=[]) (cap:=[w_ b 0]) k_ (Q5 O A t n c b M (Bs .short t vs) ⟨_,_,rfl⟩ fun h H=>xkq (first:=[]) (cap:=[]) k_ (T7 H A t T hn g n c vs))
 ·exact xkq (first:=[]) (cap:=[w_ b 0]) k_ (Ma O A t n c b M (Bs .empty t vs) ⟨_,_,rfl⟩ fun h H=>xkq (first:=[]) (cap:=[]) k_ (Wd H A t T hn g n c vs))
 ·exact xkq (first:=[]) (cap:=[w_ b 0]) k_ (Ma O A t n c b M (Bs .least t vs) ⟨_,_,rfl⟩ fun h H=>xkq (first:=[]) (cap:=[]) k_ (Wl H A t T hn g n c vs))
 ·exact xkq (first:=[]) (cap:=[w_ b 0]) k_ (Ma O A t n c b M (Bs .ration t vs) ⟨_,_,rfl⟩ fun h H=>xkq (first:=[]) (cap:=[]) k_ (V9 H A t T hn g n c vs))
 ·exact xkq (first:=[]) (cap:=[w_ b 0]) k_ (Ma O A t n c b M (Bs .spare t vs) ⟨_,_,rfl⟩ fun h H=>xkq (first:=[]) (cap:=[]) k_ (Sy H A t T hn g n c vs V hv))
 ·exact xkq (first:=[]) (cap:=[w_ b 0]) k_ (Ra O A t n c b M (Bs .level t vs) ⟨_,_,_,rfl⟩ fun h H=>xkq (first:=[]) (cap:=[]) k_ (Vu H A t T hn g n c vs V hv))
theorem c44(hp:Per p h)(w:Str)(hw:w.length<=900)(n:Nat)(hn:n<=900){tT:TypeId}{zT:Nat×Nat}(Z:p 5=some (.cells (Lib.pow10Tab.map (Value.int .u64)).toArray tT zT)):
 Aa prog md 44 #[sv w,.J ((n:Nat):Int)] h (Ar p h fun v p'=>match qn (w++txt n)with
  |none=>v=.nilFunc
  |some q=>Ng q v p'):=by
 have hl:=xh8 (n:=n) om;refine xdq hp func44 fun _ _ _ K=>?_;refine xiq rfl rfl (fun _ M=>c82 M _ om Z) ?_;refine ax ?_;refine xmd rfl rfl om ?_;refine ax ?_;generalize w++txt (n:Int)=s at*;refine xlq rfl (fun O=>?_) (fun c0=>?_)
 ·refine ax ?_;refine xvx rfl rfl (fun _ M=>c83 M) ?_;rintro _ p1 V ⟨b,T,z,rfl,hb⟩;refine ax ?_;exact K.r rfl rfl fun _ H=>(xwq H V (by rw[O];exact⟨b,T,z,rfl,hb⟩))
 refine cq (fun O=>?_) (fun c1=>?_)
 ·refine ax ?_;refine xvx rfl rfl (fun _ M=>c83 M) ?_;rintro _ p1 V ⟨b,T,z,rfl,hb⟩;refine ax ?_;exact K.r rfl rfl fun _ H=>(xwq H V (by rw[O];exact⟨b,T,z,rfl,hb⟩))
 refine cq (fun O=>?_) (fun c2=>?_)
 ·refine ax ?_;refine xvx rfl rfl (fun _ M=>c83 M) ?_;rintro _ p1 V ⟨b,T,z,rfl,hb⟩;refine ax ?_;exact K.r rfl rfl fun _ H=>(xwq H V (by rw[O];exact⟨b,T,z,rfl,hb⟩))
 refine cq (fun O=>?_) (fun c3=>?_)
 ·refine ax ?_;refine xvx rfl rfl (fun _ M=>c83 M) ?_;rintro _ p1 V ⟨b,T,z,rfl,hb⟩;refine ax ?_;exact K.r rfl rfl fun _ H=>(xwq H V (by rw[O];exact⟨b,T,z,rfl,hb⟩))
 refine cq (fun O=>?_) (fun c4=>?_)
 ·refine ax ?_;refine xvx rfl rfl (fun _ M=>c83 M) ?_;rintro _ p1 V ⟨b,T,z,rfl,hb⟩;refine ax ?_;exact K.r rfl rfl fun _ H=>(xwq H V (by rw[O];exact⟨b,T,z,rfl,hb⟩))
 refine cq (fun O=>?_) (fun c5=>?_)
 ·refine ax ?_;refine xvx rfl rfl (fun _ M=>c94 M) ?_;rintro _ p1 V ⟨b,T,z,rfl,hb⟩;refine ax ?_;exact K.r rfl rfl fun _ H=>(xwq H V (by rw[O];exact⟨b,T,z,rfl,hb⟩))
 refine cq (fun O=>?_) (fun c6=>?_)
 ·refine ax ?_;refine xvx rfl rfl (fun _ M=>c97 M) ?_;rintro _ p1 V ⟨b,T,z,rfl,hb⟩;refine ax ?_;exact K.r rfl rfl fun _ H=>(xwq H V (by rw[O];exact⟨b,T,z,rfl,hb⟩))
 refine cq (fun O=>?_) (fun c7=>?_)
 ·refine ax ?_;refine xvx rfl rfl (fun _ M=>c83 M) ?_;rintro _ p1 V ⟨b,T,z,rfl,hb⟩;refine ax ?_;exact K.r rfl rfl fun _ H=>(xwq H V (by rw[O];exact⟨b,T,z,rfl,hb⟩))
 refine cq (fun O=>?_) (fun c8=>?_)
 ·refine ax ?_;refine xvx rfl rfl (fun _ M=>c94 M) ?_;rintro _ p1 V ⟨b,T,z,rfl,hb⟩;refine ax ?_;exact K.r rfl rfl fun _ H=>(xwq H V (by rw[O];exact⟨b,T,z,rfl,hb⟩))
 refine cq (fun O=>?_) (fun c9=>?_)
 ·refine ax ?_;refine xvx rfl rfl (fun _ M=>c83 M) ?_;rintro _ p1 V ⟨b,T,z,rfl,hb⟩;refine ax ?_;exact K.r rfl rfl fun _ H=>(xwq H V (by rw[O];exact⟨b,T,z,rfl,hb⟩))
 refine cq (fun O=>?_) (fun c10=>?_)
 ·refine ax ?_;refine xvx rfl rfl (fun _ M=>c83 M) ?_;rintro _ p1 V ⟨b,T,z,rfl,hb⟩;refine ax ?_;exact K.r rfl rfl fun _ H=>(xwq H V (by rw[O];exact⟨b,T,z,rfl,hb⟩))
 refine cq (fun O=>?_) (fun c11=>?_)
 ·refine ax ?_;refine xvx rfl rfl (fun _ M=>c83 M) ?_;rintro _ p1 V ⟨b,T,z,rfl,hb⟩;refine ax ?_;exact K.r rfl rfl fun _ H=>(xwq H V (by rw[O];exact⟨b,T,z,rfl,hb⟩))
 refine cq (fun O=>?_) (fun c12=>?_)
 ·refine ax ?_;refine xvx rfl rfl (fun _ M=>c83 M) ?_;rintro _ p1 V ⟨b,T,z,rfl,hb⟩;refine ax ?_;exact K.r rfl rfl fun _ H=>(xwq H V (by rw[O];exact⟨b,T,z,rfl,hb⟩))
 refine cq (fun O=>?_) (fun c13=>?_)
 ·refine ax ?_;refine xvx rfl rfl (fun _ M=>c97 M) ?_;rintro _ p1 V ⟨b,T,z,rfl,hb⟩;refine ax ?_;exact K.r rfl rfl fun _ H=>(xwq H V (by rw[O];exact⟨b,T,z,rfl,hb⟩))
 refine ax ?_;exact K.r rfl rfl fun _ H=>(xwq H (.refl _ _ _) (by
  unfold qn;rw[if_neg c0,if_neg c1,if_neg c2,if_neg c3,if_neg c4,if_neg c5,if_neg c6,if_neg c7,if_neg c8,if_neg c9,if_neg c10,if_neg c11,if_neg c12,if_neg c13];rfl))
def Np(b:Nat)(l:Str)(X:Pcs):Prop:=∃a v Y,X=[(b,.cells #[.pointer a,v] 398 (0,0))]++Y/\(a=none\/a=some ⟨b,0,none⟩)/\Ac 5 1 v (bcs l) Y
theorem c377(hp:Per p h)(b:Nat){a:Option Addr}(v:Value)(V:a=none\/a=some ⟨b,0,none⟩)(hb:h[b]?=some (.cells #[.pointer a,v] 398 (0,0)))(O:p b=none):
 Aa prog md 377 #[w_ b 0] h (Cz p h b fun _ _ o'=>o'=.cells #[w_ b 0,v] 398 (0,0)):=by
 refine xmz hp hb O func377 fun _ _ _ K=>?_;refine ax ?_;rcases V with rfl|rfl
 ·refine xs9 true rfl rfl rfl underlying396 ?_;refine ax ?_;refine xlq rfl (fun H=>?_) (fun H=>absurd trivial H);refine ax ?_;refine yom (i:=0) (w:=1) underlying396 underlying306 k_ rfl (by show 0<2;decide) rfl ?_;refine ax ?_;refine xr9 func378 (e:=Extern.AbiNoEscape.same) k_ rfl rfl (fun h=>xcq ⟨rfl,rfl⟩) ?_;refine ax ?_;refine yfv (i:=0) (w:=1) underlying306 underlying396 k_ rfl (by show 0<2;decide) k_ rfl ?_;refine ax ?_;exact xrb func377 rfl fun _ M=>K _ _ (xlj M (.refl _ _ _) rfl)
 ·refine xs9 false rfl rfl rfl underlying396 ?_;refine ax ?_;refine xlq rfl (fun H=>absurd H id) (fun H=>?_);refine ax ?_;refine ytm (w:=1) rfl rfl underlying396 k_ ?_;refine ax ?_;refine xlq rfl (fun H=>absurd H id) (fun H=>?_);refine ax ?_;exact xrb func377 rfl fun _ M=>K _ _ (xlj M (.refl _ _ _) rfl)
theorem yzj(l:Str):(bcs l).length=l.length:=xbk l
theorem c374{z9:Heap}{zz:List Nat}(C X:Pcs)(b:Nat){l:Str}(B:Np b l X)(hl:l.length<=100000)(c:UInt8)(s:St z9 zz p h (X++C)):
 Aa prog md 374 #[w_ b 0,.int .u8 ((c.toNat:Nat):Int)] h fun _ h'=>∃X',Np b (l++[c]) X'/\St z9 zz p h' (X'++C):=by
 obtain⟨a,v,Y,rfl,ha,o⟩:=B;refine xkj s func374 fun _ _ _ K=>?_;refine xpz [(b,.cells #[.pointer a,v] 398 (0,0))] Y ?_;refine ax ?_;refine xws rfl rfl (fun h_ pe hb M=>c377 pe b v ha hb M) fun r p1 o1 g1 e1=>?_;subst e1;obtain⟨a1,c1,rfl,-⟩:=o.val;refine ax ?_;refine xbz rfl fun v2 Y2 H=>?_;have H:Ac 5 1 v2 (bcs [c]) Y2:=H;refine xfv rfl rfl o H (by simp[bcs,A7]) (by simp[yzj];omega) fun v3 V O=>?_;obtain⟨a3,c3,rfl,-⟩:=O.val;refine ax ?_;refine xik (LL':=[[(b,.cells #[w_ b 0,.slice a3 _ c3] 398 (0,0))],V,C]) ?_ (fun _ s=>s);exact xxq func374 rfl rfl fun h_ H_=>K _ _ ⟨_,⟨_,_,V,rfl,.inr rfl,O.as (by simp[bcs])⟩,(xa6 H_).forget g1.le⟩
theorem c375{z9:Heap}{zz:List Nat}(C X:Pcs)(b:Nat){l:Str}(B:Np b l X)(hl:l.length<=100000)(m:Str)(hm:m.length<=100000)(s:St z9 zz p h (X++C)):
 Aa prog md 375 #[w_ b 0,sv m] h fun _ h'=>∃V,Np b (l++m) V/\St z9 zz p h' (V++C):=by
 obtain⟨a,v,Y,rfl,ha,o⟩:=B;refine xkj s func375 fun _ _ _ K=>?_;refine xpz [(b,.cells #[.pointer a,v] 398 (0,0))] Y ?_;refine ax ?_;refine xws rfl rfl (fun h_ pe hb H=>c377 pe b v ha hb H) fun r p1 o1 g1 e1=>?_;subst e1;obtain⟨a1,c1,rfl,-⟩:=o.val;refine ax ?_;refine yiv rfl rfl o om fun v3 O M=>?_;obtain⟨a3,c3,rfl,-⟩:=M.val;refine ax ?_;refine xik (LL':=[[(b,.cells #[w_ b 0,.slice a3 _ c3] 398 (0,0))],O,C]) ?_ (fun _ s=>s);exact xxq func375 rfl rfl fun h_ H_=>K _ _ ⟨_,⟨_,_,O,rfl,.inr rfl,M⟩,(xa6 H_).forget g1.le⟩
theorem c376{z9:Heap}{zz:List Nat}(C X:Pcs)(b:Nat){l:Str}(B:Np b l X)(h0:0<l.length)(V:l.length<=1000000)(s:St z9 zz p h (X++C)):
 Aa prog md 376 #[w_ b 0] h fun r h'=>∃O:Pcs,r=sv l/\St z9 zz p h' (O++C):=by
 obtain⟨a,v,Y,rfl,ha,o⟩:=B;refine xkj s func376 fun _ _ _ K=>?_;refine xpz [(b,.cells #[.pointer a,v] 398 (0,0))] Y ?_;have H:=yzj l;obtain⟨b1,c1,rfl,a2,-⟩:=o.at0 om d_;refine ax ?_;refine xqq [] R10 ?_;refine ex ?_;refine ybr rfl rfl om ?_;refine ex ?_;refine ax ?_;rw[H]at o⊢;refine ynm o h0 V rfl rfl underlying369 k_ ?_;refine ax ?_;exact xxq func376 rfl rfl fun _ M=>K _ _ ⟨_,rfl,xfg (Y:=[(b,.cells #[.pointer a,.slice (some ⟨b1,0,none⟩) l.length c1] 398 (0,0))]) M⟩
end
end Go.Proofs.YtblcmdjhidhnjaaGreatDoor
namespace Go.X.Ms
open Go.X.Flow (ics)
def iv(l:List Int):List Value:=l.map (Value.int .i64)
theorem xjz(l:List Int):(iv l).length=l.length:=by simp[iv]
theorem yjp{l:List Int}{i:Nat}(h:i<l.length):(iv l)[i]?=some (.J (l.getD i 0)):=by
 rw[iv,List.getElem?_map,List.getD_eq_getElem?_getD,List.getElem?_eq_getElem h];rfl
theorem yfd{l:List Int}{i:Nat}{x:Int}:(iv l).set i (.J x)=iv (l.set i x):=by simp[iv,List.map_set]
def dkc(A:TA)(d:Dt)(tr:Value):List Value:=tcs A d.t++(iv d.Da++(iv d.kept++[tr]))
def Dt.wf(d:Dt):Prop:=d.Da.length=26/\d.kept.length=26
theorem ydx{l:List Value}{i:Nat}{v:Value}(h:l[i]?=some v):nth l i=some v:=by
 induction l generalizing i with
 |nil=>simp at h
 |cons a l ih=>
   cases i with
   |zero=>exact h
   |succ i=>exact ih (by simpa using h)
section
variable{A:TA}{d:Dt}{tr:Value}
theorem xpv{A:TA}{t:Twn}:(tcs A t).length=11:=rfl
theorem xqc(w:d.wf):(dkc A d tr).length=64:=by
 simp[dkc,xjz,w.1,w.2]
theorem yyp(w:d.wf){i:Nat}(h:i<26):nth (dkc A d tr) (11+i)=some (.J (d.Da.getD i 0)):=ydx (by
 rw[dkc,List.getElem?_append_right (by rw[xpv];omega),xpv,Nat.add_sub_cancel_left,List.getElem?_append_left (by rw[xjz,w.1];exact h)];exact yjp (by rw[w.1];exact h))
theorem yxp(w:d.wf){i:Nat}(h:i<26):nth (dkc A d tr) (37+i)=some (.J (d.kept.getD i 0)):=ydx (by
 rw[dkc,List.getElem?_append_right (by rw[xpv];omega),xpv,List.getElem?_append_right (by rw[xjz,w.1];omega),xjz,w.1,List.getElem?_append_left (by rw[xjz,w.2];omega)];rw[show 37+i-11-26=i by omega];exact yjp (by rw[w.2];exact h))
theorem xa0(w:d.wf):nth (dkc A d tr) 63=some tr:=ydx (by
 rw[dkc,List.getElem?_append_right (by rw[xpv];omega),xpv,List.getElem?_append_right (by rw[xjz,w.1];omega),xjz,w.1,List.getElem?_append_right (by rw[xjz,w.2];omega),xjz,w.2];rfl)
theorem xc2(w:d.wf):((dkc A d tr).drop 11).take 52=iv d.Da++iv d.kept:=by
 have e:(tcs A d.t).length=11:=rfl;rw[dkc,List.drop_left' e,<- List.append_assoc];exact List.take_left' (by rw[List.length_append,xjz,xjz,w.1,w.2])
theorem xih{a r vs:List Value}{n:Nat}(hn:a.length=n)(h:vs.length<=r.length):B6 (a++r) n vs=a++(vs++r.drop vs.length):=by subst hn;exact xqv h
theorem yfj(w:d.wf){H:Value}:B6 (dkc A d tr) 63 [H]=dkc A d H:=by
 have e:dkc A d tr=(tcs A d.t++(iv d.Da++iv d.kept))++[tr]:=by simp[dkc,List.append_assoc]
 have M:(tcs A d.t++(iv d.Da++iv d.kept)).length=63:=by
  rw[List.length_append,List.length_append,xjz,xjz,w.1,w.2];rfl
 rw[e];refine(xih (r:=[tr]) (vs:=[H]) M (Nat.le_refl 1)).trans ?_;simp[dkc,List.append_assoc]
theorem yll(w:d.wf){i:Nat}{x:Int}(h:i<26):B6 (dkc A d tr) (11+i) [.J x]=dkc A {d with Da:=d.Da.set i x} tr:=by
 show(dkc A d tr).set (11+i) (.J x)=_;rw[dkc,List.set_append_right (h:=by rw[xpv];omega),xpv,Nat.add_sub_cancel_left,List.set_append_left (h:=by rw[xjz,w.1];exact h),yfd];rfl
theorem ykl(w:d.wf){i:Nat}{x:Int}(h:i<26):B6 (dkc A d tr) (37+i) [.J x]=dkc A {d with kept:=d.kept.set i x} tr:=by
 show(dkc A d tr).set (37+i) (.J x)=_;rw[dkc,List.set_append_right (h:=by rw[xpv];omega),xpv,List.set_append_right (h:=by rw[xjz,w.1];omega),xjz,w.1,List.set_append_left (h:=by rw[xjz,w.2];omega),show 37+i-11-26=i by omega,yfd];rfl
theorem yej(w:d.wf){H:Dt}(w':H.wf):B6 (dkc A d tr) 11 (iv H.Da++iv H.kept)=dkc A {d with Da:=H.Da,kept:=H.kept} tr:=by
 have e:(tcs A d.t).length=11:=rfl;have O:(iv H.Da++iv H.kept).length=52:=by rw[List.length_append,xjz,xjz,w'.1,w'.2]
 have M:(iv d.Da++iv d.kept).length=52:=by rw[List.length_append,xjz,xjz,w.1,w.2]
 rw[dkc,xih e (by simp[xjz,w.1,w.2,w'.1,w'.2]),O,<- List.append_assoc (iv d.Da),List.drop_left' M];simp[dkc,List.append_assoc]
theorem xb2{H:TA}{M:Twn}:B6 (dkc A d tr) 0 (tcs H M)=dkc H {d with t:=M } tr:=by
 have:=xih (a:=[]) (r:=dkc A d tr) (vs:=tcs H M) (n:=0) rfl (by rw[dkc,List.length_append];simp);rw[List.nil_append]at this;rw[this];rfl
end
structure SnP(p:Ab)(A:TA)(d:Dt):Prop where
 T:TwP p A d.t
 ok:B9 d.t=0
 w:d.wf
theorem SnP.mono{p p':Ab}{A:TA}{d:Dt}(s:SnP p A d)(H:PLe p p'):SnP p' A d:=⟨s.T.mono H,s.ok,s.w⟩
def K4(xs:List (TA×Dt)):List (List Value):=xs.map fun x=>dkc x.1 x.2 (.slice none 0 0)
structure Hr(p:Ab)(a:Option Addr)(c:Nat)(xs:List (TA×Dt)):Prop where
 c:xs.length<=c
 s:Sl p a xs.length 64 (K4 xs)
 e:∀x∈xs,SnP p x.1 x.2
theorem Hr.mono{p p':Ab}{a:Option Addr}{c:Nat}{xs:List (TA×Dt)}(s:Hr p a c xs)(H:PLe p p'):Hr p' a c xs:=⟨s.c,s.s.mono H,fun x M=>(s.e x M).mono H⟩
structure DkP(p:Ab)(D:Dsk)(ob:Obj)(T:TypeId):Prop where
 h:∃A a c xs,ob=.cells (dkc A D.now (.slice a xs.length c)).toArray T (0,0)/\SnP p A D.now/\Hr p a c xs/\xs.map (·.2)=D.Ci
theorem xqf(d:Dt)(s:Str):∀xs:List Str,Bo d (xs++[s])=match Bo d xs with
  |none=>none
  |some vs=>(Kx d s).map fun n=>vs++[n]
 |[]=>by
   rw[List.nil_append,Bo,Bo];cases Kx d s<;>rfl
 |x::xs=>by
   rw[List.cons_append,Bo,Bo,xqf d s xs];cases Kx d x with
   |none=>rfl
   |some n=>
     cases Bo d xs with
     |none=>rfl
     |some vs=>cases Kx d s<;>rfl
theorem xrm(d:Dt){xs:List Str}(h:Bo d xs=none):∀H:List Str,Bo d (xs++H)=none:=by
 induction xs with
 |nil=>cases h
 |cons x xs ih=>
   intro H;rw[List.cons_append,Bo];rw[Bo]at h;cases M:Kx d x with
   |none=>rfl
   |some n=>
     rw[M]at h;simp only at h⊢;rw[ih (by simpa using h) H];rfl
theorem xid(d:Dt):∀{xs:List Str}{vs:List Int},Bo d xs=some vs->vs.length=xs.length
 |[],_,h=>by cases h;rfl
 |x::xs,vs,h=>by
   rw[Bo]at h;cases H:Kx d x with
   |none=>rw[H]at h;cases h
   |some n=>
     rw[H]at h;obtain⟨O,M,rfl⟩:=Option.map_eq_some_iff.1 h;rw[List.length_cons,xid d M,List.length_cons]
theorem xp2{d:Dt}{s:Str}(h:isLet s=true):Kx d s=if d.kept.getD (Dl s) 0=0 then none else some (d.Da.getD (Dl s) 0):=by unfold Kx;rw[if_pos h]
theorem xjp{d:Dt}{s:Str}(h:¬ isLet s=true):Kx d s=some ((C8 s).getD 0):=by unfold Kx;rw[if_neg h]
theorem ydd{s:Str}(h:isLet s=true):(s.getD 0 0).toNat=97+Dl s/\Dl s<26/\0<s.length:=by
 have z:=xwl.1 h;have e:s.headD 0=s.getD 0 0:=by cases s<;>rfl
 unfold Dl;rw[e];omega
theorem ygm{xs:List Str}{j:Nat}(h:j<xs.length):xs.getD j []∈xs/\xs.take (j+1)=xs.take j++[xs.getD j []]:=by
 have e:xs.getD j []=xs[j]:=by rw[List.getD_eq_getElem?_getD,List.getElem?_eq_getElem h];rfl
 rw[e];exact⟨List.getElem_mem _,by rw[List.take_succ_eq_append_getElem h]⟩
open Go.Conc
theorem xos{z l:List Value}(h:l.length=z.length):B6 z 0 l=l:=by
 have:=xih (a:=[]) (r:=z) (vs:=l) (n:=0) rfl om;rw[List.nil_append]at this;rw[this,h,List.drop_length,List.append_nil];rfl
theorem Mw{w:Nat}{z:List Value}{v:Value}(H:z.length=w)(hv:v.cells.toList.length=w):Instr.fill (fun i=>some (i*w,w)) z.toArray [(0,v)]=some v.cells:=by
 have e:=xhc (pl:=[(0,w)]) (vs:=[(0,v)]) (cs:=z) (r:=v.cells.toList) (by
  unfold Fe;simp only[Ns];rw[hv,Nat.beq_refl,show Nat.ble (0+w) z.length=true from Nat.ble_eq ▸ (show 0+w<=z.length by omega)];simp only[Bool.and_self];rw[Fe,xos om])
 simp only[Instr.fill,List.getElem?_cons_zero,Nat.zero_mul]at e⊢;simpa using e
def zT:Twn:=⟨⟨[],[],0,0,0⟩,⟨[],[],[]⟩,⟨0,0,[]⟩⟩
def zA:TA:=⟨(none,0),(none,0),(none,0),(none,0),(none,0),(none,0)⟩
def zS:Dt:=⟨zT,List.replicate 26 0,List.replicate 26 0⟩
theorem yqh{A:TA}{d:Dt}(w:d.wf):Fe [(0,11),(11,52),(63,1)] (dkc zA zS (.slice none 0 0)) [(0,.agg (tcs A d.t).toArray),(1,.agg (iv d.Da++iv d.kept).toArray)]=some (dkc A d (.slice none 0 0)):=by
 have O:zS.wf:=⟨rfl,rfl⟩
 have H:(iv d.Da++iv d.kept).length=52:=by rw[List.length_append,xjz,xjz,w.1,w.2]
 have V:(Value.agg (tcs A d.t).toArray).cells.toList=tcs A d.t:=rfl;have M:(Value.agg (iv d.Da++iv d.kept).toArray).cells.toList=iv d.Da++iv d.kept:=by simp[Value.cells]
 unfold Fe;simp only[Ns];rw[V,xpv,show Nat.beq 11 11=true from rfl,xqc O,show Nat.ble (0+11) 64=true from rfl];simp only[Bool.and_self];rw[xb2];have w1:({zS with t:=d.t}:Dt).wf:=⟨rfl,rfl⟩
 unfold Fe;simp only[Ns];rw[M,H,show Nat.beq 52 52=true from rfl,xqc w1,show Nat.ble (11+52) 64=true from rfl];simp only[Bool.and_self];rw[yej w1 w];rfl
end Go.X.Ms
namespace Go.X
open Go.Conc
section
variable{X:Cx}{k:List Item}{ops:List Oper}{m:Ks}{l:Env}{p:Ab}{LF LL:List Pcs}{effs todo:List Nat}{dd:Nat}{ty:TypeId}{pos:String}{aft:Array Edge}{x:Operand}{i w:Nat}{v:Value}
theorem ykr{M eT:TypeId}{z:Value}{cs:List Value}(ho:ops[i]?=some ⟨some dd,.buildSlice M 1 #[(0,x)],ty,pos,aft,none⟩)(V:Mp l [(0,x)]=some [(0,v)])(hv:v.cells=cs.toArray)(hw:cs.length=w)[hT:Bv X.P M eT][hs:Ai X.P eT w][hz:A5 X.P eT z]
 (nx:∀u Y,Ac eT w u [cs] Y->DE X k ops m p LF effs todo ((dd,none,u)::l) (Y::LL))(he:effs.contains i=true:=by rfl)(O:w<=1000:=by decide):DE X k ops m p LF effs (i::todo) l LL:=by
 have H:chs w 1 v.cells.toList=[cs]:=by
  rw[hv,chs,chs,List.take_of_length_le (by simp;omega)]
 refine xvk (cells:=v.cells) (parts:=[(0,x)]) ho V (fun u Y o=>nx u Y (by rw[H]at o;exact o)) he (Ms.Mw s_ (by rw[hv];simpa using hw)) (by rw[H,hv];simp) (by rw[H];simp[hw]) (by rw[H];rfl) om
end
end Go.X
namespace Go.X.Ms
theorem xd3(xs:List (TA×Dt)):(K4 xs).length=xs.length:=by simp[K4]
theorem yjf{xs:List (TA×Dt)}{i:Nat}(h:i<xs.length):(K4 xs)[i]?=some (dkc (xs[i]'h).1 (xs[i]'h).2 (.slice none 0 0)):=by
 rw[K4,List.getElem?_map,List.getElem?_eq_getElem h];rfl
theorem yls{A:TA}{d:Dt}{tr:Value}(h:A7 tr=true):∀u∈dkc A d tr,A7 u=true:=by
 intro u H;simp only[dkc,tcs,iv,List.mem_append,List.mem_cons,List.not_mem_nil,or_false,List.mem_map]at H;rcases H with(rfl|rfl|rfl|rfl|rfl|rfl|rfl|rfl|rfl|rfl|rfl)|⟨_,_,rfl⟩|⟨_,_,rfl⟩|rfl
 all_goals first|rfl|exact h
end Go.X.Ms
namespace Go.X
open Go.Conc
section
variable{X:Cx}{k:List Item}{ops:List Oper}{m:Ks}{l:Env}{p:Ab}{LF LL LR:List Pcs}{effs todo:List Nat}{d:Option Tmp}{ty:TypeId}{pos:String}{aft:Array Edge}{gd:Option (Nat×Bool)}{g:Option Bool}{ss:List Prop}{x:Operand}{i:Nat}
theorem ypd{t:TypeId}{b off:Nat}{cs:Array Value}{T:TypeId}{z:Nat×Nat}{u:Value}(M:ops[i]?=some ⟨d,.load t x,ty,pos,aft,gd⟩)(H:gdc ops l gd=some g)(V:evS l x=some (ss,w_ b off))(hs:Av g (Ax ss))[a:Bw X.P t false][mm:Bx LL b (.cells cs T z) LR]
 (n:DE X k ops m p LF effs todo (ent d g u l) LL)(hv:nth cs.toList off=some u)(O:N3 ops effs todo i=true:=by kernel_rfl):DE X k ops m p LF effs (i::todo) l LL:=
 xt5 M H rfl (xuq hs fun hs _ _ E s=>xwb (i:=0) (s.perm (List.perm_append_comm.trans (List.Perm.append_right LF.flatten mm.h))) a.h (xeq E V hs) rfl (by rw[<- Array.getElem?_toList];exact xsl hv)) n O
end
end Go.X
namespace Go.X.Ms
def Rs.ok:Rs->Prop
 |.num n=>i64 n
 |.spn a b=>i64 a/\i64 b
 |.lst l=>l.length<=100/\ ∀i,i<l.length->i64 (l.getD i 0)
end Go.X.Ms
namespace Go.X
open Go.Conc
section
variable{X:Cx}{k:List Item}{ops:List Oper}{m:Ks}{l:Env}{p:Ab}{LF LL:List Pcs}{effs todo:List Nat}{d:Option Tmp}{ty:TypeId}{pos:String}{aft:Array Edge}{x y:Operand}{i:Nat}
theorem ygr{t e:TypeId}{w len j b o:Nat}{k1:IntKind}(O:X.P.underlying t=some (.array len e))(V:ops[i]?=some ⟨d,.indexAddr t x y,ty,pos,aft,none⟩)(M:evS l x=some ([],w_ b o))(H:evS l y=some ([],.int k1 ((j:Nat):Int)))(h:j<len)[sz:Ai X.P e w](n:DE X k ops m p LF effs todo (ent d none (.pointer (some ⟨b,o+j*w,none⟩)) l) LL):
 DE X k ops m p LF effs (i::todo) l LL:=xuz (g:=none) V rfl rfl (fun _ _ _ E _=>by
  have z:=xvg (d:=d) (ty:=ty) (pos:=pos) (aft:=aft) (gd:=none) (h:=by assumption) O sz.h (xeq E M trivial) (xeq E H trivial) h;rw[xsx]at z;exact z) n
end
end Go.X
namespace Go.X.Ms
theorem yef{n:Nat}:∀c∈txt (n:Int),Ep c=true:=by
 have e:txt (n:Int)=Dk n:=by unfold txt;rw[if_neg om,Int.natAbs_natCast]
 rw[e];exact xlp
theorem ycf{n:Nat}{d:UInt8}(h:txt (n:Int)=[d]):n+48=d.toNat:=by
 have e:txt (n:Int)=Dk n:=by unfold txt;rw[if_neg om,Int.natAbs_natCast]
 rw[e]at h;by_cases H:n<10
 ·rw[xuj H]at h;have h:UInt8.ofNat (48+n)=d:=List.head_eq_of_cons_eq h;rw[<- h];have:(48+n)%256=48+n:=Nat.mod_eq_of_lt om;show _=(48+n)%256;omega
 ·have:=xxw (k:=1) (n:=n) om;rw[h]at this;simp at this
theorem xwx{w u:Str}{x d:UInt8}{n:Nat}(h:w++txt (n:Int)=u++[x,d])(hx:Ep x=false):n+48=d.toNat:=by
 have H:=congrArg List.reverse h;rw[List.reverse_append,List.reverse_append]at H;have M:=xf8 (n:Int);have V:=yef (n:=n);have O:∀c∈(txt (n:Int)).reverse,Ep c=true:=fun c hc=>V c (List.mem_reverse.1 hc);cases e:(txt (n:Int)).reverse with
 |nil=>have:=congrArg List.length e;rw[List.length_reverse]at this;simp at this;rw[this]at M;simp at M
 |cons y t=>
   rw[e]at H O;have h2:y::(t++w.reverse)=d::x::u.reverse:=H;injection h2 with e1 e2;subst e1;cases t with
   |nil=>
     refine ycf ?_;have:=congrArg List.reverse e;rwa[List.reverse_reverse]at this
   |cons z t=>
     injection e2 with e3 e4;have:=O z s_;rw[e3,hx]at this;cases this
theorem yrg{w:Str}{n:Nat}{q:Qn}(h:qn (w++txt (n:Int))=some q):n=q.ar:=by
 unfold qn at h;by_cases c0:w++txt (n:Int)=[102,101,119,101,115,116,48]
 ·rw[if_pos c0]at h;cases h;have:=xwx (u:=[102,101,119,101,115]) c0 d_;show n=0;have e:(48:UInt8).toNat=48:=rfl;omega
 rw[if_neg c0]at h;by_cases O:w++txt (n:Int)=[99,104,101,97,112,48]
 ·rw[if_pos O]at h;cases h;have:=xwx (u:=[99,104,101,97]) O d_;show n=0;have e:(48:UInt8).toNat=48:=rfl;omega
 rw[if_neg O]at h;by_cases H:w++txt (n:Int)=[100,101,101,112,49]
 ·rw[if_pos H]at h;cases h;have:=xwx (u:=[100,101,101]) H d_;show n=1;have e:(49:UInt8).toNat=49:=rfl;omega
 rw[if_neg H]at h;by_cases M:w++txt (n:Int)=[110,101,120,116,49]
 ·rw[if_pos M]at h;cases h;have:=xwx (u:=[110,101,120]) M d_;show n=1;have e:(49:UInt8).toNat=49:=rfl;omega
 rw[if_neg M]at h;by_cases c4:w++txt (n:Int)=[109,111,115,116,48]
 ·rw[if_pos c4]at h;cases h;have:=xwx (u:=[109,111,115]) c4 d_;show n=0;have e:(48:UInt8).toNat=48:=rfl;omega
 rw[if_neg c4]at h;by_cases c5:w++txt (n:Int)=[108,97,99,107,115,48]
 ·rw[if_pos c5]at h;cases h;have:=xwx (u:=[108,97,99,107]) c5 d_;show n=0;have e:(48:UInt8).toNat=48:=rfl;omega
 rw[if_neg c5]at h;by_cases c6:w++txt (n:Int)=[100,114,97,119,115,49]
 ·rw[if_pos c6]at h;cases h;have:=xwx (u:=[100,114,97,119]) c6 d_;show n=1;have e:(49:UInt8).toNat=49:=rfl;omega
 rw[if_neg c6]at h;by_cases c7:w++txt (n:Int)=[100,114,121,49]
 ·rw[if_pos c7]at h;cases h;have:=xwx (u:=[100,114]) c7 d_;show n=1;have e:(49:UInt8).toNat=49:=rfl;omega
 rw[if_neg c7]at h;by_cases c8:w++txt (n:Int)=[115,104,111,114,116,48]
 ·rw[if_pos c8]at h;cases h;have:=xwx (u:=[115,104,111,114]) c8 d_;show n=0;have e:(48:UInt8).toNat=48:=rfl;omega
 rw[if_neg c8]at h;by_cases c9:w++txt (n:Int)=[101,109,112,116,121,48]
 ·rw[if_pos c9]at h;cases h;have:=xwx (u:=[101,109,112,116]) c9 d_;show n=0;have e:(48:UInt8).toNat=48:=rfl;omega
 rw[if_neg c9]at h;by_cases c10:w++txt (n:Int)=[108,101,97,115,116,48]
 ·rw[if_pos c10]at h;cases h;have:=xwx (u:=[108,101,97,115]) c10 d_;show n=0;have e:(48:UInt8).toNat=48:=rfl;omega
 rw[if_neg c10]at h;by_cases c11:w++txt (n:Int)=[114,97,116,105,111,110,48]
 ·rw[if_pos c11]at h;cases h;have:=xwx (u:=[114,97,116,105,111]) c11 d_;show n=0;have e:(48:UInt8).toNat=48:=rfl;omega
 rw[if_neg c11]at h;by_cases c12:w++txt (n:Int)=[115,112,97,114,101,49]
 ·rw[if_pos c12]at h;cases h;have:=xwx (u:=[115,112,97,114]) c12 d_;show n=1;have e:(49:UInt8).toNat=49:=rfl;omega
 rw[if_neg c12]at h;by_cases c13:w++txt (n:Int)=[108,101,118,101,108,49]
 ·rw[if_pos c13]at h;cases h;have:=xwx (u:=[108,101,118,101]) c13 d_;show n=1;have e:(49:UInt8).toNat=49:=rfl;omega
 rw[if_neg c13]at h;cases h
theorem yah{w:Str}{n:Nat}{q:Od}(h:od (w++txt (n:Int))=some q):n=q.ar:=by
 unfold od at h;by_cases c0:w++txt (n:Int)=[114,111,99,107,52]
 ·rw[if_pos c0]at h;cases h;have:=xwx (u:=[114,111,99]) c0 d_;show n=4;have e:(52:UInt8).toNat=52:=rfl;omega
 rw[if_neg c0]at h;by_cases O:w++txt (n:Int)=[102,111,111,116,49]
 ·rw[if_pos O]at h;cases h;have:=xwx (u:=[102,111,111]) O d_;show n=1;have e:(49:UInt8).toNat=49:=rfl;omega
 rw[if_neg O]at h;by_cases H:w++txt (n:Int)=[117,112,48]
 ·rw[if_pos H]at h;cases h;have:=xwx (u:=[117]) H d_;show n=0;have e:(48:UInt8).toNat=48:=rfl;omega
 rw[if_neg H]at h;by_cases M:w++txt (n:Int)=[104,111,117,115,101,49]
 ·rw[if_pos M]at h;cases h;have:=xwx (u:=[104,111,117,115]) M d_;show n=1;have e:(49:UInt8).toNat=49:=rfl;omega
 rw[if_neg M]at h;by_cases c4:w++txt (n:Int)=[119,101,108,108,49]
 ·rw[if_pos c4]at h;cases h;have:=xwx (u:=[119,101,108]) c4 d_;show n=1;have e:(49:UInt8).toNat=49:=rfl;omega
 rw[if_neg c4]at h;by_cases c5:w++txt (n:Int)=[119,97,110,116,50]
 ·rw[if_pos c5]at h;cases h;have:=xwx (u:=[119,97,110]) c5 d_;show n=2;have e:(50:UInt8).toNat=50:=rfl;omega
 rw[if_neg c5]at h;by_cases c6:w++txt (n:Int)=[104,97,115,50]
 ·rw[if_pos c6]at h;cases h;have:=xwx (u:=[104,97]) c6 d_;show n=2;have e:(50:UInt8).toNat=50:=rfl;omega
 rw[if_neg c6]at h;by_cases c7:w++txt (n:Int)=[119,97,121,50]
 ·rw[if_pos c7]at h;cases h;have:=xwx (u:=[119,97]) c7 d_;show n=2;have e:(50:UInt8).toNat=50:=rfl;omega
 rw[if_neg c7]at h;by_cases c8:w++txt (n:Int)=[100,97,121,51]
 ·rw[if_pos c8]at h;cases h;have:=xwx (u:=[100,97]) c8 d_;show n=3;have e:(51:UInt8).toNat=51:=rfl;omega
 rw[if_neg c8]at h;by_cases c9:w++txt (n:Int)=[115,105,122,101,49]
 ·rw[if_pos c9]at h;cases h;have:=xwx (u:=[115,105,122]) c9 d_;show n=1;have e:(49:UInt8).toNat=49:=rfl;omega
 rw[if_neg c9]at h;cases h
theorem xmw:∀{s x:Str},x∈Ad s->x.length<=s.length
 |[],x,h=>by simp[Ad]at h;subst h;exact Nat.le_refl _
 |c::s,x,h=>by
   rw[Ad]at h;split at h
   ·rcases List.mem_cons.1 h with rfl|h
    ·exact Nat.zero_le _
    ·have:=xmw h;simp;omega
   ·rcases List.mem_cons.1 h with rfl|h
    ·have:(Ad s).headD []∈Ad s:=by
      cases e:Ad s with
      |nil=>exact absurd e (xoj s)
      |cons a t=>simp
     have:=xmw this;simp only[List.length_cons];omega
    ·have:=xmw (List.mem_of_mem_tail h);simp;omega
theorem xpf{p:Ab}{a:Option Addr}{n c:Nat}{xs:List Str}(S:B4 p a n xs)(j:Nat)(H:j<=n)(hc:n<=c):B4 p (Ft a c j 1) (n-j) (xs.drop j):=by
 have M:=S.len;have z:=Sl.cut (lo:=j) (hi:=n) (a':=Ft a c j 1) S H (Nat.le_refl _) fun h=>by
  have e:=B4.ne S om;rw[e,xsc om];rfl
 have e:((scs xs).drop j).take (n-j)=scs (xs.drop j):=by
  rw[List.take_of_length_le (by rw[List.length_drop,xdz];omega)];simp[scs]
 rw[e]at z;exact z
theorem xo8{o:Od}{t M:Twn}{a:List Int}{n:Nat}(h:B7 o t a=some M)(hn:t.fit n):M.fit (n+1):=by
 obtain⟨⟨h1,h2⟩,⟨O,V,h5⟩,h6⟩:=hn;have H:∀{l l':List Int}{i x:Int},Kn l i x=some l'->l'.length=l.length:=fun{l l' i x}e=>by
  unfold Kn at e;split at e
  ·cases e;simp
  ·cases e
 unfold Flow.Tn.nH at O;unfold Flow.Tn.nW at V;unfold Flow.Tn.m at h5;cases o<;>simp only[B7]at h
 case up=>
  split at h
  ·cases h
  ·cases h;refine⟨⟨?_,?_⟩,⟨?_,?_,?_⟩,?_⟩<;>first|(simp only[Flow.Tn.nH,Flow.Tn.nW,Flow.Tn.m,List.length_take];omega)|omega
 case want=>
  obtain⟨l,e,rfl⟩:=Option.map_eq_some_iff.1 h;have:=H e;refine⟨⟨?_,?_⟩,⟨?_,?_,?_⟩,?_⟩<;>first|(simp only[Flow.Tn.nH,Flow.Tn.nW,Flow.Tn.m];omega)|omega
 case has=>
  obtain⟨l,e,rfl⟩:=Option.map_eq_some_iff.1 h;have:=H e;refine⟨⟨?_,?_⟩,⟨?_,?_,?_⟩,?_⟩<;>first|(simp only[Flow.Tn.nH,Flow.Tn.nW,Flow.Tn.m];omega)|omega
 all_goals
  cases h;refine⟨⟨?_,?_⟩,⟨?_,?_,?_⟩,?_⟩<;>first|(simp only[Flow.Tn.nH,Flow.Tn.nW,Flow.Tn.m,Q0,List.length_append,List.length_cons,List.length_nil,List.length_take,List.length_drop];omega)|omega
theorem xwk(D:Dsk)(M H:Str)(args:List Str):Cl D M (H::args)=if args.all Bb=false\/(qn (H++txt args.length)=none/\(M≠[]\/(od (H++txt args.length)=none/\Co H args.length=false)))then(D,Ew)
 else match Bo D.now args with
  |none=>(D,D4)
  |some vs=>match qn (H++txt args.length)with
    |some q=>Eu D q vs M
    |none=>if Co H args.length=true then((tryD D H).1,Ki (tryD D H).2)
      else match od (H++txt args.length)with
       |none=>(D,wNo)
       |some o=>match B7 o D.now.t vs with
         |none=>(D,wNo)
         |some t=>if B9 t=0 then({D with now:={D.now with t:=t}},wOk)else(D,wNo):=rfl
theorem xqs(x:Str):∀(xs:List Str)(d:Dsk),Ds d (xs++[x])=((doD (Ds d xs).1 x).1,(Ds d xs).2++[(doD (Ds d xs).1 x).2])
 |[],d=>rfl
 |y::ys,d=>by
   rw[List.cons_append,Ds,xqs x ys];rfl
theorem xpp:∀(xs:List Str)(d:Dsk),(Ds d xs).2.length=xs.length
 |[],_=>rfl
 |x::xs,d=>by rw[Ds];simp[xpp xs]
theorem xp8(d:Dsk)(w:Str):(tryD d w).1.Ci.length<=d.Ci.length+1:=by
 unfold tryD;split
 ·simp
 ·split
  ·simp
  ·split<;>simp<;>omega
theorem xc7{d:Dsk}{l:Str}{r:Rs}:(Ka d l r).Ci=d.Ci:=by cases r<;>rfl
theorem xg0(d:Dsk)(q:Qn)(a:List Int)(l:Str):(Eu d q a l).1.Ci=d.Ci:=by
 unfold Eu;split
 ·rfl
 ·split
  ·rfl
  ·split
   ·exact xc7
   ·rfl
theorem xun(d:Dsk)(l w:Str)(args:List Str):(Cl d l (w::args)).1.Ci.length<=d.Ci.length+1:=by
 rw[xwk];split
 ·simp
 ·cases Bo d.now args with
  |none=>simp
  |some vs=>
    cases qn (w++txt args.length)with
    |some q=>simp only;rw[xg0];omega
    |none=>
      simp only;split
      ·exact xp8 d w
      ·cases od (w++txt args.length)with
       |none=>simp
       |some o=>
         simp only;cases B7 o d.now.t vs with
         |none=>simp
         |some t=>simp only;split<;>simp
theorem ywb(d:Dsk)(x:Str):(doD d x).1.Ci.length<=d.Ci.length+1:=by
 have e:∀(l:Str)(H:List Str),(Cl d l H).1.Ci.length<=d.Ci.length+1:=fun l H=>by
  cases H with
  |nil=>exact xun d l [] []
  |cons w args=>exact xun d l w args
 unfold doD;simp only;split
 ·split
  ·simp
  ·exact e _ _
 ·exact e _ _
theorem xrs:∀(xs:List Str)(d:Dsk),(Ds d xs).1.Ci.length<=d.Ci.length+xs.length
 |[],_=>by simp[Ds]
 |x::xs,d=>by
   have:=xrs xs (doD d x).1;have:=ywb d x;rw[Ds,List.length_cons];simp only;omega
noncomputable def Gi(t:Twn)(ls:List Str):List Str×Twn:=if B9 t≠0\/30<ls.length then([],zT)else((Ds (Al t) ls).2,(Ds (Al t) ls).1.now.t)
noncomputable def Mb(t:Twn)(ls:List Str):Int:=if B9 t≠0 then B9 t else if 30<ls.length then 2 else 0
end Go.X.Ms
namespace Go.X.Flow
theorem yvk{f:Nat->Int}{B:Int}:∀{k:Nat},(∀i,i<k->0<=f i/\f i<=B)->0<=sm k f/\sm k f<=B*k
 |0,_=>by simp[sm]
 |k+1,h=>by
   have M:=yvk (f:=f) (B:=B) (k:=k) fun i hi=>h i om;have H:=h k om;rw[sm];have e:B*((k+1:Nat):Int)=B*(k:Int)+B:=by rw[Int.natCast_succ,Int.mul_add,Int.mul_one]
   omega
theorem xns{t:Tn}(hn:t.nH<=6):∀k,k<=2^t.nH->(Ay t k).length<=6/\ ∀i,i<(Ay t k).length->0<=(Ay t k).getD i 0/\(Ay t k).getD i 0<6
 |0,_=>by simp[Ay]
 |k+1,hk=>by
   have H:=xns hn k om;rw[Ay];split
   ·have M:2^t.nH<=2^6:=Nat.pow_le_pow_right d_ hn;exact⟨xh0 k om,fun i hi=>by have:=yfm (k:=6) (g:=k) d_ om i hi;omega⟩
   ·exact H
theorem xv4{α:Type}{q:α->Bool}:∀{ds:List α},C2 q ds<(ds.length:Int)
 |[]=>by show(-1:Int)<((0:Nat):Int);decide
 |d::ds=>by
   have:=xv4 (q:=q) (ds:=ds);rw[C2,List.length_cons];split
   ·omega
   ·split<;>omega
end Go.X.Flow
namespace Go.X.Ms
open Go.X.Flow Go.Proofs.YtblcmdjhidhnjaaGreatDoor
abbrev m6(n:Int):Prop:=-1000000<=n/\n<=1000000
def Rs.m6:Rs->Prop
 |.num n=>Ms.m6 n
 |.spn a b=>Ms.m6 a/\Ms.m6 b
 |.lst l=>l.length<=60/\ ∀i,i<l.length->Ms.m6 (l.getD i 0)
theorem xn0{q:Nat->Bool}:∀{f k r:Nat},Cist.Kl q k f=some r->r<k+f
 |0,k,r,h=>by cases h
 |f+1,k,r,h=>by
   rw[Cist.Kl]at h;split at h
   ·cases h;omega
   ·have:=xn0 h;omega
theorem xz4{o:Option Nat}{n:Nat}(h:∀r,o=some r->r<n)(hn:n<=1000):m6 (Cist.found o).1:=by
 cases o with
 |none=>exact d_
 |some r=>have:=h r rfl;exact(by show -1000000<=((r:Nat):Int)/\((r:Nat):Int)<=1000000;omega)
theorem xpn(size start:Int)(ds:List Cist.Day):∀k:Nat,0<=Cist.B8 size start ds k/\Cist.B8 size start ds k<=k
 |0=>by simp[Cist.B8]
 |k+1=>by
   have:=xpn size start ds k;rw[Cist.B8];split<;>omega
theorem xr5(s:Shf)(H:Int):∀k,Kd s H k<=k
 |0=>Nat.le_refl _
 |k+1=>by
   have:=xr5 s H k;rw[Kd];split<;>omega
theorem yhp{l:List Int}(h:∀z∈l,m6 z):∀i,i<l.length->m6 (l.getD i 0):=fun i hi=>by
 rw[List.getD_eq_getElem?_getD,List.getElem?_eq_getElem hi];exact h _ (List.getElem_mem hi)
theorem ynr(q:Qn)(t:Twn)(a:List Int)(hv:B9 t=0):(Bs q t a).1.m6:=by
 obtain⟨h1,V,h3⟩:=xhj.1 hv;have ok:t.s.ok:=by
  unfold Hc at h1;split at h1
  ·assumption
  ·cases h1
 have O:=xtn V;have Y:=Cist.Bu.1 h3;have hl:=ok.2.2.1;have a2:=Y.2.2.2.2.1;have D:∀{w:Wi},Sg w->Div t.b (Cr t.b w):=fun S=>(xrw O.toOk S).div;cases q with
 |fewest=>
   have hw:okW _ (Dq ltF t.s 12):=xzb (lt:=ltF) ok (k:=min 12 t.s.Ag.length) 0;unfold okW at hw;show m6 (Fi t.s);unfold Fi;split
   ·exact om
   ·exact d_
 |cheap=>
   by_cases h:Cb ltC t.s=0
   ·have:=xyb (s:=t.s) h;exact(by show -1000000<=Ch t.s/\Ch t.s<=1000000;omega)
   ·show m6 (Ch t.s);rw[Ch,if_neg h];decide
 |deep=>
   show m6 (Ke t.s (a.getD 0 0));unfold Ke;split
   ·have:=xr5 t.s (a.getD 0 0) t.s.Ag.length;exact om
   ·exact d_
 |next=>
   show m6 (Ha t.s (a.getD 0 0));unfold Ha;by_cases hn:Fa t.s (a.getD 0 0)=0
   case neg=>rw[if_neg hn];decide
   rw[if_pos hn];unfold Fa at hn;split at hn
   ·rename_i z;exact absurd hn z
   split at hn
   ·cases hn
   split at hn
   ·rename_i z;exact absurd hn z
   rename_i z;have b1:=xyb (s:=t.s) (Classical.not_not.1 z);have b2:=xyb hn;exact om
 |E8=>
   show m6 (Fx t.b);unfold Fx;rw[if_pos V];have:=yvk (f:=dv (Cr t.b Hw)) (B:=9) (k:=t.b.m) (xph O xbd);have hm:=O.nm;exact(by show -1000000<=tot t.b _/\tot t.b _<=1000000;unfold tot;omega)
 |Dy=>
   show(LKc t.b).length<=60/\_;rw[Ll V];refine⟨by rw[ypr];have:=O.nh;omega,yhp fun z hz=>?_⟩;obtain⟨k,M,rfl⟩:=ysx.1 hz;have b1:=(D xbd).hs k M;have b2:=O.h k M;have b3:=yvk (f:=fun i=>if t.b.wh i=k then dv (Cr t.b Hw) i else 0) (B:=9) (k:=t.b.m) (fun i hi=>by have:=xph O xbd i hi;unfold dv;split<;>omega);unfold Au;unfold draw at b1⊢;exact om
 |draws=>
   have b:∀s:Int,Sg ⟨a.getD 0 0,-1,s⟩->m6 (Ly t.b (a.getD 0 0) s):=fun s S=>by
    have b3:=yvk (f:=fun i=>if t.b.wh i=(a.getD 0 0).toNat then dv (Cr t.b ⟨a.getD 0 0,-1,s⟩) i else 0) (B:=9) (k:=t.b.m) (fun i hi=>by have:=xph O S i hi;unfold dv;split<;>omega);have hm:=O.nm;exact(by show -1000000<=draw t.b _ _/\draw t.b _ _<=1000000;unfold draw;omega)
   show m6 (Do t.b (a.getD 0 0) (-1))/\m6 (Do t.b (a.getD 0 0) 1);unfold Do;constructor<;>split<;>first|exact b _ ⟨s_,s_⟩|exact d_
 |dry=>
   show m6 (M2 t.b (a.getD 0 0));unfold M2 Oj;split
   ·split
    ·exact d_
    ·split<;>exact d_
   ·exact d_
 |short=>
   show(F8 t.b).length<=60/\_;rw[xtf V];have b:=xns O.nh (2^t.b.nH) (Nat.le_refl _);exact⟨by have:=b.1;show(Ay t.b _).length<=60;omega,fun i hi=>by have:=b.2 i hi;exact(by show -1000000<=(Ay t.b _).getD i 0/\(Ay t.b _).getD i 0<=1000000;omega)⟩
 |empty=>
   show m6 (Cist.Mi t.y.size t.y.start t.y.days).1;rw[Cist.Mi,if_pos Y];have:=xv4 (q:=fun d=>decide (0<d.hi)) (ds:=Cist.side t.y.size (min t.y.start t.y.size) (Cist.Ak t.y.days) (Cist.Fo t.y.days) t.y.days.length);rw[Cist.B2]at this;have e:Cist.Nk t.y.size t.y.start t.y.days<(t.y.days.length:Int):=this;show m6 (if Cist.Nk t.y.size t.y.start t.y.days<0 then 0 else Cist.Nk t.y.size t.y.start t.y.days);split<;>exact om
 |least=>
   show m6 (Cist.Gm t.y.size t.y.start t.y.days).1;rw[Cist.Gm,if_pos Y];exact xz4 (n:=61) (fun r hr=>by have:=xn0 hr;omega) d_
 |ration=>
   show m6 (if Cist.Ok t.y.size t.y.start t.y.days then Cist.B8 t.y.size t.y.start t.y.days 20 else 0);rw[if_pos Y];have:=xpn t.y.size t.y.start t.y.days 20;exact om
 |spare=>
   have e:(Cist.Cy t.y.size t.y.start t.y.days (a.getD 0 0)).1=0\/(Cist.Cy t.y.size t.y.start t.y.days (a.getD 0 0)).1=(Cist.found (Cist.Pm t.y.size t.y.start t.y.days (a.getD 0 0))).1:=by
    unfold Cist.Cy;by_cases H:Cist.Kg t.y.size t.y.start t.y.days (decide (Cist.Df t.y.days (a.getD 0 0)))=0
    ·rw[if_pos H];by_cases c2:Cist.Cn t.y.size t.y.start t.y.days
     ·rw[if_pos c2];exact .inr rfl
     ·rw[if_neg c2];exact .inl rfl
    ·rw[if_neg H];exact .inl rfl
   show m6 (Cist.Cy t.y.size t.y.start t.y.days (a.getD 0 0)).1;rcases e with e|e
   ·rw[e];exact d_
   ·rw[e];exact xz4 (n:=100) (fun r hr=>by have:=xn0 hr;omega) d_
 |level=>
   show m6 (Cist.K5 t.y.size t.y.start t.y.days (a.getD 0 0)).1.1/\m6 (Cist.K5 t.y.size t.y.start t.y.days (a.getD 0 0)).1.2;unfold Cist.K5;by_cases H:Cist.Kg t.y.size t.y.start t.y.days (decide (Cist.Df t.y.days (a.getD 0 0)))=0
   ·rw[if_pos H];obtain⟨b1,b2,b3,b4⟩:=Y.both (n:=t.y.days.length) rfl;have hd:Cist.Df t.y.days (a.getD 0 0):=by
     unfold Cist.Kg at H;rw[if_pos Y]at H;by_cases z:Cist.Df t.y.days (a.getD 0 0)
     ·exact z
     ·rw[if_neg (by rw[decide_eq_true_iff];exact z)]at H;cases H
    have M:(a.getD 0 0).toNat+1<=t.y.days.length:=by have:=hd.1;have:=hd.2;omega
    have l1:=Cist.Cw (size:=t.y.size) (start:=min t.y.start t.y.size) (want:=Cist.Ak t.y.days) (rain:=Cist.Fo t.y.days) (n:=t.y.days.length) ⟨om,om⟩ (fun i hi=>(b2 i hi).1) _ M;have l2:=Cist.Cw (size:=t.y.size) (start:=min t.y.start t.y.size) (want:=Cist.Ak t.y.days) (rain:=Cist.K8 t.y.days) (n:=t.y.days.length) ⟨om,om⟩ (fun i hi=>(b2 i hi).1) _ M;have e:∀{n:Int},(0<=n/\n<=60)->m6 n:=fun h=>⟨om,om⟩
    exact⟨e (n:=Cist.lev _ _ _ _ _) om,e (n:=Cist.lev _ _ _ _ _) om⟩
   ·rw[if_neg H];exact⟨show m6 0 by decide,show m6 0 by decide⟩
theorem ywd(q:Qn)(t:Twn)(a:List Int)(hv:B9 t=0)(_:(Bs q t a).2=0):(Bs q t a).1.ok:=by
 have h:=ynr q t a hv;have e:∀{n:Int},m6 n->i64 n:=fun h=>⟨om,om⟩
 cases c:(Bs q t a).1 with
 |num n=>rw[c]at h;exact e h
 |spn x y=>rw[c]at h;exact⟨e h.1,e h.2⟩
 |lst l=>rw[c]at h;exact⟨by have:=h.1;omega,fun i hi=>e (h.2 i hi)⟩
end Go.X.Ms
namespace Go.Proofs.YtblcmdjhidhnjaaGreatDoor
open Go.Proofs.Tryz
open Go.X Go.X.Ms Go.Conc
section
variable{tT:TypeId}{zT:Nat×Nat}
theorem c372{md:Md}{h:Heap}{p:Ab}(M:Per p h)(n:Int)(hn:i64 n)(Z:p 5=some (.cells (Lib.pow10Tab.map (Value.int .u64)).toArray tT zT)):
 Aa prog md 372 #[.J n] h fun v O=>v=sv (txt n)/\Af h O:=by
 refine xdq M func372 fun _ _ _ K=>?_;refine xiq rfl rfl (fun _ V=>c82 V n hn Z) ?_;refine ax ?_;exact K.r rfl rfl fun _ H=>⟨rfl,H.kept⟩
theorem c379{md:Md}{h:Heap}{p:Ab}(hp:Per p h)(a b:Int)(M:i64 a)(O:i64 b)(Z:p 5=some (.cells (Lib.pow10Tab.map (Value.int .u64)).toArray tT zT)):
 Aa prog md 379 #[.agg #[.J a,.J b]] h fun v h'=>v=sv (txt a++([32,116,111,32]++txt b))/\Af h h':=by
 have l1:=xnv M;have l2:=xnv O;refine xdq hp func379 fun _ _ _ K=>?_;refine xgq rfl fun b1=>?_;refine ax ?_;refine xqq [] [0,1,2,3,4,5,6] ?_;refine ex ?_;refine xvz rfl rfl rfl (fun _ H=>c82 H a M Z) ?_;refine ex ?_;refine ysd (b:=[32,116,111,32]) rfl rfl rfl (by simp;omega) ?_;refine ex ?_;refine xvz rfl rfl rfl (fun _ H=>c82 H b O Z) ?_;refine ex ?_;refine ax ?_;refine xmd rfl rfl (by simp;omega) ?_;refine ax ?_;exact K.r rfl rfl fun _ V=>⟨by rw[<- List.append_assoc];rfl,V.kept⟩
theorem c373{md:Md}{h:Heap}{p:Ab}(hp:Per p h){a:Option Addr}{n:Nat}(c:Nat)(l:List Int)(I:As p a n l)(hn:n<=100)(hl:∀i,i<n->i64 (l.getD i 0))(Z:p 5=some (.cells (Lib.pow10Tab.map (Value.int .u64)).toArray tT zT)):
 Aa prog md 373 #[.slice a n c] h fun v h'=>v=sv (Nx l)/\Af h h':=by
 have a2:=I.len;refine xdq hp func373 fun _ _ _ K=>?_;refine xlq rfl (fun cc=>?_) (fun cc=>?_)
 ·refine ax ?_;have e:l=[]:=List.eq_nil_of_length_eq_zero om;subst e;exact K.r rfl rfl fun _ H_=>⟨rfl,H_.kept⟩
 refine lq fun M=>?_;refine ax ?_;refine xmq (fun m_ l' p_ L_=>∃(k:Nat)(X:Pcs),m_=n-k/\l'=[(3,none,w_ M 0),(9,none,.slice a n c),(10,none,.J ((n:Nat):Int)),(11,none,.J ((k:Nat):Int))]/\p_=p/\L_=[X]/\k<=n/\Np M (Lf l k) X) ⟨0,_,rfl,rfl,rfl,rfl,Nat.zero_le _,⟨none,.slice none 0 0,[],(List.append_nil _).symm,.inl rfl,.empty _ _⟩⟩ sb ?_;rintro _ _ p _ IH ⟨k,X,rfl,rfl,rfl,rfl,hk,B⟩;refine cq (fun cd=>?_) (fun cd=>?_)
 ·have V:k<n:=om;have hlen:=xar (fun i hi=>hl i om) k om;have ht:=xnv (hl k V);refine ax ?_;refine xiz (fun l' p_ L_=>∃(X:Pcs),l'=[(3,none,w_ M 0),(5,none,.J (l.getD k 0)),(9,none,.slice a n c),(10,none,.J ((n:Nat):Int)),(11,none,.J ((k:Nat):Int))]/\p_=p/\L_=[X]/\Np M (Lf l k++(if k=0 then []else [32])) X) ?_ fun k' H=>?_
  ·rintro _ p _ ⟨X,rfl,rfl,rfl,B⟩;refine ax ?_;refine xiq rfl rfl (fun _ pe=>c82 pe _ (hl k V) Z) ?_;refine ax ?_;refine xjl X rfl rfl (fun h C s=>c375 C X M B (by split<;>simp<;>omega) (txt (l.getD k 0)) om s) fun v X' B'=>?_;refine ax ?_;exact xhq (IH _ _ _ om ⟨k+1,X',rfl,rfl,rfl,rfl,om,by rw[Lf,<- List.append_assoc];exact B'⟩)
  ·refine xlq rfl (fun ce=>?_) (fun ce=>?_)
   ·refine ax ?_;refine xjl X rfl rfl (fun h C s=>c374 C X M B om 32 s) fun v X' B'=>?_;refine ax ?_;exact xhq (H _ _ _ ⟨X',rfl,rfl,rfl,by rw[if_neg om];exact B'⟩)
   ·refine ax ?_;exact xhq (H _ _ _ ⟨X,rfl,rfl,rfl,by rw[if_pos om,List.append_nil];exact B⟩)
 obtain rfl:k=l.length:=om;have hlen:=xar (fun i hi=>hl i om) l.length om;rw[ytv om]at B hlen;have O:0<(Nx l).length:=by
  cases l with
  |nil=>simp at a2;omega
  |cons x xs=>simp only[Nx,List.length_append];have:=xf8 x;omega
 refine ax ?_;refine xjl X rfl rfl (fun h C s=>c376 C X M B O om s) ?_;rintro _ X' rfl;refine ax ?_;exact K.r rfl rfl fun _ H_=>⟨rfl,H_.kept⟩
end
open Go.X.Flow (ics)
def Nj(o:Option (List Int))(v:Value)(p':Ab):Prop:=match o with
 |none=>v=.tuple #[.slice none 0 0,.bool false]
 |some vs=>∃a c,v=.tuple #[.slice a vs.length c,.bool true]/\As p' a vs.length vs
theorem c47{md:Md}{h:Heap}{p:Ab}(hp:Per p h)(b:Nat)(A:TA)(d:Dt){tr:Value}(w:d.wf)(hb:h[b]?=some (.cells (dkc A d tr).toArray 67 (0,0)))(a3:p b=none)(g:GlP p)
 {a:Option Addr}{n:Nat}(c:Nat)(xs:List Str)(S:B4 p a n xs)(hn:n<=1000)(hs:∀s∈xs,s.length<=900)(hc:∀s∈xs,Bb s=true):
 Aa prog md 47 #[w_ b 0,.slice a n c] h (Cz p h b fun v p' o'=>o'=.cells (dkc A d tr).toArray 67 (0,0)/\Nj (Bo d xs) v p'):=by
 have hl:=S.len;have S1:Sl p a n 1 (scs xs):=S;obtain⟨te,ue,tE,zE,E⟩:=g.es;obtain⟨a5,ur,tR,zR,R⟩:=g.er;obtain⟨tT,zT,Z⟩:=g.pw;refine xmz hp hb a3 func47 fun _ _ _ K=>?_;refine ax ?_;refine xzj 3 1 fun o0=>?_
 refine xmq (fun m_ l p_ L_=>∃(j:Nat)(v:Value)(vs:List Int)(Y:Pcs),m_=n-j/\l=[(0,none,w_ b 0),(6,none,v),(11,none,.slice a n c),(12,none,.J ((n:Nat):Int)),(13,none,.J ((j:Nat):Int))]/\p_=p/\L_=[Y,[(b,.cells (dkc A d tr).toArray 67 (0,0))]]/\j<=n/\Ac 3 1 v (ics vs) Y/\Bo d (xs.take j)=some vs)
  ⟨0,_,[],_,rfl,rfl,rfl,rfl,Nat.zero_le _,o0,rfl⟩ sb ?_
 rintro _ _ p _ IH ⟨j,v,vs,Y,rfl,rfl,rfl,rfl,hj,o,hv⟩;refine cq (fun cd=>?_) (fun cd=>?_)
 ·have a4:j<n:=om;obtain⟨hm,V⟩:=ygm (xs:=xs) (j:=j) om;refine ax ?_;refine xoz rfl (B4.get S a4) ?_;generalize a6:xs.getD j []=s at*;refine ax ?_;refine xrz rfl rfl (fun h pe=>Q4 pe (hs _ hm) E R Z) ?_;rintro _ ⟨k,rfl,hk⟩;refine ax ?_;refine xiq rfl rfl (fun _ pe=>c43 pe s) ?_;refine ax ?_;refine xiz (fun l' p_ L_=>∃x:Int,l'=[(0,none,w_ b 0),(6,none,v),(9,none,.J x),(11,none,.slice a n c),(12,none,.J ((n:Nat):Int)),(13,none,.J ((j:Nat):Int))]/\p_=p/\L_=[Y,[(b,.cells (dkc A d tr).toArray 67 (0,0))]]/\Kx d s=some x) ?_ fun k' H=>?_
  ·rintro _ p _ ⟨x,rfl,rfl,rfl,hx⟩;refine ax ?_;refine xbz rfl fun v2 Y2 o2=>?_;have o2:Ac 3 1 v2 (ics [x]) Y2:=o2;refine xfv rfl rfl o o2 (by simp[ics,A7]) (by have:=xid d hv;simp[ics]at *;omega) fun v3 Y3 o3=>?_;refine ax ?_;exact xhq (IH _ _ _ om ⟨j+1,v3,vs++[x],Y3,rfl,rfl,rfl,rfl,om,o3.as (by simp[ics]),by rw[V,xqf,hv,hx];rfl⟩)
  refine xlq rfl (fun O=>?_) (fun O=>?_)
  ·obtain⟨e1,e2,e3⟩:=ydd O;have e4:(((s.getD (Int.toNat 0) 0).toNat:Nat):Int)-97=((Dl s:Nat):Int):=by show(((s.getD 0 0).toNat:Nat):Int)-97=_;omega
   have e5:((s.getD (Int.toNat 0) 0).toNat:Int)<=122/\(97:Int)<=((s.getD (Int.toNat 0) 0).toNat:Int):=by show((s.getD 0 0).toNat:Int)<=122/\_<=((s.getD 0 0).toNat:Int);omega
   refine ax ?_;refine xqq [] R7 ?_;refine ex ?_;refine xkk rfl rfl rfl rfl trivial trivial ⟨d_,om⟩ ?_;refine ex ?_;refine xmf rfl rfl rfl ⟨wr8 om,trivial⟩ ?_;rw[e4];refine ex ?_;refine ax ?_;refine xo3 (i:=Dl s) underlying62 rfl rfl e2 ?_;refine ax ?_;refine xz0 (u:=.J (d.Da.getD (Dl s) 0)) rfl rfl trivial ?_ (by
    have z:=yyp (A:=A) (tr:=tr) w e2;rwa[show 11+Dl s=0+11+0+Dl s*1 by omega]at z)
   refine ax ?_;refine xqq [] R7 ?_;refine ex ?_;refine xkk rfl rfl rfl rfl trivial trivial ⟨d_,om⟩ ?_;refine ex ?_;refine xmf rfl rfl rfl ⟨wr8 om,trivial⟩ ?_;rw[e4];refine ex ?_;refine ax ?_;refine xo3 (i:=Dl s) underlying62 rfl rfl e2 ?_;refine ax ?_;refine xz0 (u:=.J (d.kept.getD (Dl s) 0)) rfl rfl trivial ?_ (by
    have z:=yxp (A:=A) (tr:=tr) w e2;rwa[show 37+Dl s=0+11+26+Dl s*1 by omega]at z)
   refine cq (fun cf=>?_) (fun cf=>?_)
   ·have e0:Bo d xs=none:=by
     rw[<- List.take_append_drop (j+1) xs];refine xrm d ?_ _;rw[V,xqf,hv,xp2 O,if_pos cf];rfl
    refine ax ?_;exact xxq func47 rfl rfl fun _ H_=>K _ _ (xlj H_ (.refl _ _ _) ⟨rfl,by unfold Nj;rw[e0];rfl⟩)
   ·refine ax ?_;exact xhq (H _ _ _ ⟨_,rfl,rfl,rfl,by rw[xp2 O,if_neg cf]⟩)
  ·refine ax ?_;have M:=hc s hm;have a2:Kx d s=some k:=by
    rw[xjp O];unfold Bb at M;cases hn:C8 s with
    |none=>rw[hn]at M;simp at M;exact absurd M O
    |some q=>rw[hk q hn];rfl
   exact xhq (H _ _ _ ⟨k,rfl,rfl,rfl,a2⟩)
 obtain rfl:j=n:=om;rw[List.take_of_length_le om]at hv;have a7:=xid d hv;obtain⟨a1,c1,rfl,-⟩:=o.val;refine ax ?_;refine xoq o rfl d_ fun p1 _ _ g1 e1 a8 S1=>?_;cases e1;have e0:(ics vs).length=vs.length:=xvq vs;exact xxq func47 rfl rfl fun _ H_=>K _ _ (xlj H_ g1 ⟨rfl,by
  unfold Nj;rw[hv];exact⟨a1,c1,by rw[e0];rfl,e0 ▸ S1⟩⟩)
theorem Rc{md:Md}{h:Heap}{p:Ab}(hp:Per p h){a:Option Addr}{n:Nat}(c:Nat)(xs:List (TA×Dt))(S:Sl p a n 64 (K4 xs))(hc:n<=c)(hn:n<=2^10)(A:TA)(d:Dt)(w:d.wf):
 Aa prog md 132 #[.slice a n c,.agg (dkc A d (.slice none 0 0)).toArray] h fun v h'=>∃Y,Ac 67 64 v (K4 (xs++[(A,d)])) Y/\New h h' Y:=by
 have hl:=S.len;have M:K4 (xs++[(A,d)])=K4 xs++[dkc A d (.slice none 0 0)]:=by simp[K4]
 have H:(dkc A d (.slice none 0 0)).length=64:=xqc w;generalize dkc A d (.slice none 0 0)=cs at M H⊢;refine xdq hp func132 fun _ _ _ K=>?_;refine xgq rfl fun b1=>?_;refine ax ?_;refine xqq [7] R8 ?_;refine ex ?_;refine ygj rfl rfl rfl rfl hc ?_;refine ex ?_;refine xdp rfl rfl rfl trivial ?_ (by simp[Value.cells,H]);refine ex ?_;refine ykr (cs:=cs) rfl rfl (by simp[Value.cells,List.take_of_length_le (Nat.le_of_eq H)]) H fun v2 Y2 o2=>?_;refine ex ?_;refine ax ?_;refine xzs rfl rfl S o2 (Nat.succ_pos _) (by simp;omega) fun v3 O o3=>?_;refine ax ?_;exact K.r rfl rfl fun _ V=>⟨O,o3.as M.symm,D6 V⟩
theorem yvq{p H:Ab}{a a1:Option Addr}{c O:Nat}{xs:List (TA×Dt)}{A:TA}{d:Dt}(P:Hr p a c xs)(M:PLe p H)(s:SnP p A d)(hc:(xs++[(A,d)]).length<=O)(S:Sl H a1 (xs++[(A,d)]).length 64 (K4 (xs++[(A,d)]))):Hr H a1 O (xs++[(A,d)]):=
 ⟨hc,S,fun x V=>(List.mem_append.1 V).elim (fun h=>(P.e x h).mono M) fun h=>by rw[List.mem_singleton.1 h];exact s.mono M⟩
theorem yuq{p:Ab}{a:Option Addr}{c:Nat}{xs:List (TA×Dt)}(P:Hr p a c xs)(h:0<xs.length):Hr p a c (xs.take (xs.length-1)):=by
 have e:(xs.take (xs.length-1)).length=xs.length-1:=by rw[List.length_take];omega
 refine⟨by have:=P.c;omega,?_,fun x H=>P.e x (List.mem_of_mem_take H)⟩;have z:=Sl.cut (lo:=0) (hi:=xs.length-1) (a':=a) P.s (Nat.zero_le _) om fun _=>by rw[Nat.zero_mul];exact(P.s.ne h).trans rfl
 rw[e];simpa[K4,List.map_take]using z
theorem c50{md:Md}{h:Heap}{p:Ab}(hp:Per p h)(b:Nat)(D:Dsk){ob:Obj}(hD:DkP p D ob 67)(hb:h[b]?=some ob)(a9:p b=none)(w:Str)(hn:D.Ci.length<=1000):
 Aa prog md 50 #[w_ b 0,sv w] h (Cz p h b fun v p' o'=>v=.bool (tryD D w).2/\DkP p' (tryD D w).1 o' 67):=by
 obtain⟨A,a,c,xs,rfl,N,P,hx⟩:=hD;have a6:xs.length=D.Ci.length:=by rw[<- hx,List.length_map]
 have V:=N.w;have Pc:=P.c;have Ps:=P.s;refine xmz hp hb a9 func50 fun _ _ _ K=>?_;refine cq (fun cc=>?_) (fun cc=>?_)
 ·have e0:tryD D w=({D with Ci:=D.Ci++[D.now]},true):=by unfold tryD;rw[if_pos (show w=Ei from cc)]
  refine ax ?_;refine xqq [14] R15 ?_;refine ex ?_;refine xnf rfl rfl rfl trivial ?_ (xa0 V);refine ex ?_;refine xdp rfl rfl rfl trivial ?_ (by
   show(((dkc A D.now (.slice a xs.length c)).drop 11).take 52).length=52;rw[xc2 V,List.length_append,xjz,xjz,V.1,V.2])
  rw[show(((dkc A D.now (.slice a xs.length c)).toArray.toList.drop (0+11)).take 52)=iv D.now.Da++iv D.now.kept from xc2 V];refine xv5 (cells:=dkc A D.now (.slice none 0 0)) rfl rfl ?_ (yqh V);refine xuk rfl rfl rfl (fun _ pe=>Rc pe c xs Ps Pc om A D.now V) fun v1 Y1 o1=>?_;obtain⟨a1,c1,rfl,-⟩:=o1.val;rw[xd3]at o1⊢;refine ex ?_;refine ax ?_;refine xnc rfl rfl ?_ rfl rfl (by rw[xqc V];exact Nat.le_refl _);refine ax ?_;refine xoq o1 (m:=(xs++[(A,D.now)]).length) (xd3 _) d_ fun p1 _ _ g1 e1 b3 S1=>?_;cases e1;exact xxq func50 rfl rfl fun _ H_=>K _ _ (xlj H_ g1 (by
   rw[e0];exact⟨rfl,A,a1,c1,xs++[(A,D.now)],congrArg (fun l=>Obj.cells (List.toArray l) _ (0,0)) (yfj V),N.mono g1.le,yvq P g1.le N b3 S1,by simp[hx]⟩))
 refine ax ?_;refine xz0 rfl rfl trivial ?_ (xa0 V);refine cq (fun cd=>?_) (fun cd=>?_)
 ·have e0:tryD D w=(D,false):=by
   have:D.Ci=[]:=List.eq_nil_of_length_eq_zero om;unfold tryD;rw[if_neg (show ¬ w=Ei from cc),this];rfl
  refine ax ?_;exact xxq func50 rfl rfl fun _ H_=>K _ _ (xlj H_ (.refl _ _ _) (by rw[e0];exact⟨rfl,A,a,c,xs,rfl,N,P,hx⟩))
 have a4:0<xs.length:=om;have e1:((xs.length:Nat):Int)-1=((xs.length-1:Nat):Int):=om;have O:xs.length-1<xs.length:=om;obtain⟨M,a3⟩:∃x,x=xs[xs.length-1]'O:=⟨_,rfl⟩
 have a7:M∈xs:=by rw[a3];exact List.getElem_mem _
 have b0:D.Ci.getLast?=some M.2:=by
  rw[<- hx,List.getLast?_eq_getElem?,List.getElem?_map,List.length_map,List.getElem?_eq_getElem O,a3];rfl
 have a5:(K4 xs)[xs.length-1]?=some (dkc M.1 M.2 (.slice none 0 0)):=by rw[a3];exact yjf O
 have N1:=P.e M a7;rw[e1];refine ax ?_;refine xiz (fun l' p_ L_=>∃(A2:TA)(d2:Dt),l'=[(0,none,w_ b 0),(5,none,.J ((xs.length-1:Nat):Int))]/\p_=p/\L_=[[(b,.cells (dkc A2 d2 (.slice a xs.length c)).toArray 67 (0,0))]]/\SnP p A2 d2/\d2=if w=Gw then M.2 else D.now) ?_ fun k' H=>?_
 ·rintro _ p _ ⟨A2,d2,rfl,rfl,rfl,N2,a8⟩;refine ax ?_;refine xz0 rfl rfl trivial ?_ (xa0 N2.w);refine ax ?_;refine xld rfl rfl (j:=xs.length-1) om ?_;refine ax ?_;refine xnc rfl rfl ?_ rfl rfl (by rw[xqc N2.w];exact Nat.le_refl _);refine ax ?_;have e0:tryD D w=(⟨d2,D.Ci.take (D.Ci.length-1)⟩,true):=by
   unfold tryD;rw[if_neg (show ¬ w=Ei from cc),b0,a8];simp only;by_cases hw:w=Gw
   ·rw[if_pos hw,if_pos hw]
   ·rw[if_neg hw,if_neg hw]
  have P2:=yuq P a4;have e2:(xs.take (xs.length-1)).length=xs.length-1:=by rw[List.length_take];omega
  exact xxq func50 rfl rfl fun _ H_=>K _ _ (xlj H_ (.refl _ _ _) (by
   rw[e0];refine⟨rfl,A2,a,c,xs.take (xs.length-1),?_,N2,P2,by rw[List.map_take,hx,a6]⟩;rw[e2];exact congrArg (fun l=>Obj.cells (List.toArray l) _ (0,0)) (yfj N2.w)))
 refine xlq rfl (fun ce=>?_) (fun ce=>?_)
 ·refine ax ?_;have b4:(dkc M.1 M.2 (.slice none 0 0)).length=64:=xqc N1.w;refine xuv [20] R21 b ?_;refine ex ?_;refine ypd rfl rfl rfl trivial ?_ (xa0 V);refine ex ?_;refine xkw (vs:=tcs M.1 M.2.t) rfl rfl rfl trivial (fun j v hv=>?_) ?_
  ·have z:=Ps.get _ _ a5 j v (by rw[dkc,List.getElem?_append_left (List.getElem?_eq_some_iff.1 hv).1];exact hv);exact z
  refine ex ?_;refine ypd rfl rfl rfl trivial ?_ (xa0 V);refine ex ?_;refine xkw (vs:=iv M.2.Da++iv M.2.kept) rfl rfl rfl trivial (fun j v hv=>?_) ?_ (by rw[List.length_append,xjz,xjz,N1.w.1,N1.w.2])
  ·rw[<- xc2 (A:=M.1) (tr:=.slice none 0 0) N1.w]at hv;have z:=Ps.get _ _ a5 (11+j) v (by
    rw[List.getElem?_take]at hv;split at hv
    ·rwa[List.getElem?_drop]at hv
    ·cases hv)
   rw[<- xi2]at z;exact z
  refine ex ?_;refine ax ?_;refine xup (LL':=[[(b,.cells (dkc M.1 {D.now with t:=M.2.t} (.slice a xs.length c)).toArray 67 (0,0))]]) ?_ (fun _ s=>by
   have e:B6 (dkc A D.now (.slice a xs.length c)) 0 (tcs M.1 M.2.t)=dkc M.1 {D.now with t:=M.2.t} (.slice a xs.length c):=xb2;rw[<- e];exact s)
  have w2:({D.now with t:=M.2.t}:Dt).wf:=V;have a2:(iv M.2.Da++iv M.2.kept).length=52:=by rw[List.length_append,xjz,xjz,N1.w.1,N1.w.2]
  refine xnc rfl rfl ?_ (by simp[Value.cells,a2]) (by
   simp only[Value.cells,List.all_eq_true,iv,List.mem_append,List.mem_map];rintro u (⟨_,_,rfl⟩|⟨_,_,rfl⟩)<;>rfl) (by rw[xqc w2];simp[Value.cells,a2])
  refine ax ?_;refine xik (LL':=[[(b,.cells (dkc M.1 M.2 (.slice a xs.length c)).toArray 67 (0,0))]]) ?_ (fun _ s=>by
   have e:B6 (dkc M.1 {D.now with t:=M.2.t} (.slice a xs.length c)) 11 (iv M.2.Da++iv M.2.kept)=dkc M.1 M.2 (.slice a xs.length c):=yej w2 N1.w;rw[<- e];exact s)
  exact xhq (H _ _ _ ⟨M.1,M.2,rfl,rfl,rfl,N1,(if_pos ce).symm⟩)
 ·refine ax ?_;exact xhq (H _ _ _ ⟨A,D.now,rfl,rfl,rfl,N,(if_neg ce).symm⟩)
theorem c48{h:Heap}{p:Ab}(hp:Per p h)(b:Nat)(D:Dsk){ob:Obj}(hD:DkP p D ob 67)(hb:h[b]?=some ob)(a4:p b=none)(g:GlP p)(q:Qn)(fv:Value)(x:Ng q fv p){a:Option Addr}{n:Nat}(c:Nat)(vs:List Int)(V:As p a n vs)(hv:n=q.ar)(M:Str)(hl:M=[]\/isLet M=true)
 (hR:(Bs q D.now.t vs).2=0->(Bs q D.now.t vs).1.ok):
 Aa prog (.main true) 48 #[w_ b 0,fv,.slice a n c,sv M] h (Cz p h b fun v p' o'=>v=sv (Eu D q vs M).2/\DkP p' (Eu D q vs M).1 o' 67):=by
 obtain⟨A,O,ct,xs,rfl,N,P,hx⟩:=hD;have w0:=N.w;refine xmz hp hb a4 func48 fun _ _ _ K=>?_;refine ax ?_;refine xp3 rfl rfl (fun h pe=>xfp q fv h _ pe x A D.now.t N.T (xsz N.ok) g a n c vs V hv) ?_;rintro _ p1 g1 ⟨r,rfl,hr⟩;have N:=N.mono g1.le;have P:=P.mono g1.le;have g:=g.mono g1.le;obtain⟨tT,zT,Z⟩:=g.pw;refine cq (fun cc=>?_) (fun cc=>?_)
 ·have e0:Eu D q vs M=(D,Ml):=by unfold Eu;rw[if_pos cc]
  refine ax ?_;exact xxq func48 rfl rfl fun h_ H_=>K _ _ (xlj H_ g1 (by rw[e0];exact⟨rfl,A,O,ct,xs,rfl,N,P,hx⟩))
 refine cq (fun cd=>?_) (fun cd=>?_)
 ·have e0:Eu D q vs M=(D,Gs):=by unfold Eu;rw[if_neg cc,if_pos cd]
  refine ax ?_;exact xxq func48 rfl rfl fun h_ H_=>K _ _ (xlj H_ g1 (by rw[e0];exact⟨rfl,A,O,ct,xs,rfl,N,P,hx⟩))
 have cd:=Classical.not_not.1 cd;have e0:Eu D q vs M=(if M≠[]then Ka D M (Bs q D.now.t vs).1 else D,(Bs q D.now.t vs).1.text):=by unfold Eu;rw[if_neg cc,if_neg (by rw[cd];simp)]
 rw[e0]at K;have hR:=hR cd;clear cc cd e0 hv V x;generalize (Bs q D.now.t vs).1=R at*;refine ax ?_;refine xiz (fun l' p_ L_=>∃d2:Dt,l'=[(9,none,r)]/\p_=p1/\L_=[[(b,.cells (dkc A d2 (.slice O xs.length ct)).toArray 67 (0,0))]]/\SnP p1 A d2/\({D with now:=d2}:Dsk)=if M≠[]then Ka D M R else D) ?_ fun k' H=>?_
 ·rintro _ p1 _ ⟨d2,rfl,rfl,rfl,N2,a3⟩;refine ax ?_;have fin:∀{h_:Heap},St h [b] p1 h_ (List.flatten [[(b,.cells (dkc A d2 (.slice O xs.length ct)).toArray 67 (0,0))]])->Cz p h b (fun v p' o'=>v=sv R.text/\DkP p' (if M≠[]then Ka D M R else D) o' 67) (sv R.text) h_:=fun H_=>xlj H_ g1 (by rw[<- a3];exact⟨rfl,A,O,ct,xs,rfl,N2,P,hx⟩);cases R with
  |num n=>
    cases hr;refine xm9 rfl rfl (g:=372) k_ (fun h pe=>c372 pe n hR Z) ?_;refine ax ?_;exact xxq func48 rfl rfl fun h_ H_=>K _ _ (fin H_)
  |spn u v=>
    cases hr;refine xm9 rfl rfl (g:=379) k_ (fun h pe=>c379 pe u v hR.1 hR.2 Z) ?_;refine ax ?_;exact xxq func48 rfl rfl fun h_ H_=>K _ _ (fin H_)
  |lst l=>
    obtain⟨a2,c2,rfl,I⟩:=hr;refine xm9 rfl rfl (g:=373) k_ (fun h pe=>c373 pe c2 l I hR.1 hR.2 Z) ?_;refine ax ?_;exact xxq func48 rfl rfl fun h_ H_=>K _ _ (fin H_)
 refine xlq rfl (fun ce=>?_) (fun ce=>?_)
 ·refine ax ?_;cases R with
  |num n=>
    cases hr;refine yuf rfl underlying168 (z:=.J 0) k_ (if_pos rfl) ?_;refine ax ?_;refine xlq rfl (fun _=>?_) (fun cf=>absurd trivial cf);refine ax ?_;have il:=hl.resolve_left ce;obtain⟨e1,e2,e3⟩:=ydd il;have e4:(((M.getD (Int.toNat 0) 0).toNat:Nat):Int)-97=((Dl M:Nat):Int):=by show(((M.getD 0 0).toNat:Nat):Int)-97=_;omega
    have e5:((M.getD (Int.toNat 0) 0).toNat:Int)<=122/\(97:Int)<=((M.getD (Int.toNat 0) 0).toNat:Int):=by show((M.getD 0 0).toNat:Int)<=122/\_<=((M.getD 0 0).toNat:Int);omega
    refine xuv [13] [0,1,2,3,4,5,6,7,8,9,10,11,12,14,15,16,13] b ?_;refine ex ?_;refine xkk rfl rfl rfl rfl trivial trivial ⟨d_,om⟩ ?_;refine ex ?_;refine xmf rfl rfl rfl ⟨wr8 om,trivial⟩ ?_;rw[e4];refine ex ?_;refine xkk rfl rfl rfl rfl trivial trivial ⟨d_,om⟩ ?_;refine ex ?_;refine xmf rfl rfl rfl ⟨wr8 om,trivial⟩ ?_;rw[e4];refine ex ?_;refine ygr (j:=Dl M) underlying62 rfl rfl rfl e2 ?_;refine ex ?_;refine xch rfl rfl rfl ?_ (hlen:=by rw[xqc w0];show 0+11+0+Dl M*1+1<=64;omega);refine ex ?_;refine ax ?_;have w1:({D.now with Da:=D.now.Da.set (Dl M) n}:Dt).wf:=⟨by rw[List.length_set];exact w0.1,w0.2⟩
    refine xup (LL':=[[(b,.cells (dkc A {D.now with Da:=D.now.Da.set (Dl M) n} (.slice O xs.length ct)).toArray 67 (0,0))]]) ?_ (fun _ s=>by
     have e:B6 (dkc A D.now (.slice O xs.length ct)) (0+11+0+Dl M*1) [.J n]=dkc A {D.now with Da:=D.now.Da.set (Dl M) n} (.slice O xs.length ct):=by
      rw[show 0+11+0+Dl M*1=11+Dl M by omega];exact yll w0 e2
     rw[<- e];exact s)
    refine xo3 (i:=Dl M) underlying62 rfl rfl e2 ?_;refine xnc rfl rfl ?_ rfl rfl (by rw[xqc w1];show 0+11+26+Dl M*1+1<=64;omega);refine ax ?_;refine xik (LL':=[[(b,.cells (dkc A {D.now with Da:=D.now.Da.set (Dl M) n,kept:=D.now.kept.set (Dl M) 1} (.slice O xs.length ct)).toArray 67 (0,0))]]) ?_ (fun _ s=>by
     have e:B6 (dkc A {D.now with Da:=D.now.Da.set (Dl M) n} (.slice O xs.length ct)) (0+11+26+Dl M*1) [.J 1]=dkc A {D.now with Da:=D.now.Da.set (Dl M) n,kept:=D.now.kept.set (Dl M) 1} (.slice O xs.length ct):=by
      rw[show 0+11+26+Dl M*1=37+Dl M by omega];exact ykl w1 e2
     rw[<- e];exact s)
    exact xhq (H _ _ _ ⟨{D.now with Da:=D.now.Da.set (Dl M) n,kept:=D.now.kept.set (Dl M) 1},rfl,rfl,rfl,⟨N.T,N.ok,⟨w1.1,by show(D.now.kept.set _ _).length=26;rw[List.length_set];exact w0.2⟩⟩,by rw[if_pos ce];rfl⟩)
  |spn u v=>
    cases hr;refine yuf rfl underlying168 (z:=.J 0) k_ (if_neg d_) ?_;refine ax ?_;refine xlq rfl (fun cf=>absurd cf id) (fun _=>?_);refine ax ?_;exact xhq (H _ _ _ ⟨D.now,rfl,rfl,rfl,N,by rw[if_pos ce];rfl⟩)
  |lst l=>
    obtain⟨a2,c2,rfl,I⟩:=hr;refine yuf rfl underlying168 (z:=.J 0) k_ (if_neg d_) ?_;refine ax ?_;refine xlq rfl (fun cf=>absurd cf id) (fun _=>?_);refine ax ?_;exact xhq (H _ _ _ ⟨D.now,rfl,rfl,rfl,N,by rw[if_pos ce];rfl⟩)
 ·refine ax ?_;exact xhq (H _ _ _ ⟨D.now,rfl,rfl,rfl,N,by rw[if_neg ce]⟩)
set_option maxHeartbeats 1000000 in
theorem c26{h:Heap}{p:Ab}(hp:Per p h)(b:Nat){D:Dsk}(ob:Obj)(hD:DkP p D ob 67)(hb:h[b]?=some ob)(a7:p b=none)(g:GlP p)(M:Str)(hl:M.length<=900)(hn:D.Ci.length<=900)
 (hR:∀q t vs,B9 t=0->(Bs q t vs).2=0->(Bs q t vs).1.ok):
 Aa prog (.main true) 26 #[w_ b 0,sv M] h (Cz p h b fun v p' o'=>v=sv (doD D M).2/\DkP p' (doD D M).1 o' 67):=by
 refine xmz hp hb a7 func26 fun _ _ _ K=>?_;refine ax ?_;refine xvx rfl rfl (fun h pe=>c42 pe M hl) ?_;rintro _ p1 g1 ⟨a,c,rfl,hc,S⟩;have hD:=hD;obtain⟨A,a6,ct,xs,rfl,N,P,hx⟩:=hD;have N:=N.mono g1.le;have P:=P.mono g1.le;have g:=g.mono g1.le;have w0:=N.w;have a9:0<(Ad M).length:=List.length_pos_iff.2 (xoj M);have b4:∀s∈Ad M,s.length<=900:=fun s hs=>Nat.le_trans (xmw hs) hl;have e2:(Ad M).length<=901:=by rw[xyk];have:=List.count_le_length (a:=(32:UInt8)) (l:=M);omega
 have S1:Sl p1 a (Ad M).length 1 (scs (Ad M)):=S;have b9:doD D M=if(Ad M).headD []=Er then(if(Ad M).length<3\/isLet ((Ad M).getD 1 [])=false then(D,Ew)else Cl D ((Ad M).getD 1 []) ((Ad M).drop 2))else Cl D [] (Ad M):=rfl
 generalize Ad M=ps at*;have h0:ps.headD []=ps.getD 0 []:=by cases ps<;>rfl
 rw[h0]at b9;rw[b9]at K;clear b9 h0;refine ax ?_;refine xoz rfl (B4.get S a9) ?_;refine ax ?_
 refine xiz (fun l' p_ L_=>∃(a2:Option Addr)(c2:Nat)(qs:List Str)(a5:Str),l'=[(0,none,w_ b 0),(5,none,.slice a2 qs.length c2),(6,none,sv a5)]/\p_=p1/\L_=[[(b,.cells (dkc A D.now (.slice a6 xs.length ct)).toArray 67 (0,0))]]/\B4 p1 a2 qs.length qs/\0<qs.length/\qs.length<=c2/\qs.length<=901/\(∀s∈qs,s.length<=900)/\(a5=[]\/isLet a5=true)/\
  (if ps.getD 0 []=Er then(if ps.length<3\/isLet (ps.getD 1 [])=false then(D,Ew)else Cl D (ps.getD 1 []) (ps.drop 2))else Cl D [] ps)=Cl D a5 qs) ?_ fun k' H=>?_
 ·rintro _ p1 _ ⟨a2,c2,qs,a5,rfl,rfl,rfl,S2,b5,d9,e5,b7,e3,eL⟩;rw[eL]at K;have S3:Sl p1 a2 qs.length 1 (scs qs):=S2;obtain⟨tT,zT,Z⟩:=g.pw;obtain⟨te,ue,tE,zE,E⟩:=g.es;obtain⟨e7,ur,tR,zR,R⟩:=g.er;have h0:qs.headD []=qs.getD 0 []:=by cases qs<;>rfl
  have d7:(qs.getD 0 []).length<=900:=by
   cases qs with
   |nil=>exact absurd b5 s_
   |cons x t=>exact b7 x s_
  have b3:=xpf S2 1 om d9;refine ax ?_;refine xqq [] R6 ?_;refine ex ?_;refine xgj rfl rfl (B4.get S2 (i:=0) om) ?_;refine ex ?_;refine xwg (j:=1) rfl rfl rfl ⟨om,om⟩ ?_;refine ex ?_;refine ax ?_;have eT:qs.drop 1=qs.tail:=List.drop_one;rw[eT]at b3;have d0:(qs.tail).length=qs.length-1:=List.length_tail;rw[<- d0]at b3⊢;have c1:Cl D a5 qs=Cl D a5 (qs.getD 0 []::qs.tail):=by rw[<- h0];cases qs with|nil=>exact absurd b5 s_|cons x t=>rfl
  rw[c1]at K;have d8:∀s∈qs.tail,s.length<=900:=fun s hs=>b7 s (List.mem_of_mem_tail hs);have e1:qs.tail.length<=900:=om;generalize qs.getD 0 []=O at*;generalize qs.tail=args at*;generalize Ft a2 c2 1 1=a3 at*;generalize c2-1=c3 at*;clear S3 S2 c1 h0 eT d0 eL b5 d9 e5 b7;refine xvx rfl rfl (fun h pe=>c44 pe O d7 args.length e1 Z) ?_;intro fv p2 g2 a8;refine ax ?_;refine xiq rfl rfl (fun _ pe=>c45 pe O d7 args.length e1 (g2.le _ _ Z)) ?_;refine ax ?_;have e6:(decide (((args.length:Nat):Int)=0)&&(decide (O=[98,101,103,105,110])||decide (O=[101,110,100])||decide (O=[100,114,111,112])))=Co O args.length:=by
   unfold Co;congr 1;rw[Bool.eq_iff_iff];simp
  refine xgb (l':=[(0,none,w_ b 0),(6,none,sv a5),(7,none,sv O),(8,none,.slice a3 args.length c3),(9,none,fv),(10,none,N6 (od (O++txt args.length))),(11,none,.bool (Co O args.length)),(64,none,.slice a3 args.length c3)]) ?_ ⟨rfl,rfl,rfl,rfl,rfl,rfl,by rw[<- e6];rfl,rfl,trivial⟩;have hF:(fv=.nilFunc\/ ∃f a b,fv=.func f a b)/\Gr fv=(qn (O++txt args.length)).isNone:=by
   cases e:qn (O++txt args.length)with
   |none=>rw[e]at a8;exact⟨.inl a8,by rw[a8];rfl⟩
   |some q=>rw[e]at a8;obtain⟨b',T,z,rfl,_⟩:=a8;exact⟨.inr ⟨_,_,_,rfl⟩,rfl⟩
  have hO:(N6 (od (O++txt args.length))=.nilFunc\/ ∃f a b,N6 (od (O++txt args.length))=.func f a b)/\Gr (N6 (od (O++txt args.length)))=(od (O++txt args.length)).isNone:=by
   cases od (O++txt args.length)with
   |none=>exact⟨.inl rfl,rfl⟩
   |some o=>cases o<;>exact⟨.inr ⟨_,_,_,rfl⟩,rfl⟩
  refine xiq rfl rfl (fun _ pe=>c46 pe c3 args (B4.mono g2.le b3) om d8 (g2.le _ _ E) (g2.le _ _ R) (g2.le _ _ Z)) ?_;refine ax ?_;refine yvc rfl rfl sdu hF.1 underlying102 ?_;refine ax ?_;refine yvc rfl rfl sdu hO.1 underlying105 ?_;refine ax ?_;rw[hF.2,hO.2];refine xlq rfl (fun cd=>?_) (fun cd=>?_)
  ·have e0:Cl D a5 (O::args)=(D,Ew):=by
    rw[xwk,if_pos (by simpa using cd)]
   rw[e0]at K;refine ax ?_;exact xxq func26 rfl rfl fun _ H_=>K _ _ (xlj H_ (g1.trans g2) ⟨rfl,A,a6,ct,xs,rfl,N.mono g2.le,P.mono g2.le,hx⟩)
  have e4:∀s∈args,Bb s=true:=by
   have:args.all Bb=true:=by
    cases e:args.all Bb with
    |true=>rfl
    |false=>exact absurd (.inl (by rw[e];simp)) cd
   simpa using this
  rw[xwk,if_neg (by simpa using cd)]at K;have N:=N.mono g2.le;have P:=P.mono g2.le;have g:=g.mono g2.le;refine ax ?_;refine xws rfl rfl (fun h pe hb a7=>c47 pe b A D.now w0 hb a7 g c3 args (B4.mono g2.le b3) om d8 e4) fun v p3 o3 g3 q3=>?_;obtain⟨rfl,q3⟩:=q3;have N:=N.mono g3.le;have P:=P.mono g3.le;have g:=g.mono g3.le;have gg:=(g1.trans g2).trans g3;cases b8:Bo D.now args with
  |none=>
    rw[b8]at K q3;obtain rfl:v=.tuple #[.slice none 0 0,.bool false]:=q3;refine ax ?_;refine xlq rfl (fun _=>?_) (fun ce=>absurd s_ ce);refine ax ?_;exact xxq func26 rfl rfl fun _ H_=>K _ _ (xlj H_ gg ⟨rfl,A,a6,ct,xs,rfl,N,P,hx⟩)
  |some vs=>
    rw[b8]at K q3;obtain⟨a4,c4,rfl,V⟩:=q3;have d5:=xid D.now b8;refine ax ?_;refine xlq rfl (fun ce=>absurd ce s_) (fun _=>?_);refine ax ?_;refine yum rfl rfl sdu hF.1 underlying102 ?_;refine ax ?_;rw[hF.2];cases hq:qn (O++txt args.length)with
    |some q=>
      rw[hq]at K a8;refine xlq rfl (fun _=>?_) (fun ce=>absurd s_ ce);refine ax ?_;refine xws rfl rfl (fun h pe hb a7=>c48 pe b D ⟨A,a6,ct,xs,rfl,N,P,hx⟩ hb a7 g q fv (Ng.mono a8 g3.le) c4 vs V (by rw[d5];exact yrg hq) a5 e3 (hR q D.now.t vs N.ok)) fun v p4 o4 g4 q4=>?_;obtain⟨rfl,q4⟩:=q4;refine ax ?_;exact xxq func26 rfl rfl fun _ H_=>K _ _ (xlj H_ (gg.trans g4) ⟨rfl,q4⟩)
    |none=>
      rw[hq]at K a8;refine xlq rfl (fun ce=>absurd ce s_) (fun _=>?_);refine cq (fun ce=>?_) (fun ce=>?_)
      ·simp only[if_pos ce]at K;refine ax ?_;refine xws rfl rfl (fun h pe hb a7=>c50 pe b D ⟨A,a6,ct,xs,rfl,N,P,hx⟩ hb a7 O om) fun v p4 o4 g4 q4=>?_;obtain⟨rfl,q4⟩:=q4;refine ax ?_;refine xiq rfl rfl (fun _ pe=>c49 pe _) ?_;refine ax ?_;exact xxq func26 rfl rfl fun _ H_=>K _ _ (xlj H_ (gg.trans g4) ⟨rfl,q4⟩)
      simp only[if_neg ce]at K;cases ho:od (O++txt args.length)with
      |none=>exact absurd (.inr ⟨by rw[hq];rfl,.inr ⟨by rw[ho];rfl,ce⟩⟩) cd
      |some o=>
        rw[ho]at K;simp only at K;refine lq fun b6=>?_;refine ax ?_;refine xup (LL':=[[(b6,.cells (tcs A D.now.t).toArray 33 (0,0))],[(b,.cells (dkc A D.now (.slice a6 xs.length ct)).toArray 67 (0,0))]]) ?_ (fun _ s=>s);refine yan (b:=b6) (Q:=C0 o D.now.t vs) rfl rfl (fun h pe hb a7=>ydp o pe b6 A D.now.t hb a7 N.T ⟨⟨by have:=(xsz N.ok).1.1;omega,by have:=(xsz N.ok).1.2;omega⟩,⟨by have:=(xsz N.ok).2.1.1;omega,by have:=(xsz N.ok).2.1.2.1;omega,by have:=(xsz N.ok).2.1.2.2;omega⟩,by have:=(xsz N.ok).2.2;omega⟩ c4 vs V (by rw[d5];exact yah ho)) fun v p4 o4 g4 q4=>?_;have N:=N.mono g4.le;have P:=P.mono g4.le;have gg:=gg.trans g4;unfold C0 at q4;cases ht:B7 o D.now.t vs with
        |none=>
          rw[ht]at K q4;simp only at K;obtain rfl:v=.bool false:=q4;refine ax ?_;refine xob (.bool false) rfl ?_;refine xob (.J 0) rfl ?_;refine xob (.bool false) rfl ?_;refine ax ?_;refine xlq rfl (fun _=>?_) (fun cf=>absurd s_ cf);refine ax ?_;refine xiq rfl rfl (fun _ pe=>c49 pe false) ?_;refine ax ?_;exact xxq func26 rfl rfl fun _ H_=>K _ _ (xlj H_ gg ⟨rfl,A,a6,ct,xs,rfl,N,P,hx⟩)
        |some t'=>
          rw[ht]at K q4;simp only at K;obtain⟨rfl,A',rfl,T'⟩:=q4;have hf:=xo8 ht (xsz N.ok);refine ax ?_;refine xfx rfl rfl rfl sdu (fun _ _ pe=>c25 pe A' t' T' ⟨⟨by have:=hf.1.1;omega,by have:=hf.1.2;omega⟩,⟨by have:=hf.2.1.1;omega,by have:=hf.2.1.2.1;omega,by have:=hf.2.1.2.2;omega⟩,by have:=hf.2.2;omega⟩) ?_;refine cq (fun cf=>?_) (fun cf=>?_)
          ·have b0:¬ B9 t'=0:=by simpa using cf
           simp only[if_neg b0]at K;refine ax ?_;refine xiq rfl rfl (fun _ pe=>c49 pe false) ?_;refine ax ?_;exact xxq func26 rfl rfl fun _ H_=>K _ _ (xlj H_ gg ⟨rfl,A,a6,ct,xs,rfl,N,P,hx⟩)
          ·have b0:B9 t'=0:=by simpa using cf
           simp only[if_pos b0]at K;refine ax ?_;refine xiq rfl rfl (fun _ pe=>c49 pe true) ?_;refine ax ?_;exact xxq func26 rfl rfl fun _ H_=>K _ _ (xlj H_ gg ⟨rfl,A',a6,ct,xs,congrArg (fun l=>Obj.cells (List.toArray l) _ (0,0)) xb2,⟨T',b0,N.w⟩,P,hx⟩)
 refine xlq rfl (fun cc=>?_) (fun cc=>?_)
 ·refine ax ?_;refine xn9 rfl rfl rfl sdu sdu (fun hc=>⟨⟨d_,by simp at hc;omega⟩,Sl.ne S1 a9⟩) ?_;refine xhb (u:=sv (ps.getD 1 [])) rfl rfl sdu (fun hc=>B4.get S (by simp at hc;omega)) ?_;refine xfx rfl rfl rfl sdu (fun _ _ pe=>c43 pe (ps.getD 1 [])) ?_;refine cq (fun cd=>?_) (fun cd=>?_)
  ·have e0:(if ps.getD 0 []=Er then(if ps.length<3\/isLet (ps.getD 1 [])=false then(D,Ew)else Cl D (ps.getD 1 []) (ps.drop 2))else Cl D [] ps)=(D,Ew):=by
    rw[if_pos (show ps.getD 0 []=Er from cc),if_pos (by simp at cd;rcases cd with z|z;exact .inl om;exact .inr (by simpa using z))]
   rw[e0]at K;refine ax ?_;exact xxq func26 rfl rfl fun _ H_=>K _ _ (xlj H_ g1 ⟨rfl,A,a6,ct,xs,rfl,N,P,hx⟩)
  have d6:3<=ps.length/\isLet (ps.getD 1 [])=true:=by
   simp at cd;exact⟨om,by simpa using cd.2⟩
  refine ax ?_;refine xqq [] R6 ?_;refine ex ?_;refine xgj rfl rfl (B4.get S (i:=1) om) ?_;refine ex ?_;refine xwg (j:=2) rfl rfl rfl ⟨om,om⟩ ?_;refine ex ?_;refine ax ?_;exact xhq (H _ _ _ ⟨Ft a c 2 1,c-2,ps.drop 2,ps.getD 1 [],by rw[List.length_drop],rfl,rfl,by rw[List.length_drop];exact xpf S 2 om hc,by rw[List.length_drop];omega,by rw[List.length_drop];omega,by rw[List.length_drop];omega,fun s hs=>b4 s (List.mem_of_mem_drop hs),.inr d6.2,by
   rw[if_pos (show ps.getD 0 []=Er from cc),if_neg (by rw[d6.2];simp;omega)]⟩)
 ·refine ax ?_;exact xhq (H _ _ _ ⟨a,c,ps,[],rfl,rfl,rfl,S,a9,hc,e2,b4,.inl rfl,by rw[if_neg (show ¬ ps.getD 0 []=Er from cc)]⟩)
def Pj(t:Twn)(ls:List Str)(v:Value)(p':Ab):Prop:=∃(a:Option Addr)(c:Nat)(A:TA),v=.tuple #[.slice a (Gi t ls).1.length c,twV A (Gi t ls).2,.J (Mb t ls)]/\(Gi t ls).1.length<=c/\B4 p' a (Gi t ls).1.length (Gi t ls).1/\TwP p' A (Gi t ls).2
theorem Tk{p:Ab}:TwP p zA zT:=⟨⟨Sl.nil _ _ _,Sl.nil _ _ _⟩,⟨Sl.nil _ _ _,Sl.nil _ _ _,Sl.nil _ _ _⟩,Sl.nil _ _ _,⟨Nat.le_refl _,Nat.le_refl _⟩,⟨Nat.le_refl _,Nat.le_refl _,Nat.le_refl _⟩,Nat.le_refl _⟩
theorem xg3{t:Twn}{ls:List Str}{p':Ab}(h:B9 t≠0\/30<ls.length):Pj t ls (.tuple #[.slice none 0 0,twV zA zT,.J (Mb t ls)]) p':=by
 have e:Gi t ls=([],zT):=by unfold Gi;rw[if_pos h]
 unfold Pj;rw[e];exact⟨none,0,zA,rfl,Nat.le_refl _,Sl.nil _ _ _,Tk⟩
set_option maxHeartbeats 400000 in
theorem c11(h:Heap)(p:Ab)(hp:Per p h)(A:TA)(t:Twn)(T:TwP p A t)(hn:t.fit (2^20))(g:GlP p)(a:Option Addr)(c:Nat)(ls:List Str)(S:B4 p a ls.length ls)(b9:ls.length<=2^20)(a7:∀s∈ls,s.length<=900)
 (hR:∀q t vs,B9 t=0->(Bs q t vs).2=0->(Bs q t vs).1.ok):
 Aa prog (.main true) 11 #[twV A t,.slice a ls.length c] h (Ar p h (Pj t ls)):=by
 refine xfz hp func11 fun _ _ _ K=>?_;refine bq fun b2=>?_;refine lq fun b5=>?_;refine ax ?_;refine xiq rfl rfl (fun _ O=>c25 O A t T hn) ?_;refine cq (fun H=>?_) (fun H=>?_)
 ·have eE:Mb t ls=B9 t:=by unfold Mb;rw[if_pos (by simpa using H)]
  refine ax ?_;exact xgz func11 rfl (.tmp rfl (xtq rfl (.tmp rfl .nil))) fun _ V=>K _ _ (xwq V (.refl _ _ _) (by have z:=xg3 (p':=p) (t:=t) (ls:=ls) (.inl (by simpa using H));rw[eE]at z;exact z))
 have H:B9 t=0:=by simpa using H
 refine cq (fun cd=>?_) (fun cd=>?_)
 ·have eE:Mb t ls=2:=by unfold Mb;rw[if_neg (by rw[H];simp),if_pos om]
  refine ax ?_;exact xgz func11 rfl (.tmp rfl (xtq rfl (.tmp rfl .nil))) fun _ V=>K _ _ (xwq V (.refl _ _ _) (by have z:=xg3 (p':=p) (t:=t) (ls:=ls) (.inr om);rw[eE]at z;exact z))
 have b3:ls.length<=30:=om;refine ax ?_;refine xgb (l':=[(1,none,.slice a ls.length c),(4,none,.slice none 0 0),(5,none,w_ b5 0),(22,none,.agg (dkc A (Al t).now (.slice none 0 0)).toArray)]) ?_ ⟨rfl,rfl,rfl,k_,trivial⟩;refine xyq fun b8=>?_;refine ax ?_;have e8:∀z:List Value,z.length=64->B6 z 0 (Value.agg (dkc A (Al t).now (.slice none 0 0)).toArray).cells.toList=dkc A (Al t).now (.slice none 0 0):=fun z hz=>xos (by rw[hz];exact xqc ⟨rfl,rfl⟩);refine xzj 9 1 fun o0=>?_;refine xik (LL':=[[],[(b8,.cells (dkc A (Al t).now (.slice none 0 0)).toArray 67 (0,0))],[(b5,.cells (tcs zA zT).toArray 33 (0,0))],[(b2,.cells (tcs A t).toArray 33 (0,0))]]) ?_ (fun _ s=>by
  rw[e8 _ k_]at s;exact s)
 have D0:DkP p (Al t) (.cells (dkc A (Al t).now (.slice none 0 0)).toArray 67 (0,0)) 67:=
  ⟨A,none,0,[],rfl,⟨T,H,rfl,rfl⟩,⟨Nat.le_refl _,Sl.nil _ _ _,s_⟩,rfl⟩
 refine xmq (fun m_ l p_ L_=>∃(j:Nat)(v:Value)(ob:Obj)(Y:Pcs),m_=ls.length-j/\l=[(4,none,v),(5,none,w_ b5 0),(8,none,w_ b8 0),(23,none,.slice a ls.length c),(24,none,.J ((ls.length:Nat):Int)),(25,none,.J ((j:Nat):Int))]/\PG h.size [] p p_/\
  L_=[Y,[(b8,ob)],[(b5,.cells (tcs zA zT).toArray 33 (0,0))],[(b2,.cells (tcs A t).toArray 33 (0,0))]]/\j<=ls.length/\Ac 9 1 v (scs (Ds (Al t) (ls.take j)).2) Y/\DkP p_ (Ds (Al t) (ls.take j)).1 ob 67)
  ⟨0,_,.cells (dkc A (Al t).now (.slice none 0 0)).toArray 67 (0,0),_,rfl,rfl,.refl _ _ _,rfl,Nat.zero_le _,o0,D0⟩ sb ?_
 clear D0 o0;rintro _ _ p1 _ IH ⟨j,v,ob,Y,rfl,rfl,g1,rfl,hj,o,hD⟩;have S1:=B4.mono g1.le S;have S2:Sl p1 a ls.length 1 (scs ls):=S1;have a3:(Ds (Al t) (ls.take j)).2.length=j:=by rw[xpp,List.length_take];omega
 have b4:(Ds (Al t) (ls.take j)).1.Ci.length<=30:=by
  have:=xrs (ls.take j) (Al t);rw[List.length_take]at this;have e:(Al t).Ci.length=0:=rfl;omega
 refine cq (fun ce=>?_) (fun ce=>?_)
 ·have M:j<ls.length:=om;obtain⟨hm,a8⟩:=ygm (xs:=ls) (j:=j) M;refine ax ?_;refine xoz rfl (B4.get S1 M) ?_;refine ax ?_;refine xws rfl rfl (fun h O hb a5=>c26 O b8 ob hD hb a5 (g.mono g1.le) (ls.getD j []) (a7 _ hm) om hR) fun v2 p2 o2 g2 q2=>?_;obtain⟨rfl,a6⟩:=q2;refine ax ?_;refine xbz rfl fun v3 Y3 o3=>?_;have o3:Ac 9 1 v3 (scs [(doD (Ds (Al t) (ls.take j)).1 (ls.getD j [])).2]) Y3:=o3;refine xfv rfl rfl o o3 (by simp[scs,sv,A7]) (by rw[xdz,a3,xdz];simp;omega) fun v4 Y4 o4=>?_;refine ax ?_;have eS:=xqs (ls.getD j []) (ls.take j) (Al t);rw[<- a8]at eS;exact xhq (IH _ _ _ om ⟨j+1,v4,o2,Y4,rfl,rfl,g1.trans g2,rfl,om,o4.as (by rw[eS];simp[scs]),by rw[eS];exact a6⟩)
 obtain rfl:j=ls.length:=om;rw[List.take_length]at o hD a3;have eR:Gi t ls=((Ds (Al t) ls).2,(Ds (Al t) ls).1.now.t):=by unfold Gi;rw[if_neg (by rw[H];simp;omega)]
 have eE:Mb t ls=0:=by unfold Mb;rw[if_neg (by rw[H];simp),if_neg om]
 obtain⟨A1,b0,b7,b6,rfl,N1,P1,a9⟩:=hD;refine ax ?_;refine xpx o (m:=(Ds (Al t) ls).2.length) (xdz _) d_ fun p2 a2 c2 g2 e2 a4 S3=>?_;subst e2;have hf:=xsz N1.ok;refine xvx rfl rfl (fun h O=>c27 O A1 (N1.T.mono g2.le) ⟨⟨by have:=hf.1.1;omega,by have:=hf.1.2;omega⟩,⟨by have:=hf.2.1.1;omega,by have:=hf.2.1.2.1;omega,by have:=hf.2.1.2.2;omega⟩,by have:=hf.2.2;omega⟩) ?_;rintro _ p3 g3 ⟨A',rfl,T'⟩;refine ax ?_;exact xgz func11 rfl (.tmp rfl (xtq rfl (.tmp rfl .nil))) fun _ V=>K _ _ (xwq V ((g1.trans g2).trans g3) (by
  unfold Pj;rw[eR,eE];exact⟨a2,c2,A',rfl,a4,B4.mono g3.le S3,T'⟩))
end Go.Proofs.YtblcmdjhidhnjaaGreatDoor
