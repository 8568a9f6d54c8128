/-
  Part of proofs about a town's master: a calculus for Bc beside goroutines that are only leaving, and the Bc. No condition.
-/
import Derived.Test.YtofhlcococeifaaGreatDoorYU
import Derived.Test.YtofhlcococeifaaGreatDoorYV
set_option maxHeartbeats 1600000
set_option maxRecDepth 20000
set_option synthInstance.maxSize 2000
namespace Go.X.Ms
open Go.X.Flow (Tn Cl Al Et Lq Gk LKc Eg Nb Gp F5)
open Go.X.Cist (Day Bp chk Gy C8 Cg Nh Lr)
structure Yr where
 size:Int
 start:Int
 days:List Day
structure Twn where
 s:Shf
 b:Tn
 y:Yr
noncomputable def Cj(t:Twn):Int:=if Hx t.s=0/\Et t.b=0/\chk t.y.size t.y.start t.y.days=0 then 0 else 120
inductive Qn where
 |fewest|cheap|deep|next|Fh|Ed|draws|dry|short|empty|least|ration|spare|level
def Qn.ar:Qn->Nat
 |.deep|.next|.draws|.dry|.spare|.level=>1
 |_=>0
def qn(w:Str):Option Qn:=
 if w=[102,101,119,101,115,116,48]then some .fewest
 else if w=[99,104,101,97,112,48]then some .cheap
 else if w=[100,101,101,112,49]then some .deep
 else if w=[110,101,120,116,49]then some .next
 else if w=[109,111,115,116,48]then some .Fh
 else if w=[108,97,99,107,115,48]then some .Ed
 else if w=[100,114,97,119,115,49]then some .draws
 else if w=[100,114,121,49]then some .dry
 else if w=[115,104,111,114,116,48]then some .short
 else if w=[101,109,112,116,121,48]then some .empty
 else if w=[108,101,97,115,116,48]then some .least
 else if w=[114,97,116,105,111,110,48]then some .ration
 else if w=[115,112,97,114,101,49]then some .spare
 else if w=[108,101,118,101,108,49]then some .level
 else none
inductive Od where
 |Li|Fu|up|Ew|Kp|want|has|way|day|size
def Od.ar:Od->Nat
 |.Li=>4
 |.up=>0
 |.want|.has|.way=>2
 |.day=>3
 |_=>1
def od(w:Str):Option Od:=
 if w=[114,111,99,107,52]then some .Li
 else if w=[102,111,111,116,49]then some .Fu
 else if w=[117,112,48]then some .up
 else if w=[104,111,117,115,101,49]then some .Ew
 else if w=[119,101,108,108,49]then some .Kp
 else if w=[119,97,110,116,50]then some .want
 else if w=[104,97,115,50]then some .has
 else if w=[119,97,121,50]then some .way
 else if w=[100,97,121,51]then some .day
 else if w=[115,105,122,101,49]then some .size
 else none
inductive Rs where
 |num (n:Int)
 |spn (a b:Int)
 |lst (l:List Int)
noncomputable def B2(q:Qn)(t:Twn)(a:List Int):Rs×Int:=match q with
 |.fewest=>(.num (Ft t.s),Ck ltF t.s)
 |.cheap=>(.num (Cs t.s),Ck ltC t.s)
 |.deep=>(.num (Kx t.s (a.getD 0 0)),Ly t.s (a.getD 0 0))
 |.next=>(.num (Hg t.s (a.getD 0 0)),FmZ t.s (a.getD 0 0))
 |.Fh=>(.num (Gk t.b),Et t.b)
 |.Ed=>(.lst (LKc t.b),Et t.b)
 |.draws=>(.spn (Eg t.b (a.getD 0 0) (-1)) (Eg t.b (a.getD 0 0) 1),Lq t.b (decide (0<=a.getD 0 0/\a.getD 0 0<=(t.b.nH:Int)-1)))
 |.dry=>(.num (Nb t.b (a.getD 0 0)),Lq t.b (decide (0<=a.getD 0 0/\a.getD 0 0<=(t.b.nW:Int)-1)))
 |.short=>(.lst (Gp t.b),F5 t.b)
 |.empty=>(.num (Nh t.y.size t.y.start t.y.days).1,(Nh t.y.size t.y.start t.y.days).2)
 |.least=>(.num (Gy t.y.size t.y.start t.y.days).1,(Gy t.y.size t.y.start t.y.days).2)
 |.ration=>(.num (if Cist.Ok t.y.size t.y.start t.y.days then Cg t.y.size t.y.start t.y.days 20 else 0),chk t.y.size t.y.start t.y.days)
 |.spare=>(.num (C8 t.y.size t.y.start t.y.days (a.getD 0 0)).1,(C8 t.y.size t.y.start t.y.days (a.getD 0 0)).2)
 |.level=>(.spn (Lr t.y.size t.y.start t.y.days (a.getD 0 0)).1.1 (Lr t.y.size t.y.start t.y.days (a.getD 0 0)).1.2,(Lr t.y.size t.y.start t.y.days (a.getD 0 0)).2)
def Mz:List Int->Str
 |[]=>[]
 |x::xs=>32::(txt x++Mz xs)
def Nt:List Int->Str
 |[]=>[110,111,116,104,105,110,103]
 |x::xs=>txt x++Mz xs
def Rs.text:Rs->Str
 |.num n=>txt n
 |.spn a b=>txt a++([32,116,111,32]++txt b)
 |.lst l=>Nt l
def Lt(l:List Int)(i x:Int):Option (List Int):=if 0<=i/\i<(l.length:Int)then some (l.set i.toNat x)else none
def Mt(w x:Cl):Bool:=decide (w.1<x.1\/w.1=x.1/\w.2<x.2)
def K3(H:List Cl)(w:Cl):Nat:=if Flow.Dn (Mt w) H<0 then H.length else(Flow.Dn (Mt w) H).toNat
def Qb(H:List Cl)(w:Cl):List Cl:=H.take (K3 H w)++w::H.drop (K3 H w)
def Ct(o:Od)(t:Twn)(a:List Int):Option Twn:=match o with
 |.Li=>some {t with s:={t.s with Ah:=t.s.Ah++[⟨a.getD 0 0,a.getD 1 0,a.getD 2 0,a.getD 3 0⟩]}}
 |.Fu=>some {t with s:={t.s with Af:=t.s.Af++[a.getD 0 0]}}
 |.up=>if t.s.Af.length=0 then none else some {t with s:={t.s with Af:=t.s.Af.take (t.s.Af.length-1)}}
 |.Ew=>some {t with b:={t.b with hs:=t.b.hs++[a.getD 0 0]}}
 |.Kp=>some {t with b:={t.b with ws:=t.b.ws++[a.getD 0 0]}}
 |.want=>(Lt t.b.hs (a.getD 0 0) (a.getD 1 0)).map fun l=>{t with b:={t.b with hs:=l}}
 |.has=>(Lt t.b.ws (a.getD 0 0) (a.getD 1 0)).map fun l=>{t with b:={t.b with ws:=l}}
 |.way=>some {t with b:={t.b with wy:=Qb t.b.wy (a.getD 0 0,a.getD 1 0)}}
 |.day=>some {t with y:={t.y with days:=t.y.days++[⟨a.getD 0 0,a.getD 1 0,a.getD 2 0⟩]}}
 |.size=>some {t with y:={t.y with size:=a.getD 0 0}}
structure Cv where
 t:Twn
 Du:List Int
 kept:List Int
structure Dsk where
 now:Cv
 Bz:List Cv
def Ee(s:Str):Nat:=(s.headD 0).toNat-97
def H6(d:Cv)(s:Str):Option Int:=if isLet s=true then(if d.kept.getD (Ee s) 0=0 then none else some (d.Du.getD (Ee s) 0))else some ((Cu s).getD 0)
def A5(d:Cv):List Str->Option (List Int)
 |[]=>some []
 |s::ss=>match H6 d s with
   |none=>none
   |some n=>(A5 d ss).map (n:: ·)
def Hi(d:Dsk)(H:Str):Rs->Dsk
 |.num n=>{d with now:={d.now with Du:=d.now.Du.set (Ee H) n,kept:=d.now.kept.set (Ee H) 1}}
 |_=>d
def Hq:Str:=[110,111,110,101]
def Er:Str:=[119,114,111,110,103]
def Dh:Str:=[119,104,97,116]
def Ay:Str:=[117,110,107,110,111,119,110]
def wOk:Str:=[111,107]
def wNo:Str:=[110,111]
def Ap:Str:=[98,101,103,105,110]
def Fl:Str:=[101,110,100]
def Cc:Str:=[100,114,111,112]
def D7:Str:=[107,101,101,112]
noncomputable def C5(d:Dsk)(q:Qn)(a:List Int)(H:Str):Dsk×Str:=
 if(B2 q d.now.t a).2=3 then(d,Hq)
 else if(B2 q d.now.t a).2≠0 then(d,Er)
 else(if H≠[]then Hi d H (B2 q d.now.t a).1 else d,(B2 q d.now.t a).1.text)
def tryD(d:Dsk)(w:Str):Dsk×Bool:=
 if w=Ap then({d with Bz:=d.Bz++[d.now]},true)
 else match d.Bz.getLast? with
  |none=>(d,false)
  |some x=>if w=Cc then(⟨x,d.Bz.take (d.Bz.length-1)⟩,true)else(⟨d.now,d.Bz.take (d.Bz.length-1)⟩,true)
def Ek(b:Bool):Str:=if b then wOk else wNo
def C2(w:Str)(n:Nat):Bool:=decide (n=0)&&(decide (w=Ap)||decide (w=Fl)||decide (w=Cc))
noncomputable def C0(d:Dsk)(H:Str)(parts:List Str):Dsk×Str:=
 let word:=parts.headD []
 let args:=parts.tail
 let how:=qn (word++txt args.length)
 let Ow:=od (word++txt args.length)
 if args.all Ba=false\/(how=none/\(H≠[]\/(Ow=none/\C2 word args.length=false)))then(d,Dh)
 else match A5 d.now args with
  |none=>(d,Ay)
  |some vs=>match how with
    |some q=>C5 d q vs H
    |none=>if C2 word args.length=true then((tryD d word).1,Ek (tryD d word).2)
      else match Ow with
       |none=>(d,wNo)
       |some o=>match Ct o d.now.t vs with
         |none=>(d,wNo)
         |some t=>if Cj t=0 then({d with now:={d.now with t:=t}},wOk)else(d,wNo)
noncomputable def doD(d:Dsk)(H:Str):Dsk×Str:=
 let parts:=Ad H
 if parts.headD []=D7 then(if parts.length<3\/isLet (parts.getD 1 [])=false then(d,Dh)else C0 d (parts.getD 1 []) (parts.drop 2))else C0 d [] parts
noncomputable def Az:Dsk->List Str->Dsk×List Str
 |d,[]=>(d,[])
 |d,x::xs=>((Az (doD d x).1 xs).1,(doD d x).2::(Az (doD d x).1 xs).2)
def Ai(t:Twn):Dsk:=⟨⟨t,List.replicate 26 0,List.replicate 26 0⟩,[]⟩
open Go.X.Flow (Tn Cl Al)
open Go.X.Cist (Day Bp)
abbrev AC:=Option Addr×Nat
structure TA where
 r:AC
 f:AC
 h:AC
 w:AC
 y:AC
 d:AC
abbrev tcs(A:TA)(t:Twn):List Value:=[.slice A.r.1 t.s.Ah.length A.r.2,.slice A.f.1 t.s.Af.length A.f.2,.J t.s.deep,.J t.s.Cp,.J t.s.rest,.slice A.h.1 t.b.nH A.h.2,.slice A.w.1 t.b.nW A.w.2,.slice A.y.1 t.b.m A.y.2,.J t.y.size,.J t.y.start,.slice A.d.1 t.y.days.length A.d.2]
structure TwP(p:Ab)(A:TA)(t:Twn):Prop where
 s:Cy p A.r.1 A.f.1 t.s
 b:Al p A.h.1 t.b.nH A.w.1 t.b.nW A.y.1 t.b.m t.b
 d:Bp p A.d.1 t.y.days.length t.y.days
 c:(t.s.Ah.length<=A.r.2/\t.s.Af.length<=A.f.2)/\(t.b.nH<=A.h.2/\t.b.nW<=A.w.2/\t.b.m<=A.y.2)/\t.y.days.length<=A.d.2
theorem TwP.mono{p p':Ab}{A:TA}{t:Twn}(T:TwP p A t)(H:PLe p p'):TwP p' A t:=⟨T.s.mono H,⟨T.b.h.mono H,T.b.w.mono H,T.b.y.mono H⟩,Sl.mono H T.d,T.c⟩
def Twn.fit(t:Twn)(n:Nat):Prop:=(t.s.Ah.length<=n/\t.s.Af.length<=n)/\(t.b.nH<=n/\t.b.nW<=n/\t.b.m<=n)/\t.y.days.length<=n
theorem xcw{t:Twn}:Cj t=0<->Hx t.s=0/\Flow.Et t.b=0/\Cist.chk t.y.size t.y.start t.y.days=0:=by
 unfold Cj;split
 ·rename_i h;simp[h]
 ·rename_i h;simp only[h];simp
theorem xdz{t:Twn}(h:Cj t=0):t.fit 12:=by
 obtain⟨H,h2,O⟩:=xcw.1 h;have s:t.s.ok:=by
  unfold Hx at H;split at H
  ·assumption
  ·cases H
 obtain⟨V,v⟩:=Flow.M7 h2;have M:=v.ok om;have y:=Cist.B5.1 O;have:=s.1;have:=s.2.2.1;have:=y.2.2.2.2.1
 refine⟨⟨om,om⟩,⟨?_,?_,V⟩,om⟩
 ·have:=M.nh;omega
 ·have:=M.nw;omega
end Go.X.Ms
namespace Go.X
abbrev Ms.twV(A:Ms.TA)(t:Ms.Twn):Value:=.agg (Ms.tcs A t).toArray
theorem xn3(xs:List Rk):∀u∈(rcs xs).flatten,Bj u=true:=by
 intro u H;simp only[rcs,List.mem_flatten,List.mem_map]at H;obtain⟨_,⟨w,_,rfl⟩,H⟩:=H;simp only[Rk.cells,List.mem_cons,List.not_mem_nil,or_false]at H;rcases H with rfl|rfl|rfl|rfl<;>rfl
theorem xun(xs:List Flow.Cl):∀u∈(Flow.wcs xs).flatten,Bj u=true:=by
 intro u H;simp only[Flow.wcs,List.mem_flatten,List.mem_map]at H;obtain⟨_,⟨w,_,rfl⟩,H⟩:=H;simp only[Flow.Cl.cells,List.mem_cons,List.not_mem_nil,or_false]at H;rcases H with rfl|rfl<;>rfl
end Go.X
namespace Go.X.Flow
theorem xx2(xs H:List Cl):wcs (xs++H)=wcs xs++wcs H:=by simp[wcs]
theorem xu4(xs:List Cl)(i:Nat):wcs (xs.take i)=(wcs xs).take i:=by simp[wcs]
theorem xv4(xs:List Cl)(i:Nat):wcs (xs.drop i)=(wcs xs).drop i:=by simp[wcs]
theorem xpn(xs:List Cl):∀u∈(wcs xs).flatten,Bj u=true:=by
 intro u H;simp only[wcs,List.mem_flatten,List.mem_map]at H;obtain⟨_,⟨w,_,rfl⟩,H⟩:=H;simp only[Cl.cells,List.mem_cons,List.not_mem_nil,or_false]at H;rcases H with rfl|rfl<;>rfl
theorem yk0{α:Type}{A B zs:List α}{x:α}(M:zs.length=B.length+1):(A++zs).take A.length++([x]++(A++zs).drop (A.length+1))=(A++[x])++zs.drop 1/\((A++[x])++zs.drop 1).length=A.length+B.length+1/\
 ((A++[x])++zs.drop 1).take (A.length+1)++(B++((A++[x])++zs.drop 1).drop (A.length+1+B.length))=A++x::B:=by
 have H:((A++[x])++zs.drop 1).length=A.length+B.length+1:=by simp;omega
 refine⟨?_,H,?_⟩
 ·rw[List.take_left' rfl,<- List.drop_drop,List.drop_left' rfl,List.append_assoc]
 ·rw[List.take_left' s_,List.drop_of_length_le om,List.append_nil,List.append_assoc];rfl
theorem yl0{α:Type}{W:List α}{u x:α}{i n:Nat}(hn:W.length=n)(hi:i<n):((W++[u]).drop i).take (n-i)=W.drop i/\((W++[u]).take (i+1)++(W.drop i++(W++[u]).drop (i+1+(n-i)))).length=n+1/\
 ((W++[u]).take (i+1)++(W.drop i++(W++[u]).drop (i+1+(n-i)))).take i++([x]++((W++[u]).take (i+1)++(W.drop i++(W++[u]).drop (i+1+(n-i)))).drop (i+1))=W.take i++x::W.drop i:=by
 subst hn;have H:(W++[u]).drop (i+1+(W.length-i))=[]:=List.drop_of_length_le (by simp;omega);have M:((W++[u]).take (i+1)).length=i+1:=by simp;omega
 refine⟨?_,by rw[H];simp;omega,?_⟩
 ·rw[List.drop_append_of_le_length om,List.take_left' s_]
 ·rw[H,List.append_nil,List.drop_left' M,List.take_append_of_le_length om,List.take_take,Nat.min_eq_left om,List.take_append_of_le_length om];rfl
end Go.X.Flow
namespace Go.X.Ms
theorem ykx{n:Nat}(h:n<=999999):(txt (n:Int)).length<=6:=by
 have e:txt (n:Int)=C9 n:=by
  unfold txt;rw[if_neg om,Int.natAbs_natCast]
 rw[e];exact xhj (k:=5) om
def Lz(l:List Int):Nat->Str
 |0=>[]
 |k+1=>Lz l k++((if k=0 then []else [32])++txt (l.getD k 0))
theorem xh1(x:Int)(xs:List Int):∀k,k<=xs.length->Lz (x::xs) (k+1)=txt x++Mz (xs.take k)
 |0,_=>by simp[Lz,Mz]
 |k+1,h=>by
   rw[Lz,xh1 x xs k om,if_neg om,List.append_assoc];congr 1;have e:∀(H:List Int)(z:Int),Mz (H++[z])=Mz H++(32::txt z):=by
    intro H z
    induction H with
    |nil=>simp[Mz]
    |cons y H ih=>simp[Mz,ih]
   have M:xs.take (k+1)=xs.take k++[xs.getD k 0]:=by
    rw[List.take_succ_eq_append_getElem om];rw[List.getD_eq_getElem?_getD,List.getElem?_eq_getElem om];rfl
   rw[M,e];simp
theorem yad{l:List Int}(h:0<l.length):Lz l l.length=Nt l:=by
 cases l with
 |nil=>simp at h
 |cons x xs=>rw[List.length_cons,xh1 x xs xs.length (Nat.le_refl _),List.take_length];rfl
def i64(n:Int):Prop:=-9223372036854775808<=n/\n<=9223372036854775807
theorem xuz{n:Int}(h:i64 n):(txt n).length<=20:=by
 have M:=h.1;have H:=h.2;have e:(C9 n.natAbs).length<=19:=xhj (k:=18) om;unfold txt;split
 ·simp;exact e
 ·omega
theorem xus{l:List Int}(h:∀i,i<l.length->i64 (l.getD i 0)):∀k,k<=l.length->(Lz l k).length<=21*k
 |0,_=>by simp[Lz]
 |k+1,hk=>by
   have:=xus h k om;have:=xuz (h k om);rw[Lz];generalize txt (l.getD k 0)=u at*;split<;>simp only[List.length_append,List.length_nil,List.length_cons]<;>omega
theorem xz2(n:Int):0<(txt n).length:=by
 unfold txt;split
 ·simp
 ·exact xkc _
end Go.X.Ms
namespace Go.Proofs.YtofhlcococeifaaGreatDoor
open Go.Proofs.Tryz
open Go.X Go.X.Ms Go.Conc
open Go.X.Flow (Cl Wys wz ics)
open Go.X.Cist (Day Bp dcs dz D9)
variable{h z9:Heap}{zz:List Nat}{xs:List Rk}{md:Md}{n:Nat}{z zB:Nat×Nat}{p:Ab}{tB tT:TypeId}{v:Value}
theorem cf67{a:Option Addr}{c:Nat}(S:Rks p a n xs)(hn:n<=2^20):Nc prog md p 67 #[.slice a n c] (fun v Y=>Aa 96 4 v (rcs xs) Y):=by
 have hl:=S.len;refine xlq func67 fun K=>?_;refine ro_y rfl (ydx rfl) ?_;refine cq (fun M=>?_) (fun M=>?_)
 ·refine ax ?_;have e:xs=[]:=by
   by_cases O:0<n
   ·rw[Sl.ne S O]at M;cases M
   ·exact List.eq_nil_of_length_eq_zero om
  subst e;refine xjj 96 4 fun o=>?_;exact K.r rfl rfl fun _ H=>⟨_,o,Eu H⟩
 refine ax ?_;refine xxx rfl fun v Y o=>?_;refine ax ?_;refine xiw rfl rfl o S (xn3 xs) (by simp[chs];omega) (fun v' Y' V=>?_);refine ax ?_;exact K.r rfl rfl fun _ H=>⟨_,V,Eu H⟩
theorem cf69{a:Option Addr}{c:Nat}{xs:List Cl}(S:Wys p a n xs)(hn:n<=2^20):Nc prog md p 69 #[.slice a n c] (fun v Y=>Aa 98 2 v (Flow.wcs xs) Y):=by
 have hl:=S.len;refine xlq func69 fun K=>?_;refine ro_y rfl (ydx rfl) ?_;refine cq (fun M=>?_) (fun M=>?_)
 ·refine ax ?_;have e:xs=[]:=by
   by_cases V:0<n
   ·rw[Sl.ne S V]at M;cases M
   ·exact List.eq_nil_of_length_eq_zero om
  subst e;refine xjj 98 2 fun o=>?_;exact K.r rfl rfl fun _ H=>⟨_,o,Eu H⟩
 refine ax ?_;refine xxx rfl fun v Y o=>?_;refine ax ?_;refine xiw rfl rfl o S (xun xs) (by simp[chs];omega) (fun v' Y' O=>?_);refine ax ?_;exact K.r rfl rfl fun _ H=>⟨_,O,Eu H⟩
theorem yn8{a:Option Addr}{c:Nat}(S:Rks p a n xs)(hc:n<=c)(hn:n<=2^20)(x:Rk):Nc prog md p 146 #[.slice a n c,.agg #[.J x.hr,.J x.pe,.J x.sd,.J x.st]] (fun v Y=>Aa 96 4 v (rcs (xs++[x])) Y):=by
 have hl:=S.len;have ec:rcs (xs++[x])=rcs xs++rcs [x]:=by simp[rcs]
 refine xkq func146 fun K b1=>?_;refine drq [7] R8 ?_;refine de_y rfl rfl (yzq rfl rfl rfl hc) ?_;refine ex ?_;refine xvz rfl rfl fun M Y2 H=>?_;refine xa ?_;have H:Aa 96 4 M (rcs [x]) Y2:=H;refine xz0 rfl rfl S H (Nat.succ_pos _) (by simp[rcs];omega) fun v3 V o3=>?_;refine ax ?_;exact K.r rfl rfl fun _ O=>⟨V,o3.as ec.symm,Eu O⟩
theorem ymr{a:Option Addr}{c:Nat}{xs:List Int}(S:Ax p a n xs)(hc:n<=c)(hn:n<=2^20)(x:Int):Nc prog md p 148 #[.slice a n c,.J x] (fun v Y=>Aa 3 1 v (ics (xs++[x])) Y):=by
 have hl:=S.len;have ec:ics (xs++[x])=ics xs++ics [x]:=by simp[ics]
 refine xlq func148 fun K=>?_;refine ro_y rfl (yzq rfl rfl rfl hc) ?_;refine ax ?_;refine xxx rfl fun M Y2 H=>?_;have H:Aa 3 1 M (ics [x]) Y2:=H;refine xz0 rfl rfl S H (Nat.succ_pos _) (by simp[ics];omega) fun v3 V o3=>?_;refine ax ?_;exact K.r rfl rfl fun _ O=>⟨V,o3.as ec.symm,Eu O⟩
theorem yb8{a:Option Addr}{c:Nat}{xs:List Day}(S:Bp p a n xs)(hc:n<=c)(hn:n<=2^20)(x:Day):Nc prog md p 160 #[.slice a n c,.agg #[.J x.lo,.J x.hi,.J x.want]] (fun v Y=>Aa 102 3 v (dcs (xs++[x])) Y):=by
 have hl:=S.len;have O:dcs (xs++[x])=dcs xs++dcs [x]:=by simp[dcs]
 refine xkq func160 fun K b1=>?_;refine drq [7] R8 ?_;refine de_y rfl rfl (yzq rfl rfl rfl hc) ?_;refine ex ?_;refine xvz rfl rfl fun v2 V H=>?_;refine xa ?_;have H:Aa 102 3 v2 (dcs [x]) V:=H;refine xz0 rfl rfl S H (Nat.succ_pos _) (by simp[dcs];omega) fun v3 M o3=>?_;refine ax ?_;exact K.r rfl rfl fun _ H_=>⟨M,o3.as O.symm,Eu H_⟩
theorem cf65(b:Bool):Dc prog md p 65 #[.bool b] (sv (Ek b)):=by
 refine xlq func65 fun K=>?_;refine cq (fun H=>?_) (fun H=>?_)
 ·refine K.q ?_;rw[show b=true from H];rfl
 ·refine K.q ?_;rw[show b=false from by simpa using H];rfl
theorem cf35(A:TA)(t:Twn)(T:TwP p A t)(hn:t.fit (2^20)):Dc prog md p 35 #[twV A t] (.J (Cj t)):=by
 obtain⟨⟨n1,n2⟩,⟨M,O,n5⟩,V⟩:=hn;refine xkq func35 fun K b1=>?_;refine ax ?_;refine xpx rfl rfl (cf55 t.s T.s ⟨om,om⟩) ?_;refine ax ?_;refine xqz rfl rfl rfl sdt (fun _=>cf56 t.b T.b ⟨om,om,om⟩) ?_;refine ax ?_;refine xqz rfl rfl rfl sdt (fun _=>cf57 _ _ _ _ _ T.d om) ?_;refine cq (fun H=>?_) (fun H=>?_)
 ·refine K.q ?_;rw[Cj,if_neg (fun z=>by simp[z]at H)];rfl
 ·refine K.q ?_;rw[Cj,if_pos (by simp at H;exact⟨H.1.1,H.1.2,H.2⟩)];rfl
open Go.X Go.X.Flow Go.Conc
theorem yd8(C:Pcs){Y Z:Pcs}{z:Value}(xs:List Cl)(x:Cl)(i:Nat)(hi:i<=xs.length)(hn:xs.length<=2^20)(o:Aa 98 2 v (wcs xs) Y)(oz:Aa 98 2 z (wcs [x]) Z)(s:St z9 zz p h ((Y++Z)++C)):
 Ac prog md 158 #[v,.J ((i:Nat):Int),z] h fun v' h'=>∃Y',Aa 98 2 v' (wcs (xs.take i++x::xs.drop i)) Y'/\St z9 zz p h' (Y'++C):=by
 have hl:(wcs xs).length=xs.length:=Ar xs;refine xpj s func158 fun _ _ _ K=>?_;refine xrz Y Z ?_;obtain⟨a,c,rfl,-⟩:=o.val;have a6:=o.room d_ rfl;rw[hl]at o a6⊢;obtain⟨bz,cz,rfl,b7,-⟩:∃b cap,z=.slice (some ⟨b,0,none⟩) 1 cap/\1<=cap/\True:=by
  obtain⟨b,cap,e,hc,-⟩:=oz.at0 (by rw[Ar];exact Nat.one_pos) d_;exact⟨b,cap,e,hc,trivial⟩
 refine ax ?_;refine xv0 rfl rfl (j:=i) ⟨hi,a6⟩ ?_;refine ax ?_;refine xcx rfl (fun cc=>absurd cc d_) (fun _=>?_);refine cq (fun cc=>?_) (fun cc=>?_)
 ·have ei:i=xs.length:=om;refine ax ?_;refine xiv rfl rfl o oz (xpn _) (by simp[Ar];omega) fun v' Y' o'=>?_;refine ax ?_;exact xsq func158 rfl rfl fun _ H_=>K _ _ ⟨Y',by rw[ei,List.take_length,List.drop_length,xx2];exact o',xoh H_⟩
 have a4:i<xs.length:=om;refine ax ?_;refine ro_y rfl (yk3 rfl) ?_;refine cq (fun ce=>?_) (fun ce=>?_)
 ·have a9:c=xs.length:=om;subst a9;refine ax ?_;refine xzq o (m:=xs.length) hl d_ fun p1 a1 c1 g1 e1 b5 O=>?_;cases e1;refine xzq oz (m:=1) rfl d_ fun p2 a2 c2 g2 e2 a7 S2=>?_;cases e2;have O:=O.mono g2.le;have Si:Sl p2 a i 2 (wcs (xs.take i)):=by
   have z:=O.cut (lo:=0) (hi:=i) (Nat.zero_le _) om (a':=a) (fun _=>by rw[Nat.zero_mul];exact(O.ne om).trans (by rfl));rw[xu4];simpa using z
  have Sd:Sl p2 (Cf a xs.length i 2) (xs.length-i) 2 (wcs (xs.drop i)):=by
   have z:=O.cut (lo:=i) (hi:=xs.length) hi (Nat.le_refl _) (a':=Cf a xs.length i 2) (fun _=>by rw[O.ne om,xdd a4];rfl);rw[xv4];have e:((wcs xs).drop i).take (xs.length-i)=(wcs xs).drop i:=List.take_of_length_le (by simp[Ar]);rwa[e]at z
  refine xef rfl rfl (j:=i) om ?_;refine ax ?_;have e3:((xs.length:Nat):Int)+((1:Nat):Int)-((i:Nat):Int)=((xs.length+1-i:Nat):Int):=om;refine ygt (m:=xs.length+1-i) rfl (congrArg (fun z=>some ([],Value.J z)) e3) Si om om om fun v' Y' zs hz o'=>?_;have a5:(wcs (xs.take i)++zs).length=xs.length+1:=by rw[List.length_append,Ar,List.length_take,hz];omega
  obtain⟨b3,c3,rfl,b6,-⟩:∃b cap,v'=.slice (some ⟨b,0,none⟩) (xs.length+1) cap/\xs.length+1<=cap/\True:=by
   obtain⟨b,cap,e,hc,-⟩:=o'.at0 om d_;rw[a5]at e hc;exact⟨b,cap,e,hc,trivial⟩
  refine ax ?_;refine xv0 rfl rfl (j:=i) ⟨om,om⟩ ?_;refine ax ?_;refine ypz (off:=i) (by rw[xdd om,xox,Nat.zero_add];rfl) rfl o' S2 a5 om om om (xpn _) fun Y2 V=>?_;refine drq [] R8 ?_;refine de_y rfl rfl (xhl rfl rfl ⟨om,om⟩ (j:=i+1)) ?_;refine ex ?_;refine de_y rfl rfl (xhl rfl rfl ⟨hi,om⟩ (j:=i)) ?_;refine xa ?_;have eA:(wcs (xs.take i)).length=i:=by rw[Ar,List.length_take];omega
  have eB:(wcs (xs.drop i)).length=xs.length-i:=by rw[Ar,List.length_drop]
  have H:=yk0 (A:=wcs (xs.take i)) (B:=wcs (xs.drop i)) (zs:=zs) (x:=x.cells) om;rw[eA,eB]at H;have V:=V.as H.1;have a3:=H.2.1;rw[show i+(xs.length-i)+1=xs.length+1 by omega]at a3;refine ypz (off:=i+1) (by by_cases z:i+1<c3;(rw[xdd z,xox,Nat.zero_add];rfl);omega) rfl V Sd a3 om om om (xpn _) fun Y3 M=>?_;refine ax ?_;have M:=M.as (H.2.2.trans (show _=wcs (xs.take i++x::xs.drop i) by rw[xx2];rfl));exact xsq func158 rfl rfl fun _ H_=>K _ _ ⟨Y3,M,(xoh H_).forget (g1.le.trans g2.le)⟩
 obtain⟨b,rfl⟩:∃b,a=some ⟨b,0,none⟩:=by
  obtain⟨b,cap,e,-,-⟩:=o.at0 om d_;injection e with e1 _ _;exact⟨b,e1⟩
 obtain⟨u,o1⟩:=o.more om;refine ax ?_;refine xef rfl (congrArg (fun z=>some ([],Value.J z)) (show((xs.length:Nat):Int)+((1:Nat):Int)=((xs.length+1:Nat):Int) by omega)) (j:=xs.length+1) om ?_;refine ax ?_;refine xv0 rfl (congrArg (fun z=>some ([],Value.J z)) (show((i:Nat):Int)+((1:Nat):Int)=((i+1:Nat):Int) by omega)) (j:=i+1) ⟨om,om⟩ ?_;rw[xdd om,xox,Nat.zero_add];refine ax ?_;obtain⟨cy,rfl,b0⟩:=o1.blk;obtain⟨cw,rfl,b4⟩:=oz.blk;refine yus (tS:=26) (tR:=4) (eT:=98) (w:=2) (i:=1) (j:=0) func227 k_ rfl rfl rfl rfl om rfl om d_ ?_;refine ax ?_;rw[Bool.not_false];refine xcx rfl (fun _=>?_) (fun cd=>absurd trivial cd);refine drq [] R8 ?_;refine de_y rfl rfl (xhl rfl (congrArg (fun z=>some ([],Value.J z)) (show((i:Nat):Int)+((1:Nat):Int)=((i+1:Nat):Int) by omega)) ⟨om,om⟩ (j:=i+1)) ?_;refine ex ?_;refine de_y rfl rfl (xhl rfl rfl ⟨om,om⟩ (j:=i)) ?_;refine xa ?_;rw[xdd om,xox,Nat.zero_add,xdd om,xox,Nat.zero_add];have a8:(wcs xs++[u]).length=xs.length+1:=by rw[List.length_append,hl];rfl
 have H:=yl0 (W:=wcs xs) (u:=u) (x:=x.cells) hl a4;refine yct (off:=i+1) (j:=i) (q:=xs.length-i) rfl rfl o1 a8 om (by show min _ _=_;omega) om om (fun z hz=>xpn xs z ?_) fun Y2 V=>?_
 ·rw[H.1]at hz;obtain⟨e,h2,h3⟩:=List.mem_flatten.1 hz;exact List.mem_flatten.2 ⟨e,List.mem_of_mem_drop h2,h3⟩
 rw[H.1]at V;refine ax ?_;refine xzq oz (m:=1) rfl d_ fun p2 a2 c2 g2 e2 a7 S2=>?_;cases e2;refine xv0 rfl rfl (j:=i) ⟨om,om⟩ ?_;refine ax ?_;refine ypz (off:=i) (by rw[xdd om,xox,Nat.zero_add];rfl) rfl V S2 H.2.1 om om om (xpn _) fun Y3 M=>?_;have M:=M.as (H.2.2.trans (show _=wcs (xs.take i++x::xs.drop i) by rw[xx2,<- xu4];show _=_++(x.cells::wcs (xs.drop i));rw[xv4]));refine ax ?_;exact xsq func158 rfl rfl fun _ H_=>K _ _ ⟨Y3,M,(xoh H_).forget g2.le⟩
open Go.X.Flow (Cl Wys wz ics Al wcs)
open Go.X.Cist (Day Bp dcs dz D9 Aj)
theorem xrq(xs:List Int):(ics xs).length=xs.length:=by simp[ics]
theorem xvv(xs:List Rk):(rcs xs).length=xs.length:=by simp[rcs]
theorem cf37(A:TA){t:Twn}(T:TwP p A t)(hn:t.fit (2^20)):Lc prog md p 37 #[twV A t] (fun v p'=>∃A',v=twV A' t/\TwP p' A' t):=by
 obtain⟨⟨n1,n2⟩,⟨n3,n4,n5⟩,n6⟩:=hn;refine xkq func37 fun K b1=>?_;refine lq fun b2=>?_;refine drq [3,7] [0,1,2,4,5,6,3,8,9,7] ?_;refine xuk rfl rfl rfl (cf67 T.s.r n1) fun v1 Y1 o1=>?_;obtain⟨a1,c1,rfl,-⟩:=o1.val;rw[xvv]at o1⊢;refine ex ?_;refine xuk rfl rfl rfl (cf68 T.s.f n2) fun v2 Y2 o2=>?_;obtain⟨a2,c2,rfl,-⟩:=o2.val;rw[xrq]at o2⊢;refine ex ?_;refine drq [3,7,11] [0,1,2,4,5,6,8,9,10,3,12,13,7,11] ?_;refine xuk rfl rfl rfl (cf68 T.b.h n3) fun v3 Y3 o3=>?_;obtain⟨a3,c3,rfl,-⟩:=o3.val;rw[xrq]at o3⊢;refine ex ?_;refine xuk rfl rfl rfl (cf68 T.b.w n4) fun v4 Y4 o4=>?_;obtain⟨a4,c4,rfl,-⟩:=o4.val;rw[xrq]at o4⊢;refine ex ?_;refine xuk rfl rfl rfl (cf69 T.b.y n5) fun v5 Y5 o5=>?_;obtain⟨a5,c5,rfl,-⟩:=o5.val;rw[Flow.Ar]at o5⊢;refine xa ?_;refine coq (cf70 _ _ _ T.d n6) fun v6 Y6 o6=>?_;obtain⟨a6,c6,rfl,-⟩:=o6.val;rw[Aj]at o6⊢;refine ax ?_;refine xiq o1 (m:=t.s.Ah.length) (xvv _) d_ fun p1 _ _ g1 e1 a8 S1=>?_;cases e1;refine xiq o2 (m:=t.s.Af.length) (xrq _) d_ fun p2 _ _ g2 e2 b3 S2=>?_;cases e2;refine xiq o3 (m:=t.b.nH) (xrq _) d_ fun p3 _ _ g3 e3 b0 S3=>?_;cases e3;refine xiq o4 (m:=t.b.nW) (xrq _) d_ fun p4 _ _ O e4 a7 S4=>?_;cases e4;refine xiq o5 (m:=t.b.m) (Flow.Ar _) d_ fun p5 _ _ M e5 V S5=>?_;cases e5;refine xiq o6 (m:=t.y.days.length) (Aj _) d_ fun p6 _ _ H e6 a9 S6=>?_;cases e6
 exact K.e rfl (xpq rfl .nil) fun _ H_=>(xqq H_ (((((g1.trans g2).trans g3).trans O).trans M).trans H) ⟨⟨(a1,c1),(a2,c2),(a3,c3),(a4,c4),(a5,c5),(a6,c6)⟩,rfl,
  ⟨⟨Sl.mono ((((g2.trans g3).trans O).trans M).trans H).le S1,Sl.mono (((g3.trans O).trans M).trans H).le S2⟩,⟨Sl.mono ((O.trans M).trans H).le S3,Sl.mono (M.trans H).le S4,Sl.mono H.le S5⟩,S6,⟨a8,b3⟩,⟨b0,a7,V⟩,a9⟩⟩)
open Go.X.Flow (Cl Wys wz ics Cm Co Al wcs)
def Dl(o:Od)(t:Twn)(vs:List Int)(v:Value)(p':Ab)(ob:Obj):Prop:=match Ct o t vs with
 |none=>v=.bool false
 |some t'=>v=.bool true/\ ∃H:TA,ob=.cells (tcs H t').toArray 33 (0,0)/\TwP p' H t'
theorem yo8(hp:Per p h)(b:Nat)(A:TA)(t:Twn)(hb:h[b]?=some (.cells (tcs A t).toArray 33 (0,0)))(H:p b=none)(T:TwP p A t)(hn:t.fit (2^20)){a:Option Addr}(n c:Nat)(vs:List Int)(V:Ax p a n vs)(hv:n=4):
 Ac prog md 145 #[w_ b 0,.slice a n c] h (Dm p h b (Dl .Li t vs)):=by
 obtain⟨⟨n1,n2⟩,⟨n3,n4,n5⟩,n6⟩:=hn;obtain⟨⟨k1,k2⟩,⟨k3,k4,k5⟩,k6⟩:=T.c;refine xoz hp hb H func145 fun _ _ _ K=>?_;refine drq [19] R20 ?_;refine xuk rfl rfl rfl (yn8 T.s.r k1 n1 ⟨vs.getD 0 0,vs.getD 1 0,vs.getD 2 0,vs.getD 3 0⟩) fun v1 Y1 O=>?_;obtain⟨a1,c1,rfl,-⟩:=O.val;rw[xvv]at O⊢;refine xa ?_;refine xiq O (m:=(t.s.Ah++[_]).length) (xvv _) d_ fun p1 _ _ g1 e1 M S1=>?_;cases e1;have T:=T.mono g1.le;exact xsq func145 rfl rfl fun _ H_=>K _ _ (xqj H_ g1 ⟨rfl,⟨(a1,c1),A.f,A.h,A.w,A.y,A.d⟩,rfl,⟨⟨S1,T.s.f⟩,T.b,T.d,⟨M,k2⟩,T.c.2⟩⟩)
theorem ym8(hp:Per p h)(b:Nat)(A:TA)(t:Twn)(hb:h[b]?=some (.cells (tcs A t).toArray 33 (0,0)))(H:p b=none)(T:TwP p A t)(hn:t.fit (2^20)){a:Option Addr}(n c:Nat)(vs:List Int)(V:Ax p a n vs)(hv:n=1):
 Ac prog md 147 #[w_ b 0,.slice a n c] h (Dm p h b (Dl .Fu t vs)):=by
 obtain⟨⟨n1,n2⟩,⟨n3,n4,n5⟩,n6⟩:=hn;obtain⟨⟨k1,k2⟩,⟨k3,k4,k5⟩,k6⟩:=T.c;refine xoz hp hb H func147 fun _ _ _ K=>?_;refine drq [9] R10 ?_;refine xuk rfl rfl rfl (ymr T.s.f k2 n2 (vs.getD 0 0)) fun v1 Y1 O=>?_;obtain⟨a1,c1,rfl,-⟩:=O.val;rw[xrq]at O⊢;refine xa ?_;refine xiq O (m:=(t.s.Af++[_]).length) (xrq _) d_ fun p1 _ _ g1 e1 M S1=>?_;cases e1;have T:=T.mono g1.le;exact xsq func147 rfl rfl fun _ H_=>K _ _ (xqj H_ g1 ⟨rfl,⟨A.r,(a1,c1),A.h,A.w,A.y,A.d⟩,rfl,⟨⟨T.s.r,S1⟩,T.b,T.d,⟨k1,M⟩,T.c.2⟩⟩)
theorem yk8(hp:Per p h)(b:Nat)(A:TA)(t:Twn)(hb:h[b]?=some (.cells (tcs A t).toArray 33 (0,0)))(H:p b=none)(T:TwP p A t)(hn:t.fit (2^20)){a:Option Addr}(n c:Nat)(vs:List Int)(V:Ax p a n vs)(hv:n=1):
 Ac prog md 150 #[w_ b 0,.slice a n c] h (Dm p h b (Dl .Ew t vs)):=by
 obtain⟨⟨n1,n2⟩,⟨n3,n4,n5⟩,n6⟩:=hn;obtain⟨⟨k1,k2⟩,⟨k3,k4,k5⟩,k6⟩:=T.c;refine xoz hp hb H func150 fun _ _ _ K=>?_;refine drq [9] R10 ?_;refine xuk rfl rfl rfl (ymr T.b.h k3 n3 (vs.getD 0 0)) fun v1 Y1 O=>?_;obtain⟨a1,c1,rfl,-⟩:=O.val;rw[xrq]at O⊢;refine xa ?_;refine xiq O (m:=(t.b.hs++[_]).length) (xrq _) d_ fun p1 _ _ g1 e1 M S1=>?_;cases e1;have T:=T.mono g1.le;exact xsq func150 rfl rfl fun _ H_=>K _ _ (xqj H_ g1 ⟨rfl,⟨A.r,A.f,(a1,c1),A.w,A.y,A.d⟩,rfl,⟨T.s,⟨S1,T.b.w,T.b.y⟩,T.d,T.c.1,⟨M,k4,k5⟩,k6⟩⟩)
theorem yj8(hp:Per p h)(b:Nat)(A:TA)(t:Twn)(hb:h[b]?=some (.cells (tcs A t).toArray 33 (0,0)))(H:p b=none)(T:TwP p A t)(hn:t.fit (2^20)){a:Option Addr}(n c:Nat)(vs:List Int)(V:Ax p a n vs)(hv:n=1):
 Ac prog md 151 #[w_ b 0,.slice a n c] h (Dm p h b (Dl .Kp t vs)):=by
 obtain⟨⟨n1,n2⟩,⟨n3,n4,n5⟩,n6⟩:=hn;obtain⟨⟨k1,k2⟩,⟨k3,k4,k5⟩,k6⟩:=T.c;refine xoz hp hb H func151 fun _ _ _ K=>?_;refine drq [9] R10 ?_;refine xuk rfl rfl rfl (ymr T.b.w k4 n4 (vs.getD 0 0)) fun v1 Y1 O=>?_;obtain⟨a1,c1,rfl,-⟩:=O.val;rw[xrq]at O⊢;refine xa ?_;refine xiq O (m:=(t.b.ws++[_]).length) (xrq _) d_ fun p1 _ _ g1 e1 M S1=>?_;cases e1;have T:=T.mono g1.le;exact xsq func151 rfl rfl fun _ H_=>K _ _ (xqj H_ g1 ⟨rfl,⟨A.r,A.f,A.h,(a1,c1),A.y,A.d⟩,rfl,⟨T.s,⟨T.b.h,S1,T.b.y⟩,T.d,T.c.1,⟨k3,M,k5⟩,k6⟩⟩)
theorem yc8(hp:Per p h)(b:Nat)(A:TA)(t:Twn)(hb:h[b]?=some (.cells (tcs A t).toArray 33 (0,0)))(H:p b=none)(T:TwP p A t)(hn:t.fit (2^20)){a:Option Addr}(n c:Nat)(vs:List Int)(V:Ax p a n vs)(hv:n=3):
 Ac prog md 159 #[w_ b 0,.slice a n c] h (Dm p h b (Dl .day t vs)):=by
 obtain⟨⟨n1,n2⟩,⟨n3,n4,n5⟩,n6⟩:=hn;obtain⟨⟨k1,k2⟩,⟨k3,k4,k5⟩,k6⟩:=T.c;refine xoz hp hb H func159 fun _ _ _ K=>?_;refine drq [17] R18 ?_;refine xuk rfl rfl rfl (yb8 T.d k6 n6 ⟨vs.getD 0 0,vs.getD 1 0,vs.getD 2 0⟩) fun v1 Y1 O=>?_;obtain⟨a1,c1,rfl,-⟩:=O.val;rw[Aj]at O⊢;refine xa ?_;refine xiq O (m:=(t.y.days++[_]).length) (Aj _) d_ fun p1 _ _ g1 e1 M S1=>?_;cases e1;have T:=T.mono g1.le;exact xsq func159 rfl rfl fun _ H_=>K _ _ (xqj H_ g1 ⟨rfl,⟨A.r,A.f,A.h,A.w,A.y,(a1,c1)⟩,rfl,⟨T.s,T.b,S1,T.c.1,T.c.2.1,M⟩⟩)
theorem ya8(hp:Per p h)(b:Nat)(A:TA)(t:Twn)(M:h[b]?=some (.cells (tcs A t).toArray 33 (0,0)))(H:p b=none)(T:TwP p A t)(hn:t.fit (2^20)){a:Option Addr}(n c:Nat)(vs:List Int)(V:Ax p a n vs)(hv:n=1):
 Ac prog md 161 #[w_ b 0,.slice a n c] h (Dm p h b (Dl .size t vs)):=by
 obtain⟨⟨n1,n2⟩,⟨n3,n4,n5⟩,n6⟩:=hn;obtain⟨⟨k1,k2⟩,⟨k3,k4,k5⟩,k6⟩:=T.c;refine xoz hp M H func161 fun _ _ _ K=>?_;refine ax ?_;exact xsq func161 rfl rfl fun _ O=>K _ _ (xqj O (.refl _ _ _) ⟨rfl,A,rfl,T.s,T.b,T.d,T.c⟩)
theorem yl8(hp:Per p h)(b:Nat)(A:TA)(t:Twn)(hb:h[b]?=some (.cells (tcs A t).toArray 33 (0,0)))(H:p b=none)(T:TwP p A t)(hn:t.fit (2^20)){a:Option Addr}(n c:Nat)(vs:List Int):
 Ac prog md 149 #[w_ b 0,.slice a n c] h (Dm p h b (Dl .up t vs)):=by
 obtain⟨⟨n1,n2⟩,⟨n3,n4,n5⟩,n6⟩:=hn;obtain⟨⟨k1,k2⟩,⟨k3,k4,k5⟩,k6⟩:=T.c;refine xoz hp hb H func149 fun _ _ _ K=>?_;refine cq (fun cc=>?_) (fun cc=>?_)
 ·have e:Ct .up t vs=none:=by unfold Ct;rw[if_pos om]
  refine ax ?_;exact xsq func149 rfl rfl fun _ M=>K _ _ (xqj M (.refl _ _ _) (by unfold Dl;rw[e];rfl))
 have e:Ct .up t vs=some {t with s:={t.s with Af:=t.s.Af.take (t.s.Af.length-1)}}:=by unfold Ct;rw[if_neg om]
 have O:((t.s.Af.length:Nat):Int)-1=((t.s.Af.length-1:Nat):Int):=om;have V:(t.s.Af.take (t.s.Af.length-1)).length=t.s.Af.length-1:=by rw[List.length_take];omega
 refine ax ?_;refine ro_y rfl (ybs rfl (congrArg (fun z=>some ([],Value.J z)) O) (congrArg (fun z=>some ([],Value.J z)) O) om (j:=t.s.Af.length-1)) ?_;refine ax ?_;exact xsq func149 rfl rfl fun _ M=>K _ _ (xqj M (.refl _ _ _) (by
  unfold Dl;rw[e];refine⟨rfl,⟨A.r,(A.f.1,t.s.Af.length-1),A.h,A.w,A.y,A.d⟩,?_,⟨T.s.r,?_⟩,T.b,T.d,⟨k1,?_⟩,T.c.2⟩
  ·simp only[tcs];rw[V];rfl
  ·have S:Sl p A.f.1 (t.s.Af.take (t.s.Af.length-1)).length 1 (ics (t.s.Af.take (t.s.Af.length-1))):=by
    have z:=Sl.cut (lo:=0) (hi:=t.s.Af.length-1) (a':=A.f.1) T.s.f (Nat.zero_le _) om fun _=>by rw[Nat.zero_mul];exact(T.s.f.ne om).trans rfl
    rw[V];simpa[ics,List.map_take]using z
   exact S
  ·show(t.s.Af.take (t.s.Af.length-1)).length<=t.s.Af.length-1;omega))
theorem yh8(hp:Per p h)(b:Nat)(A:TA)(t:Twn)(hb:h[b]?=some (.cells (tcs A t).toArray 33 (0,0)))(M:p b=none)(T:TwP p A t)(hn:t.fit (2^20))(i x:Int):
 Ac prog md 153 #[w_ b 5,.J i,.J x] h (Dm p h b (Dl .want t [i,x])):=by
 obtain⟨⟨n1,n2⟩,⟨n3,n4,n5⟩,n6⟩:=hn;obtain⟨⟨k1,k2⟩,⟨k3,k4,k5⟩,k6⟩:=T.c;have hl:t.b.hs.length=t.b.nH:=rfl;refine xoz hp hb M func153 fun _ _ _ K=>?_;refine cq (fun cc=>?_) (fun cc=>?_)
 ·have e:Ct .want t [i,x]=none:=by
   show(Lt t.b.hs i x).map _=none;rw[Lt,if_neg om];rfl
  refine ax ?_;exact xsq func153 rfl rfl fun _ O=>K _ _ (xqj O (.refl _ _ _) (by unfold Dl;rw[e];rfl))
 have hi:0<=i/\i<(t.b.hs.length:Int):=om;have e:Ct .want t [i,x]=some {t with b:={t.b with hs:=t.b.hs.set i.toNat x}}:=by
  show(Lt t.b.hs i x).map _=_;rw[Lt,if_pos hi];rfl
 refine coq (cf68 T.b.h n3) fun v1 Y1 H=>?_;obtain⟨a1,c1,rfl,-⟩:=H.val;rw[xrq,hl]at H⊢;refine ax ?_;refine xcv rfl rfl H hi.1 (by rw[xrq];omega) ?_;refine xkk (j:=0) rfl rfl H xnx rfl rfl rfl (Cm om) (Nat.le_refl _) fun Y2 V=>?_;have V:=V.as (show _=ics (t.b.hs.set i.toNat x) from Co);refine ax ?_;refine xiq V (m:=t.b.nH) (by rw[xrq,List.length_set];exact hl) d_ fun p1 _ _ g1 e1 a2 S1=>?_;cases e1;have T:=T.mono g1.le;exact xsq func153 rfl rfl fun _ O=>K _ _ (xqj O g1 (by
  unfold Dl;rw[e];have e2:(t.b.hs.set i.toNat x).length=t.b.nH:=by rw[List.length_set];exact hl
  refine⟨rfl,⟨A.r,A.f,(a1,c1),A.w,A.y,A.d⟩,?_,T.s,⟨?_,T.b.w,T.b.y⟩,T.d,T.c.1,⟨?_,k4,k5⟩,k6⟩
  ·simp only[tcs,Flow.Tn.nH];rw[List.length_set];rfl
  ·show Ax p1 a1 (t.b.hs.set i.toNat x).length _;rw[e2];exact S1
  ·show(t.b.hs.set i.toNat x).length<=c1;omega))
theorem yi8(hp:Per p h)(b:Nat)(A:TA)(t:Twn)(M:h[b]?=some (.cells (tcs A t).toArray 33 (0,0)))(H:p b=none)(T:TwP p A t)(hn:t.fit (2^20)){a:Option Addr}(n c:Nat)(vs:List Int)(V:Ax p a n vs)(hv:n=2):
 Ac prog md 152 #[w_ b 0,.slice a n c] h (Dm p h b (Dl .want t vs)):=by
 refine xoz hp M H func152 fun _ _ _ K=>?_;refine drq [] R10 ?_;refine ax ?_;refine xx0 rfl rfl (fun O pe M H=>yh8 pe b A t M H T hn (vs.getD 0 0) (vs.getD 1 0)) fun v p' o' g q=>?_;refine ax ?_;exact xsq func152 rfl rfl fun O H_=>K _ _ (xqj H_ g q)
theorem d153(hp:Per p h)(b:Nat)(A:TA)(t:Twn)(hb:h[b]?=some (.cells (tcs A t).toArray 33 (0,0)))(M:p b=none)(T:TwP p A t)(hn:t.fit (2^20))(i x:Int):
 Ac prog md 153 #[w_ b 6,.J i,.J x] h (Dm p h b (Dl .has t [i,x])):=by
 obtain⟨⟨n1,n2⟩,⟨n3,n4,n5⟩,n6⟩:=hn;obtain⟨⟨k1,k2⟩,⟨k3,k4,k5⟩,k6⟩:=T.c;have hl:t.b.ws.length=t.b.nW:=rfl;refine xoz hp hb M func153 fun _ _ _ K=>?_;refine cq (fun cc=>?_) (fun cc=>?_)
 ·have e:Ct .has t [i,x]=none:=by
   show(Lt t.b.ws i x).map _=none;rw[Lt,if_neg om];rfl
  refine ax ?_;exact xsq func153 rfl rfl fun _ O=>K _ _ (xqj O (.refl _ _ _) (by unfold Dl;rw[e];rfl))
 have hi:0<=i/\i<(t.b.ws.length:Int):=om;have e:Ct .has t [i,x]=some {t with b:={t.b with ws:=t.b.ws.set i.toNat x}}:=by
  show(Lt t.b.ws i x).map _=_;rw[Lt,if_pos hi];rfl
 refine coq (cf68 T.b.w n4) fun v1 Y1 H=>?_;obtain⟨a1,c1,rfl,-⟩:=H.val;rw[xrq,hl]at H⊢;refine ax ?_;refine xcv rfl rfl H hi.1 (by rw[xrq];omega) ?_;refine xkk (j:=0) rfl rfl H xnx rfl rfl rfl (Cm om) (Nat.le_refl _) fun Y2 V=>?_;have V:=V.as (show _=ics (t.b.ws.set i.toNat x) from Co);refine ax ?_;refine xiq V (m:=t.b.nW) (by rw[xrq,List.length_set];exact hl) d_ fun p1 _ _ g1 e1 a2 S1=>?_;cases e1;have T:=T.mono g1.le;exact xsq func153 rfl rfl fun _ O=>K _ _ (xqj O g1 (by
  unfold Dl;rw[e];have e2:(t.b.ws.set i.toNat x).length=t.b.nW:=by rw[List.length_set];exact hl
  refine⟨rfl,⟨A.r,A.f,A.h,(a1,c1),A.y,A.d⟩,?_,T.s,⟨T.b.h,?_,T.b.y⟩,T.d,T.c.1,⟨k3,?_,k5⟩,k6⟩
  ·simp only[tcs,Flow.Tn.nW];rw[List.length_set];rfl
  ·show Ax p1 a1 (t.b.ws.set i.toNat x).length _;rw[e2];exact S1
  ·show(t.b.ws.set i.toNat x).length<=c1;omega))
theorem yg8(hp:Per p h)(b:Nat)(A:TA)(t:Twn)(M:h[b]?=some (.cells (tcs A t).toArray 33 (0,0)))(H:p b=none)(T:TwP p A t)(hn:t.fit (2^20)){a:Option Addr}(n c:Nat)(vs:List Int)(V:Ax p a n vs)(hv:n=2):
 Ac prog md 154 #[w_ b 0,.slice a n c] h (Dm p h b (Dl .has t vs)):=by
 refine xoz hp M H func154 fun _ _ _ K=>?_;refine drq [] R10 ?_;refine ax ?_;refine xx0 rfl rfl (fun O pe M H=>d153 pe b A t M H T hn (vs.getD 0 0) (vs.getD 1 0)) fun v p' o' g q=>?_;refine ax ?_;exact xsq func154 rfl rfl fun O H_=>K _ _ (xqj H_ g q)
theorem ye8(b:Nat)(w x:Cl)(H:p b=some (.cells #[.J w.1,.J w.2] 98 z)):Dc prog md p 157 #[.agg #[.J x.1,.J x.2],w_ b 0] (.bool (Mt w x)):=by
 refine xkq func157 fun K b1=>?_;refine K.q ?_;refine congrArg Value.bool ?_;unfold Mt;rw[Bool.eq_iff_iff];simp;omega
open Go.X.Flow (Dn Cl Wys wz ics Cm Co Al wcs)
theorem yuk{α:Type}{q:α->Bool}:∀{ds:List α},Dn q ds<(ds.length:Int)
 |[]=>by show(-1:Int)<((0:Nat):Int);decide
 |d::ds=>by
   have:=yuk (q:=q) (ds:=ds);rw[Dn,List.length_cons];split
   ·omega
   ·split<;>omega
theorem yf8(hp:Per p h)(b:Nat)(A:TA)(t:Twn)(hb:h[b]?=some (.cells (tcs A t).toArray 33 (0,0)))(a6:p b=none)(T:TwP p A t)(hn:t.fit (2^20)){a:Option Addr}(n c:Nat)(vs:List Int)(V:Ax p a n vs)(hv:n=2):
 Ac prog md 155 #[w_ b 0,.slice a n c] h (Dm p h b (Dl .way t vs)):=by
 obtain⟨⟨n1,n2⟩,⟨n3,n4,n5⟩,n6⟩:=hn;obtain⟨⟨k1,k2⟩,⟨k3,k4,k5⟩,k6⟩:=T.c;have a9:t.b.wy.length=t.b.m:=rfl;refine xoz hp hb a6 func155 fun zq cs Stop K=>?_;refine drq [7] R8 ?_;refine xec rfl fun b5=>?_;refine xa ?_;obtain⟨w1,a4⟩:∃w,w=vs.getD 0 0:=⟨_,rfl⟩
 obtain⟨w2,a3⟩:∃w,w=vs.getD 1 0:=⟨_,rfl⟩
 rw[show vs.getD (Int.toNat 0) 0=w1 from a4.symm,show vs.getD (Int.toNat 1) 0=w2 from a3.symm];refine xh3 (b:=b5) fun p1 g1 a2=>?_;have a2:p1 b5=some (.cells #[.J w1,.J w2] 98 (0,0)):=a2;have T:=T.mono g1.le;refine xpx rfl rfl (fun _ pe=>ys2 pe _ t.b.wy T.b.y om (Mt (w1,w2)) (fun h_ pe i hi=>xgq (first:=[]) (cap:=[w_ b5 0]) k_ (ye8 b5 (w1,w2) (t.b.wy.getD i wz) a2 h_ pe))) ?_;refine ax ?_;have O:(K3 t.b.wy (w1,w2):Int)=if Dn (Mt (w1,w2)) t.b.wy<0 then(t.b.m:Int)else Dn (Mt (w1,w2)) t.b.wy:=by
  unfold K3;split
  ·rfl
  ·omega
 refine xfz (fun l' p_ L_=>l'=[(0,none,w_ b 0),(5,none,w_ b5 0),(6,none,.J (K3 t.b.wy (w1,w2):Nat))]/\p_=p1/\L_=[[(b,.cells (tcs A t).toArray 33 (0,0))]]) ?_ fun k' H=>?_
 ·rintro _ p1 _ ⟨rfl,rfl,rfl⟩;refine ax ?_;generalize hW:K3 t.b.wy (w1,w2)=W;have a7:W<=t.b.wy.length:=by
   rw[<- hW];unfold K3;split
   ·exact Nat.le_refl _
   ·rename_i z;have:=yuk (q:=Mt (w1,w2)) (ds:=t.b.wy);omega
  refine xzh 11 [10] [0,1,2,3,4,5,7,8] [6,9,10] (fun i=>match i with|10=>[6,9]|_=>[]) (fun i=>match i with|2=>[1]|3=>[2]|4=>[3]|5=>[4]|6=>[5]|9=>[8]|10=>[6,7,9]|_=>[])
   (fun i _ _ v x=>match i with
    |0=>v=w_ b 0/\x=[]
    |1=>v=w_ b 0/\x=[]
    |2=>v=w_ b 0/\x=[]
    |3=>v=w_ b 5/\x=[]
    |4=>v=w_ b 7/\x=[]
    |5=>v=.slice A.y.1 t.b.m A.y.2/\x=[]
    |6=>Aa 98 2 v (wcs t.b.wy) x
    |7=>v=.J ((W:Nat):Int)/\x=[]
    |8=>v=.agg #[.J w1,.J w2]/\x=[]
    |9=>Aa 98 2 v (wcs [(w1,w2)]) x
    |10=>Aa 98 2 v (wcs (t.b.wy.take W++(w1,w2)::t.b.wy.drop W)) x
    |_=>True) (fun i hi val piece M=>?_) (fun val piece j hj v x q=>?_) (fun val piece M=>?_)
  ·match i,hi with
   |0,_=>
     exact det
   |1,_=>
     exact det
   |2,_=>
     refine de_y rfl rfl (y_nc (by show some ([],val 1)=_;rw[(M 1 rfl).1]) sdt) ?_;exact det
   |3,_=>
     refine de_y rfl rfl (y_fb (by show some ([],val 2)=_;rw[(M 2 rfl).1]) sdt) ?_;exact det
   |4,_=>
     refine de_y rfl rfl (y_fb (by show some ([],val 3)=_;rw[(M 3 rfl).1]) sdt) ?_;exact det
   |5,_=>
     refine de_y rfl rfl (y_ld (by show some ([],val 4)=_;rw[(M 4 rfl).1]) sdt (b:=b) (off:=7) (cs:=(tcs A t).toArray) (T:=33) (z:=(0,0))) ?_;exact det
   |6,_=>
     refine xuk (vs:=[.slice A.y.1 t.b.m A.y.2]) rfl rfl (by show some ([],[val 5])=_;rw[(M 5 rfl).1]) (cf69 T.b.y n5) fun v Y o=>?_;exact xuq ⟨⟨_,rfl⟩,fun v' e=>by
      have e':=xmq e;subst e';show Aa _ _ _ _ ([Y]++[]).flatten;simpa using o⟩
   |7,_=>
     exact det
   |8,_=>
     exact det
   |9,_=>
     refine xvz rfl (by show some [(0,val 8)]=_;rw[(M 8 rfl).1]) fun v Y o=>?_;have o:Aa 98 2 v (wcs [(w1,w2)]) Y:=o;exact xuq ⟨⟨_,rfl⟩,fun v' e=>by
      have e':=xmq e;subst e';show Aa _ _ _ _ ([Y]++[]).flatten;simpa using o⟩
   |10,_=>
     have o1:Aa 98 2 (val 6) (wcs t.b.wy) (piece 6):=M 6 rfl;have o2:Aa 98 2 (val 9) (wcs [(w1,w2)]) (piece 9):=M 9 rfl;show DE _ _ _ _ _ _ _ _ _ [piece 6,piece 9]
     refine yj1 (piece 6) (piece 9) (vs:=[val 6,.J ((W:Nat):Int),val 9]) (first:=[]) (cap:=[]) (ff:=158) rfl rfl (by show some ([],[val 6,val 7,val 9])=_;rw[(M 7 rfl).1])
      (fun h C s=>yd8 C t.b.wy (w1,w2) W a7 om o1 o2 s) fun v Y o=>?_
     exact xuq ⟨⟨_,rfl⟩,fun v' e=>by
      have e':=xmq e;subst e';show Aa _ _ _ _ ([Y]++[]).flatten;simpa using o⟩
  ·simp only[List.mem_cons,List.not_mem_nil,or_false]at hj;rcases hj with rfl|rfl|rfl|rfl|rfl|rfl|rfl|rfl<;>exact q.2
  have o1:Aa 98 2 (val 10) (wcs (t.b.wy.take W++(w1,w2)::t.b.wy.drop W)) (piece 10):=M 10 d_;refine xdk (l':=[(29,none,w_ b 0),(39,none,val 10)]) ?_ ⟨by show some (none,val 0)=_;rw[(M 0 d_).1],rfl,trivial⟩;show RO _ _ _ _ _ _ [piece 10,[(b,.cells (tcs A t).toArray 33 (0,0))]];clear M;generalize val 10=v1 at*;generalize piece 10=Y1 at*;obtain⟨a1,c1,rfl,-⟩:=o1.val;have a5:(wcs (t.b.wy.take W++(w1,w2)::t.b.wy.drop W)).length=t.b.m+1:=by
   rw[Flow.Ar];simp;omega
  rw[a5]at o1⊢;refine ax ?_;refine xiq o1 (m:=t.b.m+1) a5 d_ fun p2 _ _ g2 e1 a8 S1=>?_;cases e1;have T:=T.mono g2.le;have eT:Ct .way t vs=some {t with b:={t.b with wy:=t.b.wy.take W++(w1,w2)::t.b.wy.drop W}}:=by
   rw[<- hW,a4,a3];rfl
  exact xsq func155 rfl rfl fun h_ H_=>K _ _ (xqj H_ (g1.trans g2) (by
   unfold Dl;rw[eT];have e2:(t.b.wy.take W++(w1,w2)::t.b.wy.drop W).length=t.b.m+1:=by simp;omega
   refine⟨rfl,⟨A.r,A.f,A.h,A.w,(a1,c1),A.d⟩,?_,T.s,⟨T.b.h,T.b.w,?_⟩,T.d,T.c.1,⟨k3,k4,?_⟩,k6⟩
   ·simp only[tcs,Flow.Tn.m];rw[e2];rfl
   ·show Wys p2 a1 (t.b.wy.take W++(w1,w2)::t.b.wy.drop W).length _;rw[e2];exact S1
   ·show(t.b.wy.take W++(w1,w2)::t.b.wy.drop W).length<=c1;omega))
 refine cq (fun cc=>?_) (fun cc=>?_)
 ·rw[if_pos cc]at O;rw[O]at H;exact bkq (H _ _ _ ⟨rfl,rfl,rfl⟩)
 ·rw[if_neg cc]at O;rw[O]at H;exact bkq (H _ _ _ ⟨rfl,rfl,rfl⟩)
def Oq:Option Od->Value
 |none=>.nilFunc
 |some .Li=>.func (.func 145) #[] #[]
 |some .Fu=>.func (.func 147) #[] #[]
 |some .up=>.func (.func 149) #[] #[]
 |some .Ew=>.func (.func 150) #[] #[]
 |some .Kp=>.func (.func 151) #[] #[]
 |some .want=>.func (.func 152) #[] #[]
 |some .has=>.func (.func 154) #[] #[]
 |some .way=>.func (.func 155) #[] #[]
 |some .day=>.func (.func 159) #[] #[]
 |some .size=>.func (.func 161) #[] #[]
theorem cf61(w:Str)(hw:w.length<=900)(n:Nat)(hn:n<=900){zT:Nat×Nat}(Z:p 5=some (.cells (Lib.pow10Tab.map (Value.int .u64)).toArray tT zT)):Dc prog md p 61 #[sv w,.J ((n:Nat):Int)] (Oq (od (w++txt n))):=by
 have hl:=ykx (n:=n) om;refine xlq func61 fun K=>?_;refine xpx rfl rfl (xn4 _ om Z) ?_;refine ax ?_;refine ro_y rfl (xow rfl rfl om) ?_;refine ax ?_;generalize w++txt (n:Int)=s at*;refine cq (fun H=>?_) (fun O=>?_)
 ·refine K.q ?_;rw[H];rfl
 refine cq (fun H=>?_) (fun c2=>?_)
 ·refine K.q ?_;rw[H];rfl
 refine cq (fun H=>?_) (fun c3=>?_)
 ·refine K.q ?_;rw[H];rfl
 refine cq (fun H=>?_) (fun V=>?_)
 ·refine K.q ?_;rw[H];rfl
 refine cq (fun H=>?_) (fun c5=>?_)
 ·refine K.q ?_;rw[H];rfl
 refine cq (fun H=>?_) (fun c6=>?_)
 ·refine K.q ?_;rw[H];rfl
 refine cq (fun H=>?_) (fun c7=>?_)
 ·refine K.q ?_;rw[H];rfl
 refine cq (fun H=>?_) (fun c8=>?_)
 ·refine K.q ?_;rw[H];rfl
 refine cq (fun H=>?_) (fun c9=>?_)
 ·refine K.q ?_;rw[H];rfl
 refine cq (fun H=>?_) (fun M=>?_)
 ·refine K.q ?_;rw[H];rfl
 refine K.q ?_;unfold od;rw[if_neg O,if_neg c2,if_neg c3,if_neg V,if_neg c5,if_neg c6,if_neg c7,if_neg c8,if_neg c9,if_neg M];rfl
theorem yzt(o:Od)(O:Per p h)(b:Nat)(A:TA)(t:Twn)(M:h[b]?=some (.cells (tcs A t).toArray 33 (0,0)))(H:p b=none)(T:TwP p A t)(hn:t.fit (2^20)){a:Option Addr}(c:Nat)(vs:List Int)(V:Ax p a n vs)(hv:n=o.ar):
 Be prog md (Oq (some o)) [w_ b 0,.slice a n c] h (Dm p h b (Dl o t vs)):=by
 cases o
 ·exact xgq (first:=[]) (cap:=[]) k_ (yo8 O b A t M H T hn n c vs V hv)
 ·exact xgq (first:=[]) (cap:=[]) k_ (ym8 O b A t M H T hn n c vs V hv)
 ·exact xgq (first:=[]) (cap:=[]) k_ (yl8 O b A t M H T hn n c vs)
 ·exact xgq (first:=[]) (cap:=[]) k_ (yk8 O b A t M H T hn n c vs V hv)
 ·exact xgq (first:=[]) (cap:=[]) k_ (yj8 O b A t M H T hn n c vs V hv)
 ·exact xgq (first:=[]) (cap:=[]) k_ (yi8 O b A t M H T hn n c vs V hv)
 ·exact xgq (first:=[]) (cap:=[]) k_ (yg8 O b A t M H T hn n c vs V hv)
 ·exact xgq (first:=[]) (cap:=[]) k_ (yf8 O b A t M H T hn n c vs V hv)
 ·exact xgq (first:=[]) (cap:=[]) k_ (yc8 O b A t M H T hn n c vs V hv)
 ·exact xgq (first:=[]) (cap:=[]) k_ (ya8 O b A t M H T hn n c vs V hv)
open Go.X.Flow (ics LKc Gp Dy)
variable{f:FuncId}{p':Ab}{l:Str}
structure GlP(p:Ab):Prop where
 sn:∃tN z,p 1=some (.cells #[.J (-1),.J 0,.J 0] tN z)
 bn:∃tN z,p 0=some (.cells #[.J (-1),.J (-1),.J 0] tN z)
 db:∃tT zT,p 7=some (.cells (Dy.map fun n=>Value.int .u8 ((n:Nat):Int)).toArray tT zT)
 pw:∃tT zT,p 5=some (.cells (Lib.pow10Tab.map (Value.int .u64)).toArray tT zT)
 es:∃te ue tE zE,p 8=some (.cells #[.iface te ue] tE zE)
 er:∃te ue tE zE,p 9=some (.cells #[.iface te ue] tE zE)
theorem GlP.mono{p p':Ab}(g:GlP p)(H:PLe p p'):GlP p':=
 ⟨g.sn.imp fun _ x=>x.imp fun _ x=>H _ _ x,g.bn.imp fun _ x=>x.imp fun _ x=>H _ _ x,g.db.imp fun _ x=>x.imp fun _ x=>H _ _ x,g.pw.imp fun _ x=>x.imp fun _ x=>H _ _ x,
  g.es.imp fun _ x=>x.imp fun _ x=>x.imp fun _ x=>x.imp fun _ x=>H _ _ x,g.er.imp fun _ x=>x.imp fun _ x=>x.imp fun _ x=>x.imp fun _ x=>H _ _ x⟩
def RsW(p:Ab):Rs->Value->Prop
 |.num n,v=>v=.J n
 |.spn a b,v=>v=.agg #[.J a,.J b]
 |.lst l,v=>∃a c,v=.slice a l.length c/\Ax p a l.length l
theorem yp9(A:TA)(t:Twn)(T:TwP p A t)(hn:t.fit 12)(g:GlP p){a:Option Addr}(n c:Nat)(vs:List Int):Lc prog (.main true) p 115 #[twV A t,.slice a n c] (fun v p'=>∃r,v=.tuple #[r,.J (B2 .fewest t vs).2]/\RsW p' (B2 .fewest t vs).1 r):=by
 obtain⟨⟨n1,n2⟩,⟨n3,n4,n5⟩,O⟩:=hn;obtain⟨⟨k1,k2⟩,⟨k3,k4,k5⟩,k6⟩:=T.c;obtain⟨_,zs,hs⟩:=g.sn;obtain⟨tb,zb,V⟩:=g.bn;obtain⟨td,zd,M⟩:=g.db;refine xkq func115 fun K b2=>?_;refine ax ?_;refine xpx rfl rfl (yo9 t.s T.s ⟨om,om⟩ zs hs) ?_;refine ax ?_;exact K.r rfl rfl fun _ H=>(xqq H (.refl _ _ _) ⟨_,rfl,rfl⟩)
theorem yn9(A:TA)(t:Twn)(T:TwP p A t)(hn:t.fit 12)(g:GlP p){a:Option Addr}(n c:Nat)(vs:List Int):Lc prog (.main true) p 117 #[twV A t,.slice a n c] (fun v p'=>∃r,v=.tuple #[r,.J (B2 .cheap t vs).2]/\RsW p' (B2 .cheap t vs).1 r):=by
 obtain⟨⟨n1,n2⟩,⟨n3,n4,n5⟩,O⟩:=hn;obtain⟨⟨k1,k2⟩,⟨k3,k4,k5⟩,k6⟩:=T.c;obtain⟨_,zs,hs⟩:=g.sn;obtain⟨tb,zb,V⟩:=g.bn;obtain⟨td,zd,M⟩:=g.db;refine xkq func117 fun K b2=>?_;refine ax ?_;refine xpx rfl rfl (ysg _ _ _ _ _ t.s T.s ⟨om,om⟩ zs hs) ?_;refine ax ?_;exact K.r rfl rfl fun _ H=>(xqq H (.refl _ _ _) ⟨_,rfl,rfl⟩)
theorem ym9(A:TA)(t:Twn)(T:TwP p A t)(hn:t.fit 12)(g:GlP p){a:Option Addr}(n c:Nat)(vs:List Int)(V:Ax p a n vs)(hv:n=1):Lc prog (.main true) p 119 #[twV A t,.slice a n c] (fun v p'=>∃r,v=.tuple #[r,.J (B2 .deep t vs).2]/\RsW p' (B2 .deep t vs).1 r):=by
 obtain⟨⟨n1,n2⟩,⟨n3,n4,n5⟩,O⟩:=hn;obtain⟨⟨k1,k2⟩,⟨k3,k4,k5⟩,k6⟩:=T.c;obtain⟨_,zs,hs⟩:=g.sn;obtain⟨tb,zb,hb⟩:=g.bn;obtain⟨td,zd,M⟩:=g.db;refine xkq func119 fun K b2=>?_;refine drq [] R8 ?_;refine xzz rfl rfl rfl (yl9 t.s T.s ⟨om,om⟩ k2 zs hs (vs.getD 0 0)) ?_;refine xa ?_;exact K.r rfl rfl fun _ H=>(xqq H (.refl _ _ _) ⟨_,rfl,rfl⟩)
theorem yk9(A:TA)(t:Twn)(T:TwP p A t)(hn:t.fit 12)(g:GlP p){a:Option Addr}(n c:Nat)(vs:List Int)(V:Ax p a n vs)(hv:n=1):Lc prog (.main true) p 121 #[twV A t,.slice a n c] (fun v p'=>∃r,v=.tuple #[r,.J (B2 .next t vs).2]/\RsW p' (B2 .next t vs).1 r):=by
 obtain⟨⟨n1,n2⟩,⟨n3,n4,n5⟩,O⟩:=hn;obtain⟨⟨k1,k2⟩,⟨k3,k4,k5⟩,k6⟩:=T.c;obtain⟨_,zs,hs⟩:=g.sn;obtain⟨tb,zb,hb⟩:=g.bn;obtain⟨td,zd,M⟩:=g.db;refine xkq func121 fun K b2=>?_;refine drq [] R8 ?_;refine xzz rfl rfl rfl (yj9 t.s T.s ⟨om,om⟩ k2 zs hs (vs.getD 0 0)) ?_;refine xa ?_;exact K.r rfl rfl fun _ H=>(xqq H (.refl _ _ _) ⟨_,rfl,rfl⟩)
theorem yi9(A:TA)(t:Twn)(T:TwP p A t)(hn:t.fit 12)(g:GlP p){a:Option Addr}(n c:Nat)(vs:List Int):Lc prog (.main true) p 123 #[twV A t,.slice a n c] (fun v p'=>∃r,v=.tuple #[r,.J (B2 .Fh t vs).2]/\RsW p' (B2 .Fh t vs).1 r):=by
 obtain⟨⟨n1,n2⟩,⟨n3,n4,n5⟩,n6⟩:=hn;obtain⟨⟨k1,k2⟩,⟨k3,k4,k5⟩,k6⟩:=T.c;obtain⟨_,zs,hs⟩:=g.sn;obtain⟨tb,zb,H⟩:=g.bn;obtain⟨td,zd,V⟩:=g.db;refine xkq func123 fun K b2=>?_;refine ax ?_;refine xpx rfl rfl (fun _ O=>yh9 O t.b T.b ⟨om,om,om⟩ H) ?_;refine ax ?_;exact K.r rfl rfl fun _ M=>(xqq M (.refl _ _ _) ⟨_,rfl,rfl⟩)
theorem yg9(A:TA)(t:Twn)(T:TwP p A t)(hn:t.fit 12)(g:GlP p){a:Option Addr}(n c:Nat)(vs:List Int):Lc prog (.main true) p 126 #[twV A t,.slice a n c] (fun v p'=>∃r,v=.tuple #[r,.J (B2 .Ed t vs).2]/\RsW p' (B2 .Ed t vs).1 r):=by
 obtain⟨⟨n1,n2⟩,⟨n3,n4,n5⟩,n6⟩:=hn;obtain⟨⟨k1,k2⟩,⟨k3,k4,k5⟩,k6⟩:=T.c;obtain⟨_,zs,hs⟩:=g.sn;obtain⟨tb,zb,M⟩:=g.bn;obtain⟨td,zd,hd⟩:=g.db;refine xkq func126 fun K b2=>?_;refine ax ?_;refine xjb rfl rfl (fun _ V=>yf9 V t.b T.b ⟨om,om,om⟩ M) ?_;rintro _ Y ⟨w,rfl,o⟩;obtain⟨a1,H,rfl,-⟩:=o.val;rw[xrq]at o⊢;refine ax ?_;refine xiq o (xrq _) d_ fun p' _ _ g' e hc S=>?_;cases e;exact K.r rfl rfl fun _ O=>(xqq O g' ⟨_,rfl,a1,H,rfl,S⟩)
theorem ye9(A:TA)(t:Twn)(T:TwP p A t)(hn:t.fit 12)(g:GlP p){a:Option Addr}(n c:Nat)(vs:List Int)(V:Ax p a n vs)(hv:n=1):Lc prog (.main true) p 129 #[twV A t,.slice a n c] (fun v p'=>∃r,v=.tuple #[r,.J (B2 .draws t vs).2]/\RsW p' (B2 .draws t vs).1 r):=by
 obtain⟨⟨n1,n2⟩,⟨n3,n4,n5⟩,n6⟩:=hn;obtain⟨⟨k1,k2⟩,⟨k3,k4,k5⟩,k6⟩:=T.c;obtain⟨_,zs,hs⟩:=g.sn;obtain⟨tb,zb,hb⟩:=g.bn;obtain⟨td,zd,O⟩:=g.db;refine xkq func129 fun K b2=>?_;refine lq fun b4=>?_;refine drq [] R8 ?_;refine xzz rfl rfl rfl (fun _ M=>yd9 M t.b T.b ⟨om,om,om⟩ (vs.getD 0 0)) ?_;refine xa ?_;exact K.e rfl (xpq rfl (.tmp rfl .nil)) fun _ H=>(xqq H (.refl _ _ _) ⟨_,rfl,rfl⟩)
theorem yc9(A:TA)(t:Twn)(T:TwP p A t)(hn:t.fit 12)(g:GlP p){a:Option Addr}(n c:Nat)(vs:List Int)(V:Ax p a n vs)(hv:n=1):Lc prog (.main true) p 131 #[twV A t,.slice a n c] (fun v p'=>∃r,v=.tuple #[r,.J (B2 .dry t vs).2]/\RsW p' (B2 .dry t vs).1 r):=by
 obtain⟨⟨n1,n2⟩,⟨n3,n4,n5⟩,n6⟩:=hn;obtain⟨⟨k1,k2⟩,⟨k3,k4,k5⟩,k6⟩:=T.c;obtain⟨_,zs,hs⟩:=g.sn;obtain⟨tb,zb,hb⟩:=g.bn;obtain⟨td,zd,O⟩:=g.db;refine xkq func131 fun K b2=>?_;refine drq [] R8 ?_;refine xzz rfl rfl rfl (fun _ M=>yb9 M t.b T.b ⟨om,om,om⟩ (vs.getD 0 0)) ?_;refine xa ?_;exact K.r rfl rfl fun _ H=>(xqq H (.refl _ _ _) ⟨_,rfl,rfl⟩)
theorem ya9(A:TA)(t:Twn)(T:TwP p A t)(hn:t.fit 12)(g:GlP p){a:Option Addr}(n c:Nat)(vs:List Int):Lc prog (.main true) p 133 #[twV A t,.slice a n c] (fun v p'=>∃r,v=.tuple #[r,.J (B2 .short t vs).2]/\RsW p' (B2 .short t vs).1 r):=by
 obtain⟨⟨n1,n2⟩,⟨n3,n4,n5⟩,n6⟩:=hn;obtain⟨⟨k1,k2⟩,⟨k3,k4,k5⟩,k6⟩:=T.c;obtain⟨_,zs,hs⟩:=g.sn;obtain⟨tb,zb,hb⟩:=g.bn;obtain⟨td,zd,H⟩:=g.db;refine xkq func133 fun K b2=>?_;refine ax ?_;refine xjb rfl rfl (fun _ V=>yz8 V t.b T.b ⟨om,om,om⟩ H) ?_;rintro _ Y ⟨w,rfl,o⟩;obtain⟨a1,M,rfl,-⟩:=o.val;rw[xrq]at o⊢;refine ax ?_;refine xiq o (xrq _) d_ fun p' _ _ g' e hc S=>?_;cases e;exact K.r rfl rfl fun _ O=>(xqq O g' ⟨_,rfl,a1,M,rfl,S⟩)
theorem yy8(A:TA)(t:Twn)(T:TwP p A t)(hn:t.fit 12)(g:GlP p){a:Option Addr}(n c:Nat)(vs:List Int):Lc prog (.main true) p 135 #[twV A t,.slice a n c] (fun v p'=>∃r,v=.tuple #[r,.J (B2 .empty t vs).2]/\RsW p' (B2 .empty t vs).1 r):=by
 obtain⟨⟨n1,n2⟩,⟨n3,n4,n5⟩,O⟩:=hn;obtain⟨⟨k1,k2⟩,⟨k3,k4,k5⟩,k6⟩:=T.c;obtain⟨_,zs,hs⟩:=g.sn;obtain⟨tb,zb,V⟩:=g.bn;obtain⟨td,zd,M⟩:=g.db;refine xkq func135 fun K b2=>?_;refine ax ?_;refine xpx rfl rfl (yx8 T.d om) ?_;refine ax ?_;exact K.r rfl rfl fun _ H=>(xqq H (.refl _ _ _) ⟨_,rfl,rfl⟩)
theorem yw8(A:TA)(t:Twn)(T:TwP p A t)(hn:t.fit 12)(g:GlP p){a:Option Addr}(n c:Nat)(vs:List Int):Lc prog (.main true) p 137 #[twV A t,.slice a n c] (fun v p'=>∃r,v=.tuple #[r,.J (B2 .least t vs).2]/\RsW p' (B2 .least t vs).1 r):=by
 obtain⟨⟨n1,n2⟩,⟨n3,n4,n5⟩,O⟩:=hn;obtain⟨⟨k1,k2⟩,⟨k3,k4,k5⟩,k6⟩:=T.c;obtain⟨_,zs,hs⟩:=g.sn;obtain⟨tb,zb,V⟩:=g.bn;obtain⟨td,zd,M⟩:=g.db;refine xkq func137 fun K b2=>?_;refine ax ?_;refine xpx rfl rfl (yv8 T.d om) ?_;refine ax ?_;exact K.r rfl rfl fun _ H=>(xqq H (.refl _ _ _) ⟨_,rfl,rfl⟩)
theorem yu8(A:TA)(t:Twn)(T:TwP p A t)(hn:t.fit 12)(g:GlP p){a:Option Addr}(n c:Nat)(vs:List Int):Lc prog (.main true) p 139 #[twV A t,.slice a n c] (fun v p'=>∃r,v=.tuple #[r,.J (B2 .ration t vs).2]/\RsW p' (B2 .ration t vs).1 r):=by
 obtain⟨⟨n1,n2⟩,⟨n3,n4,n5⟩,O⟩:=hn;obtain⟨⟨k1,k2⟩,⟨k3,k4,k5⟩,k6⟩:=T.c;obtain⟨_,zs,hs⟩:=g.sn;obtain⟨tb,zb,V⟩:=g.bn;obtain⟨td,zd,M⟩:=g.db;refine xkq func139 fun K b2=>?_;refine ax ?_;refine xpx rfl rfl (yt8 T.d om) ?_;refine ax ?_;exact K.r rfl rfl fun _ H=>(xqq H (.refl _ _ _) ⟨_,rfl,rfl⟩)
theorem ys8(A:TA)(t:Twn)(T:TwP p A t)(hn:t.fit 12)(g:GlP p){a:Option Addr}(n c:Nat)(vs:List Int)(V:Ax p a n vs)(hv:n=1):Lc prog (.main true) p 141 #[twV A t,.slice a n c] (fun v p'=>∃r,v=.tuple #[r,.J (B2 .spare t vs).2]/\RsW p' (B2 .spare t vs).1 r):=by
 obtain⟨⟨n1,n2⟩,⟨n3,n4,n5⟩,O⟩:=hn;obtain⟨⟨k1,k2⟩,⟨k3,k4,k5⟩,k6⟩:=T.c;obtain⟨_,zs,hs⟩:=g.sn;obtain⟨tb,zb,hb⟩:=g.bn;obtain⟨td,zd,M⟩:=g.db;refine xkq func141 fun K b2=>?_;refine drq [] R8 ?_;refine xzz rfl rfl rfl (yr8 T.d om (vs.getD 0 0)) ?_;refine xa ?_;exact K.r rfl rfl fun _ H=>(xqq H (.refl _ _ _) ⟨_,rfl,rfl⟩)
theorem yq8(A:TA)(t:Twn)(T:TwP p A t)(hn:t.fit 12)(g:GlP p){a:Option Addr}(n c:Nat)(vs:List Int)(V:Ax p a n vs)(hv:n=1):Lc prog (.main true) p 143 #[twV A t,.slice a n c] (fun v p'=>∃r,v=.tuple #[r,.J (B2 .level t vs).2]/\RsW p' (B2 .level t vs).1 r):=by
 obtain⟨⟨n1,n2⟩,⟨n3,n4,n5⟩,O⟩:=hn;obtain⟨⟨k1,k2⟩,⟨k3,k4,k5⟩,k6⟩:=T.c;obtain⟨_,zs,hs⟩:=g.sn;obtain⟨tb,zb,hb⟩:=g.bn;obtain⟨td,zd,M⟩:=g.db;refine xkq func143 fun K b2=>?_;refine lq fun b4=>?_;refine drq [] R8 ?_;refine xzz rfl rfl rfl (yp8 T.d om (vs.getD 0 0)) ?_;refine xa ?_;exact K.e rfl (xpq rfl (.tmp rfl .nil)) fun _ H=>(xqq H (.refl _ _ _) ⟨_,rfl,rfl⟩)
def Pv:Qn->FuncId
 |.fewest=>199
 |.cheap=>199
 |.deep=>199
 |.next=>199
 |.Fh=>199
 |.Ed=>207
 |.draws=>209
 |.dry=>199
 |.short=>207
 |.empty=>199
 |.least=>199
 |.ration=>199
 |.spare=>199
 |.level=>209
def inF:Qn->FuncId
 |.fewest=>115
 |.cheap=>117
 |.deep=>119
 |.next=>121
 |.Fh=>123
 |.Ed=>126
 |.draws=>129
 |.dry=>131
 |.short=>133
 |.empty=>135
 |.least=>137
 |.ration=>139
 |.spare=>141
 |.level=>143
def N9(q:Qn)(v:Value)(p:Ab):Prop:=∃b T z,v=.func (.func (Pv q)) #[] #[w_ b 0]/\p b=some (.cells #[.func (.func (inF q)) #[] #[]] T z)
theorem N9.mono{q:Qn}{v:Value}{p p':Ab}(x:N9 q v p)(M:PLe p p'):N9 q v p':=by
 obtain⟨b,T,z,e,H⟩:=x;exact⟨b,T,z,e,M _ _ H⟩
def RsV(p:Ab):Rs->Value->Prop
 |.num n,v=>v=.iface 181 (.J n)
 |.spn a b,v=>v=.iface 230 (.agg #[.J a,.J b])
 |.lst l,v=>∃a c,v=.iface 229 (.slice a l.length c)/\Ax p a l.length l
theorem xop:Lc prog md p 114 #[.func (.func f) #[] #[]] (fun v p'=>∃b T z,v=.func (.func 199) #[] #[w_ b 0]/\p' b=some (.cells #[.func (.func f) #[] #[]] T z)):=by
 refine xkq func114 fun K b1=>?_;refine ax ?_;refine xm3 (b:=b1) fun V M H=>?_;exact K.r rfl rfl fun _ O=>(xqq O M ⟨b1,_,_,rfl,H⟩)
theorem xnp(hp:Per p h)(A:TA)(t:Twn){a:Option Addr}(n c:Nat)(b:Nat)(hb:p b=some (.cells #[.func (.func f) #[] #[]] tB zB))(R:Rs×Int)(M:∃x e,R=(.num x,e))
 (hf:∀h,Per p h->Be prog (.main true) (.func (.func f) #[] #[]) [twV A t,.slice a n c] h (Cn p h fun v p'=>∃r,v=.tuple #[r,.J R.2]/\RsW p' R.1 r)):
 Ac prog (.main true) 199 #[twV A t,.slice a n c,w_ b 0] h (Cn p h fun v p'=>∃r,v=.tuple #[r,.J R.2]/\RsV p' R.1 r):=by
 refine xtq hp func199 fun K b3=>?_;refine ax ?_;refine xx5 rfl rfl (fun h pe=>hf h pe) ?_;obtain⟨x,e,rfl⟩:=M;rintro _ p1 H ⟨r,rfl,O⟩;cases O;refine ax ?_;refine ro_y rfl (y_mi rfl trivial underlying181) ?_;refine ax ?_;exact K.r rfl rfl fun _ V=>(xqq V H ⟨_,rfl,rfl⟩)
theorem yt2:Lc prog md p 128 #[.func (.func f) #[] #[]] (fun v p'=>∃b T z,v=.func (.func 209) #[] #[w_ b 0]/\p' b=some (.cells #[.func (.func f) #[] #[]] T z)):=by
 refine xkq func128 fun K b1=>?_;refine ax ?_;refine xm3 (b:=b1) fun V M H=>?_;exact K.r rfl rfl fun _ O=>(xqq O M ⟨b1,_,_,rfl,H⟩)
theorem yd2(hp:Per p h)(A:TA)(t:Twn){a:Option Addr}(n c:Nat)(b:Nat)(hb:p b=some (.cells #[.func (.func f) #[] #[]] tB zB))(R:Rs×Int)(M:∃x y e,R=(.spn x y,e))
 (hf:∀h,Per p h->Be prog (.main true) (.func (.func f) #[] #[]) [twV A t,.slice a n c] h (Cn p h fun v p'=>∃r,v=.tuple #[r,.J R.2]/\RsW p' R.1 r)):
 Ac prog (.main true) 209 #[twV A t,.slice a n c,w_ b 0] h (Cn p h fun v p'=>∃r,v=.tuple #[r,.J R.2]/\RsV p' R.1 r):=by
 refine xtq hp func209 fun K b3=>?_;refine ax ?_;refine xx5 rfl rfl (fun h pe=>hf h pe) ?_;obtain⟨x,y,e,rfl⟩:=M;rintro _ p1 H ⟨r,rfl,O⟩;cases O;refine lq fun b7=>?_;refine ax ?_;refine ro_y rfl (y_mi rfl trivial underlying230) ?_;refine ax ?_;exact K.r rfl rfl fun _ V=>(xqq V H ⟨_,rfl,rfl⟩)
theorem yu2:Lc prog md p 125 #[.func (.func f) #[] #[]] (fun v p'=>∃b T z,v=.func (.func 207) #[] #[w_ b 0]/\p' b=some (.cells #[.func (.func f) #[] #[]] T z)):=by
 refine xkq func125 fun K b1=>?_;refine ax ?_;refine xm3 (b:=b1) fun V M H=>?_;exact K.r rfl rfl fun _ O=>(xqq O M ⟨b1,_,_,rfl,H⟩)
theorem ye2(hp:Per p h)(A:TA)(t:Twn){a:Option Addr}(n c:Nat)(b:Nat)(hb:p b=some (.cells #[.func (.func f) #[] #[]] tB zB))(R:Rs×Int)(O:∃l e,R=(.lst l,e))
 (hf:∀h,Per p h->Be prog (.main true) (.func (.func f) #[] #[]) [twV A t,.slice a n c] h (Cn p h fun v p'=>∃r,v=.tuple #[r,.J R.2]/\RsW p' R.1 r)):
 Ac prog (.main true) 207 #[twV A t,.slice a n c,w_ b 0] h (Cn p h fun v p'=>∃r,v=.tuple #[r,.J R.2]/\RsV p' R.1 r):=by
 refine xtq hp func207 fun K b3=>?_;refine ax ?_;refine xx5 rfl rfl (fun h pe=>hf h pe) ?_;obtain⟨l,e,rfl⟩:=O;rintro _ p1 H ⟨r,rfl,a1,M,V,I⟩;cases V;refine ax ?_;refine ro_y rfl (y_mi rfl trivial underlying229) ?_;refine ax ?_;exact K.r rfl rfl fun _ H_=>(xqq H_ H ⟨_,rfl,a1,M,rfl,I⟩)
theorem xvr(q:Qn)(v:Value)(h:Heap)(p:Ab)(O:Per p h)(x:N9 q v p)(A:TA)(t:Twn)(T:TwP p A t)(hn:t.fit 12)(g:GlP p)(a:Option Addr)(n c:Nat)(vs:List Int)(V:Ax p a n vs)(hv:n=q.ar):
 Be prog (.main true) v [twV A t,.slice a n c] h (Cn p h fun v p'=>∃r,v=.tuple #[r,.J (B2 q t vs).2]/\RsV p' (B2 q t vs).1 r):=by
 obtain⟨b,tB,zB,rfl,M⟩:=x;cases q
 ·exact xgq (first:=[]) (cap:=[w_ b 0]) k_ (xnp O A t n c b M (B2 .fewest t vs) ⟨_,_,rfl⟩ fun h H=>xgq (first:=[]) (cap:=[]) k_ (yp9 A t T hn g n c vs h H))
 ·exact xgq (first:=[]) (cap:=[w_ b 0]) k_ (xnp O A t n c b M (B2 .cheap t vs) ⟨_,_,rfl⟩ fun h H=>xgq (first:=[]) (cap:=[]) k_ (yn9 A t T hn g n c vs h H))
 ·exact xgq (first:=[]) (cap:=[w_ b 0]) k_ (xnp O A t n c b M (B2 .deep t vs) ⟨_,_,rfl⟩ fun h H=>xgq (first:=[]) (cap:=[]) k_ (ym9 A t T hn g n c vs V hv h H))
 ·exact xgq (first:=[]) (cap:=[w_ b 0]) k_ (xnp O A t n c b M (B2 .next t vs) ⟨_,_,rfl⟩ fun h H=>xgq (first:=[]) (cap:=[]) k_ (yk9 A t T hn g n c vs V hv h H))
 ·exact xgq (first:=[]) (cap:=[w_ b 0]) k_ (xnp O A t n c b M (B2 .Fh t vs) ⟨_,_,rfl⟩ fun h H=>xgq (first:=[]) (cap:=[]) k_ (yi9 A t T hn g n c vs h H))
 ·exact xgq (first:=[]) (cap:=[w_ b 0]) k_ (ye2 O A t n c b M (B2 .Ed t vs) ⟨_,_,rfl⟩ fun h H=>xgq (first:=[]) (cap:=[]) k_ (yg9 A t T hn g n c vs h H))
 ·exact xgq (first:=[]) (cap:=[w_ b 0]) k_ (yd2 O A t n c b M (B2 .draws t vs) ⟨_,_,_,rfl⟩ fun h H=>xgq (first:=[]) (cap:=[]) k_ (ye9 A t T hn g n c vs V hv h H))
 ·exact xgq (first:=[]) (cap:=[w_ b 0]) k_ (xnp O A t n c b M (B2 .dry t vs) ⟨_,_,rfl⟩ fun h H=>xgq (first:=[]) (cap:=[]) k_ (yc9 A t T hn g n c vs V hv h H))
 ·exact xgq (first:=[]) (cap:=[w_ b 0]) k_ (ye2 O A t n c b M (B2 .short t vs) ⟨_,_,rfl⟩ fun h H=>xgq (first:=[]) (cap:=[]) k_ (ya9 A t T hn g n c vs h H))
 ·exact xgq (first:=[]) (cap:=[w_ b 0]) k_ (xnp O A t n c b M (B2 .empty t vs) ⟨_,_,rfl⟩ fun h H=>xgq (first:=[]) (cap:=[]) k_ (yy8 A t T hn g n c vs h H))
 ·exact xgq (first:=[]) (cap:=[w_ b 0]) k_ (xnp O A t n c b M (B2 .least t vs) ⟨_,_,rfl⟩ fun h H=>xgq (first:=[]) (cap:=[]) k_ (yw8 A t T hn g n c vs h H))
 ·exact xgq (first:=[]) (cap:=[w_ b 0]) k_ (xnp O A t n c b M (B2 .ration t vs) ⟨_,_,rfl⟩ fun h H=>xgq (first:=[]) (cap:=[]) k_ (yu8 A t T hn g n c vs h H))
 ·exact xgq (first:=[]) (cap:=[w_ b 0]) k_ (xnp O A t n c b M (B2 .spare t vs) ⟨_,_,rfl⟩ fun h H=>xgq (first:=[]) (cap:=[]) k_ (ys8 A t T hn g n c vs V hv h H))
 ·exact xgq (first:=[]) (cap:=[w_ b 0]) k_ (yd2 O A t n c b M (B2 .level t vs) ⟨_,_,_,rfl⟩ fun h H=>xgq (first:=[]) (cap:=[]) k_ (yq8 A t T hn g n c vs V hv h H))
theorem cf60(w:Str)(hw:w.length<=900)(n:Nat)(hn:n<=900){zT:Nat×Nat}(Z:p 5=some (.cells (Lib.pow10Tab.map (Value.int .u64)).toArray tT zT)):Lc prog md p 60 #[sv w,.J ((n:Nat):Int)] (fun v p'=>match qn (w++txt n)with
   |none=>v=.nilFunc
   |some q=>N9 q v p'):=by
 have hl:=ykx (n:=n) om;refine xlq func60 fun K=>?_;refine xpx rfl rfl (xn4 _ om Z) ?_;refine ax ?_;refine ro_y rfl (xow rfl rfl om) ?_;refine ax ?_;generalize w++txt (n:Int)=s at*;refine cq (fun V=>?_) (fun c0=>?_)
 ·refine cpq xop ?_;rintro _ p1 M ⟨b,T,z,rfl,O⟩;refine ax ?_;exact K.r rfl rfl fun _ H=>(xqq H M (by rw[V];exact⟨b,T,z,rfl,O⟩))
 refine cq (fun V=>?_) (fun c1=>?_)
 ·refine cpq xop ?_;rintro _ p1 M ⟨b,T,z,rfl,O⟩;refine ax ?_;exact K.r rfl rfl fun _ H=>(xqq H M (by rw[V];exact⟨b,T,z,rfl,O⟩))
 refine cq (fun V=>?_) (fun c2=>?_)
 ·refine cpq xop ?_;rintro _ p1 M ⟨b,T,z,rfl,O⟩;refine ax ?_;exact K.r rfl rfl fun _ H=>(xqq H M (by rw[V];exact⟨b,T,z,rfl,O⟩))
 refine cq (fun V=>?_) (fun c3=>?_)
 ·refine cpq xop ?_;rintro _ p1 M ⟨b,T,z,rfl,O⟩;refine ax ?_;exact K.r rfl rfl fun _ H=>(xqq H M (by rw[V];exact⟨b,T,z,rfl,O⟩))
 refine cq (fun V=>?_) (fun c4=>?_)
 ·refine cpq xop ?_;rintro _ p1 M ⟨b,T,z,rfl,O⟩;refine ax ?_;exact K.r rfl rfl fun _ H=>(xqq H M (by rw[V];exact⟨b,T,z,rfl,O⟩))
 refine cq (fun V=>?_) (fun c5=>?_)
 ·refine cpq yu2 ?_;rintro _ p1 M ⟨b,T,z,rfl,O⟩;refine ax ?_;exact K.r rfl rfl fun _ H=>(xqq H M (by rw[V];exact⟨b,T,z,rfl,O⟩))
 refine cq (fun V=>?_) (fun c6=>?_)
 ·refine cpq yt2 ?_;rintro _ p1 M ⟨b,T,z,rfl,O⟩;refine ax ?_;exact K.r rfl rfl fun _ H=>(xqq H M (by rw[V];exact⟨b,T,z,rfl,O⟩))
 refine cq (fun V=>?_) (fun c7=>?_)
 ·refine cpq xop ?_;rintro _ p1 M ⟨b,T,z,rfl,O⟩;refine ax ?_;exact K.r rfl rfl fun _ H=>(xqq H M (by rw[V];exact⟨b,T,z,rfl,O⟩))
 refine cq (fun V=>?_) (fun c8=>?_)
 ·refine cpq yu2 ?_;rintro _ p1 M ⟨b,T,z,rfl,O⟩;refine ax ?_;exact K.r rfl rfl fun _ H=>(xqq H M (by rw[V];exact⟨b,T,z,rfl,O⟩))
 refine cq (fun V=>?_) (fun c9=>?_)
 ·refine cpq xop ?_;rintro _ p1 M ⟨b,T,z,rfl,O⟩;refine ax ?_;exact K.r rfl rfl fun _ H=>(xqq H M (by rw[V];exact⟨b,T,z,rfl,O⟩))
 refine cq (fun V=>?_) (fun a5=>?_)
 ·refine cpq xop ?_;rintro _ p1 M ⟨b,T,z,rfl,O⟩;refine ax ?_;exact K.r rfl rfl fun _ H=>(xqq H M (by rw[V];exact⟨b,T,z,rfl,O⟩))
 refine cq (fun V=>?_) (fun a2=>?_)
 ·refine cpq xop ?_;rintro _ p1 M ⟨b,T,z,rfl,O⟩;refine ax ?_;exact K.r rfl rfl fun _ H=>(xqq H M (by rw[V];exact⟨b,T,z,rfl,O⟩))
 refine cq (fun V=>?_) (fun a3=>?_)
 ·refine cpq xop ?_;rintro _ p1 M ⟨b,T,z,rfl,O⟩;refine ax ?_;exact K.r rfl rfl fun _ H=>(xqq H M (by rw[V];exact⟨b,T,z,rfl,O⟩))
 refine cq (fun V=>?_) (fun a4=>?_)
 ·refine cpq yt2 ?_;rintro _ p1 M ⟨b,T,z,rfl,O⟩;refine ax ?_;exact K.r rfl rfl fun _ H=>(xqq H M (by rw[V];exact⟨b,T,z,rfl,O⟩))
 refine ax ?_;exact K.r rfl rfl fun _ H=>(xqq H (.refl _ _ _) (by
  unfold qn;rw[if_neg c0,if_neg c1,if_neg c2,if_neg c3,if_neg c4,if_neg c5,if_neg c6,if_neg c7,if_neg c8,if_neg c9,if_neg a5,if_neg a2,if_neg a3,if_neg a4];rfl))
def N5(b:Nat)(l:Str)(X:Pcs):Prop:=∃a v Y,X=[(b,.cells #[.pointer a,v] 404 (0,0))]++Y/\(a=none\/a=some ⟨b,0,none⟩)/\Aa 5 1 v (bcs l) Y
theorem yl1(hp:Per p h)(b:Nat){a:Option Addr}(v:Value)(V:a=none\/a=some ⟨b,0,none⟩)(hb:h[b]?=some (.cells #[.pointer a,v] 404 (0,0)))(M:p b=none):
 Ac prog md 382 #[w_ b 0] h (Dm p h b fun _ _ o'=>o'=.cells #[w_ b 0,v] 404 (0,0)):=by
 refine xoz hp hb M func382 fun _ _ _ K=>?_;refine ax ?_;rcases V with rfl|rfl
 ·refine ro_y rfl (ydh true rfl rfl rfl underlying402) ?_;refine ax ?_;refine xcx rfl (fun H=>?_) (fun H=>absurd trivial H);refine ax ?_;refine yts (i:=0) (w:=1) underlying402 underlying313 k_ rfl (by show 0<2;decide) rfl ?_;refine ax ?_;refine ro_y rfl (yrl func383 k_ rfl rfl (fun h=>xbq ⟨rfl,rfl⟩) (e:=Extern.AbiNoEscape.same)) ?_;refine ax ?_;refine ykc (i:=0) (w:=1) underlying313 underlying402 k_ rfl (by show 0<2;decide) k_ rfl ?_;refine ax ?_;exact xvb func382 rfl fun _ O=>K _ _ (xqj O (.refl _ _ _) rfl)
 ·refine ro_y rfl (ydh false rfl rfl rfl underlying402) ?_;refine ax ?_;refine xcx rfl (fun H=>absurd H id) (fun H=>?_);refine ax ?_;refine ro_y rfl (yf3 rfl rfl underlying402 k_ (w:=1)) ?_;refine ax ?_;refine xcx rfl (fun H=>absurd H id) (fun H=>?_);refine ax ?_;exact xvb func382 rfl fun _ O=>K _ _ (xqj O (.refl _ _ _) rfl)
theorem yvw(l:Str):(bcs l).length=l.length:=xfk l
theorem yl4(C X:Pcs)(b:Nat)(B:N5 b l X)(hl:l.length<=100000)(c:UInt8)(s:St z9 zz p h (X++C)):
 Ac prog md 379 #[w_ b 0,.int .u8 ((c.toNat:Nat):Int)] h fun _ h'=>∃V,N5 b (l++[c]) V/\St z9 zz p h' (V++C):=by
 obtain⟨a,v,Y,rfl,ha,o⟩:=B;refine xpj s func379 fun _ _ _ K=>?_;refine xrz [(b,.cells #[.pointer a,v] 404 (0,0))] Y ?_;refine ax ?_;refine xx0 rfl rfl (fun h_ pe hb H=>yl1 pe b v ha hb H) fun r p1 o1 g1 e1=>?_;subst e1;obtain⟨a1,c1,rfl,-⟩:=o.val;refine ax ?_;refine xxx rfl fun v2 Y2 M=>?_;have M:Aa 5 1 v2 (bcs [c]) Y2:=M;refine xiv rfl rfl o M (by simp[bcs,Bj]) (by simp[yvw];omega) fun v3 O o3=>?_;obtain⟨a3,c3,rfl,-⟩:=o3.val;refine ax ?_;refine xhk (LL':=[[(b,.cells #[w_ b 0,.slice a3 _ c3] 404 (0,0))],O,C]) ?_ (fun _ s=>s);exact xsq func379 rfl rfl fun h_ H_=>K _ _ ⟨_,⟨_,_,O,rfl,.inr rfl,o3.as (by simp[bcs])⟩,(xn8 H_).forget g1.le⟩
theorem yk4(C X:Pcs)(b:Nat)(B:N5 b l X)(hl:l.length<=100000)(m:Str)(hm:m.length<=100000)(s:St z9 zz p h (X++C)):
 Ac prog md 380 #[w_ b 0,sv m] h fun _ h'=>∃O,N5 b (l++m) O/\St z9 zz p h' (O++C):=by
 obtain⟨a,v,Y,rfl,ha,o⟩:=B;refine xpj s func380 fun _ _ _ K=>?_;refine xrz [(b,.cells #[.pointer a,v] 404 (0,0))] Y ?_;refine ax ?_;refine xx0 rfl rfl (fun h_ pe hb H=>yl1 pe b v ha hb H) fun r p1 o1 g1 e1=>?_;subst e1;obtain⟨a1,c1,rfl,-⟩:=o.val;refine ax ?_;refine ync rfl rfl o om fun v3 M V=>?_;obtain⟨a3,c3,rfl,-⟩:=V.val;refine ax ?_;refine xhk (LL':=[[(b,.cells #[w_ b 0,.slice a3 _ c3] 404 (0,0))],M,C]) ?_ (fun _ s=>s);exact xsq func380 rfl rfl fun h_ H_=>K _ _ ⟨_,⟨_,_,M,rfl,.inr rfl,V⟩,(xn8 H_).forget g1.le⟩
theorem yj4(C X:Pcs)(b:Nat)(B:N5 b l X)(V:0<l.length)(hl:l.length<=1000000)(s:St z9 zz p h (X++C)):
 Ac prog md 381 #[w_ b 0] h fun r h'=>∃M:Pcs,r=sv l/\St z9 zz p h' (M++C):=by
 obtain⟨a,v,Y,rfl,ha,o⟩:=B;refine xpj s func381 fun _ _ _ K=>?_;refine xrz [(b,.cells #[.pointer a,v] 404 (0,0))] Y ?_;have H:=yvw l;obtain⟨b1,O,rfl,a2,-⟩:=o.at0 om d_;refine drq [] R10 ?_;refine de_y rfl rfl (yc3 rfl om) ?_;refine xa ?_;rw[H]at o⊢;refine yrs o V hl rfl rfl underlying375 k_ ?_;refine ax ?_;exact xsq func381 rfl rfl fun _ H_=>K _ _ ⟨_,rfl,xoh (Y:=[(b,.cells #[.pointer a,.slice (some ⟨b1,0,none⟩) l.length O] 404 (0,0))]) H_⟩
end Go.Proofs.YtofhlcococeifaaGreatDoor
namespace Go.X.Ms
open Go.X.Flow (ics)
variable{x:Int}{l:List Int}{xs:List Str}{z:List Value}{i:Nat}{p p':Ab}{d:Cv}{s:Str}{A:TA}{tr tr' v:Value}
def iv(l:List Int):List Value:=l.map (Value.int .i64)
theorem xkz(l:List Int):(iv l).length=l.length:=by simp[iv]
theorem yi0(h:i<l.length):(iv l)[i]?=some (.J (l.getD i 0)):=by
 rw[iv,List.getElem?_map,List.getD_eq_getElem?_getD,List.getElem?_eq_getElem h];rfl
theorem yzh:(iv l).set i (.J x)=iv (l.set i x):=by simp[iv,List.map_set]
def dkc(A:TA)(d:Cv)(tr:Value):List Value:=tcs A d.t++(iv d.Du++(iv d.kept++[tr]))
def Cv.wf(d:Cv):Prop:=d.Du.length=26/\d.kept.length=26
theorem yzj{l:List Value}(h:l[i]?=some v):nth l i=some v:=by
 induction l generalizing i with
 |nil=>simp at h
 |cons a l ih=>
   cases i with
   |zero=>exact h
   |succ i=>exact ih (by simpa using h)
theorem xrv{t:Twn}:(tcs A t).length=11:=rfl
theorem xcd(w:d.wf):(dkc A d tr).length=64:=by
 simp[dkc,xkz,w.1,w.2]
theorem ya1(w:d.wf)(h:i<26):nth (dkc A d tr) (11+i)=some (.J (d.Du.getD i 0)):=yzj (by
 rw[dkc,List.getElem?_append_right (by rw[xrv];omega),xrv,Nat.add_sub_cancel_left,List.getElem?_append_left (by rw[xkz,w.1];exact h)];exact yi0 (by rw[w.1];exact h))
theorem yz0(w:d.wf)(h:i<26):nth (dkc A d tr) (37+i)=some (.J (d.kept.getD i 0)):=yzj (by
 rw[dkc,List.getElem?_append_right (by rw[xrv];omega),xrv,List.getElem?_append_right (by rw[xkz,w.1];omega),xkz,w.1,List.getElem?_append_left (by rw[xkz,w.2];omega)];rw[show 37+i-11-26=i by omega];exact yi0 (by rw[w.2];exact h))
theorem xh2(w:d.wf):nth (dkc A d tr) 63=some tr:=yzj (by
 rw[dkc,List.getElem?_append_right (by rw[xrv];omega),xrv,List.getElem?_append_right (by rw[xkz,w.1];omega),xkz,w.1,List.getElem?_append_right (by rw[xkz,w.2];omega),xkz,w.2];rfl)
theorem xh4(w:d.wf):((dkc A d tr).drop 11).take 52=iv d.Du++iv d.kept:=by
 have e:(tcs A d.t).length=11:=rfl;rw[dkc,List.drop_left' e,<- List.append_assoc];exact List.take_left' (by rw[List.length_append,xkz,xkz,w.1,w.2])
theorem xsl{a r vs:List Value}{n:Nat}(hn:a.length=n)(h:vs.length<=r.length):Ce (a++r) n vs=a++(vs++r.drop vs.length):=by subst hn;exact xsv h
theorem yhw(w:d.wf):Ce (dkc A d tr) 63 [tr']=dkc A d tr':=by
 have e:dkc A d tr=(tcs A d.t++(iv d.Du++iv d.kept))++[tr]:=by simp[dkc,List.append_assoc]
 have H:(tcs A d.t++(iv d.Du++iv d.kept)).length=63:=by
  rw[List.length_append,List.length_append,xkz,xkz,w.1,w.2];rfl
 rw[e];refine(xsl (r:=[tr]) (vs:=[tr']) H (Nat.le_refl 1)).trans ?_;simp[dkc,List.append_assoc]
theorem yzp(w:d.wf)(h:i<26):Ce (dkc A d tr) (11+i) [.J x]=dkc A {d with Du:=d.Du.set i x} tr:=by
 show(dkc A d tr).set (11+i) (.J x)=_;rw[dkc,List.set_append_right (h:=by rw[xrv];omega),xrv,Nat.add_sub_cancel_left,List.set_append_left (h:=by rw[xkz,w.1];exact h),yzh];rfl
theorem yyp(w:d.wf)(h:i<26):Ce (dkc A d tr) (37+i) [.J x]=dkc A {d with kept:=d.kept.set i x} tr:=by
 show(dkc A d tr).set (37+i) (.J x)=_;rw[dkc,List.set_append_right (h:=by rw[xrv];omega),xrv,List.set_append_right (h:=by rw[xkz,w.1];omega),xkz,w.1,List.set_append_left (h:=by rw[xkz,w.2];omega),show 37+i-11-26=i by omega,yzh];rfl
theorem ygw(w:d.wf){H:Cv}(w':H.wf):Ce (dkc A d tr) 11 (iv H.Du++iv H.kept)=dkc A {d with Du:=H.Du,kept:=H.kept} tr:=by
 have e:(tcs A d.t).length=11:=rfl;have O:(iv H.Du++iv H.kept).length=52:=by rw[List.length_append,xkz,xkz,w'.1,w'.2]
 have M:(iv d.Du++iv d.kept).length=52:=by rw[List.length_append,xkz,xkz,w.1,w.2]
 rw[dkc,xsl e (by simp[xkz,w.1,w.2,w'.1,w'.2]),O,<- List.append_assoc (iv d.Du),List.drop_left' M];simp[dkc,List.append_assoc]
theorem xg4{M:TA}{H:Twn}:Ce (dkc A d tr) 0 (tcs M H)=dkc M {d with t:=H } tr:=by
 have:=xsl (a:=[]) (r:=dkc A d tr) (vs:=tcs M H) (n:=0) rfl (by rw[dkc,List.length_append];simp);rw[List.nil_append]at this;rw[this];rfl
structure SnP(p:Ab)(A:TA)(d:Cv):Prop where
 T:TwP p A d.t
 ok:Cj d.t=0
 w:d.wf
theorem SnP.mono{p p':Ab}{A:TA}{d:Cv}(s:SnP p A d)(H:PLe p p'):SnP p' A d:=⟨s.T.mono H,s.ok,s.w⟩
def Lo(xs:List (TA×Cv)):List (List Value):=xs.map fun x=>dkc x.1 x.2 (.slice none 0 0)
structure Kg(p:Ab)(a:Option Addr)(c:Nat)(xs:List (TA×Cv)):Prop where
 c:xs.length<=c
 s:Sl p a xs.length 64 (Lo xs)
 e:∀x∈xs,SnP p x.1 x.2
theorem Kg.mono{p p':Ab}{a:Option Addr}{c:Nat}{xs:List (TA×Cv)}(s:Kg p a c xs)(H:PLe p p'):Kg p' a c xs:=⟨s.c,s.s.mono H,fun x M=>(s.e x M).mono H⟩
structure DkP(p:Ab)(D:Dsk)(ob:Obj)(T:TypeId):Prop where
 h:∃A a c xs,ob=.cells (dkc A D.now (.slice a xs.length c)).toArray T (0,0)/\SnP p A D.now/\Kg p a c xs/\xs.map (·.2)=D.Bz
theorem xtg(d:Cv)(s:Str):∀xs:List Str,A5 d (xs++[s])=match A5 d xs with
  |none=>none
  |some vs=>(H6 d s).map fun n=>vs++[n]
 |[]=>by
   rw[List.nil_append,A5,A5];cases H6 d s<;>rfl
 |x::xs=>by
   rw[List.cons_append,A5,A5,xtg d s xs];cases H6 d x with
   |none=>rfl
   |some n=>
     cases A5 d xs with
     |none=>rfl
     |some vs=>cases H6 d s<;>rfl
theorem xip(d:Cv)(h:A5 d xs=none):∀H:List Str,A5 d (xs++H)=none:=by
 induction xs with
 |nil=>cases h
 |cons x xs ih=>
   intro H;rw[List.cons_append,A5];rw[A5]at h;cases M:H6 d x with
   |none=>rfl
   |some n=>
     rw[M]at h;simp only at h⊢;rw[ih (by simpa using h) H];rfl
theorem xyd(d:Cv):∀{xs:List Str}{vs:List Int},A5 d xs=some vs->vs.length=xs.length
 |[],_,h=>by cases h;rfl
 |x::xs,vs,h=>by
   rw[A5]at h;cases H:H6 d x with
   |none=>rw[H]at h;cases h
   |some n=>
     rw[H]at h;obtain⟨O,M,rfl⟩:=Option.map_eq_some_iff.1 h;rw[List.length_cons,xyd d M,List.length_cons]
theorem xpl(h:isLet s=true):H6 d s=if d.kept.getD (Ee s) 0=0 then none else some (d.Du.getD (Ee s) 0):=by unfold H6;rw[if_pos h]
theorem xvw(h:¬ isLet s=true):H6 d s=some ((Cu s).getD 0):=by unfold H6;rw[if_neg h]
theorem ywh(h:isLet s=true):(s.getD 0 0).toNat=97+Ee s/\Ee s<26/\0<s.length:=by
 have z:=xbg.1 h;have e:s.headD 0=s.getD 0 0:=by cases s<;>rfl
 unfold Ee;rw[e];omega
theorem yks{j:Nat}(h:j<xs.length):xs.getD j []∈xs/\xs.take (j+1)=xs.take j++[xs.getD j []]:=by
 have e:xs.getD j []=xs[j]:=by rw[List.getD_eq_getElem?_getD,List.getElem?_eq_getElem h];rfl
 rw[e];exact⟨List.getElem_mem _,by rw[List.take_succ_eq_append_getElem h]⟩
open Go.Conc
theorem xr0{l:List Value}(h:l.length=z.length):Ce z 0 l=l:=by
 have:=xsl (a:=[]) (r:=z) (vs:=l) (n:=0) rfl om;rw[List.nil_append]at this;rw[this,h,List.drop_length,List.append_nil];rfl
theorem Ng{w:Nat}(H:z.length=w)(hv:v.cells.toList.length=w):Instr.fill (fun i=>some (i*w,w)) z.toArray [(0,v)]=some v.cells:=by
 have e:=xbm (pl:=[(0,w)]) (vs:=[(0,v)]) (cs:=z) (r:=v.cells.toList) (by
  unfold Gl;simp only[Oh];rw[hv,Nat.beq_refl,show Nat.ble (0+w) z.length=true from Nat.ble_eq ▸ (show 0+w<=z.length by omega)];simp only[Bool.and_self];rw[Gl,xr0 om])
 simp only[Instr.fill,List.getElem?_cons_zero,Nat.zero_mul]at e⊢;simpa using e
def zT:Twn:=⟨⟨[],[],0,0,0⟩,⟨[],[],[]⟩,⟨0,0,[]⟩⟩
def zA:TA:=⟨(none,0),(none,0),(none,0),(none,0),(none,0),(none,0)⟩
def zS:Cv:=⟨zT,List.replicate 26 0,List.replicate 26 0⟩
theorem ybp(w:d.wf):Gl [(0,11),(11,52),(63,1)] (dkc zA zS (.slice none 0 0)) [(0,.agg (tcs A d.t).toArray),(1,.agg (iv d.Du++iv d.kept).toArray)]=some (dkc A d (.slice none 0 0)):=by
 have O:zS.wf:=⟨rfl,rfl⟩
 have H:(iv d.Du++iv d.kept).length=52:=by rw[List.length_append,xkz,xkz,w.1,w.2]
 have M:(Value.agg (tcs A d.t).toArray).cells.toList=tcs A d.t:=rfl;have V:(Value.agg (iv d.Du++iv d.kept).toArray).cells.toList=iv d.Du++iv d.kept:=by simp[Value.cells]
 unfold Gl;simp only[Oh];rw[M,xrv,show Nat.beq 11 11=true from rfl,xcd O,show Nat.ble (0+11) 64=true from rfl];simp only[Bool.and_self];rw[xg4];have w1:({zS with t:=d.t}:Cv).wf:=⟨rfl,rfl⟩
 unfold Gl;simp only[Oh];rw[V,H,show Nat.beq 52 52=true from rfl,xcd w1,show Nat.ble (11+52) 64=true from rfl];simp only[Bool.and_self];rw[ygw w1 w];rfl
end Go.X.Ms
namespace Go.X
open Go.Conc
section
variable{X:Cx}{k:List Item}{ops:List Oper}{m:Ks}{l:Env}{p:Ab}{LF LL:List Pcs}{effs todo:List Nat}{dd:Nat}{ty:TypeId}{pos:String}{aft:Array Edge}{x:Operand}{i w:Nat}{v:Value}
theorem yk1{M eT:TypeId}{z:Value}{cs:List Value}(ho:ops[i]?=some ⟨some dd,.buildSlice M 1 #[(0,x)],ty,pos,aft,none⟩)(O:Nu l [(0,x)]=some [(0,v)])(hv:v.cells=cs.toArray)(hw:cs.length=w)[hT:Ca X.P M eT][hs:Ak X.P eT w][hz:Bg X.P eT z]
 (nx:∀u Y,Aa eT w u [cs] Y->DE X k ops m p LF effs todo ((dd,none,u)::l) (Y::LL))(he:effs.contains i=true:=by rfl)(V:w<=1000:=by decide):DE X k ops m p LF effs (i::todo) l LL:=by
 have H:chs w 1 v.cells.toList=[cs]:=by
  rw[hv,chs,chs,List.take_of_length_le (by simp;omega)]
 refine xvz (cells:=v.cells) (parts:=[(0,x)]) ho O (fun u Y o=>nx u Y (by rw[H]at o;exact o)) he (Ms.Ng s_ (by rw[hv];simpa using hw)) (by rw[H,hv];simp) (by rw[H];simp[hw]) (by rw[H];rfl) om
end
end Go.X
namespace Go.X.Ms
theorem xl5(xs:List (TA×Cv)):(Lo xs).length=xs.length:=by simp[Lo]
theorem yfm{xs:List (TA×Cv)}{i:Nat}(h:i<xs.length):(Lo xs)[i]?=some (dkc (xs[i]'h).1 (xs[i]'h).2 (.slice none 0 0)):=by
 rw[Lo,List.getElem?_map,List.getElem?_eq_getElem h];rfl
theorem yg4{A:TA}{d:Cv}{tr:Value}(h:Bj tr=true):∀u∈dkc A d tr,Bj u=true:=by
 intro u H;simp only[dkc,tcs,iv,List.mem_append,List.mem_cons,List.not_mem_nil,or_false,List.mem_map]at H;rcases H with(rfl|rfl|rfl|rfl|rfl|rfl|rfl|rfl|rfl|rfl|rfl)|⟨_,_,rfl⟩|⟨_,_,rfl⟩|rfl
 all_goals first|rfl|exact h
end Go.X.Ms
namespace Go.X
open Go.Conc
variable{aft:Array Edge}{cs:Array Value}{ops:List Oper}{ss:List Prop}{z:Nat×Nat}{x:Operand}{gd:Option (Nat×Bool)}{g:Option Bool}{d:Option Tmp}{p:Ab}{T t ty:TypeId}{u:Value}
section
variable{X:Cx}{k:List Item}{m:Ks}{l:Env}{LF LL LR:List Pcs}{effs todo:List Nat}{pos:String}{i:Nat}
theorem ygl{b off:Nat}(V:ops[i]?=some ⟨d,.load t x,ty,pos,aft,gd⟩)(M:gdc ops l gd=some g)(H:evS l x=some (ss,w_ b off))(hs:Bn g (Bl ss))[a:Cd X.P t false][mm:Bx LL b (.cells cs T z) LR]
 (n:DE X k ops m p LF effs todo (ent d g u l) LL)(hv:nth cs.toList off=some u)(O:Ot ops effs todo i=true:=by kernel_rfl):DE X k ops m p LF effs (i::todo) l LL:=
 xj8 V M rfl (xjx hs fun hs _ _ E s=>xel (i:=0) (s.perm (List.perm_append_comm.trans (List.Perm.append_right LF.flatten mm.h))) a.h (xdq E H hs) rfl (by rw[<- Array.getElem?_toList];exact xlr hv)) n O
end
end Go.X
namespace Go.X.Ms
def Rs.ok:Rs->Prop
 |.num n=>i64 n
 |.spn a b=>i64 a/\i64 b
 |.lst l=>l.length<=100/\ ∀i,i<l.length->i64 (l.getD i 0)
end Go.X.Ms
namespace Go.X
open Go.Conc
section
variable{X:Cx}{k:List Item}{ops:List Oper}{m:Ks}{l:Env}{p:Ab}{LF LL:List Pcs}{effs todo:List Nat}{d:Option Tmp}{ty:TypeId}{pos:String}{aft:Array Edge}{x y:Operand}{i:Nat}
theorem yh1{t e:TypeId}{w len j b o:Nat}{k1:IntKind}(V:X.P.underlying t=some (.array len e))(O:ops[i]?=some ⟨d,.indexAddr t x y,ty,pos,aft,none⟩)(H:evS l x=some ([],w_ b o))(M:evS l y=some ([],.int k1 ((j:Nat):Int)))(h:j<len)[sz:Ak X.P e w](n:DE X k ops m p LF effs todo (ent d none (.pointer (some ⟨b,o+j*w,none⟩)) l) LL):
 DE X k ops m p LF effs (i::todo) l LL:=xk4 (g:=none) O rfl rfl (fun _ _ _ E _=>by
  have z:=xfl (d:=d) (ty:=ty) (pos:=pos) (aft:=aft) (gd:=none) (h:=by assumption) V sz.h (xdq E H trivial) (xdq E M trivial) h;rw[xox]at z;exact z) n
end
end Go.X
namespace Go.X.Ms
variable{xs:List Str}{n:Nat}{p:Ab}{w:Str}{d:UInt8}
theorem yzl:∀c∈txt (n:Int),C7 c=true:=by
 have e:txt (n:Int)=C9 n:=by unfold txt;rw[if_neg om,Int.natAbs_natCast]
 rw[e];exact xlc
theorem yxl(h:txt (n:Int)=[d]):n+48=d.toNat:=by
 have e:txt (n:Int)=C9 n:=by unfold txt;rw[if_neg om,Int.natAbs_natCast]
 rw[e]at h;by_cases H:n<10
 ·rw[xzj H]at h;have h:UInt8.ofNat (48+n)=d:=List.head_eq_of_cons_eq h;rw[<- h];have:(48+n)%256=48+n:=Nat.mod_eq_of_lt om;show _=(48+n)%256;omega
 ·have:=xww (k:=1) (n:=n) om;rw[h]at this;simp at this
theorem xtx{u:Str}{x:UInt8}(h:w++txt (n:Int)=u++[x,d])(hx:C7 x=false):n+48=d.toNat:=by
 have H:=congrArg List.reverse h;rw[List.reverse_append,List.reverse_append]at H;have O:=xz2 (n:Int);have V:=yzl (n:=n);have M:∀c∈(txt (n:Int)).reverse,C7 c=true:=fun c hc=>V c (List.mem_reverse.1 hc);cases e:(txt (n:Int)).reverse with
 |nil=>have:=congrArg List.length e;rw[List.length_reverse]at this;simp at this;rw[this]at O;simp at O
 |cons y t=>
   rw[e]at H M;have h2:y::(t++w.reverse)=d::x::u.reverse:=H;injection h2 with e1 e2;subst e1;cases t with
   |nil=>
     refine yxl ?_;have:=congrArg List.reverse e;rwa[List.reverse_reverse]at this
   |cons z t=>
     injection e2 with e3 e4;have:=M z s_;rw[e3,hx]at this;cases this
theorem ygn{q:Qn}(h:qn (w++txt (n:Int))=some q):n=q.ar:=by
 unfold qn at h;by_cases c0:w++txt (n:Int)=[102,101,119,101,115,116,48]
 ·rw[if_pos c0]at h;cases h;have:=xtx (u:=[102,101,119,101,115]) c0 d_;show n=0;have e:(48:UInt8).toNat=48:=rfl;omega
 rw[if_neg c0]at h;by_cases c1:w++txt (n:Int)=[99,104,101,97,112,48]
 ·rw[if_pos c1]at h;cases h;have:=xtx (u:=[99,104,101,97]) c1 d_;show n=0;have e:(48:UInt8).toNat=48:=rfl;omega
 rw[if_neg c1]at h;by_cases c2:w++txt (n:Int)=[100,101,101,112,49]
 ·rw[if_pos c2]at h;cases h;have:=xtx (u:=[100,101,101]) c2 d_;show n=1;have e:(49:UInt8).toNat=49:=rfl;omega
 rw[if_neg c2]at h;by_cases c3:w++txt (n:Int)=[110,101,120,116,49]
 ·rw[if_pos c3]at h;cases h;have:=xtx (u:=[110,101,120]) c3 d_;show n=1;have e:(49:UInt8).toNat=49:=rfl;omega
 rw[if_neg c3]at h;by_cases c4:w++txt (n:Int)=[109,111,115,116,48]
 ·rw[if_pos c4]at h;cases h;have:=xtx (u:=[109,111,115]) c4 d_;show n=0;have e:(48:UInt8).toNat=48:=rfl;omega
 rw[if_neg c4]at h;by_cases c5:w++txt (n:Int)=[108,97,99,107,115,48]
 ·rw[if_pos c5]at h;cases h;have:=xtx (u:=[108,97,99,107]) c5 d_;show n=0;have e:(48:UInt8).toNat=48:=rfl;omega
 rw[if_neg c5]at h;by_cases c6:w++txt (n:Int)=[100,114,97,119,115,49]
 ·rw[if_pos c6]at h;cases h;have:=xtx (u:=[100,114,97,119]) c6 d_;show n=1;have e:(49:UInt8).toNat=49:=rfl;omega
 rw[if_neg c6]at h;by_cases c7:w++txt (n:Int)=[100,114,121,49]
 ·rw[if_pos c7]at h;cases h;have:=xtx (u:=[100,114]) c7 d_;show n=1;have e:(49:UInt8).toNat=49:=rfl;omega
 rw[if_neg c7]at h;by_cases c8:w++txt (n:Int)=[115,104,111,114,116,48]
 ·rw[if_pos c8]at h;cases h;have:=xtx (u:=[115,104,111,114]) c8 d_;show n=0;have e:(48:UInt8).toNat=48:=rfl;omega
 rw[if_neg c8]at h;by_cases c9:w++txt (n:Int)=[101,109,112,116,121,48]
 ·rw[if_pos c9]at h;cases h;have:=xtx (u:=[101,109,112,116]) c9 d_;show n=0;have e:(48:UInt8).toNat=48:=rfl;omega
 rw[if_neg c9]at h;by_cases M:w++txt (n:Int)=[108,101,97,115,116,48]
 ·rw[if_pos M]at h;cases h;have:=xtx (u:=[108,101,97,115]) M d_;show n=0;have e:(48:UInt8).toNat=48:=rfl;omega
 rw[if_neg M]at h;by_cases O:w++txt (n:Int)=[114,97,116,105,111,110,48]
 ·rw[if_pos O]at h;cases h;have:=xtx (u:=[114,97,116,105,111]) O d_;show n=0;have e:(48:UInt8).toNat=48:=rfl;omega
 rw[if_neg O]at h;by_cases V:w++txt (n:Int)=[115,112,97,114,101,49]
 ·rw[if_pos V]at h;cases h;have:=xtx (u:=[115,112,97,114]) V d_;show n=1;have e:(49:UInt8).toNat=49:=rfl;omega
 rw[if_neg V]at h;by_cases H:w++txt (n:Int)=[108,101,118,101,108,49]
 ·rw[if_pos H]at h;cases h;have:=xtx (u:=[108,101,118,101]) H d_;show n=1;have e:(49:UInt8).toNat=49:=rfl;omega
 rw[if_neg H]at h;cases h
theorem yd0{q:Od}(h:od (w++txt (n:Int))=some q):n=q.ar:=by
 unfold od at h;by_cases c0:w++txt (n:Int)=[114,111,99,107,52]
 ·rw[if_pos c0]at h;cases h;have:=xtx (u:=[114,111,99]) c0 d_;show n=4;have e:(52:UInt8).toNat=52:=rfl;omega
 rw[if_neg c0]at h;by_cases V:w++txt (n:Int)=[102,111,111,116,49]
 ·rw[if_pos V]at h;cases h;have:=xtx (u:=[102,111,111]) V d_;show n=1;have e:(49:UInt8).toNat=49:=rfl;omega
 rw[if_neg V]at h;by_cases c2:w++txt (n:Int)=[117,112,48]
 ·rw[if_pos c2]at h;cases h;have:=xtx (u:=[117]) c2 d_;show n=0;have e:(48:UInt8).toNat=48:=rfl;omega
 rw[if_neg c2]at h;by_cases c3:w++txt (n:Int)=[104,111,117,115,101,49]
 ·rw[if_pos c3]at h;cases h;have:=xtx (u:=[104,111,117,115]) c3 d_;show n=1;have e:(49:UInt8).toNat=49:=rfl;omega
 rw[if_neg c3]at h;by_cases c4:w++txt (n:Int)=[119,101,108,108,49]
 ·rw[if_pos c4]at h;cases h;have:=xtx (u:=[119,101,108]) c4 d_;show n=1;have e:(49:UInt8).toNat=49:=rfl;omega
 rw[if_neg c4]at h;by_cases H:w++txt (n:Int)=[119,97,110,116,50]
 ·rw[if_pos H]at h;cases h;have:=xtx (u:=[119,97,110]) H d_;show n=2;have e:(50:UInt8).toNat=50:=rfl;omega
 rw[if_neg H]at h;by_cases c6:w++txt (n:Int)=[104,97,115,50]
 ·rw[if_pos c6]at h;cases h;have:=xtx (u:=[104,97]) c6 d_;show n=2;have e:(50:UInt8).toNat=50:=rfl;omega
 rw[if_neg c6]at h;by_cases c7:w++txt (n:Int)=[119,97,121,50]
 ·rw[if_pos c7]at h;cases h;have:=xtx (u:=[119,97]) c7 d_;show n=2;have e:(50:UInt8).toNat=50:=rfl;omega
 rw[if_neg c7]at h;by_cases M:w++txt (n:Int)=[100,97,121,51]
 ·rw[if_pos M]at h;cases h;have:=xtx (u:=[100,97]) M d_;show n=3;have e:(51:UInt8).toNat=51:=rfl;omega
 rw[if_neg M]at h;by_cases O:w++txt (n:Int)=[115,105,122,101,49]
 ·rw[if_pos O]at h;cases h;have:=xtx (u:=[115,105,122]) O d_;show n=1;have e:(49:UInt8).toNat=49:=rfl;omega
 rw[if_neg O]at h;cases h
theorem xpk:∀{s x:Str},x∈Ad s->x.length<=s.length
 |[],x,h=>by simp[Ad]at h;subst h;exact Nat.le_refl _
 |c::s,x,h=>by
   rw[Ad]at h;split at h
   ·rcases List.mem_cons.1 h with rfl|h
    ·exact Nat.zero_le _
    ·have:=xpk h;simp;omega
   ·rcases List.mem_cons.1 h with rfl|h
    ·have:(Ad s).headD []∈Ad s:=by
      cases e:Ad s with
      |nil=>exact absurd e (xaj s)
      |cons a t=>simp
     have:=xpk this;simp only[List.length_cons];omega
    ·have:=xpk (List.mem_of_mem_tail h);simp;omega
theorem xmk{a:Option Addr}{c:Nat}(S:At p a n xs)(j:Nat)(H:j<=n)(hc:n<=c):At p (Cf a c j 1) (n-j) (xs.drop j):=by
 have M:=S.len;have z:=Sl.cut (lo:=j) (hi:=n) (a':=Cf a c j 1) S H (Nat.le_refl _) fun h=>by
  have e:=At.ne S om;rw[e,xdd om];rfl
 have e:((scs xs).drop j).take (n-j)=scs (xs.drop j):=by
  rw[List.take_of_length_le (by rw[List.length_drop,xmx];omega)];simp[scs]
 rw[e]at z;exact z
theorem yox{o:Od}{t M:Twn}{a:List Int}(h:Ct o t a=some M)(hn:t.fit n):M.fit (n+1):=by
 obtain⟨⟨h1,h2⟩,⟨O,V,h5⟩,h6⟩:=hn;have H:∀{l l':List Int}{i x:Int},Lt l i x=some l'->l'.length=l.length:=fun{l l' i x}e=>by
  unfold Lt at e;split at e
  ·cases e;simp
  ·cases e
 unfold Flow.Tn.nH at O;unfold Flow.Tn.nW at V;unfold Flow.Tn.m at h5;cases o<;>simp only[Ct]at h
 case up=>
  split at h
  ·cases h
  ·cases h;refine⟨⟨?_,?_⟩,⟨?_,?_,?_⟩,?_⟩<;>first|(simp only[Flow.Tn.nH,Flow.Tn.nW,Flow.Tn.m,List.length_take];omega)|omega
 case want=>
  obtain⟨l,e,rfl⟩:=Option.map_eq_some_iff.1 h;have:=H e;refine⟨⟨?_,?_⟩,⟨?_,?_,?_⟩,?_⟩<;>first|(simp only[Flow.Tn.nH,Flow.Tn.nW,Flow.Tn.m];omega)|omega
 case has=>
  obtain⟨l,e,rfl⟩:=Option.map_eq_some_iff.1 h;have:=H e;refine⟨⟨?_,?_⟩,⟨?_,?_,?_⟩,?_⟩<;>first|(simp only[Flow.Tn.nH,Flow.Tn.nW,Flow.Tn.m];omega)|omega
 all_goals
  cases h;refine⟨⟨?_,?_⟩,⟨?_,?_,?_⟩,?_⟩<;>first|(simp only[Flow.Tn.nH,Flow.Tn.nW,Flow.Tn.m,Qb,List.length_append,List.length_cons,List.length_nil,List.length_take,List.length_drop];omega)|omega
theorem xvk(D:Dsk)(M H:Str)(args:List Str):C0 D M (H::args)=if args.all Ba=false\/(qn (H++txt args.length)=none/\(M≠[]\/(od (H++txt args.length)=none/\C2 H args.length=false)))then(D,Dh)
 else match A5 D.now args with
  |none=>(D,Ay)
  |some vs=>match qn (H++txt args.length)with
    |some q=>C5 D q vs M
    |none=>if C2 H args.length=true then((tryD D H).1,Ek (tryD D H).2)
      else match od (H++txt args.length)with
       |none=>(D,wNo)
       |some o=>match Ct o D.now.t vs with
         |none=>(D,wNo)
         |some t=>if Cj t=0 then({D with now:={D.now with t:=t}},wOk)else(D,wNo):=rfl
theorem xt0(x:Str):∀(xs:List Str)(d:Dsk),Az d (xs++[x])=((doD (Az d xs).1 x).1,(Az d xs).2++[(doD (Az d xs).1 x).2])
 |[],d=>rfl
 |y::ys,d=>by
   rw[List.cons_append,Az,xt0 x ys];rfl
theorem xpc:∀(xs:List Str)(d:Dsk),(Az d xs).2.length=xs.length
 |[],_=>rfl
 |x::xs,d=>by rw[Az];simp[xpc xs]
theorem yqx(d:Dsk)(w:Str):(tryD d w).1.Bz.length<=d.Bz.length+1:=by
 unfold tryD;split
 ·simp
 ·split
  ·simp
  ·split<;>simp<;>omega
theorem xz9{d:Dsk}{l:Str}{r:Rs}:(Hi d l r).Bz=d.Bz:=by cases r<;>rfl
theorem xp2(d:Dsk)(q:Qn)(a:List Int)(l:Str):(C5 d q a l).1.Bz=d.Bz:=by
 unfold C5;split
 ·rfl
 ·split
  ·rfl
  ·split
   ·exact xz9
   ·rfl
theorem xmr(d:Dsk)(l w:Str)(args:List Str):(C0 d l (w::args)).1.Bz.length<=d.Bz.length+1:=by
 rw[xvk];split
 ·simp
 ·cases A5 d.now args with
  |none=>simp
  |some vs=>
    cases qn (w++txt args.length)with
    |some q=>simp only;rw[xp2];omega
    |none=>
      simp only;split
      ·exact yqx d w
      ·cases od (w++txt args.length)with
       |none=>simp
       |some o=>
         simp only;cases Ct o d.now.t vs with
         |none=>simp
         |some t=>simp only;split<;>simp
theorem ygg(d:Dsk)(x:Str):(doD d x).1.Bz.length<=d.Bz.length+1:=by
 have e:∀(l:Str)(H:List Str),(C0 d l H).1.Bz.length<=d.Bz.length+1:=fun l H=>by
  cases H with
  |nil=>exact xmr d l [] []
  |cons w args=>exact xmr d l w args
 unfold doD;simp only;split
 ·split
  ·simp
  ·exact e _ _
 ·exact e _ _
theorem xu0:∀(xs:List Str)(d:Dsk),(Az d xs).1.Bz.length<=d.Bz.length+xs.length
 |[],_=>by simp[Az]
 |x::xs,d=>by
   have:=xu0 xs (doD d x).1;have:=ygg d x;rw[Az,List.length_cons];simp only;omega
noncomputable def Bt(t:Twn)(ls:List Str):List Str×Twn:=if Cj t≠0\/30<ls.length then([],zT)else((Az (Ai t) ls).2,(Az (Ai t) ls).1.now.t)
noncomputable def M0(t:Twn)(ls:List Str):Int:=if Cj t≠0 then Cj t else if 30<ls.length then 2 else 0
end Go.X.Ms
namespace Go.X.Flow
theorem yac{f:Nat->Int}{B:Int}:∀{k:Nat},(∀i,i<k->0<=f i/\f i<=B)->0<=sm k f/\sm k f<=B*k
 |0,_=>by simp[sm]
 |k+1,h=>by
   have H:=yac (f:=f) (B:=B) (k:=k) fun i hi=>h i om;have M:=h k om;rw[sm];have e:B*((k+1:Nat):Int)=B*(k:Int)+B:=by rw[Int.natCast_succ,Int.mul_add,Int.mul_one]
   omega
theorem xq0{t:Tn}(hn:t.nH<=6):∀k,k<=2^t.nH->(Bb t k).length<=6/\ ∀i,i<(Bb t k).length->0<=(Bb t k).getD i 0/\(Bb t k).getD i 0<6
 |0,_=>by simp[Bb]
 |k+1,hk=>by
   have H:=xq0 hn k om;rw[Bb];split
   ·have M:2^t.nH<=2^6:=Nat.pow_le_pow_right d_ hn;exact⟨xr2 k om,fun i hi=>by have:=yyr (k:=6) (g:=k) d_ om i hi;omega⟩
   ·exact H
theorem xi7{α:Type}{q:α->Bool}:∀{ds:List α},Dn q ds<(ds.length:Int)
 |[]=>by show(-1:Int)<((0:Nat):Int);decide
 |d::ds=>by
   have:=xi7 (q:=q) (ds:=ds);rw[Dn,List.length_cons];split
   ·omega
   ·split<;>omega
end Go.X.Flow
namespace Go.X.Ms
open Go.X.Flow Go.Proofs.YtofhlcococeifaaGreatDoor
abbrev m6(n:Int):Prop:=-999999<=n/\n<=999999
def Rs.m6:Rs->Prop
 |.num n=>Ms.m6 n
 |.spn a b=>Ms.m6 a/\Ms.m6 b
 |.lst l=>l.length<=60/\ ∀i,i<l.length->Ms.m6 (l.getD i 0)
theorem xy2{q:Nat->Bool}:∀{f k r:Nat},Cist.K9 q k f=some r->r<k+f
 |0,k,r,h=>by cases h
 |f+1,k,r,h=>by
   rw[Cist.K9]at h;split at h
   ·cases h;omega
   ·have:=xy2 h;omega
theorem xn7{o:Option Nat}{n:Nat}(h:∀r,o=some r->r<n)(hn:n<=1000):m6 (Cist.found o).1:=by
 cases o with
 |none=>exact d_
 |some r=>have:=h r rfl;exact(by show -999999<=((r:Nat):Int)/\((r:Nat):Int)<=999999;omega)
theorem xhr(size start:Int)(ds:List Cist.Day):∀k:Nat,0<=Cist.Cg size start ds k/\Cist.Cg size start ds k<=k
 |0=>by simp[Cist.Cg]
 |k+1=>by
   have:=xhr size start ds k;rw[Cist.Cg];split<;>omega
theorem xi8(s:Shf)(H:Int):∀k,K5 s H k<=k
 |0=>Nat.le_refl _
 |k+1=>by
   have:=xi8 s H k;rw[K5];split<;>omega
theorem yf0{l:List Int}(h:∀z∈l,m6 z):∀i,i<l.length->m6 (l.getD i 0):=fun i hi=>by
 rw[List.getD_eq_getElem?_getD,List.getElem?_eq_getElem hi];exact h _ (List.getElem_mem hi)
theorem yab(q:Qn)(t:Twn)(a:List Int)(hv:Cj t=0):(B2 q t a).1.m6:=by
 obtain⟨h1,V,h3⟩:=xcw.1 hv;have ok:t.s.ok:=by
  unfold Hx at h1;split at h1
  ·assumption
  ·cases h1
 have O:=xkr V;have Y:=Cist.B5.1 h3;have hl:=ok.2.2.1;have a2:=Y.2.2.2.2.1;have D:∀{w:Wi},Sg w->Div t.b (C6 t.b w):=fun S=>(xsw O.toOk S).div;cases q with
 |fewest=>
   have hw:okW _ (El ltF t.s 12):=xjc (lt:=ltF) ok (k:=min 12 t.s.Af.length) 0;unfold okW at hw;show m6 (Ft t.s);unfold Ft;split
   ·exact om
   ·exact d_
 |cheap=>
   by_cases h:Ck ltC t.s=0
   ·have:=xgc (s:=t.s) h;exact(by show -999999<=Cs t.s/\Cs t.s<=999999;omega)
   ·show m6 (Cs t.s);rw[Cs,if_neg h];decide
 |deep=>
   show m6 (Kx t.s (a.getD 0 0));unfold Kx;split
   ·have:=xi8 t.s (a.getD 0 0) t.s.Af.length;exact om
   ·exact d_
 |next=>
   show m6 (Hg t.s (a.getD 0 0));unfold Hg;by_cases hn:FmZ t.s (a.getD 0 0)=0
   case neg=>rw[if_neg hn];decide
   rw[if_pos hn];unfold FmZ at hn;split at hn
   ·rename_i z;exact absurd hn z
   split at hn
   ·cases hn
   split at hn
   ·rename_i z;exact absurd hn z
   rename_i z;have b1:=xgc (s:=t.s) (Classical.not_not.1 z);have b2:=xgc hn;exact om
 |Fh=>
   show m6 (Gk t.b);unfold Gk;rw[if_pos V];have:=yac (f:=dv (C6 t.b H0)) (B:=9) (k:=t.b.m) (xcm O xnd);have hm:=O.nm;exact(by show -999999<=tot t.b _/\tot t.b _<=999999;unfold tot;omega)
 |Ed=>
   show(LKc t.b).length<=60/\_;rw[Mq V];refine⟨by rw[ya3];have:=O.nh;omega,yf0 fun z hz=>?_⟩;obtain⟨k,M,rfl⟩:=ynk.1 hz;have b1:=(D xnd).hs k M;have b2:=O.h k M;have b3:=yac (f:=fun i=>if t.b.wh i=k then dv (C6 t.b H0) i else 0) (B:=9) (k:=t.b.m) (fun i hi=>by have:=xcm O xnd i hi;unfold dv;split<;>omega);unfold As;unfold draw at b1⊢;exact om
 |draws=>
   have b:∀s:Int,Sg ⟨a.getD 0 0,-1,s⟩->m6 (Lw t.b (a.getD 0 0) s):=fun s S=>by
    have b3:=yac (f:=fun i=>if t.b.wh i=(a.getD 0 0).toNat then dv (C6 t.b ⟨a.getD 0 0,-1,s⟩) i else 0) (B:=9) (k:=t.b.m) (fun i hi=>by have:=xcm O S i hi;unfold dv;split<;>omega);have hm:=O.nm;exact(by show -999999<=draw t.b _ _/\draw t.b _ _<=999999;unfold draw;omega)
   show m6 (Eg t.b (a.getD 0 0) (-1))/\m6 (Eg t.b (a.getD 0 0) 1);unfold Eg;constructor<;>split<;>first|exact b _ ⟨s_,s_⟩|exact d_
 |dry=>
   show m6 (Nb t.b (a.getD 0 0));unfold Nb Pd;split
   ·split
    ·exact d_
    ·split<;>exact d_
   ·exact d_
 |short=>
   show(Gp t.b).length<=60/\_;rw[xxg V];have b:=xq0 O.nh (2^t.b.nH) (Nat.le_refl _);exact⟨by have:=b.1;show(Bb t.b _).length<=60;omega,fun i hi=>by have:=b.2 i hi;exact(by show -999999<=(Bb t.b _).getD i 0/\(Bb t.b _).getD i 0<=999999;omega)⟩
 |empty=>
   show m6 (Cist.Nh t.y.size t.y.start t.y.days).1;rw[Cist.Nh,if_pos Y];have:=xi7 (q:=fun d=>decide (0<d.hi)) (ds:=Cist.side t.y.size (min t.y.start t.y.size) (Cist.Am t.y.days) (Cist.Fz t.y.days) t.y.days.length);rw[Cist.B9]at this;have e:Cist.N0 t.y.size t.y.start t.y.days<(t.y.days.length:Int):=this;show m6 (if Cist.N0 t.y.size t.y.start t.y.days<0 then 0 else Cist.N0 t.y.size t.y.start t.y.days);split<;>exact om
 |least=>
   show m6 (Cist.Gy t.y.size t.y.start t.y.days).1;rw[Cist.Gy,if_pos Y];exact xn7 (n:=61) (fun r hr=>by have:=xy2 hr;omega) d_
 |ration=>
   show m6 (if Cist.Ok t.y.size t.y.start t.y.days then Cist.Cg t.y.size t.y.start t.y.days 20 else 0);rw[if_pos Y];have:=xhr t.y.size t.y.start t.y.days 20;exact om
 |spare=>
   have e:(Cist.C8 t.y.size t.y.start t.y.days (a.getD 0 0)).1=0\/(Cist.C8 t.y.size t.y.start t.y.days (a.getD 0 0)).1=(Cist.found (Cist.Pu t.y.size t.y.start t.y.days (a.getD 0 0))).1:=by
    unfold Cist.C8;by_cases H:Cist.K0 t.y.size t.y.start t.y.days (decide (Cist.Dx t.y.days (a.getD 0 0)))=0
    ·rw[if_pos H];by_cases c2:Cist.C1 t.y.size t.y.start t.y.days
     ·rw[if_pos c2];exact .inr rfl
     ·rw[if_neg c2];exact .inl rfl
    ·rw[if_neg H];exact .inl rfl
   show m6 (Cist.C8 t.y.size t.y.start t.y.days (a.getD 0 0)).1;rcases e with e|e
   ·rw[e];exact d_
   ·rw[e];exact xn7 (n:=100) (fun r hr=>by have:=xy2 hr;omega) d_
 |level=>
   show m6 (Cist.Lr t.y.size t.y.start t.y.days (a.getD 0 0)).1.1/\m6 (Cist.Lr t.y.size t.y.start t.y.days (a.getD 0 0)).1.2;unfold Cist.Lr;by_cases H:Cist.K0 t.y.size t.y.start t.y.days (decide (Cist.Dx t.y.days (a.getD 0 0)))=0
   ·rw[if_pos H];obtain⟨b1,b2,b3,b4⟩:=Y.both (n:=t.y.days.length) rfl;have hd:Cist.Dx t.y.days (a.getD 0 0):=by
     unfold Cist.K0 at H;rw[if_pos Y]at H;by_cases z:Cist.Dx t.y.days (a.getD 0 0)
     ·exact z
     ·rw[if_neg (by rw[decide_eq_true_iff];exact z)]at H;cases H
    have M:(a.getD 0 0).toNat+1<=t.y.days.length:=by have:=hd.1;have:=hd.2;omega
    have l1:=Cist.Di (size:=t.y.size) (start:=min t.y.start t.y.size) (want:=Cist.Am t.y.days) (rain:=Cist.Fz t.y.days) (n:=t.y.days.length) ⟨om,om⟩ (fun i hi=>(b2 i hi).1) _ M;have l2:=Cist.Di (size:=t.y.size) (start:=min t.y.start t.y.size) (want:=Cist.Am t.y.days) (rain:=Cist.Lv t.y.days) (n:=t.y.days.length) ⟨om,om⟩ (fun i hi=>(b2 i hi).1) _ M;have e:∀{n:Int},(0<=n/\n<=60)->m6 n:=fun h=>⟨om,om⟩
    exact⟨e (n:=Cist.lev _ _ _ _ _) om,e (n:=Cist.lev _ _ _ _ _) om⟩
   ·rw[if_neg H];exact⟨show m6 0 by decide,show m6 0 by decide⟩
theorem ykl(q:Qn)(t:Twn)(a:List Int)(hv:Cj t=0)(_:(B2 q t a).2=0):(B2 q t a).1.ok:=by
 have h:=yab q t a hv;have e:∀{n:Int},m6 n->i64 n:=fun h=>⟨om,om⟩
 cases c:(B2 q t a).1 with
 |num n=>rw[c]at h;exact e h
 |spn x y=>rw[c]at h;exact⟨e h.1,e h.2⟩
 |lst l=>rw[c]at h;exact⟨by have:=h.1;omega,fun i hi=>e (h.2 i hi)⟩
end Go.X.Ms
namespace Go.Proofs.YtofhlcococeifaaGreatDoor
open Go.Proofs.Tryz
open Go.X Go.X.Ms Go.Conc
variable{h:Heap}{md:Md}{n:Nat}{p:Ab}{tT:TypeId}{tr:Value}
section
variable{zT:Nat×Nat}
theorem yn4(n:Int)(hn:i64 n)(Z:p 5=some (.cells (Lib.pow10Tab.map (Value.int .u64)).toArray tT zT)):Dc prog md p 377 #[.J n] (sv (txt n)):=by
 refine xlq func377 fun K=>?_;refine cdq (xn4 n hn Z) ?_;exact K.q rfl
theorem yi4(a b:Int)(M:i64 a)(H:i64 b)(Z:p 5=some (.cells (Lib.pow10Tab.map (Value.int .u64)).toArray tT zT)):Dc prog md p 384 #[.agg #[.J a,.J b]] (sv (txt a++([32,116,111,32]++txt b))):=by
 have O:=xuz M;have V:=xuz H;refine xkq func384 fun K b1=>?_;refine drq [] [0,1,2,3,4,5,6] ?_;refine xzz rfl rfl rfl (xn4 a M Z) ?_;refine ex ?_;refine de_y rfl rfl (xow rfl rfl (by simp;omega) (b:=[32,116,111,32])) ?_;refine ex ?_;refine xzz rfl rfl rfl (xn4 b H Z) ?_;refine xa ?_;refine ro_y rfl (xow rfl rfl (by simp;omega)) ?_;refine K.q ?_;rw[<- List.append_assoc];rfl
theorem ym4{a:Option Addr}(c:Nat)(l:List Int)(I:Ax p a n l)(hn:n<=100)(hl:∀i,i<n->i64 (l.getD i 0))(Z:p 5=some (.cells (Lib.pow10Tab.map (Value.int .u64)).toArray tT zT)):Dc prog md p 378 #[.slice a n c] (sv (Nt l)):=by
 intro h hp;have a2:=I.len;refine xaz hp func378 fun K=>?_;refine cq (fun cc=>?_) (fun cc=>?_)
 ·refine ax ?_;have e:l=[]:=List.eq_nil_of_length_eq_zero om;subst e;exact K.q rfl
 refine lq fun M=>?_;refine ax ?_;refine xhq (fun m_ l' p_ L_=>∃(k:Nat)(X:Pcs),m_=n-k/\l'=[(3,none,w_ M 0),(9,none,.slice a n c),(10,none,.J ((n:Nat):Int)),(11,none,.J ((k:Nat):Int))]/\p_=p/\L_=[X]/\k<=n/\N5 M (Lz l k) X) ⟨0,_,rfl,rfl,rfl,rfl,Nat.zero_le _,⟨none,.slice none 0 0,[],(List.append_nil _).symm,.inl rfl,.empty _ _⟩⟩ sb ?_;rintro _ _ p _ IH ⟨k,X,rfl,rfl,rfl,rfl,hk,B⟩;refine cq (fun cd=>?_) (fun cd=>?_)
 ·have V:k<n:=om;have hlen:=xus (fun i hi=>hl i om) k om;have ht:=xuz (hl k V);refine ax ?_;refine xfz (fun l' p_ L_=>∃(X:Pcs),l'=[(3,none,w_ M 0),(5,none,.J (l.getD k 0)),(9,none,.slice a n c),(10,none,.J ((n:Nat):Int)),(11,none,.J ((k:Nat):Int))]/\p_=p/\L_=[X]/\N5 M (Lz l k++(if k=0 then []else [32])) X) ?_ fun k' H=>?_
  ·rintro _ p _ ⟨X,rfl,rfl,rfl,B⟩;refine cdq (xn4 _ (hl k V) Z) ?_;refine ax ?_;refine xxm X rfl rfl (fun h C s=>yk4 C X M B (by split<;>simp<;>omega) (txt (l.getD k 0)) om s) fun v X' B'=>?_;exact bkq (IH _ _ _ om ⟨k+1,X',rfl,rfl,rfl,rfl,om,by rw[Lz,<- List.append_assoc];exact B'⟩)
  ·refine cq (fun ce=>?_) (fun ce=>?_)
   ·refine ax ?_;refine xxm X rfl rfl (fun h C s=>yl4 C X M B om 32 s) fun v X' B'=>?_;exact bkq (H _ _ _ ⟨X',rfl,rfl,rfl,by rw[if_neg om];exact B'⟩)
   ·exact bkq (H _ _ _ ⟨X,rfl,rfl,rfl,by rw[if_pos om,List.append_nil];exact B⟩)
 obtain rfl:k=l.length:=om;have hlen:=xus (fun i hi=>hl i om) l.length om;rw[yad om]at B hlen;have O:0<(Nt l).length:=by
  cases l with
  |nil=>simp at a2;omega
  |cons x xs=>simp only[Nt,List.length_append];have:=xz2 x;omega
 refine ax ?_;refine xxm X rfl rfl (fun h C s=>yj4 C X M B O om s) ?_;rintro _ X' rfl;exact K.q rfl
end
open Go.X.Flow (ics)
variable{xs:List (TA×Cv)}{ls:List Str}{p':Ab}
def Ol(o:Option (List Int))(v:Value)(p':Ab):Prop:=match o with
 |none=>v=.tuple #[.slice none 0 0,.bool false]
 |some vs=>∃a c,v=.tuple #[.slice a vs.length c,.bool true]/\Ax p' a vs.length vs
theorem cf63(hp:Per p h)(b:Nat)(A:TA)(d:Cv)(w:d.wf)(hb:h[b]?=some (.cells (dkc A d tr).toArray 84 (0,0)))(a3:p b=none)(g:GlP p)
 {a:Option Addr}(c:Nat)(xs:List Str)(S:At p a n xs)(hn:n<=1000)(hs:∀s∈xs,s.length<=900)(hc:∀s∈xs,Ba s=true):
 Ac prog md 63 #[w_ b 0,.slice a n c] h (Dm p h b fun v p' o'=>o'=.cells (dkc A d tr).toArray 84 (0,0)/\Ol (A5 d xs) v p'):=by
 have hl:=S.len;have S1:Sl p a n 1 (scs xs):=S;obtain⟨te,ue,tE,zE,E⟩:=g.es;obtain⟨tr',ur,tR,zR,R⟩:=g.er;obtain⟨tT,zT,Z⟩:=g.pw;refine xoz hp hb a3 func63 fun _ _ _ K=>?_;refine ax ?_;refine xjj 3 1 fun o0=>?_
 refine xhq (fun m_ l p_ L_=>∃(j:Nat)(v:Value)(vs:List Int)(Y:Pcs),m_=n-j/\l=[(0,none,w_ b 0),(6,none,v),(11,none,.slice a n c),(12,none,.J ((n:Nat):Int)),(13,none,.J ((j:Nat):Int))]/\p_=p/\L_=[Y,[(b,.cells (dkc A d tr).toArray 84 (0,0))]]/\j<=n/\Aa 3 1 v (ics vs) Y/\A5 d (xs.take j)=some vs)
  ⟨0,_,[],_,rfl,rfl,rfl,rfl,Nat.zero_le _,o0,rfl⟩ sb ?_
 rintro _ _ p _ IH ⟨j,v,vs,Y,rfl,rfl,rfl,rfl,hj,o,hv⟩;refine cq (fun cd=>?_) (fun cd=>?_)
 ·have a2:j<n:=om;obtain⟨hm,V⟩:=yks (xs:=xs) (j:=j) om;refine ax ?_;refine ro_y rfl (y_lp rfl (At.get S a2)) ?_;generalize a7:xs.getD j []=s at*;refine ckq (yr2 (hs _ hm) E R Z) ?_;rintro _ ⟨k,rfl,hk⟩;refine cdq (cf59 s) ?_;refine ax ?_;refine xfz (fun l' p_ L_=>∃x:Int,l'=[(0,none,w_ b 0),(6,none,v),(9,none,.J x),(11,none,.slice a n c),(12,none,.J ((n:Nat):Int)),(13,none,.J ((j:Nat):Int))]/\p_=p/\L_=[Y,[(b,.cells (dkc A d tr).toArray 84 (0,0))]]/\H6 d s=some x) ?_ fun k' H=>?_
  ·rintro _ p _ ⟨x,rfl,rfl,rfl,hx⟩;refine ax ?_;refine xxx rfl fun v2 Y2 o2=>?_;have o2:Aa 3 1 v2 (ics [x]) Y2:=o2;refine xiv rfl rfl o o2 (by simp[ics,Bj]) (by have:=xyd d hv;simp[ics]at *;omega) fun v3 Y3 o3=>?_;exact bkq (IH _ _ _ om ⟨j+1,v3,vs++[x],Y3,rfl,rfl,rfl,rfl,om,o3.as (by simp[ics]),by rw[V,xtg,hv,hx];rfl⟩)
  refine cq (fun O=>?_) (fun O=>?_)
  ·obtain⟨e1,e2,e3⟩:=ywh O;have e4:(((s.getD (Int.toNat 0) 0).toNat:Nat):Int)-97=((Ee s:Nat):Int):=by show(((s.getD 0 0).toNat:Nat):Int)-97=_;omega
   have e5:((s.getD (Int.toNat 0) 0).toNat:Int)<=122/\(97:Int)<=((s.getD (Int.toNat 0) 0).toNat:Int):=by show((s.getD 0 0).toNat:Int)<=122/\_<=((s.getD 0 0).toNat:Int);omega
   refine drq [] R7 ?_;refine de_y rfl rfl (xej rfl rfl trivial trivial ⟨d_,om⟩) ?_;refine ex ?_;refine de_y rfl rfl (y_pv rfl ⟨wr8 om,trivial⟩) ?_;rw[e4];refine xa ?_;refine xw5 (i:=Ee s) underlying79 rfl rfl e2 ?_;refine ax ?_;refine ro_y rfl (y_ld rfl trivial (by
    have z:=ya1 (A:=A) (tr:=tr) w e2;rwa[show 11+Ee s=0+11+0+Ee s*1 by omega]at z) (u:=.J (d.Du.getD (Ee s) 0))) ?_
   refine drq [] R7 ?_;refine de_y rfl rfl (xej rfl rfl trivial trivial ⟨d_,om⟩) ?_;refine ex ?_;refine de_y rfl rfl (y_pv rfl ⟨wr8 om,trivial⟩) ?_;rw[e4];refine xa ?_;refine xw5 (i:=Ee s) underlying79 rfl rfl e2 ?_;refine ax ?_;refine ro_y rfl (y_ld rfl trivial (by
    have z:=yz0 (A:=A) (tr:=tr) w e2;rwa[show 37+Ee s=0+11+26+Ee s*1 by omega]at z) (u:=.J (d.kept.getD (Ee s) 0))) ?_
   refine cq (fun cf=>?_) (fun cf=>?_)
   ·have e0:A5 d xs=none:=by
     rw[<- List.take_append_drop (j+1) xs];refine xip d ?_ _;rw[V,xtg,hv,xpl O,if_pos cf];rfl
    refine ax ?_;exact xsq func63 rfl rfl fun _ H_=>K _ _ (xqj H_ (.refl _ _ _) ⟨rfl,by unfold Ol;rw[e0];rfl⟩)
   ·exact bkq (H _ _ _ ⟨_,rfl,rfl,rfl,by rw[xpl O,if_neg cf]⟩)
  ·refine ax ?_;have M:=hc s hm;have a4:H6 d s=some k:=by
    rw[xvw O];unfold Ba at M;cases hn:Cu s with
    |none=>rw[hn]at M;simp at M;exact absurd M O
    |some q=>rw[hk q hn];rfl
   exact bkq (H _ _ _ ⟨k,rfl,rfl,rfl,a4⟩)
 obtain rfl:j=n:=om;rw[List.take_of_length_le om]at hv;have a5:=xyd d hv;obtain⟨a1,c1,rfl,-⟩:=o.val;refine ax ?_;refine xiq o rfl d_ fun p1 _ _ g1 e1 a6 S1=>?_;cases e1;have e0:(ics vs).length=vs.length:=xrq vs;exact xsq func63 rfl rfl fun _ H_=>K _ _ (xqj H_ g1 ⟨rfl,by
  unfold Ol;rw[hv];exact⟨a1,c1,by rw[e0];rfl,e0 ▸ S1⟩⟩)
theorem yz7{a:Option Addr}(c:Nat)(xs:List (TA×Cv))(S:Sl p a n 64 (Lo xs))(hc:n<=c)(hn:n<=2^10)(A:TA)(d:Cv)(w:d.wf):Nc prog md p 163 #[.slice a n c,.agg (dkc A d (.slice none 0 0)).toArray] (fun v Y=>Aa 84 64 v (Lo (xs++[(A,d)])) Y):=by
 have hl:=S.len;have M:Lo (xs++[(A,d)])=Lo xs++[dkc A d (.slice none 0 0)]:=by simp[Lo]
 have H:(dkc A d (.slice none 0 0)).length=64:=xcd w;generalize dkc A d (.slice none 0 0)=cs at M H⊢;refine xkq func163 fun K b1=>?_;refine drq [7] R8 ?_;refine de_y rfl rfl (yzq rfl rfl rfl hc) ?_;refine ex ?_;refine de_y rfl rfl (ycx rfl trivial (by simp[Value.cells,H])) ?_;refine ex ?_;refine yk1 (cs:=cs) rfl rfl (by simp[Value.cells,List.take_of_length_le (Nat.le_of_eq H)]) H fun v2 Y2 V=>?_;refine xa ?_;refine xz0 rfl rfl S V (Nat.succ_pos _) (by simp;omega) fun v3 O o3=>?_;refine ax ?_;exact K.r rfl rfl fun _ H_=>⟨O,o3.as M.symm,Eu H_⟩
theorem yoj{H:Ab}{a a1:Option Addr}{c M:Nat}{A:TA}{d:Cv}(P:Kg p a c xs)(O:PLe p H)(s:SnP p A d)(hc:(xs++[(A,d)]).length<=M)(S:Sl H a1 (xs++[(A,d)]).length 64 (Lo (xs++[(A,d)]))):Kg H a1 M (xs++[(A,d)]):=
 ⟨hc,S,fun x V=>(List.mem_append.1 V).elim (fun h=>(P.e x h).mono O) fun h=>by rw[List.mem_singleton.1 h];exact s.mono O⟩
theorem ynj{a:Option Addr}{c:Nat}(P:Kg p a c xs)(h:0<xs.length):Kg p a c (xs.take (xs.length-1)):=by
 have e:(xs.take (xs.length-1)).length=xs.length-1:=by rw[List.length_take];omega
 refine⟨by have:=P.c;omega,?_,fun x H=>P.e x (List.mem_of_mem_take H)⟩;have z:=Sl.cut (lo:=0) (hi:=xs.length-1) (a':=a) P.s (Nat.zero_le _) om fun _=>by rw[Nat.zero_mul];exact(P.s.ne h).trans rfl
 rw[e];simpa[Lo,List.map_take]using z
theorem cf66(hp:Per p h)(b:Nat)(D:Dsk){ob:Obj}(hD:DkP p D ob 84)(hb:h[b]?=some ob)(a9:p b=none)(w:Str)(hn:D.Bz.length<=1000):
 Ac prog md 66 #[w_ b 0,sv w] h (Dm p h b fun v p' o'=>v=.bool (tryD D w).2/\DkP p' (tryD D w).1 o' 84):=by
 obtain⟨A,a,c,xs,rfl,N,P,hx⟩:=hD;have a6:xs.length=D.Bz.length:=by rw[<- hx,List.length_map]
 have V:=N.w;have Pc:=P.c;have Ps:=P.s;refine xoz hp hb a9 func66 fun _ _ _ K=>?_;refine cq (fun cc=>?_) (fun cc=>?_)
 ·have e0:tryD D w=({D with Bz:=D.Bz++[D.now]},true):=by unfold tryD;rw[if_pos (show w=Ap from cc)]
  refine drq [14] R15 ?_;refine de_y rfl rfl (y_ld rfl trivial (xh2 V)) ?_;refine ex ?_;refine de_y rfl rfl (ycx rfl trivial (by
   show(((dkc A D.now (.slice a xs.length c)).drop 11).take 52).length=52;rw[xh4 V,List.length_append,xkz,xkz,V.1,V.2])) ?_
  rw[show(((dkc A D.now (.slice a xs.length c)).toArray.toList.drop (0+11)).take 52)=iv D.now.Du++iv D.now.kept from xh4 V];refine de_y rfl rfl (ysl rfl (ybp V) (cells:=dkc A D.now (.slice none 0 0))) ?_;refine xuk rfl rfl rfl (yz7 c xs Ps Pc om A D.now V) fun v1 Y1 o1=>?_;obtain⟨a1,c1,rfl,-⟩:=o1.val;rw[xl5]at o1⊢;refine xa ?_;refine xdf rfl rfl ?_ rfl rfl (by rw[xcd V];exact Nat.le_refl _);refine ax ?_;refine xiq o1 (m:=(xs++[(A,D.now)]).length) (xl5 _) d_ fun p1 _ _ g1 e1 b0 S1=>?_;cases e1;exact xsq func66 rfl rfl fun _ H_=>K _ _ (xqj H_ g1 (by
   rw[e0];exact⟨rfl,A,a1,c1,xs++[(A,D.now)],congrArg (fun l=>Obj.cells (List.toArray l) _ (0,0)) (yhw V),N.mono g1.le,yoj P g1.le N b0 S1,by simp[hx]⟩))
 refine ax ?_;refine ro_y rfl (y_ld rfl trivial (xh2 V)) ?_;refine cq (fun cd=>?_) (fun cd=>?_)
 ·have e0:tryD D w=(D,false):=by
   have:D.Bz=[]:=List.eq_nil_of_length_eq_zero om;unfold tryD;rw[if_neg (show ¬ w=Ap from cc),this];rfl
  refine ax ?_;exact xsq func66 rfl rfl fun _ H_=>K _ _ (xqj H_ (.refl _ _ _) (by rw[e0];exact⟨rfl,A,a,c,xs,rfl,N,P,hx⟩))
 have a4:0<xs.length:=om;have e1:((xs.length:Nat):Int)-1=((xs.length-1:Nat):Int):=om;have O:xs.length-1<xs.length:=om;obtain⟨M,a3⟩:∃x,x=xs[xs.length-1]'O:=⟨_,rfl⟩
 have a8:M∈xs:=by rw[a3];exact List.getElem_mem _
 have a7:D.Bz.getLast?=some M.2:=by
  rw[<- hx,List.getLast?_eq_getElem?,List.getElem?_map,List.length_map,List.getElem?_eq_getElem O,a3];rfl
 have a5:(Lo xs)[xs.length-1]?=some (dkc M.1 M.2 (.slice none 0 0)):=by rw[a3];exact yfm O
 have N1:=P.e M a8;rw[e1];refine ax ?_;refine xfz (fun l' p_ L_=>∃(A2:TA)(d2:Cv),l'=[(0,none,w_ b 0),(5,none,.J ((xs.length-1:Nat):Int))]/\p_=p/\L_=[[(b,.cells (dkc A2 d2 (.slice a xs.length c)).toArray 84 (0,0))]]/\SnP p A2 d2/\d2=if w=Cc then M.2 else D.now) ?_ fun k' H=>?_
 ·rintro _ p _ ⟨A2,d2,rfl,rfl,rfl,N2,b3⟩;refine ax ?_;refine ro_y rfl (y_ld rfl trivial (xh2 N2.w)) ?_;refine ax ?_;refine xef rfl rfl (j:=xs.length-1) om ?_;refine ax ?_;refine xdf rfl rfl ?_ rfl rfl (by rw[xcd N2.w];exact Nat.le_refl _);refine ax ?_;have e0:tryD D w=(⟨d2,D.Bz.take (D.Bz.length-1)⟩,true):=by
   unfold tryD;rw[if_neg (show ¬ w=Ap from cc),a7,b3];simp only;by_cases hw:w=Cc
   ·rw[if_pos hw,if_pos hw]
   ·rw[if_neg hw,if_neg hw]
  have P2:=ynj P a4;have e2:(xs.take (xs.length-1)).length=xs.length-1:=by rw[List.length_take];omega
  exact xsq func66 rfl rfl fun _ H_=>K _ _ (xqj H_ (.refl _ _ _) (by
   rw[e0];refine⟨rfl,A2,a,c,xs.take (xs.length-1),?_,N2,P2,by rw[List.map_take,hx,a6]⟩;rw[e2];exact congrArg (fun l=>Obj.cells (List.toArray l) _ (0,0)) (yhw N2.w)))
 refine cq (fun ce=>?_) (fun ce=>?_)
 ·refine ax ?_;have b4:(dkc M.1 M.2 (.slice none 0 0)).length=64:=xcd N1.w;refine xuv [20] R21 b ?_;refine ex ?_;refine ygl rfl rfl rfl trivial ?_ (xh2 V);refine ex ?_;refine de_y rfl rfl (xud rfl trivial (fun j v hv=>?_) (vs:=tcs M.1 M.2.t)) ?_
  ·have z:=Ps.get _ _ a5 j v (by rw[dkc,List.getElem?_append_left (List.getElem?_eq_some_iff.1 hv).1];exact hv);exact z
  refine ex ?_;refine ygl rfl rfl rfl trivial ?_ (xh2 V);refine ex ?_;refine de_y rfl rfl (xud rfl trivial (fun j v hv=>?_) (by rw[List.length_append,xkz,xkz,N1.w.1,N1.w.2]) (vs:=iv M.2.Du++iv M.2.kept)) ?_
  ·rw[<- xh4 (A:=M.1) (tr:=.slice none 0 0) N1.w]at hv;have z:=Ps.get _ _ a5 (11+j) v (by
    rw[List.getElem?_take]at hv;split at hv
    ·rwa[List.getElem?_drop]at hv
    ·cases hv)
   rw[<- xq4]at z;exact z
  refine xa ?_;refine xos (LL':=[[(b,.cells (dkc M.1 {D.now with t:=M.2.t} (.slice a xs.length c)).toArray 84 (0,0))]]) ?_ (fun _ s=>by
   have e:Ce (dkc A D.now (.slice a xs.length c)) 0 (tcs M.1 M.2.t)=dkc M.1 {D.now with t:=M.2.t} (.slice a xs.length c):=xg4;rw[<- e];exact s)
  have w2:({D.now with t:=M.2.t}:Cv).wf:=V;have a2:(iv M.2.Du++iv M.2.kept).length=52:=by rw[List.length_append,xkz,xkz,N1.w.1,N1.w.2]
  refine xdf rfl rfl ?_ (by simp[Value.cells,a2]) (by
   simp only[Value.cells,List.all_eq_true,iv,List.mem_append,List.mem_map];rintro u (⟨_,_,rfl⟩|⟨_,_,rfl⟩)<;>rfl) (by rw[xcd w2];simp[Value.cells,a2])
  refine ax ?_;refine xhk (LL':=[[(b,.cells (dkc M.1 M.2 (.slice a xs.length c)).toArray 84 (0,0))]]) ?_ (fun _ s=>by
   have e:Ce (dkc M.1 {D.now with t:=M.2.t} (.slice a xs.length c)) 11 (iv M.2.Du++iv M.2.kept)=dkc M.1 M.2 (.slice a xs.length c):=ygw w2 N1.w;rw[<- e];exact s)
  exact bkq (H _ _ _ ⟨M.1,M.2,rfl,rfl,rfl,N1,(if_pos ce).symm⟩)
 ·exact bkq (H _ _ _ ⟨A,D.now,rfl,rfl,rfl,N,(if_neg ce).symm⟩)
theorem cf64(hp:Per p h)(b:Nat)(D:Dsk){ob:Obj}(hD:DkP p D ob 84)(hb:h[b]?=some ob)(a3:p b=none)(g:GlP p)(q:Qn)(fv:Value)(x:N9 q fv p){a:Option Addr}(c:Nat)(vs:List Int)(V:Ax p a n vs)(hv:n=q.ar)(M:Str)(hl:M=[]\/isLet M=true)
 (hR:(B2 q D.now.t vs).2=0->(B2 q D.now.t vs).1.ok):
 Ac prog (.main true) 64 #[w_ b 0,fv,.slice a n c,sv M] h (Dm p h b fun v p' o'=>v=sv (C5 D q vs M).2/\DkP p' (C5 D q vs M).1 o' 84):=by
 obtain⟨A,O,ct,xs,rfl,N,P,hx⟩:=hD;have w0:=N.w;refine xoz hp hb a3 func64 fun _ _ _ K=>?_;refine ax ?_;refine xx5 rfl rfl (fun h pe=>xvr q fv h _ pe x A D.now.t N.T (xdz N.ok) g a n c vs V hv) ?_;rintro _ p1 g1 ⟨r,rfl,hr⟩;have N:=N.mono g1.le;have P:=P.mono g1.le;have g:=g.mono g1.le;obtain⟨tT,zT,Z⟩:=g.pw;refine cq (fun cc=>?_) (fun cc=>?_)
 ·have e0:C5 D q vs M=(D,Hq):=by unfold C5;rw[if_pos cc]
  refine ax ?_;exact xsq func64 rfl rfl fun h_ H_=>K _ _ (xqj H_ g1 (by rw[e0];exact⟨rfl,A,O,ct,xs,rfl,N,P,hx⟩))
 refine cq (fun cd=>?_) (fun cd=>?_)
 ·have e0:C5 D q vs M=(D,Er):=by unfold C5;rw[if_neg cc,if_pos cd]
  refine ax ?_;exact xsq func64 rfl rfl fun h_ H_=>K _ _ (xqj H_ g1 (by rw[e0];exact⟨rfl,A,O,ct,xs,rfl,N,P,hx⟩))
 have cd:=Classical.not_not.1 cd;have e0:C5 D q vs M=(if M≠[]then Hi D M (B2 q D.now.t vs).1 else D,(B2 q D.now.t vs).1.text):=by unfold C5;rw[if_neg cc,if_neg (by rw[cd];simp)]
 rw[e0]at K;have hR:=hR cd;clear cc cd e0 hv V x;generalize (B2 q D.now.t vs).1=R at*;refine ax ?_;refine xfz (fun l' p_ L_=>∃d2:Cv,l'=[(9,none,r)]/\p_=p1/\L_=[[(b,.cells (dkc A d2 (.slice O xs.length ct)).toArray 84 (0,0))]]/\SnP p1 A d2/\({D with now:=d2}:Dsk)=if M≠[]then Hi D M R else D) ?_ fun k' H=>?_
 ·rintro _ p1 _ ⟨d2,rfl,rfl,rfl,N2,a4⟩;refine ax ?_;have fin:∀{h_:Heap},St h [b] p1 h_ (List.flatten [[(b,.cells (dkc A d2 (.slice O xs.length ct)).toArray 84 (0,0))]])->Dm p h b (fun v p' o'=>v=sv R.text/\DkP p' (if M≠[]then Hi D M R else D) o' 84) (sv R.text) h_:=fun H_=>xqj H_ g1 (by rw[<- a4];exact⟨rfl,A,O,ct,xs,rfl,N2,P,hx⟩);cases R with
  |num n=>
    cases hr;refine ymz rfl rfl (g:=377) k_ (yn4 n hR Z) ?_;refine ax ?_;exact xsq func64 rfl rfl fun h_ H_=>K _ _ (fin H_)
  |spn u v=>
    cases hr;refine ymz rfl rfl (g:=384) k_ (yi4 u v hR.1 hR.2 Z) ?_;refine ax ?_;exact xsq func64 rfl rfl fun h_ H_=>K _ _ (fin H_)
  |lst l=>
    obtain⟨a2,c2,rfl,I⟩:=hr;refine ymz rfl rfl (g:=378) k_ (ym4 c2 l I hR.1 hR.2 Z) ?_;refine ax ?_;exact xsq func64 rfl rfl fun h_ H_=>K _ _ (fin H_)
 refine cq (fun ce=>?_) (fun ce=>?_)
 ·refine ax ?_;cases R with
  |num n=>
    cases hr;refine yom rfl underlying181 (z:=.J 0) k_ (if_pos rfl) ?_;refine ax ?_;refine xcx rfl (fun _=>?_) (fun cf=>absurd trivial cf);refine ax ?_;have il:=hl.resolve_left ce;obtain⟨e1,e2,e3⟩:=ywh il;have e4:(((M.getD (Int.toNat 0) 0).toNat:Nat):Int)-97=((Ee M:Nat):Int):=by show(((M.getD 0 0).toNat:Nat):Int)-97=_;omega
    have e5:((M.getD (Int.toNat 0) 0).toNat:Int)<=122/\(97:Int)<=((M.getD (Int.toNat 0) 0).toNat:Int):=by show((M.getD 0 0).toNat:Int)<=122/\_<=((M.getD 0 0).toNat:Int);omega
    refine xuv [13] [0,1,2,3,4,5,6,7,8,9,10,11,12,14,15,16,13] b ?_;refine ex ?_;refine de_y rfl rfl (xej rfl rfl trivial trivial ⟨d_,om⟩) ?_;refine ex ?_;refine de_y rfl rfl (y_pv rfl ⟨wr8 om,trivial⟩) ?_;rw[e4];refine ex ?_;refine de_y rfl rfl (xej rfl rfl trivial trivial ⟨d_,om⟩) ?_;refine ex ?_;refine de_y rfl rfl (y_pv rfl ⟨wr8 om,trivial⟩) ?_;rw[e4];refine ex ?_;refine yh1 (j:=Ee M) underlying79 rfl rfl rfl e2 ?_;refine ex ?_;refine xbd rfl rfl rfl ?_ (hlen:=by rw[xcd w0];show 0+11+0+Ee M*1+1<=64;omega);refine xa ?_;have w1:({D.now with Du:=D.now.Du.set (Ee M) n}:Cv).wf:=⟨by rw[List.length_set];exact w0.1,w0.2⟩
    refine xos (LL':=[[(b,.cells (dkc A {D.now with Du:=D.now.Du.set (Ee M) n} (.slice O xs.length ct)).toArray 84 (0,0))]]) ?_ (fun _ s=>by
     have e:Ce (dkc A D.now (.slice O xs.length ct)) (0+11+0+Ee M*1) [.J n]=dkc A {D.now with Du:=D.now.Du.set (Ee M) n} (.slice O xs.length ct):=by
      rw[show 0+11+0+Ee M*1=11+Ee M by omega];exact yzp w0 e2
     rw[<- e];exact s)
    refine xw5 (i:=Ee M) underlying79 rfl rfl e2 ?_;refine xdf rfl rfl ?_ rfl rfl (by rw[xcd w1];show 0+11+26+Ee M*1+1<=64;omega);refine ax ?_;refine xhk (LL':=[[(b,.cells (dkc A {D.now with Du:=D.now.Du.set (Ee M) n,kept:=D.now.kept.set (Ee M) 1} (.slice O xs.length ct)).toArray 84 (0,0))]]) ?_ (fun _ s=>by
     have e:Ce (dkc A {D.now with Du:=D.now.Du.set (Ee M) n} (.slice O xs.length ct)) (0+11+26+Ee M*1) [.J 1]=dkc A {D.now with Du:=D.now.Du.set (Ee M) n,kept:=D.now.kept.set (Ee M) 1} (.slice O xs.length ct):=by
      rw[show 0+11+26+Ee M*1=37+Ee M by omega];exact yyp w1 e2
     rw[<- e];exact s)
    exact bkq (H _ _ _ ⟨{D.now with Du:=D.now.Du.set (Ee M) n,kept:=D.now.kept.set (Ee M) 1},rfl,rfl,rfl,⟨N.T,N.ok,⟨w1.1,by show(D.now.kept.set _ _).length=26;rw[List.length_set];exact w0.2⟩⟩,by rw[if_pos ce];rfl⟩)
  |spn u v=>
    cases hr;refine yom rfl underlying181 (z:=.J 0) k_ (if_neg d_) ?_;refine ax ?_;refine xcx rfl (fun cf=>absurd cf id) (fun _=>?_);exact bkq (H _ _ _ ⟨D.now,rfl,rfl,rfl,N,by rw[if_pos ce];rfl⟩)
  |lst l=>
    obtain⟨a2,c2,rfl,I⟩:=hr;refine yom rfl underlying181 (z:=.J 0) k_ (if_neg d_) ?_;refine ax ?_;refine xcx rfl (fun cf=>absurd cf id) (fun _=>?_);exact bkq (H _ _ _ ⟨D.now,rfl,rfl,rfl,N,by rw[if_pos ce];rfl⟩)
 ·exact bkq (H _ _ _ ⟨D.now,rfl,rfl,rfl,N,by rw[if_neg ce]⟩)
theorem cf36(hp:Per p h)(b:Nat){D:Dsk}(ob:Obj)(hD:DkP p D ob 84)(hb:h[b]?=some ob)(a7:p b=none)(g:GlP p)(M:Str)(hl:M.length<=900)(hn:D.Bz.length<=900)
 (hR:∀q t vs,Cj t=0->(B2 q t vs).2=0->(B2 q t vs).1.ok):
 Ac prog (.main true) 36 #[w_ b 0,sv M] h (Dm p h b fun v p' o'=>v=sv (doD D M).2/\DkP p' (doD D M).1 o' 84):=by
 refine xoz hp hb a7 func36 fun _ _ _ K=>?_;refine cpq (cf58 M hl) ?_;rintro _ p1 g1 ⟨a,c,rfl,hc,S⟩;have hD:=hD;obtain⟨A,a6,ct,xs,rfl,N,P,hx⟩:=hD;have N:=N.mono g1.le;have P:=P.mono g1.le;have g:=g.mono g1.le;have w0:=N.w;have a9:0<(Ad M).length:=List.length_pos_iff.2 (xaj M);have b4:∀s∈Ad M,s.length<=900:=fun s hs=>Nat.le_trans (xpk hs) hl;have d6:(Ad M).length<=901:=by rw[xxk];have:=List.count_le_length (a:=(32:UInt8)) (l:=M);omega
 have S1:Sl p1 a (Ad M).length 1 (scs (Ad M)):=S;have b9:doD D M=if(Ad M).headD []=D7 then(if(Ad M).length<3\/isLet ((Ad M).getD 1 [])=false then(D,Dh)else C0 D ((Ad M).getD 1 []) ((Ad M).drop 2))else C0 D [] (Ad M):=rfl
 generalize Ad M=ps at*;have h0:ps.headD []=ps.getD 0 []:=by cases ps<;>rfl
 rw[h0]at b9;rw[b9]at K;clear b9 h0;refine ax ?_;refine ro_y rfl (y_lp rfl (At.get S a9)) ?_;refine ax ?_
 refine xfz (fun l' p_ L_=>∃(a2:Option Addr)(c2:Nat)(qs:List Str)(a5:Str),l'=[(0,none,w_ b 0),(5,none,.slice a2 qs.length c2),(6,none,sv a5)]/\p_=p1/\L_=[[(b,.cells (dkc A D.now (.slice a6 xs.length ct)).toArray 84 (0,0))]]/\At p1 a2 qs.length qs/\0<qs.length/\qs.length<=c2/\qs.length<=901/\(∀s∈qs,s.length<=900)/\(a5=[]\/isLet a5=true)/\
  (if ps.getD 0 []=D7 then(if ps.length<3\/isLet (ps.getD 1 [])=false then(D,Dh)else C0 D (ps.getD 1 []) (ps.drop 2))else C0 D [] ps)=C0 D a5 qs) ?_ fun k' H=>?_
 ·rintro _ p1 _ ⟨a2,c2,qs,a5,rfl,rfl,rfl,S2,b6,c9,d8,b5,e1,eL⟩;rw[eL]at K;have S3:Sl p1 a2 qs.length 1 (scs qs):=S2;obtain⟨tT,zT,Z⟩:=g.pw;obtain⟨te,ue,tE,zE,E⟩:=g.es;obtain⟨tr',ur,tR,zR,R⟩:=g.er;have h0:qs.headD []=qs.getD 0 []:=by cases qs<;>rfl
  have c6:(qs.getD 0 []).length<=900:=by
   cases qs with
   |nil=>exact absurd b6 s_
   |cons x t=>exact b5 x s_
  have b0:=xmk S2 1 om c9;refine drq [] R6 ?_;refine de_y rfl rfl (y_lp rfl (At.get S2 (i:=0) om)) ?_;refine ex ?_;refine de_y rfl rfl (xhl rfl rfl ⟨om,om⟩ (j:=1)) ?_;refine xa ?_;have eT:qs.drop 1=qs.tail:=List.drop_one;rw[eT]at b0;have d0:(qs.tail).length=qs.length-1:=List.length_tail;rw[<- d0]at b0⊢;have c8:C0 D a5 qs=C0 D a5 (qs.getD 0 []::qs.tail):=by rw[<- h0];cases qs with|nil=>exact absurd b6 s_|cons x t=>rfl
  rw[c8]at K;have c7:∀s∈qs.tail,s.length<=900:=fun s hs=>b5 s (List.mem_of_mem_tail hs);have d5:qs.tail.length<=900:=om;generalize qs.getD 0 []=O at*;generalize qs.tail=args at*;generalize Cf a2 c2 1 1=a3 at*;generalize c2-1=c3 at*;clear S3 S2 c8 h0 eT d0 eL b6 c9 d8 b5;refine cpq (cf60 O c6 args.length d5 Z) ?_;intro fv p2 g2 a8;refine cdq (cf61 O c6 args.length d5 (g2.le _ _ Z)) ?_;refine ax ?_;have d7:(decide (((args.length:Nat):Int)=0)&&(decide (O=[98,101,103,105,110])||decide (O=[101,110,100])||decide (O=[100,114,111,112])))=C2 O args.length:=by
   unfold C2;congr 1;rw[Bool.eq_iff_iff];simp
  refine xdk (l':=[(0,none,w_ b 0),(6,none,sv a5),(7,none,sv O),(8,none,.slice a3 args.length c3),(9,none,fv),(10,none,Oq (od (O++txt args.length))),(11,none,.bool (C2 O args.length)),(64,none,.slice a3 args.length c3)]) ?_ ⟨rfl,rfl,rfl,rfl,rfl,rfl,by rw[<- d7];rfl,rfl,trivial⟩;have hF:(fv=.nilFunc\/ ∃f a b,fv=.func f a b)/\Ha fv=(qn (O++txt args.length)).isNone:=by
   cases e:qn (O++txt args.length)with
   |none=>rw[e]at a8;exact⟨.inl a8,by rw[a8];rfl⟩
   |some q=>rw[e]at a8;obtain⟨b',T,z,rfl,_⟩:=a8;exact⟨.inr ⟨_,_,_,rfl⟩,rfl⟩
  have hO:(Oq (od (O++txt args.length))=.nilFunc\/ ∃f a b,Oq (od (O++txt args.length))=.func f a b)/\Ha (Oq (od (O++txt args.length)))=(od (O++txt args.length)).isNone:=by
   cases od (O++txt args.length)with
   |none=>exact⟨.inl rfl,rfl⟩
   |some o=>cases o<;>exact⟨.inr ⟨_,_,_,rfl⟩,rfl⟩
  refine xpx rfl rfl (cf62 c3 args (At.mono g2.le b0) om c7 (g2.le _ _ E) (g2.le _ _ R) (g2.le _ _ Z)) ?_;refine ax ?_;refine ro_y rfl (yhs rfl sdu hF.1 underlying119) ?_;refine ax ?_;refine ro_y rfl (yhs rfl sdu hO.1 underlying122) ?_;refine ax ?_;rw[hF.2,hO.2];refine cq (fun cd=>?_) (fun cd=>?_)
  ·have e0:C0 D a5 (O::args)=(D,Dh):=by
    rw[xvk,if_pos (by simpa using cd)]
   rw[e0]at K;refine ax ?_;exact xsq func36 rfl rfl fun _ H_=>K _ _ (xqj H_ (g1.trans g2) ⟨rfl,A,a6,ct,xs,rfl,N.mono g2.le,P.mono g2.le,hx⟩)
  have d9:∀s∈args,Ba s=true:=by
   have:args.all Ba=true:=by
    cases e:args.all Ba with
    |true=>rfl
    |false=>exact absurd (.inl (by rw[e];simp)) cd
   simpa using this
  rw[xvk,if_neg (by simpa using cd)]at K;have N:=N.mono g2.le;have P:=P.mono g2.le;have g:=g.mono g2.le;refine ax ?_;refine xx0 rfl rfl (fun h pe hb a7=>cf63 pe b A D.now w0 hb a7 g c3 args (At.mono g2.le b0) om c7 d9) fun v p3 o3 g3 q3=>?_;obtain⟨rfl,q3⟩:=q3;have N:=N.mono g3.le;have P:=P.mono g3.le;have g:=g.mono g3.le;have gg:=(g1.trans g2).trans g3;cases b8:A5 D.now args with
  |none=>
    rw[b8]at K q3;obtain rfl:v=.tuple #[.slice none 0 0,.bool false]:=q3;refine ax ?_;refine xcx rfl (fun _=>?_) (fun ce=>absurd s_ ce);refine ax ?_;exact xsq func36 rfl rfl fun _ H_=>K _ _ (xqj H_ gg ⟨rfl,A,a6,ct,xs,rfl,N,P,hx⟩)
  |some vs=>
    rw[b8]at K q3;obtain⟨a4,c4,rfl,V⟩:=q3;have c5:=xyd D.now b8;refine ax ?_;refine xcx rfl (fun ce=>absurd ce s_) (fun _=>?_);refine ax ?_;refine ro_y rfl (yg3 rfl sdu hF.1 underlying119) ?_;refine ax ?_;rw[hF.2];cases hq:qn (O++txt args.length)with
    |some q=>
      rw[hq]at K a8;refine xcx rfl (fun _=>?_) (fun ce=>absurd s_ ce);refine ax ?_;refine xx0 rfl rfl (fun h pe hb a7=>cf64 pe b D ⟨A,a6,ct,xs,rfl,N,P,hx⟩ hb a7 g q fv (N9.mono a8 g3.le) c4 vs V (by rw[c5];exact ygn hq) a5 e1 (hR q D.now.t vs N.ok)) fun v p4 o4 g4 q4=>?_;obtain⟨rfl,q4⟩:=q4;refine ax ?_;exact xsq func36 rfl rfl fun _ H_=>K _ _ (xqj H_ (gg.trans g4) ⟨rfl,q4⟩)
    |none=>
      rw[hq]at K a8;refine xcx rfl (fun ce=>absurd ce s_) (fun _=>?_);refine cq (fun ce=>?_) (fun ce=>?_)
      ·simp only[if_pos ce]at K;refine ax ?_;refine xx0 rfl rfl (fun h pe hb a7=>cf66 pe b D ⟨A,a6,ct,xs,rfl,N,P,hx⟩ hb a7 O om) fun v p4 o4 g4 q4=>?_;obtain⟨rfl,q4⟩:=q4;refine cdq (cf65 _) ?_;refine ax ?_;exact xsq func36 rfl rfl fun _ H_=>K _ _ (xqj H_ (gg.trans g4) ⟨rfl,q4⟩)
      simp only[if_neg ce]at K;cases ho:od (O++txt args.length)with
      |none=>exact absurd (.inr ⟨by rw[hq];rfl,.inr ⟨by rw[ho];rfl,ce⟩⟩) cd
      |some o=>
        rw[ho]at K;simp only at K;refine lq fun b7=>?_;refine ax ?_;refine xos (LL':=[[(b7,.cells (tcs A D.now.t).toArray 33 (0,0))],[(b,.cells (dkc A D.now (.slice a6 xs.length ct)).toArray 84 (0,0))]]) ?_ (fun _ s=>s);refine yzs (b:=b7) (Q:=Dl o D.now.t vs) rfl rfl (fun h pe hb a7=>yzt o pe b7 A D.now.t hb a7 N.T ⟨⟨by have:=(xdz N.ok).1.1;omega,by have:=(xdz N.ok).1.2;omega⟩,⟨by have:=(xdz N.ok).2.1.1;omega,by have:=(xdz N.ok).2.1.2.1;omega,by have:=(xdz N.ok).2.1.2.2;omega⟩,by have:=(xdz N.ok).2.2;omega⟩ c4 vs V (by rw[c5];exact yd0 ho)) fun v p4 o4 g4 q4=>?_;have N:=N.mono g4.le;have P:=P.mono g4.le;have gg:=gg.trans g4;unfold Dl at q4;cases ht:Ct o D.now.t vs with
        |none=>
          rw[ht]at K q4;simp only at K;obtain rfl:v=.bool false:=q4;refine ax ?_;refine xff (.bool false) rfl ?_;refine xff (.J 0) rfl ?_;refine xff (.bool false) rfl ?_;refine ax ?_;refine xcx rfl (fun _=>?_) (fun cf=>absurd s_ cf);refine cdq (cf65 false) ?_;refine ax ?_;exact xsq func36 rfl rfl fun _ H_=>K _ _ (xqj H_ gg ⟨rfl,A,a6,ct,xs,rfl,N,P,hx⟩)
        |some t'=>
          rw[ht]at K q4;simp only at K;obtain⟨rfl,A',rfl,T'⟩:=q4;have hf:=yox ht (xdz N.ok);refine ax ?_;refine xqz rfl rfl rfl sdu (fun _=>cf35 A' t' T' ⟨⟨by have:=hf.1.1;omega,by have:=hf.1.2;omega⟩,⟨by have:=hf.2.1.1;omega,by have:=hf.2.1.2.1;omega,by have:=hf.2.1.2.2;omega⟩,by have:=hf.2.2;omega⟩) ?_;refine cq (fun cf=>?_) (fun cf=>?_)
          ·have b3:¬ Cj t'=0:=by simpa using cf
           simp only[if_neg b3]at K;refine cdq (cf65 false) ?_;refine ax ?_;exact xsq func36 rfl rfl fun _ H_=>K _ _ (xqj H_ gg ⟨rfl,A,a6,ct,xs,rfl,N,P,hx⟩)
          ·have b3:Cj t'=0:=by simpa using cf
           simp only[if_pos b3]at K;refine cdq (cf65 true) ?_;refine ax ?_;exact xsq func36 rfl rfl fun _ H_=>K _ _ (xqj H_ gg ⟨rfl,A',a6,ct,xs,congrArg (fun l=>Obj.cells (List.toArray l) _ (0,0)) xg4,⟨T',b3,N.w⟩,P,hx⟩)
 refine cq (fun cc=>?_) (fun cc=>?_)
 ·refine ax ?_;refine ro_y rfl (xfv rfl rfl sdu sdu (fun hc=>⟨⟨d_,by simp at hc;omega⟩,Sl.ne S1 a9⟩)) ?_;refine ro_y rfl (xdj rfl sdu (fun hc=>At.get S (by simp at hc;omega)) (u:=sv (ps.getD 1 []))) ?_;refine cgq (fun _=>cf59 (ps.getD 1 [])) ?_;refine cq (fun cd=>?_) (fun cd=>?_)
  ·have e0:(if ps.getD 0 []=D7 then(if ps.length<3\/isLet (ps.getD 1 [])=false then(D,Dh)else C0 D (ps.getD 1 []) (ps.drop 2))else C0 D [] ps)=(D,Dh):=by
    rw[if_pos (show ps.getD 0 []=D7 from cc),if_pos (by simp at cd;rcases cd with z|z;exact .inl om;exact .inr (by simpa using z))]
   rw[e0]at K;refine ax ?_;exact xsq func36 rfl rfl fun _ H_=>K _ _ (xqj H_ g1 ⟨rfl,A,a6,ct,xs,rfl,N,P,hx⟩)
  have c1:3<=ps.length/\isLet (ps.getD 1 [])=true:=by
   simp at cd;exact⟨om,by simpa using cd.2⟩
  refine drq [] R6 ?_;refine de_y rfl rfl (y_lp rfl (At.get S (i:=1) om)) ?_;refine ex ?_;refine de_y rfl rfl (xhl rfl rfl ⟨om,om⟩ (j:=2)) ?_;refine ex ?_;exact bkq (H _ _ _ ⟨Cf a c 2 1,c-2,ps.drop 2,ps.getD 1 [],by rw[List.length_drop],rfl,rfl,by rw[List.length_drop];exact xmk S 2 om hc,by rw[List.length_drop];omega,by rw[List.length_drop];omega,by rw[List.length_drop];omega,fun s hs=>b4 s (List.mem_of_mem_drop hs),.inr c1.2,by
   rw[if_pos (show ps.getD 0 []=D7 from cc),if_neg (by rw[c1.2];simp;omega)]⟩)
 ·exact bkq (H _ _ _ ⟨a,c,ps,[],rfl,rfl,rfl,S,a9,hc,d6,b4,.inl rfl,by rw[if_neg (show ¬ ps.getD 0 []=D7 from cc)]⟩)
def Pm(t:Twn)(ls:List Str)(v:Value)(p':Ab):Prop:=∃(a:Option Addr)(c:Nat)(A:TA),v=.tuple #[.slice a (Bt t ls).1.length c,twV A (Bt t ls).2,.J (M0 t ls)]/\(Bt t ls).1.length<=c/\At p' a (Bt t ls).1.length (Bt t ls).1/\TwP p' A (Bt t ls).2
theorem Qd:TwP p zA zT:=⟨⟨Sl.nil _ _ _,Sl.nil _ _ _⟩,⟨Sl.nil _ _ _,Sl.nil _ _ _,Sl.nil _ _ _⟩,Sl.nil _ _ _,⟨Nat.le_refl _,Nat.le_refl _⟩,⟨Nat.le_refl _,Nat.le_refl _,Nat.le_refl _⟩,Nat.le_refl _⟩
theorem xr5{t:Twn}(h:Cj t≠0\/30<ls.length):Pm t ls (.tuple #[.slice none 0 0,twV zA zT,.J (M0 t ls)]) p':=by
 have e:Bt t ls=([],zT):=by unfold Bt;rw[if_pos h]
 unfold Pm;rw[e];exact⟨none,0,zA,rfl,Nat.le_refl _,Sl.nil _ _ _,Qd⟩
theorem cf21(A:TA)(t:Twn)(T:TwP p A t)(hn:t.fit (2^20))(g:GlP p){a:Option Addr}(c:Nat)(ls:List Str)(S:At p a ls.length ls)(a8:ls.length<=2^20)(a3:∀s∈ls,s.length<=900)(hR:∀q t vs,Cj t=0->(B2 q t vs).2=0->(B2 q t vs).1.ok):Lc prog (.main true) p 21 #[twV A t,.slice a ls.length c] (Pm t ls):=by
 intro h hp;refine xhz hp func21 fun _ _ _ K=>?_;refine bq fun b2=>?_;refine lq fun b5=>?_;refine cdq (cf35 A t T hn) ?_;refine cq (fun H=>?_) (fun H=>?_)
 ·have eE:M0 t ls=Cj t:=by unfold M0;rw[if_pos (by simpa using H)]
  refine ax ?_;exact xez func21 rfl (.tmp rfl (xpq rfl (.tmp rfl .nil))) fun _ M=>K _ _ (xqq M (.refl _ _ _) (by have z:=xr5 (p':=p) (t:=t) (ls:=ls) (.inl (by simpa using H));rw[eE]at z;exact z))
 have H:Cj t=0:=by simpa using H
 refine cq (fun cd=>?_) (fun cd=>?_)
 ·have eE:M0 t ls=2:=by unfold M0;rw[if_neg (by rw[H];simp),if_pos om]
  refine ax ?_;exact xez func21 rfl (.tmp rfl (xpq rfl (.tmp rfl .nil))) fun _ M=>K _ _ (xqq M (.refl _ _ _) (by have z:=xr5 (p':=p) (t:=t) (ls:=ls) (.inr om);rw[eE]at z;exact z))
 have b0:ls.length<=30:=om;refine ax ?_;refine xdk (l':=[(1,none,.slice a ls.length c),(4,none,.slice none 0 0),(5,none,w_ b5 0),(22,none,.agg (dkc A (Ai t).now (.slice none 0 0)).toArray)]) ?_ ⟨rfl,rfl,rfl,k_,trivial⟩;refine xfx fun b8=>?_;refine ax ?_;have e8:∀z:List Value,z.length=64->Ce z 0 (Value.agg (dkc A (Ai t).now (.slice none 0 0)).toArray).cells.toList=dkc A (Ai t).now (.slice none 0 0):=fun z hz=>xr0 (by rw[hz];exact xcd ⟨rfl,rfl⟩);refine xjj 9 1 fun o0=>?_;refine xhk (LL':=[[],[(b8,.cells (dkc A (Ai t).now (.slice none 0 0)).toArray 84 (0,0))],[(b5,.cells (tcs zA zT).toArray 33 (0,0))],[(b2,.cells (tcs A t).toArray 33 (0,0))]]) ?_ (fun _ s=>by
  rw[e8 _ k_]at s;exact s)
 have D0:DkP p (Ai t) (.cells (dkc A (Ai t).now (.slice none 0 0)).toArray 84 (0,0)) 84:=
  ⟨A,none,0,[],rfl,⟨T,H,rfl,rfl⟩,⟨Nat.le_refl _,Sl.nil _ _ _,s_⟩,rfl⟩
 refine xhq (fun m_ l p_ L_=>∃(j:Nat)(v:Value)(ob:Obj)(Y:Pcs),m_=ls.length-j/\l=[(4,none,v),(5,none,w_ b5 0),(8,none,w_ b8 0),(23,none,.slice a ls.length c),(24,none,.J ((ls.length:Nat):Int)),(25,none,.J ((j:Nat):Int))]/\PG h.size [] p p_/\
  L_=[Y,[(b8,ob)],[(b5,.cells (tcs zA zT).toArray 33 (0,0))],[(b2,.cells (tcs A t).toArray 33 (0,0))]]/\j<=ls.length/\Aa 9 1 v (scs (Az (Ai t) (ls.take j)).2) Y/\DkP p_ (Az (Ai t) (ls.take j)).1 ob 84)
  ⟨0,_,.cells (dkc A (Ai t).now (.slice none 0 0)).toArray 84 (0,0),_,rfl,rfl,.refl _ _ _,rfl,Nat.zero_le _,o0,D0⟩ sb ?_
 clear D0 o0;rintro _ _ p1 _ IH ⟨j,v,ob,Y,rfl,rfl,g1,rfl,hj,o,hD⟩;have S1:=At.mono g1.le S;have S2:Sl p1 a ls.length 1 (scs ls):=S1;have O:(Az (Ai t) (ls.take j)).2.length=j:=by rw[xpc,List.length_take];omega
 have b4:(Az (Ai t) (ls.take j)).1.Bz.length<=30:=by
  have:=xu0 (ls.take j) (Ai t);rw[List.length_take]at this;have e:(Ai t).Bz.length=0:=rfl;omega
 refine cq (fun ce=>?_) (fun ce=>?_)
 ·have V:j<ls.length:=om;obtain⟨hm,a5⟩:=yks (xs:=ls) (j:=j) V;refine ax ?_;refine ro_y rfl (y_lp rfl (At.get S1 V)) ?_;refine ax ?_;refine xx0 rfl rfl (fun h pe hb a6=>cf36 pe b8 ob hD hb a6 (g.mono g1.le) (ls.getD j []) (a3 _ hm) om hR) fun v2 p2 o2 g2 q2=>?_;obtain⟨rfl,a4⟩:=q2;refine ax ?_;refine xxx rfl fun v3 Y3 o3=>?_;have o3:Aa 9 1 v3 (scs [(doD (Az (Ai t) (ls.take j)).1 (ls.getD j [])).2]) Y3:=o3;refine xiv rfl rfl o o3 (by simp[scs,sv,Bj]) (by rw[xmx,O,xmx];simp;omega) fun v4 Y4 o4=>?_;refine ax ?_;have eS:=xt0 (ls.getD j []) (ls.take j) (Ai t);rw[<- a5]at eS;exact bkq (IH _ _ _ om ⟨j+1,v4,o2,Y4,rfl,rfl,g1.trans g2,rfl,om,o4.as (by rw[eS];simp[scs]),by rw[eS];exact a4⟩)
 obtain rfl:j=ls.length:=om;rw[List.take_length]at o hD O;have eR:Bt t ls=((Az (Ai t) ls).2,(Az (Ai t) ls).1.now.t):=by unfold Bt;rw[if_neg (by rw[H];simp;omega)]
 have eE:M0 t ls=0:=by unfold M0;rw[if_neg (by rw[H];simp),if_neg om]
 obtain⟨A1,b7,b6,b3,rfl,N1,P1,a9⟩:=hD;refine ax ?_;refine xzq o (m:=(Az (Ai t) ls).2.length) (xmx _) d_ fun p2 a2 c2 g2 e2 a7 S3=>?_;subst e2;have hf:=xdz N1.ok;refine xqk rfl rfl (cf37 A1 (N1.T.mono g2.le) ⟨⟨by have:=hf.1.1;omega,by have:=hf.1.2;omega⟩,⟨by have:=hf.2.1.1;omega,by have:=hf.2.1.2.1;omega,by have:=hf.2.1.2.2;omega⟩,by have:=hf.2.2;omega⟩) ?_;rintro _ p3 g3 ⟨A',rfl,T'⟩;refine ax ?_;exact xez func21 rfl (.tmp rfl (xpq rfl (.tmp rfl .nil))) fun _ M=>K _ _ (xqq M ((g1.trans g2).trans g3) (by
  unfold Pm;rw[eR,eE];exact⟨a2,c2,A',rfl,a7,At.mono g3.le S3,T'⟩))
end Go.Proofs.YtofhlcococeifaaGreatDoor
