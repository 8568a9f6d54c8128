/-
  Part of proofs about a town's master: a calculus for Be beside goroutines that are only leaving, and the Be. No condition.
-/
import Derived.Test.YtblcmdjhidhnjaaGreatDoorGR
set_option maxRecDepth 100000
set_option synthInstance.maxSize 2000
namespace Go.X.Ms
section
variable{t:Twn}
def De(w:Str):Nat:=
 if w=[114,111,99,107]then 1 else if w=[102,111,111,116]then 1 else if w=[117,112]then 1 else if w=[102,101,119,101,115,116]then 1 else if w=[99,104,101,97,112]then 1 else if w=[100,101,101,112]then 1 else if w=[110,101,120,116]then 1
 else if w=[104,111,117,115,101]then 2 else if w=[119,101,108,108]then 2 else if w=[119,97,110,116]then 2 else if w=[104,97,115]then 2 else if w=[119,97,121]then 2 else if w=[109,111,115,116]then 2 else if w=[108,97,99,107,115]then 2 else if w=[100,114,97,119,115]then 2 else if w=[100,114,121]then 2 else if w=[115,104,111,114,116]then 2
 else if w=[100,97,121]then 3 else if w=[115,105,122,101]then 3 else if w=[101,109,112,116,121]then 3 else if w=[108,101,97,115,116]then 3 else if w=[114,97,116,105,111,110]then 3 else if w=[115,112,97,114,101]then 3 else if w=[108,101,118,101,108]then 3
 else 0
def Qn.part:Qn->Nat
 |.fewest|.cheap|.deep|.next=>1
 |.E8|.Dy|.draws|.dry|.short=>2
 |_=>3
def Od.part:Od->Nat
 |.Kc|.E7|.up=>1
 |.day|.size=>3
 |_=>2
theorem yqg{w:Str}{n:Nat}{q:Qn}(h:qn (w++txt ((n:Nat):Int))=some q):q.part=De w:=by
 have hn:=yrg h;have H:=xeh (w:=w) (n:=n) (by rw[hn];cases q<;>decide);generalize w++txt ((n:Nat):Int)=z at h H;unfold qn at h
 iterate 14 (rcases xnh h with⟨c,e⟩|⟨_,h⟩;(subst e;subst c;subst H;rfl))
 cases h
theorem yyg{w:Str}{n:Nat}{o:Od}(h:od (w++txt ((n:Nat):Int))=some o):o.part=De w:=by
 have hn:=yah h;have H:=xeh (w:=w) (n:=n) (by rw[hn];cases o<;>decide);generalize w++txt ((n:Nat):Int)=z at h H;unfold od at h
 iterate 10 (rcases xnh h with⟨c,e⟩|⟨_,h⟩;(subst e;subst c;subst H;rfl))
 cases h
def He:Nat->Twn->Twn->Twn
 |1,t,u=>{t with s:=u.s}
 |2,t,u=>{t with b:=u.b}
 |_,t,u=>{t with y:=u.y}
def Hs:Nat->Twn->Twn->Prop
 |1,t,u=>t.s=u.s
 |2,t,u=>t.b=u.b
 |_,t,u=>t.y=u.y
theorem xln{p:Nat}(t:Twn):Hs p t t:=by
 match p with
 |1|2|0|_+3=>exact(rfl:_=_)
theorem yfc{q:Qn}{u:Twn}(h:Hs q.part t u)(a:List Int):Bs q t a=Bs q u a:=by
 obtain⟨s,b,y⟩:=t;obtain⟨H,O,M⟩:=u;cases q<;>(cases h;rfl)
theorem xm8{o:Od}{u:Twn}(h:Hs o.part t u)(a:List Int):(B7 o t a=none/\B7 o u a=none)\/ ∃w,B7 o t a=some (He o.part t w)/\B7 o u a=some (He o.part u w):=by
 obtain⟨s,b,y⟩:=t;obtain⟨H,O,M⟩:=u;cases o<;>cases h
 case up=>
  unfold B7;simp only;split
  ·exact .inl ⟨rfl,rfl⟩
  ·exact .inr ⟨⟨_,b,y⟩,rfl,rfl⟩
 case want=>
  unfold B7;simp only;cases Kn b.hs (a.getD 0 0) (a.getD 1 0)with
  |none=>exact .inl ⟨rfl,rfl⟩
  |some l=>exact .inr ⟨⟨s,_,y⟩,rfl,rfl⟩
 case has=>
  unfold B7;simp only;cases Kn b.ws (a.getD 0 0) (a.getD 1 0)with
  |none=>exact .inl ⟨rfl,rfl⟩
  |some l=>exact .inr ⟨⟨s,_,y⟩,rfl,rfl⟩
 all_goals first
  |exact .inr ⟨⟨_,b,y⟩,rfl,rfl⟩
  |exact .inr ⟨⟨s,_,y⟩,rfl,rfl⟩
  |exact .inr ⟨⟨s,b,_⟩,rfl,rfl⟩
theorem yyb{u w:Twn}(ht:B9 t=0)(hu:B9 u=0)(p:Nat):B9 (He p t w)=0<->B9 (He p u w)=0:=by
 obtain⟨t1,M,O⟩:=xhj.1 ht;obtain⟨V,u2,H⟩:=xhj.1 hu;rw[xhj,xhj]
 match p with
 |1=>exact⟨fun h=>⟨h.1,u2,H⟩,fun h=>⟨h.1,M,O⟩⟩
 |2=>exact⟨fun h=>⟨V,h.2.1,H⟩,fun h=>⟨t1,h.2.1,O⟩⟩
 |0|_+3=>exact⟨fun h=>⟨V,u2,h.2.2⟩,fun h=>⟨t1,M,h.2.2⟩⟩
theorem yjx{p:Nat}:He p t t=t:=by
 match p with
 |1|2|0|_+3=>rfl
theorem ydh{p:Nat}{u:Twn}(h:Hs p t u):He p u t=u:=by
 obtain⟨s,b,y⟩:=t;obtain⟨H,O,M⟩:=u
 match p,h with
 |1,h=>cases h;rfl
 |2,h=>cases h;rfl
 |0,h=>cases h;rfl
 |_+3,h=>cases h;rfl
theorem xsd{x:Str}(hx:Eh x=false)(O:De (Bm x).w≠0){u:Twn}(ht:B9 t=0)(hu:B9 u=0)(h:Hs (De (Bm x).w) t u):
 ∃w,(doD (Al t) x).1.now.t=He (De (Bm x).w) t w/\(doD (Al u) x).1.now.t=He (De (Bm x).w) u w/\(doD (Al t) x).2=(doD (Al u) x).2:=by
 rw[xeb,xeb];rcases xec x with e|⟨w,args,l,e,k0,hn,hl,hc,_⟩
 ·rw[e]at O;exact absurd d_ O
 unfold Eh at hx;rw[e]at O h hx⊢;simp only at O h hx⊢;have a5:=(xyd w).1;have h2:(Aq w).1≠2:=fun z=>by
  obtain⟨_,y⟩:=xt2 (w:=w) (n:=(Aq w).2) (by rw[<- z]);rcases y with y|y|y<;>(rw[y]at O;exact O d_)
 have st:He (De w) t t=t/\He (De w) u t=u:=⟨yjx,ydh h⟩
 unfold E5;simp only[if_neg k0,if_neg h2];have hv:Bo (Al t).now args=Bo (Al u).now args:=xyc hx;rw[hv];cases Bo (Al u).now args with
 |none=>exact⟨t,st.1.symm,st.2.symm,rfl⟩
 |some vs=>
   simp only;by_cases h3:(Aq w).1=3
   ·obtain⟨q,hq⟩:=ysn (w:=w) (n:=args.length) (by rw[hn,<- h3]);rw[hq];simp only;have a4:=yqg hq;rw[<- a4]at h;refine⟨t,by rw[(xuw _ _ _ _).1];exact st.1.symm,by rw[(xuw _ _ _ _).1];exact st.2.symm,?_⟩;have a2:∀(d:Dsk)(l:Str),(Eu d q vs l).2=if(Bs q d.now.t vs).2=3 then Ml else if(Bs q d.now.t vs).2≠0 then Gs else(Bs q d.now.t vs).1.text:=fun d l=>by
     unfold Eu;split
     ·rfl
     ·split<;>rfl
    have e:Bs q (Al t).now.t vs=Bs q (Al u).now.t vs:=yfc h vs;rw[a2,a2,e]
   ·obtain⟨o,ho⟩:=yfp (w:=w) (n:=args.length) (by rw[hn,<- show(Aq w).1=1 by omega]);rw[xi1 h3,ho];simp only;have a3:=yyg ho;rw[<- a3]at h st⊢;unfold Ht;rcases xm8 h vs with⟨M,H⟩|⟨v,M,H⟩
    ·have M:B7 o (Al t).now.t vs=none:=M;have H:B7 o (Al u).now.t vs=none:=H;rw[M,H];exact⟨t,st.1.symm,st.2.symm,rfl⟩
    ·have M:B7 o (Al t).now.t vs=some (He o.part t v):=M;have H:B7 o (Al u).now.t vs=some (He o.part u v):=H;rw[M,H];simp only;have V:=yyb (w:=v) ht hu o.part;by_cases c:B9 (He o.part t v)=0
     ·rw[if_pos c,if_pos (V.1 c)];exact⟨v,rfl,rfl,rfl⟩
     ·rw[if_neg c,if_neg fun z=>c (V.2 z)];exact⟨t,st.1.symm,st.2.symm,rfl⟩
theorem yfh{c:Prop}[Decidable c]{a b:Nat}(M:a<=3)(H:b<=3):(if c then a else b)<=3:=by split<;>assumption
theorem xc4(w:Str):De w<=3:=by
 unfold De
 iterate 24 (refine yfh d_ ?_)
 decide
theorem xnt{p q:Nat}(O:p≠0/\p<=3)(V:q≠0/\q<=3)(h:p≠q)(t w:Twn):Hs p t (He q t w):=by
 have M:p=1\/p=2\/p=3:=om;have H:q=1\/q=2\/q=3:=om;rcases M with rfl|rfl|rfl<;>rcases H with rfl|rfl|rfl<;>first|exact absurd rfl h|exact(rfl:_=_)
theorem ykx{p q:Nat}(O:p≠0/\p<=3)(V:q≠0/\q<=3)(h:p≠q)(t v w:Twn):He p (He q t w) v=He q (He p t v) w:=by
 have M:p=1\/p=2\/p=3:=om;have H:q=1\/q=2\/q=3:=om;rcases M with rfl|rfl|rfl<;>rcases H with rfl|rfl|rfl<;>first|exact absurd rfl h|rfl
theorem ymd(h:B9 t=0)(x:Str):B9 (doD (Al t) x).1.now.t=0:=(ybd (xlt h) x).1
theorem xj8(hv:B9 t=0){x y:Str}(M:Eh y=false)(hk:(Bm x).k≠2):
 Gi t [x,y]=([(doD (Al t) x).2,(doD (Al (doD (Al t) x).1.now.t) y).2],(doD (Al (doD (Al t) x).1.now.t) y).1.now.t):=by
 rw[xop hv s_,xcl];have V:(doD (Al t) x).1.Ci=[]:=by
  have e:=xu8 (d:=Al t) hk;exact e
 have tw:Twin (doD (Al t) x).1 (Al (doD (Al t) x).1.now.t):=⟨rfl,by rw[V];rfl⟩
 obtain⟨O,r2⟩:=xs2 tw (xs:=[y]) fun z H=>by rw[List.mem_singleton.1 H];exact M
 have e1:=r2.1;rw[O];refine Prod.ext rfl ?_;exact e1
theorem xy5(hv:B9 t=0){x y:Str}(V:Eh x=false)(O:Eh y=false)(M:De (Bm x).w≠0)(H:De (Bm y).w≠0)(h:De (Bm x).w≠De (Bm y).w):
 ∃a b t',Gi t [x,y]=([a,b],t')/\Gi t [y,x]=([b,a],t'):=by
 have kx:(Bm x).k≠2:=fun z=>by
  obtain⟨e,u,_⟩:=xu2 z;rw[<- e]at M;rcases u with u|u|u<;>(rw[u]at M;exact M d_)
 have ky:(Bm y).k≠2:=fun z=>by
  obtain⟨e,u,_⟩:=xu2 z;rw[<- e]at H;rcases u with u|u|u<;>(rw[u]at H;exact H d_)
 have P:=And.intro M (xc4 (Bm x).w);have Q:=And.intro H (xc4 (Bm y).w);have vx:=ymd hv x;have vy:=ymd hv y;obtain⟨w1,a1,_,_⟩:=xsd V M hv hv (xln t);obtain⟨w2,b1,_,_⟩:=xsd O H hv hv (xln t);have sx:Hs (De (Bm x).w) t (doD (Al t) y).1.now.t:=by rw[b1];exact xnt P Q h t w2
 have sy:Hs (De (Bm y).w) t (doD (Al t) x).1.now.t:=by rw[a1];exact xnt Q P (Ne.symm h) t w1
 obtain⟨v1,c1,c2,c3⟩:=xsd V M hv vy sx;obtain⟨v2,d1,d2,d3⟩:=xsd O H hv vx sy;rw[xj8 hv O kx,xj8 hv V ky,<- c3,<- d3];refine⟨_,_,_,rfl,Prod.ext rfl ?_⟩;show(doD (Al (doD (Al t) y).1.now.t) x).1.now.t=(doD (Al (doD (Al t) x).1.now.t) y).1.now.t;rw[c2,d2,c1,d1,ykx P Q h]
end
end Go.X.Ms
namespace Go.Proofs.YtblcmdjhidhnjaaGreatDoor
open Go.Proofs.Tryz
open Go.X Go.X.Ms Go.Conc Go.RowKit Go.ChangeShapes Go.WideShapes Go.ChangeAt Go.Joins
theorem xf4{H:Type}{enc:TypeId×Value->H}{W:World}{M:Nat}{v:Value}{d:DataW H}{p:List MemPlace}(hv:Value.okWide prog W .any M 9 v)(h:DataW.Trod enc prog W 0 (fun _=>true) true 9 v d p):∃s:Str,v=sv s:=by
 obtain⟨s,rfl,_⟩:=Go.ChangeMaps.open_string underlying9 hv h;exact⟨s.data.toList,by rw[sv,yos]⟩
open Go.X Go.X.Ms Go.Conc
open Go.X.Flow (ics)
set_option maxHeartbeats 1600000 in
theorem c5(md:Md)(h:Heap)(p:Ab)(O:Per p h)(w:Str):
 Aa prog md 5 #[sv w] h fun v V=>v=.J ((De w:Nat):Int)/\Af h V:=by
 refine xfz O func5 fun _ _ _ K=>?_;refine ax ?_
 repeat' (first
  |contradiction
  |(refine xxq func5 rfl rfl fun _ H=>K _ _ ⟨?_,H.kept⟩;(first|(subst_vars;rfl)|(simp only[De, *,if_false];rfl));done)
  |(refine xlq rfl (fun M=>?_) (fun M=>?_))
  |(refine ax ?_))
set_option maxHeartbeats 800000 in
theorem yhl(h:Heap)(p:Ab)(hp:Per p h)(A:TA)(t:Twn)(T:TwP p A t)(hn:t.fit 9223372036854775807)(g:GlP p)(x y:Str):F7 prog (.main true) 3 #[twV A t,sv x,sv y] h fun v h'=>v=.bool true/\Af h h':=by
 refine ytb hp func3 ?_;refine bq fun b3=>?_;refine cq (fun _=>?_) (fun cc=>?_)
 ·refine ax ?_;refine xiq rfl rfl (fun _ H=>c4 _ _ H g) ?_;refine ax ?_;exact xol k_ func3 rfl rfl fun _ M=>⟨rfl,M.kept⟩
 obtain⟨lx,ly⟩:x.length<=40/\y.length<=40:=by simp at cc;omega
 refine ax ?_;refine xvx rfl rfl (fun h H=>c6 _ h _ H x om) ?_;rintro _ p1 g1 ⟨a1,c1,rfl,_,_⟩;refine ax ?_;refine xiq rfl rfl (fun _ H=>c5 _ _ _ H _) ?_;refine ax ?_;refine xvx rfl rfl (fun h H=>c6 _ h _ H y om) ?_;rintro _ p2 g2 ⟨a2,c2,rfl,_,_⟩;refine ax ?_;refine xiq rfl rfl (fun _ H=>c5 _ _ _ H _) ?_;have T2:=(T.mono g1.le).mono g2.le;have G2:=(g.mono g1.le).mono g2.le;have hB:=xy5 (t:=t) (x:=x) (y:=y);generalize De (Bm x).w=i at*;generalize De (Bm y).w=j at*;refine ax ?_;refine xfx rfl rfl rfl sdu (fun _ _ H=>c7 _ _ _ H x om) ?_;refine ax ?_;refine xfx rfl rfl rfl sdu (fun _ _ H=>c7 _ _ _ H y om) ?_;refine ax ?_;generalize hb:(decide (((i:Nat):Int)=0)||decide (((j:Nat):Int)=0)||decide (((i:Nat):Int)=((j:Nat):Int))||Eh x||Eh y)=B;cases B with
 |true=>
   refine xob undef rfl ?_;refine ax ?_;refine xob (.bool true) rfl ?_;refine ax ?_;refine xob undef rfl ?_;refine ax ?_;refine xob (.bool true) rfl ?_;refine ax ?_;refine xlq rfl (fun _=>?_) (fun cc=>(cc s_).elim);refine ax ?_;refine xiq rfl rfl (fun _ H=>c4 _ _ H G2) ?_;refine ax ?_;exact xol k_ func3 rfl rfl fun _ M=>⟨rfl,M.kept⟩
 |false=>
 refine xys rfl rfl ⟨rfl,rfl,trivial⟩ fun v1 Y1 o1=>?_;have o1:Ac 9 1 v1 (scs [x,y]) Y1:=o1;refine xpx o1 (m:=2) rfl d_ fun p3 a3 c3 g3 e3 _ S3=>?_;subst e3;have S3:B4 p3 a3 2 [x,y]:=S3;have T3:=T2.mono g3.le;have G3:=G2.mono g3.le;refine ax ?_;refine xxs rfl rfl rfl sdu (fun h H=>yuj H A t T3 hn 2 c3 [x,y] S3) fun q1 h1=>?_;refine ax ?_;cases q1 with
 |false=>
   refine xob undef rfl ?_;refine ax ?_;refine xob (.bool true) rfl ?_;refine ax ?_;refine xlq rfl (fun _=>?_) (fun cc=>(cc s_).elim);refine ax ?_;refine xiq rfl rfl (fun _ H=>c4 _ _ H G3) ?_;refine ax ?_;exact xol k_ func3 rfl rfl fun _ M=>⟨rfl,M.kept⟩
 |true=>
 obtain⟨hv,_,_⟩:=h1 s_ rfl;refine xys rfl rfl ⟨rfl,rfl,trivial⟩ fun v2 Y2 o2=>?_;have o2:Ac 9 1 v2 (scs [y,x]) Y2:=o2;refine xpx o2 (m:=2) rfl d_ fun p4 a4 d4 g4 e4 _ S4=>?_;subst e4;have S4:B4 p4 a4 2 [y,x]:=S4;have T4:=T3.mono g4.le;have G4:=G3.mono g4.le;refine ax ?_;refine xxs rfl rfl rfl sdu (fun h H=>yuj H A t T4 hn 2 d4 [y,x] S4) fun q2 _=>?_;refine cq (fun _=>?_) (fun _=>?_)
 ·refine ax ?_;refine xiq rfl rfl (fun _ H=>c4 _ _ H G4) ?_;refine ax ?_;exact xol k_ func3 rfl rfl fun _ M=>⟨rfl,M.kept⟩
 have b4:∀u v:Str,u.length<=40->v.length<=40-> ∀s∈[u,v],s.length<=900:=fun u v hu hv s hs=>by
  simp only[List.mem_cons,List.not_mem_nil,or_false]at hs;rcases hs with rfl|rfl<;>omega
 simp only[Bool.or_eq_false_iff,decide_eq_false_iff_not]at hb;obtain⟨a,b,t',r1,r2⟩:=hB hv hb.1.2 hb.2 om om om;refine ax ?_;refine xbz rfl fun v5 Y5 o5=>?_;have o5:Ac 9 1 v5 (scs [x,y]) Y5:=o5;refine xpx o5 (m:=2) rfl d_ fun p5 a5 c5 g5 e5 _ S5=>?_;subst e5;refine ax ?_;refine xvx rfl rfl (fun h H=>c9 h _ H A t (T4.mono g5.le) (G4.mono g5.le) a5 c5 [x,y] S5 (b4 x y lx ly) hv s_) ?_;rintro _ p6 g6 ⟨a6,c6,A6,rfl,b6,O,T6⟩;rw[r1]at O T6⊢;rw[show([x,y]:List Str).length=2 from rfl];have O:B4 p6 a6 2 [a,b]:=O;refine lq fun b9=>?_;refine ax ?_;refine xbz rfl fun v7 Y7 o7=>?_;have o7:Ac 9 1 v7 (scs [y,x]) Y7:=o7;refine xpx o7 (m:=2) rfl d_ fun p7 a7 c7 g7 e7 _ S7=>?_;subst e7;refine ax ?_;refine xvx rfl rfl (fun h H=>c9 h _ H A t (((T4.mono g5.le).mono g6.le).mono g7.le) (((G4.mono g5.le).mono g6.le).mono g7.le) a7 c7 [y,x] S7 (b4 y x ly lx) hv s_) ?_;rintro _ p8 g8 ⟨a8,c8,A8,rfl,b8,V,T8⟩;rw[r2]at V T8⊢;rw[show([y,x]:List Str).length=2 from rfl];have V:B4 p8 a8 2 [b,a]:=V;have T6:=(T6.mono g7.le).mono g8.le;have O:B4 p8 a6 2 [a,b]:=Sl.mono g8.le (Sl.mono g7.le O);have G8:=(((G4.mono g5.le).mono g6.le).mono g7.le).mono g8.le;have b5:B9 t'=0:=by
  have:=xf3 (ls:=[x,y]) hv s_;rwa[r1]at this
 have b0:Sl p8 a6 2 1 (scs [a,b]):=O;have a9:Sl p8 a8 2 1 (scs [b,a]):=V;refine lq fun b7=>?_;refine ax ?_;refine xqq [] R25 ?_;refine ex ?_;refine xbv rfl rfl rfl rfl sdu (fun _ _ H=>c10 _ _ _ H A6 A8 t' T6 T8 ((xsz b5).up om)) ?_;refine ex ?_;refine xtk rfl rfl rfl rfl sdu sdu (fun _=>⟨⟨om,om⟩,Sl.ne b0 om⟩) ?_;refine xak (u:=sv a) rfl rfl rfl sdu (fun _=>B4.get O (i:=0) om) ?_;refine ex ?_;refine xtk rfl rfl rfl rfl sdu sdu (fun _=>⟨⟨om,om⟩,Sl.ne a9 om⟩) ?_;refine xak (u:=sv a) rfl rfl rfl sdu (fun _=>B4.get V (i:=1) om) ?_;refine ex ?_;refine xtk rfl rfl rfl rfl sdu sdu (fun _=>⟨⟨om,om⟩,Sl.ne b0 om⟩) ?_;refine xak (u:=sv b) rfl rfl rfl sdu (fun _=>B4.get O (i:=1) om) ?_;refine ex ?_;refine xtk rfl rfl rfl rfl sdu sdu (fun _=>⟨⟨om,om⟩,Sl.ne a9 om⟩) ?_;refine xak (u:=sv b) rfl rfl rfl sdu (fun _=>B4.get V (i:=0) om) ?_;refine ex ?_;refine ax ?_;refine xfx rfl rfl rfl sdu (fun _ _ H=>c4 _ _ H G8) ?_;refine ax ?_;exact xol k_ func3 rfl rfl fun _ M=>⟨s_,M.kept⟩
end Go.Proofs.YtblcmdjhidhnjaaGreatDoor
