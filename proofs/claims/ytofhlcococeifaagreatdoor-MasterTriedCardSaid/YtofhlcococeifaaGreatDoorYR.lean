/-
  Part of proofs about a town's master: a calculus for Bc beside goroutines that are only leaving, and the Bc. No condition.
-/
import Derived.Test.YtofhlcococeifaaGreatDoorYQ
set_option maxHeartbeats 1600000
set_option maxRecDepth 20000
set_option synthInstance.maxSize 2000
namespace Go.X.Ms
variable{d:Dsk}{args:List Str}{N i j n:Nat}{l s w x:Str}{α:Type}{v:Value}
def Aq(w:Str):Nat×Nat:=
 if w=[117,112]then(1,0)
 else if w=[102,111,111,116]then(1,1)else if w=[104,111,117,115,101]then(1,1)else if w=[119,101,108,108]then(1,1)else if w=[115,105,122,101]then(1,1)
 else if w=[119,97,110,116]then(1,2)else if w=[104,97,115]then(1,2)else if w=[119,97,121]then(1,2)
 else if w=[100,97,121]then(1,3)else if w=[114,111,99,107]then(1,4)
 else if w=[98,101,103,105,110]then(2,0)else if w=[101,110,100]then(2,0)else if w=[100,114,111,112]then(2,0)
 else if w=[102,101,119,101,115,116]then(3,0)else if w=[99,104,101,97,112]then(3,0)else if w=[109,111,115,116]then(3,0)else if w=[108,97,99,107,115]then(3,0)else if w=[115,104,111,114,116]then(3,0)
 else if w=[101,109,112,116,121]then(3,0)else if w=[108,101,97,115,116]then(3,0)else if w=[114,97,116,105,111,110]then(3,0)
 else if w=[100,101,101,112]then(3,1)else if w=[110,101,120,116]then(3,1)else if w=[100,114,97,119,115]then(3,1)else if w=[100,114,121]then(3,1)else if w=[115,112,97,114,101]then(3,1)else if w=[108,101,118,101,108]then(3,1)
 else(0,0)
structure Ln where
 w:Str
 k:Nat
 a:List Str
 l:Str
def lnz:Ln:=⟨[],0,[],[]⟩
def Ei(l:Str)(q:List Str):Ln:=
 if(Aq (q.headD [])).1=0\/q.length≠(Aq (q.headD [])).2+1\/(l≠[]/\(Aq (q.headD [])).1≠3)then lnz
 else if q.tail.all Ba=true then⟨q.headD [],(Aq (q.headD [])).1,q.tail,l⟩else lnz
def Dz(p:List Str):Bool:=decide (2<p.length)&&decide (p.headD []=D7)&&isLet (p.getD 1 [])
def Ag(x:Str):Ln:=if Dz (Ad x)=true then Ei ((Ad x).getD 1 []) ((Ad x).drop 2)else Ei [] (Ad x)
theorem xsm(s:Str)(c:UInt8):Ad (s++[c])=if c=32 then Ad s++[[]]else(Ad s).dropLast++[(Ad s).getLastD []++[c]]:=by
 induction s with
 |nil=>
   show(if c=32 then []::Ad []else(c::(Ad []).headD [])::(Ad []).tail)=_;by_cases h:c=32
   ·rw[if_pos h,if_pos h];rfl
   ·rw[if_neg h,if_neg h];rfl
 |cons d s ih=>
   rw[List.cons_append,Ad,ih,Ad];cases e:Ad s with
   |nil=>exact absurd e (xaj s)
   |cons a t=>
     by_cases h:c=32
     ·rw[if_pos h,if_pos h];split<;>rfl
     ·rw[if_neg h,if_neg h];cases t with
      |nil=>split<;>simp
      |cons b t=>split<;>simp
theorem xn0:∀{s:Str},∀x∈Ad s,(32:UInt8)∉x
 |[],x,h=>by rw[Ad,List.mem_singleton]at h;rw[h];simp
 |c::s,x,h=>by
   have H:=xn0 (s:=s);rw[Ad]at h;split at h
   ·rcases List.mem_cons.1 h with e|h
    ·rw[e];simp
    ·exact H x h
   ·rename_i hc;cases e:Ad s with
    |nil=>exact absurd e (xaj s)
    |cons a t=>
      rw[e]at h H;rcases List.mem_cons.1 h with e|h
      ·rw[e];intro M;rcases List.mem_cons.1 M with e2|M
       ·exact hc e2.symm
       ·exact H a s_ M
      ·exact H x (List.mem_cons_of_mem _ h)
theorem xas(h:n<10):w=(w++txt ((n:Nat):Int)).dropLast:=by rw[xmm h];simp
theorem xft{c:Prop}[Decidable c]{a q:α}{r:Option α}(h:(if c then some a else r)=some q):(c/\a=q)\/(¬ c/\r=some q):=by
 by_cases k:c
 ·rw[if_pos k]at h;exact .inl ⟨k,Option.some.inj h⟩
 ·rw[if_neg k]at h;exact .inr ⟨k,h⟩
theorem yhj{q:Qn}(h:qn (w++txt ((n:Nat):Int))=some q):Aq w=(3,n):=by
 have hn:=ygn h;have H:=xas (w:=w) (n:=n) (by rw[hn];cases q<;>decide);generalize w++txt ((n:Nat):Int)=z at h H;unfold qn at h
 iterate 14 (rcases xft h with⟨c,e⟩|⟨_,h⟩;(subst e;subst c;subst H;subst hn;rfl))
 cases h
theorem ynn{o:Od}(h:od (w++txt ((n:Nat):Int))=some o):Aq w=(1,n):=by
 have hn:=yd0 h;have H:=xas (w:=w) (n:=n) (by rw[hn];cases o<;>decide);generalize w++txt ((n:Nat):Int)=z at h H;unfold od at h
 iterate 10 (rcases xft h with⟨c,e⟩|⟨_,h⟩;(subst e;subst c;subst H;subst hn;rfl))
 cases h
theorem xo3(h:(Aq w).1≠3):qn (w++txt ((n:Nat):Int))=none:=by
 cases e:qn (w++txt ((n:Nat):Int))with
 |none=>rfl
 |some q=>exact absurd (congrArg Prod.fst (yhj e)) h
theorem ypd(h:∃s∈args,Ba s=false):C0 d l (w::args)=(d,Dh):=by
 rw[xvk,if_pos];obtain⟨s,hs,e⟩:=h;refine .inl ?_;rw[List.all_eq_false];exact⟨s,hs,by rw[e];simp⟩
theorem xw3(H:qn (w++txt args.length)=none)(h:l≠[]\/(od (w++txt args.length)=none/\C2 w args.length=false)):C0 d l (w::args)=(d,Dh):=by
 rw[xvk,if_pos (.inr ⟨H,h⟩)]
def glZ(z p:Str)(l:List Str):Str:=l.foldl (fun a x=>(a++z)++x) p
theorem xdg(z p:Str)(l:List Str)(x:Str):glZ z p (l++[x])=(glZ z p l++z)++x:=by unfold glZ;rw[List.foldl_append];rfl
theorem yyk(z:Str):∀(l:List Str)(p:Str),(glZ z p l).length=p.length+l.flatten.length+z.length*l.length
 |[],p=>by simp[glZ]
 |x::l,p=>by
   have:=yyk z l ((p++z)++x);unfold glZ at this⊢;rw[List.foldl_cons,this];simp[Nat.mul_add];omega
section
variable{p:Str}{l:List Str}
end
def Pk(o:Option Int):Value:=.tuple #[.J (o.getD 0),.bool o.isSome]
def sgn(b:Bool)(n:Nat):Int:=if b then -(n:Int)else n
theorem xf2(h:i<s.length):s.drop i=s.getD i 0::s.drop (i+1):=by
 rw[List.drop_eq_getElem_cons h,Flow.Au h]
theorem xxp(h:j<s.length):s.take (j+1)=s.take j++[s.getD j 0]:=by
 rw[List.take_add_one,List.getElem?_eq_getElem h,Flow.Au h];rfl
theorem xyp(s:Str):(Ad s).length<=s.length+1:=by
 induction s with
 |nil=>exact Nat.le_refl _
 |cons c s ih=>
   rw[Ad];split
   ·rw[List.length_cons,List.length_cons];omega
   ·rw[List.length_cons,List.length_tail,List.length_cons];have:=List.length_pos_iff.2 (xaj s);omega
theorem yfc{L:List Str}(h:L≠[]):(scs L).set (L.length-1) [sv x]=scs (L.dropLast++[x]):=by
 obtain⟨M,y,rfl⟩:∃M y,L=M++[y]:=⟨L.dropLast,L.getLast h,(List.dropLast_concat_getLast h).symm⟩
 simp[scs]
def LnP(p':Ab)(x:Ln)(v:Value):Prop:=∃(a:Option Addr)(c:Nat),v=.agg #[sv x.w,.J ((x.k:Nat):Int),.slice a x.a.length c,sv x.l]/\x.a.length<=c/\At p' a x.a.length x.a
theorem yj0{c:Prop}[Decidable c]{a b:Nat×Nat}(H:a.1<=3/\a.2<=4)(M:b.1<=3/\b.2<=4):(if c then a else b).1<=3/\(if c then a else b).2<=4:=by split<;>assumption
theorem xzf(w:Str):(Aq w).1<=3/\(Aq w).2<=4:=by
 unfold Aq
 iterate 27 (refine yj0 d_ ?_)
 decide
theorem xpr(q:List α)(d:α):q.headD d=q.getD 0 d:=by cases q<;>rfl
theorem xx3{c:Prop}[Decidable c]{a b q:α}(h:(if c then a else b)=q):(c/\a=q)\/(¬ c/\b=q):=by
 by_cases k:c
 ·rw[if_pos k]at h;exact .inl ⟨k,h⟩
 ·rw[if_neg k]at h;exact .inr ⟨k,h⟩
theorem yfn(h:Aq w=(3,n)):∃q,qn (w++txt ((n:Nat):Int))=some q:=by
 unfold Aq at h
 iterate 27 (rcases xx3 h with⟨c,e⟩|⟨_,h⟩;(obtain⟨H,M⟩:=Prod.mk.inj e;subst c;subst M;first|(exact absurd H d_)|(rw[xmm d_];exact⟨_,rfl⟩)))
 cases h
theorem yc0(h:Aq w=(1,n)):∃o,od (w++txt ((n:Nat):Int))=some o:=by
 unfold Aq at h
 iterate 27 (rcases xx3 h with⟨c,e⟩|⟨_,h⟩;(obtain⟨H,M⟩:=Prod.mk.inj e;subst c;subst M;first|(exact absurd H d_)|(rw[xmm d_];exact⟨_,rfl⟩)))
 cases h
theorem ypx(h:Aq w=(2,n)):n=0/\(w=Ap\/w=Fl\/w=Cc):=by
 unfold Aq at h
 iterate 27 (rcases xx3 h with⟨c,e⟩|⟨_,h⟩;(obtain⟨H,M⟩:=Prod.mk.inj e;subst c;subst M;first|(exact absurd H d_)|(refine⟨rfl,?_⟩;first|exact .inl rfl|exact .inr (.inl rfl)|exact .inr (.inr rfl))))
 cases h
theorem xjr(h:C2 w n=true):n=0/\Aq w=(2,0):=by
 unfold C2 at h;simp only[Bool.and_eq_true,Bool.or_eq_true,decide_eq_true_eq]at h;refine⟨h.1,?_⟩;rcases h.2 with(e|e)|e<;>(rw[e];decide)
theorem yuj(h:(Aq w).1≠2):C2 w n=false:=by
 rw[Bool.eq_false_iff];intro z;rw[(xjr z).2]at h;exact h rfl
noncomputable def Ej(d:Dsk)(o:Od)(vs:List Int):Dsk×Str:=match Ct o d.now.t vs with
 |none=>(d,wNo)
 |some t=>if Cj t=0 then({d with now:={d.now with t:=t}},wOk)else(d,wNo)
noncomputable def Ch(d:Dsk)(x:Ln):Dsk×Str:=
 if x.k=0 then(d,Dh)else match A5 d.now x.a with
  |none=>(d,Ay)
  |some vs=>if x.k=2 then((tryD d x.w).1,Ek (tryD d x.w).2)else match qn (x.w++txt x.a.length)with
    |some q=>C5 d q vs x.l
    |none=>match od (x.w++txt x.a.length)with
      |some o=>Ej d o vs
      |none=>(d,Dh)
theorem xp1(d:Dsk):C0 d l (w::args)=Ch d (Ei l (w::args)):=by
 have hz:Ch d lnz=(d,Dh):=by unfold Ch;exact if_pos (show lnz.k=0 from rfl)
 unfold Ei;rw[List.headD_cons,List.tail_cons];by_cases c:(Aq w).1=0\/(w::args).length≠(Aq w).2+1\/(l≠[]/\(Aq w).1≠3)
 ·rw[if_pos c,hz];have O:(Aq w).1≠3\/args.length≠(Aq w).2->qn (w++txt args.length)=none:=fun h=>by
   cases e:qn (w++txt args.length)with
   |none=>rfl
   |some q=>
     have k:=yhj e;rw[k]at h;rcases h with h|h<;>exact absurd rfl h
  have no:(Aq w).1≠1\/args.length≠(Aq w).2->od (w++txt args.length)=none:=fun h=>by
   cases e:od (w++txt args.length)with
   |none=>rfl
   |some q=>
     have k:=ynn e;rw[k]at h;rcases h with h|h<;>exact absurd rfl h
  have nt:(Aq w).1≠2\/args.length≠(Aq w).2->C2 w args.length=false:=fun h=>by
   rw[Bool.eq_false_iff];intro z;obtain⟨z1,z2⟩:=xjr z;rw[z2]at h;rcases h with h|h
   ·exact h rfl
   ·exact h z1
  rcases c with c|c|c
  ·exact xw3 (O (.inl om)) (.inr ⟨no (.inl om),nt (.inl om)⟩)
  ·have c:args.length≠(Aq w).2:=fun e=>c (by rw[List.length_cons,e]);exact xw3 (O (.inr c)) (.inr ⟨no (.inr c),nt (.inr c)⟩)
  ·exact xw3 (O (.inl c.2)) (.inl c.1)
 ·rw[if_neg c];by_cases hc:args.all Ba=true
  ·rw[if_pos hc];have hn:args.length=(Aq w).2:=by
    refine Nat.succ.inj (Classical.byContradiction fun z=>c (.inr (.inl fun e=>z ?_)));rw[List.length_cons]at e;omega
   have hl:l≠[]->(Aq w).1=3:=fun z=>Classical.byContradiction fun y=>c (.inr (.inr ⟨z,y⟩));have a2:(Aq w).1≠0:=fun z=>c (.inl z);have a3:=(xzf w).1;have ek:Aq w=((Aq w).1,args.length):=by rw[hn]
   unfold Ch;rw[if_neg a2];have hs:(Aq w).1=1\/(Aq w).1=2\/(Aq w).1=3:=om;rcases hs with e|e|e
   ·obtain⟨o,M⟩:=yc0 (ek.trans (by rw[e]));have H:qn (w++txt args.length)=none:=xo3 om;have V:l=[]:=Classical.byContradiction fun z=>by have:=hl z;omega
    subst V;cases hv:A5 d.now args with
    |none=>exact xbt hc (.inr ⟨rfl,by rw[M];simp⟩) hv
    |some vs=>
      rw[xjn H M (yuj om) hc hv];simp only[if_neg (show ¬ (Aq w).1=2 by omega),H,M];rfl
   ·obtain⟨h0,ht⟩:=ypx (ek.trans (by rw[e]));have V:l=[]:=Classical.byContradiction fun z=>by have:=hl z;omega
    subst V;obtain rfl:args=[]:=List.length_eq_zero_iff.1 h0;have H:qn (w++txt ((0:Nat):Int))=none:=xo3 (n:=0) om;rw[xd7 H (by rcases ht with rfl|rfl|rfl<;>decide)];simp only[A5,if_pos e]
   ·obtain⟨q,H⟩:=yfn (ek.trans (by rw[e]));cases hv:A5 d.now args with
    |none=>exact xbt hc (.inl (by rw[H];simp)) hv
    |some vs=>
      rw[xsc H hc hv];simp only[if_neg (show ¬ (Aq w).1=2 by omega),H]
  ·rw[if_neg hc,hz];refine ypd ?_;simp only[Bool.not_eq_true,List.all_eq_false]at hc;obtain⟨s,hs,e⟩:=hc;exact⟨s,hs,by simpa using e⟩
theorem xcz(d:Dsk)(x:Str):doD d x=Ch d (Ag x):=by
 have O:Ch d lnz=(d,Dh):=by unfold Ch;exact if_pos (show lnz.k=0 from rfl)
 have M:=xaj x;unfold doD Ag;simp only;generalize Ad x=ps at*
 match ps,M with
 |w::args,_=>
   rw[List.headD_cons];by_cases hw:w=D7
   ·rw[if_pos hw];by_cases c:(w::args).length<3\/isLet ((w::args).getD 1 [])=false
    ·rw[if_pos c];have H:Dz (w::args)=false:=by
      unfold Dz;rcases c with c|c
      ·rw[decide_eq_false om];rfl
      ·rw[c,Bool.and_false]
     rw[H,if_neg s_];unfold Ei;rw[List.headD_cons,hw,if_pos (.inl d_),O]
    ·rw[if_neg c];simp only[not_or,Bool.not_eq_false]at c;have H:Dz (w::args)=true:=by
      unfold Dz;rw[decide_eq_true om,List.headD_cons,decide_eq_true hw,c.2];rfl
     rw[if_pos H]
     match args,c with
     |[],c=>exact absurd c.1 s_
     |[_],c=>exact absurd c.1 s_
     |b::v::rest,_=>exact xp1 d
   ·rw[if_neg hw];have H:Dz (w::args)=false:=by
     unfold Dz;rw[List.headD_cons,decide_eq_false hw,Bool.and_false,Bool.false_and]
    rw[H,if_neg s_];exact xp1 d
theorem xer(l w:Str)(args:List Str):Ei l (w::args)=lnz\/(Ei l (w::args)=⟨w,(Aq w).1,args,l⟩/\(Aq w).1≠0/\args.length=(Aq w).2/\(l≠[]->(Aq w).1=3)/\args.all Ba=true):=by
 unfold Ei;rw[List.headD_cons,List.tail_cons];by_cases c:(Aq w).1=0\/(w::args).length≠(Aq w).2+1\/(l≠[]/\(Aq w).1≠3)
 ·rw[if_pos c];exact .inl rfl
 ·rw[if_neg c];by_cases hc:args.all Ba=true
  ·rw[if_pos hc];refine .inr ⟨rfl,fun z=>c (.inl z),?_,fun z=>Classical.byContradiction fun y=>c (.inr (.inr ⟨z,y⟩)),hc⟩;refine Nat.succ.inj (Classical.byContradiction fun z=>c (.inr (.inl fun e=>z ?_)));rw[List.length_cons]at e;omega
  ·rw[if_neg hc];exact .inl rfl
theorem xek(x:Str):Ag x=lnz\/ ∃w args l,Ag x=⟨w,(Aq w).1,args,l⟩/\(Aq w).1≠0/\args.length=(Aq w).2/\(l≠[]->(Aq w).1=3/\isLet l=true)/\args.all Ba=true/\Ad x=if l=[]then w::args else D7::l::w::args:=by
 have M:=xaj x;unfold Ag;generalize Ad x=ps at*;by_cases H:Dz ps=true
 ·rw[if_pos H];unfold Dz at H;simp only[Bool.and_eq_true,decide_eq_true_eq]at H
  match ps,H with
  |[],H=>exact absurd H.1.1 s_
  |[_],H=>exact absurd H.1.1 s_
  |[_,_],H=>exact absurd H.1.1 s_
  |a::b::w::args,H=>
    have ha:a=D7:=H.1.2;have O:isLet b=true:=H.2;have V:b≠[]:=fun e=>by rw[e]at O;cases O
    rcases xer b w args with h|⟨h1,h2,h3,h4,h5⟩
    ·exact .inl h
    ·exact .inr ⟨w,args,b,h1,h2,h3,fun z=>⟨h4 z,O⟩,h5,by rw[if_neg V,ha]⟩
 ·rw[if_neg H]
  match ps,M with
  |w::args,_=>
    rcases xer [] w args with h|⟨h1,h2,h3,h4,h5⟩
    ·exact .inl h
    ·exact .inr ⟨w,args,[],h1,h2,h3,fun z=>absurd rfl z,h5,(if_pos rfl).symm⟩
theorem xe1(x:Str):(Ag x).a.length<=4:=by
 rcases xek x with e|⟨w,args,l,e,_,hn,_⟩
 ·rw[e];exact Nat.zero_le _
 ·rw[e];have:=(xzf w).2;show args.length<=4;omega
theorem xzp:∀{s w:Str},Ad s=[w]->s=w
 |[],w,h=>by rw[Ad]at h;exact(List.cons.inj h).1
 |c::s,w,h=>by
   rw[Ad]at h;split at h
   ·exact absurd (List.cons.inj h).2 (xaj s)
   ·obtain⟨M,O⟩:=List.cons.inj h;have H:=xaj s;cases e:Ad s with
    |nil=>exact absurd e H
    |cons a t=>
      rw[e]at M O;have V:t=[]:=O;subst V;rw[xzp e];exact M
theorem ylb(h:(Ag x).k=2):x=(Ag x).w/\(x=Ap\/x=Fl\/x=Cc)/\(Ag x).a=[]:=by
 rcases xek x with e|⟨w,args,l,e,_,h3,h4,_,h6⟩
 ·rw[e]at h;cases h
 ·rw[e]at h⊢;have M:(Aq w).1=2:=h;have H:l=[]:=Classical.byContradiction fun z=>by have:=(h4 z).1;omega
  obtain⟨O,hw⟩:=ypx (w:=w) (n:=(Aq w).2) (by rw[<- M]);have a0:args=[]:=List.length_eq_zero_iff.1 om;subst H a0;rw[if_pos rfl]at h6;obtain rfl:=xzp h6;exact⟨rfl,hw,rfl⟩
theorem yyx(H:(Ag x).k≠2):(doD d x).1.Bz=d.Bz:=by
 rw[xcz];unfold Ch;split
 ·rfl
 ·cases A5 d.now (Ag x).a with
  |none=>rfl
  |some vs=>
    simp only;cases qn ((Ag x).w++txt (Ag x).a.length)with
    |some q=>exact(xhc d q vs (Ag x).l).2
    |none=>
      cases od ((Ag x).w++txt (Ag x).a.length)with
      |none=>rfl
      |some o=>
        simp only;unfold Ej;cases Ct o d.now.t vs with
        |none=>rfl
        |some t=>simp only;split<;>rfl
theorem xsx(d:Dsk)(x:Str)(xs:List Str):Az d (x::xs)=((Az (doD d x).1 xs).1,(doD d x).2::(Az (doD d x).1 xs).2):=by rw[Az]
theorem xxj:∀(xs H:List Str)(d:Dsk),Az d (xs++H)=((Az (Az d xs).1 H).1,(Az d xs).2++(Az (Az d xs).1 H).2)
 |[],H,d=>rfl
 |x::xs,H,d=>by rw[List.cons_append,xsx,xsx,xxj xs H];rfl
def Twin(d e:Dsk):Prop:=d.now.t=e.now.t/\d.Bz.map (·.t)=e.Bz.map (·.t)
theorem Twin.refl(d:Dsk):Twin d d:=⟨rfl,rfl⟩
def Cr(x:Str):Bool:=(Ag x).a.any isLet
theorem xlm{a b:Cv}:∀{xs:List Str},xs.any isLet=false->A5 a xs=A5 b xs
 |[],_=>rfl
 |s::ss,h=>by
   rw[List.any_cons,Bool.or_eq_false_iff]at h;rw[A5,A5,xvw (by rw[h.1];simp),xvw (by rw[h.1];simp),xlm h.2]
theorem xpb{a:Cv}:∀{xs:List Str},xs.any isLet=false->A5 a xs≠none
 |[],_=>by rw[A5];simp
 |s::ss,h=>by
   rw[List.any_cons,Bool.or_eq_false_iff]at h;rw[A5,xvw (by rw[h.1];simp)];have:=xpb (a:=a) h.2;cases e:A5 a ss with
   |none=>exact absurd e this
   |some vs=>simp
theorem xe7{β:Type}(f:α->β)(l:List α):(l.map f).getLast?=l.getLast?.map f:=by rw[List.getLast?_map]
theorem ykb{e:Dsk}(h:Twin d e)(q:Qn)(a:List Int)(l l':Str):(C5 d q a l).2=(C5 e q a l').2/\Twin (C5 d q a l).1 (C5 e q a l').1:=by
 have H:∀(d:Dsk)(l:Str),(C5 d q a l).2=if(B2 q d.now.t a).2=3 then Hq else if(B2 q d.now.t a).2≠0 then Er else(B2 q d.now.t a).1.text:=fun d l=>by
  unfold C5;split
  ·rfl
  ·split<;>rfl
 obtain⟨O,e2⟩:=xhc d q a l;obtain⟨V,M⟩:=xhc e q a l';refine⟨by rw[H,H,h.1],?_,?_⟩
 ·rw[O,V];exact h.1
 ·rw[e2,M];exact h.2
theorem xa5{e:Dsk}(h:Twin d e)(w:Str):(tryD d w).2=(tryD e w).2/\Twin (tryD d w).1 (tryD e w).1:=by
 unfold tryD;by_cases c:w=Ap
 ·rw[if_pos c,if_pos c];refine⟨rfl,h.1,?_⟩;show(d.Bz++[d.now]).map (·.t)=(e.Bz++[e.now]).map (·.t);rw[List.map_append,List.map_append,h.2];show _++[d.now.t]=_++[e.now.t]
  rw[h.1]
 ·rw[if_neg c,if_neg c];have H:=congrArg List.getLast? h.2;rw[xe7,xe7]at H;have hlen:=congrArg List.length h.2;rw[List.length_map,List.length_map]at hlen;have ht:(d.Bz.take (d.Bz.length-1)).map (·.t)=(e.Bz.take (e.Bz.length-1)).map (·.t):=by rw[List.map_take,List.map_take,h.2,hlen]
  cases e1:d.Bz.getLast? with
  |none=>
    rw[e1]at H;cases O:e.Bz.getLast? with
    |none=>exact⟨rfl,h⟩
    |some y=>rw[O]at H;cases H
  |some x=>
    rw[e1]at H;cases O:e.Bz.getLast? with
    |none=>rw[O]at H;cases H
    |some y=>
      rw[O]at H;have V:x.t=y.t:=Option.some.inj H;simp only;by_cases M:w=Cc
      ·rw[if_pos M,if_pos M];exact⟨rfl,V,ht⟩
      ·rw[if_neg M,if_neg M];exact⟨rfl,h.1,ht⟩
theorem ymx{e:Dsk}(h:Twin d e)(o:Od)(vs:List Int):(Ej d o vs).2=(Ej e o vs).2/\Twin (Ej d o vs).1 (Ej e o vs).1:=by
 unfold Ej;rw[h.1];cases Ct o e.now.t vs with
 |none=>exact⟨rfl,h⟩
 |some t=>
   simp only;split
   ·exact⟨rfl,rfl,h.2⟩
   ·exact⟨rfl,h⟩
theorem xi0{e:Dsk}(h:Twin d e){k:Nat}{a a':List Str}{l':Str}(H:a.length=a'.length)(hv:A5 d.now a=A5 e.now a'):(Ch d ⟨w,k,a,l⟩).2=(Ch e ⟨w,k,a',l'⟩).2/\Twin (Ch d ⟨w,k,a,l⟩).1 (Ch e ⟨w,k,a',l'⟩).1:=by
 unfold Ch;simp only;rw[hv,H];split
 ·exact⟨rfl,h⟩
 ·cases A5 e.now a' with
  |none=>exact⟨rfl,h⟩
  |some vs=>
    simp only;split
    ·exact⟨congrArg Ek (xa5 h w).1,(xa5 h w).2⟩
    ·cases qn (w++txt a'.length)with
     |some q=>exact ykb h q vs l l'
     |none=>
       cases od (w++txt a'.length)with
       |some o=>exact ymx h o vs
       |none=>exact⟨rfl,h⟩
theorem xb5:∀{xs:List Str}{d e:Dsk},Twin d e->(∀x∈xs,Cr x=false)->(Az d xs).2=(Az e xs).2/\Twin (Az d xs).1 (Az e xs).1
 |[],_,_,h,_=>⟨rfl,h⟩
 |x::xs,d,e,h,hx=>by
   have hs:=xi0 h (w:=(Ag x).w) (k:=(Ag x).k) (l:=(Ag x).l) (l':=(Ag x).l) rfl (xlm (a:=d.now) (b:=e.now) (hx x s_));have M:(doD d x).2=(doD e x).2:=by rw[xcz,xcz];exact hs.1
   have O:Twin (doD d x).1 (doD e x).1:=by rw[xcz,xcz];exact hs.2
   have H:=xb5 O fun y V=>hx y (List.mem_cons_of_mem _ V);rw[xsx,xsx];exact⟨by show _::_=_::_;rw[M,H.1],H.2⟩
open Go.X Go.Conc
variable{xss:List (List Str)}{ks:List (Str×Int)}{p p':Ab}
def StsS(p:Ab)(a:Option Addr)(n:Nat)(xss:List (List Str)):Prop:=∃es,Sl p a n 1 es/\xss.length=n/\ ∀i,i<n-> ∃b c,es[i]?=some [.slice b (xss.getD i []).length c]/\At p b (xss.getD i []).length (xss.getD i [])
theorem xu1(h:j<xss.length):(xss.take (j+1)).flatten=(xss.take j).flatten++xss.getD j []:=by
 rw[List.take_add_one,List.getElem?_eq_getElem h,List.flatten_append,Flow.Au h];simp
theorem yfv{xss:List (List Str)}{B:Nat}(H:∀i,i<xss.length->(xss.getD i []).length<=B):∀j,j<=xss.length->(xss.take j).flatten.length<=B*j
 |0,_=>by simp
 |j+1,h=>by
   have:=yfv H j om;have:=H j om;rw[xu1 om,List.length_append,Nat.mul_add];omega
def kcs(ks:List (Str×Int)):List (List Value):=ks.map fun k=>[sv k.1,.J k.2]
theorem yrk(hi:i<ks.length):(kcs ks)[i]?=some [sv (ks.getD i ([],0)).1,.J (ks.getD i ([],0)).2]:=by
 rw[kcs,List.getElem?_map,List.getD_eq_getElem?_getD,List.getElem?_eq_getElem hi];rfl
theorem xdt(ks:List (Str×Int)):(kcs ks).length=ks.length:=by simp[kcs]
def KOk(ks:List (Str×Int)):Prop:=∀i,i<ks.length-> -1000000<=(ks.getD i ([],0)).2/\(ks.getD i ([],0)).2<=1000000
theorem KOk.snoc{ks:List (Str×Int)}(H:KOk ks){s:Str}{x:Int}(M: -1000000<=x/\x<=1000000):KOk (ks++[(s,x)]):=fun i hi=>by
 rw[List.length_append,List.length_singleton]at hi;rw[List.getD_eq_getElem?_getD];rcases Nat.lt_or_ge i ks.length with z|z
 ·rw[List.getElem?_append_left z,<- List.getD_eq_getElem?_getD];exact H i z
 ·obtain rfl:i=ks.length:=om;rw[List.getElem?_append_right (Nat.le_refl _)];simpa using M
theorem ywd(ks:List (Str×Int))(s:Str)(x:Int):kcs ks++[[sv s,.J x]]=kcs (ks++[(s,x)]):=by simp[kcs]
def StP(p:Ab)(N:Nat)(e:List Value):Prop:=∃(A:TA)(t:Twn)(H:Option Addr)(kn M:Nat)(ks:List (Str×Int)),e=tcs A t++[.slice H kn M]/\TwP p A t/\Cj t=0/\Sl p H kn 2 (kcs ks)/\KOk ks/\kn<=N
theorem StP.mono{p p':Ab}{N H:Nat}{e:List Value}(s:StP p N e)(M:PLe p p')(O:N<=H):StP p' H e:=by
 obtain⟨A,t,ka,kn,V,ks,e1,T,hv,S,hk,hn⟩:=s;exact⟨A,t,ka,kn,V,ks,e1,T.mono M,hv,Sl.mono M S,hk,Nat.le_trans hn O⟩
theorem StP.Og{p:Ab}{N:Nat}{e:List Value}(s:StP p N e):∀u∈e,Bj u=true:=by
 obtain⟨A,t,M,kn,O,ks,rfl,_⟩:=s;intro u H;simp only[tcs,List.cons_append,List.nil_append,List.mem_cons,List.not_mem_nil,or_false]at H;rcases H with rfl|rfl|rfl|rfl|rfl|rfl|rfl|rfl|rfl|rfl|rfl|rfl<;>rfl
def Nn(p:Ab)(N:Nat)(v:Value):Prop:=∃(A:TA)(t:Twn)(M:Option Addr)(kn kc:Nat)(ks:List (Str×Int))(V:Option Addr)(H O:Nat)(es:List (List Value)),
 v=.agg (tcs A t++[Value.slice M kn kc,.slice V H O]).toArray/\TwP p A t/\Cj t=0/\Sl p M kn 2 (kcs ks)/\KOk ks/\kn<=N/\Sl p V H 12 es/\H<=O/\H<=N/\ ∀e∈es,StP p N e
theorem Nn.mono{p p':Ab}{N:Nat}{v:Value}(d:Nn p N v)(H:PLe p p'):Nn p' N v:=by
 obtain⟨A,t,ka,kn,kc,ks,pa,pn,V,es,e,T,hv,S,hk,M,P,h1,h2,O⟩:=d;exact⟨A,t,ka,kn,kc,ks,pa,pn,V,es,e,T.mono H,hv,Sl.mono H S,hk,M,Sl.mono H P,h1,h2,fun e he=>(O e he).mono H (Nat.le_refl _)⟩
end Go.X.Ms
namespace Go.Proofs.YtofhlcococeifaaGreatDoor
open Go.Proofs.Tryz
open Go.X Go.X.Ms Go.Conc
variable{l:List Int}{md:Md}{n:Nat}{p:Ab}{v:Value}
theorem cf18(s:Str):Dc prog md p 18 #[sv s] (.bool (isLet s)):=by
 refine xlq func18 fun K=>?_;refine ro_y rfl (xej rfl rfl sdt sdt (fun c=>⟨d_,by simp at c;omega⟩)) ?_;refine ax ?_;refine ro_y rfl (xej rfl rfl sdu sdu (fun c=>⟨d_,by simp at c;omega⟩)) ?_;refine K.q ?_;show Value.bool _=_;congr 1;rw[Bool.eq_iff_iff,xbg];simp;omega
theorem cf29(w:Str):Dc prog md p 29 #[sv w] (.tuple #[.J (((Aq w).1:Nat):Int),.J (((Aq w).2:Nat):Int)]):=by
 intro h M;refine xhz M func29 fun _ _ _ K=>?_;refine ax ?_
 repeat' (first
  |contradiction
  |(refine xsq func29 rfl rfl fun _ O=>K _ _ ⟨?_,O.kept⟩;(first|(subst_vars;rfl)|(simp only[Aq, *,if_false];rfl));done)
  |(refine xcx rfl (fun H=>?_) (fun H=>?_))
  |(refine ax ?_))
theorem cf17(s:Str):Dc prog md p 17 #[sv s] (Pk (Cu s)):=by
 refine xlq func17 fun K=>?_;refine ro_y rfl (xej rfl rfl sdt sdt (fun c=>⟨d_,by simp at c;omega⟩)) ?_;refine ax ?_;refine xfz (fun l p_ LL=>∃(u:Str)(b:Bool),l=[(0,none,sv u),(4,none,.bool b)]/\p_=p/\LL=[]/\Cu s=(Hv b u).map (sgn b)) ?_ (fun k' nx=>?_);rotate_left
 ·refine cq (fun H=>?_) (fun H=>?_)
  ·refine ax ?_;refine ro_y rfl (xsg rfl rfl sdt sdt (by show 1<=s.length;omega) (j:=1)) ?_;refine ax ?_;refine xbx (l':=[(0,none,sv s.tail),(4,none,.bool true)]) (nx _ _ _ ⟨_,_,rfl,rfl,rfl,?_⟩) ⟨by show some (none,sv (s.drop 1))=_;rw[List.drop_one],by
    show some (none,Value.bool (decide (0<((s.length:Nat):Int))&&decide (((s.getD 0 0).toNat:Int)=45)))=_;rw[decide_eq_true H.1,decide_eq_true (show((s.getD 0 0).toNat:Int)=45 from H.2)];rfl,trivial⟩
   have hc:s.headD 0=45:=by
    cases s with
    |nil=>exact absurd H.1 s_
    |cons c s=>exact UInt8.toNat_inj.1 (by have:((c.toNat:Nat):Int)=45:=H.2;show c.toNat=45;omega)
   unfold Cu;rw[if_pos hc];rfl
  ·refine ax ?_;refine xbx (l':=[(0,none,sv s),(4,none,.bool false)]) (nx _ _ _ ⟨_,_,rfl,rfl,rfl,?_⟩) ⟨rfl,by
    show some (none,Value.bool (decide (0<((s.length:Nat):Int))&&decide (((s.getD 0 0).toNat:Int)=45)))=_;have:(decide (0<((s.length:Nat):Int))&&decide (((s.getD 0 0).toNat:Int)=45))=false:=by
     rw[Bool.eq_false_iff];intro z;simp only[Bool.and_eq_true,decide_eq_true_eq]at z;exact H z
    rw[this],trivial⟩
   have hc:s.headD 0≠45:=by
    intro z;cases s with
    |nil=>cases z
    |cons c s=>
      have z:c=45:=z;subst z;exact H ⟨s_,rfl⟩
   unfold Cu;rw[if_neg hc];rfl
 rintro _ p _ ⟨u,b,rfl,rfl,rfl,e⟩;refine ax ?_;refine ro_y rfl (xej rfl rfl sdu sdu (fun c=>⟨d_,by simp at c;omega⟩)) ?_;refine cq (fun H=>?_) (fun H=>?_)
 ·refine K.q ?_;have hN:Hv b u=none:=by
   unfold Hv;rw[if_pos];rcases H with(c|c)|⟨c1,c2⟩
   ·exact .inl om
   ·exact .inr (.inl om)
   ·refine .inr (.inr ⟨?_,c2.imp (fun z=>om) id⟩);cases u with
    |nil=>exact absurd c1 d_
    |cons c u=>exact(show c=48 from xe5 (by have:((c.toNat:Nat):Int)=48:=c1;omega))
  rw[e,hN];rfl
 have hN:Hv b u=E6 0 u:=by
  unfold Hv;rw[if_neg];rintro(c|c|⟨c1,c2⟩)
  ·exact H (.inl (.inl om))
  ·exact H (.inl (.inr om))
  ·refine H (.inr ⟨?_,c2.imp (fun z=>om) id⟩);cases u with
   |nil=>exact absurd c1 d_
   |cons c u=>
     have:c=48:=c1;subst this;rfl
 have a4:u.length<=6:=by
  rcases Nat.lt_or_ge 6 u.length with z|z
  ·exact absurd (.inl (.inr om)) H
  ·exact z
 refine ax ?_;refine xnq (fun m_ l=>∃(j n:Nat),m_=u.length-j/\l=[(0,none,sv u),(4,none,.bool b),(5,none,.J ((n:Nat):Int)),(6,none,.J ((j:Nat):Int))]/\j<=u.length/\n<10^j/\E6 0 u=E6 n (u.drop j)) ⟨0,0,rfl,rfl,Nat.zero_le _,d_,s_⟩ sb ?_;rintro _ _ IH ⟨j,n,rfl,rfl,hj,hn,hq⟩;have a3:10^j<=10^6:=Nat.pow_le_pow_right d_ om;have a2:(10:Nat)^6=1000000:=by decide
 refine cq (fun cd=>?_) (fun cd=>?_)
 ·have V:j<u.length:=om;refine ax ?_;refine ro_y rfl (xej rfl rfl sdt sdt ⟨om,om⟩) ?_;refine ax ?_;refine ro_y rfl (xej rfl rfl sdu sdu (fun _=>⟨om,om⟩)) ?_;refine cq (fun M=>?_) (fun M=>?_)
  ·refine K.q ?_;have hx:C7 (u.getD j 0)=false:=by
    rw[Bool.eq_false_iff];intro z;have z:=xcg.1 z;have O:u.getD (((j:Nat):Int).toNat) 0=u.getD j 0:=rfl;rw[O]at M;omega
   rw[e,hN,hq,xf2 V,E6,if_neg (by rw[hx];simp)];rfl
  have hx:C7 (u.getD j 0)=true:=by
   rw[xcg];have O:u.getD (((j:Nat):Int).toNat) 0=u.getD j 0:=rfl;rw[O]at M;omega
  have hd:=xcg.1 hx;have O:u.getD (((j:Nat):Int).toNat) 0=u.getD j 0:=rfl;refine ax ?_;refine ro_y rfl (xej rfl rfl sdt sdt ⟨om,om⟩) ?_;rw[O];refine ax ?_;refine ro_y rfl (y_pv rfl ⟨wr8 om,trivial⟩) ?_;refine ax ?_;refine ro_y rfl (xu2 (((u.getD j 0).toNat-48:Nat):Int) rfl (by rw[wrZ om];omega) (hs:=⟨_,underlying5⟩)) ?_;refine ax ?_;refine yot (IH _ om ⟨j+1,10*n+((u.getD j 0).toNat-48),rfl,rfl,om,by rw[Nat.pow_succ];omega,?_⟩);rw[hq,xf2 V,E6,if_pos hx]
 obtain rfl:j=u.length:=om;have hs:Cu s=some (sgn b n):=by rw[e,hN,hq,List.drop_length];rfl
 refine cq (fun M=>?_) (fun M=>?_)
 ·refine ax ?_;refine ro_y rfl (y_pv rfl ⟨by rw[wrZ om];omega,trivial⟩) ?_;refine K.q ?_;rw[hs];subst M;rfl
 ·refine K.q ?_;rw[hs,Bool.not_eq_true]at*;subst M;rfl
theorem cf28(s:Str)(hs:s.length<=1000):Nc prog md p 28 #[sv s] (fun v Y=>Aa 9 1 v (scs (Ad s)) Y):=by
 refine xlq func28 fun K=>?_;refine xxx rfl fun v0 Y0 V=>?_;have V:Aa 9 1 v0 (scs (Ad (s.take 0))) Y0:=V;refine ax ?_;refine xhq (fun m_ l p_ L_=>∃(j:Nat)(v:Value)(Y:Pcs),m_=s.length-j/\l=[(0,none,sv s),(3,none,v),(4,none,.J ((j:Nat):Int))]/\p_=p/\L_=[Y]/\j<=s.length/\Aa 9 1 v (scs (Ad (s.take j))) Y) ⟨0,_,_,rfl,rfl,rfl,rfl,Nat.zero_le _,V⟩ sb ?_;clear V;rintro _ _ p _ IH ⟨j,v,Y,rfl,rfl,rfl,rfl,hj,o⟩;have a2:=xyp (s.take j);rw[List.length_take]at a2;refine cq (fun cd=>?_) (fun cd=>?_)
 ·have O:j<s.length:=om;have e1:s.getD (((j:Nat):Int).toNat) 0=s.getD j 0:=rfl;refine ax ?_;refine ro_y rfl (xej rfl rfl sdt sdt ⟨om,om⟩) ?_;rw[e1];refine cq (fun ce=>?_) (fun ce=>?_)
  ·have hc:s.getD j 0=32:=UInt8.toNat_inj.1 (by show _=32;omega);refine ax ?_;refine xxx rfl fun v3 Y3 o3=>?_;have o3:Aa 9 1 v3 (scs [[]]) Y3:=o3;refine xiv rfl rfl o o3 (by simp[scs,sv,Bj]) (by rw[xmx];simp[scs];omega) fun v4 Y4 o4=>?_;exact bkq (IH _ _ _ om ⟨j+1,v4,Y4,rfl,rfl,rfl,rfl,om,o4.as (by rw[xxp O,xsm,if_pos hc];simp[scs])⟩)
  ·have hc:s.getD j 0≠32:=fun z=>ce (by rw[z];rfl);obtain⟨a,c,rfl,-⟩:=o.val;rw[xmx]at o⊢;have M:=xaj (s.take j);have a3:=List.length_pos_iff.2 M;have hi:((((Ad (s.take j)).length:Nat):Int)-1).toNat=(Ad (s.take j)).length-1:=om;have H:(scs (Ad (s.take j)))[(Ad (s.take j)).length-1]?=some [sv ((Ad (s.take j)).getLastD [])]:=by
    rw[scs,List.getElem?_map,List.getElem?_eq_getElem om];have:(Ad (s.take j)).getLastD []=(Ad (s.take j))[(Ad (s.take j)).length-1]:=by
     rw[List.getLastD_eq_getLast?,List.getLast?_eq_getElem?,List.getElem?_eq_getElem om];rfl
    rw[this];rfl
   refine drq [9] R11 ?_;refine de_y rfl rfl (xgm rfl rfl sdt sdt o ⟨om,by rw[xmx];omega⟩) ?_;refine de_y rfl rfl (xgb rfl sdt o rfl ?_ rfl (j:=(((Ad (s.take j)).length:Int)-1).toNat) (q:=0) (e:=[sv ((Ad (s.take j)).getLastD [])]) (u:=sv ((Ad (s.take j)).getLastD []))) ?_
   ·rw[hi];exact H
   refine ex ?_;refine de_y rfl rfl (xej rfl rfl sdt sdt ⟨om,om⟩) ?_;rw[e1];refine xvz rfl rfl fun v5 Y5 o5=>?_;have o5:Aa 5 1 v5 (bcs [s.getD j 0]) Y5:=o5;refine yar (a:=[s.getD j 0]) rfl rfl o5 ?_;refine xa ?_;refine ro_y rfl (xow rfl rfl (by
    have:=xpk (s:=s.take j) (x:=(Ad (s.take j)).getLastD []) (by
     rw[List.getLastD_eq_getLast?,List.getLast?_eq_some_getLast M];exact List.getLast_mem M)
    rw[List.length_take]at this;simp only[List.length_cons,List.length_nil];omega)) ?_
   refine ax ?_;refine xcv rfl rfl o om (by rw[xmx];omega) ?_;refine xkk (i:=(Ad (s.take j)).length-1) (j:=0) (e:=[sv ((Ad (s.take j)).getLastD [])]) (vs:=[sv ((Ad (s.take j)).getLastD []++[s.getD j 0])]) rfl rfl o ?_ rfl rfl rfl ?_ s_ fun Y6 o6=>?_
   ·rw[hi];rfl
   ·exact H
   exact bkq (IH _ _ _ om ⟨j+1,_,Y6,rfl,rfl,rfl,rfl,om,o6.as (by rw[xxp O,xsm,if_neg hc];exact yfc M)⟩)
 obtain rfl:j=s.length:=om;rw[List.take_length]at o;refine ax ?_;exact K.r rfl rfl fun _ H_=>⟨Y,o,Eu H_⟩
theorem yg0:LnP p lnz (.agg #[sv [],.J 0,.slice none 0 0,sv []]):=⟨none,0,rfl,Nat.le_refl _,Sl.nil _ _ _⟩
theorem cf16(s:Str)(hs:s.length<=900):Lc prog md p 16 #[sv s] (fun v p'=>LnP p' (Ag s) v):=by
 intro h hp;refine xhz hp func16 fun _ _ _ K=>?_;refine lq fun b2=>?_;refine ax ?_;refine xjb rfl rfl (cf28 s om) fun v0 Y0 o0=>?_;refine xzq o0 (m:=(Ad s).length) (xmx _) d_ fun p1 a c g1 e1 hc S=>?_;subst e1;have S:At p1 a (Ad s).length (Ad s):=S;have S1:Sl p1 a (Ad s).length 1 (scs (Ad s)):=S;have hR:Ag s=if Dz (Ad s)=true then Ei ((Ad s).getD 1 []) ((Ad s).drop 2)else Ei [] (Ad s):=rfl
 have O:0<(Ad s).length:=List.length_pos_iff.2 (xaj s);have a9:=xyp s;generalize Ad s=ps at*;rw[hR]at K;clear hR o0;refine ax ?_;refine ro_y rfl (xdj rfl sdt (fun _=>At.get S (i:=0) O) (u:=sv (ps.getD 0 []))) ?_;refine ax ?_;refine ro_y rfl (xfv rfl rfl sdu sdu (fun c=>⟨⟨om,by simp at c;omega⟩,Sl.ne S1 O⟩)) ?_;refine ro_y rfl (xdj rfl sdu (fun c=>At.get S (i:=1) (by simp at c;omega)) (u:=sv (ps.getD 1 []))) ?_;refine cgq (fun _=>cf18 (ps.getD 1 [])) ?_;refine ax ?_
 refine xfz (fun l' p_ L_=>∃(a2:Option Addr)(c2:Nat)(H:List Str)(M:Str),l'=[(2,none,w_ b2 0),(3,none,.slice a2 H.length c2),(4,none,sv M)]/\p_=p1/\L_=[[(b2,.cells #[sv [],.J 0,.slice none 0 0,sv []] 48 (0,0))]]/\At p1 a2 H.length H/\0<H.length/\H.length<=c2/\H.length<=901/\
  (if Dz ps=true then Ei (ps.getD 1 []) (ps.drop 2)else Ei [] ps)=Ei M H) ?_ fun k' nx=>?_
 rotate_left
 ·have ek:(decide (2<((ps.length:Nat):Int))&&decide (ps.getD 0 []=[107,101,101,112])&&isLet (ps.getD 1 []))=Dz ps:=by
   unfold Dz;rw[xpr];congr 2;rw[Bool.eq_iff_iff];simp;omega
  refine cq (fun cc=>?_) (fun cc=>?_)
  ·have hk:Dz ps=true:=by rw[<- ek];simp;simpa using cc
   have h2:2<ps.length:=by unfold Dz at hk;simp at hk;exact hk.1.1
   refine ax ?_;refine ro_y rfl (y_lp rfl (At.get S (i:=1) om)) ?_;refine ax ?_;refine xv0 (j:=2) rfl rfl ⟨om,hc⟩ ?_;refine ax ?_;have hd:(ps.drop 2).length=ps.length-2:=List.length_drop;refine xbx (l':=[(2,none,w_ b2 0),(3,none,.slice (Cf a c 2 1) (ps.drop 2).length (c-2)),(4,none,sv (ps.getD 1 []))]) (nx _ _ _ ⟨Cf a c 2 1,c-2,ps.drop 2,ps.getD 1 [],rfl,rfl,rfl,?_,om,om,om,by rw[if_pos hk]⟩) ⟨rfl,by rw[hd];rfl,rfl,trivial⟩;have z:=xmk S 2 om hc;rw[<- hd]at z;exact z
  ·have hk:¬ Dz ps=true:=by rw[<- ek];simp;simpa using cc
   refine ax ?_;refine xbx (l':=[(2,none,w_ b2 0),(3,none,.slice a ps.length c),(4,none,sv [])]) (nx _ _ _ ⟨a,c,ps,[],rfl,rfl,rfl,S,O,hc,om,by rw[if_neg hk]⟩) ⟨rfl,rfl,rfl,trivial⟩
 rintro _ p1 _ ⟨a2,c2,H,M,rfl,rfl,rfl,S2,a3,a6,b6,eq⟩;rw[eq]at K;have S3:Sl p1 a2 H.length 1 (scs H):=S2;clear eq S S1 a9 hc O;refine ax ?_;refine ro_y rfl (y_lp rfl (At.get S2 (i:=0) a3)) ?_;refine cdq (cf29 (H.getD 0 [])) ?_;have b3:=xzf (H.getD 0 [])
 have hQ:Ei M H=if(Aq (H.getD 0 [])).1=0\/H.length≠(Aq (H.getD 0 [])).2+1\/(M≠[]/\(Aq (H.getD 0 [])).1≠3)then lnz
  else if H.tail.all Ba=true then⟨H.getD 0 [],(Aq (H.getD 0 [])).1,H.tail,M⟩else lnz:=by unfold Ei;rw[xpr]
 rw[hQ]at K;generalize Aq (H.getD 0 [])=kk at*;obtain⟨b4,b5⟩:=kk;simp only at b3 K;refine cq (fun cc=>?_) (fun cc=>?_)
 ·rw[if_pos (by
   rcases cc with(c|c)|c
   ·exact .inl om
   ·exact .inr (.inl om)
   ·exact .inr (.inr ⟨c.1,by have:=c.2;omega⟩))]at K
  refine ax ?_;exact xez func16 rfl (xpq rfl .nil) fun _ H_=>K _ _ (xqq H_ g1 (yg0))
 rw[if_neg (by
  rintro(c|c|c)
  ·exact cc (.inl (.inl om))
  ·exact cc (.inl (.inr om))
  ·exact cc (.inr ⟨c.1,by have:=c.2;omega⟩))]at K
 refine ax ?_
 refine xhq (fun m_ l p_ L_=>∃(j:Nat),m_=H.length-j/\l=[(2,none,w_ b2 0),(3,none,.slice a2 H.length c2),(4,none,sv M),(5,none,.J ((b4:Nat):Int)),(7,none,.J ((j:Nat):Int))]/\p_=p1/\L_=[[(b2,.cells #[sv [],.J 0,.slice none 0 0,sv []] 48 (0,0))]]/\
  1<=j/\j<=H.length/\ ∀i,1<=i->i<j->Ba (H.getD i [])=true) ⟨1,rfl,rfl,rfl,rfl,Nat.le_refl _,a3,fun i _ _=>om⟩ sb ?_
 rintro _ _ p1 _ IH ⟨j,rfl,rfl,rfl,rfl,b7,hj,a7⟩;refine cq (fun cd=>?_) (fun cd=>?_)
 ·have a4:j<H.length:=om;refine ax ?_;refine ro_y rfl (y_lp rfl (At.get S2 a4)) ?_;refine cdq (cf17 (H.getD j [])) ?_;have eN:Pk (Cu (H.getD j []))=.tuple #[.J ((Cu (H.getD j [])).getD 0),.bool (Cu (H.getD j [])).isSome]:=rfl;rw[eN];refine ax ?_;refine ro_y rfl (xdj rfl sdu (fun _=>At.get S2 a4) (u:=sv (H.getD j []))) ?_;refine cgq (fun _=>cf18 (H.getD j [])) ?_;refine cq (fun ce=>?_) (fun ce=>?_)
  ·have a5:Ba (H.getD j [])=false:=by
    unfold Ba;cases hN:(Cu (H.getD j [])).isSome<;>cases hL:isLet (H.getD j [])<;>simp_all
   have a8:H.getD j []∈H.tail:=by
    rw[List.mem_iff_getElem];refine⟨j-1,by rw[List.length_tail];omega,?_⟩;rw[List.getElem_tail,List.getD_eq_getElem?_getD,List.getElem?_eq_getElem a4,Option.getD_some];congr 1;omega
   rw[if_neg (by
    intro V;have:=List.all_eq_true.1 V _ a8;rw[a5]at this;cases this)]at K
   refine ax ?_;exact xez func16 rfl (xpq rfl .nil) fun _ H_=>K _ _ (xqq H_ g1 (yg0))
  refine ax ?_;have a5:Ba (H.getD j [])=true:=by
   unfold Ba;cases hN:(Cu (H.getD j [])).isSome<;>cases hL:isLet (H.getD j [])<;>simp_all
  exact bkq (IH _ _ _ om ⟨j+1,rfl,rfl,rfl,rfl,om,om,fun i hi b8=>by
   rcases Nat.lt_or_ge i j with h|h
   ·exact a7 i hi h
   ·have:i=j:=om;rw[this];exact a5⟩)
 have b0:j=H.length:=om;subst b0;have V:H.tail.all Ba=true:=by
  rw[List.all_eq_true];intro x hx;obtain⟨i,hi,rfl⟩:=List.mem_iff_getElem.1 hx;rw[List.length_tail]at hi;have:=a7 (i+1) om om;rw[List.getD_eq_getElem?_getD,List.getElem?_eq_getElem om,Option.getD_some]at this;rw[List.getElem_tail];exact this
 rw[if_pos V]at K;refine ax ?_;have ht:H.tail.length=H.length-1:=List.length_tail;have z:=xmk S2 1 om a6;rw[List.drop_one,<- ht]at z;refine xrs [] R7 ?_;refine ex ?_;refine de_y rfl rfl (y_lp rfl (At.get S2 (i:=0) a3)) ?_;refine ex ?_;refine de_y rfl rfl (xhl rfl rfl ⟨om,a6⟩ (j:=1)) ?_;refine xa ?_;exact xez func16 rfl (xpq rfl .nil) fun _ H_=>K _ _ (xqq H_ g1 ⟨Cf a2 c2 1 1,c2-1,by rw[ht];rfl,by rw[ht];omega,z⟩)
open Go.X.Flow (ics)
theorem cf8{a:Option Addr}(n c:Nat)(f z:Int):Kc prog md p 8 #[.agg #[.slice a n c,.J f,.J z]] (fun v=>(∃q:Bool,v=.bool q/\(q=true->(0<=f/\f<=z)/\z<=((n:Nat):Int)))):=by
 refine xkq func8 fun K b1=>?_;refine K.q ?_;exact⟨_,rfl,fun e=>by simpa using e⟩
theorem cf11(s:Str)(hs:s.length<=900):Dc prog md p 11 #[sv s] (.bool (decide ((Ag s).k=2))):=by
 refine xlq func11 fun K=>?_;refine cpq (cf16 s hs) ?_;rintro _ M H ⟨a,c,rfl,hc,S⟩;generalize Ag s=x at*;refine K.q ?_;exact congrArg Value.bool (by rw[Bool.eq_iff_iff];simp;omega)
theorem cf12(s:Str)(hs:s.length<=900):Dc prog md p 12 #[sv s] (.bool (Cr s)):=by
 refine xlq func12 fun K=>?_;unfold Cr at K;refine cpq (cf16 s hs) ?_;rintro _ p1 g1 ⟨a,c,rfl,hc,S⟩;have h4:=xe1 s;generalize Ag s=x at*;have S1:Sl p1 a x.a.length 1 (scs x.a):=S;refine ax ?_;refine xnq (fun m l'=>∃(j:Nat),m=x.a.length-j/\l'=[(3,none,.slice a x.a.length c),(4,none,.J ((j:Nat):Int))]/\j<=x.a.length/\ ∀i,i<j->isLet (x.a.getD i [])=false) ⟨0,rfl,rfl,Nat.zero_le _,fun i hi=>absurd hi (Nat.not_lt_zero _)⟩ sb ?_;rintro _ _ V ⟨j,rfl,rfl,hj,O⟩;refine cq (fun cd=>?_) (fun cd=>?_)
 ·have H:j<x.a.length:=om;refine ax ?_;refine ro_y rfl (y_lp rfl (At.get S H)) ?_;refine cdq (cf18 (x.a.getD j [])) ?_;refine cq (fun M=>?_) (fun M=>?_)
  ·refine K.q ?_;exact congrArg Value.bool (List.any_eq_true.2 ⟨x.a.getD j [],by rw[Flow.Au H];exact List.getElem_mem _,M⟩).symm
  exact bkq (V _ om ⟨j+1,rfl,rfl,om,fun i hi=>by
   by_cases z:i=j
   ·rw[z];simpa using M
   ·exact O i om⟩)
 refine K.q ?_;exact congrArg Value.bool (by
  refine(List.any_eq_false.2 fun s hs=>?_).symm;obtain⟨i,hi,rfl⟩:=List.mem_iff_getElem.1 hs;have:=O i om;rw[Flow.Au hi]at this;rw[this];simp)
theorem cf14{a:Option Addr}(c:Nat)(xss:List (List Str))(S:StsS p a n xss)(hn:n<=10)(hb:∀i,i<n->(xss.getD i []).length<=1000):Lc prog md p 14 #[.slice a n c] (fun v p'=>∃a' c',v=.slice a' xss.flatten.length c'/\xss.flatten.length<=c'/\At p' a' xss.flatten.length xss.flatten):=by
 obtain⟨es,S0,hl,hS⟩:=S;subst hl;have a3:=yfv hb;refine xlq func14 fun K=>?_;refine ax ?_;refine xjj 9 1 fun o0=>?_;refine xhq (fun m_ l_ p_ L_=>∃(j:Nat)(v:Value)(Y:Pcs),m_=xss.length-j/\l_=[(0,none,.slice a xss.length c),(3,none,v),(4,none,.J ((j:Nat):Int))]/\p_=p/\L_=[Y]/\j<=xss.length/\Aa 9 1 v (scs (xss.take j).flatten) Y) ⟨0,_,_,rfl,rfl,rfl,rfl,Nat.zero_le _,o0⟩ sb ?_;clear o0;rintro _ _ p _ IH ⟨j,v,Y,rfl,rfl,rfl,rfl,hj,o⟩;have hf:=a3 j hj;refine cq (fun cd=>?_) (fun cd=>?_)
 ·have M:j<xss.length:=om;obtain⟨b,cb,eb,Sb⟩:=hS j M;have O:Sl p b (xss.getD j []).length 1 (scs (xss.getD j [])):=Sb;have a4:=hb j M;refine ax ?_;refine ro_y rfl (y_lp rfl (Sl.get S0 j _ eb 0 _ rfl)) ?_;refine ax ?_;refine xiw rfl rfl o O (yfz _) (by rw[xmx];omega) fun v2 Y2 o2=>?_;exact bkq (IH _ _ _ om ⟨j+1,v2,Y2,rfl,rfl,rfl,rfl,om,o2.as (by rw[xu1 M];simp[scs])⟩)
 obtain rfl:j=xss.length:=om;rw[List.take_length]at o;refine ax ?_;refine xiq o (m:=xss.flatten.length) (xmx _) d_ fun p2 a2 c2 g2 e2 V S2=>?_;subst e2;exact K.r rfl rfl fun _ H=>xqq H g2 ⟨a2,c2,rfl,V,S2⟩
theorem cf74{a:Option Addr}(n c:Nat)(ks:List (Str×Int))(S:Sl p a n 2 (kcs ks))(hn:n<=1000)(V:KOk ks)(s:Str):Kc prog md p 74 #[.slice a n c,sv s] (fun v=>(∃(x:Int)(q:Bool),v=.tuple #[.J x,.bool q]/\ -1000000<=x/\x<=1000000)):=by
 have hl:ks.length=n:=by rw[<- xdt];exact S.len
 refine xlq func74 fun K=>?_;refine xnq (fun m l'=>∃(j:Nat),m=n-j/\l'=[(0,none,.slice a n c),(1,none,sv s),(6,none,.J ((j:Nat):Int))]/\j<=n) ⟨0,rfl,rfl,Nat.zero_le _⟩ sb ?_;rintro _ _ IH ⟨j,rfl,rfl,hj⟩;refine cq (fun cd=>?_) (fun cd=>?_)
 ·have a2:j<n:=om;have O:=V j om;have M:=Sl.get S j _ (yrk om) 0 _ rfl;have H:=Sl.get S j _ (yrk om) 1 _ rfl;refine ax ?_;refine ro_y rfl (y_lp rfl M) ?_;refine cq (fun ce=>?_) (fun ce=>?_)
  ·refine ax ?_;refine ro_y rfl (y_lp rfl H) ?_;refine K.q ?_;exact⟨_,true,rfl,O⟩
  exact bkq (IH _ om ⟨j+1,rfl,rfl,om⟩)
 refine K.q ?_;exact⟨0,false,rfl,d_,d_⟩
theorem cf89{a:Option Addr}(n c:Nat)(l:List Int)(I:Ax p a n l)(hn:n<=6)(O:∀i,i<n-> -1000000<=l.getD i 0/\l.getD i 0<=1000000):Kc prog md p 89 #[.slice a n c] (fun v=>(∃s:Str,v=sv s)):=by
 have V:∀i,i<n->(txt (l.getD i 0)).length<=20:=fun i hi=>xuz (by have:=O i hi;unfold i64;omega);refine xlq func89 fun K=>?_;refine cq (fun cc=>?_) (fun cc=>?_)
 ·refine K.q ?_;exact⟨_,rfl⟩
 have H:0<n:=om;refine ax ?_;refine xpx rfl rfl (cf90 _ ⟨Int.le_trans d_ (O 0 H).1,Int.le_trans (O 0 H).2 d_⟩) ?_;refine ax ?_;refine xnq (fun m l'=>∃(j:Nat)(s:Str),m=n-j/\l'=[(0,none,.slice a n c),(3,none,sv s),(4,none,.J ((j:Nat):Int))]/\j<=n/\s.length<=21*j) ⟨1,_,rfl,rfl,H,Nat.le_trans (V 0 H) d_⟩ sb ?_;rintro _ _ IH ⟨j,s,rfl,rfl,hj,hs⟩;refine cq (fun cd=>?_) (fun cd=>?_)
 ·have M:j<n:=om;have hx:=O j M;have tx:=V j M;refine ax ?_;refine xpx rfl rfl (cf90 _ ⟨om,om⟩) ?_;refine ro_y rfl (xow rfl rfl (by simp only[List.length_cons,List.length_nil];omega) (a:=[32])) ?_;refine ro_y rfl (xow rfl rfl (by simp only[List.length_append,List.length_cons,List.length_nil];omega)) ?_;exact bkq (IH _ om ⟨j+1,s++([32]++txt (l.getD j 0)),rfl,rfl,om,by simp only[List.length_append,List.length_cons,List.length_nil];omega⟩)
 refine K.q ?_;exact⟨s,rfl⟩
theorem cf49{a:Option Addr}(n c:Nat)(ks:List (Str×Int))(S:Sl p a n 2 (kcs ks))(hn:n<=1000)(hk:KOk ks)(s:Str)(x:Int)(hx: -1000000<=x/\x<=1000000):Lc prog md p 49 #[.slice a n c,sv s,.J x] (fun v p'=>∃a m c M,v=.slice a m c/\m<=n+1/\Sl p' a m 2 (kcs M)/\KOk M):=by
 have hl:ks.length=n:=by rw[<- xdt];exact S.len
 refine xlq func49 fun K=>?_;refine ax ?_;refine xxx rfl fun v1 Y1 V=>?_;have V:Aa 151 2 v1 (kcs [(s,x)]) Y1:=V;refine ax ?_;refine xhq (fun m_ l_ p_ L_=>∃(j:Nat)(v:Value)(Y:Pcs)(M:List (Str×Int)),m_=n-j/\l_=[(0,none,.slice a n c),(1,none,sv s),(7,none,v),(8,none,.J ((j:Nat):Int))]/\p_=p/\L_=[Y]/\j<=n/\Aa 151 2 v (kcs M) Y/\KOk M/\M.length<=j+1) ⟨0,v1,Y1,_,rfl,rfl,rfl,rfl,Nat.zero_le _,V,fun i hi=>by
  obtain rfl:i=0:=by simpa using hi
  exact hx,Nat.le_refl _⟩ sb ?_
 clear V;rintro _ _ p _ IH ⟨j,v,Y,M,rfl,rfl,rfl,rfl,hj,o,O,hm⟩;refine cq (fun cd=>?_) (fun cd=>?_)
 ·have a4:j<n:=om;have a3:=hk j om;have hc:=Sl.get S j _ (yrk om);refine ax ?_;refine ro_y rfl (y_lp rfl (hc 0 _ rfl)) ?_;refine cq (fun ce=>?_) (fun ce=>?_)
  ·refine ax ?_;refine ro_y rfl (xmj rfl hc) ?_;refine xxx rfl fun v2 Y2 o2=>?_;have o2:Aa 151 2 v2 [[sv (ks.getD j ([],0)).1,.J (ks.getD j ([],0)).2]] Y2:=o2;refine xiv rfl rfl o o2 (by simp[Bj,sv]) (by rw[xdt];simp;omega) fun v3 Y3 o3=>?_;rw[ywd]at o3;exact bkq (IH _ _ _ om ⟨j+1,v3,Y3,_,rfl,rfl,rfl,rfl,om,o3,O.snoc a3,by simp;omega⟩)
  exact bkq (IH _ _ _ om ⟨j+1,v,Y,M,rfl,rfl,rfl,rfl,om,o,O,om⟩)
 refine ax ?_;refine xiq o (m:=M.length) (xdt _) d_ fun p2 a2 c2 g2 e2 a5 S2=>?_;subst e2;refine ax ?_;exact K.r rfl rfl fun _ H=>xqq H g2 ⟨a2,_,c2,M,rfl,om,S2,O⟩
open Go.X.Flow (ics HsL)
variable{b:Option Addr}
theorem cf47{a:Option Addr}(n c:Nat)(ks:List (Str×Int))(S:Sl p a n 2 (kcs ks))(hn:n<=1000)(hk:KOk ks)(m cb:Nat)(M:List Str)(A:At p b m M)(hm:m<=100):Lc prog md p 47 #[.slice a n c,.slice b m cb] (fun v p'=>∃a' n' c' xs q,v=.tuple #[.slice a' n' c',.bool q]/\Ax p' a' n' xs/\(q=true->n'=m)):=by
 refine xlq func47 fun K=>?_;refine ax ?_;refine xjj 3 1 fun o0=>?_;refine xhq (fun m_ l_ V L_=>∃(j:Nat)(v:Value)(Y:Pcs)(xs:List Int),m_=m-j/\l_=[(0,none,.slice a n c),(1,none,.slice b m cb),(6,none,v),(7,none,.J ((j:Nat):Int))]/\V=p/\L_=[Y]/\j<=m/\Aa 3 1 v (ics xs) Y/\xs.length=j) ⟨0,_,_,[],rfl,rfl,rfl,rfl,Nat.zero_le _,o0,rfl⟩ sb ?_;clear o0;rintro _ _ p _ IH ⟨j,v,Y,xs,rfl,rfl,rfl,rfl,hj,o,hl⟩;refine cq (fun cd=>?_) (fun cd=>?_)
 ·have O:j<m:=om;refine ax ?_;refine ro_y rfl (y_lp rfl (At.get A O)) ?_;refine cdq (cf17 (M.getD j [])) ?_;rw[show Pk (Cu (M.getD j []))=.tuple #[.J ((Cu (M.getD j [])).getD 0),.bool (Cu (M.getD j [])).isSome] from rfl];refine ax ?_;refine xfz (fun l' V L_=>∃(x:Int)(q:Bool),l'=[(0,none,.slice a n c),(1,none,.slice b m cb),(6,none,v),(7,none,.J ((j:Nat):Int)),(8,none,.J x),(9,none,.bool q)]/\V=p/\L_=[Y]) ?_ fun k' nx=>?_;rotate_left
  ·refine cq (fun _=>?_) (fun _=>?_)
   ·refine ax ?_;refine ro_y rfl (y_lp rfl (At.get A O)) ?_;refine ckq (cf74 n c ks S hn hk (M.getD j [])) ?_;rintro _ ⟨x,q,rfl,_,_⟩;refine ax ?_;exact xbx (nx _ _ _ ⟨x,q,rfl,rfl,rfl⟩) ⟨rfl,rfl,rfl,rfl,rfl,rfl,trivial⟩
   ·refine ax ?_;exact xbx (nx _ _ _ ⟨_,_,rfl,rfl,rfl⟩) ⟨rfl,rfl,rfl,rfl,rfl,rfl,trivial⟩
  rintro _ p _ ⟨x,q,rfl,rfl,rfl⟩;refine cq (fun ce=>?_) (fun ce=>?_)
  ·refine ax ?_;exact K.r rfl rfl fun _ H=>xqq H (.refl _ _ _) ⟨none,0,0,[],false,rfl,Sl.nil _ _ _,fun z=>by cases z⟩
  refine ax ?_;refine xxx rfl fun v2 Y2 o2=>?_;have o2:Aa 3 1 v2 (ics [x]) Y2:=o2;refine xiv rfl rfl o o2 (by simp[ics,Bj]) (by simp[ics];omega) fun v3 Y3 o3=>?_;exact bkq (IH _ _ _ om ⟨j+1,v3,Y3,xs++[x],rfl,rfl,rfl,rfl,om,o3.as (by simp[ics]),by simp;omega⟩)
 obtain rfl:j=m:=om;refine ax ?_;refine xiq o (m:=j) (by rw[xrq];exact hl) d_ fun p2 a2 c2 g2 e2 a3 S2=>?_;subst e2;refine ax ?_;exact K.r rfl rfl fun _ H=>xqq H g2 ⟨a2,_,c2,xs,true,rfl,S2,fun _=>rfl⟩
theorem ym0(h:HsL n l)(hn:n<=6):∀i,i<l.length-> -1000000<=l.getD i 0/\l.getD i 0<=1000000:=fun i hi=>by have:=h i hi;omega
theorem cf48(A:TA)(t:Twn)(T:TwP p A t)(hv:Cj t=0)(w:Str){a:Option Addr}(n c:Nat)(xs:List Int)(I:Ax p a n xs)(hw:Aq w=(3,n)):Kc prog md p 48 #[twV A t,sv w,.slice a n c] (fun v=>(∃(s:Str)(x:Int)(q:Bool),v=.tuple #[sv s,.J x,.bool q]/\ -1000000<=x/\x<=1000000)):=by
 intro h hp;obtain⟨q1,q2,q3⟩:=xcw.1 hv;have ok:t.s.ok:=ypw.1 q1;obtain⟨hm,V⟩:=Flow.M7 q2;have O:Cist.Ok t.y.size t.y.start t.y.days:=Cist.B5.1 q3;have h6:=V.nh;have I1:Sl p a n 1 (ics xs):=I;refine xtq hp func48 fun K b3=>?_;refine lq fun a3=>?_;refine ax ?_
 refine xfz (fun l' p_ L_=>∃(x e:Int)(b:Option Addr)(m cb:Nat)(ys:List Int)(u v:Int),l'=[(1,none,sv w),(7,none,.J x),(9,none,.slice b m cb),(10,none,w_ a3 0),(11,none,.J e)]/\PG h.size [] p p_/\
  L_=[[(a3,.cells #[.J u,.J v] 100 (0,0))],[(b3,.cells (tcs A t).toArray 33 (0,0))]]/\Ax p_ b m ys/\m<=6/\(∀i,i<m-> -1000000<=ys.getD i 0/\ys.getD i 0<=1000000)/\(-1000000<=x/\x<=1000000)/\(-1000000<=u/\u<=1000000)/\ -1000000<=v/\v<=1000000) ?_ fun k' nx=>?_
 rotate_left
 ·have nm:=fun(x e:Int)(h1: -1000000<=x)(M:x<=1000000)=>nx _ _ _ ⟨x,e,none,0,0,[],0,0,rfl,.refl _ _ _,rfl,Sl.nil _ _ _,Nat.zero_le _,fun i hi=>absurd hi (Nat.not_lt_zero _),⟨h1,M⟩,d_,d_⟩;have sp:=fun(u v e:Int)(h1: -1000000<=u/\u<=1000000)(M: -1000000<=v/\v<=1000000)=>nx _ _ _ ⟨0,e,none,0,0,[],u,v,rfl,.refl _ _ _,rfl,Sl.nil _ _ _,Nat.zero_le _,fun i hi=>absurd hi (Nat.not_lt_zero _),d_,h1,M⟩;have one:∀{u:Str},w=u->Aq u=(3,1)->0<n:=fun e1 e2=>by rw[e1,e2]at hw;have:=congrArg Prod.snd hw;simp at this;omega
  refine cq (fun H=>?_) (fun _=>?_)
  ·refine ckq (cf75 t.s T.s ok) ?_;rintro _ ⟨x,e,rfl,h1,M⟩;refine ax ?_;exact xbx (nm x e om om) ⟨rfl,rfl,rfl,rfl,rfl,trivial⟩
  refine cq (fun H=>?_) (fun _=>?_)
  ·refine ckq (cf76 t.s T.s ok) ?_;rintro _ ⟨x,e,rfl,h1,M⟩;refine ax ?_;exact xbx (nm x e om om) ⟨rfl,rfl,rfl,rfl,rfl,trivial⟩
  refine cq (fun H=>?_) (fun _=>?_)
  ·have hn:0<n:=one H d_;refine drq [5] R10 ?_;refine xap rfl rfl rfl (cf77 t.s T.s ok (xs.getD 0 0)) ?_;rintro _ ⟨x,e,rfl,h1,M⟩;refine xa ?_;exact xhk (xbx (nm x e om om) ⟨rfl,rfl,rfl,rfl,rfl,trivial⟩) fun _ s=>s
  refine cq (fun H=>?_) (fun _=>?_)
  ·have hn:0<n:=one H d_;refine drq [5] R10 ?_;refine xap rfl rfl rfl (cf78 t.s T.s ok (xs.getD 0 0)) ?_;rintro _ ⟨x,e,rfl,h1,M⟩;refine xa ?_;exact xhk (xbx (nm x e om om) ⟨rfl,rfl,rfl,rfl,rfl,trivial⟩) fun _ s=>s
  refine cq (fun H=>?_) (fun _=>?_)
  ·refine ckq (fun h pe=>cf79 t.b V hm pe T.b) ?_;rintro _ ⟨x,e,rfl,h1,M⟩;refine ax ?_;exact xbx (nm x e om om) ⟨rfl,rfl,rfl,rfl,rfl,trivial⟩
  refine cq (fun H=>?_) (fun _=>?_)
  ·have hn:0<n:=one H d_;refine drq [5] R10 ?_;refine xap rfl rfl rfl (fun h pe=>cf80 t.b V hm pe T.b (xs.getD 0 0)) ?_;rintro _ ⟨x,e,rfl,h1,M⟩;refine xa ?_;exact xhk (xbx (nm x e om om) ⟨rfl,rfl,rfl,rfl,rfl,trivial⟩) fun _ s=>s
  refine cq (fun H=>?_) (fun _=>?_)
  ·refine ckq (cf81 t.y.days T.d O) ?_;rintro _ ⟨x,e,rfl,h1,M⟩;refine ax ?_;exact xbx (nm x e om om) ⟨rfl,rfl,rfl,rfl,rfl,trivial⟩
  refine cq (fun H=>?_) (fun _=>?_)
  ·refine ckq (cf82 t.y.days T.d O) ?_;rintro _ ⟨x,e,rfl,h1,M⟩;refine ax ?_;exact xbx (nm x e om om) ⟨rfl,rfl,rfl,rfl,rfl,trivial⟩
  refine cq (fun H=>?_) (fun _=>?_)
  ·refine ckq (cf83 t.y.days T.d O) ?_;rintro _ ⟨x,e,rfl,h1,M⟩;refine ax ?_;exact xbx (nm x e om om) ⟨rfl,rfl,rfl,rfl,rfl,trivial⟩
  refine cq (fun H=>?_) (fun _=>?_)
  ·have hn:0<n:=one H d_;refine drq [5] R10 ?_;refine xap rfl rfl rfl (cf84 t.y.days T.d O (xs.getD 0 0)) ?_;rintro _ ⟨x,e,rfl,h1,M⟩;refine xa ?_;exact xhk (xbx (nm x e om om) ⟨rfl,rfl,rfl,rfl,rfl,trivial⟩) fun _ s=>s
  refine cq (fun H=>?_) (fun _=>?_)
  ·refine cpq (fun h pe=>cf85 t.b V hm pe T.b) ?_;rintro _ p2 g2 ⟨a2,c2,ys,rfl,I2,hb⟩;refine ax ?_;exact xbx (nx _ _ _ ⟨0,0,a2,_,c2,ys,0,0,rfl,g2,rfl,I2,h6,fun i hi=>by have:=hb (ys.getD i 0) (by have:=I2.len;rw[Flow.Au om];exact List.getElem_mem _);omega,d_,d_,d_⟩) ⟨rfl,rfl,rfl,rfl,rfl,trivial⟩
  refine cq (fun H=>?_) (fun _=>?_)
  ·refine cpq (fun h pe=>cf86 t.b V hm pe T.b) ?_;rintro _ p2 g2 ⟨a2,c2,e,ys,rfl,I2,a5,hb⟩;refine ax ?_;exact xbx (nx _ _ _ ⟨0,e,a2,_,c2,ys,0,0,rfl,g2,rfl,I2,a5,ym0 hb h6,d_,d_,d_⟩) ⟨rfl,rfl,rfl,rfl,rfl,trivial⟩
  refine cq (fun H=>?_) (fun _=>?_)
  ·have hn:0<n:=one H d_;refine ax ?_;refine xuv [5,9] R10 a3 ?_;refine ex ?_;refine xap rfl rfl rfl (fun h pe=>cf87 t.b V hm pe T.b (xs.getD 0 0)) ?_;rintro _ ⟨x,y,e,rfl,h1,M⟩;refine xa ?_;exact xhk (xbx (sp x y e om om) ⟨rfl,rfl,rfl,rfl,rfl,trivial⟩) fun _ s=>s.perm (List.Perm.swap _ _ _)
  refine cq (fun H=>?_) (fun _=>?_)
  ·have hn:0<n:=one H d_;refine ax ?_;refine xuv [5,9] R10 a3 ?_;refine ex ?_;refine xap rfl rfl rfl (cf88 t.y.days T.d O (xs.getD 0 0)) ?_;rintro _ ⟨x,y,e,rfl,h1,M⟩;refine xa ?_;exact xhk (xbx (sp x y e om om) ⟨rfl,rfl,rfl,rfl,rfl,trivial⟩) fun _ s=>s.perm (List.Perm.swap _ _ _)
  refine ax ?_;exact xbx (nm 0 0 d_ d_) ⟨rfl,rfl,rfl,rfl,rfl,trivial⟩
 rintro _ p1 _ ⟨x,e,b,m,cb,ys,u,v,rfl,g1,rfl,I2,a4,hy,hx,hu,a6⟩;refine cq (fun _=>?_) (fun _=>?_)
 ·refine K.q ?_;exact⟨_,0,false,rfl,d_,d_⟩
 refine cq (fun _=>?_) (fun _=>?_)
 ·refine K.q ?_;exact⟨_,0,false,rfl,d_,d_⟩
 refine cq (fun _=>?_) (fun _=>?_)
 ·refine ckq (cf89 m cb ys I2 a4 hy) ?_;rintro _ ⟨s,rfl⟩;refine K.q ?_;exact⟨s,0,false,rfl,d_,d_⟩
 refine cq (fun _=>?_) (fun _=>?_)
 ·have lu:=xuz (n:=u) ⟨om,om⟩;have lv:=xuz (n:=v) ⟨om,om⟩;refine drq [] R7 ?_;refine xzz rfl rfl rfl (cf90 u ⟨om,om⟩) ?_;refine ex ?_;refine de_y rfl rfl (xow rfl rfl (by simp only[List.length_cons,List.length_nil];omega)) ?_;refine ex ?_;refine xzz rfl rfl rfl (cf90 v ⟨om,om⟩) ?_;refine ex ?_;refine ro_y rfl (xow rfl rfl (by simp only[List.length_append,List.length_cons,List.length_nil];omega)) ?_;refine K.q ?_;exact⟨_,0,false,rfl,d_,d_⟩
 refine ax ?_;refine xpx rfl rfl (cf90 x ⟨om,om⟩) ?_;refine K.q ?_;exact⟨_,x,true,rfl,hx⟩
open Go.X.Flow (Cl Wys wz ics Al Tn Vd tnV)
open Go.X.Cist (Day Bp dz dcs Aj)
theorem cf94(t:Tn)(hn:t.nH<=2^20/\t.nW<=2^20/\t.m<=2^20){h:Heap}(hp:Per p h){a1 a2 V:Option Addr}{c1 c2 c3:Nat}(T:Al p a1 t.nH a2 t.nW V t.m t)(w:Cl):
 Ac prog md 94 #[tnV a1 a2 V c1 c2 c3 t,.agg #[.J w.1,.J w.2]] h (Cn p h fun v p'=>∃(a4 a5 a6:Option Addr)(c4 c5 c6:Nat)(u:Tn),v=tnV a4 a5 a6 c4 c5 c6 u/\Al p' a4 u.nH a5 u.nW a6 u.m u/\(u.nH=t.nH/\u.nW=t.nW/\u.m<=t.m+1)/\u.nH<=c4/\u.nW<=c5/\u.m<=c6):=by
 have Ty:Sl p V t.m 2 (Flow.wcs t.wy):=T.y;refine xtq hp func94 fun K b1=>?_;refine bq fun b2=>?_;refine lq fun b3=>?_;refine coq (cf42 t T hn) ?_;rintro _ _ ⟨x1,y1,x2,y2,x3,y3,Y1,Y2,Y3,rfl,o1,o2,o3,rfl⟩;refine lq fun b4=>?_;refine ax ?_;refine xhk (LL':=[[(b4,.cells #[.slice x1 t.nH y1,.slice x2 t.nW y2,.slice none 0 0] 28 (0,0))],[],(Y1++Y2)++Y3,[(b3,.cells #[.slice none 0 0,.slice none 0 0,.slice none 0 0] 28 (0,0))],[(b2,.cells #[.J w.1,.J w.2] 98 (0,0))],[(b1,.cells (tnV a1 a2 V c1 c2 c3 t).cells 28 (0,0))]]) ?_ fun _ s=>s;have o0:=Aa.empty 98 2
 refine xhq (fun m_ l_ p_ L_=>∃(j:Nat)(q:Bool)(v:Value)(Y:Pcs)(ws:List Cl),m_=t.m-j/\l_=[(2,none,w_ b1 0),(3,none,w_ b2 0),(4,none,w_ b3 0),(5,none,w_ b4 0),(6,none,.bool q),(7,none,.J ((j:Nat):Int))]/\p_=p/\
  L_=[[(b4,.cells #[.slice x1 t.nH y1,.slice x2 t.nW y2,v] 28 (0,0))],Y,(Y1++Y2)++Y3,[(b3,.cells #[.slice none 0 0,.slice none 0 0,.slice none 0 0] 28 (0,0))],[(b2,.cells #[.J w.1,.J w.2] 98 (0,0))],[(b1,.cells (tnV a1 a2 V c1 c2 c3 t).cells 28 (0,0))]]/\
  j<=t.m/\Aa 98 2 v (Flow.wcs ws) Y/\(ws.length<=j+1/\(q=false->ws.length=j))) ⟨0,false,_,_,[],rfl,rfl,rfl,rfl,Nat.zero_le _,o0,s_,fun _=>rfl⟩ sb ?_
 clear o0;rintro _ _ p _ IH ⟨j,q,v,Y,ws,rfl,rfl,rfl,rfl,hj,o,hl,hq⟩;refine cq (fun cd=>?_) (fun cd=>?_)
 ·have a8:j<t.m:=om;refine drq [] R9 ?_;refine de_y rfl rfl (xud rfl sdt (fun _=>T.y.all a8)) ?_;refine xa ?_;refine cgq (fun _=>cf97 w (t.wy.getD j wz)) ?_;refine ax ?_
  refine xfz (fun l' p_ L_=>∃(q:Bool)(v:Value)(Y:Pcs)(ws:List Cl),l'=[(2,none,w_ b1 0),(3,none,w_ b2 0),(4,none,w_ b3 0),(5,none,w_ b4 0),(6,none,.bool q),(7,none,.J ((j:Nat):Int))]/\p_=p/\
   L_=[[(b4,.cells #[.slice x1 t.nH y1,.slice x2 t.nW y2,v] 28 (0,0))],Y,(Y1++Y2)++Y3,[(b3,.cells #[.slice none 0 0,.slice none 0 0,.slice none 0 0] 28 (0,0))],[(b2,.cells #[.J w.1,.J w.2] 98 (0,0))],[(b1,.cells (tnV a1 a2 V c1 c2 c3 t).cells 28 (0,0))]]/\
   Aa 98 2 v (Flow.wcs ws) Y/\(ws.length<=j+1/\(q=false->ws.length=j))) ?_ fun k' nx=>?_
  rotate_left
  ·refine cq (fun cb=>?_) (fun _=>?_)
   ·have hw:ws.length=j:=hq (by simp at cb;exact cb.1);refine ax ?_;refine xxx rfl fun v2 Z2 M=>?_;have M:Aa 98 2 v2 (Flow.wcs [w]) Z2:=M;refine xiv rfl rfl o M (xun _) (by rw[Flow.Ar,Flow.Ar];simp;omega) fun v3 Z3 O=>?_;obtain⟨a7,k7,rfl,-⟩:=O.val;refine ax ?_;exact xbx (nx _ _ _ ⟨true,_,Z3,ws++[w],rfl,rfl,rfl,O.as (by simp[Flow.wcs]),by simp;omega,fun z=>by cases z⟩) ⟨rfl,rfl,rfl,rfl,rfl,rfl,trivial⟩
   ·refine ax ?_;exact xbx (nx _ _ _ ⟨q,v,Y,ws,rfl,rfl,rfl,o,hl,hq⟩) ⟨rfl,rfl,rfl,rfl,rfl,rfl,trivial⟩
  clear o hl hq;rintro _ p _ ⟨q,v,Y,ws,rfl,rfl,rfl,o,hl,hq⟩;refine drq [7] R8 ?_;refine de_y rfl rfl (xmj rfl (T.y.all a8)) ?_;refine ex ?_;refine xvz rfl rfl fun v2 Z2 M=>?_;have M:Aa 98 2 v2 (Flow.wcs [t.wy.getD j wz]) Z2:=M;refine ex ?_;refine xiv rfl rfl o M (xun _) (by rw[Flow.Ar,Flow.Ar];simp;omega) fun v3 Z3 O=>?_;obtain⟨a7,k7,rfl,-⟩:=O.val;exact bkq (IH _ _ _ om ⟨j+1,q,_,Z3,ws++[t.wy.getD j wz],rfl,rfl,rfl,rfl,om,O.as (by simp[Flow.wcs]),by simp;omega,fun z=>by simp[hq z]⟩)
 clear IH;refine ax ?_
 refine xfz (fun l' p_ L_=>∃(v:Value)(Y:Pcs)(ws:List Cl),l'=[(4,none,w_ b3 0),(5,none,w_ b4 0)]/\p_=p/\
  L_=[[(b4,.cells #[.slice x1 t.nH y1,.slice x2 t.nW y2,v] 28 (0,0))],Y,(Y1++Y2)++Y3,[(b3,.cells #[.slice none 0 0,.slice none 0 0,.slice none 0 0] 28 (0,0))],[(b2,.cells #[.J w.1,.J w.2] 98 (0,0))],[(b1,.cells (tnV a1 a2 V c1 c2 c3 t).cells 28 (0,0))]]/\
  Aa 98 2 v (Flow.wcs ws) Y/\ws.length<=t.m+1) ?_ fun k' nx=>?_
 rotate_left
 ·refine cq (fun cb=>?_) (fun _=>?_)
  ·have hw:ws.length=j:=hq (by simpa using cb);refine ax ?_;refine xxx rfl fun v2 Z2 M=>?_;have M:Aa 98 2 v2 (Flow.wcs [w]) Z2:=M;refine xiv rfl rfl o M (xun _) (by rw[Flow.Ar,Flow.Ar];simp;omega) fun v3 Z3 O=>?_;obtain⟨a7,k7,rfl,-⟩:=O.val;refine ax ?_;exact xbx (nx _ _ _ ⟨_,Z3,ws++[w],rfl,rfl,rfl,O.as (by simp[Flow.wcs]),by simp;omega⟩) ⟨rfl,rfl,trivial⟩
  ·refine ax ?_;exact xbx (nx _ _ _ ⟨v,Y,ws,rfl,rfl,rfl,o,om⟩) ⟨rfl,rfl,trivial⟩
 clear o hl hq;rintro _ p _ ⟨v,Y,ws,rfl,rfl,rfl,o,hl⟩;obtain⟨a6,c6,rfl,-⟩:=o.val;rw[Flow.Ar]at o⊢;refine ax ?_;refine xrz (Y1++Y2) Y3 ?_;refine xrz Y1 Y2 ?_;refine xiq o1 (m:=t.nH) (xrq _) d_ fun p1 _ _ g1 e1 k1 S1=>?_;cases e1;refine xiq o2 (m:=t.nW) (xrq _) d_ fun p2 _ _ g2 e2 k2 S2=>?_;cases e2;refine xiq o (m:=ws.length) (Flow.Ar _) d_ fun p3 _ _ g3 e3 k3 S3=>?_;cases e3;exact K.e rfl (xpq rfl .nil) fun _ H=>xqq H ((g1.trans g2).trans g3) ⟨x1,x2,a6,y1,y2,c6,⟨t.hs,t.ws,ws⟩,rfl,⟨Sl.mono (g2.trans g3).le S1,Sl.mono g3.le S2,S3⟩,⟨rfl,rfl,hl⟩,k1,k2,k3⟩
structure TwO(A:TA)(t:Twn)(Y1 Y2 Y3 Y4 Y5 Y6:Pcs):Prop where
 r:Aa 96 4 (.slice A.r.1 t.s.Ah.length A.r.2) (rcs t.s.Ah) Y1
 f:Aa 3 1 (.slice A.f.1 t.s.Af.length A.f.2) (ics t.s.Af) Y2
 h:Aa 3 1 (.slice A.h.1 t.b.nH A.h.2) (ics t.b.hs) Y3
 w:Aa 3 1 (.slice A.w.1 t.b.nW A.w.2) (ics t.b.ws) Y4
 y:Aa 98 2 (.slice A.y.1 t.b.m A.y.2) (Flow.wcs t.b.wy) Y5
 d:Aa 102 3 (.slice A.d.1 t.y.days.length A.d.2) (dcs t.y.days) Y6
theorem yh4(A:TA)(t:Twn)(T:TwP p A t)(hn:t.fit (2^20)):Nc prog md p 24 #[twV A t] (fun v Y=>(∃A' M Y2 O Y4 Y5 V,v=twV A' t/\TwO A' t M Y2 O Y4 Y5 V/\Y=(V++((O++Y4)++Y5))++(M++Y2))):=by
 obtain⟨⟨n1,n2⟩,⟨n3,n4,n5⟩,n6⟩:=hn;refine xkq func24 fun K b1=>?_;refine lq fun b2=>?_;refine drq [2,5] [0,1,3,4,6,7,2,5] ?_;refine xuk rfl rfl rfl (cf41 t.s T.s ⟨n1,n2⟩) ?_;rintro _ _ ⟨a1,c1,a2,c2,M,Y2,rfl,o1,o2,rfl⟩;refine ex ?_;refine xuk rfl rfl rfl (cf42 t.b T.b ⟨n3,n4,n5⟩) ?_;rintro _ _ ⟨a3,c3,a4,c4,a5,c5,O,Y4,Y5,rfl,o3,o4,o5,rfl⟩;refine xa ?_;refine coq (cf43 T.d n6) ?_;rintro _ V ⟨a6,c6,rfl,o6⟩;refine ax ?_;exact K.e rfl (xpq rfl .nil) fun _ H=>⟨_,⟨⟨(a1,c1),(a2,c2),(a3,c3),(a4,c4),(a5,c5),(a6,c6)⟩,M,Y2,O,Y4,Y5,V,rfl,⟨o1,o2,o3,o4,o5,o6⟩,rfl⟩,(xn8 H).new⟩
theorem xoj{X:Cx}{k:List Item}{l:Env}{LL L1 L2 L3 L4 L5 L6:List Pcs}{A:TA}{t:Twn}{Y1 Y2 Y3 Y4 Y5 Y6:Pcs}(O:TwO A t Y1 Y2 Y3 Y4 Y5 Y6)[Rm LL Y1 L1][Rm L1 Y2 L2][Rm L2 Y3 L3][Rm L3 Y4 L4][Rm L4 Y5 L5][Rm L5 Y6 L6]
 (n:∀p',PG X.z9.size X.zz p p'->TwP p' A t->RE X k l p' L6):RE X k l p LL:=by
 refine xiq O.r (m:=t.s.Ah.length) (xvv _) d_ fun p1 _ _ g1 e1 a5 S1=>?_;injection e1 with z1 _ z2;subst z1 z2;refine xiq O.f (m:=t.s.Af.length) (xrq _) d_ fun p2 _ _ g2 e2 a7 S2=>?_;injection e2 with z1 _ z2;subst z1 z2;refine xiq O.h (m:=t.b.nH) (xrq _) d_ fun p3 _ _ g3 e3 a2 S3=>?_;injection e3 with z1 _ z2;subst z1 z2;refine xiq O.w (m:=t.b.nW) (xrq _) d_ fun p4 _ _ V e4 a4 S4=>?_;injection e4 with z1 _ z2;subst z1 z2;refine xiq O.y (m:=t.b.m) (Flow.Ar _) d_ fun p5 _ _ M e5 a3 S5=>?_;injection e5 with z1 _ z2;subst z1 z2;refine xiq O.d (m:=t.y.days.length) (Aj _) d_ fun p6 _ _ H e6 a6 S6=>?_;injection e6 with z1 _ z2;subst z1 z2;exact n p6 (((((g1.trans g2).trans g3).trans V).trans M).trans H) ⟨⟨Sl.mono ((((g2.trans g3).trans V).trans M).trans H).le S1,Sl.mono (((g3.trans V).trans M).trans H).le S2⟩,⟨Sl.mono ((V.trans M).trans H).le S3,Sl.mono (M.trans H).le S4,Sl.mono H.le S5⟩,S6,⟨a5,a7⟩,⟨a2,a4,a3⟩,a6⟩
open Go.X.Flow (Cl Wys wz ics Cm Co Al Tn Vd tnV)
open Go.X.Cist (Day Bp dz dcs Aj D9)
theorem cf50(A:TA)(t:Twn)(T:TwP p A t)(hv:Cj t=0)(w:Str){a:Option Addr}(n c:Nat)(xs:List Int)(I:Ax p a n xs)(hw:Aq w=(1,n)):Lc prog md p 50 #[twV A t,sv w,.slice a n c] (fun v p'=>∃A' t' q,v=.tuple #[twV A' t',.bool q]/\TwP p' A' t'/\Cj t'=0):=by
 intro h hp;have hf:=xdz hv;obtain⟨⟨f1,f2⟩,⟨f3,f4,f5⟩,f6⟩:=hf;have e3:t.b.hs.length<=12:=f3;have e4:t.b.ws.length<=12:=f4;have le:∀{x:Nat},x<=12->x<=2^20:=fun h=>Nat.le_trans h d_;have I1:Sl p a n 1 (ics xs):=I;have kn:∀{u:Str}{k:Nat},w=u->Aq u=(1,k)->n=k:=fun e1 e2=>by rw[e1,e2]at hw;exact(congrArg Prod.snd hw).symm
 refine xtq hp func50 fun K b3=>?_;refine lq fun b6=>?_;refine coq (yh4 A t T ⟨⟨le f1,le f2⟩,⟨le f3,le f4,le f5⟩,le f6⟩) ?_;rintro _ _ ⟨A1,Y1,Y2,Y3,Y4,Y5,Y6,rfl,O,rfl⟩;refine lq fun b8=>?_;refine ax ?_;refine xrz (Y6++((Y3++Y4)++Y5)) (Y1++Y2) ?_;refine xrz Y6 ((Y3++Y4)++Y5) ?_;refine xrz (Y3++Y4) Y5 ?_;refine xrz Y3 Y4 ?_;refine xrz Y1 Y2 ?_
 refine xfz (fun l' p_ L_=>∃(A':TA)(t':Twn)(q:Bool),l'=[(3,none,w_ b3 0),(6,none,w_ b6 0),(8,none,w_ b8 0),(9,none,.bool q)]/\PG h.size [] p p_/\
  L_=[[(b8,.cells (tcs A' t').toArray 33 (0,0))],[(b6,.cells #[.slice none 0 0,.slice none 0 0,.J 0,.J 0,.J 0,.slice none 0 0,.slice none 0 0,.slice none 0 0,.J 0,.J 0,.slice none 0 0] 33 (0,0))],[(b3,.cells (tcs A t).toArray 33 (0,0))]]/\TwP p_ A' t'/\t'.fit (2^20)) ?_ fun k' nx=>?_
 rotate_left
 ·have a2:=fun(q:Bool)(p':Ab)(g':PG h.size [] p p')(T':TwP p' A1 t)=>nx _ _ _ ⟨A1,t,q,rfl,g',rfl,T',⟨⟨le f1,le f2⟩,⟨le f3,le f4,le f5⟩,le f6⟩⟩;refine cq (fun cw=>?_) (fun _=>?_)
  ·have hn:n=4:=kn cw d_;refine drq [16] R17 ?_;refine xvz rfl rfl fun v2 Z2 o2=>?_;have o2:Aa 96 4 v2 (rcs [⟨xs.getD 0 0,xs.getD 1 0,xs.getD 2 0,xs.getD 3 0⟩]) Z2:=o2;refine ex ?_;refine xiv rfl rfl O.r o2 (xn3 _) (by rw[xvv,xvv];simp;omega) fun v3 Z3 o3=>?_;have o3:Aa 96 4 v3 (rcs (t.s.Ah++[⟨xs.getD 0 0,xs.getD 1 0,xs.getD 2 0,xs.getD 3 0⟩])) Z3:=o3.as (by simp[rcs]);obtain⟨a3,c3,rfl,-⟩:=o3.val;rw[xvv]at o3⊢;refine ax ?_;refine xoj (A:={A1 with r:=(a3,c3)}) (t:={t with s:={t.s with Ah:=t.s.Ah++[⟨xs.getD 0 0,xs.getD 1 0,xs.getD 2 0,xs.getD 3 0⟩]}}) ⟨o3,O.f,O.h,O.w,O.y,O.d⟩ fun p1 V M=>?_;exact xbx (nx _ _ _ ⟨_,_,true,rfl,V,rfl,M,⟨⟨by show(t.s.Ah++[_]).length<=_;rw[List.length_append,List.length_singleton];omega,le f2⟩,⟨le f3,le f4,le f5⟩,le f6⟩⟩) ⟨rfl,rfl,rfl,rfl,trivial⟩
  refine cq (fun cw=>?_) (fun _=>?_)
  ·have hn:n=1:=kn cw d_;refine drq [6] R7 ?_;refine xvz rfl rfl fun v2 Z2 o2=>?_;have o2:Aa 3 1 v2 (ics [xs.getD 0 0]) Z2:=o2;refine ex ?_;refine xiv rfl rfl O.f o2 (xev _) (by rw[xrq,xrq];simp;omega) fun v3 Z3 o3=>?_;have o3:Aa 3 1 v3 (ics (t.s.Af++[xs.getD 0 0])) Z3:=o3.as (by simp[ics]);obtain⟨a3,c3,rfl,-⟩:=o3.val;rw[xrq]at o3⊢;refine ax ?_;refine xoj (A:={A1 with f:=(a3,c3)}) (t:={t with s:={t.s with Af:=t.s.Af++[xs.getD 0 0]}}) ⟨O.r,o3,O.h,O.w,O.y,O.d⟩ fun p1 V M=>?_;exact xbx (nx _ _ _ ⟨_,_,true,rfl,V,rfl,M,⟨⟨le f1,by show(t.s.Af++[_]).length<=_;rw[List.length_append,List.length_singleton];omega⟩,⟨le f3,le f4,le f5⟩,le f6⟩⟩) ⟨rfl,rfl,rfl,rfl,trivial⟩
  refine cq (fun cw=>?_) (fun _=>?_)
  ·refine xoj O fun p1 V M=>?_;refine cq (fun cu=>?_) (fun cu=>?_)
   ·have a8:0<t.s.Af.length:=om;have cf:=M.c.1.2;refine ax ?_;refine xef (j:=t.s.Af.length-1) rfl (by show some ([],Value.J _)=_;rw[show((t.s.Af.length:Nat):Int)-1=((t.s.Af.length-1:Nat):Int) by omega]) om ?_;refine ax ?_;have Sf:=xn5 M.s.f (d:=t.s.Af.length-1) om;have el:(t.s.Af.take (t.s.Af.length-1)).length=t.s.Af.length-1:=by rw[List.length_take];omega
    refine xbx (nx _ _ _ ⟨A1,{t with s:={t.s with Af:=t.s.Af.take (t.s.Af.length-1)}},_,rfl,V,by show _=[[(b8,Obj.cells (tcs A1 _).toArray _ _)],_,_];unfold tcs;simp only[el];rfl,⟨⟨M.s.r,by show Sl p1 A1.f.1 (t.s.Af.take _).length 1 (List.map _ (t.s.Af.take _));rw[el,List.map_take];exact Sf⟩,M.b,M.d,⟨M.c.1.1,by show(t.s.Af.take _).length<=_;rw[el];omega⟩,M.c.2⟩,⟨⟨le f1,by show(t.s.Af.take _).length<=_;rw[el];omega⟩,⟨le f3,le f4,le f5⟩,le f6⟩⟩) ⟨rfl,rfl,rfl,rfl,trivial⟩
   refine ax ?_;exact xbx (a2 _ p1 V M) ⟨rfl,rfl,rfl,rfl,trivial⟩
  refine cq (fun cw=>?_) (fun _=>?_)
  ·have hn:n=1:=kn cw d_;refine drq [6] R7 ?_;refine xvz rfl rfl fun v2 Z2 o2=>?_;have o2:Aa 3 1 v2 (ics [xs.getD 0 0]) Z2:=o2;refine ex ?_;refine xiv rfl rfl O.h o2 (xev _) (by rw[xrq,xrq];simp;omega) fun v3 Z3 o3=>?_;have o3:Aa 3 1 v3 (ics (t.b.hs++[xs.getD 0 0])) Z3:=o3.as (by simp[ics]);obtain⟨a3,c3,rfl,-⟩:=o3.val;rw[xrq]at o3⊢;refine ax ?_;refine xoj (A:={A1 with h:=(a3,c3)}) (t:={t with b:={t.b with hs:=t.b.hs++[xs.getD 0 0]}}) ⟨O.r,O.f,o3,O.w,O.y,O.d⟩ fun p1 V M=>?_;exact xbx (nx _ _ _ ⟨_,_,true,rfl,V,rfl,M,⟨⟨le f1,le f2⟩,⟨by show(t.b.hs++[_]).length<=_;rw[List.length_append,List.length_singleton];omega,le f4,le f5⟩,le f6⟩⟩) ⟨rfl,rfl,rfl,rfl,trivial⟩
  refine cq (fun cw=>?_) (fun _=>?_)
  ·have hn:n=1:=kn cw d_;refine drq [6] R7 ?_;refine xvz rfl rfl fun v2 Z2 o2=>?_;have o2:Aa 3 1 v2 (ics [xs.getD 0 0]) Z2:=o2;refine ex ?_;refine xiv rfl rfl O.w o2 (xev _) (by rw[xrq,xrq];simp;omega) fun v3 Z3 o3=>?_;have o3:Aa 3 1 v3 (ics (t.b.ws++[xs.getD 0 0])) Z3:=o3.as (by simp[ics]);obtain⟨a3,c3,rfl,-⟩:=o3.val;rw[xrq]at o3⊢;refine ax ?_;refine xoj (A:={A1 with w:=(a3,c3)}) (t:={t with b:={t.b with ws:=t.b.ws++[xs.getD 0 0]}}) ⟨O.r,O.f,O.h,o3,O.y,O.d⟩ fun p1 V M=>?_;exact xbx (nx _ _ _ ⟨_,_,true,rfl,V,rfl,M,⟨⟨le f1,le f2⟩,⟨le f3,by show(t.b.ws++[_]).length<=_;rw[List.length_append,List.length_singleton];omega,le f5⟩,le f6⟩⟩) ⟨rfl,rfl,rfl,rfl,trivial⟩
  refine cq (fun cw=>?_) (fun _=>?_)
  ·have hn:n=2:=kn cw d_;refine drq [] R5 ?_;refine ax ?_;refine xpx rfl rfl (cf91 t.b om) ?_;refine cq (fun cu=>?_) (fun cu=>?_)
   ·have hi:0<=xs.getD 0 0/\xs.getD 0 0<=(t.b.nH:Int)-1:=by simpa using cu
    have el:(t.b.hs.set (xs.getD 0 0).toNat (xs.getD 1 0)).length=t.b.nH:=List.length_set ..;have eL:t.b.hs.length=t.b.nH:=rfl;refine drq [] R9 ?_;refine xcv rfl rfl O.h hi.1 (by rw[xrq];omega) ?_;refine xkk (j:=0) rfl rfl O.h xnx rfl rfl rfl (Cm om) (Nat.le_refl _) fun Z3 o3=>?_;have o4:Aa 3 1 (.slice A1.h.1 (t.b.hs.set (xs.getD 0 0).toNat (xs.getD 1 0)).length A1.h.2) (ics (t.b.hs.set (xs.getD 0 0).toNat (xs.getD 1 0))) Z3:=by rw[el];exact o3.as Co
    refine ax ?_;refine xoj (A:=A1) (t:={t with b:={t.b with hs:=t.b.hs.set (xs.getD 0 0).toNat (xs.getD 1 0)}}) ⟨O.r,O.f,o4,O.w,O.y,O.d⟩ fun p1 V M=>?_;exact xbx (nx _ _ _ ⟨A1,_,_,rfl,V,by show _=[[(b8,Obj.cells (tcs A1 _).toArray _ _)],_,_];unfold tcs;simp only[Tn.nH,Tn.nW,List.length_set];rfl,M,⟨⟨le f1,le f2⟩,⟨Nat.le_trans (Nat.le_of_eq el) (le f3),le f4,le f5⟩,le f6⟩⟩) ⟨rfl,rfl,rfl,rfl,trivial⟩
   refine ax ?_;refine xoj O fun p1 V M=>?_;exact xbx (a2 _ p1 V M) ⟨rfl,rfl,rfl,rfl,trivial⟩
  refine cq (fun cw=>?_) (fun _=>?_)
  ·have hn:n=2:=kn cw d_;refine drq [] R5 ?_;refine ax ?_;refine xpx rfl rfl (cf92 t.b om) ?_;refine cq (fun cu=>?_) (fun cu=>?_)
   ·have hi:0<=xs.getD 0 0/\xs.getD 0 0<=(t.b.nW:Int)-1:=by simpa using cu
    have el:(t.b.ws.set (xs.getD 0 0).toNat (xs.getD 1 0)).length=t.b.nW:=List.length_set ..;have eL:t.b.ws.length=t.b.nW:=rfl;refine drq [] R9 ?_;refine xcv rfl rfl O.w hi.1 (by rw[xrq];omega) ?_;refine xkk (j:=0) rfl rfl O.w xnx rfl rfl rfl (Cm om) (Nat.le_refl _) fun Z3 o3=>?_;have o4:Aa 3 1 (.slice A1.w.1 (t.b.ws.set (xs.getD 0 0).toNat (xs.getD 1 0)).length A1.w.2) (ics (t.b.ws.set (xs.getD 0 0).toNat (xs.getD 1 0))) Z3:=by rw[el];exact o3.as Co
    refine ax ?_;refine xoj (A:=A1) (t:={t with b:={t.b with ws:=t.b.ws.set (xs.getD 0 0).toNat (xs.getD 1 0)}}) ⟨O.r,O.f,O.h,o4,O.y,O.d⟩ fun p1 V M=>?_;exact xbx (nx _ _ _ ⟨A1,_,_,rfl,V,by show _=[[(b8,Obj.cells (tcs A1 _).toArray _ _)],_,_];unfold tcs;simp only[Tn.nH,Tn.nW,List.length_set];rfl,M,⟨⟨le f1,le f2⟩,⟨le f3,Nat.le_trans (Nat.le_of_eq el) (le f4),le f5⟩,le f6⟩⟩) ⟨rfl,rfl,rfl,rfl,trivial⟩
   refine ax ?_;refine xoj O fun p1 V M=>?_;exact xbx (a2 _ p1 V M) ⟨rfl,rfl,rfl,rfl,trivial⟩
  refine cq (fun cw=>?_) (fun _=>?_)
  ·have hn:n=2:=kn cw d_;refine xoj O fun p1 V M=>?_;have I2:Ax p1 a n xs:=Sl.mono V.le I;have I3:Sl p1 a n 1 (ics xs):=I2;have T2:=T.mono V.le;refine drq [7] R8 ?_;refine xec rfl (fun a9=>?_);refine xa ?_;refine xzg rfl rfl (fun h pe=>cf93 t.b om pe T2.b (xs.getD 0 0) (xs.getD 1 0)) ?_;rintro _ ⟨q,rfl⟩;refine cq (fun cu=>?_) (fun cu=>?_)
   ·refine cpq (fun h pe=>cf94 t.b ⟨le f3,le f4,le f5⟩ pe T2.b (xs.getD 0 0,xs.getD 1 0)) ?_;rintro _ p2 g2 ⟨a4,a5,a6,c4,c5,c6,u,rfl,U,⟨u1,u2,u3⟩,k1,k2,k3⟩;refine ax ?_;have T3:=M.mono g2.le;refine xhk (LL':=[[(b8,.cells (tcs {A1 with h:=(a4,c4),w:=(a5,c5),y:=(a6,c6)} {t with b:=u}).toArray 33 (0,0))],[(b6,.cells #[.slice none 0 0,.slice none 0 0,.J 0,.J 0,.J 0,.slice none 0 0,.slice none 0 0,.slice none 0 0,.J 0,.J 0,.slice none 0 0] 33 (0,0))],[(b3,.cells (tcs A t).toArray 33 (0,0))]]) ?_ fun _ s=>s.sub (List.Sublist.cons_cons _ (List.sublist_cons_self _ _));exact xbx (nx _ _ _ ⟨_,_,_,rfl,V.trans g2,rfl,⟨T3.s,U,T3.d,T3.c.1,⟨k1,k2,k3⟩,T3.c.2.2⟩,⟨⟨le f1,le f2⟩,⟨by show u.nH<=_;omega,by show u.nW<=_;omega,by show u.m<=_;omega⟩,le f6⟩⟩) ⟨rfl,rfl,rfl,rfl,trivial⟩
   refine ax ?_;refine xhk (LL':=[[(b8,.cells (tcs A1 t).toArray 33 (0,0))],[(b6,.cells #[.slice none 0 0,.slice none 0 0,.J 0,.J 0,.J 0,.slice none 0 0,.slice none 0 0,.slice none 0 0,.J 0,.J 0,.slice none 0 0] 33 (0,0))],[(b3,.cells (tcs A t).toArray 33 (0,0))]]) ?_ fun _ s=>s.sub (List.sublist_cons_self _ _);exact xbx (a2 _ p1 V M) ⟨rfl,rfl,rfl,rfl,trivial⟩
  refine cq (fun cw=>?_) (fun _=>?_)
  ·have hn:n=3:=kn cw d_;refine drq [14] R15 ?_;refine xvz rfl rfl fun v2 Z2 o2=>?_;have o2:Aa 102 3 v2 (dcs [⟨xs.getD 0 0,xs.getD 1 0,xs.getD 2 0⟩]) Z2:=o2;refine ex ?_;refine xiv rfl rfl O.d o2 (D9 _) (by rw[Aj,Aj];simp;omega) fun v3 Z3 o3=>?_;have o3:Aa 102 3 v3 (dcs (t.y.days++[⟨xs.getD 0 0,xs.getD 1 0,xs.getD 2 0⟩])) Z3:=o3.as (by simp[dcs]);obtain⟨a3,c3,rfl,-⟩:=o3.val;rw[Aj]at o3⊢;refine ax ?_;refine xoj (A:={A1 with d:=(a3,c3)}) (t:={t with y:={t.y with days:=t.y.days++[⟨xs.getD 0 0,xs.getD 1 0,xs.getD 2 0⟩]}}) ⟨O.r,O.f,O.h,O.w,O.y,o3⟩ fun p1 V M=>?_;exact xbx (nx _ _ _ ⟨_,_,true,rfl,V,rfl,M,⟨⟨le f1,le f2⟩,⟨le f3,le f4,le f5⟩,by show(t.y.days++[_]).length<=_;rw[List.length_append,List.length_singleton];omega⟩⟩) ⟨rfl,rfl,rfl,rfl,trivial⟩
  refine cq (fun cw=>?_) (fun _=>?_)
  ·have hn:n=1:=kn cw d_;refine ax ?_;refine xoj (A:=A1) (t:={t with y:={t.y with size:=xs.getD 0 0}}) ⟨O.r,O.f,O.h,O.w,O.y,O.d⟩ fun p1 V M=>?_;exact xbx (nx _ _ _ ⟨A1,_,true,rfl,V,rfl,M,⟨⟨le f1,le f2⟩,⟨le f3,le f4,le f5⟩,le f6⟩⟩) ⟨rfl,rfl,rfl,rfl,trivial⟩
  refine ax ?_;refine xoj O fun p1 V M=>?_;exact xbx (a2 true p1 V M) ⟨rfl,rfl,rfl,rfl,trivial⟩
 rintro _ p1 _ ⟨A',t',q,rfl,V,rfl,T',a7⟩;have M:=T.mono V.le;refine cgq (fun _=>cf20 A' t' T' a7) ?_;refine cq (fun cc=>?_) (fun cc=>?_)
 ·refine ax ?_;exact K.e rfl (xpq rfl (.tmp rfl .nil)) fun _ H=>xqq H V ⟨A,t,false,rfl,M,hv⟩
 refine ax ?_;exact K.e rfl (xpq rfl (.tmp rfl .nil)) fun _ H=>xqq H V ⟨A',t',true,rfl,T',by simp at cc;exact cc.2⟩
theorem cf31(N:Nat)(hN:N<=100)(D:Nn p N v)(s:Str)(hs:s.length<=900):Lc prog md p 31 #[v,sv s] (fun w p'=>∃v' z,w=.tuple #[v',sv z]/\Nn p' (N+1) v'):=by
 obtain⟨A,t,ka,kn,V,ks,pa,M,pc,es,rfl,T,hv,S,hk,c2,P,a8,c6,a2⟩:=D;have d7:=P.len;have a4:=fun(p':Ab)(le:PLe p p')=>(⟨A,t,ka,kn,V,ks,pa,M,pc,es,rfl,T.mono le,hv,Sl.mono le S,hk,Nat.le_succ_of_le c2,Sl.mono le P,a8,Nat.le_succ_of_le c6,fun e he=>(a2 e he).mono le (Nat.le_succ N)⟩:Nn p' (N+1) (.agg (tcs A t++[Value.slice ka kn V,.slice pa M pc]).toArray))
 have a5:=xek s;refine xkq func31 fun K b2=>?_;refine lq fun b4=>?_;refine cpq (cf16 s hs) ?_;rintro _ p1 g1 ⟨la,lc,rfl,c4,L⟩;generalize hx:Ag s=x at*;refine lq fun b6=>?_;refine cq (fun cc=>?_) (fun c0=>?_)
 ·refine ax ?_;exact K.e rfl (xpq rfl (.tmp rfl .nil)) fun _ H=>xqq H g1 ⟨_,_,rfl,a4 _ g1.le⟩
 obtain⟨w,args,lt,rfl,k0,hlen,e0,d9,_⟩:∃w args l,x=⟨w,(Aq w).1,args,l⟩/\(Aq w).1≠0/\args.length=(Aq w).2/\(l≠[]->(Aq w).1=3/\isLet l=true)/\args.all Ba=true/\Ad s=if l=[]then w::args else D7::l::w::args:=by
  rcases a5 with e|e
  ·rw[e]at c0;exact absurd (by rfl) c0
  ·exact e
 clear a5;have d5:=xzf w;simp only at L c4 hlen⊢;refine ax ?_;refine xqk rfl rfl (cf47 kn V ks (Sl.mono g1.le S) om hk args.length lc args L om) ?_;rintro _ p2 g2 ⟨va,vn,vc,xs,q,rfl,I,hq⟩;have O:=g1.trans g2;refine cq (fun b5=>?_) (fun b5=>?_)
 ·refine ax ?_;exact K.e rfl (xpq rfl (.tmp rfl .nil)) fun _ H=>xqq H O ⟨_,_,rfl,a4 _ O.le⟩
 have b8:vn=(Aq w).2:=(hq (by simpa using b5)).trans hlen;have T2:=T.mono O.le;refine cq (fun c3=>?_) (fun c3=>?_)
 ·have c5:Aq w=(3,vn):=by rw[b8];exact Prod.ext (by show(Aq w).1=3;omega) rfl
  refine ckq (cf48 A t T2 hv w vn vc xs I c5) ?_;rintro _ ⟨z,n,b,rfl,hn⟩;refine cq (fun _=>?_) (fun _=>?_)
  ·refine ax ?_;refine xqk rfl rfl (cf49 kn V ks (Sl.mono O.le S) om hk lt n hn) ?_;rintro _ p3 g3 ⟨k3,m3,a6,a9,rfl,d8,S3,c1⟩;refine ax ?_;exact K.e rfl (xpq rfl (.tmp rfl .nil)) fun _ H=>xqq H (O.trans g3) ⟨_,_,rfl,⟨A,t,k3,m3,a6,a9,pa,M,pc,es,rfl,T2.mono g3.le,hv,S3,c1,om,Sl.mono (O.trans g3).le P,a8,om,fun e he=>(a2 e he).mono (O.trans g3).le (Nat.le_succ N)⟩⟩
  refine ax ?_;exact K.e rfl (xpq rfl (.tmp rfl .nil)) fun _ H=>xqq H O ⟨_,_,rfl,a4 _ O.le⟩
 refine cq (fun cb=>?_) (fun cb=>?_)
 ·refine ax ?_
  refine xzh 7 [3,6] [1,2,4,5] [0,3,6] (fun i=>match i with|3=>[0]|_=>[]) (fun i=>match i with|2=>[1]|3=>[0,2]|5=>[4]|6=>[5]|_=>[])
   (fun i _ _ v x=>match i with
    |0=>Aa 70 12 v [] x
    |1=>v=w_ b2 12/\x=[]
    |2=>v=.slice pa M pc/\x=[]
    |3=>Aa 70 12 v es x
    |4=>v=w_ b2 0/\x=[]
    |5=>v=.agg (tcs A t++[Value.slice ka kn V]).toArray/\x=[]
    |6=>Aa 70 12 v [tcs A t++[.slice ka kn V]] x
    |_=>True) (fun i hi val piece hq=>?_) (fun val piece j hj v x q=>?_) (fun val piece hq=>?_)
  ·match i,hi with
   |0,_=>
     refine xvz rfl rfl fun v Y o=>?_;have o:Aa 70 12 v [] Y:=o;exact xuq ⟨⟨_,rfl⟩,fun v' e=>by
      have e':=xmq e;subst e';show Aa _ _ _ _ ([Y]++[]).flatten;have ey:([Y]++([]:List Pcs)).flatten=Y:=by simp
      rw[ey];exact o⟩
   |1,_=>
     exact det
   |2,_=>
     refine de_y rfl rfl (y_ld (by show some ([],val 1)=_;rw[(hq 1 rfl).1]) sdt (b:=b2) (off:=12) (cs:=(tcs A t++[Value.slice ka kn V,.slice pa M pc]).toArray) (T:=73) (z:=(0,0))) ?_;exact det
   |3,_=>
     have o1:Aa 70 12 (val 0) [] (piece 0):=hq 0 rfl;show DE _ _ _ _ _ _ _ _ _ [piece 0];refine xgl rfl rfl (by show some ([],val 2)=_;rw[(hq 2 rfl).1]) o1 (Sl.mono O.le P) (fun u hu=>by
      obtain⟨e,he,hu⟩:=List.mem_flatten.1 hu;exact(a2 e he).Og u hu) (by simp;omega) fun v Y o=>?_
     rw[List.nil_append]at o;exact xuq ⟨⟨_,rfl⟩,fun v' e=>by
      have e':=xmq e;subst e';show Aa _ _ _ _ ([Y]++[]).flatten;have ey:([Y]++([]:List Pcs)).flatten=Y:=by simp
      rw[ey];exact o⟩
   |4,_=>
     exact det
   |5,_=>
     refine de_y rfl rfl (ycx (by show some ([],val 4)=_;rw[(hq 4 rfl).1]) sdt (b:=b2) (off:=0) (cs:=(tcs A t++[Value.slice ka kn V,.slice pa M pc]).toArray) (T:=73) (z:=(0,0))) ?_;exact det
   |6,_=>
     refine xvz (vs:=[(0,.agg (tcs A t++[Value.slice ka kn V]).toArray)]) (cells:=(tcs A t++[Value.slice ka kn V]).toArray) rfl (by rw[<- (hq 5 rfl).1];rfl) (fun v Y o=>?_) (hf:=by kernel_rfl) (hc:=by kernel_rfl) (hw:=by kernel_rfl) (hn:=by kernel_rfl);have o:Aa 70 12 v [tcs A t++[.slice ka kn V]] Y:=o;exact xuq ⟨⟨_,rfl⟩,fun v' e=>by
      have e':=xmq e;subst e';show Aa _ _ _ _ ([Y]++[]).flatten;have ey:([Y]++([]:List Pcs)).flatten=Y:=by simp
      rw[ey];exact o⟩
  ·simp only[List.mem_cons,List.not_mem_nil,or_false]at hj;rcases hj with rfl|rfl|rfl|rfl<;>exact q.2
  have o1:Aa 70 12 (val 3) es (piece 3):=hq 3 d_;have o2:Aa 70 12 (val 6) [tcs A t++[.slice ka kn V]] (piece 6):=hq 6 d_;have a7:StP p (N+1) (tcs A t++[.slice ka kn V]):=⟨A,t,ka,kn,V,ks,rfl,T,hv,S,hk,om⟩
  refine xdk (l':=[(2,none,w_ b2 0),(4,none,w_ b4 0),(76,none,val 3),(79,none,val 6)]) ?_ ⟨rfl,rfl,rfl,rfl,trivial⟩;clear hq;generalize val 3=v1 at*;generalize val 6=v2 at*;show RO _ _ _ _ _ _ [piece 3,piece 6,_,_,_];generalize piece 3=Z1 at*;generalize piece 6=Z2 at*;refine ax ?_;refine xiv rfl rfl o1 o2 (fun u hu=>a7.Og u (by simpa using hu)) (by simp;omega) fun v3 Z3 o3=>?_;refine xzq o3 (m:=M+1) (by simp;omega) d_ fun p3 a3 c3 g3 e3 c7 S3=>?_;subst e3;refine ax ?_;exact K.e rfl (xpq rfl (.tmp rfl .nil)) fun _ H=>xqq H (O.trans g3) ⟨_,_,rfl,⟨A,t,ka,kn,V,ks,a3,M+1,c3,es++[tcs A t++[.slice ka kn V]],rfl,T2.mono g3.le,hv,Sl.mono (O.trans g3).le S,hk,om,S3,c7,om,fun e he=>(List.mem_append.1 he).elim (fun z=>(a2 e z).mono (O.trans g3).le (Nat.le_succ N)) fun z=>by rw[List.mem_singleton.1 z];exact a7.mono (O.trans g3).le (Nat.le_refl _)⟩⟩
 refine cq (fun cd=>?_) (fun cd=>?_)
 ·refine ax ?_;exact K.e rfl (xpq rfl (.tmp rfl .nil)) fun _ H=>xqq H O ⟨_,_,rfl,a4 _ O.le⟩
 have k2:(Aq w).1=2->0<M:=fun z=>Classical.byContradiction fun y=>cd ⟨by rw[z];rfl,om⟩;refine cq (fun ce=>?_) (fun ce=>?_)
 ·have b3:0<M:=k2 (by rw[ce];decide);refine ax ?_;refine xef (j:=M-1) rfl (by show some ([],Value.J _)=_;rw[show((M:Nat):Int)-1=((M-1:Nat):Int) by omega]) om ?_;refine ax ?_;exact K.e rfl (xpq rfl (.tmp rfl .nil)) fun _ H=>xqq H O ⟨_,_,rfl,⟨A,t,ka,kn,V,ks,pa,M-1,pc,es.take (M-1),rfl,T2,hv,Sl.mono O.le S,hk,om,xn5 (Sl.mono O.le P) (d:=M-1) om,om,om,fun e he=>(a2 e (List.mem_of_mem_take he)).mono O.le (Nat.le_succ N)⟩⟩
 refine cq (fun cf=>?_) (fun cf=>?_)
 ·have b3:0<M:=k2 (by rw[cf];decide);have hi:M-1<es.length:=om;obtain⟨A',t',k3,m3,a6,a9,e1,T',b0,S',b9,d0⟩:=a2 es[M-1] (List.getElem_mem hi);have c9:es[M-1]?=some (tcs A' t'++[.slice k3 m3 a6]):=by rw[List.getElem?_eq_getElem hi,e1]
  have P2:=Sl.mono O.le P;have b7:=Sl.get P2 (M-1) _ c9;refine ax ?_;refine ro_y rfl (xed rfl rfl om om (Sl.ne P2 b3)) ?_;rw[show(((M:Nat):Int)-1).toNat=M-1 by omega];refine ro_y rfl (xmj rfl b7) ?_;refine ax ?_;refine xef (j:=M-1) rfl (by show some ([],Value.J _)=_;rw[show((M:Nat):Int)-1=((M-1:Nat):Int) by omega]) om ?_;refine ax ?_;exact K.e rfl (xpq rfl (.tmp rfl .nil)) fun _ H=>xqq H O ⟨_,_,rfl,⟨A',t',k3,m3,a6,a9,pa,M-1,pc,es.take (M-1),rfl,T'.mono O.le,b0,Sl.mono O.le S',b9,om,xn5 P2 (d:=M-1) om,om,om,fun e he=>(a2 e (List.mem_of_mem_take he)).mono O.le (Nat.le_succ N)⟩⟩
 have c8:Aq w=(1,vn):=by
  refine Prod.ext ?_ b8.symm;have z:(Aq w).1≠2:=fun z=>by
   obtain⟨_,y⟩:=ypx (w:=w) (n:=(Aq w).2) (by rw[<- z]);rcases y with y|y|y
   ·exact cb y
   ·exact ce y
   ·exact cf y
  show(Aq w).1=1;omega
 refine cpq (cf50 A t T2 hv w vn vc xs I c8) ?_;rintro _ p3 g3 ⟨A',t',q2,rfl,T',b0⟩;have g4:=O.trans g3;refine lq fun d6=>?_;refine cq (fun cg=>?_) (fun cg=>?_)
 ·refine ax ?_;exact K.e rfl (xpq rfl (.tmp rfl .nil)) fun _ H=>xqq H g4 ⟨_,_,rfl,a4 _ g4.le⟩
 refine ax ?_;exact K.e rfl (xpq rfl (.tmp rfl .nil)) fun _ H=>xqq H g4 ⟨_,_,rfl,⟨A',t',ka,kn,V,ks,pa,M,pc,es,rfl,T',b0,Sl.mono g4.le S,hk,om,Sl.mono g4.le P,a8,om,fun e he=>(a2 e he).mono g4.le (Nat.le_succ N)⟩⟩
theorem yz9(A:TA)(t:Twn)(T:TwP p A t)(hn:t.fit 9223372036854775807){a:Option Addr}(n c:Nat)(ls:List Str)(S:At p a n ls):Kc prog md p 19 #[twV A t,.slice a n c] (fun v=>(∃q:Bool,v=.bool q/\(q=false->t.fit 40/\ ∀s∈ls,s.length<=60))):=by
 intro h hp;have S1:Sl p a n 1 (scs ls):=S;have hl:ls.length=n:=by rw[<- xmx];exact S1.len
 refine xtq hp func19 fun K b1=>?_;refine ckq (cf30 A t T hn) ?_;rintro _ ⟨q,rfl,H⟩;refine cq (fun _=>?_) (fun cc=>?_)
 ·refine K.q ?_;exact⟨true,rfl,fun z=>by cases z⟩
 obtain⟨a6,b4⟩:q=false/\n<=60:=by simp at cc;exact⟨cc.1,om⟩
 have a2:t.fit 40:=H a6;have a4:=a2.up (n':=2^20) om;refine ax ?_;refine xhq (fun m_ l p_ L_=>∃j:Nat,m_=n-j/\l=[(1,none,.slice a n c),(2,none,w_ b1 0),(5,none,.J ((j:Nat):Int))]/\p_=p/\L_=[[(b1,.cells (tcs A t).toArray 33 (0,0))]]/\j<=n/\ ∀i,i<j->(ls.getD i []).length<=60) ⟨0,rfl,rfl,rfl,rfl,Nat.zero_le _,fun i hi=>absurd hi (Nat.not_lt_zero _)⟩ sb ?_;rintro _ _ p _ IH ⟨j,rfl,rfl,rfl,rfl,hj,hs⟩;refine cq (fun cd=>?_) (fun cd=>?_)
 ·have a7:j<n:=om;refine ax ?_;refine ro_y rfl (y_lp rfl (At.get S a7)) ?_;refine cq (fun ce=>?_) (fun ce=>?_)
  ·refine K.q ?_;exact⟨true,rfl,fun z=>by cases z⟩
  exact bkq (IH _ _ _ om ⟨j+1,rfl,rfl,rfl,rfl,om,fun i hi=>by
   by_cases z:i=j
   ·rw[z];omega
   ·exact hs i om⟩)
 obtain rfl:j=n:=om;have a5:∀s∈ls,s.length<=60:=fun s h=>by
  obtain⟨i,hi,rfl⟩:=List.mem_iff_getElem.1 h;have:=hs i om;rwa[Flow.Au hi]at this
 clear IH;refine cdq (cf20 A t T a4) ?_;refine cq (fun ce=>?_) (fun ce=>?_)
 ·refine K.q ?_;exact⟨false,rfl,fun _=>⟨a2,a5⟩⟩
 obtain⟨hv,b3⟩:Cj t=0/\j<=30:=by simp at ce;exact⟨ce.1,om⟩
 refine lq fun b6=>?_;refine ax ?_
 refine xhq (fun m_ l p_ L_=>∃(i:Nat)(A':TA)(t':Twn)(ka:Option Addr)(kn kc:Nat)(pa:Option Addr)(pn pc:Nat),m_=j-i/\l=[(1,none,.slice a j c),(6,none,w_ b6 0),(7,none,.J ((i:Nat):Int))]/\PG h.size [] p p_/\
  L_=[[(b6,.cells (tcs A' t'++[Value.slice ka kn kc,.slice pa pn pc]).toArray 73 (0,0))],[(b1,.cells (tcs A t).toArray 33 (0,0))]]/\i<=j/\Nn p_ i (.agg (tcs A' t'++[Value.slice ka kn kc,.slice pa pn pc]).toArray)) ⟨0,A,t,none,0,0,none,0,0,rfl,rfl,.refl _ _ _,rfl,Nat.zero_le _,⟨A,t,none,0,0,[],none,0,0,[],rfl,T,hv,Sl.nil _ _ _,fun i hi=>by simp at hi,Nat.le_refl _,Sl.nil _ _ _,Nat.le_refl _,Nat.le_refl _,fun e he=>by simp at he⟩⟩ sb ?_
 rintro _ _ p1 _ IH ⟨i,A',t',ka,kn,kc,pa,pn,pc,rfl,rfl,g1,rfl,hi,D⟩;have S2:At p1 a j ls:=Sl.mono g1.le S;have S3:Sl p1 a j 1 (scs ls):=S2;refine cq (fun cd=>?_) (fun cd=>?_)
 ·have a3:i<j:=om;have b9:=hs i a3;refine ax ?_
  refine xzh 11 [10,5] [0,1,2,3,4,6,7,8] [5,9,10] (fun i=>match i with|10=>[9]|_=>[]) (fun i=>match i with|3=>[1,2]|4=>[3]|5=>[0,4]|6=>[5]|7=>[5,6]|8=>[5,6]|10=>[5,7,9]|_=>[])
   (fun q val _ v x=>match q with
    |0=>v=.agg (tcs A' t'++[Value.slice ka kn kc,.slice pa pn pc]).toArray/\x=[]
    |1=>v=.slice a j c/\x=[]
    |2=>v=.J ((i:Nat):Int)/\x=[]
    |3=>v=.pointer (some ((adr a).add (i*1)))/\x=[]
    |4=>v=sv (ls.getD i [])/\x=[]
    |5=>∃(M:TA)(t2:Twn)(k2:Option Addr)(V c2:Nat)(O:Option Addr)(m2 d2:Nat)(z:Str),v=.tuple #[.agg (tcs M t2++[Value.slice k2 V c2,.slice O m2 d2]).toArray,sv z]/\ ∀p',PLe p1 p'->(∀y∈x,p' y.1=some y.2)->Nn p' (i+1) (.agg (tcs M t2++[Value.slice k2 V c2,.slice O m2 d2]).toArray)
    |6=>v=val 5/\x=[]
    |7=>(∃(M:TA)(t2:Twn)(k2:Option Addr)(V c2:Nat)(O:Option Addr)(m2 d2:Nat)(z:Str),val 5=.tuple #[.agg (tcs M t2++[Value.slice k2 V c2,.slice O m2 d2]).toArray,sv z]/\v=.agg (tcs M t2++[Value.slice k2 V c2,.slice O m2 d2]).toArray)/\x=[]
    |8=>(∃z,v=sv z)/\x=[]
    |9=>∃b,v=w_ b 0/\x=[(b,.cells #[.slice none 0 0,.slice none 0 0,.J 0,.J 0,.J 0,.slice none 0 0,.slice none 0 0,.slice none 0 0,.J 0,.J 0,.slice none 0 0,.slice none 0 0,.slice none 0 0] 73 (0,0))]
    |10=>∃b cs,val 9=w_ b 0/\val 7=.agg cs/\x=[(b,.cells cs 73 (0,0))]
    |_=>True) (fun q a9 val piece H=>?_) (fun val piece q hj v x H=>?_) (fun val piece H=>?_)
  ·match q,a9 with
   |0,_=>
     exact det
   |1,_=>
     exact det
   |2,_=>
     exact det
   |3,_=>
     refine de_y rfl rfl (xs8 (by show some ([],val 1)=_;rw[(H 1 rfl).1]) (by show some ([],val 2)=_;rw[(H 2 rfl).1]) sdt sdt ⟨a3,Sl.ne S3 om⟩ (m:=j) (i:=i)) ?_;exact det
   |4,_=>
     refine de_y rfl rfl (y_lp (by show some ([],val 3)=_;rw[(H 3 rfl).1]) (At.get S2 a3)) ?_;exact det
   |5,_=>
     refine xuk (first:=[]) (cap:=[]) (vs:=[.agg (tcs A' t'++[Value.slice ka kn kc,.slice pa pn pc]).toArray,sv (ls.getD i [])]) (Q:=fun v x=>∃(M:TA)(t2:Twn)(k2:Option Addr)(V c2:Nat)(O:Option Addr)(m2 d2:Nat)(z:Str),v=.tuple #[.agg (tcs M t2++[Value.slice k2 V c2,.slice O m2 d2]).toArray,sv z]/\ ∀p',PLe p1 p'->(∀y∈x,p' y.1=some y.2)->Nn p' (i+1) (.agg (tcs M t2++[Value.slice k2 V c2,.slice O m2 d2]).toArray)) rfl rfl (by show some (([]:List Prop),[val 0,val 4])=_;rw[(H 0 rfl).1,(H 4 rfl).1])
      (fun h pe=>(cf31 i om D (ls.getD i []) om h pe).mono fun v h' x=>by
       obtain⟨Z,⟨p4,⟨v',z,e,D2⟩,le⟩,N⟩:=x.pieces;have D3:=D2;obtain⟨M,t2,k2,V,c2,c5,O,m2,d2,b5,rfl,_⟩:=D3;exact⟨Z,⟨M,t2,k2,V,c2,O,m2,d2,z,e,fun p' l y=>D2.mono (le p' l y)⟩,N⟩) fun v Y o=>?_
     exact xuq ⟨⟨_,rfl⟩,fun v' e=>by
      have e':=xmq e;subst e';obtain⟨M,t2,k2,V,c2,O,m2,d2,z,e1,h1⟩:=o;exact⟨M,t2,k2,V,c2,O,m2,d2,z,e1,fun p' l y=>h1 p' l fun u hu=>y u (by simpa using hu)⟩⟩
   |6,_=>
     exact det
   |7,_=>
     obtain⟨M,t2,k2,V,c2,O,m2,d2,z,e5,_⟩:=H 5 rfl;have e6:val 6=val 5:=(H 6 rfl).1;refine de_y rfl rfl (y_xt (by show some ([],val 6)=_;rw[e6,e5]) rfl) ?_;exact xuq ⟨⟨_,rfl⟩,fun v e=>⟨⟨M,t2,k2,V,c2,O,m2,d2,z,e5,xmq e⟩,rfl⟩⟩
   |8,_=>
     obtain⟨M,t2,k2,V,c2,O,m2,d2,z,e5,_⟩:=H 5 rfl;have e6:val 6=val 5:=(H 6 rfl).1;refine de_y rfl rfl (y_xt (by show some ([],val 6)=_;rw[e6,e5]) rfl) ?_;exact xuq ⟨⟨_,rfl⟩,fun v e=>⟨⟨z,xmq e⟩,rfl⟩⟩
   |9,_=>
     refine xec rfl fun b=>?_;exact xuq ⟨⟨_,rfl⟩,fun v e=>⟨b,xmq e,rfl⟩⟩
   |10,_=>
     obtain⟨b,e9,x9⟩:=H 9 rfl;obtain⟨⟨M,t2,k2,V,c2,O,m2,d2,z,_,e7⟩,_⟩:=H 7 rfl;show DE _ _ _ _ _ _ _ _ _ [piece 9];rw[x9];refine xbd (b:=b) (off:=0) rfl (by show some ([],val 9)=_;rw[e9]) (by show some ([],val 7)=_;rw[e7]) ?_;exact xuq ⟨⟨undef,rfl⟩,fun v e=>⟨b,_,e9,e7,rfl⟩⟩
  ·simp only[List.mem_cons,List.not_mem_nil,or_false]at hj;rcases hj with rfl|rfl|rfl|rfl|rfl|rfl|rfl|rfl<;>exact H.2
  obtain⟨M,t2,k2,V,c2,O,m2,d2,z,e5,h5⟩:=H 5 d_;obtain⟨⟨A3,t3,k3,n3,c3,q3,m3,d3,z3,f5,e7⟩,_⟩:=H 7 d_;obtain⟨b8,cs,e9,f7,b0⟩:=H 10 d_;obtain⟨⟨z8,e8⟩,_⟩:=H 8 d_;have f5:val 5=_:=f5;have e9:val 9=_:=e9;have f7:val 7=_:=f7;rw[e5]at f5;rw[e7]at f7;injection f5 with f5;injection f7 with f7;have f6:Value.agg (tcs M t2++[Value.slice k2 V c2,.slice O m2 d2]).toArray=.agg (tcs A3 t3++[Value.slice k3 n3 c3,.slice q3 m3 d3]).toArray:=Option.some.inj (show some _=some _ from congrArg (fun a:Array Value=>a[0]?) f5);injection f6 with f6;rw[<- f6]at f7;subst f7;refine xdk (l':=[(1,none,.slice a j c),(6,none,w_ b6 0),(7,none,.J ((i:Nat):Int)),(8,none,w_ b8 0),(54,none,sv z8)]) ?_ ⟨rfl,rfl,rfl,by show some (none,val 9)=_;rw[e9],by show some (none,val 8)=_;rw[e8],trivial⟩;clear H;show RO _ _ _ _ _ _ [piece 10,piece 5,_,_];rw[b0];generalize piece 5=Z at*;refine xjz Z fun p2 g2 hy=>?_;have D2:=h5 p2 g2.le hy;have D3:=D2;obtain⟨A4,t4,k4,n4,c4,c1,q4,m4,d4,b7,e4,T4,a8,_⟩:=D3;rw[e4]at D2;injection e4 with e4;rw[e4];refine ax ?_;refine xzg rfl rfl (cf30 A4 t4 T4 ((xdz a8).up om)) ?_;rintro _ ⟨q5,rfl,_⟩;refine cq (fun _=>?_) (fun _=>?_)
  ·refine K.q ?_;exact⟨true,rfl,fun z=>by cases z⟩
  exact bkq (IH _ _ _ om ⟨i+1,A4,t4,k4,n4,c4,q4,m4,d4,rfl,rfl,g1.trans g2,rfl,om,D2⟩)
 refine K.q ?_;exact⟨false,rfl,fun _=>⟨a2,a5⟩⟩
theorem xlh(A:TA)(t:Twn)(T:TwP p A t)(hn:t.fit 9223372036854775807){a:Option Addr}(n c:Nat)(ls:List Str)(S:At p a n ls):Kc prog md p 7 #[twV A t,.slice a n c] (fun v=>(∃q:Bool,v=.bool q/\(q=true->Cj t=0/\n<=30/\ ∀s∈ls,s.length<=60))):=by
 refine xkq func7 fun K b1=>?_;refine ckq (yz9 A t T hn n c ls S) ?_;rintro _ ⟨q,rfl,H⟩;refine ax ?_;refine xqz rfl rfl rfl sdu (fun M=>cf20 A t T ((H (by simpa using M)).1.up om)) ?_;refine K.q ?_;exact⟨_,rfl,fun e=>by simp at e;exact⟨e.1.2,om,(H e.1.1).2⟩⟩
end Go.Proofs.YtofhlcococeifaaGreatDoor
