/-
  Part of proofs about a town's master: a calculus for Bj beside goroutines that are only leaving, and the Bj. No condition.
-/
import Derived.Test.YtadndcpcjmmngaaGreatDoorYQ
set_option maxHeartbeats 1600000
set_option maxRecDepth 20000
set_option synthInstance.maxSize 2000
namespace Go.X.Ms
variable{d:Dsk}{args:List Str}{N i n:Nat}{l s w x:Str}{α:Type}{v:Value}
def Aq(w:Str):Nat×Nat:=
 if w=[117,112]then(1,0)
 else if w=[102,111,111,116]then(1,1)else if w=[104,111,117,115,101]then(1,1)else if w=[119,101,108,108]then(1,1)else if w=[115,105,122,101]then(1,1)
 else if w=[119,97,110,116]then(1,2)else if w=[104,97,115]then(1,2)else if w=[119,97,121]then(1,2)
 else if w=[100,97,121]then(1,3)else if w=[114,111,99,107]then(1,4)
 else if w=[98,101,103,105,110]then(2,0)else if w=[101,110,100]then(2,0)else if w=[100,114,111,112]then(2,0)
 else if w=[102,101,119,101,115,116]then(3,0)else if w=[99,104,101,97,112]then(3,0)else if w=[109,111,115,116]then(3,0)else if w=[108,97,99,107,115]then(3,0)else if w=[115,104,111,114,116]then(3,0)
 else if w=[101,109,112,116,121]then(3,0)else if w=[108,101,97,115,116]then(3,0)else if w=[114,97,116,105,111,110]then(3,0)
 else if w=[100,101,101,112]then(3,1)else if w=[110,101,120,116]then(3,1)else if w=[100,114,97,119,115]then(3,1)else if w=[100,114,121]then(3,1)else if w=[115,112,97,114,101]then(3,1)else if w=[108,101,118,101,108]then(3,1)
 else(0,0)
structure Ln where
 w:Str
 k:Nat
 a:List Str
 l:Str
def lnz:Ln:=⟨[],0,[],[]⟩
def E3(l:Str)(q:List Str):Ln:=
 if(Aq (q.headD [])).1=0\/q.length≠(Aq (q.headD [])).2+1\/(l≠[]/\(Aq (q.headD [])).1≠3)then lnz
 else if q.tail.all Bc=true then⟨q.headD [],(Aq (q.headD [])).1,q.tail,l⟩else lnz
def Ep(p:List Str):Bool:=decide (2<p.length)&&decide (p.headD []=Cl)&&isLet (p.getD 1 [])
def C5(x:Str):Ln:=if Ep (Ad x)=true then E3 ((Ad x).getD 1 []) ((Ad x).drop 2)else E3 [] (Ad x)
theorem xql(s:Str)(c:UInt8):Ad (s++[c])=if c=32 then Ad s++[[]]else(Ad s).dropLast++[(Ad s).getLastD []++[c]]:=by
 induction s with
 |nil=>
   show(if c=32 then []::Ad []else(c::(Ad []).headD [])::(Ad []).tail)=_;by_cases h:c=32
   ·rw[if_pos h,if_pos h];rfl
   ·rw[if_neg h,if_neg h];rfl
 |cons d s ih=>
   rw[List.cons_append,Ad,ih,Ad];cases e:Ad s with
   |nil=>exact absurd e (xej s)
   |cons a t=>
     by_cases h:c=32
     ·rw[if_pos h,if_pos h];split<;>rfl
     ·rw[if_neg h,if_neg h];cases t with
      |nil=>split<;>simp
      |cons b t=>split<;>simp
theorem xy3(h:n<10):w=(w++txt ((n:Nat):Int)).dropLast:=by rw[xcj h];simp
theorem xc6{c:Prop}[Decidable c]{a q:α}{r:Option α}(h:(if c then some a else r)=some q):(c/\a=q)\/(¬ c/\r=some q):=by
 by_cases k:c
 ·rw[if_pos k]at h;exact .inl ⟨k,Option.some.inj h⟩
 ·rw[if_neg k]at h;exact .inr ⟨k,h⟩
theorem ycz{q:Qn}(h:qn (w++txt ((n:Nat):Int))=some q):Aq w=(3,n):=by
 have hn:=ybs h;have H:=xy3 (w:=w) (n:=n) (by rw[hn];cases q<;>decide);generalize w++txt ((n:Nat):Int)=z at h H;unfold qn at h
 iterate 14 (rcases xc6 h with⟨c,e⟩|⟨_,h⟩;(subst e;subst c;subst H;subst hn;rfl))
 cases h
theorem yxl{o:Od}(h:od (w++txt ((n:Nat):Int))=some o):Aq w=(1,n):=by
 have hn:=yps h;have H:=xy3 (w:=w) (n:=n) (by rw[hn];cases o<;>decide);generalize w++txt ((n:Nat):Int)=z at h H;unfold od at h
 iterate 10 (rcases xc6 h with⟨c,e⟩|⟨_,h⟩;(subst e;subst c;subst H;subst hn;rfl))
 cases h
theorem ybz(h:(Aq w).1≠3):qn (w++txt ((n:Nat):Int))=none:=by
 cases e:qn (w++txt ((n:Nat):Int))with
 |none=>rfl
 |some q=>exact absurd (congrArg Prod.fst (ycz e)) h
theorem ybc(h:∃s∈args,Bc s=false):Cr d l (w::args)=(d,Fj):=by
 rw[xuk,if_pos];obtain⟨s,hs,e⟩:=h;refine .inl ?_;rw[List.all_eq_false];exact⟨s,hs,by rw[e];simp⟩
theorem xv2(H:qn (w++txt args.length)=none)(h:l≠[]\/(od (w++txt args.length)=none/\Cq w args.length=false)):Cr d l (w::args)=(d,Fj):=by
 rw[xuk,if_pos (.inr ⟨H,h⟩)]
section
variable{p:Str}{l:List Str}
end
def Na(o:Option Int):Value:=.tuple #[.J (o.getD 0),.bool o.isSome]
def sgn(b:Bool)(n:Nat):Int:=if b then -(n:Int)else n
theorem xe1(h:i<s.length):s.drop i=s.getD i 0::s.drop (i+1):=by
 rw[List.drop_eq_getElem_cons h,Flow.A8 h]
theorem xgp{j:Nat}(h:j<s.length):s.take (j+1)=s.take j++[s.getD j 0]:=by
 rw[List.take_add_one,List.getElem?_eq_getElem h,Flow.A8 h];rfl
theorem xhp(s:Str):(Ad s).length<=s.length+1:=by
 induction s with
 |nil=>exact Nat.le_refl _
 |cons c s ih=>
   rw[Ad];split
   ·rw[List.length_cons,List.length_cons];omega
   ·rw[List.length_cons,List.length_tail,List.length_cons];have:=List.length_pos_iff.2 (xej s);omega
theorem ypw{L:List Str}(h:L≠[]):(scs L).set (L.length-1) [sv x]=scs (L.dropLast++[x]):=by
 obtain⟨M,y,rfl⟩:∃M y,L=M++[y]:=⟨L.dropLast,L.getLast h,(List.dropLast_concat_getLast h).symm⟩
 simp[scs]
def LnP(p':Aa)(x:Ln)(v:Value):Prop:=∃(a:Option Addr)(c:Nat),v=.agg #[sv x.w,.J ((x.k:Nat):Int),.slice a x.a.length c,sv x.l]/\x.a.length<=c/\Bs p' a x.a.length x.a
theorem yws{c:Prop}[Decidable c]{a b:Nat×Nat}(H:a.1<=3/\a.2<=4)(M:b.1<=3/\b.2<=4):(if c then a else b).1<=3/\(if c then a else b).2<=4:=by split<;>assumption
theorem xcl(w:Str):(Aq w).1<=3/\(Aq w).2<=4:=by
 unfold Aq
 iterate 27 (refine yws d_ ?_)
 decide
theorem xvp(q:List α)(d:α):q.headD d=q.getD 0 d:=by cases q<;>rfl
theorem xx2{c:Prop}[Decidable c]{a b q:α}(h:(if c then a else b)=q):(c/\a=q)\/(¬ c/\b=q):=by
 by_cases k:c
 ·rw[if_pos k]at h;exact .inl ⟨k,h⟩
 ·rw[if_neg k]at h;exact .inr ⟨k,h⟩
theorem yh2(h:Aq w=(3,n)):∃q,qn (w++txt ((n:Nat):Int))=some q:=by
 unfold Aq at h
 iterate 27 (rcases xx2 h with⟨c,e⟩|⟨_,h⟩;(obtain⟨H,M⟩:=Prod.mk.inj e;subst c;subst M;first|(exact absurd H d_)|(rw[xcj d_];exact⟨_,rfl⟩)))
 cases h
theorem yl2(h:Aq w=(1,n)):∃o,od (w++txt ((n:Nat):Int))=some o:=by
 unfold Aq at h
 iterate 27 (rcases xx2 h with⟨c,e⟩|⟨_,h⟩;(obtain⟨H,M⟩:=Prod.mk.inj e;subst c;subst M;first|(exact absurd H d_)|(rw[xcj d_];exact⟨_,rfl⟩)))
 cases h
theorem yoq(h:Aq w=(2,n)):n=0/\(w=Dy\/w=Ox\/w=F5):=by
 unfold Aq at h
 iterate 27 (rcases xx2 h with⟨c,e⟩|⟨_,h⟩;(obtain⟨H,M⟩:=Prod.mk.inj e;subst c;subst M;first|(exact absurd H d_)|(refine⟨rfl,?_⟩;first|exact .inl rfl|exact .inr (.inl rfl)|exact .inr (.inr rfl))))
 cases h
theorem xrp(h:Cq w n=true):n=0/\Aq w=(2,0):=by
 unfold Cq at h;simp only[Bool.and_eq_true,Bool.or_eq_true,decide_eq_true_eq]at h;refine⟨h.1,?_⟩;rcases h.2 with(e|e)|e<;>(rw[e];decide)
theorem yoz(h:(Aq w).1≠2):Cq w n=false:=by
 rw[Bool.eq_false_iff];intro z;rw[(xrp z).2]at h;exact h rfl
noncomputable def Kl(d:Dsk)(o:Od)(vs:List Int):Dsk×Str:=match C4 o d.now.t vs with
 |none=>(d,wNo)
 |some t=>if Bp t=0 then({d with now:={d.now with t:=t}},wOk)else(d,wNo)
noncomputable def Fp(d:Dsk)(x:Ln):Dsk×Str:=
 if x.k=0 then(d,Fj)else match Br d.now x.a with
  |none=>(d,B8)
  |some vs=>if x.k=2 then((tryD d x.w).1,Hs (tryD d x.w).2)else match qn (x.w++txt x.a.length)with
    |some q=>De d q vs x.l
    |none=>match od (x.w++txt x.a.length)with
      |some o=>Kl d o vs
      |none=>(d,Fj)
theorem xq0(d:Dsk):Cr d l (w::args)=Fp d (E3 l (w::args)):=by
 have hz:Fp d lnz=(d,Fj):=by unfold Fp;exact if_pos (show lnz.k=0 from rfl)
 unfold E3;rw[List.headD_cons,List.tail_cons];by_cases c:(Aq w).1=0\/(w::args).length≠(Aq w).2+1\/(l≠[]/\(Aq w).1≠3)
 ·rw[if_pos c,hz];have O:(Aq w).1≠3\/args.length≠(Aq w).2->qn (w++txt args.length)=none:=fun h=>by
   cases e:qn (w++txt args.length)with
   |none=>rfl
   |some q=>
     have k:=ycz e;rw[k]at h;rcases h with h|h<;>exact absurd rfl h
  have no:(Aq w).1≠1\/args.length≠(Aq w).2->od (w++txt args.length)=none:=fun h=>by
   cases e:od (w++txt args.length)with
   |none=>rfl
   |some q=>
     have k:=yxl e;rw[k]at h;rcases h with h|h<;>exact absurd rfl h
  have nt:(Aq w).1≠2\/args.length≠(Aq w).2->Cq w args.length=false:=fun h=>by
   rw[Bool.eq_false_iff];intro z;obtain⟨z1,z2⟩:=xrp z;rw[z2]at h;rcases h with h|h
   ·exact h rfl
   ·exact h z1
  rcases c with c|c|c
  ·exact xv2 (O (.inl om)) (.inr ⟨no (.inl om),nt (.inl om)⟩)
  ·have c:args.length≠(Aq w).2:=fun e=>c (by rw[List.length_cons,e]);exact xv2 (O (.inr c)) (.inr ⟨no (.inr c),nt (.inr c)⟩)
  ·exact xv2 (O (.inl c.2)) (.inl c.1)
 ·rw[if_neg c];by_cases hc:args.all Bc=true
  ·rw[if_pos hc];have hn:args.length=(Aq w).2:=by
    refine Nat.succ.inj (Classical.byContradiction fun z=>c (.inr (.inl fun e=>z ?_)));rw[List.length_cons]at e;omega
   have hl:l≠[]->(Aq w).1=3:=fun z=>Classical.byContradiction fun y=>c (.inr (.inr ⟨z,y⟩));have a2:(Aq w).1≠0:=fun z=>c (.inl z);have a3:=(xcl w).1;have ek:Aq w=((Aq w).1,args.length):=by rw[hn]
   unfold Fp;rw[if_neg a2];have hs:(Aq w).1=1\/(Aq w).1=2\/(Aq w).1=3:=om;rcases hs with e|e|e
   ·obtain⟨o,M⟩:=yl2 (ek.trans (by rw[e]));have H:qn (w++txt args.length)=none:=ybz om;have V:l=[]:=Classical.byContradiction fun z=>by have:=hl z;omega
    subst V;cases hv:Br d.now args with
    |none=>exact xyd hc (.inr ⟨rfl,by rw[M];simp⟩) hv
    |some vs=>
      rw[xow H M (yoz om) hc hv];simp only[if_neg (show ¬ (Aq w).1=2 by omega),H,M];rfl
   ·obtain⟨h0,ht⟩:=yoq (ek.trans (by rw[e]));have V:l=[]:=Classical.byContradiction fun z=>by have:=hl z;omega
    subst V;obtain rfl:args=[]:=List.length_eq_zero_iff.1 h0;have H:qn (w++txt ((0:Nat):Int))=none:=ybz (n:=0) om;rw[xas H (by rcases ht with rfl|rfl|rfl<;>decide)];simp only[Br,if_pos e]
   ·obtain⟨q,H⟩:=yh2 (ek.trans (by rw[e]));cases hv:Br d.now args with
    |none=>exact xyd hc (.inl (by rw[H];simp)) hv
    |some vs=>
      rw[xtk H hc hv];simp only[if_neg (show ¬ (Aq w).1=2 by omega),H]
  ·rw[if_neg hc,hz];refine ybc ?_;simp only[Bool.not_eq_true,List.all_eq_false]at hc;obtain⟨s,hs,e⟩:=hc;exact⟨s,hs,by simpa using e⟩
theorem xrf(d:Dsk)(x:Str):doD d x=Fp d (C5 x):=by
 have O:Fp d lnz=(d,Fj):=by unfold Fp;exact if_pos (show lnz.k=0 from rfl)
 have M:=xej x;unfold doD C5;simp only;generalize Ad x=ps at*
 match ps,M with
 |w::args,_=>
   rw[List.headD_cons];by_cases hw:w=Cl
   ·rw[if_pos hw];by_cases c:(w::args).length<3\/isLet ((w::args).getD 1 [])=false
    ·rw[if_pos c];have H:Ep (w::args)=false:=by
      unfold Ep;rcases c with c|c
      ·rw[decide_eq_false om];rfl
      ·rw[c,Bool.and_false]
     rw[H,if_neg s_];unfold E3;rw[List.headD_cons,hw,if_pos (.inl d_),O]
    ·rw[if_neg c];simp only[not_or,Bool.not_eq_false]at c;have H:Ep (w::args)=true:=by
      unfold Ep;rw[decide_eq_true om,List.headD_cons,decide_eq_true hw,c.2];rfl
     rw[if_pos H]
     match args,c with
     |[],c=>exact absurd c.1 s_
     |[_],c=>exact absurd c.1 s_
     |b::v::rest,_=>exact xq0 d
   ·rw[if_neg hw];have H:Ep (w::args)=false:=by
     unfold Ep;rw[List.headD_cons,decide_eq_false hw,Bool.and_false,Bool.false_and]
    rw[H,if_neg s_];exact xq0 d
theorem xmp(l w:Str)(args:List Str):E3 l (w::args)=lnz\/(E3 l (w::args)=⟨w,(Aq w).1,args,l⟩/\(Aq w).1≠0/\args.length=(Aq w).2/\(l≠[]->(Aq w).1=3)/\args.all Bc=true):=by
 unfold E3;rw[List.headD_cons,List.tail_cons];by_cases c:(Aq w).1=0\/(w::args).length≠(Aq w).2+1\/(l≠[]/\(Aq w).1≠3)
 ·rw[if_pos c];exact .inl rfl
 ·rw[if_neg c];by_cases hc:args.all Bc=true
  ·rw[if_pos hc];refine .inr ⟨rfl,fun z=>c (.inl z),?_,fun z=>Classical.byContradiction fun y=>c (.inr (.inr ⟨z,y⟩)),hc⟩;refine Nat.succ.inj (Classical.byContradiction fun z=>c (.inr (.inl fun e=>z ?_)));rw[List.length_cons]at e;omega
  ·rw[if_neg hc];exact .inl rfl
theorem xgg(x:Str):C5 x=lnz\/ ∃w args l,C5 x=⟨w,(Aq w).1,args,l⟩/\(Aq w).1≠0/\args.length=(Aq w).2/\(l≠[]->(Aq w).1=3/\isLet l=true)/\args.all Bc=true/\Ad x=if l=[]then w::args else Cl::l::w::args:=by
 have V:=xej x;unfold C5;generalize Ad x=ps at*;by_cases H:Ep ps=true
 ·rw[if_pos H];unfold Ep at H;simp only[Bool.and_eq_true,decide_eq_true_eq]at H
  match ps,H with
  |[],H=>exact absurd H.1.1 s_
  |[_],H=>exact absurd H.1.1 s_
  |[_,_],H=>exact absurd H.1.1 s_
  |a::b::w::args,H=>
    have ha:a=Cl:=H.1.2;have M:isLet b=true:=H.2;have O:b≠[]:=fun e=>by rw[e]at M;cases M
    rcases xmp b w args with h|⟨h1,h2,h3,h4,h5⟩
    ·exact .inl h
    ·exact .inr ⟨w,args,b,h1,h2,h3,fun z=>⟨h4 z,M⟩,h5,by rw[if_neg O,ha]⟩
 ·rw[if_neg H]
  match ps,V with
  |w::args,_=>
    rcases xmp [] w args with h|⟨h1,h2,h3,h4,h5⟩
    ·exact .inl h
    ·exact .inr ⟨w,args,[],h1,h2,h3,fun z=>absurd rfl z,h5,(if_pos rfl).symm⟩
theorem yxr(x:Str):(C5 x).a.length<=4:=by
 rcases xgg x with e|⟨w,args,l,e,_,hn,_⟩
 ·rw[e];exact Nat.zero_le _
 ·rw[e];have:=(xcl w).2;show args.length<=4;omega
theorem xip:∀{s w:Str},Ad s=[w]->s=w
 |[],w,h=>by rw[Ad]at h;exact(List.cons.inj h).1
 |c::s,w,h=>by
   rw[Ad]at h;split at h
   ·exact absurd (List.cons.inj h).2 (xej s)
   ·obtain⟨M,O⟩:=List.cons.inj h;have H:=xej s;cases e:Ad s with
    |nil=>exact absurd e H
    |cons a t=>
      rw[e]at M O;have V:t=[]:=O;subst V;rw[xip e];exact M
theorem yn1(h:(C5 x).k=2):x=(C5 x).w/\(x=Dy\/x=Ox\/x=F5)/\(C5 x).a=[]:=by
 rcases xgg x with e|⟨w,args,l,e,_,h3,h4,_,h6⟩
 ·rw[e]at h;cases h
 ·rw[e]at h⊢;have H:(Aq w).1=2:=h;have M:l=[]:=Classical.byContradiction fun z=>by have:=(h4 z).1;omega
  obtain⟨O,hw⟩:=yoq (w:=w) (n:=(Aq w).2) (by rw[<- H]);have a0:args=[]:=List.length_eq_zero_iff.1 om;subst M a0;rw[if_pos rfl]at h6;obtain rfl:=xip h6;exact⟨rfl,hw,rfl⟩
theorem yup(H:(C5 x).k≠2):(doD d x).1.Cu=d.Cu:=by
 rw[xrf];unfold Fp;split
 ·rfl
 ·cases Br d.now (C5 x).a with
  |none=>rfl
  |some vs=>
    simp only;cases qn ((C5 x).w++txt (C5 x).a.length)with
    |some q=>exact(xub d q vs (C5 x).l).2
    |none=>
      cases od ((C5 x).w++txt (C5 x).a.length)with
      |none=>rfl
      |some o=>
        simp only;unfold Kl;cases C4 o d.now.t vs with
        |none=>rfl
        |some t=>simp only;split<;>rfl
theorem xvt(d:Dsk)(x:Str)(xs:List Str):Bw d (x::xs)=((Bw (doD d x).1 xs).1,(doD d x).2::(Bw (doD d x).1 xs).2):=by rw[Bw]
def Twin(d e:Dsk):Prop:=d.now.t=e.now.t/\d.Cu.map (·.t)=e.Cu.map (·.t)
def Of(x:Str):Bool:=(C5 x).a.any isLet
theorem xml{a b:Eg}:∀{xs:List Str},xs.any isLet=false->Br a xs=Br b xs
 |[],_=>rfl
 |s::ss,h=>by
   rw[List.any_cons,Bool.or_eq_false_iff]at h;rw[Br,Br,xqh (by rw[h.1];simp),xqh (by rw[h.1];simp),xml h.2]
theorem xz5{β:Type}(f:α->β)(l:List α):(l.map f).getLast?=l.getLast?.map f:=by rw[List.getLast?_map]
theorem ycw{e:Dsk}(h:Twin d e)(q:Qn)(a:List Int)(l l':Str):(De d q a l).2=(De e q a l').2/\Twin (De d q a l).1 (De e q a l').1:=by
 have H:∀(d:Dsk)(l:Str),(De d q a l).2=if(By q d.now.t a).2=3 then D9 else if(By q d.now.t a).2≠0 then Gk else(By q d.now.t a).1.text:=fun d l=>by
  unfold De;split
  ·rfl
  ·split<;>rfl
 obtain⟨O,V⟩:=xub d q a l;obtain⟨M,f2⟩:=xub e q a l';refine⟨by rw[H,H,h.1],?_,?_⟩
 ·rw[O,M];exact h.1
 ·rw[V,f2];exact h.2
theorem xz3{e:Dsk}(h:Twin d e)(w:Str):(tryD d w).2=(tryD e w).2/\Twin (tryD d w).1 (tryD e w).1:=by
 unfold tryD;by_cases c:w=Dy
 ·rw[if_pos c,if_pos c];refine⟨rfl,h.1,?_⟩;show(d.Cu++[d.now]).map (·.t)=(e.Cu++[e.now]).map (·.t);rw[List.map_append,List.map_append,h.2];show _++[d.now.t]=_++[e.now.t]
  rw[h.1]
 ·rw[if_neg c,if_neg c];have H:=congrArg List.getLast? h.2;rw[xz5,xz5]at H;have hlen:=congrArg List.length h.2;rw[List.length_map,List.length_map]at hlen;have ht:(d.Cu.take (d.Cu.length-1)).map (·.t)=(e.Cu.take (e.Cu.length-1)).map (·.t):=by rw[List.map_take,List.map_take,h.2,hlen]
  cases e1:d.Cu.getLast? with
  |none=>
    rw[e1]at H;cases M:e.Cu.getLast? with
    |none=>exact⟨rfl,h⟩
    |some y=>rw[M]at H;cases H
  |some x=>
    rw[e1]at H;cases M:e.Cu.getLast? with
    |none=>rw[M]at H;cases H
    |some y=>
      rw[M]at H;have V:x.t=y.t:=Option.some.inj H;simp only;by_cases O:w=F5
      ·rw[if_pos O,if_pos O];exact⟨rfl,V,ht⟩
      ·rw[if_neg O,if_neg O];exact⟨rfl,h.1,ht⟩
theorem ykq{e:Dsk}(h:Twin d e)(o:Od)(vs:List Int):(Kl d o vs).2=(Kl e o vs).2/\Twin (Kl d o vs).1 (Kl e o vs).1:=by
 unfold Kl;rw[h.1];cases C4 o e.now.t vs with
 |none=>exact⟨rfl,h⟩
 |some t=>
   simp only;split
   ·exact⟨rfl,rfl,h.2⟩
   ·exact⟨rfl,h⟩
theorem ylq{e:Dsk}(h:Twin d e){k:Nat}{a a':List Str}{l':Str}(H:a.length=a'.length)(hv:Br d.now a=Br e.now a'):(Fp d ⟨w,k,a,l⟩).2=(Fp e ⟨w,k,a',l'⟩).2/\Twin (Fp d ⟨w,k,a,l⟩).1 (Fp e ⟨w,k,a',l'⟩).1:=by
 unfold Fp;simp only;rw[hv,H];split
 ·exact⟨rfl,h⟩
 ·cases Br e.now a' with
  |none=>exact⟨rfl,h⟩
  |some vs=>
    simp only;split
    ·exact⟨congrArg Hs (xz3 h w).1,(xz3 h w).2⟩
    ·cases qn (w++txt a'.length)with
     |some q=>exact ycw h q vs l l'
     |none=>
       cases od (w++txt a'.length)with
       |some o=>exact ykq h o vs
       |none=>exact⟨rfl,h⟩
theorem ybw:∀{xs:List Str}{d e:Dsk},Twin d e->(∀x∈xs,Of x=false)->(Bw d xs).2=(Bw e xs).2/\Twin (Bw d xs).1 (Bw e xs).1
 |[],_,_,h,_=>⟨rfl,h⟩
 |x::xs,d,e,h,hx=>by
   have hs:=ylq h (w:=(C5 x).w) (k:=(C5 x).k) (l:=(C5 x).l) (l':=(C5 x).l) rfl (xml (a:=d.now) (b:=e.now) (hx x s_));have V:(doD d x).2=(doD e x).2:=by rw[xrf,xrf];exact hs.1
   have O:Twin (doD d x).1 (doD e x).1:=by rw[xrf,xrf];exact hs.2
   have H:=ybw O fun y M=>hx y (List.mem_cons_of_mem _ M);rw[xvt,xvt];exact⟨by show _::_=_::_;rw[V,H.1],H.2⟩
open Go.X Go.Conc
variable{ks:List (Str×Int)}{p p':Aa}
def kcs(ks:List (Str×Int)):List (List Value):=ks.map fun k=>[sv k.1,.J k.2]
theorem yij(hi:i<ks.length):(kcs ks)[i]?=some [sv (ks.getD i ([],0)).1,.J (ks.getD i ([],0)).2]:=by
 rw[kcs,List.getElem?_map,List.getD_eq_getElem?_getD,List.getElem?_eq_getElem hi];rfl
theorem xes(ks:List (Str×Int)):(kcs ks).length=ks.length:=by simp[kcs]
def KOk(ks:List (Str×Int)):Prop:=∀i,i<ks.length-> -1000000<=(ks.getD i ([],0)).2/\(ks.getD i ([],0)).2<=1000000
theorem KOk.snoc{ks:List (Str×Int)}(H:KOk ks){s:Str}{x:Int}(M: -1000000<=x/\x<=1000000):KOk (ks++[(s,x)]):=fun i hi=>by
 rw[List.length_append,List.length_singleton]at hi;rw[List.getD_eq_getElem?_getD];rcases Nat.lt_or_ge i ks.length with z|z
 ·rw[List.getElem?_append_left z,<- List.getD_eq_getElem?_getD];exact H i z
 ·obtain rfl:i=ks.length:=om;rw[List.getElem?_append_right (Nat.le_refl _)];simpa using M
theorem yic(ks:List (Str×Int))(s:Str)(x:Int):kcs ks++[[sv s,.J x]]=kcs (ks++[(s,x)]):=by simp[kcs]
def StP(p:Aa)(N:Nat)(e:List Value):Prop:=∃(A:TA)(t:Twn)(M:Option Addr)(H O:Nat)(ks:List (Str×Int)),e=tcs A t++[.slice M H O]/\TwP p A t/\Bp t=0/\Sl p M H 2 (kcs ks)/\KOk ks/\H<=N
theorem StP.mono{p p':Aa}{N M:Nat}{e:List Value}(s:StP p N e)(H:PLe p p')(hN:N<=M):StP p' M e:=by
 obtain⟨A,t,O,V,kc,ks,e1,T,hv,S,hk,hn⟩:=s;exact⟨A,t,O,V,kc,ks,e1,T.mono H,hv,Sl.mono H S,hk,Nat.le_trans hn hN⟩
theorem StP.Nw{p:Aa}{N:Nat}{e:List Value}(s:StP p N e):∀u∈e,Be u=true:=by
 obtain⟨A,t,M,O,V,ks,rfl,_⟩:=s;intro u H;simp only[tcs,List.cons_append,List.nil_append,List.mem_cons,List.not_mem_nil,or_false]at H;rcases H with rfl|rfl|rfl|rfl|rfl|rfl|rfl|rfl|rfl|rfl|rfl|rfl<;>rfl
def Mz(p:Aa)(N:Nat)(v:Value):Prop:=∃(A:TA)(t:Twn)(O:Option Addr)(M kc:Nat)(ks:List (Str×Int))(V:Option Addr)(H pc:Nat)(es:List (List Value)),
 v=.agg (tcs A t++[Value.slice O M kc,.slice V H pc]).toArray/\TwP p A t/\Bp t=0/\Sl p O M 2 (kcs ks)/\KOk ks/\M<=N/\Sl p V H 12 es/\H<=pc/\H<=N/\ ∀e∈es,StP p N e
theorem Mz.mono{p p':Aa}{N:Nat}{v:Value}(d:Mz p N v)(H:PLe p p'):Mz p' N v:=by
 obtain⟨A,t,O,kn,kc,ks,pa,V,pc,es,e,T,hv,S,hk,M,P,h1,h2,h3⟩:=d;exact⟨A,t,O,kn,kc,ks,pa,V,pc,es,e,T.mono H,hv,Sl.mono H S,hk,M,Sl.mono H P,h1,h2,fun e he=>(h3 e he).mono H (Nat.le_refl _)⟩
end Go.X.Ms
namespace Go.Proofs.YtadndcpcjmmngaaGreatDoor
open Go.Proofs.Tryz
open Go.X Go.X.Ms Go.Conc
variable{l:List Int}{md:Md}{p:Aa}{v:Value}
theorem cf69(s:Str):Dc prog md p 69 #[sv s] (.bool (isLet s)):=by
 refine xlq func69 fun K=>?_;refine ro_y rfl (xzz rfl rfl sdt sdt (fun c=>⟨d_,by simp at c;omega⟩)) ?_;refine ax ?_;refine ro_y rfl (xzz rfl rfl sdu sdu (fun c=>⟨d_,by simp at c;omega⟩)) ?_;refine K.q ?_;show Value.bool _=_;congr 1;rw[Bool.eq_iff_iff,xcf];simp;omega
theorem cf70(w:Str):Dc prog md p 70 #[sv w] (.tuple #[.J (((Aq w).1:Nat):Int),.J (((Aq w).2:Nat):Int)]):=by
 intro h M;refine xez M func70 fun _ _ _ K=>?_;refine ax ?_
 repeat' (first
  |contradiction
  |(refine xrq func70 rfl rfl fun _ H=>K _ _ ⟨?_,H.kept⟩;(first|(subst_vars;rfl)|(simp only[Aq, *,if_false];rfl));done)
  |(refine xjx rfl (fun O=>?_) (fun O=>?_))
  |(refine ax ?_))
theorem cf11(s:Str):Dc prog md p 11 #[sv s] (Na (Cw s)):=by
 refine xlq func11 fun K=>?_;refine ro_y rfl (xzz rfl rfl sdt sdt (fun c=>⟨d_,by simp at c;omega⟩)) ?_;refine ax ?_;refine xgz (fun l p_ LL=>∃(u:Str)(b:Bool),l=[(0,none,sv u),(4,none,.bool b)]/\p_=p/\LL=[]/\Cw s=(Kb b u).map (sgn b)) ?_ (fun k' nx=>?_);rotate_left
 ·refine cq (fun H=>?_) (fun H=>?_)
  ·refine ax ?_;refine ro_y rfl (xvf rfl rfl sdt sdt (by show 1<=s.length;omega) (j:=1)) ?_;refine ax ?_;refine xgx (l':=[(0,none,sv s.tail),(4,none,.bool true)]) (nx _ _ _ ⟨_,_,rfl,rfl,rfl,?_⟩) ⟨by show some (none,sv (s.drop 1))=_;rw[List.drop_one],by
    show some (none,Value.bool (decide (0<((s.length:Nat):Int))&&decide (((s.getD 0 0).toNat:Int)=45)))=_;rw[decide_eq_true H.1,decide_eq_true (show((s.getD 0 0).toNat:Int)=45 from H.2)];rfl,trivial⟩
   have hc:s.headD 0=45:=by
    cases s with
    |nil=>exact absurd H.1 s_
    |cons c s=>exact UInt8.toNat_inj.1 (by have:((c.toNat:Nat):Int)=45:=H.2;show c.toNat=45;omega)
   unfold Cw;rw[if_pos hc];rfl
  ·refine ax ?_;refine xgx (l':=[(0,none,sv s),(4,none,.bool false)]) (nx _ _ _ ⟨_,_,rfl,rfl,rfl,?_⟩) ⟨rfl,by
    show some (none,Value.bool (decide (0<((s.length:Nat):Int))&&decide (((s.getD 0 0).toNat:Int)=45)))=_;have:(decide (0<((s.length:Nat):Int))&&decide (((s.getD 0 0).toNat:Int)=45))=false:=by
     rw[Bool.eq_false_iff];intro z;simp only[Bool.and_eq_true,decide_eq_true_eq]at z;exact H z
    rw[this],trivial⟩
   have hc:s.headD 0≠45:=by
    intro z;cases s with
    |nil=>cases z
    |cons c s=>
      have z:c=45:=z;subst z;exact H ⟨s_,rfl⟩
   unfold Cw;rw[if_neg hc];rfl
 rintro _ p _ ⟨u,b,rfl,rfl,rfl,e⟩;refine ax ?_;refine ro_y rfl (xzz rfl rfl sdu sdu (fun c=>⟨d_,by simp at c;omega⟩)) ?_;refine cq (fun H=>?_) (fun H=>?_)
 ·refine K.q ?_;have hN:Kb b u=none:=by
   unfold Kb;rw[if_pos];rcases H with(c|c)|⟨c1,c2⟩
   ·exact .inl om
   ·exact .inr (.inl om)
   ·refine .inr (.inr ⟨?_,c2.imp (fun z=>om) id⟩);cases u with
    |nil=>exact absurd c1 d_
    |cons c u=>exact(show c=48 from xc4 (by have:((c.toNat:Nat):Int)=48:=c1;omega))
  rw[e,hN];rfl
 have hN:Kb b u=Fc 0 u:=by
  unfold Kb;rw[if_neg];rintro(c|c|⟨c1,c2⟩)
  ·exact H (.inl (.inl om))
  ·exact H (.inl (.inr om))
  ·refine H (.inr ⟨?_,c2.imp (fun z=>om) id⟩);cases u with
   |nil=>exact absurd c1 d_
   |cons c u=>
     have:c=48:=c1;subst this;rfl
 have a4:u.length<=6:=by
  rcases Nat.lt_or_ge 6 u.length with z|z
  ·exact absurd (.inl (.inr om)) H
  ·exact z
 refine ax ?_;refine xnq (fun m_ l=>∃(j n:Nat),m_=u.length-j/\l=[(0,none,sv u),(4,none,.bool b),(5,none,.J ((n:Nat):Int)),(6,none,.J ((j:Nat):Int))]/\j<=u.length/\n<10^j/\Fc 0 u=Fc n (u.drop j)) ⟨0,0,rfl,rfl,Nat.zero_le _,d_,s_⟩ sb ?_;rintro _ _ IH ⟨j,n,rfl,rfl,hj,hn,hq⟩;have a2:10^j<=10^6:=Nat.pow_le_pow_right d_ om;have a3:(10:Nat)^6=1000000:=by decide
 refine cq (fun cd=>?_) (fun cd=>?_)
 ·have V:j<u.length:=om;refine ax ?_;refine ro_y rfl (xzz rfl rfl sdt sdt ⟨om,om⟩) ?_;refine ax ?_;refine ro_y rfl (xzz rfl rfl sdu sdu (fun _=>⟨om,om⟩)) ?_;refine cq (fun M=>?_) (fun M=>?_)
  ·refine K.q ?_;have hx:Eo (u.getD j 0)=false:=by
    rw[Bool.eq_false_iff];intro z;have z:=xdf.1 z;have O:u.getD (((j:Nat):Int).toNat) 0=u.getD j 0:=rfl;rw[O]at M;omega
   rw[e,hN,hq,xe1 V,Fc,if_neg (by rw[hx];simp)];rfl
  have hx:Eo (u.getD j 0)=true:=by
   rw[xdf];have O:u.getD (((j:Nat):Int).toNat) 0=u.getD j 0:=rfl;rw[O]at M;omega
  have hd:=xdf.1 hx;have O:u.getD (((j:Nat):Int).toNat) 0=u.getD j 0:=rfl;refine ax ?_;refine ro_y rfl (xzz rfl rfl sdt sdt ⟨om,om⟩) ?_;rw[O];refine ax ?_;refine ro_y rfl (y_pv rfl ⟨wr8 om,trivial⟩) ?_;refine ax ?_;refine ro_y rfl (xq1 (((u.getD j 0).toNat-48:Nat):Int) rfl (by rw[wrZ om];omega) (hs:=⟨_,underlying5⟩)) ?_;refine ax ?_;refine yzr (IH _ om ⟨j+1,10*n+((u.getD j 0).toNat-48),rfl,rfl,om,by rw[Nat.pow_succ];omega,?_⟩);rw[hq,xe1 V,Fc,if_pos hx]
 obtain rfl:j=u.length:=om;have hs:Cw s=some (sgn b n):=by rw[e,hN,hq,List.drop_length];rfl
 refine cq (fun M=>?_) (fun M=>?_)
 ·refine ax ?_;refine ro_y rfl (y_pv rfl ⟨by rw[wrZ om];omega,trivial⟩) ?_;refine K.q ?_;rw[hs];subst M;rfl
 ·refine K.q ?_;rw[hs,Bool.not_eq_true]at*;subst M;rfl
theorem cf68(s:Str)(hs:s.length<=1000):Nc prog md p 68 #[sv s] (fun v Y=>Ab 9 1 v (scs (Ad s)) Y):=by
 refine xlq func68 fun K=>?_;refine xtx rfl fun v0 Y0 V=>?_;have V:Ab 9 1 v0 (scs (Ad (s.take 0))) Y0:=V;refine ax ?_;refine xjq (fun m_ l p_ L_=>∃(j:Nat)(v:Value)(Y:Pcs),m_=s.length-j/\l=[(0,none,sv s),(3,none,v),(4,none,.J ((j:Nat):Int))]/\p_=p/\L_=[Y]/\j<=s.length/\Ab 9 1 v (scs (Ad (s.take j))) Y) ⟨0,_,_,rfl,rfl,rfl,rfl,Nat.zero_le _,V⟩ sb ?_;clear V;rintro _ _ p _ IH ⟨j,v,Y,rfl,rfl,rfl,rfl,hj,o⟩;have a2:=xhp (s.take j);rw[List.length_take]at a2;refine cq (fun cd=>?_) (fun cd=>?_)
 ·have O:j<s.length:=om;have e1:s.getD (((j:Nat):Int).toNat) 0=s.getD j 0:=rfl;refine ax ?_;refine ro_y rfl (xzz rfl rfl sdt sdt ⟨om,om⟩) ?_;rw[e1];refine cq (fun ce=>?_) (fun ce=>?_)
  ·have hc:s.getD j 0=32:=UInt8.toNat_inj.1 (by show _=32;omega);refine ax ?_;refine xtx rfl fun v3 Y3 o3=>?_;have o3:Ab 9 1 v3 (scs [[]]) Y3:=o3;refine xbv rfl rfl o o3 (by simp[scs,sv,Be]) (by rw[xwx];simp[scs];omega) fun v4 Y4 o4=>?_;exact bkq (IH _ _ _ om ⟨j+1,v4,Y4,rfl,rfl,rfl,rfl,om,o4.as (by rw[xgp O,xql,if_pos hc];simp[scs])⟩)
  ·have hc:s.getD j 0≠32:=fun z=>ce (by rw[z];rfl);obtain⟨a,c,rfl,-⟩:=o.val;rw[xwx]at o⊢;have M:=xej (s.take j);have a3:=List.length_pos_iff.2 M;have hi:((((Ad (s.take j)).length:Nat):Int)-1).toNat=(Ad (s.take j)).length-1:=om;have H:(scs (Ad (s.take j)))[(Ad (s.take j)).length-1]?=some [sv ((Ad (s.take j)).getLastD [])]:=by
    rw[scs,List.getElem?_map,List.getElem?_eq_getElem om];have:(Ad (s.take j)).getLastD []=(Ad (s.take j))[(Ad (s.take j)).length-1]:=by
     rw[List.getLastD_eq_getLast?,List.getLast?_eq_getElem?,List.getElem?_eq_getElem om];rfl
    rw[this];rfl
   refine drq [9] R11 ?_;refine de_y rfl rfl (xhl rfl rfl sdt sdt o ⟨om,by rw[xwx];omega⟩) ?_;refine de_y rfl rfl (xcb rfl sdt o rfl ?_ rfl (j:=(((Ad (s.take j)).length:Int)-1).toNat) (q:=0) (e:=[sv ((Ad (s.take j)).getLastD [])]) (u:=sv ((Ad (s.take j)).getLastD []))) ?_
   ·rw[hi];exact H
   refine ex ?_;refine de_y rfl rfl (xzz rfl rfl sdt sdt ⟨om,om⟩) ?_;rw[e1];refine xjk rfl rfl fun v5 Y5 o5=>?_;have o5:Ab 5 1 v5 (bcs [s.getD j 0]) Y5:=o5;refine yjn (a:=[s.getD j 0]) rfl rfl o5 ?_;refine xa ?_;refine ro_y rfl (xwf rfl rfl (by
    have:=xhw (s:=s.take j) (x:=(Ad (s.take j)).getLastD []) (by
     rw[List.getLastD_eq_getLast?,List.getLast?_eq_some_getLast M];exact List.getLast_mem M)
    rw[List.length_take]at this;simp only[List.length_cons,List.length_nil];omega)) ?_
   refine ax ?_;refine xav rfl rfl o om (by rw[xwx];omega) ?_;refine xck (i:=(Ad (s.take j)).length-1) (j:=0) (e:=[sv ((Ad (s.take j)).getLastD [])]) (vs:=[sv ((Ad (s.take j)).getLastD []++[s.getD j 0])]) rfl rfl o ?_ rfl rfl rfl ?_ s_ fun Y6 o6=>?_
   ·rw[hi];rfl
   ·exact H
   exact bkq (IH _ _ _ om ⟨j+1,_,Y6,rfl,rfl,rfl,rfl,om,o6.as (by rw[xgp O,xql,if_neg hc];exact ypw M)⟩)
 obtain rfl:j=s.length:=om;rw[List.take_length]at o;refine ax ?_;exact K.r rfl rfl fun _ H_=>⟨Y,o,El H_⟩
theorem yts:LnP p lnz (.agg #[sv [],.J 0,.slice none 0 0,sv []]):=⟨none,0,rfl,Nat.le_refl _,Sl.nil _ _ _⟩
theorem cf41(s:Str)(hs:s.length<=900):Lc prog md p 41 #[sv s] (fun v p'=>LnP p' (C5 s) v):=by
 intro h hp;refine xez hp func41 fun _ _ _ K=>?_;refine lq fun b2=>?_;refine ax ?_;refine xeb rfl rfl (cf68 s om) fun v0 Y0 o0=>?_;refine xhx o0 (m:=(Ad s).length) (xwx _) d_ fun p1 a c g1 e1 hc S=>?_;subst e1;have S:Bs p1 a (Ad s).length (Ad s):=S;have S1:Sl p1 a (Ad s).length 1 (scs (Ad s)):=S;have hR:C5 s=if Ep (Ad s)=true then E3 ((Ad s).getD 1 []) ((Ad s).drop 2)else E3 [] (Ad s):=rfl
 have O:0<(Ad s).length:=List.length_pos_iff.2 (xej s);have b0:=xhp s;generalize Ad s=ps at*;rw[hR]at K;clear hR o0;refine ax ?_;refine ro_y rfl (xoz rfl sdt (fun _=>Bs.get S (i:=0) O) (u:=sv (ps.getD 0 []))) ?_;refine ax ?_;refine ro_y rfl (xkz rfl rfl sdu sdu (fun c=>⟨⟨om,by simp at c;omega⟩,Sl.ne S1 O⟩)) ?_;refine ro_y rfl (xoz rfl sdu (fun c=>Bs.get S (i:=1) (by simp at c;omega)) (u:=sv (ps.getD 1 []))) ?_;refine cgq (fun _=>cf69 (ps.getD 1 [])) ?_;refine ax ?_
 refine xgz (fun l' p_ L_=>∃(a2:Option Addr)(c2:Nat)(H:List Str)(M:Str),l'=[(2,none,w_ b2 0),(3,none,.slice a2 H.length c2),(4,none,sv M)]/\p_=p1/\L_=[[(b2,.cells #[sv [],.J 0,.slice none 0 0,sv []] 95 (0,0))]]/\Bs p1 a2 H.length H/\0<H.length/\H.length<=c2/\H.length<=901/\
  (if Ep ps=true then E3 (ps.getD 1 []) (ps.drop 2)else E3 [] ps)=E3 M H) ?_ fun k' nx=>?_
 rotate_left
 ·have ek:(decide (2<((ps.length:Nat):Int))&&decide (ps.getD 0 []=[107,101,101,112])&&isLet (ps.getD 1 []))=Ep ps:=by
   unfold Ep;rw[xvp];congr 2;rw[Bool.eq_iff_iff];simp;omega
  refine cq (fun cc=>?_) (fun cc=>?_)
  ·have hk:Ep ps=true:=by rw[<- ek];simp;simpa using cc
   have h2:2<ps.length:=by unfold Ep at hk;simp at hk;exact hk.1.1
   refine ax ?_;refine ro_y rfl (y_lp rfl (Bs.get S (i:=1) om)) ?_;refine ax ?_;refine xwt (j:=2) rfl rfl ⟨om,hc⟩ ?_;refine ax ?_;have hd:(ps.drop 2).length=ps.length-2:=List.length_drop;refine xgx (l':=[(2,none,w_ b2 0),(3,none,.slice (Ga a c 2 1) (ps.drop 2).length (c-2)),(4,none,sv (ps.getD 1 []))]) (nx _ _ _ ⟨Ga a c 2 1,c-2,ps.drop 2,ps.getD 1 [],rfl,rfl,rfl,?_,om,om,om,by rw[if_pos hk]⟩) ⟨rfl,by rw[hd];rfl,rfl,trivial⟩;have z:=xuf S 2 om hc;rw[<- hd]at z;exact z
  ·have hk:¬ Ep ps=true:=by rw[<- ek];simp;simpa using cc
   refine ax ?_;refine xgx (l':=[(2,none,w_ b2 0),(3,none,.slice a ps.length c),(4,none,sv [])]) (nx _ _ _ ⟨a,c,ps,[],rfl,rfl,rfl,S,O,hc,om,by rw[if_neg hk]⟩) ⟨rfl,rfl,rfl,trivial⟩
 rintro _ p1 _ ⟨a2,c2,H,M,rfl,rfl,rfl,S2,a4,a7,b5,eq⟩;rw[eq]at K;have S3:Sl p1 a2 H.length 1 (scs H):=S2;clear eq S S1 b0 hc O;refine ax ?_;refine ro_y rfl (y_lp rfl (Bs.get S2 (i:=0) a4)) ?_;refine cdq (cf70 (H.getD 0 [])) ?_;have b3:=xcl (H.getD 0 [])
 have hQ:E3 M H=if(Aq (H.getD 0 [])).1=0\/H.length≠(Aq (H.getD 0 [])).2+1\/(M≠[]/\(Aq (H.getD 0 [])).1≠3)then lnz
  else if H.tail.all Bc=true then⟨H.getD 0 [],(Aq (H.getD 0 [])).1,H.tail,M⟩else lnz:=by unfold E3;rw[xvp]
 rw[hQ]at K;generalize Aq (H.getD 0 [])=kk at*;obtain⟨a9,b7⟩:=kk;simp only at b3 K;refine cq (fun cc=>?_) (fun cc=>?_)
 ·rw[if_pos (by
   rcases cc with(c|c)|c
   ·exact .inl om
   ·exact .inr (.inl om)
   ·exact .inr (.inr ⟨c.1,by have:=c.2;omega⟩))]at K
  refine ax ?_;exact xbz func41 rfl (xoq rfl .nil) fun _ H_=>K _ _ (xqq H_ g1 (yts))
 rw[if_neg (by
  rintro(c|c|c)
  ·exact cc (.inl (.inl om))
  ·exact cc (.inl (.inr om))
  ·exact cc (.inr ⟨c.1,by have:=c.2;omega⟩))]at K
 refine ax ?_
 refine xjq (fun m_ l p_ L_=>∃(j:Nat),m_=H.length-j/\l=[(2,none,w_ b2 0),(3,none,.slice a2 H.length c2),(4,none,sv M),(5,none,.J ((a9:Nat):Int)),(7,none,.J ((j:Nat):Int))]/\p_=p1/\L_=[[(b2,.cells #[sv [],.J 0,.slice none 0 0,sv []] 95 (0,0))]]/\
  1<=j/\j<=H.length/\ ∀i,1<=i->i<j->Bc (H.getD i [])=true) ⟨1,rfl,rfl,rfl,rfl,Nat.le_refl _,a4,fun i _ _=>om⟩ sb ?_
 rintro _ _ p1 _ IH ⟨j,rfl,rfl,rfl,rfl,b8,hj,a6⟩;refine cq (fun cd=>?_) (fun cd=>?_)
 ·have a5:j<H.length:=om;refine ax ?_;refine ro_y rfl (y_lp rfl (Bs.get S2 a5)) ?_;refine cdq (cf11 (H.getD j [])) ?_;have eN:Na (Cw (H.getD j []))=.tuple #[.J ((Cw (H.getD j [])).getD 0),.bool (Cw (H.getD j [])).isSome]:=rfl;rw[eN];refine ax ?_;refine ro_y rfl (xoz rfl sdu (fun _=>Bs.get S2 a5) (u:=sv (H.getD j []))) ?_;refine cgq (fun _=>cf69 (H.getD j [])) ?_;refine cq (fun ce=>?_) (fun ce=>?_)
  ·have a3:Bc (H.getD j [])=false:=by
    unfold Bc;cases hN:(Cw (H.getD j [])).isSome<;>cases hL:isLet (H.getD j [])<;>simp_all
   have a8:H.getD j []∈H.tail:=by
    rw[List.mem_iff_getElem];refine⟨j-1,by rw[List.length_tail];omega,?_⟩;rw[List.getElem_tail,List.getD_eq_getElem?_getD,List.getElem?_eq_getElem a5,Option.getD_some];congr 1;omega
   rw[if_neg (by
    intro V;have:=List.all_eq_true.1 V _ a8;rw[a3]at this;cases this)]at K
   refine ax ?_;exact xbz func41 rfl (xoq rfl .nil) fun _ H_=>K _ _ (xqq H_ g1 (yts))
  refine ax ?_;have a3:Bc (H.getD j [])=true:=by
   unfold Bc;cases hN:(Cw (H.getD j [])).isSome<;>cases hL:isLet (H.getD j [])<;>simp_all
  exact bkq (IH _ _ _ om ⟨j+1,rfl,rfl,rfl,rfl,om,om,fun i hi b6=>by
   rcases Nat.lt_or_ge i j with h|h
   ·exact a6 i hi h
   ·have:i=j:=om;rw[this];exact a3⟩)
 have b4:j=H.length:=om;subst b4;have V:H.tail.all Bc=true:=by
  rw[List.all_eq_true];intro x hx;obtain⟨i,hi,rfl⟩:=List.mem_iff_getElem.1 hx;rw[List.length_tail]at hi;have:=a6 (i+1) om om;rw[List.getD_eq_getElem?_getD,List.getElem?_eq_getElem om,Option.getD_some]at this;rw[List.getElem_tail];exact this
 rw[if_pos V]at K;refine ax ?_;have ht:H.tail.length=H.length-1:=List.length_tail;have z:=xuf S2 1 om a7;rw[List.drop_one,<- ht]at z;refine xl2 [] R7 ?_;refine ex ?_;refine de_y rfl rfl (y_lp rfl (Bs.get S2 (i:=0) a4)) ?_;refine ex ?_;refine de_y rfl rfl (xys rfl rfl ⟨om,a7⟩ (j:=1)) ?_;refine xa ?_;exact xbz func41 rfl (xoq rfl .nil) fun _ H_=>K _ _ (xqq H_ g1 ⟨Ga a2 c2 1 1,c2-1,by rw[ht];rfl,by rw[ht];omega,z⟩)
open Go.X.Flow (ics)
theorem cf71{a:Option Addr}(n c:Nat)(ks:List (Str×Int))(S:Sl p a n 2 (kcs ks))(hn:n<=1000)(hk:KOk ks)(s:Str):Kc prog md p 71 #[.slice a n c,sv s] (fun v=>(∃(x:Int)(q:Bool),v=.tuple #[.J x,.bool q]/\ -1000000<=x/\x<=1000000)):=by
 have hl:ks.length=n:=by rw[<- xes];exact S.len
 refine xlq func71 fun K=>?_;refine xnq (fun m l'=>∃(j:Nat),m=n-j/\l'=[(0,none,.slice a n c),(1,none,sv s),(6,none,.J ((j:Nat):Int))]/\j<=n) ⟨0,rfl,rfl,Nat.zero_le _⟩ sb ?_;rintro _ _ IH ⟨j,rfl,rfl,hj⟩;refine cq (fun O=>?_) (fun O=>?_)
 ·have a2:j<n:=om;have V:=hk j om;have M:=Sl.get S j _ (yij om) 0 _ rfl;have H:=Sl.get S j _ (yij om) 1 _ rfl;refine ax ?_;refine ro_y rfl (y_lp rfl M) ?_;refine cq (fun ce=>?_) (fun ce=>?_)
  ·refine ax ?_;refine ro_y rfl (y_lp rfl H) ?_;refine K.q ?_;exact⟨_,true,rfl,V⟩
  exact bkq (IH _ om ⟨j+1,rfl,rfl,om⟩)
 refine K.q ?_;exact⟨0,false,rfl,d_,d_⟩
theorem cf86{a:Option Addr}(n c:Nat)(l:List Int)(I:Ar p a n l)(hn:n<=6)(O:∀i,i<n-> -1000000<=l.getD i 0/\l.getD i 0<=1000000):Kc prog md p 86 #[.slice a n c] (fun v=>(∃s:Str,v=sv s)):=by
 have V:∀i,i<n->(txt (l.getD i 0)).length<=20:=fun i hi=>xbk (by have:=O i hi;unfold i64;omega);refine xlq func86 fun K=>?_;refine cq (fun cc=>?_) (fun cc=>?_)
 ·refine K.q ?_;exact⟨_,rfl⟩
 have H:0<n:=om;refine ax ?_;refine xrx rfl rfl (cf21 _ ⟨Int.le_trans d_ (O 0 H).1,Int.le_trans (O 0 H).2 d_⟩) ?_;refine ax ?_;refine xnq (fun m l'=>∃(j:Nat)(s:Str),m=n-j/\l'=[(0,none,.slice a n c),(3,none,sv s),(4,none,.J ((j:Nat):Int))]/\j<=n/\s.length<=21*j) ⟨1,_,rfl,rfl,H,Nat.le_trans (V 0 H) d_⟩ sb ?_;rintro _ _ IH ⟨j,s,rfl,rfl,hj,hs⟩;refine cq (fun cd=>?_) (fun cd=>?_)
 ·have M:j<n:=om;have hx:=O j M;have tx:=V j M;refine ax ?_;refine xrx rfl rfl (cf21 _ ⟨om,om⟩) ?_;refine ro_y rfl (xwf rfl rfl (by simp only[List.length_cons,List.length_nil];omega) (a:=[32])) ?_;refine ro_y rfl (xwf rfl rfl (by simp only[List.length_append,List.length_cons,List.length_nil];omega)) ?_;exact bkq (IH _ om ⟨j+1,s++([32]++txt (l.getD j 0)),rfl,rfl,om,by simp only[List.length_append,List.length_cons,List.length_nil];omega⟩)
 refine K.q ?_;exact⟨s,rfl⟩
theorem cf44{a:Option Addr}(n c:Nat)(ks:List (Str×Int))(S:Sl p a n 2 (kcs ks))(hn:n<=1000)(hk:KOk ks)(s:Str)(x:Int)(hx: -1000000<=x/\x<=1000000):Lc prog md p 44 #[.slice a n c,sv s,.J x] (fun v p'=>∃a m c M,v=.slice a m c/\m<=n+1/\Sl p' a m 2 (kcs M)/\KOk M):=by
 have hl:ks.length=n:=by rw[<- xes];exact S.len
 refine xlq func44 fun K=>?_;refine ax ?_;refine xtx rfl fun v1 Y1 V=>?_;have V:Ab 145 2 v1 (kcs [(s,x)]) Y1:=V;refine ax ?_;refine xjq (fun m_ l_ p_ L_=>∃(j:Nat)(v:Value)(Y:Pcs)(M:List (Str×Int)),m_=n-j/\l_=[(0,none,.slice a n c),(1,none,sv s),(7,none,v),(8,none,.J ((j:Nat):Int))]/\p_=p/\L_=[Y]/\j<=n/\Ab 145 2 v (kcs M) Y/\KOk M/\M.length<=j+1) ⟨0,v1,Y1,_,rfl,rfl,rfl,rfl,Nat.zero_le _,V,fun i hi=>by
  obtain rfl:i=0:=by simpa using hi
  exact hx,Nat.le_refl _⟩ sb ?_
 clear V;rintro _ _ p _ IH ⟨j,v,Y,M,rfl,rfl,rfl,rfl,hj,o,O,hm⟩;refine cq (fun cd=>?_) (fun cd=>?_)
 ·have a5:j<n:=om;have a3:=hk j om;have hc:=Sl.get S j _ (yij om);refine ax ?_;refine ro_y rfl (y_lp rfl (hc 0 _ rfl)) ?_;refine cq (fun ce=>?_) (fun ce=>?_)
  ·refine ax ?_;refine ro_y rfl (xlk rfl hc) ?_;refine xtx rfl fun v2 Y2 o2=>?_;have o2:Ab 145 2 v2 [[sv (ks.getD j ([],0)).1,.J (ks.getD j ([],0)).2]] Y2:=o2;refine xbv rfl rfl o o2 (by simp[Be,sv]) (by rw[xes];simp;omega) fun v3 Y3 o3=>?_;rw[yic]at o3;exact bkq (IH _ _ _ om ⟨j+1,v3,Y3,_,rfl,rfl,rfl,rfl,om,o3,O.snoc a3,by simp;omega⟩)
  exact bkq (IH _ _ _ om ⟨j+1,v,Y,M,rfl,rfl,rfl,rfl,om,o,O,om⟩)
 refine ax ?_;refine xiq o (m:=M.length) (xes _) d_ fun p2 a2 c2 g2 e2 a4 S2=>?_;subst e2;refine ax ?_;exact K.r rfl rfl fun _ H=>xqq H g2 ⟨a2,_,c2,M,rfl,om,S2,O⟩
open Go.X.Flow (ics HsL)
variable{b:Option Addr}
theorem cf42{a:Option Addr}(n c:Nat)(ks:List (Str×Int))(S:Sl p a n 2 (kcs ks))(hn:n<=1000)(hk:KOk ks)(m cb:Nat)(M:List Str)(A:Bs p b m M)(hm:m<=100):Lc prog md p 42 #[.slice a n c,.slice b m cb] (fun v p'=>∃a' n' c' xs q,v=.tuple #[.slice a' n' c',.bool q]/\Ar p' a' n' xs/\(q=true->n'=m)):=by
 refine xlq func42 fun K=>?_;refine ax ?_;refine xyj 3 1 fun o0=>?_;refine xjq (fun m_ l_ V L_=>∃(j:Nat)(v:Value)(Y:Pcs)(xs:List Int),m_=m-j/\l_=[(0,none,.slice a n c),(1,none,.slice b m cb),(6,none,v),(7,none,.J ((j:Nat):Int))]/\V=p/\L_=[Y]/\j<=m/\Ab 3 1 v (ics xs) Y/\xs.length=j) ⟨0,_,_,[],rfl,rfl,rfl,rfl,Nat.zero_le _,o0,rfl⟩ sb ?_;clear o0;rintro _ _ p _ IH ⟨j,v,Y,xs,rfl,rfl,rfl,rfl,hj,o,hl⟩;refine cq (fun cd=>?_) (fun cd=>?_)
 ·have O:j<m:=om;refine ax ?_;refine ro_y rfl (y_lp rfl (Bs.get A O)) ?_;refine cdq (cf11 (M.getD j [])) ?_;rw[show Na (Cw (M.getD j []))=.tuple #[.J ((Cw (M.getD j [])).getD 0),.bool (Cw (M.getD j [])).isSome] from rfl];refine ax ?_;refine xgz (fun l' V L_=>∃(x:Int)(q:Bool),l'=[(0,none,.slice a n c),(1,none,.slice b m cb),(6,none,v),(7,none,.J ((j:Nat):Int)),(8,none,.J x),(9,none,.bool q)]/\V=p/\L_=[Y]) ?_ fun k' nx=>?_;rotate_left
  ·refine cq (fun _=>?_) (fun _=>?_)
   ·refine ax ?_;refine ro_y rfl (y_lp rfl (Bs.get A O)) ?_;refine ckq (cf71 n c ks S hn hk (M.getD j [])) ?_;rintro _ ⟨x,q,rfl,_,_⟩;refine ax ?_;exact xgx (nx _ _ _ ⟨x,q,rfl,rfl,rfl⟩) ⟨rfl,rfl,rfl,rfl,rfl,rfl,trivial⟩
   ·refine ax ?_;exact xgx (nx _ _ _ ⟨_,_,rfl,rfl,rfl⟩) ⟨rfl,rfl,rfl,rfl,rfl,rfl,trivial⟩
  rintro _ p _ ⟨x,q,rfl,rfl,rfl⟩;refine cq (fun ce=>?_) (fun ce=>?_)
  ·refine ax ?_;exact K.r rfl rfl fun _ H=>xqq H (.refl _ _ _) ⟨none,0,0,[],false,rfl,Sl.nil _ _ _,fun z=>by cases z⟩
  refine ax ?_;refine xtx rfl fun v2 Y2 o2=>?_;have o2:Ab 3 1 v2 (ics [x]) Y2:=o2;refine xbv rfl rfl o o2 (by simp[ics,Be]) (by simp[ics];omega) fun v3 Y3 o3=>?_;exact bkq (IH _ _ _ om ⟨j+1,v3,Y3,xs++[x],rfl,rfl,rfl,rfl,om,o3.as (by simp[ics]),by simp;omega⟩)
 obtain rfl:j=m:=om;refine ax ?_;refine xiq o (m:=j) (by rw[xpq];exact hl) d_ fun p2 a2 c2 g2 e2 a3 S2=>?_;subst e2;refine ax ?_;exact K.r rfl rfl fun _ H=>xqq H g2 ⟨a2,_,c2,xs,true,rfl,S2,fun _=>rfl⟩
theorem yzs{n:Nat}(h:HsL n l)(hn:n<=6):∀i,i<l.length-> -1000000<=l.getD i 0/\l.getD i 0<=1000000:=fun i hi=>by have:=h i hi;omega
theorem cf43(A:TA)(t:Twn)(T:TwP p A t)(hv:Bp t=0)(w:Str){a:Option Addr}(n c:Nat)(xs:List Int)(I:Ar p a n xs)(hw:Aq w=(3,n)):Kc prog md p 43 #[twV A t,sv w,.slice a n c] (fun v=>(∃(s:Str)(x:Int)(q:Bool),v=.tuple #[sv s,.J x,.bool q]/\ -1000000<=x/\x<=1000000)):=by
 intro h hp;obtain⟨q1,q2,q3⟩:=xxq.1 hv;have ok:t.s.ok:=yfv.1 q1;obtain⟨hm,V⟩:=Flow.Em q2;have O:Cist.Ok t.y.size t.y.start t.y.days:=Cist.A7.1 q3;have h6:=V.nh;have I1:Sl p a n 1 (ics xs):=I;refine xsq hp func43 fun K b3=>?_;refine lq fun a3=>?_;refine ax ?_
 refine xgz (fun l' p_ L_=>∃(x e:Int)(b:Option Addr)(m cb:Nat)(ys:List Int)(u v:Int),l'=[(1,none,sv w),(7,none,.J x),(9,none,.slice b m cb),(10,none,w_ a3 0),(11,none,.J e)]/\PG h.size [] p p_/\
  L_=[[(a3,.cells #[.J u,.J v] 45 (0,0))],[(b3,.cells (tcs A t).toArray 33 (0,0))]]/\Ar p_ b m ys/\m<=6/\(∀i,i<m-> -1000000<=ys.getD i 0/\ys.getD i 0<=1000000)/\(-1000000<=x/\x<=1000000)/\(-1000000<=u/\u<=1000000)/\ -1000000<=v/\v<=1000000) ?_ fun k' nx=>?_
 rotate_left
 ·have nm:=fun(x e:Int)(M: -1000000<=x)(h2:x<=1000000)=>nx _ _ _ ⟨x,e,none,0,0,[],0,0,rfl,.refl _ _ _,rfl,Sl.nil _ _ _,Nat.zero_le _,fun i hi=>absurd hi (Nat.not_lt_zero _),⟨M,h2⟩,d_,d_⟩;have sp:=fun(u v e:Int)(M: -1000000<=u/\u<=1000000)(h2: -1000000<=v/\v<=1000000)=>nx _ _ _ ⟨0,e,none,0,0,[],u,v,rfl,.refl _ _ _,rfl,Sl.nil _ _ _,Nat.zero_le _,fun i hi=>absurd hi (Nat.not_lt_zero _),d_,M,h2⟩;have one:∀{u:Str},w=u->Aq u=(3,1)->0<n:=fun e1 e2=>by rw[e1,e2]at hw;have:=congrArg Prod.snd hw;simp at this;omega
  refine cq (fun H=>?_) (fun _=>?_)
  ·refine ckq (cf72 t.s T.s ok) ?_;rintro _ ⟨x,e,rfl,M,h2⟩;refine ax ?_;exact xgx (nm x e om om) ⟨rfl,rfl,rfl,rfl,rfl,trivial⟩
  refine cq (fun H=>?_) (fun _=>?_)
  ·refine ckq (cf73 t.s T.s ok) ?_;rintro _ ⟨x,e,rfl,M,h2⟩;refine ax ?_;exact xgx (nm x e om om) ⟨rfl,rfl,rfl,rfl,rfl,trivial⟩
  refine cq (fun H=>?_) (fun _=>?_)
  ·have hn:0<n:=one H d_;refine drq [5] R10 ?_;refine xgn rfl rfl rfl (cf74 t.s T.s ok (xs.getD 0 0)) ?_;rintro _ ⟨x,e,rfl,M,h2⟩;refine xa ?_;exact xfk (xgx (nm x e om om) ⟨rfl,rfl,rfl,rfl,rfl,trivial⟩) fun _ s=>s
  refine cq (fun H=>?_) (fun _=>?_)
  ·have hn:0<n:=one H d_;refine drq [5] R10 ?_;refine xgn rfl rfl rfl (cf75 t.s T.s ok (xs.getD 0 0)) ?_;rintro _ ⟨x,e,rfl,M,h2⟩;refine xa ?_;exact xfk (xgx (nm x e om om) ⟨rfl,rfl,rfl,rfl,rfl,trivial⟩) fun _ s=>s
  refine cq (fun H=>?_) (fun _=>?_)
  ·refine ckq (fun h pe=>cf76 t.b V hm pe T.b) ?_;rintro _ ⟨x,e,rfl,M,h2⟩;refine ax ?_;exact xgx (nm x e om om) ⟨rfl,rfl,rfl,rfl,rfl,trivial⟩
  refine cq (fun H=>?_) (fun _=>?_)
  ·have hn:0<n:=one H d_;refine drq [5] R10 ?_;refine xgn rfl rfl rfl (fun h pe=>cf77 t.b V hm pe T.b (xs.getD 0 0)) ?_;rintro _ ⟨x,e,rfl,M,h2⟩;refine xa ?_;exact xfk (xgx (nm x e om om) ⟨rfl,rfl,rfl,rfl,rfl,trivial⟩) fun _ s=>s
  refine cq (fun H=>?_) (fun _=>?_)
  ·refine ckq (cf78 t.y.days T.d O) ?_;rintro _ ⟨x,e,rfl,M,h2⟩;refine ax ?_;exact xgx (nm x e om om) ⟨rfl,rfl,rfl,rfl,rfl,trivial⟩
  refine cq (fun H=>?_) (fun _=>?_)
  ·refine ckq (cf79 t.y.days T.d O) ?_;rintro _ ⟨x,e,rfl,M,h2⟩;refine ax ?_;exact xgx (nm x e om om) ⟨rfl,rfl,rfl,rfl,rfl,trivial⟩
  refine cq (fun H=>?_) (fun _=>?_)
  ·refine ckq (cf80 t.y.days T.d O) ?_;rintro _ ⟨x,e,rfl,M,h2⟩;refine ax ?_;exact xgx (nm x e om om) ⟨rfl,rfl,rfl,rfl,rfl,trivial⟩
  refine cq (fun H=>?_) (fun _=>?_)
  ·have hn:0<n:=one H d_;refine drq [5] R10 ?_;refine xgn rfl rfl rfl (cf81 t.y.days T.d O (xs.getD 0 0)) ?_;rintro _ ⟨x,e,rfl,M,h2⟩;refine xa ?_;exact xfk (xgx (nm x e om om) ⟨rfl,rfl,rfl,rfl,rfl,trivial⟩) fun _ s=>s
  refine cq (fun H=>?_) (fun _=>?_)
  ·refine cpq (fun h pe=>cf82 t.b V hm pe T.b) ?_;rintro _ p2 g2 ⟨a2,c2,ys,rfl,I2,hb⟩;refine ax ?_;exact xgx (nx _ _ _ ⟨0,0,a2,_,c2,ys,0,0,rfl,g2,rfl,I2,h6,fun i hi=>by have:=hb (ys.getD i 0) (by have:=I2.len;rw[Flow.A8 om];exact List.getElem_mem _);omega,d_,d_,d_⟩) ⟨rfl,rfl,rfl,rfl,rfl,trivial⟩
  refine cq (fun H=>?_) (fun _=>?_)
  ·refine cpq (fun h pe=>cf83 t.b V hm pe T.b) ?_;rintro _ p2 g2 ⟨a2,c2,e,ys,rfl,I2,a5,hb⟩;refine ax ?_;exact xgx (nx _ _ _ ⟨0,e,a2,_,c2,ys,0,0,rfl,g2,rfl,I2,a5,yzs hb h6,d_,d_,d_⟩) ⟨rfl,rfl,rfl,rfl,rfl,trivial⟩
  refine cq (fun H=>?_) (fun _=>?_)
  ·have hn:0<n:=one H d_;refine ax ?_;refine xpv [5,9] R10 a3 ?_;refine ex ?_;refine xgn rfl rfl rfl (fun h pe=>cf84 t.b V hm pe T.b (xs.getD 0 0)) ?_;rintro _ ⟨x,y,e,rfl,M,h2⟩;refine xa ?_;exact xfk (xgx (sp x y e om om) ⟨rfl,rfl,rfl,rfl,rfl,trivial⟩) fun _ s=>s.perm (List.Perm.swap _ _ _)
  refine cq (fun H=>?_) (fun _=>?_)
  ·have hn:0<n:=one H d_;refine ax ?_;refine xpv [5,9] R10 a3 ?_;refine ex ?_;refine xgn rfl rfl rfl (cf85 t.y.days T.d O (xs.getD 0 0)) ?_;rintro _ ⟨x,y,e,rfl,M,h2⟩;refine xa ?_;exact xfk (xgx (sp x y e om om) ⟨rfl,rfl,rfl,rfl,rfl,trivial⟩) fun _ s=>s.perm (List.Perm.swap _ _ _)
  refine ax ?_;exact xgx (nm 0 0 d_ d_) ⟨rfl,rfl,rfl,rfl,rfl,trivial⟩
 rintro _ p1 _ ⟨x,e,b,m,cb,ys,u,v,rfl,g1,rfl,I2,a4,hy,hx,hu,a6⟩;refine cq (fun _=>?_) (fun _=>?_)
 ·refine K.q ?_;exact⟨_,0,false,rfl,d_,d_⟩
 refine cq (fun _=>?_) (fun _=>?_)
 ·refine K.q ?_;exact⟨_,0,false,rfl,d_,d_⟩
 refine cq (fun _=>?_) (fun _=>?_)
 ·refine ckq (cf86 m cb ys I2 a4 hy) ?_;rintro _ ⟨s,rfl⟩;refine K.q ?_;exact⟨s,0,false,rfl,d_,d_⟩
 refine cq (fun _=>?_) (fun _=>?_)
 ·have lu:=xbk (n:=u) ⟨om,om⟩;have lv:=xbk (n:=v) ⟨om,om⟩;refine drq [] R7 ?_;refine xaj rfl rfl rfl (cf21 u ⟨om,om⟩) ?_;refine ex ?_;refine de_y rfl rfl (xwf rfl rfl (by simp only[List.length_cons,List.length_nil];omega)) ?_;refine ex ?_;refine xaj rfl rfl rfl (cf21 v ⟨om,om⟩) ?_;refine ex ?_;refine ro_y rfl (xwf rfl rfl (by simp only[List.length_append,List.length_cons,List.length_nil];omega)) ?_;refine K.q ?_;exact⟨_,0,false,rfl,d_,d_⟩
 refine ax ?_;refine xrx rfl rfl (cf21 x ⟨om,om⟩) ?_;refine K.q ?_;exact⟨_,x,true,rfl,hx⟩
open Go.X.Flow (Ch Wys wz ics Am Tn Vd tnV)
open Go.X.Cist (Day Bl dz dcs Aj)
theorem cf88(t:Tn)(hn:t.nH<=2^20/\t.nW<=2^20/\t.m<=2^20){h:Heap}(hp:Per p h){a1 a2 V:Option Addr}{c1 c2 c3:Nat}(T:Am p a1 t.nH a2 t.nW V t.m t)(w:Ch):
 Ac prog md 88 #[tnV a1 a2 V c1 c2 c3 t,.agg #[.J w.1,.J w.2]] h (Cm p h fun v p'=>∃(a4 a5 a6:Option Addr)(c4 c5 c6:Nat)(u:Tn),v=tnV a4 a5 a6 c4 c5 c6 u/\Am p' a4 u.nH a5 u.nW a6 u.m u/\(u.nH=t.nH/\u.nW=t.nW/\u.m<=t.m+1)/\u.nH<=c4/\u.nW<=c5/\u.m<=c6):=by
 have Ty:Sl p V t.m 2 (Flow.wcs t.wy):=T.y;refine xsq hp func88 fun K b1=>?_;refine bq fun b2=>?_;refine lq fun b3=>?_;refine coq (cf36 t T hn) ?_;rintro _ _ ⟨x1,y1,x2,y2,x3,y3,Y1,Y2,Y3,rfl,o1,o2,o3,rfl⟩;refine lq fun b4=>?_;refine ax ?_;refine xfk (LL':=[[(b4,.cells #[.slice x1 t.nH y1,.slice x2 t.nW y2,.slice none 0 0] 28 (0,0))],[],(Y1++Y2)++Y3,[(b3,.cells #[.slice none 0 0,.slice none 0 0,.slice none 0 0] 28 (0,0))],[(b2,.cells #[.J w.1,.J w.2] 93 (0,0))],[(b1,.cells (tnV a1 a2 V c1 c2 c3 t).cells 28 (0,0))]]) ?_ fun _ s=>s;have o0:=Ab.empty 93 2
 refine xjq (fun m_ l_ p_ L_=>∃(j:Nat)(q:Bool)(v:Value)(Y:Pcs)(ws:List Ch),m_=t.m-j/\l_=[(2,none,w_ b1 0),(3,none,w_ b2 0),(4,none,w_ b3 0),(5,none,w_ b4 0),(6,none,.bool q),(7,none,.J ((j:Nat):Int))]/\p_=p/\
  L_=[[(b4,.cells #[.slice x1 t.nH y1,.slice x2 t.nW y2,v] 28 (0,0))],Y,(Y1++Y2)++Y3,[(b3,.cells #[.slice none 0 0,.slice none 0 0,.slice none 0 0] 28 (0,0))],[(b2,.cells #[.J w.1,.J w.2] 93 (0,0))],[(b1,.cells (tnV a1 a2 V c1 c2 c3 t).cells 28 (0,0))]]/\
  j<=t.m/\Ab 93 2 v (Flow.wcs ws) Y/\(ws.length<=j+1/\(q=false->ws.length=j))) ⟨0,false,_,_,[],rfl,rfl,rfl,rfl,Nat.zero_le _,o0,s_,fun _=>rfl⟩ sb ?_
 clear o0;rintro _ _ p _ IH ⟨j,q,v,Y,ws,rfl,rfl,rfl,rfl,hj,o,hl,hq⟩;refine cq (fun cd=>?_) (fun cd=>?_)
 ·have a8:j<t.m:=om;refine drq [] R9 ?_;refine de_y rfl rfl (xzc rfl sdt (fun _=>T.y.all a8)) ?_;refine xa ?_;refine cgq (fun _=>cf89 w (t.wy.getD j wz)) ?_;refine ax ?_
  refine xgz (fun l' p_ L_=>∃(q:Bool)(v:Value)(Y:Pcs)(ws:List Ch),l'=[(2,none,w_ b1 0),(3,none,w_ b2 0),(4,none,w_ b3 0),(5,none,w_ b4 0),(6,none,.bool q),(7,none,.J ((j:Nat):Int))]/\p_=p/\
   L_=[[(b4,.cells #[.slice x1 t.nH y1,.slice x2 t.nW y2,v] 28 (0,0))],Y,(Y1++Y2)++Y3,[(b3,.cells #[.slice none 0 0,.slice none 0 0,.slice none 0 0] 28 (0,0))],[(b2,.cells #[.J w.1,.J w.2] 93 (0,0))],[(b1,.cells (tnV a1 a2 V c1 c2 c3 t).cells 28 (0,0))]]/\
   Ab 93 2 v (Flow.wcs ws) Y/\(ws.length<=j+1/\(q=false->ws.length=j))) ?_ fun k' nx=>?_
  rotate_left
  ·refine cq (fun cb=>?_) (fun _=>?_)
   ·have hw:ws.length=j:=hq (by simp at cb;exact cb.1);refine ax ?_;refine xtx rfl fun v2 Z2 M=>?_;have M:Ab 93 2 v2 (Flow.wcs [w]) Z2:=M;refine xbv rfl rfl o M (xtm _) (by rw[Flow.Ap,Flow.Ap];simp;omega) fun v3 Z3 O=>?_;obtain⟨a7,k7,rfl,-⟩:=O.val;refine ax ?_;exact xgx (nx _ _ _ ⟨true,_,Z3,ws++[w],rfl,rfl,rfl,O.as (by simp[Flow.wcs]),by simp;omega,fun z=>by cases z⟩) ⟨rfl,rfl,rfl,rfl,rfl,rfl,trivial⟩
   ·refine ax ?_;exact xgx (nx _ _ _ ⟨q,v,Y,ws,rfl,rfl,rfl,o,hl,hq⟩) ⟨rfl,rfl,rfl,rfl,rfl,rfl,trivial⟩
  clear o hl hq;rintro _ p _ ⟨q,v,Y,ws,rfl,rfl,rfl,o,hl,hq⟩;refine drq [7] R8 ?_;refine de_y rfl rfl (xlk rfl (T.y.all a8)) ?_;refine ex ?_;refine xjk rfl rfl fun v2 Z2 M=>?_;have M:Ab 93 2 v2 (Flow.wcs [t.wy.getD j wz]) Z2:=M;refine ex ?_;refine xbv rfl rfl o M (xtm _) (by rw[Flow.Ap,Flow.Ap];simp;omega) fun v3 Z3 O=>?_;obtain⟨a7,k7,rfl,-⟩:=O.val;exact bkq (IH _ _ _ om ⟨j+1,q,_,Z3,ws++[t.wy.getD j wz],rfl,rfl,rfl,rfl,om,O.as (by simp[Flow.wcs]),by simp;omega,fun z=>by simp[hq z]⟩)
 clear IH;refine ax ?_
 refine xgz (fun l' p_ L_=>∃(v:Value)(Y:Pcs)(ws:List Ch),l'=[(4,none,w_ b3 0),(5,none,w_ b4 0)]/\p_=p/\
  L_=[[(b4,.cells #[.slice x1 t.nH y1,.slice x2 t.nW y2,v] 28 (0,0))],Y,(Y1++Y2)++Y3,[(b3,.cells #[.slice none 0 0,.slice none 0 0,.slice none 0 0] 28 (0,0))],[(b2,.cells #[.J w.1,.J w.2] 93 (0,0))],[(b1,.cells (tnV a1 a2 V c1 c2 c3 t).cells 28 (0,0))]]/\
  Ab 93 2 v (Flow.wcs ws) Y/\ws.length<=t.m+1) ?_ fun k' nx=>?_
 rotate_left
 ·refine cq (fun cb=>?_) (fun _=>?_)
  ·have hw:ws.length=j:=hq (by simpa using cb);refine ax ?_;refine xtx rfl fun v2 Z2 M=>?_;have M:Ab 93 2 v2 (Flow.wcs [w]) Z2:=M;refine xbv rfl rfl o M (xtm _) (by rw[Flow.Ap,Flow.Ap];simp;omega) fun v3 Z3 O=>?_;obtain⟨a7,k7,rfl,-⟩:=O.val;refine ax ?_;exact xgx (nx _ _ _ ⟨_,Z3,ws++[w],rfl,rfl,rfl,O.as (by simp[Flow.wcs]),by simp;omega⟩) ⟨rfl,rfl,trivial⟩
  ·refine ax ?_;exact xgx (nx _ _ _ ⟨v,Y,ws,rfl,rfl,rfl,o,om⟩) ⟨rfl,rfl,trivial⟩
 clear o hl hq;rintro _ p _ ⟨v,Y,ws,rfl,rfl,rfl,o,hl⟩;obtain⟨a6,c6,rfl,-⟩:=o.val;rw[Flow.Ap]at o⊢;refine ax ?_;refine xqz (Y1++Y2) Y3 ?_;refine xqz Y1 Y2 ?_;refine xiq o1 (m:=t.nH) (xpq _) d_ fun p1 _ _ g1 e1 k1 S1=>?_;cases e1;refine xiq o2 (m:=t.nW) (xpq _) d_ fun p2 _ _ g2 e2 k2 S2=>?_;cases e2;refine xiq o (m:=ws.length) (Flow.Ap _) d_ fun p3 _ _ g3 e3 k3 S3=>?_;cases e3;exact K.e rfl (xoq rfl .nil) fun _ H=>xqq H ((g1.trans g2).trans g3) ⟨x1,x2,a6,y1,y2,c6,⟨t.hs,t.ws,ws⟩,rfl,⟨Sl.mono (g2.trans g3).le S1,Sl.mono g3.le S2,S3⟩,⟨rfl,rfl,hl⟩,k1,k2,k3⟩
structure TwO(A:TA)(t:Twn)(Y1 Y2 Y3 Y4 Y5 Y6:Pcs):Prop where
 r:Ab 105 4 (.slice A.r.1 t.s.Ai.length A.r.2) (rcs t.s.Ai) Y1
 f:Ab 3 1 (.slice A.f.1 t.s.Af.length A.f.2) (ics t.s.Af) Y2
 h:Ab 3 1 (.slice A.h.1 t.b.nH A.h.2) (ics t.b.hs) Y3
 w:Ab 3 1 (.slice A.w.1 t.b.nW A.w.2) (ics t.b.ws) Y4
 y:Ab 93 2 (.slice A.y.1 t.b.m A.y.2) (Flow.wcs t.b.wy) Y5
 d:Ab 48 3 (.slice A.d.1 t.y.days.length A.d.2) (dcs t.y.days) Y6
theorem yy2(A:TA)(t:Twn)(T:TwP p A t)(hn:t.fit (2^20)):Nc prog md p 22 #[twV A t] (fun v Y=>(∃A' Y1 Y2 Y3 M O V,v=twV A' t/\TwO A' t Y1 Y2 Y3 M O V/\Y=(V++((Y3++M)++O))++(Y1++Y2))):=by
 obtain⟨⟨n1,n2⟩,⟨n3,n4,n5⟩,n6⟩:=hn;refine xkq func22 fun K b1=>?_;refine lq fun b2=>?_;refine drq [2,5] [0,1,3,4,6,7,2,5] ?_;refine xsk rfl rfl rfl (cf35 t.s T.s ⟨n1,n2⟩) ?_;rintro _ _ ⟨a1,c1,a2,c2,Y1,Y2,rfl,o1,o2,rfl⟩;refine ex ?_;refine xsk rfl rfl rfl (cf36 t.b T.b ⟨n3,n4,n5⟩) ?_;rintro _ _ ⟨a3,c3,a4,c4,a5,c5,Y3,M,O,rfl,o3,o4,o5,rfl⟩;refine xa ?_;refine coq (cf37 T.d n6) ?_;rintro _ V ⟨a6,c6,rfl,o6⟩;refine ax ?_;exact K.e rfl (xoq rfl .nil) fun _ H=>⟨_,⟨⟨(a1,c1),(a2,c2),(a3,c3),(a4,c4),(a5,c5),(a6,c6)⟩,Y1,Y2,Y3,M,O,V,rfl,⟨o1,o2,o3,o4,o5,o6⟩,rfl⟩,(xj7 H).new⟩
theorem xij{X:Cx}{k:List Item}{l:Env}{LL L1 L2 L3 L4 L5 L6:List Pcs}{A:TA}{t:Twn}{Y1 Y2 Y3 Y4 Y5 Y6:Pcs}(O:TwO A t Y1 Y2 Y3 Y4 Y5 Y6)[Rm LL Y1 L1][Rm L1 Y2 L2][Rm L2 Y3 L3][Rm L3 Y4 L4][Rm L4 Y5 L5][Rm L5 Y6 L6]
 (n:∀p',PG X.z9.size X.zz p p'->TwP p' A t->RE X k l p' L6):RE X k l p LL:=by
 refine xiq O.r (m:=t.s.Ai.length) (xqv _) d_ fun p1 _ _ g1 e1 a7 S1=>?_;injection e1 with z1 _ z2;subst z1 z2;refine xiq O.f (m:=t.s.Af.length) (xpq _) d_ fun p2 _ _ g2 e2 a5 S2=>?_;injection e2 with z1 _ z2;subst z1 z2;refine xiq O.h (m:=t.b.nH) (xpq _) d_ fun p3 _ _ g3 e3 a6 S3=>?_;injection e3 with z1 _ z2;subst z1 z2;refine xiq O.w (m:=t.b.nW) (xpq _) d_ fun p4 _ _ V e4 a3 S4=>?_;injection e4 with z1 _ z2;subst z1 z2;refine xiq O.y (m:=t.b.m) (Flow.Ap _) d_ fun p5 _ _ M e5 a4 S5=>?_;injection e5 with z1 _ z2;subst z1 z2;refine xiq O.d (m:=t.y.days.length) (Aj _) d_ fun p6 _ _ H e6 a2 S6=>?_;injection e6 with z1 _ z2;subst z1 z2;exact n p6 (((((g1.trans g2).trans g3).trans V).trans M).trans H) ⟨⟨Sl.mono ((((g2.trans g3).trans V).trans M).trans H).le S1,Sl.mono (((g3.trans V).trans M).trans H).le S2⟩,⟨Sl.mono ((V.trans M).trans H).le S3,Sl.mono (M.trans H).le S4,Sl.mono H.le S5⟩,S6,⟨a7,a5⟩,⟨a6,a3,a4⟩,a2⟩
open Go.X.Flow (Ch Wys wz ics Co Ck Am Tn Vd tnV)
open Go.X.Cist (Day Bl dz dcs Aj Ct)
theorem cf45(A:TA)(t:Twn)(T:TwP p A t)(hv:Bp t=0)(w:Str){a:Option Addr}(n c:Nat)(xs:List Int)(I:Ar p a n xs)(hw:Aq w=(1,n)):Lc prog md p 45 #[twV A t,sv w,.slice a n c] (fun v p'=>∃A' t' q,v=.tuple #[twV A' t',.bool q]/\TwP p' A' t'/\Bp t'=0):=by
 intro h hp;have hf:=xhz hv;obtain⟨⟨f1,f2⟩,⟨f3,f4,f5⟩,f6⟩:=hf;have e3:t.b.hs.length<=12:=f3;have e4:t.b.ws.length<=12:=f4;have le:∀{x:Nat},x<=12->x<=2^20:=fun h=>Nat.le_trans h d_;have I1:Sl p a n 1 (ics xs):=I;have kn:∀{u:Str}{k:Nat},w=u->Aq u=(1,k)->n=k:=fun e1 e2=>by rw[e1,e2]at hw;exact(congrArg Prod.snd hw).symm
 refine xsq hp func45 fun K b3=>?_;refine lq fun b6=>?_;refine coq (yy2 A t T ⟨⟨le f1,le f2⟩,⟨le f3,le f4,le f5⟩,le f6⟩) ?_;rintro _ _ ⟨A1,Y1,Y2,Y3,Y4,Y5,Y6,rfl,O,rfl⟩;refine lq fun b8=>?_;refine ax ?_;refine xqz (Y6++((Y3++Y4)++Y5)) (Y1++Y2) ?_;refine xqz Y6 ((Y3++Y4)++Y5) ?_;refine xqz (Y3++Y4) Y5 ?_;refine xqz Y3 Y4 ?_;refine xqz Y1 Y2 ?_
 refine xgz (fun l' p_ L_=>∃(A':TA)(t':Twn)(q:Bool),l'=[(3,none,w_ b3 0),(6,none,w_ b6 0),(8,none,w_ b8 0),(9,none,.bool q)]/\PG h.size [] p p_/\
  L_=[[(b8,.cells (tcs A' t').toArray 33 (0,0))],[(b6,.cells #[.slice none 0 0,.slice none 0 0,.J 0,.J 0,.J 0,.slice none 0 0,.slice none 0 0,.slice none 0 0,.J 0,.J 0,.slice none 0 0] 33 (0,0))],[(b3,.cells (tcs A t).toArray 33 (0,0))]]/\TwP p_ A' t'/\t'.fit (2^20)) ?_ fun k' nx=>?_
 rotate_left
 ·have a2:=fun(q:Bool)(p':Aa)(g':PG h.size [] p p')(T':TwP p' A1 t)=>nx _ _ _ ⟨A1,t,q,rfl,g',rfl,T',⟨⟨le f1,le f2⟩,⟨le f3,le f4,le f5⟩,le f6⟩⟩;refine cq (fun cw=>?_) (fun _=>?_)
  ·have hn:n=4:=kn cw d_;refine drq [16] R17 ?_;refine xjk rfl rfl fun v2 Z2 o2=>?_;have o2:Ab 105 4 v2 (rcs [⟨xs.getD 0 0,xs.getD 1 0,xs.getD 2 0,xs.getD 3 0⟩]) Z2:=o2;refine ex ?_;refine xbv rfl rfl O.r o2 (xm2 _) (by rw[xqv,xqv];simp;omega) fun v3 Z3 o3=>?_;have o3:Ab 105 4 v3 (rcs (t.s.Ai++[⟨xs.getD 0 0,xs.getD 1 0,xs.getD 2 0,xs.getD 3 0⟩])) Z3:=o3.as (by simp[rcs]);obtain⟨a3,c3,rfl,-⟩:=o3.val;rw[xqv]at o3⊢;refine ax ?_;refine xij (A:={A1 with r:=(a3,c3)}) (t:={t with s:={t.s with Ai:=t.s.Ai++[⟨xs.getD 0 0,xs.getD 1 0,xs.getD 2 0,xs.getD 3 0⟩]}}) ⟨o3,O.f,O.h,O.w,O.y,O.d⟩ fun p1 V M=>?_;exact xgx (nx _ _ _ ⟨_,_,true,rfl,V,rfl,M,⟨⟨by show(t.s.Ai++[_]).length<=_;rw[List.length_append,List.length_singleton];omega,le f2⟩,⟨le f3,le f4,le f5⟩,le f6⟩⟩) ⟨rfl,rfl,rfl,rfl,trivial⟩
  refine cq (fun cw=>?_) (fun _=>?_)
  ·have hn:n=1:=kn cw d_;refine drq [6] R7 ?_;refine xjk rfl rfl fun v2 Z2 o2=>?_;have o2:Ab 3 1 v2 (ics [xs.getD 0 0]) Z2:=o2;refine ex ?_;refine xbv rfl rfl O.f o2 (xcv _) (by rw[xpq,xpq];simp;omega) fun v3 Z3 o3=>?_;have o3:Ab 3 1 v3 (ics (t.s.Af++[xs.getD 0 0])) Z3:=o3.as (by simp[ics]);obtain⟨a3,c3,rfl,-⟩:=o3.val;rw[xpq]at o3⊢;refine ax ?_;refine xij (A:={A1 with f:=(a3,c3)}) (t:={t with s:={t.s with Af:=t.s.Af++[xs.getD 0 0]}}) ⟨O.r,o3,O.h,O.w,O.y,O.d⟩ fun p1 V M=>?_;exact xgx (nx _ _ _ ⟨_,_,true,rfl,V,rfl,M,⟨⟨le f1,by show(t.s.Af++[_]).length<=_;rw[List.length_append,List.length_singleton];omega⟩,⟨le f3,le f4,le f5⟩,le f6⟩⟩) ⟨rfl,rfl,rfl,rfl,trivial⟩
  refine cq (fun cw=>?_) (fun _=>?_)
  ·refine xij O fun p1 V M=>?_;refine cq (fun cu=>?_) (fun cu=>?_)
   ·have a8:0<t.s.Af.length:=om;have cf:=M.c.1.2;refine ax ?_;refine xmd (j:=t.s.Af.length-1) rfl (by show some ([],Value.J _)=_;rw[show((t.s.Af.length:Nat):Int)-1=((t.s.Af.length-1:Nat):Int) by omega]) om ?_;refine ax ?_;have Sf:=xk4 M.s.f (d:=t.s.Af.length-1) om;have el:(t.s.Af.take (t.s.Af.length-1)).length=t.s.Af.length-1:=by rw[List.length_take];omega
    refine xgx (nx _ _ _ ⟨A1,{t with s:={t.s with Af:=t.s.Af.take (t.s.Af.length-1)}},_,rfl,V,by show _=[[(b8,Obj.cells (tcs A1 _).toArray _ _)],_,_];unfold tcs;simp only[el];rfl,⟨⟨M.s.r,by show Sl p1 A1.f.1 (t.s.Af.take _).length 1 (List.map _ (t.s.Af.take _));rw[el,List.map_take];exact Sf⟩,M.b,M.d,⟨M.c.1.1,by show(t.s.Af.take _).length<=_;rw[el];omega⟩,M.c.2⟩,⟨⟨le f1,by show(t.s.Af.take _).length<=_;rw[el];omega⟩,⟨le f3,le f4,le f5⟩,le f6⟩⟩) ⟨rfl,rfl,rfl,rfl,trivial⟩
   refine ax ?_;exact xgx (a2 _ p1 V M) ⟨rfl,rfl,rfl,rfl,trivial⟩
  refine cq (fun cw=>?_) (fun _=>?_)
  ·have hn:n=1:=kn cw d_;refine drq [6] R7 ?_;refine xjk rfl rfl fun v2 Z2 o2=>?_;have o2:Ab 3 1 v2 (ics [xs.getD 0 0]) Z2:=o2;refine ex ?_;refine xbv rfl rfl O.h o2 (xcv _) (by rw[xpq,xpq];simp;omega) fun v3 Z3 o3=>?_;have o3:Ab 3 1 v3 (ics (t.b.hs++[xs.getD 0 0])) Z3:=o3.as (by simp[ics]);obtain⟨a3,c3,rfl,-⟩:=o3.val;rw[xpq]at o3⊢;refine ax ?_;refine xij (A:={A1 with h:=(a3,c3)}) (t:={t with b:={t.b with hs:=t.b.hs++[xs.getD 0 0]}}) ⟨O.r,O.f,o3,O.w,O.y,O.d⟩ fun p1 V M=>?_;exact xgx (nx _ _ _ ⟨_,_,true,rfl,V,rfl,M,⟨⟨le f1,le f2⟩,⟨by show(t.b.hs++[_]).length<=_;rw[List.length_append,List.length_singleton];omega,le f4,le f5⟩,le f6⟩⟩) ⟨rfl,rfl,rfl,rfl,trivial⟩
  refine cq (fun cw=>?_) (fun _=>?_)
  ·have hn:n=1:=kn cw d_;refine drq [6] R7 ?_;refine xjk rfl rfl fun v2 Z2 o2=>?_;have o2:Ab 3 1 v2 (ics [xs.getD 0 0]) Z2:=o2;refine ex ?_;refine xbv rfl rfl O.w o2 (xcv _) (by rw[xpq,xpq];simp;omega) fun v3 Z3 o3=>?_;have o3:Ab 3 1 v3 (ics (t.b.ws++[xs.getD 0 0])) Z3:=o3.as (by simp[ics]);obtain⟨a3,c3,rfl,-⟩:=o3.val;rw[xpq]at o3⊢;refine ax ?_;refine xij (A:={A1 with w:=(a3,c3)}) (t:={t with b:={t.b with ws:=t.b.ws++[xs.getD 0 0]}}) ⟨O.r,O.f,O.h,o3,O.y,O.d⟩ fun p1 V M=>?_;exact xgx (nx _ _ _ ⟨_,_,true,rfl,V,rfl,M,⟨⟨le f1,le f2⟩,⟨le f3,by show(t.b.ws++[_]).length<=_;rw[List.length_append,List.length_singleton];omega,le f5⟩,le f6⟩⟩) ⟨rfl,rfl,rfl,rfl,trivial⟩
  refine cq (fun cw=>?_) (fun _=>?_)
  ·have hn:n=2:=kn cw d_;refine drq [] R5 ?_;refine ax ?_;refine xrx rfl rfl (cf7 t.b om _) ?_;refine cq (fun cu=>?_) (fun cu=>?_)
   ·have hi:0<=xs.getD 0 0/\xs.getD 0 0<=(t.b.nH:Int)-1:=by simpa using cu
    have el:(t.b.hs.set (xs.getD 0 0).toNat (xs.getD 1 0)).length=t.b.nH:=List.length_set ..;have eL:t.b.hs.length=t.b.nH:=rfl;refine drq [] R9 ?_;refine xav rfl rfl O.h hi.1 (by rw[xpq];omega) ?_;refine xck (j:=0) rfl rfl O.h xmx rfl rfl rfl (Co om) (Nat.le_refl _) fun Z3 o3=>?_;have o4:Ab 3 1 (.slice A1.h.1 (t.b.hs.set (xs.getD 0 0).toNat (xs.getD 1 0)).length A1.h.2) (ics (t.b.hs.set (xs.getD 0 0).toNat (xs.getD 1 0))) Z3:=by rw[el];exact o3.as Ck
    refine ax ?_;refine xij (A:=A1) (t:={t with b:={t.b with hs:=t.b.hs.set (xs.getD 0 0).toNat (xs.getD 1 0)}}) ⟨O.r,O.f,o4,O.w,O.y,O.d⟩ fun p1 V M=>?_;exact xgx (nx _ _ _ ⟨A1,_,_,rfl,V,by show _=[[(b8,Obj.cells (tcs A1 _).toArray _ _)],_,_];unfold tcs;simp only[Tn.nH,Tn.nW,List.length_set];rfl,M,⟨⟨le f1,le f2⟩,⟨Nat.le_trans (Nat.le_of_eq el) (le f3),le f4,le f5⟩,le f6⟩⟩) ⟨rfl,rfl,rfl,rfl,trivial⟩
   refine ax ?_;refine xij O fun p1 V M=>?_;exact xgx (a2 _ p1 V M) ⟨rfl,rfl,rfl,rfl,trivial⟩
  refine cq (fun cw=>?_) (fun _=>?_)
  ·have hn:n=2:=kn cw d_;refine drq [] R5 ?_;refine ax ?_;refine xrx rfl rfl (cf6 t.b om _) ?_;refine cq (fun cu=>?_) (fun cu=>?_)
   ·have hi:0<=xs.getD 0 0/\xs.getD 0 0<=(t.b.nW:Int)-1:=by simpa using cu
    have el:(t.b.ws.set (xs.getD 0 0).toNat (xs.getD 1 0)).length=t.b.nW:=List.length_set ..;have eL:t.b.ws.length=t.b.nW:=rfl;refine drq [] R9 ?_;refine xav rfl rfl O.w hi.1 (by rw[xpq];omega) ?_;refine xck (j:=0) rfl rfl O.w xmx rfl rfl rfl (Co om) (Nat.le_refl _) fun Z3 o3=>?_;have o4:Ab 3 1 (.slice A1.w.1 (t.b.ws.set (xs.getD 0 0).toNat (xs.getD 1 0)).length A1.w.2) (ics (t.b.ws.set (xs.getD 0 0).toNat (xs.getD 1 0))) Z3:=by rw[el];exact o3.as Ck
    refine ax ?_;refine xij (A:=A1) (t:={t with b:={t.b with ws:=t.b.ws.set (xs.getD 0 0).toNat (xs.getD 1 0)}}) ⟨O.r,O.f,O.h,o4,O.y,O.d⟩ fun p1 V M=>?_;exact xgx (nx _ _ _ ⟨A1,_,_,rfl,V,by show _=[[(b8,Obj.cells (tcs A1 _).toArray _ _)],_,_];unfold tcs;simp only[Tn.nH,Tn.nW,List.length_set];rfl,M,⟨⟨le f1,le f2⟩,⟨le f3,Nat.le_trans (Nat.le_of_eq el) (le f4),le f5⟩,le f6⟩⟩) ⟨rfl,rfl,rfl,rfl,trivial⟩
   refine ax ?_;refine xij O fun p1 V M=>?_;exact xgx (a2 _ p1 V M) ⟨rfl,rfl,rfl,rfl,trivial⟩
  refine cq (fun cw=>?_) (fun _=>?_)
  ·have hn:n=2:=kn cw d_;refine xij O fun p1 V M=>?_;have I2:Ar p1 a n xs:=Sl.mono V.le I;have I3:Sl p1 a n 1 (ics xs):=I2;have T2:=T.mono V.le;refine drq [7] R8 ?_;refine xph rfl (fun a9=>?_);refine xa ?_;refine xeg rfl rfl (fun h pe=>cf87 t.b om pe T2.b (xs.getD 0 0) (xs.getD 1 0)) ?_;rintro _ ⟨q,rfl⟩;refine cq (fun cu=>?_) (fun cu=>?_)
   ·refine cpq (fun h pe=>cf88 t.b ⟨le f3,le f4,le f5⟩ pe T2.b (xs.getD 0 0,xs.getD 1 0)) ?_;rintro _ p2 g2 ⟨a4,a5,a6,c4,c5,c6,u,rfl,U,⟨u1,u2,u3⟩,k1,k2,k3⟩;refine ax ?_;have T3:=M.mono g2.le;refine xfk (LL':=[[(b8,.cells (tcs {A1 with h:=(a4,c4),w:=(a5,c5),y:=(a6,c6)} {t with b:=u}).toArray 33 (0,0))],[(b6,.cells #[.slice none 0 0,.slice none 0 0,.J 0,.J 0,.J 0,.slice none 0 0,.slice none 0 0,.slice none 0 0,.J 0,.J 0,.slice none 0 0] 33 (0,0))],[(b3,.cells (tcs A t).toArray 33 (0,0))]]) ?_ fun _ s=>s.sub (List.Sublist.cons_cons _ (List.sublist_cons_self _ _));exact xgx (nx _ _ _ ⟨_,_,_,rfl,V.trans g2,rfl,⟨T3.s,U,T3.d,T3.c.1,⟨k1,k2,k3⟩,T3.c.2.2⟩,⟨⟨le f1,le f2⟩,⟨by show u.nH<=_;omega,by show u.nW<=_;omega,by show u.m<=_;omega⟩,le f6⟩⟩) ⟨rfl,rfl,rfl,rfl,trivial⟩
   refine ax ?_;refine xfk (LL':=[[(b8,.cells (tcs A1 t).toArray 33 (0,0))],[(b6,.cells #[.slice none 0 0,.slice none 0 0,.J 0,.J 0,.J 0,.slice none 0 0,.slice none 0 0,.slice none 0 0,.J 0,.J 0,.slice none 0 0] 33 (0,0))],[(b3,.cells (tcs A t).toArray 33 (0,0))]]) ?_ fun _ s=>s.sub (List.sublist_cons_self _ _);exact xgx (a2 _ p1 V M) ⟨rfl,rfl,rfl,rfl,trivial⟩
  refine cq (fun cw=>?_) (fun _=>?_)
  ·have hn:n=3:=kn cw d_;refine drq [14] R15 ?_;refine xjk rfl rfl fun v2 Z2 o2=>?_;have o2:Ab 48 3 v2 (dcs [⟨xs.getD 0 0,xs.getD 1 0,xs.getD 2 0⟩]) Z2:=o2;refine ex ?_;refine xbv rfl rfl O.d o2 (Ct _) (by rw[Aj,Aj];simp;omega) fun v3 Z3 o3=>?_;have o3:Ab 48 3 v3 (dcs (t.y.days++[⟨xs.getD 0 0,xs.getD 1 0,xs.getD 2 0⟩])) Z3:=o3.as (by simp[dcs]);obtain⟨a3,c3,rfl,-⟩:=o3.val;rw[Aj]at o3⊢;refine ax ?_;refine xij (A:={A1 with d:=(a3,c3)}) (t:={t with y:={t.y with days:=t.y.days++[⟨xs.getD 0 0,xs.getD 1 0,xs.getD 2 0⟩]}}) ⟨O.r,O.f,O.h,O.w,O.y,o3⟩ fun p1 V M=>?_;exact xgx (nx _ _ _ ⟨_,_,true,rfl,V,rfl,M,⟨⟨le f1,le f2⟩,⟨le f3,le f4,le f5⟩,by show(t.y.days++[_]).length<=_;rw[List.length_append,List.length_singleton];omega⟩⟩) ⟨rfl,rfl,rfl,rfl,trivial⟩
  refine cq (fun cw=>?_) (fun _=>?_)
  ·have hn:n=1:=kn cw d_;refine ax ?_;refine xij (A:=A1) (t:={t with y:={t.y with size:=xs.getD 0 0}}) ⟨O.r,O.f,O.h,O.w,O.y,O.d⟩ fun p1 V M=>?_;exact xgx (nx _ _ _ ⟨A1,_,true,rfl,V,rfl,M,⟨⟨le f1,le f2⟩,⟨le f3,le f4,le f5⟩,le f6⟩⟩) ⟨rfl,rfl,rfl,rfl,trivial⟩
  refine ax ?_;refine xij O fun p1 V M=>?_;exact xgx (a2 true p1 V M) ⟨rfl,rfl,rfl,rfl,trivial⟩
 rintro _ p1 _ ⟨A',t',q,rfl,V,rfl,T',a7⟩;have M:=T.mono V.le;refine cgq (fun _=>cf15 A' t' T' a7) ?_;refine cq (fun cc=>?_) (fun cc=>?_)
 ·refine ax ?_;exact K.e rfl (xoq rfl (.tmp rfl .nil)) fun _ H=>xqq H V ⟨A,t,false,rfl,M,hv⟩
 refine ax ?_;exact K.e rfl (xoq rfl (.tmp rfl .nil)) fun _ H=>xqq H V ⟨A',t',true,rfl,T',by simp at cc;exact cc.2⟩
theorem cf25(N:Nat)(hN:N<=100)(D:Mz p N v)(s:Str)(hs:s.length<=900):Lc prog md p 25 #[v,sv s] (fun w p'=>∃v' z,w=.tuple #[v',sv z]/\Mz p' (N+1) v'):=by
 obtain⟨A,t,ka,V,kc,ks,pa,M,pc,es,rfl,T,hv,S,hk,c8,P,a8,c6,a4⟩:=D;have d5:=P.len;have a2:=fun(p':Aa)(le:PLe p p')=>(⟨A,t,ka,V,kc,ks,pa,M,pc,es,rfl,T.mono le,hv,Sl.mono le S,hk,Nat.le_succ_of_le c8,Sl.mono le P,a8,Nat.le_succ_of_le c6,fun e he=>(a4 e he).mono le (Nat.le_succ N)⟩:Mz p' (N+1) (.agg (tcs A t++[Value.slice ka V kc,.slice pa M pc]).toArray))
 have a5:=xgg s;refine xkq func25 fun K b2=>?_;refine lq fun b4=>?_;refine cpq (cf41 s hs) ?_;rintro _ p1 g1 ⟨la,lc,rfl,c5,L⟩;generalize hx:C5 s=x at*;refine lq fun b6=>?_;refine cq (fun cc=>?_) (fun c0=>?_)
 ·refine ax ?_;exact K.e rfl (xoq rfl (.tmp rfl .nil)) fun _ H=>xqq H g1 ⟨_,_,rfl,a2 _ g1.le⟩
 obtain⟨w,args,lt,rfl,k0,hlen,d7,d0,_⟩:∃w args l,x=⟨w,(Aq w).1,args,l⟩/\(Aq w).1≠0/\args.length=(Aq w).2/\(l≠[]->(Aq w).1=3/\isLet l=true)/\args.all Bc=true/\Ad s=if l=[]then w::args else Cl::l::w::args:=by
  rcases a5 with e|e
  ·rw[e]at c0;exact absurd (by rfl) c0
  ·exact e
 clear a5;have e0:=xcl w;simp only at L c5 hlen⊢;refine ax ?_;refine xwv rfl rfl (cf42 V kc ks (Sl.mono g1.le S) om hk args.length lc args L om) ?_;rintro _ p2 g2 ⟨va,vn,vc,xs,q,rfl,I,hq⟩;have O:=g1.trans g2;refine cq (fun b8=>?_) (fun b8=>?_)
 ·refine ax ?_;exact K.e rfl (xoq rfl (.tmp rfl .nil)) fun _ H=>xqq H O ⟨_,_,rfl,a2 _ O.le⟩
 have b3:vn=(Aq w).2:=(hq (by simpa using b8)).trans hlen;have T2:=T.mono O.le;refine cq (fun c3=>?_) (fun c3=>?_)
 ·have b9:Aq w=(3,vn):=by rw[b3];exact Prod.ext (by show(Aq w).1=3;omega) rfl
  refine ckq (cf43 A t T2 hv w vn vc xs I b9) ?_;rintro _ ⟨z,n,b,rfl,hn⟩;refine cq (fun _=>?_) (fun _=>?_)
  ·refine ax ?_;refine xwv rfl rfl (cf44 V kc ks (Sl.mono O.le S) om hk lt n hn) ?_;rintro _ p3 g3 ⟨k3,m3,a6,a9,rfl,d9,S3,c1⟩;refine ax ?_;exact K.e rfl (xoq rfl (.tmp rfl .nil)) fun _ H=>xqq H (O.trans g3) ⟨_,_,rfl,⟨A,t,k3,m3,a6,a9,pa,M,pc,es,rfl,T2.mono g3.le,hv,S3,c1,om,Sl.mono (O.trans g3).le P,a8,om,fun e he=>(a4 e he).mono (O.trans g3).le (Nat.le_succ N)⟩⟩
  refine ax ?_;exact K.e rfl (xoq rfl (.tmp rfl .nil)) fun _ H=>xqq H O ⟨_,_,rfl,a2 _ O.le⟩
 refine cq (fun cb=>?_) (fun cb=>?_)
 ·refine ax ?_
  refine xqd 7 [3,6] [1,2,4,5] [0,3,6] (fun i=>match i with|3=>[0]|_=>[]) (fun i=>match i with|2=>[1]|3=>[0,2]|5=>[4]|6=>[5]|_=>[])
   (fun i _ _ v x=>match i with
    |0=>Ab 64 12 v [] x
    |1=>v=w_ b2 12/\x=[]
    |2=>v=.slice pa M pc/\x=[]
    |3=>Ab 64 12 v es x
    |4=>v=w_ b2 0/\x=[]
    |5=>v=.agg (tcs A t++[Value.slice ka V kc]).toArray/\x=[]
    |6=>Ab 64 12 v [tcs A t++[.slice ka V kc]] x
    |_=>True) (fun i hi val piece hq=>?_) (fun val piece j hj v x q=>?_) (fun val piece hq=>?_)
  ·match i,hi with
   |0,_=>
     refine xjk rfl rfl fun v Y o=>?_;have o:Ab 64 12 v [] Y:=o;exact xjz ⟨⟨_,rfl⟩,fun v' e=>by
      have e':=xqx e;subst e';show Ab _ _ _ _ ([Y]++[]).flatten;have ey:([Y]++([]:List Pcs)).flatten=Y:=by simp
      rw[ey];exact o⟩
   |1,_=>
     exact det
   |2,_=>
     refine de_y rfl rfl (y_ld (by show some ([],val 1)=_;rw[(hq 1 rfl).1]) sdt (b:=b2) (off:=12) (cs:=(tcs A t++[Value.slice ka V kc,.slice pa M pc]).toArray) (T:=67) (z:=(0,0))) ?_;exact det
   |3,_=>
     have o1:Ab 64 12 (val 0) [] (piece 0):=hq 0 rfl;show DE _ _ _ _ _ _ _ _ _ [piece 0];refine xsf rfl rfl (by show some ([],val 2)=_;rw[(hq 2 rfl).1]) o1 (Sl.mono O.le P) (fun u hu=>by
      obtain⟨e,he,hu⟩:=List.mem_flatten.1 hu;exact(a4 e he).Nw u hu) (by simp;omega) fun v Y o=>?_
     rw[List.nil_append]at o;exact xjz ⟨⟨_,rfl⟩,fun v' e=>by
      have e':=xqx e;subst e';show Ab _ _ _ _ ([Y]++[]).flatten;have ey:([Y]++([]:List Pcs)).flatten=Y:=by simp
      rw[ey];exact o⟩
   |4,_=>
     exact det
   |5,_=>
     refine de_y rfl rfl (xw9 (by show some ([],val 4)=_;rw[(hq 4 rfl).1]) sdt (b:=b2) (off:=0) (cs:=(tcs A t++[Value.slice ka V kc,.slice pa M pc]).toArray) (T:=67) (z:=(0,0))) ?_;exact det
   |6,_=>
     refine xjk (vs:=[(0,.agg (tcs A t++[Value.slice ka V kc]).toArray)]) (cells:=(tcs A t++[Value.slice ka V kc]).toArray) rfl (by rw[<- (hq 5 rfl).1];rfl) (fun v Y o=>?_) (hf:=by kernel_rfl) (hc:=by kernel_rfl) (hw:=by kernel_rfl) (hn:=by kernel_rfl);have o:Ab 64 12 v [tcs A t++[.slice ka V kc]] Y:=o;exact xjz ⟨⟨_,rfl⟩,fun v' e=>by
      have e':=xqx e;subst e';show Ab _ _ _ _ ([Y]++[]).flatten;have ey:([Y]++([]:List Pcs)).flatten=Y:=by simp
      rw[ey];exact o⟩
  ·simp only[List.mem_cons,List.not_mem_nil,or_false]at hj;rcases hj with rfl|rfl|rfl|rfl<;>exact q.2
  have o1:Ab 64 12 (val 3) es (piece 3):=hq 3 d_;have o2:Ab 64 12 (val 6) [tcs A t++[.slice ka V kc]] (piece 6):=hq 6 d_;have a7:StP p (N+1) (tcs A t++[.slice ka V kc]):=⟨A,t,ka,V,kc,ks,rfl,T,hv,S,hk,om⟩
  refine xkw (l':=[(2,none,w_ b2 0),(4,none,w_ b4 0),(76,none,val 3),(79,none,val 6)]) ?_ ⟨rfl,rfl,rfl,rfl,trivial⟩;clear hq;generalize val 3=v1 at*;generalize val 6=v2 at*;show RO _ _ _ _ _ _ [piece 3,piece 6,_,_,_];generalize piece 3=Z1 at*;generalize piece 6=Z2 at*;refine ax ?_;refine xbv rfl rfl o1 o2 (fun u hu=>a7.Nw u (by simpa using hu)) (by simp;omega) fun v3 Z3 o3=>?_;refine xhx o3 (m:=M+1) (by simp;omega) d_ fun p3 a3 c3 g3 e3 c4 S3=>?_;subst e3;refine ax ?_;exact K.e rfl (xoq rfl (.tmp rfl .nil)) fun _ H=>xqq H (O.trans g3) ⟨_,_,rfl,⟨A,t,ka,V,kc,ks,a3,M+1,c3,es++[tcs A t++[.slice ka V kc]],rfl,T2.mono g3.le,hv,Sl.mono (O.trans g3).le S,hk,om,S3,c4,om,fun e he=>(List.mem_append.1 he).elim (fun z=>(a4 e z).mono (O.trans g3).le (Nat.le_succ N)) fun z=>by rw[List.mem_singleton.1 z];exact a7.mono (O.trans g3).le (Nat.le_refl _)⟩⟩
 refine cq (fun cd=>?_) (fun cd=>?_)
 ·refine ax ?_;exact K.e rfl (xoq rfl (.tmp rfl .nil)) fun _ H=>xqq H O ⟨_,_,rfl,a2 _ O.le⟩
 have k2:(Aq w).1=2->0<M:=fun z=>Classical.byContradiction fun y=>cd ⟨by rw[z];rfl,om⟩;refine cq (fun ce=>?_) (fun ce=>?_)
 ·have b5:0<M:=k2 (by rw[ce];decide);refine ax ?_;refine xmd (j:=M-1) rfl (by show some ([],Value.J _)=_;rw[show((M:Nat):Int)-1=((M-1:Nat):Int) by omega]) om ?_;refine ax ?_;exact K.e rfl (xoq rfl (.tmp rfl .nil)) fun _ H=>xqq H O ⟨_,_,rfl,⟨A,t,ka,V,kc,ks,pa,M-1,pc,es.take (M-1),rfl,T2,hv,Sl.mono O.le S,hk,om,xk4 (Sl.mono O.le P) (d:=M-1) om,om,om,fun e he=>(a4 e (List.mem_of_mem_take he)).mono O.le (Nat.le_succ N)⟩⟩
 refine cq (fun cf=>?_) (fun cf=>?_)
 ·have b5:0<M:=k2 (by rw[cf];decide);have hi:M-1<es.length:=om;obtain⟨A',t',k3,m3,a6,a9,e1,T',b0,S',c7,d6⟩:=a4 es[M-1] (List.getElem_mem hi);have c9:es[M-1]?=some (tcs A' t'++[.slice k3 m3 a6]):=by rw[List.getElem?_eq_getElem hi,e1]
  have P2:=Sl.mono O.le P;have b7:=Sl.get P2 (M-1) _ c9;refine ax ?_;refine ro_y rfl (xpc rfl rfl om om (Sl.ne P2 b5)) ?_;rw[show(((M:Nat):Int)-1).toNat=M-1 by omega];refine ro_y rfl (xlk rfl b7) ?_;refine ax ?_;refine xmd (j:=M-1) rfl (by show some ([],Value.J _)=_;rw[show((M:Nat):Int)-1=((M-1:Nat):Int) by omega]) om ?_;refine ax ?_;exact K.e rfl (xoq rfl (.tmp rfl .nil)) fun _ H=>xqq H O ⟨_,_,rfl,⟨A',t',k3,m3,a6,a9,pa,M-1,pc,es.take (M-1),rfl,T'.mono O.le,b0,Sl.mono O.le S',c7,om,xk4 P2 (d:=M-1) om,om,om,fun e he=>(a4 e (List.mem_of_mem_take he)).mono O.le (Nat.le_succ N)⟩⟩
 have c2:Aq w=(1,vn):=by
  refine Prod.ext ?_ b3.symm;have z:(Aq w).1≠2:=fun z=>by
   obtain⟨_,y⟩:=yoq (w:=w) (n:=(Aq w).2) (by rw[<- z]);rcases y with y|y|y
   ·exact cb y
   ·exact ce y
   ·exact cf y
  show(Aq w).1=1;omega
 refine cpq (cf45 A t T2 hv w vn vc xs I c2) ?_;rintro _ p3 g3 ⟨A',t',q2,rfl,T',b0⟩;have g4:=O.trans g3;refine lq fun d8=>?_;refine cq (fun cg=>?_) (fun cg=>?_)
 ·refine ax ?_;exact K.e rfl (xoq rfl (.tmp rfl .nil)) fun _ H=>xqq H g4 ⟨_,_,rfl,a2 _ g4.le⟩
 refine ax ?_;exact K.e rfl (xoq rfl (.tmp rfl .nil)) fun _ H=>xqq H g4 ⟨_,_,rfl,⟨A',t',ka,V,kc,ks,pa,M,pc,es,rfl,T',b0,Sl.mono g4.le S,hk,om,Sl.mono g4.le P,a8,om,fun e he=>(a4 e he).mono g4.le (Nat.le_succ N)⟩⟩
theorem yn8(A:TA)(t:Twn)(T:TwP p A t)(hn:t.fit 9223372036854775807){a:Option Addr}(n c:Nat)(ls:List Str)(S:Bs p a n ls):Kc prog md p 14 #[twV A t,.slice a n c] (fun v=>(∃q:Bool,v=.bool q/\(q=false->t.fit 40/\ ∀s∈ls,s.length<=60))):=by
 intro h hp;have S1:Sl p a n 1 (scs ls):=S;have hl:ls.length=n:=by rw[<- xwx];exact S1.len
 refine xsq hp func14 fun K b1=>?_;refine ckq (cf24 A t T hn) ?_;rintro _ ⟨q,rfl,H⟩;refine cq (fun _=>?_) (fun cc=>?_)
 ·refine K.q ?_;exact⟨true,rfl,fun z=>by cases z⟩
 obtain⟨b0,b3⟩:q=false/\n<=60:=by simp at cc;exact⟨cc.1,om⟩
 have a2:t.fit 40:=H b0;have a4:=a2.up (n':=2^20) om;refine ax ?_;refine xjq (fun m_ l p_ L_=>∃j:Nat,m_=n-j/\l=[(1,none,.slice a n c),(2,none,w_ b1 0),(5,none,.J ((j:Nat):Int))]/\p_=p/\L_=[[(b1,.cells (tcs A t).toArray 33 (0,0))]]/\j<=n/\ ∀i,i<j->(ls.getD i []).length<=60) ⟨0,rfl,rfl,rfl,rfl,Nat.zero_le _,fun i hi=>absurd hi (Nat.not_lt_zero _)⟩ sb ?_;rintro _ _ p _ IH ⟨j,rfl,rfl,rfl,rfl,hj,hs⟩;refine cq (fun cd=>?_) (fun cd=>?_)
 ·have a7:j<n:=om;refine ax ?_;refine ro_y rfl (y_lp rfl (Bs.get S a7)) ?_;refine cq (fun ce=>?_) (fun ce=>?_)
  ·refine K.q ?_;exact⟨true,rfl,fun z=>by cases z⟩
  exact bkq (IH _ _ _ om ⟨j+1,rfl,rfl,rfl,rfl,om,fun i hi=>by
   by_cases z:i=j
   ·rw[z];omega
   ·exact hs i om⟩)
 obtain rfl:j=n:=om;have a5:∀s∈ls,s.length<=60:=fun s h=>by
  obtain⟨i,hi,rfl⟩:=List.mem_iff_getElem.1 h;have:=hs i om;rwa[Flow.A8 hi]at this
 clear IH;refine cdq (cf15 A t T a4) ?_;refine cq (fun ce=>?_) (fun ce=>?_)
 ·refine K.q ?_;exact⟨false,rfl,fun _=>⟨a2,a5⟩⟩
 obtain⟨hv,b4⟩:Bp t=0/\j<=30:=by simp at ce;exact⟨ce.1,om⟩
 refine lq fun b6=>?_;refine ax ?_
 refine xjq (fun m_ l p_ L_=>∃(i:Nat)(A':TA)(t':Twn)(ka:Option Addr)(kn kc:Nat)(pa:Option Addr)(pn pc:Nat),m_=j-i/\l=[(1,none,.slice a j c),(6,none,w_ b6 0),(7,none,.J ((i:Nat):Int))]/\PG h.size [] p p_/\
  L_=[[(b6,.cells (tcs A' t'++[Value.slice ka kn kc,.slice pa pn pc]).toArray 67 (0,0))],[(b1,.cells (tcs A t).toArray 33 (0,0))]]/\i<=j/\Mz p_ i (.agg (tcs A' t'++[Value.slice ka kn kc,.slice pa pn pc]).toArray)) ⟨0,A,t,none,0,0,none,0,0,rfl,rfl,.refl _ _ _,rfl,Nat.zero_le _,⟨A,t,none,0,0,[],none,0,0,[],rfl,T,hv,Sl.nil _ _ _,fun i hi=>by simp at hi,Nat.le_refl _,Sl.nil _ _ _,Nat.le_refl _,Nat.le_refl _,fun e he=>by simp at he⟩⟩ sb ?_
 rintro _ _ p1 _ IH ⟨i,A',t',ka,kn,kc,pa,pn,pc,rfl,rfl,g1,rfl,hi,D⟩;have S2:Bs p1 a j ls:=Sl.mono g1.le S;have S3:Sl p1 a j 1 (scs ls):=S2;refine cq (fun cd=>?_) (fun cd=>?_)
 ·have a3:i<j:=om;have b7:=hs i a3;refine ax ?_
  refine xqd 11 [10,5] [0,1,2,3,4,6,7,8] [5,9,10] (fun i=>match i with|10=>[9]|_=>[]) (fun i=>match i with|3=>[1,2]|4=>[3]|5=>[0,4]|6=>[5]|7=>[5,6]|8=>[5,6]|10=>[5,7,9]|_=>[])
   (fun q val _ v x=>match q with
    |0=>v=.agg (tcs A' t'++[Value.slice ka kn kc,.slice pa pn pc]).toArray/\x=[]
    |1=>v=.slice a j c/\x=[]
    |2=>v=.J ((i:Nat):Int)/\x=[]
    |3=>v=.pointer (some ((adr a).add (i*1)))/\x=[]
    |4=>v=sv (ls.getD i [])/\x=[]
    |5=>∃(A2:TA)(t2:Twn)(k2:Option Addr)(O M:Nat)(q2:Option Addr)(V d2:Nat)(z:Str),v=.tuple #[.agg (tcs A2 t2++[Value.slice k2 O M,.slice q2 V d2]).toArray,sv z]/\ ∀p',PLe p1 p'->(∀y∈x,p' y.1=some y.2)->Mz p' (i+1) (.agg (tcs A2 t2++[Value.slice k2 O M,.slice q2 V d2]).toArray)
    |6=>v=val 5/\x=[]
    |7=>(∃(A2:TA)(t2:Twn)(k2:Option Addr)(O M:Nat)(q2:Option Addr)(V d2:Nat)(z:Str),val 5=.tuple #[.agg (tcs A2 t2++[Value.slice k2 O M,.slice q2 V d2]).toArray,sv z]/\v=.agg (tcs A2 t2++[Value.slice k2 O M,.slice q2 V d2]).toArray)/\x=[]
    |8=>(∃z,v=sv z)/\x=[]
    |9=>∃b,v=w_ b 0/\x=[(b,.cells #[.slice none 0 0,.slice none 0 0,.J 0,.J 0,.J 0,.slice none 0 0,.slice none 0 0,.slice none 0 0,.J 0,.J 0,.slice none 0 0,.slice none 0 0,.slice none 0 0] 67 (0,0))]
    |10=>∃b cs,val 9=w_ b 0/\val 7=.agg cs/\x=[(b,.cells cs 67 (0,0))]
    |_=>True) (fun q a6 val piece H=>?_) (fun val piece q hj v x H=>?_) (fun val piece H=>?_)
  ·match q,a6 with
   |0,_=>
     exact det
   |1,_=>
     exact det
   |2,_=>
     exact det
   |3,_=>
     refine de_y rfl rfl (yuv (by show some ([],val 1)=_;rw[(H 1 rfl).1]) (by show some ([],val 2)=_;rw[(H 2 rfl).1]) sdt sdt ⟨a3,Sl.ne S3 om⟩ (m:=j) (i:=i)) ?_;exact det
   |4,_=>
     refine de_y rfl rfl (y_lp (by show some ([],val 3)=_;rw[(H 3 rfl).1]) (Bs.get S2 a3)) ?_;exact det
   |5,_=>
     refine xsk (first:=[]) (cap:=[]) (vs:=[.agg (tcs A' t'++[Value.slice ka kn kc,.slice pa pn pc]).toArray,sv (ls.getD i [])]) (Q:=fun v x=>∃(A2:TA)(t2:Twn)(k2:Option Addr)(O M:Nat)(q2:Option Addr)(V d2:Nat)(z:Str),v=.tuple #[.agg (tcs A2 t2++[Value.slice k2 O M,.slice q2 V d2]).toArray,sv z]/\ ∀p',PLe p1 p'->(∀y∈x,p' y.1=some y.2)->Mz p' (i+1) (.agg (tcs A2 t2++[Value.slice k2 O M,.slice q2 V d2]).toArray)) rfl rfl (by show some (([]:List Prop),[val 0,val 4])=_;rw[(H 0 rfl).1,(H 4 rfl).1])
      (fun h pe=>(cf25 i om D (ls.getD i []) om h pe).mono fun v h' x=>by
       obtain⟨Z,⟨p4,⟨v',z,e,D2⟩,le⟩,N⟩:=x.pieces;have D3:=D2;obtain⟨A2,t2,k2,O,M,c1,q2,V,d2,b9,rfl,_⟩:=D3;exact⟨Z,⟨A2,t2,k2,O,M,q2,V,d2,z,e,fun p' l y=>D2.mono (le p' l y)⟩,N⟩) fun v Y o=>?_
     exact xjz ⟨⟨_,rfl⟩,fun v' e=>by
      have e':=xqx e;subst e';obtain⟨A2,t2,k2,O,M,q2,V,d2,z,e1,h1⟩:=o;exact⟨A2,t2,k2,O,M,q2,V,d2,z,e1,fun p' l y=>h1 p' l fun u hu=>y u (by simpa using hu)⟩⟩
   |6,_=>
     exact det
   |7,_=>
     obtain⟨A2,t2,k2,O,M,q2,V,d2,z,e5,_⟩:=H 5 rfl;have e6:val 6=val 5:=(H 6 rfl).1;refine de_y rfl rfl (y_xt (by show some ([],val 6)=_;rw[e6,e5]) rfl) ?_;exact xjz ⟨⟨_,rfl⟩,fun v e=>⟨⟨A2,t2,k2,O,M,q2,V,d2,z,e5,xqx e⟩,rfl⟩⟩
   |8,_=>
     obtain⟨A2,t2,k2,O,M,q2,V,d2,z,e5,_⟩:=H 5 rfl;have e6:val 6=val 5:=(H 6 rfl).1;refine de_y rfl rfl (y_xt (by show some ([],val 6)=_;rw[e6,e5]) rfl) ?_;exact xjz ⟨⟨_,rfl⟩,fun v e=>⟨⟨z,xqx e⟩,rfl⟩⟩
   |9,_=>
     refine xph rfl fun b=>?_;exact xjz ⟨⟨_,rfl⟩,fun v e=>⟨b,xqx e,rfl⟩⟩
   |10,_=>
     obtain⟨b,e9,x9⟩:=H 9 rfl;obtain⟨⟨A2,t2,k2,O,M,q2,V,d2,z,_,e7⟩,_⟩:=H 7 rfl;show DE _ _ _ _ _ _ _ _ _ [piece 9];rw[x9];refine xfn (b:=b) (off:=0) rfl (by show some ([],val 9)=_;rw[e9]) (by show some ([],val 7)=_;rw[e7]) ?_;exact xjz ⟨⟨undef,rfl⟩,fun v e=>⟨b,_,e9,e7,rfl⟩⟩
  ·simp only[List.mem_cons,List.not_mem_nil,or_false]at hj;rcases hj with rfl|rfl|rfl|rfl|rfl|rfl|rfl|rfl<;>exact H.2
  obtain⟨A2,t2,k2,O,M,q2,V,d2,z,e5,h5⟩:=H 5 d_;obtain⟨⟨A3,t3,k3,n3,c3,q3,m3,d3,z3,f5,e7⟩,_⟩:=H 7 d_;obtain⟨b8,cs,e9,f7,a8⟩:=H 10 d_;obtain⟨⟨z8,e8⟩,_⟩:=H 8 d_;have f5:val 5=_:=f5;have e9:val 9=_:=e9;have f7:val 7=_:=f7;rw[e5]at f5;rw[e7]at f7;injection f5 with f5;injection f7 with f7;have f6:Value.agg (tcs A2 t2++[Value.slice k2 O M,.slice q2 V d2]).toArray=.agg (tcs A3 t3++[Value.slice k3 n3 c3,.slice q3 m3 d3]).toArray:=Option.some.inj (show some _=some _ from congrArg (fun a:Array Value=>a[0]?) f5);injection f6 with f6;rw[<- f6]at f7;subst f7;refine xkw (l':=[(1,none,.slice a j c),(6,none,w_ b6 0),(7,none,.J ((i:Nat):Int)),(8,none,w_ b8 0),(54,none,sv z8)]) ?_ ⟨rfl,rfl,rfl,by show some (none,val 9)=_;rw[e9],by show some (none,val 8)=_;rw[e8],trivial⟩;clear H;show RO _ _ _ _ _ _ [piece 10,piece 5,_,_];rw[a8];generalize piece 5=Z at*;refine xaw Z fun p2 g2 hy=>?_;have D2:=h5 p2 g2.le hy;have D3:=D2;obtain⟨A4,t4,k4,n4,c4,b5,q4,m4,d4,c5,e4,T4,a9,_⟩:=D3;rw[e4]at D2;injection e4 with e4;rw[e4];refine ax ?_;refine xeg rfl rfl (cf24 A4 t4 T4 ((xhz a9).up om)) ?_;rintro _ ⟨q5,rfl,_⟩;refine cq (fun _=>?_) (fun _=>?_)
  ·refine K.q ?_;exact⟨true,rfl,fun z=>by cases z⟩
  exact bkq (IH _ _ _ om ⟨i+1,A4,t4,k4,n4,c4,q4,m4,d4,rfl,rfl,g1.trans g2,rfl,om,D2⟩)
 refine K.q ?_;exact⟨false,rfl,fun _=>⟨a2,a5⟩⟩
theorem xn3(A:TA)(t:Twn)(T:TwP p A t)(hn:t.fit 9223372036854775807){a:Option Addr}(n c:Nat)(ls:List Str)(S:Bs p a n ls):Kc prog md p 5 #[twV A t,.slice a n c] (fun v=>(∃q:Bool,v=.bool q/\(q=true->Bp t=0/\n<=30/\ ∀s∈ls,s.length<=60))):=by
 refine xkq func5 fun K b1=>?_;refine ckq (yn8 A t T hn n c ls S) ?_;rintro _ ⟨q,rfl,H⟩;refine ax ?_;refine xxj rfl rfl rfl sdu (fun M=>cf15 A t T ((H (by simpa using M)).1.up om)) ?_;refine K.q ?_;exact⟨_,rfl,fun e=>by simp at e;exact⟨e.1.2,om,(H e.1.1).2⟩⟩
end Go.Proofs.YtadndcpcjmmngaaGreatDoor
