/-
  Part of proofs about a town's master: a calculus for Be beside goroutines that are only leaving, and the Be. No condition.
-/
import Derived.Test.YtblcmdjhidhnjaaGreatDoorGQ
set_option maxRecDepth 20000
set_option synthInstance.maxSize 2000
namespace Go.X.Ms
def Aq(w:Str):Nat×Nat:=
 if w=[117,112]then(1,0)
 else if w=[102,111,111,116]then(1,1)else if w=[104,111,117,115,101]then(1,1)else if w=[119,101,108,108]then(1,1)else if w=[115,105,122,101]then(1,1)
 else if w=[119,97,110,116]then(1,2)else if w=[104,97,115]then(1,2)else if w=[119,97,121]then(1,2)
 else if w=[100,97,121]then(1,3)else if w=[114,111,99,107]then(1,4)
 else if w=[98,101,103,105,110]then(2,0)else if w=[101,110,100]then(2,0)else if w=[100,114,111,112]then(2,0)
 else if w=[102,101,119,101,115,116]then(3,0)else if w=[99,104,101,97,112]then(3,0)else if w=[109,111,115,116]then(3,0)else if w=[108,97,99,107,115]then(3,0)else if w=[115,104,111,114,116]then(3,0)
 else if w=[101,109,112,116,121]then(3,0)else if w=[108,101,97,115,116]then(3,0)else if w=[114,97,116,105,111,110]then(3,0)
 else if w=[100,101,101,112]then(3,1)else if w=[110,101,120,116]then(3,1)else if w=[100,114,97,119,115]then(3,1)else if w=[100,114,121]then(3,1)else if w=[115,112,97,114,101]then(3,1)else if w=[108,101,118,101,108]then(3,1)
 else(0,0)
structure Ln where
 w:Str
 k:Nat
 a:List Str
 l:Str
def lnz:Ln:=⟨[],0,[],[]⟩
def Es(l:Str)(q:List Str):Ln:=
 if(Aq (q.headD [])).1=0\/q.length≠(Aq (q.headD [])).2+1\/(l≠[]/\(Aq (q.headD [])).1≠3)then lnz
 else if q.tail.all Bb=true then⟨q.headD [],(Aq (q.headD [])).1,q.tail,l⟩else lnz
def D7(p:List Str):Bool:=decide (2<p.length)&&decide (p.headD []=Er)&&isLet (p.getD 1 [])
def Bm(x:Str):Ln:=if D7 (Ad x)=true then Es ((Ad x).getD 1 []) ((Ad x).drop 2)else Es [] (Ad x)
theorem xzh(s:Str)(c:UInt8):Ad (s++[c])=if c=32 then Ad s++[[]]else(Ad s).dropLast++[(Ad s).getLastD []++[c]]:=by
 induction s with
 |nil=>
   show(if c=32 then []::Ad []else(c::(Ad []).headD [])::(Ad []).tail)=_;by_cases h:c=32
   ·rw[if_pos h,if_pos h];rfl
   ·rw[if_neg h,if_neg h];rfl
 |cons d s ih=>
   rw[List.cons_append,Ad,ih,Ad];cases e:Ad s with
   |nil=>exact absurd e (xoj s)
   |cons a t=>
     by_cases h:c=32
     ·rw[if_pos h,if_pos h];split<;>rfl
     ·rw[if_neg h,if_neg h];cases t with
      |nil=>split<;>simp
      |cons b t=>split<;>simp
theorem xeh{w:Str}{n:Nat}(h:n<10):w=(w++txt ((n:Nat):Int)).dropLast:=by rw[xwh h];simp
theorem xnh{α:Type}{c:Prop}[Decidable c]{a q:α}{r:Option α}(h:(if c then some a else r)=some q):(c/\a=q)\/(¬ c/\r=some q):=by
 by_cases k:c
 ·rw[if_pos k]at h;exact .inl ⟨k,Option.some.inj h⟩
 ·rw[if_neg k]at h;exact .inr ⟨k,h⟩
theorem ypq{w:Str}{n:Nat}{q:Qn}(h:qn (w++txt ((n:Nat):Int))=some q):Aq w=(3,n):=by
 have hn:=yrg h;have H:=xeh (w:=w) (n:=n) (by rw[hn];cases q<;>decide);generalize w++txt ((n:Nat):Int)=z at h H;unfold qn at h
 iterate 14 (rcases xnh h with⟨c,e⟩|⟨_,h⟩;(subst e;subst c;subst H;subst hn;rfl))
 cases h
theorem yzg{w:Str}{n:Nat}{o:Od}(h:od (w++txt ((n:Nat):Int))=some o):Aq w=(1,n):=by
 have hn:=yah h;have H:=xeh (w:=w) (n:=n) (by rw[hn];cases o<;>decide);generalize w++txt ((n:Nat):Int)=z at h H;unfold od at h
 iterate 10 (rcases xnh h with⟨c,e⟩|⟨_,h⟩;(subst e;subst c;subst H;subst hn;rfl))
 cases h
theorem xi1{w:Str}{n:Nat}(h:(Aq w).1≠3):qn (w++txt ((n:Nat):Int))=none:=by
 cases e:qn (w++txt ((n:Nat):Int))with
 |none=>rfl
 |some q=>exact absurd (congrArg Prod.fst (ypq e)) h
theorem yiw{d:Dsk}{l w:Str}{args:List Str}(h:∃s∈args,Bb s=false):Cl d l (w::args)=(d,Ew):=by
 rw[xwk,if_pos];obtain⟨s,hs,e⟩:=h;refine .inl ?_;rw[List.all_eq_false];exact⟨s,hs,by rw[e];simp⟩
theorem xp1{d:Dsk}{l w:Str}{args:List Str}(H:qn (w++txt args.length)=none)(h:l≠[]\/(od (w++txt args.length)=none/\Co w args.length=false)):Cl d l (w::args)=(d,Ew):=by
 rw[xwk,if_pos (.inr ⟨H,h⟩)]
section
variable{p:Str}{l:List Str}
end
def Po(o:Option Int):Value:=.tuple #[.J (o.getD 0),.bool o.isSome]
def sgn(b:Bool)(n:Nat):Int:=if b then -(n:Int)else n
theorem xyt{s:Str}{i:Nat}(h:i<s.length):s.drop i=s.getD i 0::s.drop (i+1):=by
 rw[List.drop_eq_getElem_cons h,Flow.Bn h]
theorem xen{s:Str}{j:Nat}(h:j<s.length):s.take (j+1)=s.take j++[s.getD j 0]:=by
 rw[List.take_add_one,List.getElem?_eq_getElem h,Flow.Bn h];rfl
theorem xfn(s:Str):(Ad s).length<=s.length+1:=by
 induction s with
 |nil=>exact Nat.le_refl _
 |cons c s ih=>
   rw[Ad];split
   ·rw[List.length_cons,List.length_cons];omega
   ·rw[List.length_cons,List.length_tail,List.length_cons];have:=List.length_pos_iff.2 (xoj s);omega
theorem yzk{L:List Str}{x:Str}(h:L≠[]):(scs L).set (L.length-1) [sv x]=scs (L.dropLast++[x]):=by
 obtain⟨M,y,rfl⟩:∃M y,L=M++[y]:=⟨L.dropLast,L.getLast h,(List.dropLast_concat_getLast h).symm⟩
 simp[scs]
def LnP(p':Ab)(x:Ln)(v:Value):Prop:=∃(a:Option Addr)(c:Nat),v=.agg #[sv x.w,.J ((x.k:Nat):Int),.slice a x.a.length c,sv x.l]/\x.a.length<=c/\B4 p' a x.a.length x.a
theorem ykp{c:Prop}[Decidable c]{a b:Nat×Nat}(M:a.1<=3/\a.2<=4)(H:b.1<=3/\b.2<=4):(if c then a else b).1<=3/\(if c then a else b).2<=4:=by split<;>assumption
theorem xyd(w:Str):(Aq w).1<=3/\(Aq w).2<=4:=by
 unfold Aq
 iterate 27 (refine ykp d_ ?_)
 decide
theorem xwn{α:Type}(q:List α)(d:α):q.headD d=q.getD 0 d:=by cases q<;>rfl
theorem xr1{α:Type}{c:Prop}[Decidable c]{a b q:α}(h:(if c then a else b)=q):(c/\a=q)\/(¬ c/\b=q):=by
 by_cases k:c
 ·rw[if_pos k]at h;exact .inl ⟨k,h⟩
 ·rw[if_neg k]at h;exact .inr ⟨k,h⟩
theorem ysn{w:Str}{n:Nat}(h:Aq w=(3,n)):∃q,qn (w++txt ((n:Nat):Int))=some q:=by
 unfold Aq at h
 iterate 27 (rcases xr1 h with⟨c,e⟩|⟨_,h⟩;(obtain⟨M,H⟩:=Prod.mk.inj e;subst c;subst H;first|(exact absurd M d_)|(rw[xwh d_];exact⟨_,rfl⟩)))
 cases h
theorem yfp{w:Str}{n:Nat}(h:Aq w=(1,n)):∃o,od (w++txt ((n:Nat):Int))=some o:=by
 unfold Aq at h
 iterate 27 (rcases xr1 h with⟨c,e⟩|⟨_,h⟩;(obtain⟨M,H⟩:=Prod.mk.inj e;subst c;subst H;first|(exact absurd M d_)|(rw[xwh d_];exact⟨_,rfl⟩)))
 cases h
theorem xt2{w:Str}{n:Nat}(h:Aq w=(2,n)):n=0/\(w=Ei\/w=Oo\/w=Gw):=by
 unfold Aq at h
 iterate 27 (rcases xr1 h with⟨c,e⟩|⟨_,h⟩;(obtain⟨M,H⟩:=Prod.mk.inj e;subst c;subst H;first|(exact absurd M d_)|(refine⟨rfl,?_⟩;first|exact .inl rfl|exact .inr (.inl rfl)|exact .inr (.inr rfl))))
 cases h
theorem xsn{w:Str}{n:Nat}(h:Co w n=true):n=0/\Aq w=(2,0):=by
 unfold Co at h;simp only[Bool.and_eq_true,Bool.or_eq_true,decide_eq_true_eq]at h;refine⟨h.1,?_⟩;rcases h.2 with(e|e)|e<;>(rw[e];decide)
theorem yzq{w:Str}{n:Nat}(h:(Aq w).1≠2):Co w n=false:=by
 rw[Bool.eq_false_iff];intro z;rw[(xsn z).2]at h;exact h rfl
noncomputable def Ht(d:Dsk)(o:Od)(vs:List Int):Dsk×Str:=match B7 o d.now.t vs with
 |none=>(d,wNo)
 |some t=>if B9 t=0 then({d with now:={d.now with t:=t}},wOk)else(d,wNo)
noncomputable def E5(d:Dsk)(x:Ln):Dsk×Str:=
 if x.k=0 then(d,Ew)else match Bo d.now x.a with
  |none=>(d,D4)
  |some vs=>if x.k=2 then((tryD d x.w).1,Ki (tryD d x.w).2)else match qn (x.w++txt x.a.length)with
    |some q=>Eu d q vs x.l
    |none=>match od (x.w++txt x.a.length)with
      |some o=>Ht d o vs
      |none=>(d,Ew)
theorem xpt(d:Dsk){l w:Str}{args:List Str}:Cl d l (w::args)=E5 d (Es l (w::args)):=by
 have hz:E5 d lnz=(d,Ew):=by unfold E5;exact if_pos (show lnz.k=0 from rfl)
 unfold Es;rw[List.headD_cons,List.tail_cons];by_cases c:(Aq w).1=0\/(w::args).length≠(Aq w).2+1\/(l≠[]/\(Aq w).1≠3)
 ·rw[if_pos c,hz];have nq:(Aq w).1≠3\/args.length≠(Aq w).2->qn (w++txt args.length)=none:=fun h=>by
   cases e:qn (w++txt args.length)with
   |none=>rfl
   |some q=>
     have k:=ypq e;rw[k]at h;rcases h with h|h<;>exact absurd rfl h
  have no:(Aq w).1≠1\/args.length≠(Aq w).2->od (w++txt args.length)=none:=fun h=>by
   cases e:od (w++txt args.length)with
   |none=>rfl
   |some q=>
     have k:=yzg e;rw[k]at h;rcases h with h|h<;>exact absurd rfl h
  have nt:(Aq w).1≠2\/args.length≠(Aq w).2->Co w args.length=false:=fun h=>by
   rw[Bool.eq_false_iff];intro z;obtain⟨z1,z2⟩:=xsn z;rw[z2]at h;rcases h with h|h
   ·exact h rfl
   ·exact h z1
  rcases c with c|c|c
  ·exact xp1 (nq (.inl om)) (.inr ⟨no (.inl om),nt (.inl om)⟩)
  ·have c:args.length≠(Aq w).2:=fun e=>c (by rw[List.length_cons,e]);exact xp1 (nq (.inr c)) (.inr ⟨no (.inr c),nt (.inr c)⟩)
  ·exact xp1 (nq (.inl c.2)) (.inl c.1)
 ·rw[if_neg c];by_cases hc:args.all Bb=true
  ·rw[if_pos hc];have hn:args.length=(Aq w).2:=by
    refine Nat.succ.inj (Classical.byContradiction fun z=>c (.inr (.inl fun e=>z ?_)));rw[List.length_cons]at e;omega
   have hl:l≠[]->(Aq w).1=3:=fun z=>Classical.byContradiction fun y=>c (.inr (.inr ⟨z,y⟩));have V:(Aq w).1≠0:=fun z=>c (.inl z);have a2:=(xyd w).1;have ek:Aq w=((Aq w).1,args.length):=by rw[hn]
   unfold E5;rw[if_neg V];have hs:(Aq w).1=1\/(Aq w).1=2\/(Aq w).1=3:=om;rcases hs with e|e|e
   ·obtain⟨o,O⟩:=yfp (ek.trans (by rw[e]));have H:qn (w++txt args.length)=none:=xi1 om;have M:l=[]:=Classical.byContradiction fun z=>by have:=hl z;omega
    subst M;cases hv:Bo d.now args with
    |none=>exact xhr hc (.inr ⟨rfl,by rw[O];simp⟩) hv
    |some vs=>
      rw[xtl H O (yzq om) hc hv];simp only[if_neg (show ¬ (Aq w).1=2 by omega),H,O];rfl
   ·obtain⟨h0,ht⟩:=xt2 (ek.trans (by rw[e]));have M:l=[]:=Classical.byContradiction fun z=>by have:=hl z;omega
    subst M;obtain rfl:args=[]:=List.length_eq_zero_iff.1 h0;have H:qn (w++txt ((0:Nat):Int))=none:=xi1 (n:=0) om;rw[xq4 H (by rcases ht with rfl|rfl|rfl<;>decide)];simp only[Bo,if_pos e]
   ·obtain⟨q,H⟩:=ysn (ek.trans (by rw[e]));cases hv:Bo d.now args with
    |none=>exact xhr hc (.inl (by rw[H];simp)) hv
    |some vs=>
      rw[xfc H hc hv];simp only[if_neg (show ¬ (Aq w).1=2 by omega),H]
  ·rw[if_neg hc,hz];refine yiw ?_;simp only[Bool.not_eq_true,List.all_eq_false]at hc;obtain⟨s,hs,e⟩:=hc;exact⟨s,hs,by simpa using e⟩
theorem xeb(d:Dsk)(x:Str):doD d x=E5 d (Bm x):=by
 have O:E5 d lnz=(d,Ew):=by unfold E5;exact if_pos (show lnz.k=0 from rfl)
 have M:=xoj x;unfold doD Bm;simp only;generalize Ad x=ps at*
 match ps,M with
 |w::args,_=>
   rw[List.headD_cons];by_cases hw:w=Er
   ·rw[if_pos hw];by_cases c:(w::args).length<3\/isLet ((w::args).getD 1 [])=false
    ·rw[if_pos c];have H:D7 (w::args)=false:=by
      unfold D7;rcases c with c|c
      ·rw[decide_eq_false om];rfl
      ·rw[c,Bool.and_false]
     rw[H,if_neg s_];unfold Es;rw[List.headD_cons,hw,if_pos (.inl d_),O]
    ·rw[if_neg c];simp only[not_or,Bool.not_eq_false]at c;have H:D7 (w::args)=true:=by
      unfold D7;rw[decide_eq_true om,List.headD_cons,decide_eq_true hw,c.2];rfl
     rw[if_pos H]
     match args,c with
     |[],c=>exact absurd c.1 s_
     |[_],c=>exact absurd c.1 s_
     |b::v::rest,_=>exact xpt d
   ·rw[if_neg hw];have H:D7 (w::args)=false:=by
     unfold D7;rw[List.headD_cons,decide_eq_false hw,Bool.and_false,Bool.false_and]
    rw[H,if_neg s_];exact xpt d
theorem xnn(l w:Str)(args:List Str):Es l (w::args)=lnz\/(Es l (w::args)=⟨w,(Aq w).1,args,l⟩/\(Aq w).1≠0/\args.length=(Aq w).2/\(l≠[]->(Aq w).1=3)/\args.all Bb=true):=by
 unfold Es;rw[List.headD_cons,List.tail_cons];by_cases c:(Aq w).1=0\/(w::args).length≠(Aq w).2+1\/(l≠[]/\(Aq w).1≠3)
 ·rw[if_pos c];exact .inl rfl
 ·rw[if_neg c];by_cases hc:args.all Bb=true
  ·rw[if_pos hc];refine .inr ⟨rfl,fun z=>c (.inl z),?_,fun z=>Classical.byContradiction fun y=>c (.inr (.inr ⟨z,y⟩)),hc⟩;refine Nat.succ.inj (Classical.byContradiction fun z=>c (.inr (.inl fun e=>z ?_)));rw[List.length_cons]at e;omega
  ·rw[if_neg hc];exact .inl rfl
theorem xec(x:Str):Bm x=lnz\/ ∃w args l,Bm x=⟨w,(Aq w).1,args,l⟩/\(Aq w).1≠0/\args.length=(Aq w).2/\(l≠[]->(Aq w).1=3/\isLet l=true)/\args.all Bb=true/\Ad x=if l=[]then w::args else Er::l::w::args:=by
 have M:=xoj x;unfold Bm;generalize Ad x=ps at*;by_cases H:D7 ps=true
 ·rw[if_pos H];unfold D7 at H;simp only[Bool.and_eq_true,decide_eq_true_eq]at H
  match ps,H with
  |[],H=>exact absurd H.1.1 s_
  |[_],H=>exact absurd H.1.1 s_
  |[_,_],H=>exact absurd H.1.1 s_
  |a::b::w::args,H=>
    have ha:a=Er:=H.1.2;have O:isLet b=true:=H.2;have V:b≠[]:=fun e=>by rw[e]at O;cases O
    rcases xnn b w args with h|⟨h1,h2,h3,h4,h5⟩
    ·exact .inl h
    ·exact .inr ⟨w,args,b,h1,h2,h3,fun z=>⟨h4 z,O⟩,h5,by rw[if_neg V,ha]⟩
 ·rw[if_neg H]
  match ps,M with
  |w::args,_=>
    rcases xnn [] w args with h|⟨h1,h2,h3,h4,h5⟩
    ·exact .inl h
    ·exact .inr ⟨w,args,[],h1,h2,h3,fun z=>absurd rfl z,h5,(if_pos rfl).symm⟩
theorem ykq(x:Str):(Bm x).a.length<=4:=by
 rcases xec x with e|⟨w,args,l,e,_,hn,_⟩
 ·rw[e];exact Nat.zero_le _
 ·rw[e];have:=(xyd w).2;show args.length<=4;omega
theorem xgn:∀{s w:Str},Ad s=[w]->s=w
 |[],w,h=>by rw[Ad]at h;exact(List.cons.inj h).1
 |c::s,w,h=>by
   rw[Ad]at h;split at h
   ·exact absurd (List.cons.inj h).2 (xoj s)
   ·obtain⟨O,M⟩:=List.cons.inj h;have H:=xoj s;cases e:Ad s with
    |nil=>exact absurd e H
    |cons a t=>
      rw[e]at O M;have V:t=[]:=M;subst V;rw[xgn e];exact O
theorem xu2{x:Str}(h:(Bm x).k=2):x=(Bm x).w/\(x=Ei\/x=Oo\/x=Gw)/\(Bm x).a=[]:=by
 rcases xec x with e|⟨w,args,l,e,_,h3,h4,_,h6⟩
 ·rw[e]at h;cases h
 ·rw[e]at h⊢;have M:(Aq w).1=2:=h;have H:l=[]:=Classical.byContradiction fun z=>by have:=(h4 z).1;omega
  obtain⟨O,hw⟩:=xt2 (w:=w) (n:=(Aq w).2) (by rw[<- M]);have a0:args=[]:=List.length_eq_zero_iff.1 om;subst H a0;rw[if_pos rfl]at h6;obtain rfl:=xgn h6;exact⟨rfl,hw,rfl⟩
theorem xu8{d:Dsk}{x:Str}(H:(Bm x).k≠2):(doD d x).1.Ci=d.Ci:=by
 rw[xeb];unfold E5;split
 ·rfl
 ·cases Bo d.now (Bm x).a with
  |none=>rfl
  |some vs=>
    simp only;cases qn ((Bm x).w++txt (Bm x).a.length)with
    |some q=>exact(xuw d q vs (Bm x).l).2
    |none=>
      cases od ((Bm x).w++txt (Bm x).a.length)with
      |none=>rfl
      |some o=>
        simp only;unfold Ht;cases B7 o d.now.t vs with
        |none=>rfl
        |some t=>simp only;split<;>rfl
theorem xcl(d:Dsk)(x:Str)(xs:List Str):Ds d (x::xs)=((Ds (doD d x).1 xs).1,(doD d x).2::(Ds (doD d x).1 xs).2):=by rw[Ds]
def Twin(d e:Dsk):Prop:=d.now.t=e.now.t/\d.Ci.map (·.t)=e.Ci.map (·.t)
def Eh(x:Str):Bool:=(Bm x).a.any isLet
theorem xyc{a b:Dt}:∀{xs:List Str},xs.any isLet=false->Bo a xs=Bo b xs
 |[],_=>rfl
 |s::ss,h=>by
   rw[List.any_cons,Bool.or_eq_false_iff]at h;rw[Bo,Bo,xjp (by rw[h.1];simp),xjp (by rw[h.1];simp),xyc h.2]
theorem xr4{α β:Type}(f:α->β)(l:List α):(l.map f).getLast?=l.getLast?.map f:=by rw[List.getLast?_map]
theorem yjk{d e:Dsk}(h:Twin d e)(q:Qn)(a:List Int)(l l':Str):(Eu d q a l).2=(Eu e q a l').2/\Twin (Eu d q a l).1 (Eu e q a l').1:=by
 have H:∀(d:Dsk)(l:Str),(Eu d q a l).2=if(Bs q d.now.t a).2=3 then Ml else if(Bs q d.now.t a).2≠0 then Gs else(Bs q d.now.t a).1.text:=fun d l=>by
  unfold Eu;split
  ·rfl
  ·split<;>rfl
 obtain⟨M,O⟩:=xuw d q a l;obtain⟨V,f2⟩:=xuw e q a l';refine⟨by rw[H,H,h.1],?_,?_⟩
 ·rw[M,V];exact h.1
 ·rw[O,f2];exact h.2
theorem xr2{d e:Dsk}(h:Twin d e)(w:Str):(tryD d w).2=(tryD e w).2/\Twin (tryD d w).1 (tryD e w).1:=by
 unfold tryD;by_cases c:w=Ei
 ·rw[if_pos c,if_pos c];refine⟨rfl,h.1,?_⟩;show(d.Ci++[d.now]).map (·.t)=(e.Ci++[e.now]).map (·.t);rw[List.map_append,List.map_append,h.2];show _++[d.now.t]=_++[e.now.t]
  rw[h.1]
 ·rw[if_neg c,if_neg c];have H:=congrArg List.getLast? h.2;rw[xr4,xr4]at H;have hlen:=congrArg List.length h.2;rw[List.length_map,List.length_map]at hlen;have ht:(d.Ci.take (d.Ci.length-1)).map (·.t)=(e.Ci.take (e.Ci.length-1)).map (·.t):=by rw[List.map_take,List.map_take,h.2,hlen]
  cases e1:d.Ci.getLast? with
  |none=>
    rw[e1]at H;cases O:e.Ci.getLast? with
    |none=>exact⟨rfl,h⟩
    |some y=>rw[O]at H;cases H
  |some x=>
    rw[e1]at H;cases O:e.Ci.getLast? with
    |none=>rw[O]at H;cases H
    |some y=>
      rw[O]at H;have V:x.t=y.t:=Option.some.inj H;simp only;by_cases M:w=Gw
      ·rw[if_pos M,if_pos M];exact⟨rfl,V,ht⟩
      ·rw[if_neg M,if_neg M];exact⟨rfl,h.1,ht⟩
theorem xk8{d e:Dsk}(h:Twin d e)(o:Od)(vs:List Int):(Ht d o vs).2=(Ht e o vs).2/\Twin (Ht d o vs).1 (Ht e o vs).1:=by
 unfold Ht;rw[h.1];cases B7 o e.now.t vs with
 |none=>exact⟨rfl,h⟩
 |some t=>
   simp only;split
   ·exact⟨rfl,rfl,h.2⟩
   ·exact⟨rfl,h⟩
theorem xl8{d e:Dsk}(h:Twin d e){w:Str}{k:Nat}{a a':List Str}{l l':Str}(H:a.length=a'.length)(hv:Bo d.now a=Bo e.now a'):(E5 d ⟨w,k,a,l⟩).2=(E5 e ⟨w,k,a',l'⟩).2/\Twin (E5 d ⟨w,k,a,l⟩).1 (E5 e ⟨w,k,a',l'⟩).1:=by
 unfold E5;simp only;rw[hv,H];split
 ·exact⟨rfl,h⟩
 ·cases Bo e.now a' with
  |none=>exact⟨rfl,h⟩
  |some vs=>
    simp only;split
    ·exact⟨congrArg Ki (xr2 h w).1,(xr2 h w).2⟩
    ·cases qn (w++txt a'.length)with
     |some q=>exact yjk h q vs l l'
     |none=>
       cases od (w++txt a'.length)with
       |some o=>exact xk8 h o vs
       |none=>exact⟨rfl,h⟩
theorem xs2:∀{xs:List Str}{d e:Dsk},Twin d e->(∀x∈xs,Eh x=false)->(Ds d xs).2=(Ds e xs).2/\Twin (Ds d xs).1 (Ds e xs).1
 |[],_,_,h,_=>⟨rfl,h⟩
 |x::xs,d,e,h,hx=>by
   have hs:=xl8 h (w:=(Bm x).w) (k:=(Bm x).k) (l:=(Bm x).l) (l':=(Bm x).l) rfl (xyc (a:=d.now) (b:=e.now) (hx x s_));have V:(doD d x).2=(doD e x).2:=by rw[xeb,xeb];exact hs.1
   have O:Twin (doD d x).1 (doD e x).1:=by rw[xeb,xeb];exact hs.2
   have H:=xs2 O fun y M=>hx y (List.mem_cons_of_mem _ M);rw[xcl,xcl];exact⟨by show _::_=_::_;rw[V,H.1],H.2⟩
open Go.X Go.Conc
def kcs(H:List (Str×Int)):List (List Value):=H.map fun k=>[sv k.1,.J k.2]
theorem yvx{H:List (Str×Int)}{i:Nat}(hi:i<H.length):(kcs H)[i]?=some [sv (H.getD i ([],0)).1,.J (H.getD i ([],0)).2]:=by
 rw[kcs,List.getElem?_map,List.getD_eq_getElem?_getD,List.getElem?_eq_getElem hi];rfl
theorem xjr(H:List (Str×Int)):(kcs H).length=H.length:=by simp[kcs]
def KOk(H:List (Str×Int)):Prop:=∀i,i<H.length-> -1000000<=(H.getD i ([],0)).2/\(H.getD i ([],0)).2<=1000000
theorem KOk.snoc{M:List (Str×Int)}(H:KOk M){s:Str}{x:Int}(O: -1000000<=x/\x<=1000000):KOk (M++[(s,x)]):=fun i hi=>by
 rw[List.length_append,List.length_singleton]at hi;rw[List.getD_eq_getElem?_getD];rcases Nat.lt_or_ge i M.length with z|z
 ·rw[List.getElem?_append_left z,<- List.getD_eq_getElem?_getD];exact H i z
 ·obtain rfl:i=M.length:=om;rw[List.getElem?_append_right (Nat.le_refl _)];simpa using O
theorem yqw(H:List (Str×Int))(s:Str)(x:Int):kcs H++[[sv s,.J x]]=kcs (H++[(s,x)]):=by simp[kcs]
def StP(p:Ab)(N:Nat)(e:List Value):Prop:=∃(A:TA)(t:Twn)(M:Option Addr)(H V:Nat)(O:List (Str×Int)),e=tcs A t++[.slice M H V]/\TwP p A t/\B9 t=0/\Sl p M H 2 (kcs O)/\KOk O/\H<=N
theorem StP.mono{p p':Ab}{N M:Nat}{e:List Value}(s:StP p N e)(H:PLe p p')(hN:N<=M):StP p' M e:=by
 obtain⟨A,t,ka,kn,O,V,e1,T,hv,S,hk,hn⟩:=s;exact⟨A,t,ka,kn,O,V,e1,T.mono H,hv,Sl.mono H S,hk,Nat.le_trans hn hN⟩
theorem StP.Nt{p:Ab}{N:Nat}{e:List Value}(s:StP p N e):∀u∈e,A7 u=true:=by
 obtain⟨A,t,O,V,M,ks,rfl,_⟩:=s;intro u H;simp only[tcs,List.cons_append,List.nil_append,List.mem_cons,List.not_mem_nil,or_false]at H;rcases H with rfl|rfl|rfl|rfl|rfl|rfl|rfl|rfl|rfl|rfl|rfl|rfl<;>rfl
def Mo(p:Ab)(N:Nat)(v:Value):Prop:=∃(A:TA)(t:Twn)(O:Option Addr)(M kc:Nat)(ks:List (Str×Int))(V:Option Addr)(H pc:Nat)(es:List (List Value)),
 v=.agg (tcs A t++[Value.slice O M kc,.slice V H pc]).toArray/\TwP p A t/\B9 t=0/\Sl p O M 2 (kcs ks)/\KOk ks/\M<=N/\Sl p V H 12 es/\H<=pc/\H<=N/\ ∀e∈es,StP p N e
theorem Mo.mono{p p':Ab}{N:Nat}{v:Value}(d:Mo p N v)(H:PLe p p'):Mo p' N v:=by
 obtain⟨A,t,ka,kn,V,ks,pa,pn,pc,es,e,T,hv,S,hk,M,P,h1,h2,O⟩:=d;exact⟨A,t,ka,kn,V,ks,pa,pn,pc,es,e,T.mono H,hv,Sl.mono H S,hk,M,Sl.mono H P,h1,h2,fun e he=>(O e he).mono H (Nat.le_refl _)⟩
end Go.X.Ms
namespace Go.Proofs.YtblcmdjhidhnjaaGreatDoor
open Go.Proofs.Tryz
open Go.X Go.X.Ms Go.Conc
theorem c16{md:Md}{h:Heap}{p:Ab}(M:Per p h)(s:Str):
 Aa prog md 16 #[sv s] h fun v O=>v=.bool (isLet s)/\Af h O:=by
 refine xdq M func16 fun _ _ _ K=>?_;refine xmk rfl rfl rfl sdt sdt (fun c=>⟨d_,by simp at c;omega⟩) ?_;refine ax ?_;refine xmk rfl rfl rfl sdu sdu (fun c=>⟨d_,by simp at c;omega⟩) ?_;refine ax ?_;exact K.r rfl rfl fun _ H=>⟨by
  show Value.bool _=_;congr 1;rw[Bool.eq_iff_iff,xwl];simp;omega,H.kept⟩
set_option maxHeartbeats 1600000 in
theorem c17{md:Md}{h:Heap}{p:Ab}(O:Per p h)(w:Str):
 Aa prog md 17 #[sv w] h fun v V=>v=.tuple #[.J (((Aq w).1:Nat):Int),.J (((Aq w).2:Nat):Int)]/\Af h V:=by
 refine xfz O func17 fun _ _ _ K=>?_;refine ax ?_
 repeat' (first
  |contradiction
  |(refine xxq func17 rfl rfl fun _ H=>K _ _ ⟨?_,H.kept⟩;(first|(subst_vars;rfl)|(simp only[Aq, *,if_false];rfl));done)
  |(refine xlq rfl (fun M=>?_) (fun M=>?_))
  |(refine ax ?_))
set_option maxHeartbeats 400000 in
theorem c18{md:Md}{h:Heap}{p:Ab}(hp:Per p h)(s:Str):
 Aa prog md 18 #[sv s] h fun v h'=>v=Po (C8 s)/\Af h h':=by
 refine xdq hp func18 fun _ _ _ K=>?_;refine xmk rfl rfl rfl sdt sdt (fun c=>⟨d_,by simp at c;omega⟩) ?_;refine ax ?_;refine xiz (fun l p_ LL=>∃(u:Str)(b:Bool),l=[(0,none,sv u),(4,none,.bool b)]/\p_=p/\LL=[]/\C8 s=(Hz b u).map (sgn b)) ?_ (fun k' nx=>?_);rotate_left
 ·refine xlq rfl (fun H=>?_) (fun H=>?_)
  ·refine ax ?_;refine xdc (j:=1) rfl rfl rfl sdt sdt (by show 1<=s.length;omega) ?_;refine ax ?_;refine xox (l':=[(0,none,sv s.tail),(4,none,.bool true)]) (nx _ _ _ ⟨_,_,rfl,rfl,rfl,?_⟩) ⟨by show some (none,sv (s.drop 1))=_;rw[List.drop_one],by
    show some (none,Value.bool (decide (0<((s.length:Nat):Int))&&decide (((s.getD 0 0).toNat:Int)=45)))=_;rw[decide_eq_true H.1,decide_eq_true (show((s.getD 0 0).toNat:Int)=45 from H.2)];rfl,trivial⟩
   have hc:s.headD 0=45:=by
    cases s with
    |nil=>exact absurd H.1 s_
    |cons c s=>exact UInt8.toNat_inj.1 (by have:((c.toNat:Nat):Int)=45:=H.2;show c.toNat=45;omega)
   unfold C8;rw[if_pos hc];rfl
  ·refine ax ?_;refine xox (l':=[(0,none,sv s),(4,none,.bool false)]) (nx _ _ _ ⟨_,_,rfl,rfl,rfl,?_⟩) ⟨rfl,by
    show some (none,Value.bool (decide (0<((s.length:Nat):Int))&&decide (((s.getD 0 0).toNat:Int)=45)))=_;have:(decide (0<((s.length:Nat):Int))&&decide (((s.getD 0 0).toNat:Int)=45))=false:=by
     rw[Bool.eq_false_iff];intro z;simp only[Bool.and_eq_true,decide_eq_true_eq]at z;exact H z
    rw[this],trivial⟩
   have hc:s.headD 0≠45:=by
    intro z;cases s with
    |nil=>cases z
    |cons c s=>
      have z:c=45:=z;subst z;exact H ⟨s_,rfl⟩
   unfold C8;rw[if_neg hc];rfl
 rintro _ p _ ⟨u,b,rfl,rfl,rfl,e⟩;refine ax ?_;refine xmk rfl rfl rfl sdu sdu (fun c=>⟨d_,by simp at c;omega⟩) ?_;refine cq (fun H=>?_) (fun H=>?_)
 ·refine ax ?_;exact K.r rfl rfl fun _ M=>⟨by
   have hN:Hz b u=none:=by
    unfold Hz;rw[if_pos];rcases H with(c|c)|⟨c1,c2⟩
    ·exact .inl om
    ·exact .inr (.inl om)
    ·refine .inr (.inr ⟨?_,c2.imp (fun z=>om) id⟩);cases u with
     |nil=>exact absurd c1 d_
     |cons c u=>exact(show c=48 from xx2 (by have:((c.toNat:Nat):Int)=48:=c1;omega))
   rw[e,hN];rfl,M.kept⟩
 have hN:Hz b u=Ev 0 u:=by
  unfold Hz;rw[if_neg];rintro(c|c|⟨c1,c2⟩)
  ·exact H (.inl (.inl om))
  ·exact H (.inl (.inr om))
  ·refine H (.inr ⟨?_,c2.imp (fun z=>om) id⟩);cases u with
   |nil=>exact absurd c1 d_
   |cons c u=>
     have:c=48:=c1;subst this;rfl
 have a4:u.length<=6:=by
  rcases Nat.lt_or_ge 6 u.length with z|z
  ·exact absurd (.inl (.inr om)) H
  ·exact z
 refine ax ?_;refine xsq (fun m_ l=>∃(j n:Nat),m_=u.length-j/\l=[(0,none,sv u),(4,none,.bool b),(5,none,.J ((n:Nat):Int)),(6,none,.J ((j:Nat):Int))]/\j<=u.length/\n<10^j/\Ev 0 u=Ev n (u.drop j)) ⟨0,0,rfl,rfl,Nat.zero_le _,d_,s_⟩ sb ?_;rintro _ _ IH ⟨j,n,rfl,rfl,hj,hn,hq⟩;have a3:10^j<=10^6:=Nat.pow_le_pow_right d_ om;have a2:(10:Nat)^6=1000000:=by decide
 refine cq (fun cd=>?_) (fun cd=>?_)
 ·have V:j<u.length:=om;refine ax ?_;refine xmk rfl rfl rfl sdt sdt ⟨om,om⟩ ?_;refine ax ?_;refine xmk rfl rfl rfl sdu sdu (fun _=>⟨om,om⟩) ?_;refine cq (fun O=>?_) (fun O=>?_)
  ·refine ax ?_;exact K.r rfl rfl fun _ M=>⟨by
    have hx:Ep (u.getD j 0)=false:=by
     rw[Bool.eq_false_iff];intro z;have z:=xaf.1 z;have e1:u.getD (((j:Nat):Int).toNat) 0=u.getD j 0:=rfl;rw[e1]at O;omega
    rw[e,hN,hq,xyt V,Ev,if_neg (by rw[hx];simp)];rfl,M.kept⟩
  have hx:Ep (u.getD j 0)=true:=by
   rw[xaf];have e1:u.getD (((j:Nat):Int).toNat) 0=u.getD j 0:=rfl;rw[e1]at O;omega
  have hd:=xaf.1 hx;have e1:u.getD (((j:Nat):Int).toNat) 0=u.getD j 0:=rfl;refine ax ?_;refine xmk rfl rfl rfl sdt sdt ⟨om,om⟩ ?_;rw[e1];refine ax ?_;refine xrv rfl rfl ⟨wr8 om,trivial⟩ ?_;refine ax ?_;refine xil (((u.getD j 0).toNat-48:Nat):Int) rfl (by rw[wrZ om];omega) ?_ (hs:=⟨_,underlying5⟩);refine ax ?_;refine xhq (IH _ om ⟨j+1,10*n+((u.getD j 0).toNat-48),rfl,rfl,om,by rw[Nat.pow_succ];omega,?_⟩);rw[hq,xyt V,Ev,if_pos hx]
 obtain rfl:j=u.length:=om;have hs:C8 s=some (sgn b n):=by rw[e,hN,hq,List.drop_length];rfl
 refine cq (fun O=>?_) (fun O=>?_)
 ·refine ax ?_;refine xrv rfl rfl ⟨by rw[wrZ om];omega,trivial⟩ ?_;refine ax ?_;exact K.r rfl rfl fun _ M=>⟨by rw[hs];subst O;rfl,M.kept⟩
 ·refine ax ?_;exact K.r rfl rfl fun _ M=>⟨by
   rw[hs,Bool.not_eq_true]at*;subst O;rfl,M.kept⟩
set_option maxHeartbeats 400000 in
theorem c15{md:Md}{h:Heap}{p:Ab}(hp:Per p h)(s:Str)(hs:s.length<=1000):
 Aa prog md 15 #[sv s] h fun v h'=>∃Y,Ac 9 1 v (scs (Ad s)) Y/\New h h' Y:=by
 refine xdq hp func15 fun _ _ _ K=>?_;refine xbz rfl fun v0 Y0 V=>?_;have V:Ac 9 1 v0 (scs (Ad (s.take 0))) Y0:=V;refine ax ?_;refine xmq (fun m_ l p_ L_=>∃(j:Nat)(v:Value)(Y:Pcs),m_=s.length-j/\l=[(0,none,sv s),(3,none,v),(4,none,.J ((j:Nat):Int))]/\p_=p/\L_=[Y]/\j<=s.length/\Ac 9 1 v (scs (Ad (s.take j))) Y) ⟨0,_,_,rfl,rfl,rfl,rfl,Nat.zero_le _,V⟩ sb ?_;clear V;rintro _ _ p _ IH ⟨j,v,Y,rfl,rfl,rfl,rfl,hj,o⟩;have a2:=xfn (s.take j);rw[List.length_take]at a2;refine cq (fun cd=>?_) (fun cd=>?_)
 ·have O:j<s.length:=om;have e1:s.getD (((j:Nat):Int).toNat) 0=s.getD j 0:=rfl;refine ax ?_;refine xmk rfl rfl rfl sdt sdt ⟨om,om⟩ ?_;rw[e1];refine cq (fun ce=>?_) (fun ce=>?_)
  ·have hc:s.getD j 0=32:=UInt8.toNat_inj.1 (by show _=32;omega);refine ax ?_;refine xbz rfl fun v3 Y3 o3=>?_;have o3:Ac 9 1 v3 (scs [[]]) Y3:=o3;refine xfv rfl rfl o o3 (by simp[scs,sv,A7]) (by rw[xdz];simp[scs];omega) fun v4 Y4 o4=>?_;refine ax ?_;exact xhq (IH _ _ _ om ⟨j+1,v4,Y4,rfl,rfl,rfl,rfl,om,o4.as (by rw[xen O,xzh,if_pos hc];simp[scs])⟩)
  ·have hc:s.getD j 0≠32:=fun z=>ce (by rw[z];rfl);obtain⟨a,c,rfl,-⟩:=o.val;rw[xdz]at o⊢;have M:=xoj (s.take j);have a3:=List.length_pos_iff.2 M;have hi:((((Ad (s.take j)).length:Nat):Int)-1).toNat=(Ad (s.take j)).length-1:=om;have H:(scs (Ad (s.take j)))[(Ad (s.take j)).length-1]?=some [sv ((Ad (s.take j)).getLastD [])]:=by
    rw[scs,List.getElem?_map,List.getElem?_eq_getElem om];have:(Ad (s.take j)).getLastD []=(Ad (s.take j))[(Ad (s.take j)).length-1]:=by
     rw[List.getLastD_eq_getLast?,List.getLast?_eq_getElem?,List.getElem?_eq_getElem om];rfl
    rw[this];rfl
   refine ax ?_;refine xqq [9] R11 ?_;refine ex ?_;refine xof rfl rfl rfl rfl sdt sdt o ⟨om,by rw[xdz];omega⟩ ?_;refine xev (j:=(((Ad (s.take j)).length:Int)-1).toNat) (q:=0) (e:=[sv ((Ad (s.take j)).getLastD [])]) (u:=sv ((Ad (s.take j)).getLastD [])) rfl rfl rfl sdt o rfl ?_ rfl ?_
   ·rw[hi];exact H
   refine ex ?_;refine xkk rfl rfl rfl rfl sdt sdt ⟨om,om⟩ ?_;rw[e1];refine xvk rfl rfl fun v5 Y5 o5=>?_;have o5:Ac 5 1 v5 (bcs [s.getD j 0]) Y5:=o5;refine yml (a:=[s.getD j 0]) rfl rfl o5 ?_;refine ex ?_;refine ax ?_;refine xmd rfl rfl (by
    have:=xmw (s:=s.take j) (x:=(Ad (s.take j)).getLastD []) (by
     rw[List.getLastD_eq_getLast?,List.getLast?_eq_some_getLast M];exact List.getLast_mem M)
    rw[List.length_take]at this;simp only[List.length_cons,List.length_nil];omega) ?_
   refine ax ?_;refine xcv rfl rfl o om (by rw[xdz];omega) ?_;refine xek (i:=(Ad (s.take j)).length-1) (j:=0) (e:=[sv ((Ad (s.take j)).getLastD [])]) (vs:=[sv ((Ad (s.take j)).getLastD []++[s.getD j 0])]) rfl rfl o ?_ rfl rfl rfl ?_ s_ fun Y6 o6=>?_
   ·rw[hi];rfl
   ·exact H
   refine ax ?_;exact xhq (IH _ _ _ om ⟨j+1,_,Y6,rfl,rfl,rfl,rfl,om,o6.as (by rw[xen O,xzh,if_neg hc];exact yzk M)⟩)
 obtain rfl:j=s.length:=om;rw[List.take_length]at o;refine ax ?_;exact K.r rfl rfl fun _ H_=>⟨Y,o,D6 H_⟩
theorem yip{p:Ab}:LnP p lnz (.agg #[sv [],.J 0,.slice none 0 0,sv []]):=⟨none,0,rfl,Nat.le_refl _,Sl.nil _ _ _⟩
set_option maxHeartbeats 800000 in
theorem c6(md:Md)(h:Heap)(p:Ab)(hp:Per p h)(s:Str)(hs:s.length<=900):
 Aa prog md 6 #[sv s] h (Ar p h fun v p'=>LnP p' (Bm s) v):=by
 refine xfz hp func6 fun _ _ _ K=>?_;refine lq fun b2=>?_;refine ax ?_;refine xdj rfl rfl (fun _ pe=>c15 pe s om) fun v0 Y0 o0=>?_;refine xpx o0 (m:=(Ad s).length) (xdz _) d_ fun p1 a c g1 e1 hc S=>?_;subst e1;have S:B4 p1 a (Ad s).length (Ad s):=S;have S1:Sl p1 a (Ad s).length 1 (scs (Ad s)):=S;have hR:Bm s=if D7 (Ad s)=true then Es ((Ad s).getD 1 []) ((Ad s).drop 2)else Es [] (Ad s):=rfl
 have O:0<(Ad s).length:=List.length_pos_iff.2 (xoj s);have a9:=xfn s;generalize Ad s=ps at*;rw[hR]at K;clear hR o0;refine ax ?_;refine xhb (u:=sv (ps.getD 0 [])) rfl rfl sdt (fun _=>B4.get S (i:=0) O) ?_;refine ax ?_;refine xn9 rfl rfl rfl sdu sdu (fun c=>⟨⟨om,by simp at c;omega⟩,Sl.ne S1 O⟩) ?_;refine xhb (u:=sv (ps.getD 1 [])) rfl rfl sdu (fun c=>B4.get S (i:=1) (by simp at c;omega)) ?_;refine ax ?_;refine xfx rfl rfl rfl sdu (fun _ _ pe=>c16 pe (ps.getD 1 [])) ?_;refine ax ?_
 refine xiz (fun l' p_ L_=>∃(a2:Option Addr)(c2:Nat)(H:List Str)(M:Str),l'=[(2,none,w_ b2 0),(3,none,.slice a2 H.length c2),(4,none,sv M)]/\p_=p1/\L_=[[(b2,.cells #[sv [],.J 0,.slice none 0 0,sv []] 38 (0,0))]]/\B4 p1 a2 H.length H/\0<H.length/\H.length<=c2/\H.length<=901/\
  (if D7 ps=true then Es (ps.getD 1 []) (ps.drop 2)else Es [] ps)=Es M H) ?_ fun k' nx=>?_
 rotate_left
 ·have ek:(decide (2<((ps.length:Nat):Int))&&decide (ps.getD 0 []=[107,101,101,112])&&isLet (ps.getD 1 []))=D7 ps:=by
   unfold D7;rw[xwn];congr 2;rw[Bool.eq_iff_iff];simp;omega
  refine xlq rfl (fun cc=>?_) (fun cc=>?_)
  ·have hk:D7 ps=true:=by rw[<- ek];simp;simpa using cc
   have h2:2<ps.length:=by unfold D7 at hk;simp at hk;exact hk.1.1
   refine ax ?_;refine xoz rfl (B4.get S (i:=1) om) ?_;refine ax ?_;refine xts (j:=2) rfl rfl ⟨om,hc⟩ ?_;refine ax ?_;have hd:(ps.drop 2).length=ps.length-2:=List.length_drop;refine xox (l':=[(2,none,w_ b2 0),(3,none,.slice (Ft a c 2 1) (ps.drop 2).length (c-2)),(4,none,sv (ps.getD 1 []))]) (nx _ _ _ ⟨Ft a c 2 1,c-2,ps.drop 2,ps.getD 1 [],rfl,rfl,rfl,?_,om,om,om,by rw[if_pos hk]⟩) ⟨rfl,by rw[hd];rfl,rfl,trivial⟩;have z:=xpf S 2 om hc;rw[<- hd]at z;exact z
  ·have hk:¬ D7 ps=true:=by rw[<- ek];simp;simpa using cc
   refine ax ?_;refine xox (l':=[(2,none,w_ b2 0),(3,none,.slice a ps.length c),(4,none,sv [])]) (nx _ _ _ ⟨a,c,ps,[],rfl,rfl,rfl,S,O,hc,om,by rw[if_neg hk]⟩) ⟨rfl,rfl,rfl,trivial⟩
 rintro _ p1 _ ⟨a2,c2,H,M,rfl,rfl,rfl,S2,a3,a8,b8,eq⟩;rw[eq]at K;have S3:Sl p1 a2 H.length 1 (scs H):=S2;clear eq S S1 a9 hc O;refine ax ?_;refine xoz rfl (B4.get S2 (i:=0) a3) ?_;refine ax ?_;refine xiq rfl rfl (fun _ pe=>c17 pe (H.getD 0 [])) ?_;have b3:=xyd (H.getD 0 [])
 have hQ:Es M H=if(Aq (H.getD 0 [])).1=0\/H.length≠(Aq (H.getD 0 [])).2+1\/(M≠[]/\(Aq (H.getD 0 [])).1≠3)then lnz
  else if H.tail.all Bb=true then⟨H.getD 0 [],(Aq (H.getD 0 [])).1,H.tail,M⟩else lnz:=by unfold Es;rw[xwn]
 rw[hQ]at K;generalize Aq (H.getD 0 [])=kk at*;obtain⟨b4,b5⟩:=kk;simp only at b3 K;refine cq (fun cc=>?_) (fun cc=>?_)
 ·rw[if_pos (by
   rcases cc with(c|c)|c
   ·exact .inl om
   ·exact .inr (.inl om)
   ·exact .inr (.inr ⟨c.1,by have:=c.2;omega⟩))]at K
  refine ax ?_;exact xgz func6 rfl (xtq rfl .nil) fun _ H_=>K _ _ (xwq H_ g1 (yip))
 rw[if_neg (by
  rintro(c|c|c)
  ·exact cc (.inl (.inl om))
  ·exact cc (.inl (.inr om))
  ·exact cc (.inr ⟨c.1,by have:=c.2;omega⟩))]at K
 refine ax ?_
 refine xmq (fun m_ l p_ L_=>∃(j:Nat),m_=H.length-j/\l=[(2,none,w_ b2 0),(3,none,.slice a2 H.length c2),(4,none,sv M),(5,none,.J ((b4:Nat):Int)),(7,none,.J ((j:Nat):Int))]/\p_=p1/\L_=[[(b2,.cells #[sv [],.J 0,.slice none 0 0,sv []] 38 (0,0))]]/\
  1<=j/\j<=H.length/\ ∀i,1<=i->i<j->Bb (H.getD i [])=true) ⟨1,rfl,rfl,rfl,rfl,Nat.le_refl _,a3,fun i _ _=>om⟩ sb ?_
 rintro _ _ p1 _ IH ⟨j,rfl,rfl,rfl,rfl,b6,hj,a7⟩;refine cq (fun cd=>?_) (fun cd=>?_)
 ·have a5:j<H.length:=om;refine ax ?_;refine xoz rfl (B4.get S2 a5) ?_;refine ax ?_;refine xiq rfl rfl (fun _ pe=>c18 pe (H.getD j [])) ?_;have eN:Po (C8 (H.getD j []))=.tuple #[.J ((C8 (H.getD j [])).getD 0),.bool (C8 (H.getD j [])).isSome]:=rfl;rw[eN];refine ax ?_;refine xhb (u:=sv (H.getD j [])) rfl rfl sdu (fun _=>B4.get S2 a5) ?_;refine ax ?_;refine xfx rfl rfl rfl sdu (fun _ _ pe=>c16 pe (H.getD j [])) ?_;refine cq (fun ce=>?_) (fun ce=>?_)
  ·have a4:Bb (H.getD j [])=false:=by
    unfold Bb;cases hN:(C8 (H.getD j [])).isSome<;>cases hL:isLet (H.getD j [])<;>simp_all
   have a6:H.getD j []∈H.tail:=by
    rw[List.mem_iff_getElem];refine⟨j-1,by rw[List.length_tail];omega,?_⟩;rw[List.getElem_tail,List.getD_eq_getElem?_getD,List.getElem?_eq_getElem a5,Option.getD_some];congr 1;omega
   rw[if_neg (by
    intro V;have:=List.all_eq_true.1 V _ a6;rw[a4]at this;cases this)]at K
   refine ax ?_;exact xgz func6 rfl (xtq rfl .nil) fun _ H_=>K _ _ (xwq H_ g1 (yip))
  refine ax ?_;have a4:Bb (H.getD j [])=true:=by
   unfold Bb;cases hN:(C8 (H.getD j [])).isSome<;>cases hL:isLet (H.getD j [])<;>simp_all
  exact xhq (IH _ _ _ om ⟨j+1,rfl,rfl,rfl,rfl,om,om,fun i hi b7=>by
   rcases Nat.lt_or_ge i j with h|h
   ·exact a7 i hi h
   ·have:i=j:=om;rw[this];exact a4⟩)
 have b0:j=H.length:=om;subst b0;have V:H.tail.all Bb=true:=by
  rw[List.all_eq_true];intro x hx;obtain⟨i,hi,rfl⟩:=List.mem_iff_getElem.1 hx;rw[List.length_tail]at hi;have:=a7 (i+1) om om;rw[List.getD_eq_getElem?_getD,List.getElem?_eq_getElem om,Option.getD_some]at this;rw[List.getElem_tail];exact this
 rw[if_pos V]at K;refine ax ?_;have ht:H.tail.length=H.length-1:=List.length_tail;have z:=xpf S2 1 om a8;rw[List.drop_one,<- ht]at z;refine xqq [] R7 ?_;refine ex ?_;refine xgj rfl rfl (B4.get S2 (i:=0) a3) ?_;refine ex ?_;refine xwg (j:=1) rfl rfl rfl ⟨om,a8⟩ ?_;refine ex ?_;refine ax ?_;exact xgz func6 rfl (xtq rfl .nil) fun _ H_=>K _ _ (xwq H_ g1 ⟨Ft a2 c2 1 1,c2-1,by rw[ht];rfl,by rw[ht];omega,z⟩)
open Go.X.Flow (ics)
theorem c7(md:Md)(h:Heap)(p:Ab)(hp:Per p h)(s:Str)(hs:s.length<=900):
 Aa prog md 7 #[sv s] h fun v h'=>v=.bool (Eh s)/\Af h h':=by
 refine xdq hp func7 fun _ _ _ K=>?_;unfold Eh at K;refine ax ?_;refine xvx rfl rfl (fun h V=>c6 _ h _ V s hs) ?_;rintro _ p1 g1 ⟨a,c,rfl,hc,S⟩;have h4:=ykq s;generalize Bm s=x at*;have S1:Sl p1 a x.a.length 1 (scs x.a):=S;refine ax ?_;refine xsq (fun m l'=>∃(j:Nat),m=x.a.length-j/\l'=[(3,none,.slice a x.a.length c),(4,none,.J ((j:Nat):Int))]/\j<=x.a.length/\ ∀i,i<j->isLet (x.a.getD i [])=false) ⟨0,rfl,rfl,Nat.zero_le _,fun i hi=>absurd hi (Nat.not_lt_zero _)⟩ sb ?_;rintro _ _ IH ⟨j,rfl,rfl,hj,hl⟩;refine cq (fun cd=>?_) (fun cd=>?_)
 ·have M:j<x.a.length:=om;refine ax ?_;refine xoz rfl (B4.get S M) ?_;refine ax ?_;refine xiq rfl rfl (fun _ V=>c16 V (x.a.getD j [])) ?_;refine cq (fun O=>?_) (fun O=>?_)
  ·refine ax ?_;exact K.r rfl rfl fun _ H=>⟨congrArg Value.bool (List.any_eq_true.2 ⟨x.a.getD j [],by rw[Flow.Bn M];exact List.getElem_mem _,O⟩).symm,H.kept⟩
  refine ax ?_;exact xhq (IH _ om ⟨j+1,rfl,rfl,om,fun i hi=>by
   by_cases z:i=j
   ·rw[z];simpa using O
   ·exact hl i om⟩)
 refine ax ?_;exact K.r rfl rfl fun _ H=>⟨congrArg Value.bool (by
  refine(List.any_eq_false.2 fun s hs=>?_).symm;obtain⟨i,hi,rfl⟩:=List.mem_iff_getElem.1 hs;have:=hl i om;rw[Flow.Bn hi]at this;rw[this];simp),H.kept⟩
theorem Rl{md:Md}{h:Heap}{p:Ab}(hp:Per p h){a:Option Addr}(n c:Nat)(O:List (Str×Int))(S:Sl p a n 2 (kcs O))(hn:n<=1000)(hk:KOk O)(s:Str):
 Aa prog md 135 #[.slice a n c,sv s] h fun v h'=>(∃(x:Int)(q:Bool),v=.tuple #[.J x,.bool q]/\ -1000000<=x/\x<=1000000)/\Af h h':=by
 have hl:O.length=n:=by rw[<- xjr];exact S.len
 refine xdq hp func135 fun _ _ _ K=>?_;refine xsq (fun m l'=>∃(j:Nat),m=n-j/\l'=[(0,none,.slice a n c),(1,none,sv s),(6,none,.J ((j:Nat):Int))]/\j<=n) ⟨0,rfl,rfl,Nat.zero_le _⟩ sb ?_;rintro _ _ IH ⟨j,rfl,rfl,hj⟩;refine cq (fun cd=>?_) (fun cd=>?_)
 ·have a2:j<n:=om;have hx:=hk j om;have V:=Sl.get S j _ (yvx om) 0 _ rfl;have M:=Sl.get S j _ (yvx om) 1 _ rfl;refine ax ?_;refine xoz rfl V ?_;refine cq (fun ce=>?_) (fun ce=>?_)
  ·refine ax ?_;refine xoz rfl M ?_;refine ax ?_;exact K.r rfl rfl fun _ H=>⟨⟨_,true,rfl,hx⟩,H.kept⟩
  refine ax ?_;exact xhq (IH _ om ⟨j+1,rfl,rfl,om⟩)
 refine ax ?_;exact K.r rfl rfl fun _ H=>⟨⟨0,false,rfl,d_,d_⟩,H.kept⟩
theorem Wp{md:Md}{h:Heap}{p:Ab}(hp:Per p h){a:Option Addr}(n c:Nat)(l:List Int)(I:As p a n l)(hn:n<=6)(V:∀i,i<n-> -1000000<=l.getD i 0/\l.getD i 0<=1000000):
 Aa prog md 150 #[.slice a n c] h fun v h'=>(∃s:Str,v=sv s)/\Af h h':=by
 have tl:∀i,i<n->(txt (l.getD i 0)).length<=20:=fun i hi=>xnv (by have:=V i hi;unfold i64;omega);refine xdq hp func150 fun _ _ _ K=>?_;refine cq (fun cc=>?_) (fun cc=>?_)
 ·refine ax ?_;exact K.r rfl rfl fun _ H=>⟨⟨_,rfl⟩,H.kept⟩
 have M:0<n:=om;refine ax ?_;refine xiq rfl rfl (fun _ pe=>Oa pe _ ⟨Int.le_trans d_ (V 0 M).1,Int.le_trans (V 0 M).2 d_⟩) ?_;refine ax ?_;refine xsq (fun m l'=>∃(j:Nat)(s:Str),m=n-j/\l'=[(0,none,.slice a n c),(3,none,sv s),(4,none,.J ((j:Nat):Int))]/\j<=n/\s.length<=21*j) ⟨1,_,rfl,rfl,M,Nat.le_trans (tl 0 M) d_⟩ sb ?_;rintro _ _ IH ⟨j,s,rfl,rfl,hj,hs⟩;refine cq (fun cd=>?_) (fun cd=>?_)
 ·have O:j<n:=om;have hx:=V j O;have tx:=tl j O;refine ax ?_;refine xiq rfl rfl (fun _ pe=>Oa pe _ ⟨om,om⟩) ?_;refine xmd (a:=[32]) rfl rfl (by simp only[List.length_cons,List.length_nil];omega) ?_;refine xmd rfl rfl (by simp only[List.length_append,List.length_cons,List.length_nil];omega) ?_;refine ax ?_;exact xhq (IH _ om ⟨j+1,s++([32]++txt (l.getD j 0)),rfl,rfl,om,by simp only[List.length_append,List.length_cons,List.length_nil];omega⟩)
 refine ax ?_;exact K.r rfl rfl fun _ H=>⟨⟨s,rfl⟩,H.kept⟩
theorem c61{md:Md}{h:Heap}{p:Ab}(hp:Per p h){a:Option Addr}(n c:Nat)(V:List (Str×Int))(S:Sl p a n 2 (kcs V))(hn:n<=1000)(hk:KOk V)(s:Str)(x:Int)(hx: -1000000<=x/\x<=1000000):
 Aa prog md 61 #[.slice a n c,sv s,.J x] h (Ar p h fun v p'=>∃a m c M,v=.slice a m c/\m<=n+1/\Sl p' a m 2 (kcs M)/\KOk M):=by
 have hl:V.length=n:=by rw[<- xjr];exact S.len
 refine xdq hp func61 fun _ _ _ K=>?_;refine ax ?_;refine xbz rfl fun v1 Y1 o1=>?_;have o1:Ac 175 2 v1 (kcs [(s,x)]) Y1:=o1;refine ax ?_;refine xmq (fun m_ l_ p_ L_=>∃(j:Nat)(v:Value)(Y:Pcs)(M:List (Str×Int)),m_=n-j/\l_=[(0,none,.slice a n c),(1,none,sv s),(7,none,v),(8,none,.J ((j:Nat):Int))]/\p_=p/\L_=[Y]/\j<=n/\Ac 175 2 v (kcs M) Y/\KOk M/\M.length<=j+1) ⟨0,v1,Y1,_,rfl,rfl,rfl,rfl,Nat.zero_le _,o1,fun i hi=>by
  obtain rfl:i=0:=by simpa using hi
  exact hx,Nat.le_refl _⟩ sb ?_
 clear o1;rintro _ _ p _ IH ⟨j,v,Y,M,rfl,rfl,rfl,rfl,hj,o,O,hm⟩;refine cq (fun cd=>?_) (fun cd=>?_)
 ·have a5:j<n:=om;have a3:=hk j om;have hc:=Sl.get S j _ (yvx om);refine ax ?_;refine xoz rfl (hc 0 _ rfl) ?_;refine cq (fun ce=>?_) (fun ce=>?_)
  ·refine ax ?_;refine xfk rfl hc ?_;refine xbz rfl fun v2 Y2 o2=>?_;have o2:Ac 175 2 v2 [[sv (V.getD j ([],0)).1,.J (V.getD j ([],0)).2]] Y2:=o2;refine xfv rfl rfl o o2 (by simp[A7,sv]) (by rw[xjr];simp;omega) fun v3 Y3 o3=>?_;rw[yqw]at o3;refine ax ?_;exact xhq (IH _ _ _ om ⟨j+1,v3,Y3,_,rfl,rfl,rfl,rfl,om,o3,O.snoc a3,by simp;omega⟩)
  refine ax ?_;exact xhq (IH _ _ _ om ⟨j+1,v,Y,M,rfl,rfl,rfl,rfl,om,o,O,om⟩)
 refine ax ?_;refine xoq o (m:=M.length) (xjr _) d_ fun p2 a2 c2 g2 e2 a4 S2=>?_;subst e2;refine ax ?_;exact K.r rfl rfl fun _ H=>xwq H g2 ⟨a2,_,c2,M,rfl,om,S2,O⟩
open Go.X.Flow (ics HsL)
theorem c59{md:Md}{h:Heap}{p:Ab}(hp:Per p h){a:Option Addr}(n c:Nat)(ks:List (Str×Int))(S:Sl p a n 2 (kcs ks))(hn:n<=1000)(hk:KOk ks){b:Option Addr}(m cb:Nat)(M:List Str)(A:B4 p b m M)(hm:m<=100):
 Aa prog md 59 #[.slice a n c,.slice b m cb] h (Ar p h fun v p'=>∃a' n' c' xs q,v=.tuple #[.slice a' n' c',.bool q]/\As p' a' n' xs/\(q=true->n'=m)):=by
 refine xdq hp func59 fun _ _ _ K=>?_;refine ax ?_;refine xzj 3 1 fun o0=>?_;refine xmq (fun m_ l_ p_ L_=>∃(j:Nat)(v:Value)(Y:Pcs)(xs:List Int),m_=m-j/\l_=[(0,none,.slice a n c),(1,none,.slice b m cb),(6,none,v),(7,none,.J ((j:Nat):Int))]/\p_=p/\L_=[Y]/\j<=m/\Ac 3 1 v (ics xs) Y/\xs.length=j) ⟨0,_,_,[],rfl,rfl,rfl,rfl,Nat.zero_le _,o0,rfl⟩ sb ?_;clear o0;rintro _ _ p _ IH ⟨j,v,Y,xs,rfl,rfl,rfl,rfl,hj,o,hl⟩;refine cq (fun cd=>?_) (fun cd=>?_)
 ·have O:j<m:=om;refine ax ?_;refine xoz rfl (B4.get A O) ?_;refine ax ?_;refine xiq rfl rfl (fun _ pe=>c18 pe (M.getD j [])) ?_;rw[show Po (C8 (M.getD j []))=.tuple #[.J ((C8 (M.getD j [])).getD 0),.bool (C8 (M.getD j [])).isSome] from rfl];refine ax ?_;refine xiz (fun l' p_ L_=>∃(x:Int)(q:Bool),l'=[(0,none,.slice a n c),(1,none,.slice b m cb),(6,none,v),(7,none,.J ((j:Nat):Int)),(8,none,.J x),(9,none,.bool q)]/\p_=p/\L_=[Y]) ?_ fun k' nx=>?_;rotate_left
  ·refine xlq rfl (fun _=>?_) (fun _=>?_)
   ·refine ax ?_;refine xoz rfl (B4.get A O) ?_;refine ax ?_;refine xrz rfl rfl (fun h pe=>Rl pe n c ks S hn hk (M.getD j [])) ?_;rintro _ ⟨x,q,rfl,_,_⟩;refine ax ?_;exact xox (nx _ _ _ ⟨x,q,rfl,rfl,rfl⟩) ⟨rfl,rfl,rfl,rfl,rfl,rfl,trivial⟩
   ·refine ax ?_;exact xox (nx _ _ _ ⟨_,_,rfl,rfl,rfl⟩) ⟨rfl,rfl,rfl,rfl,rfl,rfl,trivial⟩
  rintro _ p _ ⟨x,q,rfl,rfl,rfl⟩;refine cq (fun ce=>?_) (fun ce=>?_)
  ·refine ax ?_;exact K.r rfl rfl fun _ H=>xwq H (.refl _ _ _) ⟨none,0,0,[],false,rfl,Sl.nil _ _ _,fun z=>by cases z⟩
  refine ax ?_;refine xbz rfl fun v2 Y2 V=>?_;have V:Ac 3 1 v2 (ics [x]) Y2:=V;refine xfv rfl rfl o V (by simp[ics,A7]) (by simp[ics];omega) fun v3 Y3 o3=>?_;refine ax ?_;exact xhq (IH _ _ _ om ⟨j+1,v3,Y3,xs++[x],rfl,rfl,rfl,rfl,om,o3.as (by simp[ics]),by simp;omega⟩)
 obtain rfl:j=m:=om;refine ax ?_;refine xoq o (m:=j) (by rw[xvq];exact hl) d_ fun p2 a2 c2 g2 e2 a3 S2=>?_;subst e2;refine ax ?_;exact K.r rfl rfl fun _ H=>xwq H g2 ⟨a2,_,c2,xs,true,rfl,S2,fun _=>rfl⟩
theorem ynp{n:Nat}{l:List Int}(h:HsL n l)(hn:n<=6):∀i,i<l.length-> -1000000<=l.getD i 0/\l.getD i 0<=1000000:=fun i hi=>by have:=h i hi;omega
set_option maxHeartbeats 800000 in
theorem c60{md:Md}{h:Heap}{p:Ab}(hp:Per p h)(A:TA)(t:Twn)(T:TwP p A t)(hv:B9 t=0)(w:Str){a:Option Addr}(n c:Nat)(xs:List Int)(I:As p a n xs)(hw:Aq w=(3,n)):
 Aa prog md 60 #[twV A t,sv w,.slice a n c] h fun v h'=>(∃(s:Str)(x:Int)(q:Bool),v=.tuple #[sv s,.J x,.bool q]/\ -1000000<=x/\x<=1000000)/\Af h h':=by
 obtain⟨q1,q2,q3⟩:=xhj.1 hv;have ok:t.s.ok:=ysj.1 q1;obtain⟨hm,V⟩:=Flow.Mk q2;have O:Cist.Ok t.y.size t.y.start t.y.days:=Cist.Bu.1 q3;have h6:=V.nh;have I1:Sl p a n 1 (ics xs):=I;refine xdq hp func60 fun _ _ _ K=>?_;refine xgq rfl fun b3=>?_;refine lq fun a3=>?_;refine ax ?_
 refine xiz (fun l' p_ L_=>∃(x e:Int)(b:Option Addr)(m cb:Nat)(ys:List Int)(u v:Int),l'=[(1,none,sv w),(7,none,.J x),(9,none,.slice b m cb),(10,none,w_ a3 0),(11,none,.J e)]/\PG h.size [] p p_/\
  L_=[[(a3,.cells #[.J u,.J v] 96 (0,0))],[(b3,.cells (tcs A t).toArray 33 (0,0))]]/\As p_ b m ys/\m<=6/\(∀i,i<m-> -1000000<=ys.getD i 0/\ys.getD i 0<=1000000)/\(-1000000<=x/\x<=1000000)/\(-1000000<=u/\u<=1000000)/\ -1000000<=v/\v<=1000000) ?_ fun k' nx=>?_
 rotate_left
 ·have nm:=fun(x e:Int)(h1: -1000000<=x)(h2:x<=1000000)=>nx _ _ _ ⟨x,e,none,0,0,[],0,0,rfl,.refl _ _ _,rfl,Sl.nil _ _ _,Nat.zero_le _,fun i hi=>absurd hi (Nat.not_lt_zero _),⟨h1,h2⟩,d_,d_⟩;have sp:=fun(u v e:Int)(h1: -1000000<=u/\u<=1000000)(h2: -1000000<=v/\v<=1000000)=>nx _ _ _ ⟨0,e,none,0,0,[],u,v,rfl,.refl _ _ _,rfl,Sl.nil _ _ _,Nat.zero_le _,fun i hi=>absurd hi (Nat.not_lt_zero _),d_,h1,h2⟩;have one:∀{u:Str},w=u->Aq u=(3,1)->0<n:=fun e1 e2=>by rw[e1,e2]at hw;have:=congrArg Prod.snd hw;simp at this;omega
  refine xlq rfl (fun cw=>?_) (fun _=>?_)
  ·refine ax ?_;refine xrz rfl rfl (fun h M=>Sk M t.s T.s ok) ?_;rintro _ ⟨x,e,rfl,h1,h2⟩;refine ax ?_;exact xox (nm x e om om) ⟨rfl,rfl,rfl,rfl,rfl,trivial⟩
  refine cq (fun cw=>?_) (fun _=>?_)
  ·refine ax ?_;refine xrz rfl rfl (fun h M=>O4 M t.s T.s ok) ?_;rintro _ ⟨x,e,rfl,h1,h2⟩;refine ax ?_;exact xox (nm x e om om) ⟨rfl,rfl,rfl,rfl,rfl,trivial⟩
  refine cq (fun cw=>?_) (fun _=>?_)
  ·have hn:0<n:=one cw d_;refine ax ?_;refine xqq [5] R10 ?_;refine ex ?_;refine xkm rfl rfl rfl (fun h M=>S0 M t.s T.s ok (xs.getD 0 0)) ?_;rintro _ ⟨x,e,rfl,h1,h2⟩;refine ex ?_;refine ax ?_;exact xik (xox (nm x e om om) ⟨rfl,rfl,rfl,rfl,rfl,trivial⟩) fun _ s=>s
  refine cq (fun cw=>?_) (fun _=>?_)
  ·have hn:0<n:=one cw d_;refine ax ?_;refine xqq [5] R10 ?_;refine ex ?_;refine xkm rfl rfl rfl (fun h M=>Rx M t.s T.s ok (xs.getD 0 0)) ?_;rintro _ ⟨x,e,rfl,h1,h2⟩;refine ex ?_;refine ax ?_;exact xik (xox (nm x e om om) ⟨rfl,rfl,rfl,rfl,rfl,trivial⟩) fun _ s=>s
  refine cq (fun cw=>?_) (fun _=>?_)
  ·refine ax ?_;refine xrz rfl rfl (fun h M=>Uu t.b V hm M T.b) ?_;rintro _ ⟨x,e,rfl,h1,h2⟩;refine ax ?_;exact xox (nm x e om om) ⟨rfl,rfl,rfl,rfl,rfl,trivial⟩
  refine cq (fun cw=>?_) (fun _=>?_)
  ·have hn:0<n:=one cw d_;refine ax ?_;refine xqq [5] R10 ?_;refine ex ?_;refine xkm rfl rfl rfl (fun h M=>V3 t.b V hm M T.b (xs.getD 0 0)) ?_;rintro _ ⟨x,e,rfl,h1,h2⟩;refine ex ?_;refine ax ?_;exact xik (xox (nm x e om om) ⟨rfl,rfl,rfl,rfl,rfl,trivial⟩) fun _ s=>s
  refine cq (fun cw=>?_) (fun _=>?_)
  ·refine ax ?_;refine xrz rfl rfl (fun h M=>Vr M t.y.days T.d O) ?_;rintro _ ⟨x,e,rfl,h1,h2⟩;refine ax ?_;exact xox (nm x e om om) ⟨rfl,rfl,rfl,rfl,rfl,trivial⟩
  refine cq (fun cw=>?_) (fun _=>?_)
  ·refine ax ?_;refine xrz rfl rfl (fun h M=>Sx M t.y.days T.d O) ?_;rintro _ ⟨x,e,rfl,h1,h2⟩;refine ax ?_;exact xox (nm x e om om) ⟨rfl,rfl,rfl,rfl,rfl,trivial⟩
  refine cq (fun cw=>?_) (fun _=>?_)
  ·refine ax ?_;refine xrz rfl rfl (fun h M=>V6 M t.y.days T.d O) ?_;rintro _ ⟨x,e,rfl,h1,h2⟩;refine ax ?_;exact xox (nm x e om om) ⟨rfl,rfl,rfl,rfl,rfl,trivial⟩
  refine cq (fun cw=>?_) (fun _=>?_)
  ·have hn:0<n:=one cw d_;refine ax ?_;refine xqq [5] R10 ?_;refine ex ?_;refine xkm rfl rfl rfl (fun h M=>Sq M t.y.days T.d O (xs.getD 0 0)) ?_;rintro _ ⟨x,e,rfl,h1,h2⟩;refine ex ?_;refine ax ?_;exact xik (xox (nm x e om om) ⟨rfl,rfl,rfl,rfl,rfl,trivial⟩) fun _ s=>s
  refine cq (fun cw=>?_) (fun _=>?_)
  ·refine ax ?_;refine xvx rfl rfl (fun h M=>Vi t.b V hm M T.b) ?_;rintro _ p2 g2 ⟨a2,c2,ys,rfl,I2,hb⟩;refine ax ?_;exact xox (nx _ _ _ ⟨0,0,a2,_,c2,ys,0,0,rfl,g2,rfl,I2,h6,fun i hi=>by have:=hb (ys.getD i 0) (by have:=I2.len;rw[Flow.Bn om];exact List.getElem_mem _);omega,d_,d_,d_⟩) ⟨rfl,rfl,rfl,rfl,rfl,trivial⟩
  refine cq (fun cw=>?_) (fun _=>?_)
  ·refine ax ?_;refine xvx rfl rfl (fun h M=>Rv t.b V hm M T.b) ?_;rintro _ p2 g2 ⟨a2,c2,e,ys,rfl,I2,a5,hb⟩;refine ax ?_;exact xox (nx _ _ _ ⟨0,e,a2,_,c2,ys,0,0,rfl,g2,rfl,I2,a5,ynp hb h6,d_,d_,d_⟩) ⟨rfl,rfl,rfl,rfl,rfl,trivial⟩
  refine cq (fun cw=>?_) (fun _=>?_)
  ·have hn:0<n:=one cw d_;refine ax ?_;refine xuv [5,9] R10 a3 ?_;refine ex ?_;refine xkm rfl rfl rfl (fun h M=>Tl t.b V hm M T.b (xs.getD 0 0)) ?_;rintro _ ⟨x,y,e,rfl,h1,h2⟩;refine ex ?_;refine ax ?_;exact xik (xox (sp x y e om om) ⟨rfl,rfl,rfl,rfl,rfl,trivial⟩) fun _ s=>s.perm (List.Perm.swap _ _ _)
  refine cq (fun cw=>?_) (fun _=>?_)
  ·have hn:0<n:=one cw d_;refine ax ?_;refine xuv [5,9] R10 a3 ?_;refine ex ?_;refine xkm rfl rfl rfl (fun h M=>Wk M t.y.days T.d O (xs.getD 0 0)) ?_;rintro _ ⟨x,y,e,rfl,h1,h2⟩;refine ex ?_;refine ax ?_;exact xik (xox (sp x y e om om) ⟨rfl,rfl,rfl,rfl,rfl,trivial⟩) fun _ s=>s.perm (List.Perm.swap _ _ _)
  refine ax ?_;exact xox (nm 0 0 d_ d_) ⟨rfl,rfl,rfl,rfl,rfl,trivial⟩
 rintro _ p1 _ ⟨x,e,b,m,cb,ys,u,v,rfl,g1,rfl,I2,a4,hy,hx,hu,a6⟩;refine cq (fun _=>?_) (fun _=>?_)
 ·refine ax ?_;exact K.r rfl rfl fun _ H=>⟨⟨_,0,false,rfl,d_,d_⟩,H.kept⟩
 refine cq (fun _=>?_) (fun _=>?_)
 ·refine ax ?_;exact K.r rfl rfl fun _ H=>⟨⟨_,0,false,rfl,d_,d_⟩,H.kept⟩
 refine cq (fun _=>?_) (fun _=>?_)
 ·refine ax ?_;refine xrz rfl rfl (fun h M=>Wp M m cb ys I2 a4 hy) ?_;rintro _ ⟨s,rfl⟩;refine ax ?_;exact K.r rfl rfl fun _ H=>⟨⟨s,0,false,rfl,d_,d_⟩,H.kept⟩
 refine cq (fun _=>?_) (fun _=>?_)
 ·have lu:=xnv (n:=u) ⟨om,om⟩;have lv:=xnv (n:=v) ⟨om,om⟩;refine ax ?_;refine xqq [] R7 ?_;refine ex ?_;refine xvz rfl rfl rfl (fun _ M=>Oa M u ⟨om,om⟩) ?_;refine ex ?_;refine ysd rfl rfl rfl (by simp only[List.length_cons,List.length_nil];omega) ?_;refine ex ?_;refine xvz rfl rfl rfl (fun _ M=>Oa M v ⟨om,om⟩) ?_;refine ex ?_;refine xmd rfl rfl (by simp only[List.length_append,List.length_cons,List.length_nil];omega) ?_;refine ax ?_;exact K.r rfl rfl fun _ H=>⟨⟨_,0,false,rfl,d_,d_⟩,H.kept⟩
 refine ax ?_;refine xiq rfl rfl (fun _ M=>Oa M x ⟨om,om⟩) ?_;refine ax ?_;exact K.r rfl rfl fun _ H=>⟨⟨_,x,true,rfl,hx⟩,H.kept⟩
open Go.X.Flow (Cc Wys wz ics Ao Tn Vd tnV)
open Go.X.Cist (Day Ba dz dcs Aj)
set_option maxHeartbeats 400000 in
theorem Vz{md:Md}(t:Tn)(hn:t.nH<=2^20/\t.nW<=2^20/\t.m<=2^20){h:Heap}{p:Ab}(hp:Per p h){a1 a2 a3:Option Addr}{c1 c2 c3:Nat}(T:Ao p a1 t.nH a2 t.nW a3 t.m t)(w:Cc):
 Aa prog md 155 #[tnV a1 a2 a3 c1 c2 c3 t,.agg #[.J w.1,.J w.2]] h (Ar p h fun v p'=>∃(a4 a5 a6:Option Addr)(c4 c5 c6:Nat)(u:Tn),v=tnV a4 a5 a6 c4 c5 c6 u/\Ao p' a4 u.nH a5 u.nW a6 u.m u/\(u.nH=t.nH/\u.nW=t.nW/\u.m<=t.m+1)/\u.nH<=c4/\u.nW<=c5/\u.m<=c6):=by
 have Ty:Sl p a3 t.m 2 (Flow.wcs t.wy):=T.y;refine xdq hp func155 fun _ _ _ K=>?_;refine xgq rfl fun b1=>?_;refine bq fun b2=>?_;refine lq fun b3=>?_;refine ax ?_;refine xdj rfl rfl (fun _ pe=>c37 pe t T hn) ?_;rintro _ _ ⟨x1,y1,x2,y2,x3,y3,Y1,Y2,Y3,rfl,o1,o2,o3,rfl⟩;refine lq fun V=>?_;refine ax ?_;refine xik (LL':=[[(V,.cells #[.slice x1 t.nH y1,.slice x2 t.nW y2,.slice none 0 0] 28 (0,0))],[],(Y1++Y2)++Y3,[(b3,.cells #[.slice none 0 0,.slice none 0 0,.slice none 0 0] 28 (0,0))],[(b2,.cells #[.J w.1,.J w.2] 94 (0,0))],[(b1,.cells (tnV a1 a2 a3 c1 c2 c3 t).cells 28 (0,0))]]) ?_ fun _ s=>s;have o0:=Ac.empty 94 2
 refine xmq (fun m_ l_ p_ L_=>∃(j:Nat)(q:Bool)(v:Value)(Y:Pcs)(ws:List Cc),m_=t.m-j/\l_=[(2,none,w_ b1 0),(3,none,w_ b2 0),(4,none,w_ b3 0),(5,none,w_ V 0),(6,none,.bool q),(7,none,.J ((j:Nat):Int))]/\p_=p/\
  L_=[[(V,.cells #[.slice x1 t.nH y1,.slice x2 t.nW y2,v] 28 (0,0))],Y,(Y1++Y2)++Y3,[(b3,.cells #[.slice none 0 0,.slice none 0 0,.slice none 0 0] 28 (0,0))],[(b2,.cells #[.J w.1,.J w.2] 94 (0,0))],[(b1,.cells (tnV a1 a2 a3 c1 c2 c3 t).cells 28 (0,0))]]/\
  j<=t.m/\Ac 94 2 v (Flow.wcs ws) Y/\(ws.length<=j+1/\(q=false->ws.length=j))) ⟨0,false,_,_,[],rfl,rfl,rfl,rfl,Nat.zero_le _,o0,s_,fun _=>rfl⟩ sb ?_
 clear o0;rintro _ _ p _ IH ⟨j,q,v,Y,ws,rfl,rfl,rfl,rfl,hj,o,hl,hq⟩;refine cq (fun cd=>?_) (fun cd=>?_)
 ·have a8:j<t.m:=om;refine ax ?_;refine xqq [] R9 ?_;refine ex ?_;refine xkw rfl rfl rfl sdt (fun _=>T.y.all a8) ?_;refine ex ?_;refine ax ?_;refine xfx rfl rfl rfl sdu (fun _ _ pe=>Qb pe w (t.wy.getD j wz)) ?_;refine ax ?_
  refine xiz (fun l' p_ L_=>∃(q:Bool)(v:Value)(Y:Pcs)(ws:List Cc),l'=[(2,none,w_ b1 0),(3,none,w_ b2 0),(4,none,w_ b3 0),(5,none,w_ V 0),(6,none,.bool q),(7,none,.J ((j:Nat):Int))]/\p_=p/\
   L_=[[(V,.cells #[.slice x1 t.nH y1,.slice x2 t.nW y2,v] 28 (0,0))],Y,(Y1++Y2)++Y3,[(b3,.cells #[.slice none 0 0,.slice none 0 0,.slice none 0 0] 28 (0,0))],[(b2,.cells #[.J w.1,.J w.2] 94 (0,0))],[(b1,.cells (tnV a1 a2 a3 c1 c2 c3 t).cells 28 (0,0))]]/\
   Ac 94 2 v (Flow.wcs ws) Y/\(ws.length<=j+1/\(q=false->ws.length=j))) ?_ fun k' nx=>?_
  rotate_left
  ·refine xlq rfl (fun cb=>?_) (fun _=>?_)
   ·have hw:ws.length=j:=hq (by simp at cb;exact cb.1);refine ax ?_;refine xbz rfl fun v2 Z2 M=>?_;have M:Ac 94 2 v2 (Flow.wcs [w]) Z2:=M;refine xfv rfl rfl o M (xdm _) (by rw[Flow.Ap,Flow.Ap];simp;omega) fun v3 Z3 O=>?_;obtain⟨a7,k7,rfl,-⟩:=O.val;refine ax ?_;exact xox (nx _ _ _ ⟨true,_,Z3,ws++[w],rfl,rfl,rfl,O.as (by simp[Flow.wcs]),by simp;omega,fun z=>by cases z⟩) ⟨rfl,rfl,rfl,rfl,rfl,rfl,trivial⟩
   ·refine ax ?_;exact xox (nx _ _ _ ⟨q,v,Y,ws,rfl,rfl,rfl,o,hl,hq⟩) ⟨rfl,rfl,rfl,rfl,rfl,rfl,trivial⟩
  clear o hl hq;rintro _ p _ ⟨q,v,Y,ws,rfl,rfl,rfl,o,hl,hq⟩;refine ax ?_;refine xqq [7] R8 ?_;refine ex ?_;refine xbw rfl rfl (T.y.all a8) ?_;refine ex ?_;refine xvk rfl rfl fun v2 Z2 M=>?_;have M:Ac 94 2 v2 (Flow.wcs [t.wy.getD j wz]) Z2:=M;refine ex ?_;refine xfv rfl rfl o M (xdm _) (by rw[Flow.Ap,Flow.Ap];simp;omega) fun v3 Z3 O=>?_;obtain⟨a7,k7,rfl,-⟩:=O.val;refine ax ?_;exact xhq (IH _ _ _ om ⟨j+1,q,_,Z3,ws++[t.wy.getD j wz],rfl,rfl,rfl,rfl,om,O.as (by simp[Flow.wcs]),by simp;omega,fun z=>by simp[hq z]⟩)
 clear IH;refine ax ?_
 refine xiz (fun l' p_ L_=>∃(v:Value)(Y:Pcs)(ws:List Cc),l'=[(4,none,w_ b3 0),(5,none,w_ V 0)]/\p_=p/\
  L_=[[(V,.cells #[.slice x1 t.nH y1,.slice x2 t.nW y2,v] 28 (0,0))],Y,(Y1++Y2)++Y3,[(b3,.cells #[.slice none 0 0,.slice none 0 0,.slice none 0 0] 28 (0,0))],[(b2,.cells #[.J w.1,.J w.2] 94 (0,0))],[(b1,.cells (tnV a1 a2 a3 c1 c2 c3 t).cells 28 (0,0))]]/\
  Ac 94 2 v (Flow.wcs ws) Y/\ws.length<=t.m+1) ?_ fun k' nx=>?_
 rotate_left
 ·refine xlq rfl (fun cb=>?_) (fun _=>?_)
  ·have hw:ws.length=j:=hq (by simpa using cb);refine ax ?_;refine xbz rfl fun v2 Z2 M=>?_;have M:Ac 94 2 v2 (Flow.wcs [w]) Z2:=M;refine xfv rfl rfl o M (xdm _) (by rw[Flow.Ap,Flow.Ap];simp;omega) fun v3 Z3 O=>?_;obtain⟨a7,k7,rfl,-⟩:=O.val;refine ax ?_;exact xox (nx _ _ _ ⟨_,Z3,ws++[w],rfl,rfl,rfl,O.as (by simp[Flow.wcs]),by simp;omega⟩) ⟨rfl,rfl,trivial⟩
  ·refine ax ?_;exact xox (nx _ _ _ ⟨v,Y,ws,rfl,rfl,rfl,o,om⟩) ⟨rfl,rfl,trivial⟩
 clear o hl hq;rintro _ p _ ⟨v,Y,ws,rfl,rfl,rfl,o,hl⟩;obtain⟨a6,c6,rfl,-⟩:=o.val;rw[Flow.Ap]at o⊢;refine ax ?_;refine xpz (Y1++Y2) Y3 ?_;refine xpz Y1 Y2 ?_;refine xoq o1 (m:=t.nH) (xvq _) d_ fun p1 _ _ g1 e1 k1 S1=>?_;cases e1;refine xoq o2 (m:=t.nW) (xvq _) d_ fun p2 _ _ g2 e2 k2 S2=>?_;cases e2;refine xoq o (m:=ws.length) (Flow.Ap _) d_ fun p3 _ _ g3 e3 k3 S3=>?_;cases e3;exact K.e rfl (xtq rfl .nil) fun _ H=>xwq H ((g1.trans g2).trans g3) ⟨x1,x2,a6,y1,y2,c6,⟨t.hs,t.ws,ws⟩,rfl,⟨Sl.mono (g2.trans g3).le S1,Sl.mono g3.le S2,S3⟩,⟨rfl,rfl,hl⟩,k1,k2,k3⟩
structure TwO(A:TA)(t:Twn)(Y1 Y2 Y3 Y4 Y5 Y6:Pcs):Prop where
 r:Ac 92 4 (.slice A.r.1 t.s.Ah.length A.r.2) (rcs t.s.Ah) Y1
 f:Ac 3 1 (.slice A.f.1 t.s.Ag.length A.f.2) (ics t.s.Ag) Y2
 h:Ac 3 1 (.slice A.h.1 t.b.nH A.h.2) (ics t.b.hs) Y3
 w:Ac 3 1 (.slice A.w.1 t.b.nW A.w.2) (ics t.b.ws) Y4
 y:Ac 94 2 (.slice A.y.1 t.b.m A.y.2) (Flow.wcs t.b.wy) Y5
 d:Ac 98 3 (.slice A.d.1 t.y.days.length A.d.2) (dcs t.y.days) Y6
theorem yms{md:Md}{h:Heap}{p:Ab}(hp:Per p h)(A:TA)(t:Twn)(T:TwP p A t)(hn:t.fit (2^20)):
 Aa prog md 21 #[twV A t] h fun v h'=>∃Y,(∃A' Y1 V Y3 O Y5 Y6,v=twV A' t/\TwO A' t Y1 V Y3 O Y5 Y6/\Y=(Y6++((Y3++O)++Y5))++(Y1++V))/\New h h' Y:=by
 obtain⟨⟨n1,n2⟩,⟨n3,n4,n5⟩,n6⟩:=hn;refine xdq hp func21 fun _ _ _ K=>?_;refine xgq rfl fun b1=>?_;refine lq fun b2=>?_;refine ax ?_;refine xqq [2,5] [0,1,3,4,6,7,2,5] ?_;refine ex ?_;refine xuk rfl rfl rfl (fun _ M=>c36 M t.s T.s ⟨n1,n2⟩) ?_;rintro _ _ ⟨a1,c1,a2,c2,Y1,V,rfl,o1,o2,rfl⟩;refine ex ?_;refine xuk rfl rfl rfl (fun _ M=>c37 M t.b T.b ⟨n3,n4,n5⟩) ?_;rintro _ _ ⟨a3,c3,a4,c4,a5,c5,Y3,O,Y5,rfl,o3,o4,o5,rfl⟩;refine ex ?_;refine ax ?_;refine xdj rfl rfl (fun _ M=>c38 M T.d n6) ?_;rintro _ Y6 ⟨a6,c6,rfl,o6⟩;refine ax ?_;exact K.e rfl (xtq rfl .nil) fun _ H=>⟨_,⟨⟨(a1,c1),(a2,c2),(a3,c3),(a4,c4),(a5,c5),(a6,c6)⟩,Y1,V,Y3,O,Y5,Y6,rfl,⟨o1,o2,o3,o4,o5,o6⟩,rfl⟩,(xa6 H).new⟩
theorem xjj{X:Cx}{k:List Item}{l:Env}{p:Ab}{LL L1 L2 L3 L4 L5 L6:List Pcs}{A:TA}{t:Twn}{Y1 Y2 Y3 Y4 Y5 Y6:Pcs}(O:TwO A t Y1 Y2 Y3 Y4 Y5 Y6)[Rm LL Y1 L1][Rm L1 Y2 L2][Rm L2 Y3 L3][Rm L3 Y4 L4][Rm L4 Y5 L5][Rm L5 Y6 L6]
 (n:∀p',PG X.z9.size X.zz p p'->TwP p' A t->RE X k l p' L6):RE X k l p LL:=by
 refine xoq O.r (m:=t.s.Ah.length) (xvv _) d_ fun p1 _ _ g1 e1 a7 S1=>?_;injection e1 with z1 _ z2;subst z1 z2;refine xoq O.f (m:=t.s.Ag.length) (xvq _) d_ fun p2 _ _ g2 e2 a4 S2=>?_;injection e2 with z1 _ z2;subst z1 z2;refine xoq O.h (m:=t.b.nH) (xvq _) d_ fun p3 _ _ g3 e3 a6 S3=>?_;injection e3 with z1 _ z2;subst z1 z2;refine xoq O.w (m:=t.b.nW) (xvq _) d_ fun p4 _ _ V e4 a2 S4=>?_;injection e4 with z1 _ z2;subst z1 z2;refine xoq O.y (m:=t.b.m) (Flow.Ap _) d_ fun p5 _ _ M e5 a3 S5=>?_;injection e5 with z1 _ z2;subst z1 z2;refine xoq O.d (m:=t.y.days.length) (Aj _) d_ fun p6 _ _ H e6 a5 S6=>?_;injection e6 with z1 _ z2;subst z1 z2;exact n p6 (((((g1.trans g2).trans g3).trans V).trans M).trans H) ⟨⟨Sl.mono ((((g2.trans g3).trans V).trans M).trans H).le S1,Sl.mono (((g3.trans V).trans M).trans H).le S2⟩,⟨Sl.mono ((V.trans M).trans H).le S3,Sl.mono (M.trans H).le S4,Sl.mono H.le S5⟩,S6,⟨a7,a4⟩,⟨a6,a2,a3⟩,a5⟩
open Go.X.Flow (Cc Wys wz ics Cg Ce Ao Tn Vd tnV)
open Go.X.Cist (Day Ba dz dcs Aj Dm)
set_option maxHeartbeats 1600000 in
theorem c62{md:Md}{h:Heap}{p:Ab}(hp:Per p h)(A:TA)(t:Twn)(T:TwP p A t)(hv:B9 t=0)(w:Str){a:Option Addr}(n c:Nat)(xs:List Int)(I:As p a n xs)(hw:Aq w=(1,n)):
 Aa prog md 62 #[twV A t,sv w,.slice a n c] h (Ar p h fun v p'=>∃A' t' q,v=.tuple #[twV A' t',.bool q]/\TwP p' A' t'/\B9 t'=0):=by
 have hf:=xsz hv;obtain⟨⟨f1,f2⟩,⟨f3,f4,f5⟩,f6⟩:=hf;have e3:t.b.hs.length<=12:=f3;have e4:t.b.ws.length<=12:=f4;have le:∀{x:Nat},x<=12->x<=2^20:=fun h=>Nat.le_trans h d_;have I1:Sl p a n 1 (ics xs):=I;have kn:∀{u:Str}{k:Nat},w=u->Aq u=(1,k)->n=k:=fun e1 e2=>by rw[e1,e2]at hw;exact(congrArg Prod.snd hw).symm
 refine xdq hp func62 fun _ _ _ K=>?_;refine xgq rfl fun b3=>?_;refine lq fun b6=>?_;refine ax ?_;refine xdj rfl rfl (fun _ pe=>yms pe A t T ⟨⟨le f1,le f2⟩,⟨le f3,le f4,le f5⟩,le f6⟩) ?_;rintro _ _ ⟨A1,Y1,Y2,Y3,Y4,Y5,Y6,rfl,O,rfl⟩;refine lq fun b8=>?_;refine ax ?_;refine xpz (Y6++((Y3++Y4)++Y5)) (Y1++Y2) ?_;refine xpz Y6 ((Y3++Y4)++Y5) ?_;refine xpz (Y3++Y4) Y5 ?_;refine xpz Y3 Y4 ?_;refine xpz Y1 Y2 ?_
 refine xiz (fun l' p_ L_=>∃(A':TA)(t':Twn)(q:Bool),l'=[(3,none,w_ b3 0),(6,none,w_ b6 0),(8,none,w_ b8 0),(9,none,.bool q)]/\PG h.size [] p p_/\
  L_=[[(b8,.cells (tcs A' t').toArray 33 (0,0))],[(b6,.cells #[.slice none 0 0,.slice none 0 0,.J 0,.J 0,.J 0,.slice none 0 0,.slice none 0 0,.slice none 0 0,.J 0,.J 0,.slice none 0 0] 33 (0,0))],[(b3,.cells (tcs A t).toArray 33 (0,0))]]/\TwP p_ A' t'/\t'.fit (2^20)) ?_ fun k' nx=>?_
 rotate_left
 ·have a2:=fun(q:Bool)(p':Ab)(g':PG h.size [] p p')(T':TwP p' A1 t)=>nx _ _ _ ⟨A1,t,q,rfl,g',rfl,T',⟨⟨le f1,le f2⟩,⟨le f3,le f4,le f5⟩,le f6⟩⟩;refine xlq rfl (fun cw=>?_) (fun _=>?_)
  ·have hn:n=4:=kn cw d_;refine ax ?_;refine xqq [16] R17 ?_;refine ex ?_;refine xvk rfl rfl fun v2 Z2 o2=>?_;have o2:Ac 92 4 v2 (rcs [⟨xs.getD 0 0,xs.getD 1 0,xs.getD 2 0,xs.getD 3 0⟩]) Z2:=o2;refine ex ?_;refine xfv rfl rfl O.r o2 (xh1 _) (by rw[xvv,xvv];simp;omega) fun v3 Z3 V=>?_;have V:Ac 92 4 v3 (rcs (t.s.Ah++[⟨xs.getD 0 0,xs.getD 1 0,xs.getD 2 0,xs.getD 3 0⟩])) Z3:=V.as (by simp[rcs]);obtain⟨a3,c3,rfl,-⟩:=V.val;rw[xvv]at V⊢;refine ax ?_;refine xjj (A:={A1 with r:=(a3,c3)}) (t:={t with s:={t.s with Ah:=t.s.Ah++[⟨xs.getD 0 0,xs.getD 1 0,xs.getD 2 0,xs.getD 3 0⟩]}}) ⟨V,O.f,O.h,O.w,O.y,O.d⟩ fun p1 g1 M=>?_;exact xox (nx _ _ _ ⟨_,_,true,rfl,g1,rfl,M,⟨⟨by show(t.s.Ah++[_]).length<=_;rw[List.length_append,List.length_singleton];omega,le f2⟩,⟨le f3,le f4,le f5⟩,le f6⟩⟩) ⟨rfl,rfl,rfl,rfl,trivial⟩
  refine cq (fun cw=>?_) (fun _=>?_)
  ·have hn:n=1:=kn cw d_;refine ax ?_;refine xqq [6] R7 ?_;refine ex ?_;refine xvk rfl rfl fun v2 Z2 o2=>?_;have o2:Ac 3 1 v2 (ics [xs.getD 0 0]) Z2:=o2;refine ex ?_;refine xfv rfl rfl O.f o2 (xdv _) (by rw[xvq,xvq];simp;omega) fun v3 Z3 V=>?_;have V:Ac 3 1 v3 (ics (t.s.Ag++[xs.getD 0 0])) Z3:=V.as (by simp[ics]);obtain⟨a3,c3,rfl,-⟩:=V.val;rw[xvq]at V⊢;refine ax ?_;refine xjj (A:={A1 with f:=(a3,c3)}) (t:={t with s:={t.s with Ag:=t.s.Ag++[xs.getD 0 0]}}) ⟨O.r,V,O.h,O.w,O.y,O.d⟩ fun p1 g1 M=>?_;exact xox (nx _ _ _ ⟨_,_,true,rfl,g1,rfl,M,⟨⟨le f1,by show(t.s.Ag++[_]).length<=_;rw[List.length_append,List.length_singleton];omega⟩,⟨le f3,le f4,le f5⟩,le f6⟩⟩) ⟨rfl,rfl,rfl,rfl,trivial⟩
  refine cq (fun cw=>?_) (fun _=>?_)
  ·refine xjj O fun p1 g1 M=>?_;refine cq (fun cu=>?_) (fun cu=>?_)
   ·have a8:0<t.s.Ag.length:=om;have cf:=M.c.1.2;refine ax ?_;refine xld (j:=t.s.Ag.length-1) rfl (by show some ([],Value.J _)=_;rw[show((t.s.Ag.length:Nat):Int)-1=((t.s.Ag.length-1:Nat):Int) by omega]) om ?_;refine ax ?_;have Sf:=xe3 M.s.f (d:=t.s.Ag.length-1) om;have el:(t.s.Ag.take (t.s.Ag.length-1)).length=t.s.Ag.length-1:=by rw[List.length_take];omega
    refine xox (nx _ _ _ ⟨A1,{t with s:={t.s with Ag:=t.s.Ag.take (t.s.Ag.length-1)}},_,rfl,g1,by show _=[[(b8,Obj.cells (tcs A1 _).toArray _ _)],_,_];unfold tcs;simp only[el];rfl,⟨⟨M.s.r,by show Sl p1 A1.f.1 (t.s.Ag.take _).length 1 (List.map _ (t.s.Ag.take _));rw[el,List.map_take];exact Sf⟩,M.b,M.d,⟨M.c.1.1,by show(t.s.Ag.take _).length<=_;rw[el];omega⟩,M.c.2⟩,⟨⟨le f1,by show(t.s.Ag.take _).length<=_;rw[el];omega⟩,⟨le f3,le f4,le f5⟩,le f6⟩⟩) ⟨rfl,rfl,rfl,rfl,trivial⟩
   refine ax ?_;exact xox (a2 _ p1 g1 M) ⟨rfl,rfl,rfl,rfl,trivial⟩
  refine cq (fun cw=>?_) (fun _=>?_)
  ·have hn:n=1:=kn cw d_;refine ax ?_;refine xqq [6] R7 ?_;refine ex ?_;refine xvk rfl rfl fun v2 Z2 o2=>?_;have o2:Ac 3 1 v2 (ics [xs.getD 0 0]) Z2:=o2;refine ex ?_;refine xfv rfl rfl O.h o2 (xdv _) (by rw[xvq,xvq];simp;omega) fun v3 Z3 V=>?_;have V:Ac 3 1 v3 (ics (t.b.hs++[xs.getD 0 0])) Z3:=V.as (by simp[ics]);obtain⟨a3,c3,rfl,-⟩:=V.val;rw[xvq]at V⊢;refine ax ?_;refine xjj (A:={A1 with h:=(a3,c3)}) (t:={t with b:={t.b with hs:=t.b.hs++[xs.getD 0 0]}}) ⟨O.r,O.f,V,O.w,O.y,O.d⟩ fun p1 g1 M=>?_;exact xox (nx _ _ _ ⟨_,_,true,rfl,g1,rfl,M,⟨⟨le f1,le f2⟩,⟨by show(t.b.hs++[_]).length<=_;rw[List.length_append,List.length_singleton];omega,le f4,le f5⟩,le f6⟩⟩) ⟨rfl,rfl,rfl,rfl,trivial⟩
  refine cq (fun cw=>?_) (fun _=>?_)
  ·have hn:n=1:=kn cw d_;refine ax ?_;refine xqq [6] R7 ?_;refine ex ?_;refine xvk rfl rfl fun v2 Z2 o2=>?_;have o2:Ac 3 1 v2 (ics [xs.getD 0 0]) Z2:=o2;refine ex ?_;refine xfv rfl rfl O.w o2 (xdv _) (by rw[xvq,xvq];simp;omega) fun v3 Z3 V=>?_;have V:Ac 3 1 v3 (ics (t.b.ws++[xs.getD 0 0])) Z3:=V.as (by simp[ics]);obtain⟨a3,c3,rfl,-⟩:=V.val;rw[xvq]at V⊢;refine ax ?_;refine xjj (A:={A1 with w:=(a3,c3)}) (t:={t with b:={t.b with ws:=t.b.ws++[xs.getD 0 0]}}) ⟨O.r,O.f,O.h,V,O.y,O.d⟩ fun p1 g1 M=>?_;exact xox (nx _ _ _ ⟨_,_,true,rfl,g1,rfl,M,⟨⟨le f1,le f2⟩,⟨le f3,by show(t.b.ws++[_]).length<=_;rw[List.length_append,List.length_singleton];omega,le f5⟩,le f6⟩⟩) ⟨rfl,rfl,rfl,rfl,trivial⟩
  refine cq (fun cw=>?_) (fun _=>?_)
  ·have hn:n=2:=kn cw d_;refine ax ?_;refine xqq [] R5 ?_;refine ex ?_;refine ax ?_;refine xiq rfl rfl (fun _ pe=>Pp pe t.b om) ?_;refine cq (fun cu=>?_) (fun cu=>?_)
   ·have hi:0<=xs.getD 0 0/\xs.getD 0 0<=(t.b.nH:Int)-1:=by simpa using cu
    have el:(t.b.hs.set (xs.getD 0 0).toNat (xs.getD 1 0)).length=t.b.nH:=List.length_set ..;have eL:t.b.hs.length=t.b.nH:=rfl;refine ax ?_;refine xqq [] R9 ?_;refine ex ?_;refine xcv rfl rfl O.h hi.1 (by rw[xvq];omega) ?_;refine xek (j:=0) rfl rfl O.h xrx rfl rfl rfl (Cg om) (Nat.le_refl _) fun Z3 V=>?_;have o4:Ac 3 1 (.slice A1.h.1 (t.b.hs.set (xs.getD 0 0).toNat (xs.getD 1 0)).length A1.h.2) (ics (t.b.hs.set (xs.getD 0 0).toNat (xs.getD 1 0))) Z3:=by rw[el];exact V.as Ce
    refine ax ?_;refine xjj (A:=A1) (t:={t with b:={t.b with hs:=t.b.hs.set (xs.getD 0 0).toNat (xs.getD 1 0)}}) ⟨O.r,O.f,o4,O.w,O.y,O.d⟩ fun p1 g1 M=>?_;exact xox (nx _ _ _ ⟨A1,_,_,rfl,g1,by show _=[[(b8,Obj.cells (tcs A1 _).toArray _ _)],_,_];unfold tcs;simp only[Tn.nH,Tn.nW,List.length_set];rfl,M,⟨⟨le f1,le f2⟩,⟨Nat.le_trans (Nat.le_of_eq el) (le f3),le f4,le f5⟩,le f6⟩⟩) ⟨rfl,rfl,rfl,rfl,trivial⟩
   refine ax ?_;refine xjj O fun p1 g1 M=>?_;exact xox (a2 _ p1 g1 M) ⟨rfl,rfl,rfl,rfl,trivial⟩
  refine cq (fun cw=>?_) (fun _=>?_)
  ·have hn:n=2:=kn cw d_;refine ax ?_;refine xqq [] R5 ?_;refine ex ?_;refine ax ?_;refine xiq rfl rfl (fun _ pe=>Pv pe t.b om) ?_;refine cq (fun cu=>?_) (fun cu=>?_)
   ·have hi:0<=xs.getD 0 0/\xs.getD 0 0<=(t.b.nW:Int)-1:=by simpa using cu
    have el:(t.b.ws.set (xs.getD 0 0).toNat (xs.getD 1 0)).length=t.b.nW:=List.length_set ..;have eL:t.b.ws.length=t.b.nW:=rfl;refine ax ?_;refine xqq [] R9 ?_;refine ex ?_;refine xcv rfl rfl O.w hi.1 (by rw[xvq];omega) ?_;refine xek (j:=0) rfl rfl O.w xrx rfl rfl rfl (Cg om) (Nat.le_refl _) fun Z3 V=>?_;have o4:Ac 3 1 (.slice A1.w.1 (t.b.ws.set (xs.getD 0 0).toNat (xs.getD 1 0)).length A1.w.2) (ics (t.b.ws.set (xs.getD 0 0).toNat (xs.getD 1 0))) Z3:=by rw[el];exact V.as Ce
    refine ax ?_;refine xjj (A:=A1) (t:={t with b:={t.b with ws:=t.b.ws.set (xs.getD 0 0).toNat (xs.getD 1 0)}}) ⟨O.r,O.f,O.h,o4,O.y,O.d⟩ fun p1 g1 M=>?_;exact xox (nx _ _ _ ⟨A1,_,_,rfl,g1,by show _=[[(b8,Obj.cells (tcs A1 _).toArray _ _)],_,_];unfold tcs;simp only[Tn.nH,Tn.nW,List.length_set];rfl,M,⟨⟨le f1,le f2⟩,⟨le f3,Nat.le_trans (Nat.le_of_eq el) (le f4),le f5⟩,le f6⟩⟩) ⟨rfl,rfl,rfl,rfl,trivial⟩
   refine ax ?_;refine xjj O fun p1 g1 M=>?_;exact xox (a2 _ p1 g1 M) ⟨rfl,rfl,rfl,rfl,trivial⟩
  refine cq (fun cw=>?_) (fun _=>?_)
  ·have hn:n=2:=kn cw d_;refine xjj O fun p1 g1 M=>?_;have I2:As p1 a n xs:=Sl.mono g1.le I;have I3:Sl p1 a n 1 (ics xs):=I2;have T2:=T.mono g1.le;refine ax ?_;refine xqq [7] R8 ?_;refine ex ?_;refine xdh rfl (fun a9=>?_);refine ex ?_;refine ax ?_;refine xrz rfl rfl (fun h pe=>Uz t.b om pe T2.b (xs.getD 0 0) (xs.getD 1 0)) ?_;rintro _ ⟨q,rfl⟩;refine cq (fun cu=>?_) (fun cu=>?_)
   ·refine ax ?_;refine xvx rfl rfl (fun h pe=>Vz t.b ⟨le f3,le f4,le f5⟩ pe T2.b (xs.getD 0 0,xs.getD 1 0)) ?_;rintro _ p2 g2 ⟨a4,a5,a6,c4,c5,c6,u,rfl,U,⟨u1,u2,u3⟩,k1,k2,k3⟩;refine ax ?_;have T3:=M.mono g2.le;refine xik (LL':=[[(b8,.cells (tcs {A1 with h:=(a4,c4),w:=(a5,c5),y:=(a6,c6)} {t with b:=u}).toArray 33 (0,0))],[(b6,.cells #[.slice none 0 0,.slice none 0 0,.J 0,.J 0,.J 0,.slice none 0 0,.slice none 0 0,.slice none 0 0,.J 0,.J 0,.slice none 0 0] 33 (0,0))],[(b3,.cells (tcs A t).toArray 33 (0,0))]]) ?_ fun _ s=>s.sub (List.Sublist.cons_cons _ (List.sublist_cons_self _ _));exact xox (nx _ _ _ ⟨_,_,_,rfl,g1.trans g2,rfl,⟨T3.s,U,T3.d,T3.c.1,⟨k1,k2,k3⟩,T3.c.2.2⟩,⟨⟨le f1,le f2⟩,⟨by show u.nH<=_;omega,by show u.nW<=_;omega,by show u.m<=_;omega⟩,le f6⟩⟩) ⟨rfl,rfl,rfl,rfl,trivial⟩
   refine ax ?_;refine xik (LL':=[[(b8,.cells (tcs A1 t).toArray 33 (0,0))],[(b6,.cells #[.slice none 0 0,.slice none 0 0,.J 0,.J 0,.J 0,.slice none 0 0,.slice none 0 0,.slice none 0 0,.J 0,.J 0,.slice none 0 0] 33 (0,0))],[(b3,.cells (tcs A t).toArray 33 (0,0))]]) ?_ fun _ s=>s.sub (List.sublist_cons_self _ _);exact xox (a2 _ p1 g1 M) ⟨rfl,rfl,rfl,rfl,trivial⟩
  refine cq (fun cw=>?_) (fun _=>?_)
  ·have hn:n=3:=kn cw d_;refine ax ?_;refine xqq [14] R15 ?_;refine ex ?_;refine xvk rfl rfl fun v2 Z2 o2=>?_;have o2:Ac 98 3 v2 (dcs [⟨xs.getD 0 0,xs.getD 1 0,xs.getD 2 0⟩]) Z2:=o2;refine ex ?_;refine xfv rfl rfl O.d o2 (Dm _) (by rw[Aj,Aj];simp;omega) fun v3 Z3 V=>?_;have V:Ac 98 3 v3 (dcs (t.y.days++[⟨xs.getD 0 0,xs.getD 1 0,xs.getD 2 0⟩])) Z3:=V.as (by simp[dcs]);obtain⟨a3,c3,rfl,-⟩:=V.val;rw[Aj]at V⊢;refine ax ?_;refine xjj (A:={A1 with d:=(a3,c3)}) (t:={t with y:={t.y with days:=t.y.days++[⟨xs.getD 0 0,xs.getD 1 0,xs.getD 2 0⟩]}}) ⟨O.r,O.f,O.h,O.w,O.y,V⟩ fun p1 g1 M=>?_;exact xox (nx _ _ _ ⟨_,_,true,rfl,g1,rfl,M,⟨⟨le f1,le f2⟩,⟨le f3,le f4,le f5⟩,by show(t.y.days++[_]).length<=_;rw[List.length_append,List.length_singleton];omega⟩⟩) ⟨rfl,rfl,rfl,rfl,trivial⟩
  refine cq (fun cw=>?_) (fun _=>?_)
  ·have hn:n=1:=kn cw d_;refine ax ?_;refine xjj (A:=A1) (t:={t with y:={t.y with size:=xs.getD 0 0}}) ⟨O.r,O.f,O.h,O.w,O.y,O.d⟩ fun p1 g1 M=>?_;exact xox (nx _ _ _ ⟨A1,_,true,rfl,g1,rfl,M,⟨⟨le f1,le f2⟩,⟨le f3,le f4,le f5⟩,le f6⟩⟩) ⟨rfl,rfl,rfl,rfl,trivial⟩
  refine ax ?_;refine xjj O fun p1 g1 M=>?_;exact xox (a2 true p1 g1 M) ⟨rfl,rfl,rfl,rfl,trivial⟩
 rintro _ p1 _ ⟨A',t',q,rfl,g1,rfl,T',a7⟩;have M:=T.mono g1.le;refine ax ?_;refine xfx rfl rfl rfl sdu (fun _ _ pe=>c20 pe A' t' T' a7) ?_;refine cq (fun cc=>?_) (fun cc=>?_)
 ·refine ax ?_;exact K.e rfl (xtq rfl (.tmp rfl .nil)) fun _ H=>xwq H g1 ⟨A,t,false,rfl,M,hv⟩
 refine ax ?_;exact K.e rfl (xtq rfl (.tmp rfl .nil)) fun _ H=>xwq H g1 ⟨A',t',true,rfl,T',by simp at cc;exact cc.2⟩
set_option maxHeartbeats 1600000 in
theorem c32{md:Md}{h:Heap}{p:Ab}(hp:Per p h)(N:Nat)(hN:N<=100){v:Value}(D:Mo p N v)(s:Str)(hs:s.length<=900):
 Aa prog md 32 #[v,sv s] h (Ar p h fun w p'=>∃v' z,w=.tuple #[v',sv z]/\Mo p' (N+1) v'):=by
 obtain⟨A,t,ka,kn,V,ks,pa,M,pc,es,rfl,T,hv,S,hk,c2,P,b0,d6,a2⟩:=D;have e5:=P.len;have a4:=fun(p':Ab)(le:PLe p p')=>(⟨A,t,ka,kn,V,ks,pa,M,pc,es,rfl,T.mono le,hv,Sl.mono le S,hk,Nat.le_succ_of_le c2,Sl.mono le P,b0,Nat.le_succ_of_le d6,fun e he=>(a2 e he).mono le (Nat.le_succ N)⟩:Mo p' (N+1) (.agg (tcs A t++[Value.slice ka kn V,.slice pa M pc]).toArray))
 have a5:=xec s;refine xdq hp func32 fun _ _ _ K=>?_;refine xgq rfl fun b2=>?_;refine lq fun b4=>?_;refine ax ?_;refine xvx rfl rfl (fun h pe=>c6 _ h _ pe s hs) ?_;rintro _ p1 g1 ⟨la,lc,rfl,b9,L⟩;generalize hx:Bm s=x at*;refine lq fun b6=>?_;refine cq (fun cc=>?_) (fun c0=>?_)
 ·refine ax ?_;exact K.e rfl (xtq rfl (.tmp rfl .nil)) fun _ H=>xwq H g1 ⟨_,_,rfl,a4 _ g1.le⟩
 obtain⟨w,args,lt,rfl,k0,hlen,e2,e7,_⟩:∃w args l,x=⟨w,(Aq w).1,args,l⟩/\(Aq w).1≠0/\args.length=(Aq w).2/\(l≠[]->(Aq w).1=3/\isLet l=true)/\args.all Bb=true/\Ad s=if l=[]then w::args else Er::l::w::args:=by
  rcases a5 with e|e
  ·rw[e]at c0;exact absurd (by rfl) c0
  ·exact e
 clear a5;have e4:=xyd w;simp only at L b9 hlen⊢;refine ax ?_;refine xvx rfl rfl (fun h pe=>c59 pe kn V ks (Sl.mono g1.le S) om hk args.length lc args L om) ?_;rintro _ p2 g2 ⟨va,vn,vc,xs,q,rfl,I,hq⟩;have O:=g1.trans g2;refine cq (fun b5=>?_) (fun b5=>?_)
 ·refine ax ?_;exact K.e rfl (xtq rfl (.tmp rfl .nil)) fun _ H=>xwq H O ⟨_,_,rfl,a4 _ O.le⟩
 have b3:vn=(Aq w).2:=(hq (by simpa using b5)).trans hlen;have T2:=T.mono O.le;refine cq (fun c3=>?_) (fun c3=>?_)
 ·have d0:Aq w=(3,vn):=by rw[b3];exact Prod.ext (by show(Aq w).1=3;omega) rfl
  refine ax ?_;refine xrz rfl rfl (fun h pe=>c60 pe A t T2 hv w vn vc xs I d0) ?_;rintro _ ⟨z,n,b,rfl,hn⟩;refine cq (fun _=>?_) (fun _=>?_)
  ·refine ax ?_;refine xvx rfl rfl (fun h pe=>c61 pe kn V ks (Sl.mono O.le S) om hk lt n hn) ?_;rintro _ p3 g3 ⟨k3,m3,a6,a9,rfl,e0,S3,d5⟩;refine ax ?_;exact K.e rfl (xtq rfl (.tmp rfl .nil)) fun _ H=>xwq H (O.trans g3) ⟨_,_,rfl,⟨A,t,k3,m3,a6,a9,pa,M,pc,es,rfl,T2.mono g3.le,hv,S3,d5,om,Sl.mono (O.trans g3).le P,b0,om,fun e he=>(a2 e he).mono (O.trans g3).le (Nat.le_succ N)⟩⟩
  refine ax ?_;exact K.e rfl (xtq rfl (.tmp rfl .nil)) fun _ H=>xwq H O ⟨_,_,rfl,a4 _ O.le⟩
 refine cq (fun cb=>?_) (fun cb=>?_)
 ·refine ax ?_
  refine xpg 7 [3,6] [1,2,4,5] [0,3,6] (fun i=>match i with|3=>[0]|_=>[]) (fun i=>match i with|2=>[1]|3=>[0,2]|5=>[4]|6=>[5]|_=>[])
   (fun i _ _ v x=>match i with
    |0=>Ac 79 12 v [] x
    |1=>v=w_ b2 12/\x=[]
    |2=>v=.slice pa M pc/\x=[]
    |3=>Ac 79 12 v es x
    |4=>v=w_ b2 0/\x=[]
    |5=>v=.agg (tcs A t++[Value.slice ka kn V]).toArray/\x=[]
    |6=>Ac 79 12 v [tcs A t++[.slice ka kn V]] x
    |_=>True) (fun i hi val piece hq=>?_) (fun val piece j hj v x q=>?_) (fun val piece hq=>?_)
  ·match i,hi with
   |0,_=>
     refine xvk rfl rfl fun v Y o=>?_;have o:Ac 79 12 v [] Y:=o;exact xzq ⟨⟨_,rfl⟩,fun v' e=>by
      have e':=xpq e;subst e';show Ac _ _ _ _ ([Y]++[]).flatten;have ey:([Y]++([]:List Pcs)).flatten=Y:=by simp
      rw[ey];exact o⟩
   |1,_=>
     refine ex ?_;exact xzq ⟨⟨_,rfl⟩,fun v e=>⟨xpq e,rfl⟩⟩
   |2,_=>
     refine xnf (b:=b2) (off:=12) (cs:=(tcs A t++[Value.slice ka kn V,.slice pa M pc]).toArray) (T:=82) (z:=(0,0)) rfl rfl (by show some ([],val 1)=_;rw[(hq 1 rfl).1]) sdt ?_;exact xzq ⟨⟨_,rfl⟩,fun v e=>⟨xpq e,rfl⟩⟩
   |3,_=>
     have o1:Ac 79 12 (val 0) [] (piece 0):=hq 0 rfl;show DE _ _ _ _ _ _ _ _ _ [piece 0];refine xxg rfl rfl (by show some ([],val 2)=_;rw[(hq 2 rfl).1]) o1 (Sl.mono O.le P) (fun u hu=>by
      obtain⟨e,he,hu⟩:=List.mem_flatten.1 hu;exact(a2 e he).Nt u hu) (by simp;omega) fun v Y o=>?_
     rw[List.nil_append]at o;exact xzq ⟨⟨_,rfl⟩,fun v' e=>by
      have e':=xpq e;subst e';show Ac _ _ _ _ ([Y]++[]).flatten;have ey:([Y]++([]:List Pcs)).flatten=Y:=by simp
      rw[ey];exact o⟩
   |4,_=>
     refine ex ?_;exact xzq ⟨⟨_,rfl⟩,fun v e=>⟨xpq e,rfl⟩⟩
   |5,_=>
     refine xdp (b:=b2) (off:=0) (cs:=(tcs A t++[Value.slice ka kn V,.slice pa M pc]).toArray) (T:=82) (z:=(0,0)) rfl rfl (by show some ([],val 4)=_;rw[(hq 4 rfl).1]) sdt ?_;exact xzq ⟨⟨_,rfl⟩,fun v e=>⟨xpq e,rfl⟩⟩
   |6,_=>
     refine xvk (vs:=[(0,.agg (tcs A t++[Value.slice ka kn V]).toArray)]) (cells:=(tcs A t++[Value.slice ka kn V]).toArray) rfl (by rw[<- (hq 5 rfl).1];rfl) (fun v Y o=>?_) (hf:=by kernel_rfl) (hc:=by kernel_rfl) (hw:=by kernel_rfl) (hn:=by kernel_rfl);have o:Ac 79 12 v [tcs A t++[.slice ka kn V]] Y:=o;exact xzq ⟨⟨_,rfl⟩,fun v' e=>by
      have e':=xpq e;subst e';show Ac _ _ _ _ ([Y]++[]).flatten;have ey:([Y]++([]:List Pcs)).flatten=Y:=by simp
      rw[ey];exact o⟩
  ·simp only[List.mem_cons,List.not_mem_nil,or_false]at hj;rcases hj with rfl|rfl|rfl|rfl<;>exact q.2
  have o1:Ac 79 12 (val 3) es (piece 3):=hq 3 d_;have o2:Ac 79 12 (val 6) [tcs A t++[.slice ka kn V]] (piece 6):=hq 6 d_;have a7:StP p (N+1) (tcs A t++[.slice ka kn V]):=⟨A,t,ka,kn,V,ks,rfl,T,hv,S,hk,om⟩
  refine xgb (l':=[(2,none,w_ b2 0),(4,none,w_ b4 0),(76,none,val 3),(79,none,val 6)]) ?_ ⟨rfl,rfl,rfl,rfl,trivial⟩;clear hq;generalize val 3=v1 at*;generalize val 6=v2 at*;show RO _ _ _ _ _ _ [piece 3,piece 6,_,_,_];generalize piece 3=Z1 at*;generalize piece 6=Z2 at*;refine ax ?_;refine xfv rfl rfl o1 o2 (fun u hu=>a7.Nt u (by simpa using hu)) (by simp;omega) fun v3 Z3 o3=>?_;refine xpx o3 (m:=M+1) (by simp;omega) d_ fun p3 a3 c3 g3 e3 d8 S3=>?_;subst e3;refine ax ?_;exact K.e rfl (xtq rfl (.tmp rfl .nil)) fun _ H=>xwq H (O.trans g3) ⟨_,_,rfl,⟨A,t,ka,kn,V,ks,a3,M+1,c3,es++[tcs A t++[.slice ka kn V]],rfl,T2.mono g3.le,hv,Sl.mono (O.trans g3).le S,hk,om,S3,d8,om,fun e he=>(List.mem_append.1 he).elim (fun z=>(a2 e z).mono (O.trans g3).le (Nat.le_succ N)) fun z=>by rw[List.mem_singleton.1 z];exact a7.mono (O.trans g3).le (Nat.le_refl _)⟩⟩
 refine cq (fun cd=>?_) (fun cd=>?_)
 ·refine ax ?_;exact K.e rfl (xtq rfl (.tmp rfl .nil)) fun _ H=>xwq H O ⟨_,_,rfl,a4 _ O.le⟩
 have k2:(Aq w).1=2->0<M:=fun z=>Classical.byContradiction fun y=>cd ⟨by rw[z];rfl,om⟩;refine cq (fun ce=>?_) (fun ce=>?_)
 ·have b8:0<M:=k2 (by rw[ce];decide);refine ax ?_;refine xld (j:=M-1) rfl (by show some ([],Value.J _)=_;rw[show((M:Nat):Int)-1=((M-1:Nat):Int) by omega]) om ?_;refine ax ?_;exact K.e rfl (xtq rfl (.tmp rfl .nil)) fun _ H=>xwq H O ⟨_,_,rfl,⟨A,t,ka,kn,V,ks,pa,M-1,pc,es.take (M-1),rfl,T2,hv,Sl.mono O.le S,hk,om,xe3 (Sl.mono O.le P) (d:=M-1) om,om,om,fun e he=>(a2 e (List.mem_of_mem_take he)).mono O.le (Nat.le_succ N)⟩⟩
 refine cq (fun cf=>?_) (fun cf=>?_)
 ·have b8:0<M:=k2 (by rw[cf];decide);have hi:M-1<es.length:=om;obtain⟨A',t',k3,m3,a6,a9,e1,T',a8,S',d7,e6⟩:=a2 es[M-1] (List.getElem_mem hi);have c1:es[M-1]?=some (tcs A' t'++[.slice k3 m3 a6]):=by rw[List.getElem?_eq_getElem hi,e1]
  have P2:=Sl.mono O.le P;have b7:=Sl.get P2 (M-1) _ c1;refine ax ?_;refine xgl rfl rfl om om (Sl.ne P2 b8) ?_;rw[show(((M:Nat):Int)-1).toNat=M-1 by omega];refine xfk rfl b7 ?_;refine ax ?_;refine xld (j:=M-1) rfl (by show some ([],Value.J _)=_;rw[show((M:Nat):Int)-1=((M-1:Nat):Int) by omega]) om ?_;refine ax ?_;exact K.e rfl (xtq rfl (.tmp rfl .nil)) fun _ H=>xwq H O ⟨_,_,rfl,⟨A',t',k3,m3,a6,a9,pa,M-1,pc,es.take (M-1),rfl,T'.mono O.le,a8,Sl.mono O.le S',d7,om,xe3 P2 (d:=M-1) om,om,om,fun e he=>(a2 e (List.mem_of_mem_take he)).mono O.le (Nat.le_succ N)⟩⟩
 have d9:Aq w=(1,vn):=by
  refine Prod.ext ?_ b3.symm;have z:(Aq w).1≠2:=fun z=>by
   obtain⟨_,y⟩:=xt2 (w:=w) (n:=(Aq w).2) (by rw[<- z]);rcases y with y|y|y
   ·exact cb y
   ·exact ce y
   ·exact cf y
  show(Aq w).1=1;omega
 refine ax ?_;refine xvx rfl rfl (fun h pe=>c62 pe A t T2 hv w vn vc xs I d9) ?_;rintro _ p3 g3 ⟨A',t',q2,rfl,T',a8⟩;have g4:=O.trans g3;refine lq fun e8=>?_;refine cq (fun cg=>?_) (fun cg=>?_)
 ·refine ax ?_;exact K.e rfl (xtq rfl (.tmp rfl .nil)) fun _ H=>xwq H g4 ⟨_,_,rfl,a4 _ g4.le⟩
 refine ax ?_;exact K.e rfl (xtq rfl (.tmp rfl .nil)) fun _ H=>xwq H g4 ⟨_,_,rfl,⟨A',t',ka,kn,V,ks,pa,M,pc,es,rfl,T',a8,Sl.mono g4.le S,hk,om,Sl.mono g4.le P,b0,om,fun e he=>(a2 e he).mono g4.le (Nat.le_succ N)⟩⟩
set_option maxHeartbeats 800000 in
theorem yns{md:Md}{h:Heap}{p:Ab}(hp:Per p h)(A:TA)(t:Twn)(T:TwP p A t)(hn:t.fit 9223372036854775807){a:Option Addr}(n c:Nat)(ls:List Str)(S:B4 p a n ls):
 Aa prog md 19 #[twV A t,.slice a n c] h fun v h'=>(∃q:Bool,v=.bool q/\(q=false->t.fit 40/\ ∀s∈ls,s.length<=60))/\Af h h':=by
 have S1:Sl p a n 1 (scs ls):=S;have hl:ls.length=n:=by rw[<- xdz];exact S1.len
 refine xdq hp func19 fun _ _ _ K=>?_;refine xgq rfl fun b1=>?_;refine ax ?_;refine xrz rfl rfl (fun h pe=>c31 pe A t T hn) ?_;rintro _ ⟨q,rfl,M⟩;refine cq (fun _=>?_) (fun cc=>?_)
 ·refine ax ?_;exact K.r rfl rfl fun _ H=>⟨⟨true,rfl,fun z=>by cases z⟩,H.kept⟩
 obtain⟨a6,b3⟩:q=false/\n<=60:=by simp at cc;exact⟨cc.1,om⟩
 have a2:t.fit 40:=M a6;have a3:=a2.up (n':=2^20) om;refine ax ?_;refine xmq (fun m_ l p_ L_=>∃j:Nat,m_=n-j/\l=[(1,none,.slice a n c),(2,none,w_ b1 0),(5,none,.J ((j:Nat):Int))]/\p_=p/\L_=[[(b1,.cells (tcs A t).toArray 33 (0,0))]]/\j<=n/\ ∀i,i<j->(ls.getD i []).length<=60) ⟨0,rfl,rfl,rfl,rfl,Nat.zero_le _,fun i hi=>absurd hi (Nat.not_lt_zero _)⟩ sb ?_;rintro _ _ p _ IH ⟨j,rfl,rfl,rfl,rfl,hj,hs⟩;refine cq (fun cd=>?_) (fun cd=>?_)
 ·have a8:j<n:=om;refine ax ?_;refine xoz rfl (B4.get S a8) ?_;refine cq (fun ce=>?_) (fun ce=>?_)
  ·refine ax ?_;exact K.r rfl rfl fun _ H=>⟨⟨true,rfl,fun z=>by cases z⟩,H.kept⟩
  refine ax ?_;exact xhq (IH _ _ _ om ⟨j+1,rfl,rfl,rfl,rfl,om,fun i hi=>by
   by_cases z:i=j
   ·rw[z];omega
   ·exact hs i om⟩)
 obtain rfl:j=n:=om;have a5:∀s∈ls,s.length<=60:=fun s h=>by
  obtain⟨i,hi,rfl⟩:=List.mem_iff_getElem.1 h;have:=hs i om;rwa[Flow.Bn hi]at this
 clear IH;refine ax ?_;refine xiq rfl rfl (fun _ pe=>c20 pe A t T a3) ?_;refine cq (fun ce=>?_) (fun ce=>?_)
 ·refine ax ?_;exact K.r rfl rfl fun _ H=>⟨⟨false,rfl,fun _=>⟨a2,a5⟩⟩,H.kept⟩
 obtain⟨hv,b4⟩:B9 t=0/\j<=30:=by simp at ce;exact⟨ce.1,om⟩
 refine lq fun b6=>?_;refine ax ?_
 refine xmq (fun m_ l p_ L_=>∃(i:Nat)(A':TA)(t':Twn)(ka:Option Addr)(kn kc:Nat)(pa:Option Addr)(pn pc:Nat),m_=j-i/\l=[(1,none,.slice a j c),(6,none,w_ b6 0),(7,none,.J ((i:Nat):Int))]/\PG h.size [] p p_/\
  L_=[[(b6,.cells (tcs A' t'++[Value.slice ka kn kc,.slice pa pn pc]).toArray 82 (0,0))],[(b1,.cells (tcs A t).toArray 33 (0,0))]]/\i<=j/\Mo p_ i (.agg (tcs A' t'++[Value.slice ka kn kc,.slice pa pn pc]).toArray)) ⟨0,A,t,none,0,0,none,0,0,rfl,rfl,.refl _ _ _,rfl,Nat.zero_le _,⟨A,t,none,0,0,[],none,0,0,[],rfl,T,hv,Sl.nil _ _ _,fun i hi=>by simp at hi,Nat.le_refl _,Sl.nil _ _ _,Nat.le_refl _,Nat.le_refl _,fun e he=>by simp at he⟩⟩ sb ?_
 rintro _ _ p1 _ IH ⟨i,A',t',ka,kn,kc,pa,pn,pc,rfl,rfl,g1,rfl,hi,D⟩;have S2:B4 p1 a j ls:=Sl.mono g1.le S;have S3:Sl p1 a j 1 (scs ls):=S2;refine cq (fun cd=>?_) (fun cd=>?_)
 ·have a4:i<j:=om;have b7:=hs i a4;refine ax ?_
  refine xpg 11 [10,5] [0,1,2,3,4,6,7,8] [5,9,10] (fun i=>match i with|10=>[9]|_=>[]) (fun i=>match i with|3=>[1,2]|4=>[3]|5=>[0,4]|6=>[5]|7=>[5,6]|8=>[5,6]|10=>[5,7,9]|_=>[])
   (fun q val _ v x=>match q with
    |0=>v=.agg (tcs A' t'++[Value.slice ka kn kc,.slice pa pn pc]).toArray/\x=[]
    |1=>v=.slice a j c/\x=[]
    |2=>v=.J ((i:Nat):Int)/\x=[]
    |3=>v=.pointer (some ((adr a).add (i*1)))/\x=[]
    |4=>v=sv (ls.getD i [])/\x=[]
    |5=>∃(A2:TA)(O:Twn)(k2:Option Addr)(n2 c2:Nat)(q2:Option Addr)(V d2:Nat)(z:Str),v=.tuple #[.agg (tcs A2 O++[Value.slice k2 n2 c2,.slice q2 V d2]).toArray,sv z]/\ ∀p',PLe p1 p'->(∀y∈x,p' y.1=some y.2)->Mo p' (i+1) (.agg (tcs A2 O++[Value.slice k2 n2 c2,.slice q2 V d2]).toArray)
    |6=>v=val 5/\x=[]
    |7=>(∃(A2:TA)(O:Twn)(k2:Option Addr)(n2 c2:Nat)(q2:Option Addr)(V d2:Nat)(z:Str),val 5=.tuple #[.agg (tcs A2 O++[Value.slice k2 n2 c2,.slice q2 V d2]).toArray,sv z]/\v=.agg (tcs A2 O++[Value.slice k2 n2 c2,.slice q2 V d2]).toArray)/\x=[]
    |8=>(∃z,v=sv z)/\x=[]
    |9=>∃b,v=w_ b 0/\x=[(b,.cells #[.slice none 0 0,.slice none 0 0,.J 0,.J 0,.J 0,.slice none 0 0,.slice none 0 0,.slice none 0 0,.J 0,.J 0,.slice none 0 0,.slice none 0 0,.slice none 0 0] 82 (0,0))]
    |10=>∃b cs,val 9=w_ b 0/\val 7=.agg cs/\x=[(b,.cells cs 82 (0,0))]
    |_=>True) (fun q b0 val piece M=>?_) (fun val piece q hj v x M=>?_) (fun val piece M=>?_)
  ·match q,b0 with
   |0,_=>
     refine ex ?_;exact xzq ⟨⟨_,rfl⟩,fun v e=>⟨xpq e,rfl⟩⟩
   |1,_=>
     refine ex ?_;exact xzq ⟨⟨_,rfl⟩,fun v e=>⟨xpq e,rfl⟩⟩
   |2,_=>
     refine ex ?_;exact xzq ⟨⟨_,rfl⟩,fun v e=>⟨xpq e,rfl⟩⟩
   |3,_=>
     refine yqd (q:=j) (j:=i) rfl rfl (by show some ([],val 1)=_;rw[(M 1 rfl).1]) (by show some ([],val 2)=_;rw[(M 2 rfl).1]) sdt sdt ⟨a4,Sl.ne S3 om⟩ ?_;exact xzq ⟨⟨_,rfl⟩,fun v e=>⟨xpq e,rfl⟩⟩
   |4,_=>
     refine xgj rfl (by show some ([],val 3)=_;rw[(M 3 rfl).1]) (B4.get S2 a4) ?_;exact xzq ⟨⟨_,rfl⟩,fun v e=>⟨xpq e,rfl⟩⟩
   |5,_=>
     refine xuk (first:=[]) (cap:=[]) (vs:=[.agg (tcs A' t'++[Value.slice ka kn kc,.slice pa pn pc]).toArray,sv (ls.getD i [])]) (Q:=fun v x=>∃(A2:TA)(O:Twn)(k2:Option Addr)(n2 c2:Nat)(q2:Option Addr)(V d2:Nat)(z:Str),v=.tuple #[.agg (tcs A2 O++[Value.slice k2 n2 c2,.slice q2 V d2]).toArray,sv z]/\ ∀p',PLe p1 p'->(∀y∈x,p' y.1=some y.2)->Mo p' (i+1) (.agg (tcs A2 O++[Value.slice k2 n2 c2,.slice q2 V d2]).toArray)) rfl rfl (by show some (([]:List Prop),[val 0,val 4])=_;rw[(M 0 rfl).1,(M 4 rfl).1])
      (fun h pe=>(c32 pe i om D (ls.getD i []) om).mono fun v h' x=>by
       obtain⟨Z,⟨p4,⟨v',z,e,D2⟩,le⟩,N⟩:=x.pieces;have D3:=D2;obtain⟨A2,O,k2,n2,c2,d0,q2,V,d2,c1,rfl,_⟩:=D3;exact⟨Z,⟨A2,O,k2,n2,c2,q2,V,d2,z,e,fun p' l y=>D2.mono (le p' l y)⟩,N⟩) fun v Y o=>?_
     exact xzq ⟨⟨_,rfl⟩,fun v' e=>by
      have e':=xpq e;subst e';obtain⟨A2,O,k2,n2,c2,q2,V,d2,z,e1,h1⟩:=o;exact⟨A2,O,k2,n2,c2,q2,V,d2,z,e1,fun p' l y=>h1 p' l fun u hu=>y u (by simpa using hu)⟩⟩
   |6,_=>
     refine ex ?_;exact xzq ⟨⟨_,rfl⟩,fun v e=>⟨xpq e,rfl⟩⟩
   |7,_=>
     obtain⟨A2,O,k2,n2,c2,q2,V,d2,z,e5,_⟩:=M 5 rfl;have e6:val 6=val 5:=(M 6 rfl).1;refine yar rfl (by show some ([],val 6)=_;rw[e6,e5]) rfl ?_;exact xzq ⟨⟨_,rfl⟩,fun v e=>⟨⟨A2,O,k2,n2,c2,q2,V,d2,z,e5,xpq e⟩,rfl⟩⟩
   |8,_=>
     obtain⟨A2,O,k2,n2,c2,q2,V,d2,z,e5,_⟩:=M 5 rfl;have e6:val 6=val 5:=(M 6 rfl).1;refine yar rfl (by show some ([],val 6)=_;rw[e6,e5]) rfl ?_;exact xzq ⟨⟨_,rfl⟩,fun v e=>⟨⟨z,xpq e⟩,rfl⟩⟩
   |9,_=>
     refine xdh rfl fun b=>?_;exact xzq ⟨⟨_,rfl⟩,fun v e=>⟨b,xpq e,rfl⟩⟩
   |10,_=>
     obtain⟨b,e9,x9⟩:=M 9 rfl;obtain⟨⟨A2,O,k2,n2,c2,q2,V,d2,z,_,e7⟩,_⟩:=M 7 rfl;show DE _ _ _ _ _ _ _ _ _ [piece 9];rw[x9];refine xch (b:=b) (off:=0) rfl (by show some ([],val 9)=_;rw[e9]) (by show some ([],val 7)=_;rw[e7]) ?_;exact xzq ⟨⟨undef,rfl⟩,fun v e=>⟨b,_,e9,e7,rfl⟩⟩
  ·simp only[List.mem_cons,List.not_mem_nil,or_false]at hj;rcases hj with rfl|rfl|rfl|rfl|rfl|rfl|rfl|rfl<;>exact M.2
  obtain⟨A2,O,k2,n2,c2,q2,V,d2,z,e5,h5⟩:=M 5 d_;obtain⟨⟨A3,t3,k3,n3,c3,q3,m3,d3,z3,f5,e7⟩,_⟩:=M 7 d_;obtain⟨b8,cs,e9,f7,a9⟩:=M 10 d_;obtain⟨⟨z8,e8⟩,_⟩:=M 8 d_;have f5:val 5=_:=f5;have e9:val 9=_:=e9;have f7:val 7=_:=f7;rw[e5]at f5;rw[e7]at f7;injection f5 with f5;injection f7 with f7;have f6:Value.agg (tcs A2 O++[Value.slice k2 n2 c2,.slice q2 V d2]).toArray=.agg (tcs A3 t3++[Value.slice k3 n3 c3,.slice q3 m3 d3]).toArray:=Option.some.inj (show some _=some _ from congrArg (fun a:Array Value=>a[0]?) f5);injection f6 with f6;rw[<- f6]at f7;subst f7;refine xgb (l':=[(1,none,.slice a j c),(6,none,w_ b6 0),(7,none,.J ((i:Nat):Int)),(8,none,w_ b8 0),(54,none,sv z8)]) ?_ ⟨rfl,rfl,rfl,by show some (none,val 9)=_;rw[e9],by show some (none,val 8)=_;rw[e8],trivial⟩;clear M;show RO _ _ _ _ _ _ [piece 10,piece 5,_,_];rw[a9];generalize piece 5=Z at*;refine xfw Z fun p2 g2 hy=>?_;have D2:=h5 p2 g2.le hy;have D3:=D2;obtain⟨A4,t4,k4,n4,c4,b9,q4,m4,d4,b5,e4,T4,a7,_⟩:=D3;rw[e4]at D2;injection e4 with e4;rw[e4];refine ax ?_;refine xrz rfl rfl (fun h pe=>c31 pe A4 t4 T4 ((xsz a7).up om)) ?_;rintro _ ⟨q5,rfl,_⟩;refine cq (fun _=>?_) (fun _=>?_)
  ·refine ax ?_;exact K.r rfl rfl fun _ H=>⟨⟨true,rfl,fun z=>by cases z⟩,H.kept⟩
  refine ax ?_;exact xhq (IH _ _ _ om ⟨i+1,A4,t4,k4,n4,c4,q4,m4,d4,rfl,rfl,g1.trans g2,rfl,om,D2⟩)
 refine ax ?_;exact K.r rfl rfl fun _ H=>⟨⟨false,rfl,fun _=>⟨a2,a5⟩⟩,H.kept⟩
theorem yuj{md:Md}{h:Heap}{p:Ab}(hp:Per p h)(A:TA)(t:Twn)(T:TwP p A t)(hn:t.fit 9223372036854775807){a:Option Addr}(n c:Nat)(ls:List Str)(S:B4 p a n ls):
 Aa prog md 8 #[twV A t,.slice a n c] h fun v h'=>(∃q:Bool,v=.bool q/\(q=true->B9 t=0/\n<=30/\ ∀s∈ls,s.length<=60))/\Af h h':=by
 refine xdq hp func8 fun _ _ _ K=>?_;refine xgq rfl fun b1=>?_;refine ax ?_;refine xrz rfl rfl (fun h M=>yns M A t T hn n c ls S) ?_;rintro _ ⟨q,rfl,O⟩;refine ax ?_;refine xfx rfl rfl rfl sdu (fun V _ M=>c20 M A t T ((O (by simpa using V)).1.up om)) ?_;refine ax ?_;exact K.r rfl rfl fun _ H=>⟨⟨_,rfl,fun e=>by simp at e;exact⟨e.1.2,om,(O e.1.1).2⟩⟩,H.kept⟩
end Go.Proofs.YtblcmdjhidhnjaaGreatDoor
