/-
  Part of proofs about a town's master: a calculus for Bc beside goroutines that are only leaving, and the Bc. No condition.
-/
import Derived.Test.YtofhlcococeifaaGreatDoorYR
set_option maxHeartbeats 6400000
set_option maxRecDepth 100000
set_option synthInstance.maxSize 2000
namespace Go.X.Ms
variable{d:Dsk}{vs:List Int}{l:List Str}{n:Nat}{s w x z:Str}{t:Twn}
theorem yvx{x:Ln}(h:(Ch d x).2≠wOk)(M:x.l=[]):(Ch d x).1=d:=by
 unfold Ch at h⊢;split
 ·rfl
 ·rename_i V;rw[if_neg V]at h;cases hv:A5 d.now x.a with
  |none=>rfl
  |some vs=>
    rw[hv]at h;simp only at h⊢;split
    ·rename_i H;rw[if_pos H]at h;unfold tryD at h⊢;split
     ·rename_i c;rw[if_pos c]at h;exact absurd rfl h
     ·rename_i c;rw[if_neg c]at h;cases O:d.Bz.getLast? with
      |none=>rfl
      |some s=>
        rw[O]at h;simp only at h;split at h<;>exact absurd rfl h
    ·rename_i H;rw[if_neg H]at h;cases hq:qn (x.w++txt x.a.length)with
     |some q=>
       simp only;rw[M];unfold C5;split
       ·rfl
       ·split
        ·rfl
        ·rfl
     |none=>
       rw[hq]at h;cases ho:od (x.w++txt x.a.length)with
       |none=>rfl
       |some o=>
         rw[ho]at h;simp only at h⊢;unfold Ej at h⊢;cases ht:Ct o d.now.t vs with
         |none=>rfl
         |some t=>
           rw[ht]at h;simp only at h⊢;split
           ·rename_i c;rw[if_pos c]at h;exact absurd rfl h
           ·rfl
def stays(x:Str×Str):Bool:=decide (x.2=wOk)||decide ((Ag x.1).l≠[])
def leftZ(xs H:List Str):List (Str×Str):=(xs.zip H).filter stays
theorem xq5:∀(xs:List Str)(d:Dsk),Az d ((leftZ xs (Az d xs).2).map (·.1))=((Az d xs).1,(leftZ xs (Az d xs).2).map (·.2))
 |[],d=>rfl
 |x::xs,d=>by
   have H:=xq5 xs (doD d x).1;unfold leftZ at H⊢;rw[xsx,List.zip_cons_cons,List.filter_cons];by_cases c:stays (x,(doD d x).2)=true
   ·rw[if_pos c,List.map_cons,List.map_cons,xsx,H]
   ·rw[if_neg c];have hs:(doD d x).2≠wOk/\(Ag x).l=[]:=by
     unfold stays at c;simpa using c
    have e:(doD d x).1=d:=by
     rw[xcz]at hs⊢;exact yvx hs.1 hs.2
    rw[e]at H⊢;rw[H]
theorem yjb(n:Int):(txt n).headD 0=45\/C7 ((txt n).headD 0)=true:=by
 have h:∀m:Nat,C7 ((C9 m).headD 0)=true:=fun m=>by
  have M:=xlc (n:=m);have H:=xkc m;cases e:C9 m with
  |nil=>rw[e]at H;simp at H
  |cons c t=>exact M c (by rw[e];simp)
 unfold txt;split
 ·exact .inl rfl
 ·exact .inr (h _)
def lettered(s:Str):Bool:=decide (97<=(s.headD 0).toNat)
theorem yjx(n:Int):lettered (txt n)=false:=by
 unfold lettered;rw[decide_eq_false_iff_not];rcases yjb n with h|h
 ·rw[h];decide
 ·simp only[C7,decide_eq_true_eq]at h;omega
theorem xnm(n:Int)(s:Str):lettered (txt n++s)=false:=by
 have h:=yjx n;have H:=xz2 n;cases e:txt n with
 |nil=>rw[e]at H;simp at H
 |cons c t=>rw[e]at h;exact h
theorem yrb(r:Rs):lettered r.text=false\/r.text=[110,111,116,104,105,110,103]:=by
 cases r with
 |num n=>exact .inl (yjx n)
 |spn a b=>exact .inl (xnm a _)
 |lst l=>
   cases l with
   |nil=>exact .inr rfl
   |cons x l=>exact .inl (xnm x _)
theorem yqb{r:Rs}(h:lettered w=true)(H:w≠[110,111,116,104,105,110,103]):r.text≠w:=fun e=>by
 rcases yrb r with z|z
 ·rw[e,h]at z;cases z
 ·exact H (e.symm.trans z)
theorem yzw{q:Qn}{a:List Int}{l:Str}(h:lettered w=true)(O:w≠[110,111,116,104,105,110,103])(H:w≠Hq)(M:w≠Er):(C5 d q a l).2≠w:=fun e=>by
 unfold C5 at e;split at e
 ·exact H e.symm
 ·split at e
  ·exact M e.symm
  ·exact yqb h O e
theorem yxx(d:Dsk)(x:Str):((Ag x).k=0<->(doD d x).2=Dh)/\ ¬ (((doD d x).2=wOk\/(doD d x).2=wNo)/\(Ag x).k=3)/\
 ((Ag x).k≠3->(Ag x).k≠0->(doD d x).2=wOk\/(doD d x).2=wNo\/(doD d x).2=Ay/\Cr x=true):=by
 rw[xcz];have hf:=xek x;unfold Ch;by_cases H:(Ag x).k=0
 ·rw[if_pos H];exact⟨⟨fun _=>rfl,fun _=>H⟩,fun z=>om,fun _ z=>absurd H z⟩
 rw[if_neg H];cases hv:A5 d.now (Ag x).a with
 |none=>
   have hl:Cr x=true:=by
    unfold Cr;cases e:(Ag x).a.any isLet with
    |true=>rfl
    |false=>exact absurd hv (xpb e)
   show((Ag x).k=0<->Ay=Dh)/\ ¬ ((Ay=wOk\/Ay=wNo)/\_)/\(_->_->Ay=wOk\/Ay=wNo\/Ay=Ay/\_)
   exact⟨⟨fun z=>absurd z H,fun z=>absurd z d_⟩,fun z=>by rcases z.1 with z|z<;>exact absurd z d_,fun _ _=>.inr (.inr ⟨rfl,hl⟩)⟩
 |some vs=>
   simp only;by_cases M:(Ag x).k=2
   ·rw[if_pos M];have V:∀b,(Ek b=wOk\/Ek b=wNo)/\Ek b≠Dh:=fun b=>by cases b<;>decide
    refine⟨⟨fun z=>absurd z H,fun z=>absurd z (V _).2⟩,fun z=>om,fun _ _=>?_⟩;rcases(V (tryD d (Ag x).w).2).1 with z|z
    ·exact .inl z
    ·exact .inr (.inl z)
   ·rw[if_neg M];rcases hf with e|⟨w,args,l,e,k0,hn,hl,hc,_⟩
    ·rw[e]at H;exact absurd rfl H
    rw[e]at H M⊢;simp only at H M⊢;have a2:=(xzf w).1;by_cases O:(Aq w).1=3
    ·obtain⟨q,hq⟩:=yfn (w:=w) (n:=args.length) (by rw[hn,<- O]);rw[hq];simp only;refine⟨⟨fun z=>absurd z H,fun z=>absurd z (yzw d_ d_ d_ d_)⟩,fun z=>?_,fun z=>absurd O z⟩;rcases z.1 with z|z<;>exact absurd z (yzw d_ d_ d_ d_)
    ·obtain⟨o,ho⟩:=yc0 (w:=w) (n:=args.length) (by rw[hn,<- show(Aq w).1=1 by omega]);rw[xo3 O,ho];simp only;have ht:(Ej d o vs).2=wOk\/(Ej d o vs).2=wNo:=by
      unfold Ej;cases Ct o d.now.t vs with
      |none=>exact .inr rfl
      |some t=>
        simp only;split
        ·exact .inl rfl
        ·exact .inr rfl
     refine⟨⟨fun z=>absurd z H,fun z=>?_⟩,fun z=>absurd z.2 O,fun _ _=>?_⟩
     ·rcases ht with y|y<;>(rw[y]at z;exact absurd z d_)
     ·rcases ht with y|y
      ·exact .inl y
      ·exact .inr (.inl y)
theorem xx6:∀{s:Str}{acc m:Nat},E6 acc s=some m-> ∀c∈s,C7 c=true
 |[],_,_,_,c,h=>by cases h
 |x::s,acc,m,e,c,h=>by
   rw[E6]at e;split at e
   ·rename_i H;rcases List.mem_cons.1 h with rfl|h
    ·exact H
    ·exact xx6 e c h
   ·cases e
theorem xv6{b:Bool}{m:Nat}(e:Hv b s=some m):∀c∈s,C7 c=true:=by
 unfold Hv at e;split at e
 ·cases e
 ·exact xx6 e
theorem xr9(h:(32:UInt8)∈s):Cu s=none:=by
 cases e:Cu s with
 |none=>rfl
 |some m=>
   exfalso;unfold Cu at e;split at e
   ·rename_i H;obtain⟨n,hn,_⟩:=Option.map_eq_some_iff.1 e;cases s with
    |nil=>cases h
    |cons a t=>
      rcases List.mem_cons.1 h with rfl|h
      ·exact absurd (show(32:UInt8)=45 from H) d_
      ·exact absurd (xv6 hn 32 h) d_
   ·obtain⟨n,hn,_⟩:=Option.map_eq_some_iff.1 e;exact absurd (xv6 hn 32 h) d_
theorem xm0{p:Str}(H:(32:UInt8)∉p):∀n(l:List Str),l.length=n->(∀x∈l,(32:UInt8)∉x)->Ad (glZ [32] p l)=p::l
 |0,l,e,_=>by rw[List.length_eq_zero_iff.1 e];exact xvg H
 |n+1,l,e,h=>by
   have M:l≠[]:=fun k=>by rw[k]at e;cases e
   obtain⟨m,y,rfl⟩:∃m y,l=m++[y]:=⟨l.dropLast,l.getLast M,(List.dropLast_concat_getLast M).symm⟩
   rw[xdg,List.append_assoc,show [32]++y=32::y from rfl,xqm _ (h _ s_),xm0 H n m (by simpa using e) fun x O=>h x (List.mem_append_left _ O)];rfl
def wKeepQ:Str:=[107,101,101,112,32,113,32]
def wLacks:Str:=[108,97,99,107,115]
def wShort:Str:=[115,104,111,114,116]
def putA(z:Str)(l:List Str):List Str:=l.map fun s=>if isLet s=true then z else s
theorem xn9(M:Ba z=true)(h:l.all Ba=true):(putA z l).all Ba=true:=by
 rw[List.all_eq_true]at h⊢;intro s hs;obtain⟨u,H,rfl⟩:=List.mem_map.1 hs;split
 ·exact M
 ·exact h u H
theorem xlf(z:Str)(l:List Str):(putA z l).length=l.length:=List.length_map ..
theorem xa6(hk:(Ag x).k≠0)(hz:Ba z=true)(a2:(32:UInt8)∉z):Ag (glZ [32] (Ag x).w (putA z (Ag x).a))=⟨(Ag x).w,(Ag x).k,putA z (Ag x).a,[]⟩:=by
 rcases xek x with e|⟨w,args,l,e,k0,hn,_,hc,hs⟩
 ·rw[e]at hk;exact absurd rfl hk
 rw[e];simp only;have H:=xn0 (s:=x);rw[hs]at H;have hw:(32:UInt8)∉w/\ ∀s∈args,(32:UInt8)∉s:=by
  split at H
  ·exact⟨H w s_,fun s hs=>H s (by simp[hs])⟩
  ·exact⟨H w s_,fun s hs=>H s (by simp[hs])⟩
 have M:Ad (glZ [32] w (putA z args))=w::putA z args:=xm0 hw.1 _ _ rfl fun s hs=>by
  obtain⟨u,hu,rfl⟩:=List.mem_map.1 hs;split
  ·exact a2
  ·exact hw.2 u hu
 have V:w≠D7:=fun z=>by rw[z]at k0;exact k0 d_
 unfold Ag;rw[M];have O:Dz (w::putA z args)=false:=by
  unfold Dz;rw[List.headD_cons,decide_eq_false V,Bool.and_false,Bool.false_and]
 rw[O,if_neg s_];unfold Ei;rw[List.headD_cons,List.tail_cons,if_neg,if_pos (xn9 hz hc)];rintro(h|h|h)
 ·exact k0 h
 ·exact h (by rw[List.length_cons,xlf,hn])
 ·exact h.1 rfl
theorem xx4{d:Cv}{s:Str}(h:H6 d s=none):∀{xs:List Str},s∈xs->A5 d xs=none
 |[],hm=>by cases hm
 |x::xs,hm=>by
   rw[A5];rcases List.mem_cons.1 hm with rfl|hm
   ·rw[h]
   ·cases H6 d x with
    |none=>rfl
    |some n=>simp only;rw[xx4 h hm];rfl
theorem xf0{d e:Cv}{f g:Str->Str}:∀{xs:List Str},(∀s∈xs,H6 d (f s)=H6 e (g s))->A5 d (xs.map f)=A5 e (xs.map g)
 |[],_=>rfl
 |x::xs,h=>by
   rw[List.map_cons,List.map_cons,A5,A5,h x s_,xf0 fun s hs=>h s (List.mem_cons_of_mem _ hs)]
theorem yen{q:Qn}(h:qn (w++txt ((n:Nat):Int))=some q):(q=.Ed<->w=wLacks)/\(q=.short<->w=wShort):=by
 have hn:=ygn h;have H:=xas (w:=w) (n:=n) (by rw[hn];cases q<;>decide);generalize w++txt ((n:Nat):Int)=z at h H;unfold qn at h
 iterate 14 (rcases xft h with⟨c,e⟩|⟨_,h⟩;(subst e;subst c;subst H;exact⟨⟨fun z=>(by first|rfl|cases z),fun z=>(by first|rfl|exact absurd z d_)⟩,⟨fun z=>(by first|rfl|cases z),fun z=>(by first|rfl|exact absurd z d_)⟩⟩))
 cases h
theorem yvr{q:Qn}{a:List Int}:(q=.Ed\/q=.short<-> ∃l,(B2 q t a).1=.lst l):=by
 cases q<;>simp[B2]
theorem ygh:Cu Hq=none/\Cu Er=none:=by decide
theorem yyg(hv:Cj t=0){q:Qn}{a0:Str}(hq:qn (w++txt ((n:Nat):Int))=some q)(H:a0=(C5 (Ai t) q vs []).2):
 if(Cu a0).isSome=true/\w≠wLacks/\w≠wShort then ∃m:Int,(-999999<=m/\m<=999999)/\a0=txt m/\(C5 (Ai t) q vs [113]).1=Hi (Ai t) [113] (.num m)else(C5 (Ai t) q vs [113]).1=Ai t:=by
 have hw:=yen hq;have h6:=yab q t vs hv;have ht:(Ai t).now.t=t:=rfl;have O:=yvr (q:=q) (t:=t) (a:=vs);unfold C5 at H⊢;rw[ht]at H⊢;by_cases V:(B2 q t vs).2=3
 ·rw[if_pos V]at H⊢;rw[H,if_neg fun z=>by rw[show((Ai t,Hq):Dsk×Str).2=Hq from rfl,ygh.1]at z;exact absurd z.1 s_]
 rw[if_neg V]at H⊢;by_cases c0:(B2 q t vs).2≠0
 ·rw[if_pos c0]at H⊢;rw[H,if_neg fun z=>by rw[show((Ai t,Er):Dsk×Str).2=Er from rfl,ygh.2]at z;exact absurd z.1 s_]
 rw[if_neg c0]at H⊢;rw[if_pos (show([113]:Str)≠[] by simp)];have H:a0=(B2 q t vs).1.text:=H;cases e:(B2 q t vs).1 with
 |num m=>
   rw[e]at h6 H;have hm: -999999<=m/\m<=999999:=h6;have hn:q≠.Ed/\q≠.short:=by
    constructor<;>intro z
    ·obtain⟨l,M⟩:=O.1 (.inl z);rw[e]at M;cases M
    ·obtain⟨l,M⟩:=O.1 (.inr z);rw[e]at M;cases M
   have H:a0=txt m:=H;rw[if_pos ⟨by rw[H,xwl hm];rfl,fun z=>hn.1 (hw.1.2 z),fun z=>hn.2 (hw.2.2 z)⟩];exact⟨m,hm,H,rfl⟩
 |spn x y=>
   rw[e]at H;have zb:Cu (Rs.spn x y).text=none:=xr9 (by show(32:UInt8)∈txt x++([32,116,111,32]++txt y);simp);rw[if_neg fun z=>by rw[H,zb]at z;exact absurd z.1 s_];rfl
 |lst l=>
   rw[if_neg fun z=>?_]
   ·rfl
   ·rcases O.2 ⟨l,e⟩with y|y
    ·exact z.2.1 (hw.1.1 y)
    ·exact z.2.2 (hw.2.1 y)
theorem xj9(O:(Ag x).k=3)(M:(Ag x).l=[]):Ag (wKeepQ++x)=⟨(Ag x).w,3,(Ag x).a,[113]⟩/\Ag x=⟨(Ag x).w,3,(Ag x).a,[]⟩:=by
 have hs:Ad (wKeepQ++x)=D7::[113]::Ad x:=by
  rw[show wKeepQ++x=D7++32::([113]++32::x) from rfl,xmc _ d_,xmc _ d_]
 rcases xek x with e|⟨w,args,l,e,k0,hn,_,hc,h6⟩
 ·rw[e]at O;cases O
 rw[e]at O M⊢;have H:(Aq w).1=3:=O;have M:l=[]:=M;subst M;rw[if_pos rfl]at h6;simp only;refine⟨?_,by rw[H]⟩;unfold Ag;rw[hs,h6];have V:Dz (D7::[113]::w::args)=true:=by
  unfold Dz;rw[List.headD_cons,decide_eq_true (show 2<(D7::[113]::w::args).length by simp),decide_eq_true rfl];rfl
 rw[if_pos V];show Ei [113] (w::args)=_;unfold Ei;rw[List.headD_cons,List.tail_cons,if_neg,if_pos hc,H];rintro(h|h|h)
 ·exact k0 h
 ·exact h (by rw[List.length_cons,hn])
 ·exact h.2 H
theorem xrd(hv:Cj t=0){y:Str}(H:(Ag x).k=3)(V:(Ag x).l=[])(a4:Cr x=false)(hy:(Ag y).k≠0):
 ∃a0 a1 t1,Bt t [x]=([a0],t)/\Bt t [wKeepQ++x,glZ [32] (Ag y).w (putA [113] (Ag y).a)]=([a0,a1],t1)/\
  if(Cu a0).isSome=true/\(Ag x).w≠wLacks/\(Ag x).w≠wShort then ∃b,Bt t [glZ [32] (Ag y).w (putA a0 (Ag y).a)]=([b],t1)/\a1=b/\a0.length<=20
  else Cr y=true->a1=Ay/\t1=t:=by
 obtain⟨a3,ex⟩:=xj9 H V;obtain⟨q,hq⟩:∃q,qn ((Ag x).w++txt (((Ag x).a.length:Nat):Int))=some q:=by
  rcases xek x with e|⟨w,args,l,e,k0,hn,_,hc,h6⟩
  ·rw[e]at H;cases H
  ·rw[e]at H⊢;exact yfn (by rw[hn];exact Prod.ext H rfl)
 obtain⟨vs,M⟩:∃vs,A5 (Ai t).now (Ag x).a=some vs:=by
  cases e:A5 (Ai t).now (Ag x).a with
  |none=>exact absurd e (xpb a4)
  |some vs=>exact⟨vs,rfl⟩
 have d1:doD (Ai t) x=C5 (Ai t) q vs []:=by
  rw[xcz,ex];unfold Ch;simp only[M,hq];rfl
 have d2:doD (Ai t) (wKeepQ++x)=C5 (Ai t) q vs [113]:=by
  rw[xcz,a3];unfold Ch;simp only[M,hq];rfl
 have e2:(C5 (Ai t) q vs [113]).2=(C5 (Ai t) q vs []).2:=by
  unfold C5;split
  ·rfl
  ·split<;>rfl
 have et:=xhc (Ai t) q vs [];have O:=yyg hv (w:=(Ag x).w) hq rfl (vs:=vs);have hL:=xa6 (x:=y) (z:=[113]) hy d_ d_;refine⟨(C5 (Ai t) q vs []).2,(doD (C5 (Ai t) q vs [113]).1 (glZ [32] (Ag y).w (putA [113] (Ag y).a))).2,(doD (C5 (Ai t) q vs [113]).1 (glZ [32] (Ag y).w (putA [113] (Ag y).a))).1.now.t,?_,?_,?_⟩
 ·rw[xfj hv s_,xsx,d1];exact Prod.ext rfl et.1
 ·rw[xfj hv s_,xsx,xsx,d2,e2];rfl
 by_cases c:(Cu (C5 (Ai t) q vs []).2).isSome=true/\(Ag x).w≠wLacks/\(Ag x).w≠wShort
 ·rw[if_pos c]at O⊢;obtain⟨m,hm,ea,ed⟩:=O;have cm:Ba (txt m)=true:=by unfold Ba;rw[xwl hm];rfl
  have hP:=xa6 (x:=y) (z:=txt m) hy cm (yjs m);rw[ea,ed,xfj hv s_,xsx];have tw:Twin (Hi (Ai t) [113] (.num m)) (Ai t):=⟨rfl,rfl⟩
  have hs:=xi0 tw (w:=(Ag y).w) (k:=(Ag y).k) (a:=putA [113] (Ag y).a) (a':=putA (txt m) (Ag y).a) (l:=[]) (l':=[]) (by rw[xlf,xlf]) (xf0 fun s _=>by
   by_cases z:isLet s=true
   ·rw[if_pos z,if_pos z,xpl d_,xvw (by rw[ysk];simp),xwl hm];rfl
   ·rw[if_neg z,if_neg z,xvw z,xvw z])
  refine⟨_,Prod.ext rfl ?_,?_,xuz ⟨om,om⟩⟩
  ·rw[xcz,xcz,hL,hP];exact hs.2.1.symm
  ·rw[xcz,xcz,hL,hP];exact hs.1
 ·rw[if_neg c]at O⊢;intro a2;rw[O,xcz,hL];obtain⟨s,hs,hl⟩:=List.any_eq_true.1 a2;have hn:A5 (Ai t).now (putA [113] (Ag y).a)=none:=xx4 (s:=[113]) (by rw[xpl d_];rfl) (List.mem_map.2 ⟨s,hs,if_pos hl⟩);unfold Ch;simp only[hn,if_neg hy];constructor<;>first|rfl|trivial
theorem ytc(x:Str):(Ag x).w.length<=x.length/\ ∀s∈(Ag x).a,s.length<=x.length:=by
 rcases xek x with e|⟨w,args,l,e,_,_,_,_,hs⟩
 ·rw[e];exact⟨Nat.zero_le _,fun s h=>by cases h⟩
 ·rw[e];have H:∀s∈w::args,s∈Ad x:=fun s h=>by
   rw[hs];split
   ·exact h
   ·exact List.mem_cons_of_mem _ (List.mem_cons_of_mem _ h)
  exact⟨xpk (H w s_),fun s h=>xpk (H s (List.mem_cons_of_mem _ h))⟩
theorem xz4:∀{l:List Int},(∀i,i<l.length->m6 (l.getD i 0))->(Mz l).length<=21*l.length
 |[],_=>Nat.zero_le _
 |x::l,h=>by
   have H:=xz4 (l:=l) fun i hi=>h (i+1) (by simpa using hi);have M:m6 x:=h 0 s_;have:=xuz (n:=x) ⟨om,om⟩;simp only[Mz,List.length_append,List.length_cons];omega
theorem ysb{r:Rs}(h:r.m6):r.text.length<=1300:=by
 cases r with
 |num n=>
   have h:m6 n:=h;have:=xuz (n:=n) ⟨om,om⟩;show(txt n).length<=_;omega
 |spn a b=>
   have h:m6 a/\m6 b:=h;have:=xuz (n:=a) ⟨om,om⟩;have:=xuz (n:=b) ⟨om,om⟩;show(txt a++([32,116,111,32]++txt b)).length<=_;simp only[List.length_append,List.length_cons,List.length_nil];omega
 |lst l=>
   obtain⟨M,H⟩:=(h:l.length<=60/\ ∀i,i<l.length->m6 (l.getD i 0))
   show(Nt l).length<=_;cases l with
   |nil=>decide
   |cons x l=>
     have O:m6 x:=H 0 s_;have:=xuz (n:=x) ⟨om,om⟩;have:=xz4 (l:=l) fun i hi=>H (i+1) (by simpa using hi);simp only[Nt,List.length_append,List.length_cons]at M⊢;omega
theorem yvb(hv:Cj d.now.t=0)(x:Str):(doD d x).2.length<=1300:=by
 rw[xcz];unfold Ch;have H:∀b,(Ek b).length<=1300:=fun b=>by cases b<;>decide
 split
 ·show Dh.length<=1300;decide
 ·split
  ·show Ay.length<=1300;decide
  ·split
   ·exact H _
   ·split
    ·rename_i q _;unfold C5;split
     ·show Hq.length<=1300;decide
     ·split
      ·show Er.length<=1300;decide
      ·exact ysb (yab q _ _ hv)
    ·split
     ·rename_i o _;unfold Ej;split
      ·show wNo.length<=1300;decide
      ·split
       ·show wOk.length<=1300;decide
       ·show wNo.length<=1300;decide
     ·show Dh.length<=1300;decide
theorem ygc(hv:Cj t=0){a0:Str}{H:Twn}(h:Bt t [x]=([a0],H)):a0.length<=1300:=by
 rw[xfj hv s_,xsx]at h;have e:(doD (Ai t) x).2=a0:=by
  have:=congrArg Prod.fst h;simp[Az]at this;exact this
 rw[<- e];exact yvb (d:=Ai t) hv x
theorem yzk{B:Nat}(hw:w.length<=B)(hz:z.length<=B)(O:∀s∈l,s.length<=B)(h4:l.length<=4)(j:Nat):(glZ [32] w ((putA z l).take j)).length<=5*B+4:=by
 rw[yyk];have h:∀{l:List Str},(∀s∈l,s.length<=B)->l.flatten.length<=B*l.length:=fun{l}=>by
  induction l with
  |nil=>intro _;simp
  |cons a l ih=>
    intro h;have:=ih fun s hs=>h s (List.mem_cons_of_mem _ hs);have:=h a s_;rw[List.flatten_cons,List.length_append,List.length_cons,Nat.mul_succ];omega
 have V:∀s∈(putA z l).take j,s.length<=B:=fun s hs=>by
  obtain⟨u,H,rfl⟩:=List.mem_map.1 (List.mem_of_mem_take hs);split
  ·exact hz
  ·exact O u H
 have h1:=h V;have M:((putA z l).take j).length<=4:=by rw[List.length_take,xlf];omega
 have h3:B*((putA z l).take j).length<=B*4:=Nat.mul_le_mul_left _ M;rw[List.length_singleton];omega
theorem xg1{j:Nat}(H:j<l.length):(putA z l).take (j+1)=(putA z l).take j++[if isLet (l.getD j [])=true then z else l.getD j []]:=by
 have e:(putA z l)[j]?=some (if isLet (l.getD j [])=true then z else l.getD j []):=by
  unfold putA;rw[List.getElem?_map,List.getElem?_eq_getElem H,Flow.Au H];rfl
 rw[List.take_add_one,e];rfl
end Go.X.Ms
namespace Go.Proofs.YtofhlcococeifaaGreatDoor
open Go.Proofs.Tryz
open Go.X Go.X.Ms Go.Conc Go.RowKit Go.ChangeShapes Go.WideShapes Go.ChangeAt Go.Joins
theorem xp6{H:Type}{enc:TypeId×Value->H}{W:World}{M:Nat}{v:Value}{d:DataW H}{p:List MemPlace}(hv:Value.okWide prog W .any M 9 v)(h:DataW.Trod enc prog W 0 (fun _=>true) true 9 v d p):∃s:Str,v=sv s:=by
 obtain⟨s,rfl,_⟩:=Go.ChangeMaps.open_string underlying9 hv h;exact⟨s.data.toList,by rw[sv,yx2]⟩
open Go.X Go.X.Ms Go.Conc
open Go.X.Flow (ics)
theorem ydg(h:Heap)(p:Ab)(hp:Per p h)(A:TA)(t:Twn)(T:TwP p A t)(hn:t.fit 9223372036854775807)(g:GlP p)(x y:Str):En prog (.main true) 6 #[twV A t,sv x,sv y] h fun v h'=>v=.bool true/\Av h h':=by
 refine xdm hp func6 ?_;refine bq fun b3=>?_;refine cq (fun _=>?_) (fun cc=>?_)
 ·refine cdq (cf9 g) ?_;refine ax ?_;exact xij k_ func6 rfl rfl fun _ M=>⟨rfl,M.kept⟩
 obtain⟨lx,ly⟩:x.length<=40/\y.length<=40:=by simp at cc;omega
 refine ax ?_;refine xqk rfl rfl (cf16 x om) ?_;rintro _ p1 g1 ⟨a1,c1,rfl,_,_⟩;refine ax ?_;refine xqk rfl rfl (cf16 y om) ?_;rintro _ p2 g2 ⟨a2,c2,rfl,_,S2⟩;have hL:=fun hv=>xrd (t:=t) (x:=x) (y:=y) hv;have b6:=ytc y;have h4:=xe1 y;generalize Ag x=rx at*;generalize Ag y=ry at*;have T2:=(T.mono g1.le).mono g2.le;have G2:=(g.mono g1.le).mono g2.le;refine lq fun b7=>?_;refine lq fun b8=>?_;refine ax ?_;refine xqz rfl rfl rfl sdu (fun _=>cf12 x om) ?_;refine ax ?_;generalize hb:(decide (((rx.k:Nat):Int)≠3)||!decide (rx.l=[])||Cr x||decide (((ry.k:Nat):Int)=0))=B;cases B with
 |true=>
   refine xff undef rfl ?_;refine ax ?_;refine xff undef rfl ?_;refine ax ?_;refine xff (.bool true) rfl ?_;refine ax ?_;refine xcx rfl (fun _=>?_) (fun cc=>(cc s_).elim);refine cdq (cf9 G2) ?_;refine ax ?_;exact xij k_ func6 rfl rfl fun _ M=>⟨rfl,M.kept⟩
 |false=>
 simp only[Bool.or_eq_false_iff,Bool.not_eq_false',decide_eq_true_eq,decide_eq_false_iff_not]at hb;obtain⟨⟨⟨k3,k0⟩,f0⟩,ky⟩:=hb;have k3:rx.k=3:=om;refine xy0 rfl rfl ⟨rfl,trivial⟩ fun v1 Y1 o1=>?_;have o1:Aa 9 1 v1 (scs [x]) Y1:=o1;refine xzq o1 (m:=1) rfl d_ fun p3 a3 c3 g3 e3 _ S3=>?_;subst e3;have S3:At p3 a3 1 [x]:=S3;have T3:=T2.mono g3.le;have G3:=G2.mono g3.le;refine ax ?_;refine xdr rfl rfl rfl sdu (xlh A t T3 hn 1 c3 [x] S3) fun q1 h1=>?_;refine cq (fun _=>?_) (fun cc=>?_)
 ·refine cdq (cf9 G3) ?_;refine ax ?_;exact xij k_ func6 rfl rfl fun _ M=>⟨rfl,M.kept⟩
 obtain rfl:q1=true:=by simpa using cc
 obtain⟨hv,_,_⟩:=h1 rfl rfl;obtain⟨a0,a5,t1,r1,r2,r3⟩:=hL hv om k0 f0 om;have f2:=ygc hv r1;clear hL cc h1;have e9:Cj t1=0:=by
  have:=xhw (ls:=[wKeepQ++x,glZ [32] ry.w (putA [113] ry.a)]) hv s_;rwa[r2]at this
 refine ax ?_;refine xxx rfl fun v4 Y4 o4=>?_;have o4:Aa 9 1 v4 (scs [x]) Y4:=o4;refine xzq o4 (m:=1) rfl d_ fun p4 a4 c4 g4 e4 _ S4=>?_;subst e4;refine ax ?_;refine xqk rfl rfl (fun h pe=>cf10 pe A t (T3.mono g4.le) (G3.mono g4.le) c4 [x] S4 (fun s hs=>by rw[List.mem_singleton.1 hs];omega) hv s_) ?_;rintro _ p6 g6 ⟨a6,c6,A6,rfl,h8,S6,T6⟩;rw[r1]at S6 T6⊢;rw[show([x]:List Str).length=1 from rfl];have S6:At p6 a6 1 [a0]:=S6;have d9:Sl p6 a6 1 1 (scs [a0]):=S6;have T6:=(T3.mono g4.le).mono g6.le;have G6:=(G3.mono g4.le).mono g6.le;have S2:At p6 a2 ry.a.length ry.a:=At.mono (g3.le.trans (g4.le.trans g6.le)) S2;have f6:Sl p6 a2 ry.a.length 1 (scs ry.a):=S2;refine lq fun h0=>?_;refine ax ?_;refine cq (fun V=>?_) (fun _=>?_)
 ·exact absurd V s_
 refine ax ?_;refine ro_y rfl (y_lp rfl (At.get S6 (i:=0) om)) ?_;refine cdq (cf17 a0) ?_;rw[show Pk (Cu a0)=.tuple #[.J ((Cu a0).getD 0),.bool (Cu a0).isSome] from rfl];refine ax ?_;obtain⟨B1,H⟩:∃B1,B1=((Cu a0).isSome&&!decide (rx.w=[108,97,99,107,115])&&!decide (rx.w=[115,104,111,114,116])):=⟨_,rfl⟩
 rw[<- H];refine xrs [] R5 ?_;refine xa ?_;refine xbx (l':=[(1,none,sv x),(2,none,sv y),(3,none,w_ b3 0),(8,none,w_ b8 0),(9,none,.slice a6 1 c6),(13,none,.bool B1),(14,none,sv (glZ [32] ry.w ((putA [113] ry.a).take 0))),(15,none,sv (glZ [32] ry.w ((putA a0 ry.a).take 0))),(16,none,.J 0)]) ?_ sb;refine xnq (fun m l'=>∃(j:Nat),m=ry.a.length-j/\l'=[(1,none,sv x),(2,none,sv y),(3,none,w_ b3 0),(8,none,w_ b8 0),(9,none,.slice a6 1 c6),(13,none,.bool B1),(14,none,sv (glZ [32] ry.w ((putA [113] ry.a).take j))),(15,none,sv (glZ [32] ry.w ((putA a0 ry.a).take j))),(16,none,.J ((j:Nat):Int))]/\j<=ry.a.length) ⟨0,rfl,rfl,Nat.zero_le _⟩ sb ?_;rintro _ _ IH ⟨j,rfl,rfl,hj⟩;have b1:=yzk (w:=ry.w) (z:=[113]) (l:=ry.a) (B:=40) om d_ (fun s hs=>by have:=b6.2 s hs;omega) h4 j;have b2:=yzk (w:=ry.w) (z:=a0) (l:=ry.a) (B:=1300) om f2 (fun s hs=>by have:=b6.2 s hs;omega) h4 j;refine cq (fun V=>?_) (fun V=>?_)
 ·have O:j<ry.a.length:=om;have i0:(ry.a.getD j []).length<=40:=by
   have:=b6.2 (ry.a.getD j []) (by rw[Flow.Au O];exact List.getElem_mem _);omega
  have e1:=xg1 (z:=[113]) O;have e2:=xg1 (z:=a0) O;refine ax ?_;refine ro_y rfl (y_lp rfl (At.get S2 O)) ?_;refine cdq (cf18 (ry.a.getD j [])) ?_;refine cq (fun ce=>?_) (fun ce=>?_)
  ·rw[if_pos ce]at e1 e2;refine ax ?_;refine yfj R10 ?_;refine ex ?_;refine de_y rfl rfl (xow rfl rfl (by simp only[List.length_cons,List.length_nil];omega)) ?_;refine ex ?_;refine de_y rfl rfl (xow rfl rfl (by simp only[List.length_cons,List.length_nil];omega)) ?_;refine ex ?_;refine de_y rfl rfl (y_lp rfl (At.get S6 (i:=0) om)) ?_;refine ex ?_;refine de_y rfl rfl (xow rfl rfl (by show _+a0.length<=_;simp only[List.length_cons,List.length_nil,List.length_append];omega)) ?_;refine ex ?_;exact bkq (IH _ om ⟨j+1,rfl,by rw[e1,e2,xdg,xdg,List.append_assoc],om⟩)
  ·rw[if_neg ce]at e1 e2;refine ax ?_;refine yfj R18 ?_;refine ex ?_;refine de_y rfl rfl (xow rfl rfl (by simp only[List.length_cons,List.length_nil];omega)) ?_;refine ex ?_;refine de_y rfl rfl (y_lp rfl (At.get S2 O)) ?_;refine ex ?_;refine de_y rfl rfl (xow rfl rfl (by simp only[List.length_cons,List.length_nil,List.length_append];omega)) ?_;refine ex ?_;refine de_y rfl rfl (xow rfl rfl (by simp only[List.length_cons,List.length_nil];omega)) ?_;refine ex ?_;refine de_y rfl rfl (y_lp rfl (At.get S2 O)) ?_;refine ex ?_;refine de_y rfl rfl (xow rfl rfl (by simp only[List.length_cons,List.length_nil,List.length_append];omega)) ?_;refine ex ?_;exact bkq (IH _ om ⟨j+1,rfl,by rw[e1,e2,xdg,xdg],om⟩)
 obtain rfl:j=ry.a.length:=om;clear IH;have ht:∀z,(putA z ry.a).take ry.a.length=putA z ry.a:=fun z=>List.take_of_length_le (by rw[xlf];exact Nat.le_refl _);rw[ht]at b1 b2;rw[ht [113],ht a0];generalize i2:glZ [32] ry.w (putA [113] ry.a)=z1 at*;generalize f3:glZ [32] ry.w (putA a0 ry.a)=z2 at*;have f4:∀s∈[wKeepQ++x,z1],s.length<=900:=fun s hs=>by
  simp only[List.mem_cons,List.not_mem_nil,or_false]at hs;rcases hs with rfl|rfl
  ·rw[List.length_append,show wKeepQ.length=7 from rfl];omega
  ·omega
 refine ax ?_;refine ro_y rfl (xow rfl rfl (by simp only[List.length_cons,List.length_nil];omega)) ?_;refine ax ?_;refine xxx rfl fun v7 Y7 o7=>?_;have o7:Aa 9 1 v7 (scs [wKeepQ++x,z1]) Y7:=o7;refine xzq o7 (m:=2) rfl d_ fun p7 a7 c7 g7 e7 _ S7=>?_;subst e7;have S7:At p7 a7 2 [wKeepQ++x,z1]:=S7;have T7:=T6.mono g7.le;have G7:=G6.mono g7.le;refine ckq (xlh A t T7 hn 2 c7 _ S7) ?_;rintro _ ⟨q2,rfl,_⟩;refine cq (fun _=>?_) (fun _=>?_)
 ·refine cdq (cf9 G7) ?_;refine ax ?_;exact xij k_ func6 rfl rfl fun _ M=>⟨rfl,M.kept⟩
 refine ax ?_;refine ro_y rfl (xow rfl rfl (by simp only[List.length_cons,List.length_nil];omega)) ?_;refine ax ?_;refine xxx rfl fun v8 Y8 o8=>?_;have o8:Aa 9 1 v8 (scs [wKeepQ++x,z1]) Y8:=o8;refine xzq o8 (m:=2) rfl d_ fun p8 a8 c8 g8 e8 _ S8=>?_;subst e8;refine ax ?_;refine xqk rfl rfl (fun h pe=>cf10 pe A t (T7.mono g8.le) (G7.mono g8.le) c8 [wKeepQ++x,z1] S8 f4 hv s_) ?_;rintro _ p9 g9 ⟨a9,c9,A9,rfl,i1,S9,T9⟩;rw[r2]at S9 T9⊢;rw[show([wKeepQ++x,z1]:List Str).length=2 from rfl];have S9:At p9 a9 2 [a0,a5]:=S9;have c5:Sl p9 a9 2 1 (scs [a0,a5]):=S9;have d0:=(g7.trans g8).trans g9;have S6:At p9 a6 1 [a0]:=At.mono d0.le S6;have d9:Sl p9 a6 1 1 (scs [a0]):=S6;have T6:=T6.mono d0.le;have G9:=G6.mono d0.le;have T9:TwP p9 A9 t1:=T9;clear S2 f6 S7 S8 T7 G7;refine lq fun h3=>?_;refine drq [] R9 ?_;refine de_y rfl rfl (xfv rfl rfl sdu sdu (fun _=>⟨⟨om,om⟩,Sl.ne c5 om⟩)) ?_;refine de_y rfl rfl (xdj rfl sdu (fun _=>At.get S9 (i:=0) om) (u:=sv a0)) ?_;refine ex ?_;refine de_y rfl rfl (xfv rfl rfl sdu sdu (fun _=>⟨⟨om,om⟩,Sl.ne d9 om⟩)) ?_;refine de_y rfl rfl (xdj rfl sdu (fun _=>At.get S6 (i:=0) om) (u:=sv a0)) ?_;refine ex ?_;refine cq (fun V=>?_) (fun _=>?_)
 ·exact absurd V s_
 refine cq (fun V=>?_) (fun V=>?_)
 ·have V:¬ B1=true:=V;have r3:Cr y=true->a5=Ay/\t1=t:=by
   rw[if_neg fun z=>V (by rw[H,z.1,decide_eq_false (show ¬ rx.w=[108,97,99,107,115] from z.2.1),decide_eq_false (show ¬ rx.w=[115,104,111,114,116] from z.2.2)];rfl)]at r3;exact r3
  refine ax ?_;refine xpx rfl rfl (cf12 y om) ?_;refine ax ?_;refine ro_y rfl (xfv rfl rfl sdu sdu (fun _=>⟨⟨om,om⟩,Sl.ne c5 om⟩)) ?_;refine ro_y rfl (xdj rfl sdu (fun _=>At.get S9 (i:=1) om) (u:=sv a5)) ?_;refine ax ?_;cases hy:Cr y with
  |true=>
    obtain⟨rfl,rfl⟩:=r3 hy;refine xqz rfl rfl rfl sdu (fun _=>cf15 A9 A _ T9 T6 ((xdz hv).up om)) ?_;refine cgq (fun _=>cf9 G9) ?_;refine ax ?_;exact xij k_ func6 rfl rfl fun _ M=>⟨rfl,M.kept⟩
  |false=>
    refine xqz (v:=.bool true) rfl rfl rfl sdu (fun cg _ _=>by simp at cg) ?_;refine cgq (fun _=>cf9 G9) ?_;refine ax ?_;exact xij k_ func6 rfl rfl fun _ M=>⟨s_,M.kept⟩
 have V:B1=true:=by simpa using V
 rw[if_pos (by
  rw[V]at H;have H:=H.symm;simp only[Bool.and_eq_true,Bool.not_eq_true',decide_eq_false_iff_not]at H;exact⟨H.1.1,H.1.2,H.2⟩)]at r3
 obtain⟨b,r4,rfl,h9⟩:=r3;have h7:z2.length<=900:=by
  have:=yzk (w:=ry.w) (z:=a0) (l:=ry.a) (B:=40) om om (fun s hs=>by have:=b6.2 s hs;omega) h4 ry.a.length;rw[ht,f3]at this;omega
 refine ax ?_;refine xxx rfl fun f1 f8 d5=>?_;have d5:Aa 9 1 f1 (scs [z2]) f8:=d5;refine xzq d5 (m:=1) rfl d_ fun h6 h5 f5 d6 e5 _ f9=>?_;subst e5;refine ax ?_;refine xqk rfl rfl (fun h pe=>cf10 pe A t (T6.mono d6.le) (G9.mono d6.le) f5 [z2] f9 (fun s hs=>by rw[List.mem_singleton.1 hs];omega) hv s_) ?_;rintro _ b5 e6 ⟨e0,g5,d7,rfl,g0,b4,b9⟩;rw[r4]at b4 b9⊢;rw[show([z2]:List Str).length=1 from rfl];have b4:At b5 e0 1 [a5]:=b4;have d8:Sl b5 e0 1 1 (scs [a5]):=b4;have b0:=d6.trans e6;have S9:At b5 a9 2 [a0,a5]:=At.mono b0.le S9;have c5:Sl b5 a9 2 1 (scs [a0,a5]):=S9;have T9:=T9.mono b0.le;have b9:TwP b5 d7 t1:=b9;have f7:=G9.mono b0.le;refine lq fun h2=>?_;refine drq [] R13 ?_;refine de_y rfl rfl (xfv rfl rfl sdu sdu (fun _=>⟨⟨om,om⟩,Sl.ne c5 om⟩)) ?_;refine de_y rfl rfl (xdj rfl sdu (fun _=>At.get S9 (i:=1) om) (u:=sv a5)) ?_;refine ex ?_;refine de_y rfl rfl (xfv rfl rfl sdu sdu (fun _=>⟨⟨om,om⟩,Sl.ne d8 om⟩)) ?_;refine de_y rfl rfl (xdj rfl sdu (fun _=>At.get b4 (i:=0) om) (u:=sv a5)) ?_;refine xa ?_;refine xqz rfl rfl rfl sdu (fun _=>cf15 A9 d7 t1 T9 b9 ((xdz e9).up om)) ?_;refine cgq (fun _=>cf9 f7) ?_;refine ax ?_;exact xij k_ func6 rfl rfl fun _ M=>⟨s_,M.kept⟩
end Go.Proofs.YtofhlcococeifaaGreatDoor
