/-
  Part of proofs about a town's master: a calculus for Bc beside goroutines that are only leaving, and the Bc. No condition.
-/
import Derived.Test.YtofhlcococeifaaGreatDoorYR
set_option maxHeartbeats 4000000
set_option maxRecDepth 20000
set_option synthInstance.maxSize 2000
namespace Go.Proofs.YtofhlcococeifaaGreatDoor
open Go.Proofs.Tryz
open Go.X Go.X.Ms Go.Conc Go.RowKit Go.ChangeShapes Go.WideShapes Go.ChangeAt Go.Joins
instance:Inhabited Str:=⟨[]⟩
section
variable{H:Type}{enc:TypeId×Value->H}{W:World}{base:Nat}{v:Value}{d:DataW H}{p:List MemPlace}
theorem pCl:prog.cellsOf 9=1:=by kernel_rfl
theorem pCsl:prog.cellsOf 34=1:=by kernel_rfl
theorem ynb{m:Nat}{cs:List Value}{y:DataW H×List MemPlace}(h:DataW.trod enc prog W 0 (fun _=>true) true m 9 cs=some y):∃s:Str,cs=[sv s]:=by
 obtain⟨s,M,_,_⟩:=DataW.trod_string underlying9 h;exact⟨s.data.toList,by rw[M,sv,yx2]⟩
theorem xvp{m:Nat}{v:Value}{y:DataW H×List MemPlace}(h:DataW.trod enc prog W 0 (fun _=>true) true m 34 [v]=some y):
 ∃(a:Option Addr)(c:Nat)(ls:List Str),v=.slice a ls.length c/\ls.length<=9223372036854775807/\ls.length<=c/\At (vwP W) a ls.length ls:=
 xmd (fun s=>[sv s]) underlying34 pCl (fun _ _ _ h=>ynb h) h
theorem xq9(hv:Value.okWide prog W .any base 34 v)(h:DataW.Trod enc prog W 0 (fun _=>true) true 34 v d p):
 ∃(a:Option Addr)(c:Nat)(ls:List Str),v=.slice a ls.length c/\ls.length<=9223372036854775807/\ls.length<=c/\At (vwP W) a ls.length ls:=by
 obtain⟨a,n,c,rfl⟩:=okWide_slice underlying34 hv;obtain⟨fuel,hf⟩:=h;exact xvp hf
end
end Go.Proofs.YtofhlcococeifaaGreatDoor
namespace Go.X.Ms
open Go.X Go.Conc
variable{d:Dsk}{es:List (List Value)}{az ls xs:List Str}{j n:Nat}{p:Ab}{Y:Pcs}{w:Str}{t:Twn}{T:TypeId}{v:Value}
def Part(p:Ab)(Y:Pcs)(v:Value)(ls:List Str):Prop:=∀p',PLe p p'->(∀y∈Y,p' y.1=some y.2)-> ∃a c,v=.slice a ls.length c/\At p' a ls.length ls
theorem Part.own{p:Ab}{T:TypeId}{Y:Pcs}{v:Value}{ls:List Str}(o:Aa T 1 v (scs ls) Y):Part p Y v ls:=fun p' _ H=>by
 obtain⟨a,c,e,S⟩:=o.inP H;rw[xmx]at e S;exact⟨a,c,e,S⟩
theorem Part.last{p:Ab}{a:Option Addr}{n c:Nat}{ls:List Str}(S:At p a n ls)(Y:Pcs):Part p Y (.slice a n c) ls:=fun p' H _=>by
 obtain rfl:=S.len;exact⟨a,c,rfl,Sl.mono H S⟩
theorem xwb{w:Nat}(o:Aa T w v es Y):∃a n c,v=.slice a n c:=by
 obtain⟨_,⟨rfl,_,_⟩|⟨b,cs,cap,H,rfl,_⟩⟩:=o<;>exact⟨_,_,_,rfl⟩
theorem Part.more{p:Ab}{Y Z:Pcs}{v:Value}{ls:List Str}(P:Part p Y v ls)(h:∀y∈Y,y∈Z):Part p Z v ls:=fun p' M H=>P p' M fun y m=>H y (h y m)
theorem xic{a:Option Addr}(S:At p a n xs)(j:Nat)(H:j<=n):At p a j (xs.take j):=by
 have M:=S.len;have z:=Sl.cut (lo:=0) (hi:=j) (a':=a) S (Nat.zero_le _) H fun h=>by
  rw[At.ne S om];simp[adr,Addr.add]
 have e:((scs xs).drop 0).take (j-0)=scs (xs.take j):=by simp[scs,List.map_take]
 rw[e]at z;exact z
theorem xq2{a:Option Addr}{c:Nat}(S:At p a n xs)(i j:Nat)(hi:i<=j)(H:j<=n)(hc:n<=c):At p (Cf a c i 1) (j-i) ((xs.drop i).take (j-i)):=
 xic (xmk S i om hc) (j-i) om
def RunZ(p:Ab)(t:Twn)(ls:List Str)(Y:Pcs)(v:Value):Prop:=∃(a:Option Addr)(c:Nat)(A:TA),v=.tuple #[.slice a ls.length c,twV A (Bt t ls).2,.bool true]/\ls.length<=c/\ ∀p',PLe p p'->(∀y∈Y,p' y.1=some y.2)->At p' a ls.length (Bt t ls).1/\TwP p' A (Bt t ls).2
theorem RunZ.tup{p:Ab}{t:Twn}{ls:List Str}{Y:Pcs}{v:Value}(r:RunZ p t ls Y v):(∃xs:Array Value,v=.tuple xs/\0<xs.size)/\(∃xs:Array Value,v=.tuple xs/\1<xs.size)/\ ∃xs:Array Value,v=.tuple xs/\2<xs.size:=by
 obtain⟨a,c,A,rfl,_⟩:=r;exact⟨⟨_,rfl,s_⟩,⟨_,rfl,s_⟩,⟨_,rfl,s_⟩⟩
theorem RunZ.agg{p:Ab}{t:Twn}{ls:List Str}{Y:Pcs}{v:Value}(r:RunZ p t ls Y v):∃A,prj 1 v=twV A (Bt t ls).2:=by
 obtain⟨a,c,A,rfl,_⟩:=r;exact⟨A,rfl⟩
theorem yvx{x:Ln}(h:(Ch d x).2≠wOk)(M:x.l=[]):(Ch d x).1=d:=by
 unfold Ch at h⊢;split
 ·rfl
 ·rename_i V;rw[if_neg V]at h;cases hv:A5 d.now x.a with
  |none=>rfl
  |some vs=>
    rw[hv]at h;simp only at h⊢;split
    ·rename_i H;rw[if_pos H]at h;unfold tryD at h⊢;split
     ·rename_i c;rw[if_pos c]at h;exact absurd rfl h
     ·rename_i c;rw[if_neg c]at h;cases O:d.Bz.getLast? with
      |none=>rfl
      |some s=>
        rw[O]at h;simp only at h;split at h<;>exact absurd rfl h
    ·rename_i H;rw[if_neg H]at h;cases hq:qn (x.w++txt x.a.length)with
     |some q=>
       simp only;rw[M];unfold C5;split
       ·rfl
       ·split
        ·rfl
        ·rfl
     |none=>
       rw[hq]at h;cases ho:od (x.w++txt x.a.length)with
       |none=>rfl
       |some o=>
         rw[ho]at h;simp only at h⊢;unfold Ej at h⊢;cases ht:Ct o d.now.t vs with
         |none=>rfl
         |some t=>
           rw[ht]at h;simp only at h⊢;split
           ·rename_i c;rw[if_pos c]at h;exact absurd rfl h
           ·rfl
def stays(x:Str×Str):Bool:=decide (x.2=wOk)||decide ((Ag x.1).l≠[])
def leftZ(xs az:List Str):List (Str×Str):=(xs.zip az).filter stays
theorem xq5:∀(xs:List Str)(d:Dsk),Az d ((leftZ xs (Az d xs).2).map (·.1))=((Az d xs).1,(leftZ xs (Az d xs).2).map (·.2))
 |[],d=>rfl
 |x::xs,d=>by
   have H:=xq5 xs (doD d x).1;unfold leftZ at H⊢;rw[xsx,List.zip_cons_cons,List.filter_cons];by_cases c:stays (x,(doD d x).2)=true
   ·rw[if_pos c,List.map_cons,List.map_cons,xsx,H]
   ·rw[if_neg c];have hs:(doD d x).2≠wOk/\(Ag x).l=[]:=by
     unfold stays at c;simpa using c
    have e:(doD d x).1=d:=by
     rw[xcz]at hs⊢;exact yvx hs.1 hs.2
    rw[e]at H⊢;rw[H]
theorem yjb(n:Int):(txt n).headD 0=45\/C7 ((txt n).headD 0)=true:=by
 have h:∀m:Nat,C7 ((C9 m).headD 0)=true:=fun m=>by
  have M:=xlc (n:=m);have H:=xkc m;cases e:C9 m with
  |nil=>rw[e]at H;simp at H
  |cons c t=>exact M c (by rw[e];simp)
 unfold txt;split
 ·exact .inl rfl
 ·exact .inr (h _)
def lettered(s:Str):Bool:=decide (97<=(s.headD 0).toNat)
theorem yjx(n:Int):lettered (txt n)=false:=by
 unfold lettered;rw[decide_eq_false_iff_not];rcases yjb n with h|h
 ·rw[h];decide
 ·simp only[C7,decide_eq_true_eq]at h;omega
theorem xnm(n:Int)(s:Str):lettered (txt n++s)=false:=by
 have h:=yjx n;have H:=xz2 n;cases e:txt n with
 |nil=>rw[e]at H;simp at H
 |cons c t=>rw[e]at h;exact h
theorem yrb(r:Rs):lettered r.text=false\/r.text=[110,111,116,104,105,110,103]:=by
 cases r with
 |num n=>exact .inl (yjx n)
 |spn a b=>exact .inl (xnm a _)
 |lst l=>
   cases l with
   |nil=>exact .inr rfl
   |cons x l=>exact .inl (xnm x _)
theorem yqb{r:Rs}(h:lettered w=true)(H:w≠[110,111,116,104,105,110,103]):r.text≠w:=fun e=>by
 rcases yrb r with z|z
 ·rw[e,h]at z;cases z
 ·exact H (e.symm.trans z)
theorem yzw{q:Qn}{a:List Int}{l:Str}(h:lettered w=true)(O:w≠[110,111,116,104,105,110,103])(H:w≠Hq)(M:w≠Er):(C5 d q a l).2≠w:=fun e=>by
 unfold C5 at e;split at e
 ·exact H e.symm
 ·split at e
  ·exact M e.symm
  ·exact yqb h O e
theorem yxx(d:Dsk)(x:Str):((Ag x).k=0<->(doD d x).2=Dh)/\ ¬ (((doD d x).2=wOk\/(doD d x).2=wNo)/\(Ag x).k=3)/\
 ((Ag x).k≠3->(Ag x).k≠0->(doD d x).2=wOk\/(doD d x).2=wNo\/(doD d x).2=Ay/\Cr x=true):=by
 rw[xcz];have hf:=xek x;unfold Ch;by_cases H:(Ag x).k=0
 ·rw[if_pos H];exact⟨⟨fun _=>rfl,fun _=>H⟩,fun z=>om,fun _ z=>absurd H z⟩
 rw[if_neg H];cases hv:A5 d.now (Ag x).a with
 |none=>
   have hl:Cr x=true:=by
    unfold Cr;cases e:(Ag x).a.any isLet with
    |true=>rfl
    |false=>exact absurd hv (xpb e)
   show((Ag x).k=0<->Ay=Dh)/\ ¬ ((Ay=wOk\/Ay=wNo)/\_)/\(_->_->Ay=wOk\/Ay=wNo\/Ay=Ay/\_)
   exact⟨⟨fun z=>absurd z H,fun z=>absurd z d_⟩,fun z=>by rcases z.1 with z|z<;>exact absurd z d_,fun _ _=>.inr (.inr ⟨rfl,hl⟩)⟩
 |some vs=>
   simp only;by_cases M:(Ag x).k=2
   ·rw[if_pos M];have V:∀b,(Ek b=wOk\/Ek b=wNo)/\Ek b≠Dh:=fun b=>by cases b<;>decide
    refine⟨⟨fun z=>absurd z H,fun z=>absurd z (V _).2⟩,fun z=>om,fun _ _=>?_⟩;rcases(V (tryD d (Ag x).w).2).1 with z|z
    ·exact .inl z
    ·exact .inr (.inl z)
   ·rw[if_neg M];rcases hf with e|⟨w,args,l,e,k0,hn,hl,hc,_⟩
    ·rw[e]at H;exact absurd rfl H
    rw[e]at H M⊢;simp only at H M⊢;have a2:=(xzf w).1;by_cases O:(Aq w).1=3
    ·obtain⟨q,hq⟩:=yfn (w:=w) (n:=args.length) (by rw[hn,<- O]);rw[hq];simp only;refine⟨⟨fun z=>absurd z H,fun z=>absurd z (yzw d_ d_ d_ d_)⟩,fun z=>?_,fun z=>absurd O z⟩;rcases z.1 with z|z<;>exact absurd z (yzw d_ d_ d_ d_)
    ·obtain⟨o,ho⟩:=yc0 (w:=w) (n:=args.length) (by rw[hn,<- show(Aq w).1=1 by omega]);rw[xo3 O,ho];simp only;have ht:(Ej d o vs).2=wOk\/(Ej d o vs).2=wNo:=by
      unfold Ej;cases Ct o d.now.t vs with
      |none=>exact .inr rfl
      |some t=>
        simp only;split
        ·exact .inl rfl
        ·exact .inr rfl
     refine⟨⟨fun z=>absurd z H,fun z=>?_⟩,fun z=>absurd z.2 O,fun _ _=>?_⟩
     ·rcases ht with y|y<;>(rw[y]at z;exact absurd z d_)
     ·rcases ht with y|y
      ·exact .inl y
      ·exact .inr (.inl y)
theorem yiz:∀(xs:List Str)(d:Dsk)(i:Nat),i<xs.length-> ∃e,(Az d xs).2.getD i []=(doD e (xs.getD i [])).2
 |[],_,i,h=>absurd h (Nat.not_lt_zero i)
 |x::xs,d,0,_=>⟨d,by rw[xsx];rfl⟩
 |x::xs,d,i+1,h=>by
   obtain⟨e,he⟩:=yiz xs (doD d x).1 i (Nat.lt_of_succ_lt_succ h);exact⟨e,by rw[xsx,List.getD_cons_succ,List.getD_cons_succ];exact he⟩
def leftJ(xs az:List Str)(j:Nat):List (Str×Str):=((xs.zip az).take j).filter stays
theorem xx9(H:j<xs.length)(O:az.length=xs.length):leftJ xs az (j+1)=leftJ xs az j++if stays (xs.getD j [],az.getD j [])=true then [(xs.getD j [],az.getD j [])]else []:=by
 have M:j<(xs.zip az).length:=by rw[List.length_zip];omega
 unfold leftJ;rw[List.take_add_one,List.getElem?_eq_getElem M,List.filter_append,List.getElem_zip,Flow.Au H,Flow.Au (show j<az.length by omega)];congr 1;show List.filter stays [_]=_;rw[List.filter_cons,List.filter_nil]
theorem xmn(h:az.length=xs.length):leftJ xs az xs.length=leftZ xs az:=by
 unfold leftJ leftZ;rw[List.take_of_length_le (by rw[List.length_zip];omega)]
theorem xr1(xs az:List Str)(j:Nat):(leftJ xs az j).length<=j:=
 Nat.le_trans (List.length_filter_le _ _) (by rw[List.length_take];omega)
theorem ymk{s:Str}(h:s∈(leftJ xs az j).map (·.1)):s∈xs:=by
 obtain⟨q,H,rfl⟩:=List.mem_map.1 h;have:=List.mem_of_mem_take (List.mem_filter.1 H).1;obtain⟨a,b⟩:=q;exact(List.of_mem_zip this).1
theorem yh0(hv:Cj t=0)(H:xs.length<=30):Bt t ((leftZ xs (Bt t xs).1).map (·.1))=((leftZ xs (Bt t xs).1).map (·.2),(Bt t xs).2):=by
 have M:(leftZ xs (Bt t xs).1).length<=30:=by
  unfold leftZ;have:=List.length_filter_le stays (xs.zip (Bt t xs).1);rw[List.length_zip]at this;omega
 rw[xfj (ls:=(leftZ xs (Bt t xs).1).map (·.1)) hv (by rw[List.length_map];exact M)];rw[xfj (ls:=xs) hv H,xq5]
end Go.X.Ms
namespace Go.X
abbrev R60:List Nat:=[0,1,2,3,4,5,6,7,8,9,10,11,12,13,14,15,16,17,18,19,20,21,22,23,24,25,26,27,28,29,30,31,32,33,34,35,36,37,38,39,40,41,42,43,44,45,46,47,48,49,50,51,52,53,54,55,56,57,58,59]
end Go.X
namespace Go.Proofs.YtofhlcococeifaaGreatDoor
open Go.Proofs.Tryz
open Go.X Go.X.Ms Go.Conc
variable{h z9:Heap}{xss:List (List Str)}{zz:List Nat}{ls:List Str}{us:List Value}{p:Ab}{T:TypeId}{v:Value}
theorem xbf{L Y:Pcs}{A:TA}{t:Twn}(P:Part p Y v ls)(s:St z9 zz p h (Y++L))(T:TwP p A t)(g:GlP p)(M:∀s∈ls,s.length<=900)(hv:Cj t=0)(V:ls.length<=30):
 Ac prog (.main true) 10 #[twV A t,v] h fun v' h'=>∃Z,RunZ p t ls (Z++Y) v'/\New h h' Z:=by
 obtain⟨p',⟨g',gl⟩,hy,s'⟩:=s.Dj;obtain⟨a,c,e,S⟩:=P p' g'.le hy;subst e;refine(cf10 s'.per A t (T.mono g'.le) (g.mono g'.le) c ls S M hv V).mono fun v' h' x=>?_;obtain⟨Z,⟨p2,⟨a2,c2,A2,e2,hc,S2,T2⟩,le⟩,N⟩:=x.pieces;have lf:∀H,PLe p H->(∀y∈Z++Y,H y.1=some y.2)->PLe p2 H:=fun H l y=>le H (gl H l fun z O=>y z (List.mem_append_right _ O)) fun z O=>y z (List.mem_append_left _ O);exact⟨Z,⟨a2,c2,A2,e2,hc,fun H l y=>⟨Sl.mono (lf H l y) S2,T2.mono (lf H l y)⟩⟩,N⟩
theorem xyv{L Y M:Pcs}{md:Md}(o:Aa T 1 v (us.map fun u=>[u]) M)(s:St z9 zz p h ((M++Y)++L))(hl:us.length=xss.length)(hP:∀i,i<xss.length->Part p Y (us.getD i undef) (xss.getD i []))(hn:xss.length<=10)(hb:∀i,i<xss.length->(xss.getD i []).length<=1000):
 Ac prog md 14 #[v] h fun v' h'=>∃Z,Part p (Z++(M++Y)) v' xss.flatten/\New h h' Z:=by
 obtain⟨p',⟨g',gl⟩,hy,s'⟩:=s.Dj;obtain⟨a,c,e,S⟩:=o.inP fun y O=>hy y (List.mem_append_left _ O);subst e;have hlen:(us.map fun u=>[u]).length=xss.length:=by rw[List.length_map,hl]
 rw[hlen]at S⊢;refine(cf14 c xss ⟨_,S,rfl,fun i hi=>?_⟩ hn hb h s'.per).mono fun v' h' x=>?_
 ·obtain⟨b,cb,e,Sb⟩:=hP i hi p' g'.le fun y O=>hy y (List.mem_append_right _ O);refine⟨b,cb,?_,Sb⟩;rw[List.getElem?_map,List.getElem?_eq_getElem om,<- e,Flow.Au om];rfl
 ·obtain⟨Z,⟨p2,⟨a2,c2,e2,hc,S2⟩,le⟩,N⟩:=x.pieces;exact⟨Z,fun H l y=>⟨a2,c2,e2,Sl.mono (le H (gl H l fun z V=>y z (List.mem_append_right _ V)) fun z V=>y z (List.mem_append_left _ V)) S2⟩,N⟩
open Go.X.Flow (ics)
variable{a1:Option Addr}
theorem ycg(h:Heap)(p:Ab)(hp:Per p h)(A:TA)(t:Twn)(T:TwP p A t)(hn:t.fit 9223372036854775807)(g:GlP p)(c1:Nat)(ls:List Str)(_:ls.length<=9223372036854775807)(S1:At p a1 ls.length ls):
 En prog (.main true) 4 #[twV A t,.slice a1 ls.length c1] h fun v h'=>v=.bool true/\Av h h':=by
 refine xdm hp func4 ?_;refine bq fun b2=>?_;refine ckq (xlh A t T hn ls.length c1 ls S1) ?_;rintro _ ⟨q,rfl,hq⟩;refine cq (fun _=>?_) (fun cc=>?_)
 ·refine cdq (cf9 g) ?_;refine ax ?_;exact xij k_ func4 rfl rfl fun _ H_=>⟨rfl,H_.kept⟩
 obtain⟨hv,M,c4⟩:=hq (by simpa using cc);clear cc hq;have a5:∀s∈ls,s.length<=900:=fun s hs=>by have:=c4 s hs;omega
 have b3:∀{i:Nat},i<ls.length->(ls.getD i []).length<=900:=fun{i}hi=>a5 _ (by rw[Flow.Au hi];exact List.getElem_mem _);refine cpq (fun h pe=>cf10 pe A t T g c1 ls S1 a5 hv M) ?_;rintro _ p1 g1 ⟨a6,c6,A6,rfl,d9,S6,T6⟩;have a4:=xxw hv M;have hL:=yh0 hv M;have c8:=xhw hv M;have b4:∀i,i<ls.length-> ∃e,(Bt t ls).1.getD i []=(doD e (ls.getD i [])).2:=fun i hi=>by
  rw[xfj hv M];exact yiz ls (Ai t) i hi
 generalize Bt t ls=R at*;have Tp:=T.mono g1.le;have G1:=g.mono g1.le;have a8:At p1 a1 ls.length ls:=Sl.mono g1.le S1;have b9:Sl p1 a1 ls.length 1 (scs ls):=a8;have d0:Sl p1 a6 ls.length 1 (scs R.1):=S6;refine lq fun b6=>?_;refine ax ?_;refine cq (fun cd=>?_) (fun _=>?_)
 ·exact absurd cd s_
 refine ax ?_;refine xjj 9 1 fun o1=>?_;refine xjj 9 1 fun o2=>?_
 refine xhq (fun m_ l_ p_ L_=>∃(j:Nat)(v1 v2:Value)(O Y2:Pcs),m_=ls.length-j/\l_=[(1,none,.slice a1 ls.length c1),(2,none,w_ b2 0),(5,none,.slice a6 ls.length c6),(6,none,w_ b6 0),(8,none,v1),(9,none,v2),(10,none,.J ((j:Nat):Int))]/\p_=p1/\
  L_=[O,Y2,[(b6,.cells (tcs A6 R.2).toArray 33 (0,0))],[(b2,.cells (tcs A t).toArray 33 (0,0))]]/\j<=ls.length/\Aa 9 1 v1 (scs ((leftJ ls R.1 j).map (·.1))) O/\Aa 9 1 v2 (scs ((leftJ ls R.1 j).map (·.2))) Y2) ⟨0,_,_,_,_,rfl,rfl,rfl,rfl,Nat.zero_le _,o1,o2⟩ sb ?_
 clear o1 o2;rintro _ _ p1 _ IH ⟨j,v1,v2,O,Y2,rfl,rfl,rfl,rfl,hj,o1,o2⟩;refine cq (fun cd=>?_) (fun cd=>?_)
 ·have H:j<ls.length:=om;have b0:=b3 H;have d8:=xr1 ls R.1 j;obtain⟨d,hd⟩:=b4 j H;have hk:=yxx d (ls.getD j []);rw[<- hd]at hk;have hs:=xx9 H a4;unfold stays at hs;simp only at hs;refine ax ?_;refine ro_y rfl (y_lp rfl (At.get a8 H)) ?_;refine ax ?_;have rd:∀h,Per p1 h->Ac prog (.main true) 16 #[sv (ls.getD j [])] h fun v h'=>(∃q:Option Addr×Nat,v=.agg #[sv (Ag (ls.getD j [])).w,.J (((Ag (ls.getD j [])).k:Nat):Int),.slice q.1 (Ag (ls.getD j [])).a.length q.2,sv (Ag (ls.getD j [])).l])/\Av h h':=fun h pe=>
   (cf16 _ b0 h pe).mono fun v h' x=>by
    obtain⟨⟨_,a,c,e,_⟩,kk⟩:=x.C3;exact⟨⟨(a,c),e⟩,kk⟩
  generalize hx:Ag (ls.getD j [])=x at*;refine yoh (fun q:Option Addr×Nat=>.agg #[sv x.w,.J ((x.k:Nat):Int),.slice q.1 x.a.length q.2,sv x.l]) rfl rfl rfl trivial rd fun q=>?_;refine lq fun e5=>?_;refine ax ?_;clear rd;obtain⟨s,V⟩:∃s,s=ls.getD j []:=⟨_,rfl⟩
  obtain⟨a,a3⟩:∃a,a=R.1.getD j []:=⟨_,rfl⟩
  have Ls:Aw p1 ((adr a1).add (j*1))=some (sv s):=by rw[V];exact At.get a8 H
  have La:Aw p1 ((adr a6).add (j*1))=some (sv a):=by rw[a3];exact At.get S6 H
  rw[<- a3,<- V]at hs;rw[<- a3,<- V]at hk;rw[<- V]at b0;clear V a3 hd hx b3 b4 hL;refine xrs [] R60 ?_;refine ex ?_;refine de_y rfl rfl (y_lp rfl La) ?_;refine ex ?_;refine de_y rfl rfl (yh3 rfl rfl sdt sdt) ?_;refine ex ?_;refine de_y rfl rfl (xdj rfl sdu (fun _=>La) (u:=sv a)) ?_;refine ex ?_;refine de_y rfl rfl (xdj rfl sdu (fun _=>La) (u:=sv a)) ?_;refine ex ?_;refine de_y rfl rfl (xdj rfl sdu (fun _=>La) (u:=sv a)) ?_;refine ex ?_;refine de_y rfl rfl (yeb rfl rfl sdu sdu) ?_;refine ex ?_;refine de_y rfl rfl (xdj rfl sdu (fun _=>La) (u:=sv a)) ?_;refine ex ?_;refine de_y rfl rfl (yeb rfl rfl sdu sdu) ?_;refine ex ?_;refine de_y rfl rfl (xdj rfl sdu (fun _=>La) (u:=sv a)) ?_;refine ex ?_;refine de_y rfl rfl (yeb rfl rfl sdu sdu) ?_;refine xa ?_;refine ro_y rfl (xdj rfl sdu (fun _=>Ls) (u:=sv s)) ?_;refine cgq (fun _=>cf12 s b0) ?_;refine cq (fun ce=>?_) (fun _=>?_)
  ·exfalso;have b5:x.k=0<->a=Dh:=hk.1;rcases ce with(ce|ce)|ce
   ·refine ce ?_;rw[beq_iff_eq,Bool.eq_iff_iff,decide_eq_true_eq,decide_eq_true_eq];exact⟨fun z=>b5.1 om,fun z=>by have:=b5.2 z;omega⟩
   ·exact hk.2.1 ⟨ce.1,om⟩
   ·obtain⟨⟨⟨⟨c3,c0⟩,d7⟩,b7⟩,cu⟩:=ce;rcases hk.2.2 om om with z|z|⟨z1,z2⟩
    ·exact d7 z
    ·exact b7 z
    ·rcases cu with y|y
     ·exact y z1
     ·exact y z2
  refine ax ?_;refine ro_y rfl (y_lp rfl La) ?_;refine ax ?_;refine xhk (LL':=[O,Y2,[(b6,.cells (tcs A6 R.2).toArray 33 (0,0))],[(b2,.cells (tcs A t).toArray 33 (0,0))]]) ?_ (fun _ y=>y.sub (List.sublist_cons_self _ _))
  refine xfz (fun l' p_ L_=>∃(v1 v2:Value)(O Y2:Pcs),l'=[(1,none,.slice a1 ls.length c1),(2,none,w_ b2 0),(5,none,.slice a6 ls.length c6),(6,none,w_ b6 0),(8,none,v1),(9,none,v2),(10,none,.J ((j:Nat):Int))]/\p_=p1/\
   L_=[O,Y2,[(b6,.cells (tcs A6 R.2).toArray 33 (0,0))],[(b2,.cells (tcs A t).toArray 33 (0,0))]]/\Aa 9 1 v1 (scs ((leftJ ls R.1 (j+1)).map (·.1))) O/\Aa 9 1 v2 (scs ((leftJ ls R.1 (j+1)).map (·.2))) Y2) ?_ fun k' nx=>?_
  rotate_left
  ·refine cq (fun cf=>?_) (fun cf=>?_)
   ·rw[if_pos (by simp only[Bool.or_eq_true,decide_eq_true_eq];exact cf)]at hs;rw[hs]at nx;refine ax ?_
    refine ygj (LF:=[[(b6,.cells (tcs A6 R.2).toArray 33 (0,0))],[(b2,.cells (tcs A t).toArray 33 (0,0))]]) 14 [16,17] (fun i=>match i with|16=>O|_=>Y2) [6,13] [0,1,2,3,4,7,8,9,10,11] [5,6,12,13]
     (fun i=>match i with|6=>[16,5]|13=>[17,12]|_=>[]) (fun i=>match i with|3=>[1,2]|4=>[3]|5=>[4]|6=>[0,5]|10=>[8,9]|11=>[10]|12=>[11]|13=>[7,12]|_=>[])
     (fun _ i=>match i with
      |0=>some v1
      |1=>some (.slice a1 ls.length c1)
      |2|9=>some (.J ((j:Nat):Int))
      |3=>some (.pointer (some ((adr a1).add (j*1))))
      |4=>some (sv s)
      |7=>some v2
      |8=>some (.slice a6 ls.length c6)
      |10=>some (.pointer (some ((adr a6).add (j*1))))
      |11=>some (sv a)
      |_=>none)
     (fun i _ _ v x=>match i with
      |5=>Aa 9 1 v (scs [s]) x
      |6=>Aa 9 1 v (scs ((leftJ ls R.1 j).map (·.1)++[s])) x
      |12=>Aa 9 1 v (scs [a]) x
      |13=>Aa 9 1 v (scs ((leftJ ls R.1 j).map (·.2)++[a])) x
      |_=>True) s_ (fun i c5 val piece hq hi=>?_) (fun val piece j hj v x q=>?_) (fun val piece hq=>?_)
    ·match i,c5 with
      |0,_|1,_|2,_|7,_|8,_|9,_=>exact det
      |3,_=>
        refine de_y rfl rfl (xs8 rfl rfl sdt sdt ⟨H,Sl.ne b9 om⟩ (m:=ls.length) (i:=j)) ?_;exact det
      |4,_=>
        refine de_y rfl rfl (y_lp rfl Ls) ?_;exact det
      |5,_=>
        refine xvz rfl rfl fun v Y(o:Aa 9 1 v (scs [s]) Y)=>?_;exact xuq ⟨⟨_,rfl⟩,fun v' e=>by
         have e':=xmq e;subst e';show Aa _ _ _ _ (Y++[]);rw[List.append_nil];exact o⟩
      |6,_=>
        show DE _ _ _ _ _ _ _ _ _ [piece 16,piece 5];rw[hi 16 s_];refine xj2 rfl rfl rfl o1 (hq 5 rfl) (by simp[scs,sv,Bj]) (by simp[scs];omega) fun v Y o=>?_;exact xuq ⟨⟨_,rfl⟩,fun v' e=>by
         have e':=xmq e;subst e';show Aa _ _ _ _ (Y++[]);rw[List.append_nil];exact o.as (by simp[scs])⟩
      |10,_=>
        refine de_y rfl rfl (xs8 rfl rfl sdt sdt ⟨H,Sl.ne d0 om⟩ (m:=ls.length) (i:=j)) ?_;exact det
      |11,_=>
        refine de_y rfl rfl (y_lp rfl La) ?_;exact det
      |12,_=>
        refine xvz rfl rfl fun v Y(o:Aa 9 1 v (scs [a]) Y)=>?_;exact xuq ⟨⟨_,rfl⟩,fun v' e=>by
         have e':=xmq e;subst e';show Aa _ _ _ _ (Y++[]);rw[List.append_nil];exact o⟩
      |13,_=>
        show DE _ _ _ _ _ _ _ _ _ [piece 17,piece 12];rw[hi 17 s_];refine xj2 rfl rfl rfl o2 (hq 12 rfl) (by simp[scs,sv,Bj]) (by simp[scs];omega) fun v Y o=>?_;exact xuq ⟨⟨_,rfl⟩,fun v' e=>by
         have e':=xmq e;subst e';show Aa _ _ _ _ (Y++[]);rw[List.append_nil];exact o.as (by simp[scs])⟩
    ·simp only[List.mem_cons,List.not_mem_nil,or_false]at hj;rcases hj with rfl|rfl|rfl|rfl|rfl|rfl|rfl|rfl|rfl|rfl<;>exact q.2
    have d6:Aa 9 1 (val 6) (scs ((leftJ ls R.1 j).map (·.1)++[s])) (piece 6):=hq 6 d_;have b8:Aa 9 1 (val 13) (scs ((leftJ ls R.1 j).map (·.2)++[a])) (piece 13):=hq 13 d_;refine xdk (l':=[(1,none,.slice a1 ls.length c1),(2,none,w_ b2 0),(5,none,.slice a6 ls.length c6),(6,none,w_ b6 0),(10,none,.J ((j:Nat):Int)),(123,none,val 6),(130,none,val 13)]) ?_ ⟨rfl,rfl,rfl,rfl,rfl,rfl,rfl,trivial⟩;clear hq;generalize val 6=u1 at*;generalize val 13=u2 at*;show RO _ _ _ _ _ _ [piece 6,piece 13,_,_];refine ax ?_;exact xbx (nx _ _ _ ⟨u1,u2,piece 6,piece 13,rfl,rfl,rfl,d6.as s_,b8.as s_⟩) ⟨rfl,rfl,rfl,rfl,rfl,rfl,rfl,trivial⟩
   ·rw[if_neg (by simp only[Bool.or_eq_true,decide_eq_true_eq];exact cf),List.append_nil]at hs;rw[hs]at nx;refine ax ?_;exact xbx (nx _ _ _ ⟨v1,v2,O,Y2,rfl,rfl,rfl,o1,o2⟩) ⟨rfl,rfl,rfl,rfl,rfl,rfl,rfl,trivial⟩
  clear o1 o2 hs hk La Ls;rintro _ p1 _ ⟨v1,v2,O,Y2,rfl,rfl,rfl,o1,o2⟩;exact bkq (IH _ _ _ om ⟨j+1,v1,v2,O,Y2,rfl,rfl,rfl,rfl,om,o1,o2⟩)
 obtain rfl:j=ls.length:=om;clear IH;rw[xmn a4]at o1 o2;have e3:(leftZ ls R.1).length<=30:=by
  rw[<- xmn a4];exact Nat.le_trans (xr1 _ _ _) M
 have d5:∀s∈(leftZ ls R.1).map (·.1),s.length<=900:=fun s h=>a5 s (ymk (j:=ls.length) (by rw[xmn a4];exact h));generalize leftZ ls R.1=Z at*;have n1:(Z.map fun x:Str×Str=>x.1).length=Z.length:=List.length_map _;have n2:(Z.map fun x:Str×Str=>x.2).length=Z.length:=List.length_map _;generalize (Z.map fun x:Str×Str=>x.1)=z1 at*;generalize (Z.map fun x:Str×Str=>x.2)=z2 at*;refine ax ?_;refine xzq o1 (m:=z1.length) (xmx _) d_ fun p2 a2 c2 g2 e2 _ S2=>?_;subst e2;refine xqk rfl rfl (fun h pe=>cf10 pe A t (Tp.mono g2.le) (G1.mono g2.le) c2 z1 S2 d5 hv om) ?_;rintro _ p3 g3 ⟨a7,c7,A7,rfl,e1,S7,T7⟩;rw[hL]at S7 T7⊢;refine lq fun e0=>?_;refine ax ?_;refine xzq o2 (m:=z2.length) (xmx _) d_ fun p4 a9 c9 g4 e4 _ S9=>?_;subst e4;refine ax ?_;refine xqz rfl rfl rfl sdu (fun _=>cf13 z2 z2 (Sl.mono g4.le S7) S9 ⟨om,om⟩) ?_;refine ax ?_;have g5:=(g2.trans g3).trans g4;refine xqz rfl rfl rfl sdu (fun _=>cf15 A6 A7 R.2 (T6.mono g5.le) (T7.mono g4.le) ((xdz c8).up om)) ?_;refine cgq (fun _=>cf9 (G1.mono g5.le)) ?_;refine ax ?_;exact xij k_ func4 rfl rfl fun _ H_=>⟨s_,H_.kept⟩
end Go.Proofs.YtofhlcococeifaaGreatDoor
