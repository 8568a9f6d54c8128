/-
  Part of proofs about a town's master: a calculus for Bc beside goroutines that are only leaving, and the Bc. No condition.
-/
import Derived.Test.YtofhlcococeifaaGreatDoorYR
set_option maxHeartbeats 6400000
set_option maxRecDepth 20000
set_option synthInstance.maxSize 2000
namespace Go.Proofs.YtofhlcococeifaaGreatDoor
open Go.Proofs.Tryz
open Go.X Go.X.Ms Go.Conc Go.RowKit Go.ChangeShapes Go.WideShapes Go.ChangeAt Go.Joins
variable{p:List MemPlace}{cs:List Value}{base:Nat}{H:Type}{v:Value}{W:World}
instance:Inhabited Str:=⟨[]⟩
section
variable{enc:TypeId×Value->H}{d:DataW H}
theorem pCl:prog.cellsOf 9=1:=by kernel_rfl
theorem pCsl:prog.cellsOf 34=1:=by kernel_rfl
theorem ynb{m:Nat}{y:DataW H×List MemPlace}(h:DataW.trod enc prog W 0 (fun _=>true) true m 9 cs=some y):∃s:Str,cs=[sv s]:=by
 obtain⟨s,M,_,_⟩:=DataW.trod_string underlying9 h;exact⟨s.data.toList,by rw[M,sv,yx2]⟩
theorem xvp{m:Nat}{y:DataW H×List MemPlace}(h:DataW.trod enc prog W 0 (fun _=>true) true m 34 [v]=some y):
 ∃(a:Option Addr)(c:Nat)(ls:List Str),v=.slice a ls.length c/\ls.length<=9223372036854775807/\ls.length<=c/\At (vwP W) a ls.length ls:=
 xmd (fun s=>[sv s]) underlying34 pCl (fun _ _ _ h=>ynb h) h
theorem xq9(hv:Value.okWide prog W .any base 34 v)(h:DataW.Trod enc prog W 0 (fun _=>true) true 34 v d p):
 ∃(a:Option Addr)(c:Nat)(ls:List Str),v=.slice a ls.length c/\ls.length<=9223372036854775807/\ls.length<=c/\At (vwP W) a ls.length ls:=by
 obtain⟨a,n,c,rfl⟩:=okWide_slice underlying34 hv;obtain⟨fuel,hf⟩:=h;exact xvp hf
end
theorem pCut:prog.cellsOf 36=3:=by kernel_rfl
theorem xq6{enc:TypeId×Value->H}{d:DataW H}(hv:Value.okWide prog W .any base 36 v)(h:DataW.Trod enc prog W 0 (fun _=>true) true 36 v d p):
 ∃(a:Option Addr)(c:Nat)(ls:List Str)(x y:Int),v=.agg #[.slice a ls.length c,.J x,.J y]/\ls.length<=9223372036854775807/\ls.length<=c/\At (vwP W) a ls.length ls:=by
 obtain⟨cs,rfl,a2⟩:=okWide_struct underlying36 hv;obtain⟨fuel,hf⟩:=h;obtain⟨y0,y1,y2,n,_,V,O,h1,h2⟩:=Go.Deep.trod_struct3 underlying36 hf;rw[pCut]at V;obtain⟨x,M⟩:=xwz h1;obtain⟨y,hy⟩:=xwz h2;obtain⟨l⟩:=cs
 match l,V with
 |[c0,c1,c2],_=>
   simp[pCi,pCsl,Value.cells]at M hy O;obtain⟨a,c,ls,e,h3,h4,S⟩:=xvp O;exact⟨a,c,ls,x,y,by rw[M,hy,e],h3,h4,S⟩
end Go.Proofs.YtofhlcococeifaaGreatDoor
namespace Go.X.Ms
open Go.X Go.Conc
variable{d:Dsk}{es:List (List Value)}{b ls xs:List Str}{i n:Nat}{p:Ab}{Y:Pcs}{x:Str}{t:Twn}{T:TypeId}{v:Value}
def Part(p:Ab)(Y:Pcs)(v:Value)(ls:List Str):Prop:=∀p',PLe p p'->(∀y∈Y,p' y.1=some y.2)-> ∃a c,v=.slice a ls.length c/\At p' a ls.length ls
theorem Part.own{p:Ab}{T:TypeId}{Y:Pcs}{v:Value}{ls:List Str}(o:Aa T 1 v (scs ls) Y):Part p Y v ls:=fun p' _ H=>by
 obtain⟨a,c,e,S⟩:=o.inP H;rw[xmx]at e S;exact⟨a,c,e,S⟩
theorem Part.last{p:Ab}{a:Option Addr}{n c:Nat}{ls:List Str}(S:At p a n ls)(Y:Pcs):Part p Y (.slice a n c) ls:=fun p' H _=>by
 obtain rfl:=S.len;exact⟨a,c,rfl,Sl.mono H S⟩
theorem xwb{w:Nat}(o:Aa T w v es Y):∃a n c,v=.slice a n c:=by
 obtain⟨_,⟨rfl,_,_⟩|⟨b,cs,cap,H,rfl,_⟩⟩:=o<;>exact⟨_,_,_,rfl⟩
theorem Part.more{p:Ab}{Y Z:Pcs}{v:Value}{ls:List Str}(P:Part p Y v ls)(h:∀y∈Y,y∈Z):Part p Z v ls:=fun p' M H=>P p' M fun y m=>H y (h y m)
theorem xic{a:Option Addr}(S:At p a n xs)(j:Nat)(H:j<=n):At p a j (xs.take j):=by
 have M:=S.len;have z:=Sl.cut (lo:=0) (hi:=j) (a':=a) S (Nat.zero_le _) H fun h=>by
  rw[At.ne S om];simp[adr,Addr.add]
 have e:((scs xs).drop 0).take (j-0)=scs (xs.take j):=by simp[scs,List.map_take]
 rw[e]at z;exact z
theorem xq2{a:Option Addr}{c:Nat}(S:At p a n xs)(i j:Nat)(hi:i<=j)(H:j<=n)(hc:n<=c):At p (Cf a c i 1) (j-i) ((xs.drop i).take (j-i)):=
 xic (xmk S i om hc) (j-i) om
def RunZ(p:Ab)(t:Twn)(ls:List Str)(Y:Pcs)(v:Value):Prop:=∃(a:Option Addr)(c:Nat)(A:TA),v=.tuple #[.slice a ls.length c,twV A (Bt t ls).2,.bool true]/\ls.length<=c/\ ∀p',PLe p p'->(∀y∈Y,p' y.1=some y.2)->At p' a ls.length (Bt t ls).1/\TwP p' A (Bt t ls).2
theorem RunZ.tup{p:Ab}{t:Twn}{ls:List Str}{Y:Pcs}{v:Value}(r:RunZ p t ls Y v):(∃xs:Array Value,v=.tuple xs/\0<xs.size)/\(∃xs:Array Value,v=.tuple xs/\1<xs.size)/\ ∃xs:Array Value,v=.tuple xs/\2<xs.size:=by
 obtain⟨a,c,A,rfl,_⟩:=r;exact⟨⟨_,rfl,s_⟩,⟨_,rfl,s_⟩,⟨_,rfl,s_⟩⟩
theorem RunZ.agg{p:Ab}{t:Twn}{ls:List Str}{Y:Pcs}{v:Value}(r:RunZ p t ls Y v):∃A,prj 1 v=twV A (Bt t ls).2:=by
 obtain⟨a,c,A,rfl,_⟩:=r;exact⟨A,rfl⟩
def opn1(x a:Str):Int:=if(Ag x).k=2/\a=wOk then(if x=Ap then 1 else -1)else 0
def opnK:List Str->List Str->Nat->Int
 |_,_,0=>0
 |xs,az,k+1=>opnK xs az k+opn1 (xs.getD k []) (az.getD k [])
theorem ywx:((doD d x).1.Bz.length:Int)=(d.Bz.length:Int)+opn1 x (doD d x).2:=by
 rw[xcz];unfold opn1;by_cases H:(Ag x).k=2
 ·obtain⟨ew,hx,ea⟩:=ylb H;have e:Ch d (Ag x)=((tryD d x).1,Ek (tryD d x).2):=by
   unfold Ch;rw[if_neg om,ea,A5];simp only[if_pos H];rw[<- ew]
  rw[e];unfold tryD;by_cases c:x=Ap
  ·rw[if_pos c,if_pos ⟨H,rfl⟩,if_pos c];show((d.Bz++[d.now]).length:Int)=_;rw[List.length_append];rfl
  ·rw[if_neg c];cases O:d.Bz.getLast? with
   |none=>
     simp only;rw[if_neg fun z=>absurd z.2 d_];show(d.Bz.length:Int)=_;omega
   |some s=>
     have hp:0<d.Bz.length:=List.length_pos_iff.2 fun z=>by rw[z]at O;cases O
     have V:(((d.Bz.take (d.Bz.length-1)).length:Nat):Int)=(d.Bz.length:Int)+ -1:=by rw[List.length_take];omega
     by_cases M:x=Cc
     ·simp only[if_pos M];rw[if_pos ⟨H,rfl⟩,if_neg c];exact V
     ·simp only[if_neg M];rw[if_pos ⟨H,rfl⟩,if_neg c];exact V
 ·rw[if_neg fun z=>H z.1,Int.add_zero];have e:=yyx (d:=d) H;rw[xcz]at e;rw[e]
theorem xl1(x a:Str)(xs H:List Str):∀k,opnK (x::xs) (a::H) (k+1)=opn1 x a+opnK xs H k
 |0=>by rw[opnK,opnK,opnK];show 0+opn1 x a=opn1 x a+0;omega
 |k+1=>by
   rw[opnK,xl1 x a xs H k,opnK,List.getD_cons_succ,List.getD_cons_succ];omega
theorem xp5:∀(xs:List Str)(d:Dsk),((Az d xs).1.Bz.length:Int)=(d.Bz.length:Int)+opnK xs (Az d xs).2 xs.length
 |[],d=>by show(d.Bz.length:Int)=_+0;omega
 |x::xs,d=>by
   rw[xsx,List.length_cons,xl1];show((Az (doD d x).1 xs).1.Bz.length:Int)=_;rw[xp5 xs,ywx];omega
theorem xo6{xs M H bs:List Str}:∀k,(∀i,i<k->xs.getD i []=M.getD i []/\H.getD i []=bs.getD i [])->opnK xs H k=opnK M bs k
 |0,_=>rfl
 |k+1,h=>by rw[opnK,opnK,xo6 k fun i hi=>h i om,(h k om).1,(h k om).2]
theorem xes(d:Dsk)(xs:List Str)(k:Nat):Az d xs=((Az (Az d (xs.take k)).1 (xs.drop k)).1,(Az d (xs.take k)).2++(Az (Az d (xs.take k)).1 (xs.drop k)).2):=by
 have:=xxj (xs.take k) (xs.drop k) d;rwa[List.take_append_drop]at this
theorem ycv{H bs:List Str}(h:i<H.length):(H++bs).getD i []=H.getD i []:=by
 rw[List.getD_eq_getElem?_getD,List.getElem?_append_left h,List.getD_eq_getElem?_getD]
theorem ybv{k:Nat}(h:i<k):(xs.take k).getD i []=xs.getD i []:=by
 rw[List.getD_eq_getElem?_getD,List.getElem?_take_of_lt h,List.getD_eq_getElem?_getD]
theorem yo0{k:Nat}(hv:Cj t=0)(O:xs.length<=30)(hk:k<=xs.length):
 0<=opnK xs (Bt t xs).1 k/\(opnK xs (Bt t xs).1 k=0->(∀x∈xs.drop k,Cr x=false)->
  (Bt t xs).1=(Bt t (xs.take k)).1++(Bt (Bt t (xs.take k)).2 (xs.drop k)).1/\(Bt t xs).2=(Bt (Bt t (xs.take k)).2 (xs.drop k)).2):=by
 have M:(xs.take k).length=k:=by rw[List.length_take];omega
 have V:=xhw (ls:=xs.take k) hv om;have e:=xes (Ai t) xs k;have hp:=xp5 (xs.take k) (Ai t);have hlen:(Az (Ai t) (xs.take k)).2.length=k:=by rw[xpc,M]
 have eo:opnK xs (Bt t xs).1 k=opnK (xs.take k) (Az (Ai t) (xs.take k)).2 k:=xo6 k fun i hi=>by
  rw[xfj hv O,e];exact⟨(ybv hi).symm,ycv om⟩
 rw[M]at hp;have h0:((Ai t).Bz.length:Int)=0:=rfl;rw[eo];refine⟨om,fun ho hx=>?_⟩;have H:(Az (Ai t) (xs.take k)).1.Bz=[]:=List.length_eq_zero_iff.1 om;rw[xfj hv O,xfj (ls:=xs.drop k) V (by rw[List.length_drop];omega),xfj (ls:=xs.take k) hv om,e];have tw:Twin (Az (Ai t) (xs.take k)).1 (Ai (Az (Ai t) (xs.take k)).1.now.t):=⟨rfl,by rw[H];rfl⟩
 obtain⟨r1,r2⟩:=xb5 tw hx;exact⟨by show _++_=_++_;rw[r1],r2.1⟩
theorem xj5{n:Cv}{p p':List Cv}(h:(Ag x).k≠2):doD ⟨n,p⟩ x=(⟨(doD ⟨n,p'⟩ x).1.now,p⟩,(doD ⟨n,p'⟩ x).2):=by
 rw[xcz,xcz];unfold Ch;split
 ·rfl
 ·show(match A5 n (Ag x).a with|none=>_|some vs=>_)=_;cases A5 n (Ag x).a with
  |none=>rfl
  |some vs=>
    simp only;cases qn ((Ag x).w++txt (Ag x).a.length)with
    |some q=>
      unfold C5;simp only;split
      ·rfl
      ·split
       ·rfl
       ·split
        ·cases(B2 q n.t vs).1<;>rfl
        ·rfl
    |none=>
      cases od ((Ag x).w++txt (Ag x).a.length)with
      |none=>rfl
      |some o=>
        unfold Ej;simp only;cases Ct o n.t vs with
        |none=>rfl
        |some t=>simp only;split<;>rfl
theorem xis:∀{xs:List Str}{n:Cv}{p p':List Cv},(∀x∈xs,(Ag x).k≠2)->Az ⟨n,p⟩ xs=(⟨(Az ⟨n,p'⟩ xs).1.now,p⟩,(Az ⟨n,p'⟩ xs).2)
 |[],_,_,_,_=>rfl
 |x::xs,n,p,p',h=>by
   have hs:=xj5 (n:=n) (p:=p) (p':=p') (h x s_);have H:=xj5 (n:=n) (p:=p') (p':=p') (h x s_);have M:=xis (xs:=xs) (n:=(doD ⟨n,p'⟩ x).1.now) (p:=p) (p':=p') fun y O=>h y (List.mem_cons_of_mem _ O);have e:(doD ⟨n,p'⟩ x).1=⟨(doD ⟨n,p'⟩ x).1.now,p'⟩:=congrArg Prod.fst H;rw[xsx,xsx,hs,M];rw[<- e]
theorem xcs(h:x=Ap\/x=Fl\/x=Cc)(d:Dsk):doD d x=((tryD d x).1,Ek (tryD d x).2):=by
 have e:Ag x=⟨x,2,[],[]⟩:=by rcases h with rfl|rfl|rfl<;>kernel_rfl
 rw[xcz,e];rfl
theorem xg8(n:Cv)(p:List Cv):doD ⟨n,p⟩ Ap=(⟨n,p++[n]⟩,wOk):=by rw[xcs (.inl rfl)];rfl
theorem yy0(n s:Cv)(p:List Cv):doD ⟨n,p++[s]⟩ Fl=(⟨n,p⟩,wOk):=by
 rw[xcs (.inr (.inl rfl))];unfold tryD;rw[if_neg d_];simp only[List.getLast?_append,List.getLast?_singleton,Option.some_or,if_neg (show ¬ Fl=Cc by decide)];rw[List.length_append,List.length_singleton,Nat.add_sub_cancel,List.take_left']
 ·rfl
 ·rfl
theorem yxp(n s:Cv)(p:List Cv):doD ⟨n,p++[s]⟩ Cc=(⟨s,p⟩,wOk):=by
 rw[xcs (.inr (.inr rfl))];unfold tryD;rw[if_neg d_];simp only[List.getLast?_append,List.getLast?_singleton,Option.some_or];rw[List.length_append,List.length_singleton,Nat.add_sub_cancel,List.take_left']
 ·rfl
 ·rfl
theorem ysx{a c:List Str}(h:∀x∈b,(Ag x).k≠2):Az d (a++(Ap::(b++(Fl::c))))=
 ((Az d (a++(b++c))).1,(Az d a).2++(wOk::((Az (Az d a).1 b).2++(wOk::(Az (Az (Az d a).1 b).1 c).2)))):=by
 rw[xxj,xxj a (b++c),xxj b c,xsx];generalize (Az d a).2=A;obtain⟨n,p⟩:=(Az d a).1;rw[xg8];have M:=xis (xs:=b) (n:=n) (p:=p++[n]) (p':=p) h;have O:=xis (xs:=b) (n:=n) (p:=p) (p':=p) h;have H:(Az ⟨n,p⟩ b).1=⟨(Az ⟨n,p⟩ b).1.now,p⟩:=congrArg Prod.fst O;simp only;rw[xxj,M,xsx];simp only;rw[yy0];simp only;rw[<- H]
theorem xx8{a c:List Str}(h:∀x∈b,(Ag x).k≠2):Az d (a++(Ap::(b++(Cc::c))))=
 ((Az d (a++c)).1,(Az d a).2++(wOk::((Az (Az d a).1 b).2++(wOk::(Az (Az d a).1 c).2)))):=by
 rw[xxj,xxj a c,xsx];generalize (Az d a).2=A;obtain⟨n,p⟩:=(Az d a).1;rw[xg8];have H:=xis (xs:=b) (n:=n) (p:=p++[n]) (p':=p) h;simp only;rw[xxj,H,xsx];simp only;rw[yxp]
theorem ytj(xs H:List Str):∀k:Nat,-((k:Nat):Int)<=opnK xs H k/\opnK xs H k<=((k:Nat):Int)
 |0=>⟨Int.le_refl _,Int.le_refl _⟩
 |k+1=>by
   have h:=ytj xs H k;have e: -1<=opn1 (xs.getD k []) (H.getD k [])/\opn1 (xs.getD k []) (H.getD k [])<=1:=by
    unfold opn1;split
    ·split<;>constructor<;>decide
    ·constructor<;>decide
   rw[opnK];omega
def runA:Nat->List Nat
 |2=>[1]
 |4=>[3]
 |5=>[2,4]
 |6=>[0,5]
 |7=>[6]
 |8=>[6,7]
 |9=>[6,7]
 |10=>[6,7]
 |12=>[6,8]
 |13=>[6,9,11]
 |_=>[]
end Go.X.Ms
namespace Go.Proofs.YtofhlcococeifaaGreatDoor
open Go.Proofs.Tryz
open Go.X Go.X.Ms Go.Conc
variable{h z9:Heap}{xss:List (List Str)}{zz:List Nat}{ls:List Str}{us:List Value}{p:Ab}{T:TypeId}{v:Value}
theorem xbf{L Y:Pcs}{A:TA}{t:Twn}(P:Part p Y v ls)(s:St z9 zz p h (Y++L))(T:TwP p A t)(g:GlP p)(M:∀s∈ls,s.length<=900)(hv:Cj t=0)(V:ls.length<=30):
 Ac prog (.main true) 10 #[twV A t,v] h fun v' h'=>∃Z,RunZ p t ls (Z++Y) v'/\New h h' Z:=by
 obtain⟨p',⟨g',gl⟩,hy,s'⟩:=s.Dj;obtain⟨a,c,e,S⟩:=P p' g'.le hy;subst e;refine(cf10 s'.per A t (T.mono g'.le) (g.mono g'.le) c ls S M hv V).mono fun v' h' x=>?_;obtain⟨Z,⟨p2,⟨a2,c2,A2,e2,hc,S2,T2⟩,le⟩,N⟩:=x.pieces;have lf:∀H,PLe p H->(∀y∈Z++Y,H y.1=some y.2)->PLe p2 H:=fun H l y=>le H (gl H l fun z O=>y z (List.mem_append_right _ O)) fun z O=>y z (List.mem_append_left _ O);exact⟨Z,⟨a2,c2,A2,e2,hc,fun H l y=>⟨Sl.mono (lf H l y) S2,T2.mono (lf H l y)⟩⟩,N⟩
theorem xyv{L Y M:Pcs}{md:Md}(o:Aa T 1 v (us.map fun u=>[u]) M)(s:St z9 zz p h ((M++Y)++L))(hl:us.length=xss.length)(hP:∀i,i<xss.length->Part p Y (us.getD i undef) (xss.getD i []))(hn:xss.length<=10)(hb:∀i,i<xss.length->(xss.getD i []).length<=1000):
 Ac prog md 14 #[v] h fun v' h'=>∃Z,Part p (Z++(M++Y)) v' xss.flatten/\New h h' Z:=by
 obtain⟨p',⟨g',gl⟩,hy,s'⟩:=s.Dj;obtain⟨a,c,e,S⟩:=o.inP fun y O=>hy y (List.mem_append_left _ O);subst e;have hlen:(us.map fun u=>[u]).length=xss.length:=by rw[List.length_map,hl]
 rw[hlen]at S⊢;refine(cf14 c xss ⟨_,S,rfl,fun i hi=>?_⟩ hn hb h s'.per).mono fun v' h' x=>?_
 ·obtain⟨b,cb,e,Sb⟩:=hP i hi p' g'.le fun y O=>hy y (List.mem_append_right _ O);refine⟨b,cb,?_,Sb⟩;rw[List.getElem?_map,List.getElem?_eq_getElem om,<- e,Flow.Au om];rfl
 ·obtain⟨Z,⟨p2,⟨a2,c2,e2,hc,S2⟩,le⟩,N⟩:=x.pieces;exact⟨Z,fun H l y=>⟨a2,c2,e2,Sl.mono (le H (gl H l fun z V=>y z (List.mem_append_right _ V)) fun z V=>y z (List.mem_append_left _ V)) S2⟩,N⟩
open Go.X.Flow (ics)
variable{a1:Option Addr}
theorem yup(h:Heap)(p:Ab)(hp:Per p h)(A:TA)(t:Twn)(T:TwP p A t)(hn:t.fit 9223372036854775807)(g:GlP p)(c1:Nat)(ls:List Str)(_:ls.length<=9223372036854775807)(S1:At p a1 ls.length ls)(a9:ls.length<=c1)(k1 k2:Int):
 En prog (.main true) 3 #[twV A t,.agg #[.slice a1 ls.length c1,.J k1,.J k2]] h fun v h'=>v=.bool true/\Av h h':=by
 refine xdm hp func3 ?_;refine bq fun b2=>?_;refine bq fun b3=>?_;refine ckq (xlh A t T hn ls.length c1 ls S1) ?_;rintro _ ⟨q,rfl,O⟩;refine ax ?_;refine xdr rfl rfl rfl sdu (cf8 ls.length c1 k1 k2) fun q1 h1=>?_;refine cq (fun _=>?_) (fun cc=>?_)
 ·refine cdq (cf9 g) ?_;refine ax ?_;exact xij k_ func3 rfl rfl fun _ H_=>⟨rfl,H_.kept⟩
 obtain⟨rfl,rfl⟩:q=true/\q1=true:=by simpa using cc
 obtain⟨hv,a4,d7⟩:=O rfl;obtain⟨⟨f0,fz⟩,zn⟩:=h1 rfl rfl;clear cc O h1;obtain⟨f,rfl⟩:∃f:Nat,k1=((f:Nat):Int):=⟨k1.toNat,om⟩
 have hf:f<=ls.length:=om;have a2:∀s∈ls,s.length<=900:=fun s hs=>by have:=d7 s hs;omega
 have e1:(ls.take f).length=f:=by rw[List.length_take];omega
 have f3:(ls.drop f).length=ls.length-f:=List.length_drop;refine cpq (fun h pe=>cf10 pe A t T g c1 ls S1 a2 hv a4) ?_;rintro _ p6 g6 ⟨a6,c6,A6,rfl,f1,S6,T6⟩;have f6:=xxw hv a4;have d9:=xhw hv a4;have hH:=yo0 hv a4 hf;have c5:=xhw (ls:=ls.take f) hv om;generalize Bt t ls=R at*;refine lq fun b6=>?_;refine ax ?_;have Tp:=T.mono g6.le;have G6:=g.mono g6.le;have c2:At p6 a1 ls.length ls:=Sl.mono g6.le S1
 refine xld 14 [13,6] [0,1,2,3,4,5,7,8,9,10,12] [6,11,13] (fun i=>match i with|13=>[11]|_=>[]) runA
  (fun val i=>match i with
   |0=>some (twV A t)
   |1=>some (w_ b3 0)
   |2=>some (.slice a1 ls.length c1)
   |3=>some (w_ b3 1)
   |4=>some (.J ((f:Nat):Int))
   |5=>some (.slice a1 f c1)
   |7=>some (val 6)
   |8|12=>some (prj 0 (val 6))
   |9=>some (prj 1 (val 6))
   |10=>some (prj 2 (val 6))
   |_=>none)
  (fun i val _ v x=>match i with
   |6=>RunZ p6 t (ls.take f) x v
   |11=>∃b,v=w_ b 0/\x=[(b,.cells (tcs zA zT).toArray 33 (0,0))]
   |13=>∃b,val 11=w_ b 0/\x=[(b,.cells (prj 1 (val 6)).cells 33 (0,0))]
   |_=>True) (fun i hi val piece O=>?_) (fun val piece j hj v x q=>?_) (fun val piece O=>?_)
 ·match i,hi with
   |0,_|1,_|2,_|3,_|4,_|7,_|12,_=>exact det
   |5,_=>
     refine xst rfl rfl rfl (Nat.le_trans hf a9) ?_;exact det
   |6,_=>
     refine xhb (first:=[]) (cap:=[]) (vs:=[twV A t,.slice a1 f c1]) (Q:=fun v Z=>RunZ p6 t (ls.take f) (Z++[]) v) (LR:=[]) [] (ii:=⟨List.Perm.refl []⟩) rfl rfl rfl (fun h L s=>xbf (Part.last (xic c2 f hf) []) s Tp G6 (fun s hs=>a2 s (List.mem_of_mem_take hs)) hv om) fun v Z e=>?_;exact xuq ⟨⟨_,rfl⟩,fun v' e'=>by
      have b4:=xmq e';subst b4;show RunZ _ _ _ ((Z++[])++[]) _;rw[List.append_nil];exact e⟩
   |8,_=>exact xbw rfl rfl (RunZ.tup (O 6 rfl)).1 (xuq ⟨⟨_,rfl⟩,fun v e=>⟨xmq e,rfl⟩⟩)
   |9,_=>exact xbw rfl rfl (RunZ.tup (O 6 rfl)).2.1 (xuq ⟨⟨_,rfl⟩,fun v e=>⟨xmq e,rfl⟩⟩)
   |10,_=>exact xbw rfl rfl (RunZ.tup (O 6 rfl)).2.2 (xuq ⟨⟨_,rfl⟩,fun v e=>⟨xmq e,rfl⟩⟩)
   |11,_=>
     refine xec rfl fun b=>?_;exact xuq ⟨⟨_,rfl⟩,fun v e=>⟨b,xmq e,rfl⟩⟩
   |13,_=>
     obtain⟨b,H,b0⟩:=O 11 rfl;obtain⟨A',e9⟩:=RunZ.agg (O 6 rfl);show DE _ _ _ _ _ _ _ _ _ [piece 11];rw[b0];refine xbd (b:=b) (off:=0) (cs:=tcs zA zT) (v:=twV A' (Bt t (ls.take f)).2) rfl (by show some ([],val 11)=_;rw[H]) (by show some ([],prj 1 (val 6))=_;rw[e9]) ?_;exact xuq ⟨⟨undef,rfl⟩,fun v e=>⟨b,H,by show _=[(b,Obj.cells (prj 1 (val 6)).cells _ _)];rw[e9];rfl⟩⟩
 ·simp only[List.mem_cons,List.not_mem_nil,or_false]at hj;rcases hj with rfl|rfl|rfl|rfl|rfl|rfl|rfl|rfl|rfl|rfl|rfl<;>exact q.2
 obtain⟨a8,c8,A8,e6,e0,h8⟩:=O 6 d_;obtain⟨b9,H,M⟩:=O 13 d_;have H:val 11=_:=H;have M:piece 13=[(b9,.cells (prj 1 (val 6)).cells 33 (0,0))]:=M;rw[e6]at M
 refine xdk (l':=[(2,none,w_ b2 0),(3,none,w_ b3 0),(5,none,.slice a6 ls.length c6),(6,none,w_ b6 0),(7,none,.bool true),(8,none,.slice a8 (ls.take f).length c8),(9,none,w_ b9 0),(46,none,.bool true)]) ?_
  ⟨rfl,rfl,rfl,rfl,rfl,by show some (none,prj 0 (val 6))=_;rw[e6];rfl,by show some (none,val 11)=_;rw[H],by show some (none,prj 2 (val 6))=_;rw[e6];rfl,trivial⟩
 clear O;show RO _ _ _ _ _ _ [piece 13,piece 6,_,_,_];rw[M];generalize piece 6=Z6 at*;clear M e6 H;refine xjz Z6 fun p8 g8 hy=>?_;obtain⟨S8,T8⟩:=h8 p8 g8.le hy;clear h8 hy;have S6:=At.mono g8.le S6;have T6:=T6.mono g8.le;have G8:=G6.mono g8.le;have a7:At p8 a1 ls.length ls:=At.mono g8.le c2;rw[e1]at S8 e0⊢;have f4:Sl p8 a6 ls.length 1 (scs R.1):=S6;refine ax ?_;refine cq (fun cd=>?_) (fun _=>?_)
 ·exact absurd cd s_
 refine ax ?_;refine xnq (fun m l'=>∃(j:Nat),m=f-j/\l'=[(2,none,w_ b2 0),(3,none,w_ b3 0),(5,none,.slice a6 ls.length c6),(6,none,w_ b6 0),(8,none,.slice a8 f c8),(9,none,w_ b9 0),(11,none,.J (opnK ls R.1 j)),(12,none,.J ((j:Nat):Int))]/\j<=f) ⟨0,rfl,rfl,Nat.zero_le _⟩ sb ?_;rintro _ _ IH ⟨j,rfl,rfl,hj⟩;have c9:=ytj ls R.1 j;refine cq (fun cd=>?_) (fun cd=>?_)
 ·have e8:j<f:=om;have a5:j<ls.length:=om;have eo:opnK ls R.1 (j+1)=opnK ls R.1 j+opn1 (ls.getD j []) (R.1.getD j []):=rfl;unfold opn1 at eo;refine ax ?_;refine ro_y rfl (y_lp rfl (At.get a7 a5)) ?_;refine ax ?_;refine xpx rfl rfl (cf11 (ls.getD j []) (a2 _ (by rw[Flow.Au a5];exact List.getElem_mem _))) ?_;refine ax ?_;refine ro_y rfl (xdj rfl sdu (fun _=>At.get S6 (i:=j) a5) (u:=sv (R.1.getD j []))) ?_;refine cq (fun ce=>?_) (fun ce=>?_)
  ·rw[if_pos (show(Ag (ls.getD j [])).k=2/\R.1.getD j []=wOk from ce)]at eo;refine ax ?_;refine ro_y rfl (y_lp rfl (At.get a7 a5)) ?_;refine cq (fun cf=>?_) (fun cf=>?_)
   ·rw[if_pos (show ls.getD j []=Ap from cf)]at eo;exact bkq (IH _ om ⟨j+1,rfl,by rw[eo],om⟩)
   ·rw[if_neg (show ¬ ls.getD j []=Ap from cf)]at eo;exact bkq (IH _ om ⟨j+1,rfl,by rw[eo],om⟩)
  ·rw[if_neg (show ¬ ((Ag (ls.getD j [])).k=2/\R.1.getD j []=wOk) from ce),Int.add_zero]at eo;exact bkq (IH _ om ⟨j+1,rfl,by rw[eo],om⟩)
 obtain rfl:j=f:=om;clear IH;refine cq (fun ce=>?_) (fun ce=>?_)
 ·have e3:=hH.1;refine cgq (fun _=>cf9 G8) ?_;refine ax ?_;exact xij k_ func3 rfl rfl fun _ H_=>⟨congrArg Value.bool (by simp;omega),H_.kept⟩
 have ho:opnK ls R.1 j=0:=Classical.not_not.1 ce;clear c9 ce;refine ax ?_;refine xnq (fun m l'=>∃(i:Nat),m=ls.length-i/\l'=[(2,none,w_ b2 0),(3,none,w_ b3 0),(5,none,.slice a6 ls.length c6),(6,none,w_ b6 0),(8,none,.slice a8 j c8),(9,none,w_ b9 0),(13,none,.J ((i:Nat):Int))]/\(j<=i/\i<=ls.length)/\ ∀s,j<=s->s<i->Cr (ls.getD s [])=false) ⟨j,rfl,rfl,⟨Nat.le_refl _,hf⟩,fun s h1 h2=>om⟩ sb ?_;rintro _ _ IH ⟨i,rfl,rfl,hi,hs⟩;refine cq (fun cd=>?_) (fun cd=>?_)
 ·have b8:i<ls.length:=om;refine ax ?_;refine ro_y rfl (y_lp rfl (At.get a7 b8)) ?_;refine ax ?_;refine xpx rfl rfl (cf12 (ls.getD i []) (a2 _ (by rw[Flow.Au b8];exact List.getElem_mem _))) ?_;refine cq (fun ce=>?_) (fun ce=>?_)
  ·refine cdq (cf9 G8) ?_;refine ax ?_;exact xij k_ func3 rfl rfl fun _ H_=>⟨rfl,H_.kept⟩
  exact bkq (IH _ om ⟨i+1,rfl,rfl,om,fun s h1 h2=>by
   by_cases z:s=i
   ·rw[z];simpa using ce
   ·exact hs s h1 om⟩)
 obtain rfl:i=ls.length:=om;clear IH;have hx:∀x∈ls.drop j,Cr x=false:=fun x hx=>by
  obtain⟨i,e7,rfl⟩:=List.mem_iff_getElem.1 hx;have:=hs (j+i) om om;rw[List.getElem_drop];rwa[Flow.Au om]at this
 obtain⟨hA,hT⟩:=hH.2 ho hx;clear hs hH;refine ax ?_
 refine xld 14 [13,6] [0,1,2,3,4,5,7,8,9,10,12] [6,11,13] (fun i=>match i with|13=>[11]|_=>[]) runA
  (fun val i=>match i with
   |0=>some (twV A8 (Bt t (ls.take j)).2)
   |1=>some (w_ b3 0)
   |2=>some (.slice a1 ls.length c1)
   |3=>some (w_ b3 1)
   |4=>some (.J ((j:Nat):Int))
   |5=>some (.slice (Cf a1 c1 j 1) (ls.length-j) (c1-j))
   |7=>some (val 6)
   |8|12=>some (prj 0 (val 6))
   |9=>some (prj 1 (val 6))
   |10=>some (prj 2 (val 6))
   |_=>none)
  (fun i val _ v x=>match i with
   |6=>RunZ p8 (Bt t (ls.take j)).2 (ls.drop j) x v
   |11=>∃b,v=w_ b 0/\x=[(b,.cells (tcs zA zT).toArray 33 (0,0))]
   |13=>∃b,val 11=w_ b 0/\x=[(b,.cells (prj 1 (val 6)).cells 33 (0,0))]
   |_=>True) (fun i hi val piece O=>?_) (fun val piece j hj v x q=>?_) (fun val piece O=>?_)
 ·match i,hi with
   |0,_|1,_|2,_|3,_|4,_|7,_|12,_=>exact det
   |5,_=>
     refine de_y rfl rfl (xhl rfl rfl ⟨hf,a9⟩) ?_;exact det
   |6,_=>
     refine xhb (first:=[]) (cap:=[]) (vs:=[twV A8 (Bt t (ls.take j)).2,.slice (Cf a1 c1 j 1) (ls.length-j) (c1-j)]) (Q:=fun v Z=>RunZ p8 (Bt t (ls.take j)).2 (ls.drop j) (Z++[]) v) (LR:=[]) [] (ii:=⟨List.Perm.refl []⟩) rfl rfl rfl (fun h L s=>xbf (Part.last (xmk a7 j hf a9) []) s T8 G8 (fun s hs=>a2 s (List.mem_of_mem_drop hs)) c5 om) fun v Z e=>?_;exact xuq ⟨⟨_,rfl⟩,fun v' e'=>by
      have b4:=xmq e';subst b4;show RunZ _ _ _ ((Z++[])++[]) _;rw[List.append_nil];exact e⟩
   |8,_=>exact xbw rfl rfl (RunZ.tup (O 6 rfl)).1 (xuq ⟨⟨_,rfl⟩,fun v e=>⟨xmq e,rfl⟩⟩)
   |9,_=>exact xbw rfl rfl (RunZ.tup (O 6 rfl)).2.1 (xuq ⟨⟨_,rfl⟩,fun v e=>⟨xmq e,rfl⟩⟩)
   |10,_=>exact xbw rfl rfl (RunZ.tup (O 6 rfl)).2.2 (xuq ⟨⟨_,rfl⟩,fun v e=>⟨xmq e,rfl⟩⟩)
   |11,_=>
     refine xec rfl fun b=>?_;exact xuq ⟨⟨_,rfl⟩,fun v e=>⟨b,xmq e,rfl⟩⟩
   |13,_=>
     obtain⟨b,H,b0⟩:=O 11 rfl;obtain⟨A',e9⟩:=RunZ.agg (O 6 rfl);show DE _ _ _ _ _ _ _ _ _ [piece 11];rw[b0];refine xbd (b:=b) (off:=0) (cs:=tcs zA zT) (v:=twV A' (Bt (Bt t (ls.take j)).2 (ls.drop j)).2) rfl (by show some ([],val 11)=_;rw[H]) (by show some ([],prj 1 (val 6))=_;rw[e9]) ?_;exact xuq ⟨⟨undef,rfl⟩,fun v e=>⟨b,H,by show _=[(b,Obj.cells (prj 1 (val 6)).cells _ _)];rw[e9];rfl⟩⟩
 ·simp only[List.mem_cons,List.not_mem_nil,or_false]at hj;rcases hj with rfl|rfl|rfl|rfl|rfl|rfl|rfl|rfl|rfl|rfl|rfl<;>exact q.2
 obtain⟨c4,c3,d5,e6,e4,c7⟩:=O 6 d_;obtain⟨b5,H,M⟩:=O 13 d_;have H:val 11=_:=H;have M:piece 13=[(b5,.cells (prj 1 (val 6)).cells 33 (0,0))]:=M;rw[e6]at M
 refine xdk (l':=[(5,none,.slice a6 ls.length c6),(6,none,w_ b6 0),(8,none,.slice a8 j c8),(14,none,.slice c4 (ls.drop j).length c3),(15,none,w_ b5 0),(115,none,.bool true)]) ?_
  ⟨rfl,rfl,rfl,by show some (none,prj 0 (val 6))=_;rw[e6];rfl,by show some (none,val 11)=_;rw[H],by show some (none,prj 2 (val 6))=_;rw[e6];rfl,trivial⟩
 clear O;show RO _ _ _ _ _ _ [piece 13,piece 6,_,_,_,_];rw[M];generalize piece 6=Z6 at*;clear M e6 H;refine xjz Z6 fun p9 g9 hy=>?_;obtain⟨d8,b7⟩:=c7 p9 g9.le hy;rw[<- hT]at b7⊢;clear c7 hy;have S6:=At.mono g9.le S6;have S8:=At.mono g9.le S8;have T6:=T6.mono g9.le;have G9:=G8.mono g9.le;refine ax ?_;refine xy0 rfl rfl ⟨rfl,rfl,trivial⟩ fun v5 Y5 o5=>?_;have o5:Aa 34 1 v5 ([Value.slice a8 j c8,.slice c4 (ls.drop j).length c3].map fun u=>[u]) Y5:=o5;refine ax ?_;have f2:=xxw (ls:=ls.take j) hv om;have e5:=xxw (ls:=ls.drop j) c5 om;refine ydt (first:=[]) (cap:=[]) (vs:=[v5]) (Q:=fun v Z=>Part p9 (Z++(Y5++[])) v [(Bt t (ls.take j)).1,(Bt (Bt t (ls.take j)).2 (ls.drop j)).1].flatten) rfl rfl rfl trivial (fun h s=>xyv (L:=_) o5 (by simpa using s) rfl (fun i hi=>?_) (show(2:Nat)<=10 by decide) (fun i hi=>?_)) fun v6 Z6 P6=>?_
 ·match i,hi with
   |0,_=>exact Part.last S8 []
   |1,_=>exact Part.last d8 []
 ·match i,hi with
   |0,_=>show(Bt t (ls.take j)).1.length<=1000;omega
   |1,_=>show(Bt (Bt t (ls.take j)).2 (ls.drop j)).1.length<=1000;omega
 rw[show [(Bt t (ls.take j)).1,(Bt (Bt t (ls.take j)).2 (ls.drop j)).1].flatten=R.1 by rw[hA];simp]at P6;refine xjz Z6 fun f7 a3 hy=>?_;refine xjz Y5 fun e2 V d6=>?_;obtain⟨f5,f8,rfl,d0⟩:=P6 e2 (a3.trans V).le fun y m=>by
  rcases List.mem_append.1 m with m|m
  ·exact V.le _ _ (hy y m)
  ·exact d6 y (by simpa using m)
 have S6:=At.mono (a3.trans V).le S6;refine ax ?_;refine xqz rfl rfl rfl sdu (fun _=>cf13 R.1 R.1 S6 d0 ⟨om,om⟩) ?_;refine ax ?_;refine xqz rfl rfl rfl sdu (fun _=>cf15 A6 d5 R.2 (T6.mono (a3.trans V).le) (b7.mono (a3.trans V).le) ((xdz d9).up om)) ?_;refine cgq (fun _=>cf9 (G9.mono (a3.trans V).le)) ?_;refine ax ?_;exact xij k_ func3 rfl rfl fun _ H_=>⟨s_,H_.kept⟩
end Go.Proofs.YtofhlcococeifaaGreatDoor
