/-
  Part of proofs about a town's master: a calculus for Bc beside goroutines that are only leaving, and the Bc. No condition.
-/
import Derived.Test.YtofhlcococeifaaGreatDoorYR
set_option maxHeartbeats 3200000
set_option maxRecDepth 20000
set_option synthInstance.maxSize 2000
namespace Go.Proofs.YtofhlcococeifaaGreatDoor
open Go.Proofs.Tryz
open Go.X Go.X.Ms Go.Conc Go.RowKit Go.ChangeShapes Go.WideShapes Go.ChangeAt Go.Joins
variable{p:List MemPlace}{cs:List Value}{base:Nat}{H:Type}{v:Value}{W:World}
instance:Inhabited Str:=⟨[]⟩
section
variable{enc:TypeId×Value->H}{d:DataW H}
theorem pCl:prog.cellsOf 9=1:=by kernel_rfl
theorem pCsl:prog.cellsOf 34=1:=by kernel_rfl
theorem ynb{m:Nat}{y:DataW H×List MemPlace}(h:DataW.trod enc prog W 0 (fun _=>true) true m 9 cs=some y):∃s:Str,cs=[sv s]:=by
 obtain⟨s,M,_,_⟩:=DataW.trod_string underlying9 h;exact⟨s.data.toList,by rw[M,sv,yx2]⟩
theorem xvp{m:Nat}{y:DataW H×List MemPlace}(h:DataW.trod enc prog W 0 (fun _=>true) true m 34 [v]=some y):
 ∃(a:Option Addr)(c:Nat)(ls:List Str),v=.slice a ls.length c/\ls.length<=9223372036854775807/\ls.length<=c/\At (vwP W) a ls.length ls:=
 xmd (fun s=>[sv s]) underlying34 pCl (fun _ _ _ h=>ynb h) h
theorem xq9(hv:Value.okWide prog W .any base 34 v)(h:DataW.Trod enc prog W 0 (fun _=>true) true 34 v d p):
 ∃(a:Option Addr)(c:Nat)(ls:List Str),v=.slice a ls.length c/\ls.length<=9223372036854775807/\ls.length<=c/\At (vwP W) a ls.length ls:=by
 obtain⟨a,n,c,rfl⟩:=okWide_slice underlying34 hv;obtain⟨fuel,hf⟩:=h;exact xvp hf
end
theorem pCut:prog.cellsOf 36=3:=by kernel_rfl
theorem xq6{enc:TypeId×Value->H}{d:DataW H}(hv:Value.okWide prog W .any base 36 v)(h:DataW.Trod enc prog W 0 (fun _=>true) true 36 v d p):
 ∃(a:Option Addr)(c:Nat)(ls:List Str)(x y:Int),v=.agg #[.slice a ls.length c,.J x,.J y]/\ls.length<=9223372036854775807/\ls.length<=c/\At (vwP W) a ls.length ls:=by
 obtain⟨cs,rfl,a2⟩:=okWide_struct underlying36 hv;obtain⟨fuel,hf⟩:=h;obtain⟨y0,y1,y2,n,_,V,O,h1,h2⟩:=Go.Deep.trod_struct3 underlying36 hf;rw[pCut]at V;obtain⟨x,M⟩:=xwz h1;obtain⟨y,hy⟩:=xwz h2;obtain⟨l⟩:=cs
 match l,V with
 |[c0,c1,c2],_=>
   simp[pCi,pCsl,Value.cells]at M hy O;obtain⟨a,c,ls,e,h3,h4,S⟩:=xvp O;exact⟨a,c,ls,x,y,by rw[M,hy,e],h3,h4,S⟩
end Go.Proofs.YtofhlcococeifaaGreatDoor
namespace Go.X.Ms
open Go.X Go.Conc
variable{d:Dsk}{es:List (List Value)}{b ls xs:List Str}{f i n z:Nat}{p:Ab}{Y:Pcs}{x:Str}{t:Twn}{T:TypeId}{v:Value}
def Part(p:Ab)(Y:Pcs)(v:Value)(ls:List Str):Prop:=∀p',PLe p p'->(∀y∈Y,p' y.1=some y.2)-> ∃a c,v=.slice a ls.length c/\At p' a ls.length ls
theorem Part.own{p:Ab}{T:TypeId}{Y:Pcs}{v:Value}{ls:List Str}(o:Aa T 1 v (scs ls) Y):Part p Y v ls:=fun p' _ H=>by
 obtain⟨a,c,e,S⟩:=o.inP H;rw[xmx]at e S;exact⟨a,c,e,S⟩
theorem Part.last{p:Ab}{a:Option Addr}{n c:Nat}{ls:List Str}(S:At p a n ls)(Y:Pcs):Part p Y (.slice a n c) ls:=fun p' H _=>by
 obtain rfl:=S.len;exact⟨a,c,rfl,Sl.mono H S⟩
theorem xwb{w:Nat}(o:Aa T w v es Y):∃a n c,v=.slice a n c:=by
 obtain⟨_,⟨rfl,_,_⟩|⟨b,cs,cap,H,rfl,_⟩⟩:=o<;>exact⟨_,_,_,rfl⟩
theorem Part.more{p:Ab}{Y Z:Pcs}{v:Value}{ls:List Str}(P:Part p Y v ls)(h:∀y∈Y,y∈Z):Part p Z v ls:=fun p' M H=>P p' M fun y m=>H y (h y m)
theorem xic{a:Option Addr}(S:At p a n xs)(j:Nat)(H:j<=n):At p a j (xs.take j):=by
 have M:=S.len;have z:=Sl.cut (lo:=0) (hi:=j) (a':=a) S (Nat.zero_le _) H fun h=>by
  rw[At.ne S om];simp[adr,Addr.add]
 have e:((scs xs).drop 0).take (j-0)=scs (xs.take j):=by simp[scs,List.map_take]
 rw[e]at z;exact z
theorem xq2{a:Option Addr}{c:Nat}(S:At p a n xs)(i j:Nat)(hi:i<=j)(H:j<=n)(hc:n<=c):At p (Cf a c i 1) (j-i) ((xs.drop i).take (j-i)):=
 xic (xmk S i om hc) (j-i) om
def RunZ(p:Ab)(t:Twn)(ls:List Str)(Y:Pcs)(v:Value):Prop:=∃(a:Option Addr)(c:Nat)(A:TA),v=.tuple #[.slice a ls.length c,twV A (Bt t ls).2,.bool true]/\ls.length<=c/\ ∀p',PLe p p'->(∀y∈Y,p' y.1=some y.2)->At p' a ls.length (Bt t ls).1/\TwP p' A (Bt t ls).2
theorem RunZ.tup{p:Ab}{t:Twn}{ls:List Str}{Y:Pcs}{v:Value}(r:RunZ p t ls Y v):(∃xs:Array Value,v=.tuple xs/\0<xs.size)/\(∃xs:Array Value,v=.tuple xs/\1<xs.size)/\ ∃xs:Array Value,v=.tuple xs/\2<xs.size:=by
 obtain⟨a,c,A,rfl,_⟩:=r;exact⟨⟨_,rfl,s_⟩,⟨_,rfl,s_⟩,⟨_,rfl,s_⟩⟩
theorem RunZ.agg{p:Ab}{t:Twn}{ls:List Str}{Y:Pcs}{v:Value}(r:RunZ p t ls Y v):∃A,prj 1 v=twV A (Bt t ls).2:=by
 obtain⟨a,c,A,rfl,_⟩:=r;exact⟨A,rfl⟩
def opn1(x a:Str):Int:=if(Ag x).k=2/\a=wOk then(if x=Ap then 1 else -1)else 0
def opnK:List Str->List Str->Nat->Int
 |_,_,0=>0
 |xs,az,k+1=>opnK xs az k+opn1 (xs.getD k []) (az.getD k [])
theorem ywx:((doD d x).1.Bz.length:Int)=(d.Bz.length:Int)+opn1 x (doD d x).2:=by
 rw[xcz];unfold opn1;by_cases H:(Ag x).k=2
 ·obtain⟨ew,hx,ea⟩:=ylb H;have e:Ch d (Ag x)=((tryD d x).1,Ek (tryD d x).2):=by
   unfold Ch;rw[if_neg om,ea,A5];simp only[if_pos H];rw[<- ew]
  rw[e];unfold tryD;by_cases c:x=Ap
  ·rw[if_pos c,if_pos ⟨H,rfl⟩,if_pos c];show((d.Bz++[d.now]).length:Int)=_;rw[List.length_append];rfl
  ·rw[if_neg c];cases O:d.Bz.getLast? with
   |none=>
     simp only;rw[if_neg fun z=>absurd z.2 d_];show(d.Bz.length:Int)=_;omega
   |some s=>
     have hp:0<d.Bz.length:=List.length_pos_iff.2 fun z=>by rw[z]at O;cases O
     have V:(((d.Bz.take (d.Bz.length-1)).length:Nat):Int)=(d.Bz.length:Int)+ -1:=by rw[List.length_take];omega
     by_cases M:x=Cc
     ·simp only[if_pos M];rw[if_pos ⟨H,rfl⟩,if_neg c];exact V
     ·simp only[if_neg M];rw[if_pos ⟨H,rfl⟩,if_neg c];exact V
 ·rw[if_neg fun z=>H z.1,Int.add_zero];have e:=yyx (d:=d) H;rw[xcz]at e;rw[e]
theorem xl1(x a:Str)(xs H:List Str):∀k,opnK (x::xs) (a::H) (k+1)=opn1 x a+opnK xs H k
 |0=>by rw[opnK,opnK,opnK];show 0+opn1 x a=opn1 x a+0;omega
 |k+1=>by
   rw[opnK,xl1 x a xs H k,opnK,List.getD_cons_succ,List.getD_cons_succ];omega
theorem xp5:∀(xs:List Str)(d:Dsk),((Az d xs).1.Bz.length:Int)=(d.Bz.length:Int)+opnK xs (Az d xs).2 xs.length
 |[],d=>by show(d.Bz.length:Int)=_+0;omega
 |x::xs,d=>by
   rw[xsx,List.length_cons,xl1];show((Az (doD d x).1 xs).1.Bz.length:Int)=_;rw[xp5 xs,ywx];omega
theorem xo6{xs M H bs:List Str}:∀k,(∀i,i<k->xs.getD i []=M.getD i []/\H.getD i []=bs.getD i [])->opnK xs H k=opnK M bs k
 |0,_=>rfl
 |k+1,h=>by rw[opnK,opnK,xo6 k fun i hi=>h i om,(h k om).1,(h k om).2]
theorem xes(d:Dsk)(xs:List Str)(k:Nat):Az d xs=((Az (Az d (xs.take k)).1 (xs.drop k)).1,(Az d (xs.take k)).2++(Az (Az d (xs.take k)).1 (xs.drop k)).2):=by
 have:=xxj (xs.take k) (xs.drop k) d;rwa[List.take_append_drop]at this
theorem ycv{H bs:List Str}(h:i<H.length):(H++bs).getD i []=H.getD i []:=by
 rw[List.getD_eq_getElem?_getD,List.getElem?_append_left h,List.getD_eq_getElem?_getD]
theorem ybv{k:Nat}(h:i<k):(xs.take k).getD i []=xs.getD i []:=by
 rw[List.getD_eq_getElem?_getD,List.getElem?_take_of_lt h,List.getD_eq_getElem?_getD]
theorem yo0{k:Nat}(hv:Cj t=0)(O:xs.length<=30)(hk:k<=xs.length):
 0<=opnK xs (Bt t xs).1 k/\(opnK xs (Bt t xs).1 k=0->(∀x∈xs.drop k,Cr x=false)->
  (Bt t xs).1=(Bt t (xs.take k)).1++(Bt (Bt t (xs.take k)).2 (xs.drop k)).1/\(Bt t xs).2=(Bt (Bt t (xs.take k)).2 (xs.drop k)).2):=by
 have M:(xs.take k).length=k:=by rw[List.length_take];omega
 have V:=xhw (ls:=xs.take k) hv om;have e:=xes (Ai t) xs k;have hp:=xp5 (xs.take k) (Ai t);have hlen:(Az (Ai t) (xs.take k)).2.length=k:=by rw[xpc,M]
 have eo:opnK xs (Bt t xs).1 k=opnK (xs.take k) (Az (Ai t) (xs.take k)).2 k:=xo6 k fun i hi=>by
  rw[xfj hv O,e];exact⟨(ybv hi).symm,ycv om⟩
 rw[M]at hp;have h0:((Ai t).Bz.length:Int)=0:=rfl;rw[eo];refine⟨om,fun ho hx=>?_⟩;have H:(Az (Ai t) (xs.take k)).1.Bz=[]:=List.length_eq_zero_iff.1 om;rw[xfj hv O,xfj (ls:=xs.drop k) V (by rw[List.length_drop];omega),xfj (ls:=xs.take k) hv om,e];have tw:Twin (Az (Ai t) (xs.take k)).1 (Ai (Az (Ai t) (xs.take k)).1.now.t):=⟨rfl,by rw[H];rfl⟩
 obtain⟨r1,r2⟩:=xb5 tw hx;exact⟨by show _++_=_++_;rw[r1],r2.1⟩
theorem xj5{n:Cv}{p p':List Cv}(h:(Ag x).k≠2):doD ⟨n,p⟩ x=(⟨(doD ⟨n,p'⟩ x).1.now,p⟩,(doD ⟨n,p'⟩ x).2):=by
 rw[xcz,xcz];unfold Ch;split
 ·rfl
 ·show(match A5 n (Ag x).a with|none=>_|some vs=>_)=_;cases A5 n (Ag x).a with
  |none=>rfl
  |some vs=>
    simp only;cases qn ((Ag x).w++txt (Ag x).a.length)with
    |some q=>
      unfold C5;simp only;split
      ·rfl
      ·split
       ·rfl
       ·split
        ·cases(B2 q n.t vs).1<;>rfl
        ·rfl
    |none=>
      cases od ((Ag x).w++txt (Ag x).a.length)with
      |none=>rfl
      |some o=>
        unfold Ej;simp only;cases Ct o n.t vs with
        |none=>rfl
        |some t=>simp only;split<;>rfl
theorem xis:∀{xs:List Str}{n:Cv}{p p':List Cv},(∀x∈xs,(Ag x).k≠2)->Az ⟨n,p⟩ xs=(⟨(Az ⟨n,p'⟩ xs).1.now,p⟩,(Az ⟨n,p'⟩ xs).2)
 |[],_,_,_,_=>rfl
 |x::xs,n,p,p',h=>by
   have hs:=xj5 (n:=n) (p:=p) (p':=p') (h x s_);have H:=xj5 (n:=n) (p:=p') (p':=p') (h x s_);have M:=xis (xs:=xs) (n:=(doD ⟨n,p'⟩ x).1.now) (p:=p) (p':=p') fun y O=>h y (List.mem_cons_of_mem _ O);have e:(doD ⟨n,p'⟩ x).1=⟨(doD ⟨n,p'⟩ x).1.now,p'⟩:=congrArg Prod.fst H;rw[xsx,xsx,hs,M];rw[<- e]
theorem xcs(h:x=Ap\/x=Fl\/x=Cc)(d:Dsk):doD d x=((tryD d x).1,Ek (tryD d x).2):=by
 have e:Ag x=⟨x,2,[],[]⟩:=by rcases h with rfl|rfl|rfl<;>kernel_rfl
 rw[xcz,e];rfl
theorem xg8(n:Cv)(p:List Cv):doD ⟨n,p⟩ Ap=(⟨n,p++[n]⟩,wOk):=by rw[xcs (.inl rfl)];rfl
theorem yy0(n s:Cv)(p:List Cv):doD ⟨n,p++[s]⟩ Fl=(⟨n,p⟩,wOk):=by
 rw[xcs (.inr (.inl rfl))];unfold tryD;rw[if_neg d_];simp only[List.getLast?_append,List.getLast?_singleton,Option.some_or,if_neg (show ¬ Fl=Cc by decide)];rw[List.length_append,List.length_singleton,Nat.add_sub_cancel,List.take_left']
 ·rfl
 ·rfl
theorem yxp(n s:Cv)(p:List Cv):doD ⟨n,p++[s]⟩ Cc=(⟨s,p⟩,wOk):=by
 rw[xcs (.inr (.inr rfl))];unfold tryD;rw[if_neg d_];simp only[List.getLast?_append,List.getLast?_singleton,Option.some_or];rw[List.length_append,List.length_singleton,Nat.add_sub_cancel,List.take_left']
 ·rfl
 ·rfl
theorem ysx{a c:List Str}(h:∀x∈b,(Ag x).k≠2):Az d (a++(Ap::(b++(Fl::c))))=
 ((Az d (a++(b++c))).1,(Az d a).2++(wOk::((Az (Az d a).1 b).2++(wOk::(Az (Az (Az d a).1 b).1 c).2)))):=by
 rw[xxj,xxj a (b++c),xxj b c,xsx];generalize (Az d a).2=A;obtain⟨n,p⟩:=(Az d a).1;rw[xg8];have M:=xis (xs:=b) (n:=n) (p:=p++[n]) (p':=p) h;have O:=xis (xs:=b) (n:=n) (p:=p) (p':=p) h;have H:(Az ⟨n,p⟩ b).1=⟨(Az ⟨n,p⟩ b).1.now,p⟩:=congrArg Prod.fst O;simp only;rw[xxj,M,xsx];simp only;rw[yy0];simp only;rw[<- H]
theorem xx8{a c:List Str}(h:∀x∈b,(Ag x).k≠2):Az d (a++(Ap::(b++(Cc::c))))=
 ((Az d (a++c)).1,(Az d a).2++(wOk::((Az (Az d a).1 b).2++(wOk::(Az (Az d a).1 c).2)))):=by
 rw[xxj,xxj a c,xsx];generalize (Az d a).2=A;obtain⟨n,p⟩:=(Az d a).1;rw[xg8];have H:=xis (xs:=b) (n:=n) (p:=p++[n]) (p':=p) h;simp only;rw[xxj,H,xsx];simp only;rw[yxp]
theorem cut3{α:Type}{xs:List α}(hf:f<=z):xs.take f++((xs.drop f).take (z-f)++xs.drop z)=xs:=by
 have e:xs.drop z=(xs.drop f).drop (z-f):=by rw[List.drop_drop];congr 1;omega
 rw[e,List.take_append_drop,List.take_append_drop]
theorem yam(hv:Cj t=0)(a2:xs.length<=28)(hf:f<=z)(hz:z<=xs.length)(V:∀x∈(xs.drop f).take (z-f),(Ag x).k≠2):
 Bt t (xs.take f++(Ap::((xs.drop f).take (z-f)++(Fl::xs.drop z))))=((Bt t xs).1.take f++(wOk::(((Bt t xs).1.drop f).take (z-f)++(wOk::(Bt t xs).1.drop z))),(Bt t xs).2)/\
 Bt t (xs.take f++(Ap::((xs.drop f).take (z-f)++(Cc::xs.drop z))))=
  ((Bt t (xs.take f++xs.drop z)).1.take f++(wOk::(((Bt t xs).1.drop f).take (z-f)++(wOk::(Bt t (xs.take f++xs.drop z)).1.drop f))),(Bt t (xs.take f++xs.drop z)).2):=by
 have l1:(xs.take f).length=f:=by rw[List.length_take];omega
 have l2:((xs.drop f).take (z-f)).length=z-f:=by rw[List.length_take,List.length_drop];omega
 have l3:(xs.drop z).length=xs.length-z:=List.length_drop;have e3:=cut3 (xs:=xs) hf;have hr:=xxj (xs.take f) ((xs.drop f).take (z-f)++xs.drop z) (Ai t);rw[e3,xxj]at hr;have hk:=xxj (xs.take f) (xs.drop z) (Ai t);have O:=ysx (d:=Ai t) (a:=xs.take f) (c:=xs.drop z) V;have h2:=xx8 (d:=Ai t) (a:=xs.take f) (c:=xs.drop z) V;have H:=xpc (xs.take f) (Ai t);have M:=xpc ((xs.drop f).take (z-f)) (Az (Ai t) (xs.take f)).1;have ed:∀{a b c:List Str},a.length=f->b.length=z-f->(a++(b++c)).drop z=c:=fun{a b c}O h2=>by
  rw[<- List.append_assoc,List.drop_left' (by rw[List.length_append];omega)]
 rw[l1]at H;rw[l2]at M;rw[e3]at O;rw[xfj (ls:=xs) hv om,xfj (ls:=xs.take f++xs.drop z) hv (by rw[List.length_append];omega),xfj hv (by simp only[List.length_append,List.length_cons];omega),xfj hv (by simp only[List.length_append,List.length_cons];omega),O,h2,hr,hk];simp only;rw[List.take_left' H,List.drop_left' H,List.take_left' H,List.drop_left' H];refine⟨?_,?_⟩
 ·rw[List.take_left' M,ed H M]
 ·rw[List.take_left' M]
end Go.X.Ms
namespace Go.Proofs.YtofhlcococeifaaGreatDoor
open Go.Proofs.Tryz
open Go.X Go.X.Ms Go.Conc
variable{h z9:Heap}{xss:List (List Str)}{zz:List Nat}{ls:List Str}{us:List Value}{p:Ab}{T:TypeId}{v:Value}
theorem xbf{L Y:Pcs}{A:TA}{t:Twn}(P:Part p Y v ls)(s:St z9 zz p h (Y++L))(T:TwP p A t)(g:GlP p)(M:∀s∈ls,s.length<=900)(hv:Cj t=0)(V:ls.length<=30):
 Ac prog (.main true) 10 #[twV A t,v] h fun v' h'=>∃Z,RunZ p t ls (Z++Y) v'/\New h h' Z:=by
 obtain⟨p',⟨g',gl⟩,hy,s'⟩:=s.Dj;obtain⟨a,c,e,S⟩:=P p' g'.le hy;subst e;refine(cf10 s'.per A t (T.mono g'.le) (g.mono g'.le) c ls S M hv V).mono fun v' h' x=>?_;obtain⟨Z,⟨p2,⟨a2,c2,A2,e2,hc,S2,T2⟩,le⟩,N⟩:=x.pieces;have lf:∀H,PLe p H->(∀y∈Z++Y,H y.1=some y.2)->PLe p2 H:=fun H l y=>le H (gl H l fun z O=>y z (List.mem_append_right _ O)) fun z O=>y z (List.mem_append_left _ O);exact⟨Z,⟨a2,c2,A2,e2,hc,fun H l y=>⟨Sl.mono (lf H l y) S2,T2.mono (lf H l y)⟩⟩,N⟩
theorem xyv{L Y M:Pcs}{md:Md}(o:Aa T 1 v (us.map fun u=>[u]) M)(s:St z9 zz p h ((M++Y)++L))(hl:us.length=xss.length)(hP:∀i,i<xss.length->Part p Y (us.getD i undef) (xss.getD i []))(hn:xss.length<=10)(hb:∀i,i<xss.length->(xss.getD i []).length<=1000):
 Ac prog md 14 #[v] h fun v' h'=>∃Z,Part p (Z++(M++Y)) v' xss.flatten/\New h h' Z:=by
 obtain⟨p',⟨g',gl⟩,hy,s'⟩:=s.Dj;obtain⟨a,c,e,S⟩:=o.inP fun y O=>hy y (List.mem_append_left _ O);subst e;have hlen:(us.map fun u=>[u]).length=xss.length:=by rw[List.length_map,hl]
 rw[hlen]at S⊢;refine(cf14 c xss ⟨_,S,rfl,fun i hi=>?_⟩ hn hb h s'.per).mono fun v' h' x=>?_
 ·obtain⟨b,cb,e,Sb⟩:=hP i hi p' g'.le fun y O=>hy y (List.mem_append_right _ O);refine⟨b,cb,?_,Sb⟩;rw[List.getElem?_map,List.getElem?_eq_getElem om,<- e,Flow.Au om];rfl
 ·obtain⟨Z,⟨p2,⟨a2,c2,e2,hc,S2⟩,le⟩,N⟩:=x.pieces;exact⟨Z,fun H l y=>⟨a2,c2,e2,Sl.mono (le H (gl H l fun z V=>y z (List.mem_append_right _ V)) fun z V=>y z (List.mem_append_left _ V)) S2⟩,N⟩
open Go.X.Flow (ics)
variable{a1:Option Addr}
theorem ytp(h:Heap)(p:Ab)(hp:Per p h)(A:TA)(t:Twn)(T:TwP p A t)(hn:t.fit 9223372036854775807)(g:GlP p)(H:Nat)(ls:List Str)(_:ls.length<=9223372036854775807)(Sa:At p a1 ls.length ls)(f6:ls.length<=H)(k1 k2:Int):
 En prog (.main true) 5 #[twV A t,.agg #[.slice a1 ls.length H,.J k1,.J k2]] h fun v h'=>v=.bool true/\Av h h':=by
 refine xdm hp func5 ?_;refine bq fun b2=>?_;refine bq fun b3=>?_;refine ckq (cf8 ls.length H k1 k2) ?_;rintro _ ⟨q,rfl,O⟩;refine ax ?_;refine xdr rfl rfl rfl sdu (xlh A t T hn ls.length H ls Sa) fun q1 h1=>?_;refine cq (fun _=>?_) (fun cc=>?_)
 ·refine cdq (cf9 g) ?_;refine ax ?_;exact xij k_ func5 rfl rfl fun _ H_=>⟨rfl,H_.kept⟩
 obtain⟨rfl,o8,rfl⟩:q=true/\ls.length<=28/\q1=true:=by
  simp at cc;exact⟨cc.1.1,om,cc.2⟩
 obtain⟨hv,_,n8⟩:=h1 (by simp;omega) rfl;obtain⟨⟨f0,fz⟩,zn⟩:=O rfl;clear cc O h1;obtain⟨f,rfl⟩:∃f:Nat,k1=((f:Nat):Int):=⟨k1.toNat,om⟩
 obtain⟨z,rfl⟩:∃z:Nat,k2=((z:Nat):Int):=⟨k2.toNat,om⟩
 have b4:f<=z:=om;have hz:z<=ls.length:=om;have b0:∀s∈ls,s.length<=900:=fun s hs=>by have:=n8 s hs;omega
 have l1:(ls.take f).length=f:=by rw[List.length_take];omega
 have l2:((ls.drop f).take (z-f)).length=z-f:=by rw[List.length_take,List.length_drop];omega
 have l3:(ls.drop z).length=ls.length-z:=List.length_drop;have S1:=xic Sa f om;have St:=xq2 Sa f z b4 hz f6;have So:=xmk Sa z hz f6;have hT:=yam hv o8 b4 hz;have h9:∀{e:Str},e.length<=900-> ∀s∈ls.take f++(Ap::((ls.drop f).take (z-f)++(e::ls.drop z))),s.length<=900:=fun{e}he s hs=>by
  simp only[List.mem_append,List.mem_cons]at hs;rcases hs with hs|rfl|hs|rfl|hs
  ·exact b0 s (List.mem_of_mem_take hs)
  ·decide
  ·exact b0 s (List.mem_of_mem_drop (List.mem_of_mem_take hs))
  ·exact he
  ·exact b0 s (List.mem_of_mem_drop hs)
 have l8:∀s∈ls.take f++ls.drop z,s.length<=900:=fun s hs=>(List.mem_append.1 hs).elim (fun h=>b0 s (List.mem_of_mem_take h)) fun h=>b0 s (List.mem_of_mem_drop h);have i6:∀i,i<z-f->(((ls.drop f).take (z-f)).getD i []).length<=900:=fun i hi=>b0 _ (by rw[Flow.Au om];exact List.mem_of_mem_drop (List.mem_of_mem_take (List.getElem_mem _)));refine drq [] R19 ?_;refine xst rfl rfl rfl om ?_;refine ex ?_;refine de_y rfl rfl (yml rfl rfl rfl ⟨b4,om⟩) ?_;refine ex ?_;refine de_y rfl rfl (xhl rfl rfl ⟨hz,f6⟩) ?_;refine ex ?_;generalize Cf a1 H f 1=a3 at*;generalize Cf a1 H z 1=V at*;generalize ls.take f=x1 at*;generalize (ls.drop f).take (z-f)=x2 at*;generalize ls.drop z=x3 at*;have p1:Sl p a3 (z-f) 1 (scs x2):=St;refine ax ?_;refine xnq (fun m l'=>∃(j:Nat),m=z-f-j/\l'=[(2,none,w_ b2 0),(3,none,w_ b3 0),(5,none,.slice a1 f H),(6,none,.slice a3 (z-f) (H-f)),(7,none,.slice V (ls.length-z) (H-z)),(8,none,.J ((j:Nat):Int))]/\j<=z-f/\ ∀i,i<j->(Ag (x2.getD i [])).k≠2) ⟨0,rfl,rfl,Nat.zero_le _,fun i hi=>absurd hi (Nat.not_lt_zero _)⟩ sb ?_;rintro _ _ IH ⟨j,rfl,rfl,hj,hk⟩;refine cq (fun cd=>?_) (fun cd=>?_)
 ·have k8:j<z-f:=om;refine ax ?_;refine ro_y rfl (y_lp rfl (At.get St k8)) ?_;refine cdq (cf11 (x2.getD j []) (i6 j k8)) ?_;refine cq (fun ce=>?_) (fun ce=>?_)
  ·refine cdq (cf9 g) ?_;refine ax ?_;exact xij k_ func5 rfl rfl fun _ H_=>⟨rfl,H_.kept⟩
  exact bkq (IH _ om ⟨j+1,rfl,rfl,om,fun i hi=>by
   by_cases y:i=j
   ·rw[y];exact ce
   ·exact hk i om⟩)
 obtain rfl:j=z-f:=om;clear IH;obtain⟨hE,hD⟩:=hT fun s hs=>by
  obtain⟨i,hi,rfl⟩:=List.mem_iff_getElem.1 hs;have:=hk i om;rwa[Flow.Au hi]at this
 clear hk hT i6;refine ax ?_;refine xqk rfl rfl (fun h pe=>cf10 pe A t T g H ls Sa b0 hv om) ?_;rintro _ p9 g9 ⟨a9,M,A9,rfl,g3,S9,T9⟩;have p3:=xxw (ls:=ls) hv om;have o7:=xhw (ls:=ls) hv om;generalize hR:Bt t ls=R at*;refine lq fun n3=>?_;refine ax ?_;have Tb:=T.mono g9.le;have Gb:=g.mono g9.le;have h8:=At.mono g9.le S1;have Stb:=At.mono g9.le St;have j3:=At.mono g9.le So
 refine xld 16 [15,8] [0,1,3,5,9,10,11,12,14] [2,4,6,7,8,13,15] (fun i=>match i with|6=>[2,4]|7=>[6]|8=>[7]|15=>[13]|_=>[]) (fun i=>match i with|6=>[1,2,3,4,5]|7=>[6,2,4]|8=>[0,7]|9=>[8]|10=>[8,9]|11=>[8,9]|12=>[8,9]|14=>[8,10]|15=>[8,11,13]|_=>[])
  (fun val i=>match i with
   |0=>some (twV A t)
   |1=>some (.slice a1 f H)
   |3=>some (.slice a3 (z-f) (H-f))
   |5=>some (.slice V (ls.length-z) (H-z))
   |9=>some (val 8)
   |10|14=>some (prj 0 (val 8))
   |11=>some (prj 1 (val 8))
   |12=>some (prj 2 (val 8))
   |_=>none)
  (fun i val pc v x=>match i with
   |2=>Aa 9 1 v (scs [Ap]) x
   |4=>Aa 9 1 v (scs [Fl]) x
   |6=>∃Y0,x=Y0++(pc 2++pc 4)/\Aa 34 1 v ([.slice a1 f H,val 2,.slice a3 (z-f) (H-f),val 4,.slice V (ls.length-z) (H-z)].map fun u=>[u]) Y0
   |7=>Part p9 x v (x1++(Ap::(x2++(Fl::x3))))
   |8=>RunZ p9 t (x1++(Ap::(x2++(Fl::x3)))) x v
   |13=>∃b,v=w_ b 0/\x=[(b,.cells (tcs zA zT).toArray 33 (0,0))]
   |15=>∃b,val 13=w_ b 0/\x=[(b,.cells (prj 1 (val 8)).cells 33 (0,0))]
   |_=>True) (fun i hi val piece O=>?_) (fun val piece j hj v x q=>?_) (fun val piece O=>?_)
 ·match i,hi with
   |0,_|1,_|3,_|5,_|9,_|14,_=>exact det
   |2,_=>
     refine xvz rfl rfl fun v Y(o:Aa 9 1 v (scs [Ap]) Y)=>?_;exact xuq ⟨⟨_,rfl⟩,fun v' e=>by
      have e':=xmq e;subst e';show Aa _ _ _ _ (Y++[]);rw[List.append_nil];exact o⟩
   |4,_=>
     refine xvz rfl rfl fun v Y(o:Aa 9 1 v (scs [Fl]) Y)=>?_;exact xuq ⟨⟨_,rfl⟩,fun v' e=>by
      have e':=xmq e;subst e';show Aa _ _ _ _ (Y++[]);rw[List.append_nil];exact o⟩
   |6,_=>
     show DE _ _ _ _ _ _ _ _ _ [piece 2,piece 4];have o2:Aa 9 1 (val 2) (scs [Ap]) (piece 2):=O 2 rfl;obtain⟨u2,m2,d2,e2⟩:=xwb o2;have o4:Aa 9 1 (val 4) (scs [Fl]) (piece 4):=O 4 rfl;obtain⟨u4,m4,d4,e4⟩:=xwb o4;refine xvz (vs:=[(0,.slice a1 f H),(1,.slice u2 m2 d2),(2,.slice a3 (z-f) (H-f)),(3,.slice u4 m4 d4),(4,.slice V (ls.length-z) (H-z))]) (cells:=#[.slice a1 f H,.slice u2 m2 d2,.slice a3 (z-f) (H-f),.slice u4 m4 d4,.slice V (ls.length-z) (H-z)]) rfl (by show some [(0,.slice a1 f H),(1,val 2),(2,.slice a3 (z-f) (H-f)),(3,val 4),(4,.slice V (ls.length-z) (H-z))]=_;rw[e2,e4]) (fun v Y(o:Aa 34 1 v ([.slice a1 f H,.slice u2 m2 d2,.slice a3 (z-f) (H-f),.slice u4 m4 d4,.slice V (ls.length-z) (H-z)].map fun u=>[u]) Y)=>?_) (hf:=by kernel_rfl) (hc:=by kernel_rfl) (hw:=by kernel_rfl) (hn:=by kernel_rfl);exact xuq ⟨⟨_,rfl⟩,fun v' e=>by
      have e':=xmq e;subst e';refine⟨Y,by show Y++(piece 2++(piece 4++[]))=Y++(piece 2++piece 4);rw[List.append_nil],?_⟩;show Aa 34 1 _ ([.slice a1 f H,val 2,.slice a3 (z-f) (H-f),val 4,.slice V (ls.length-z) (H-z)].map fun u=>[u]) Y;rw[e2,e4];exact o⟩
   |7,_=>
     obtain⟨Y0,e0,o⟩:=O 6 rfl;have e0:piece 6=Y0++(piece 2++piece 4):=e0;have o:Aa 34 1 (val 6) ([.slice a1 f H,val 2,.slice a3 (z-f) (H-f),val 4,.slice V (ls.length-z) (H-z)].map fun u=>[u]) Y0:=o;have o2:Aa 9 1 (val 2) (scs [Ap]) (piece 2):=O 2 rfl;have o4:Aa 9 1 (val 4) (scs [Fl]) (piece 4):=O 4 rfl;show DE _ _ _ _ _ _ _ _ _ [piece 6];rw[e0];refine xhb (first:=[]) (cap:=[]) (vs:=[val 6]) (Q:=fun v Z=>Part p9 (Z++(Y0++(piece 2++piece 4))) v (x1++(Ap::(x2++(Fl::x3))))) (LR:=[]) (Y0++(piece 2++piece 4)) (ii:=⟨s_⟩) rfl rfl rfl (fun h L s=>?_) fun v Z e=>?_
     ·have q:=xyv (md:=.main true) (xss:=[x1,[Ap],x2,[Fl],x3]) o s rfl (fun i hi=>?_) (show(5:Nat)<=10 by decide) (fun i hi=>?_)
      ·rw[show [x1,[Ap],x2,[Fl],x3].flatten=x1++(Ap::(x2++(Fl::x3))) by simp]at q;exact q
      ·match i,hi with
       |0,_=>exact Part.last h8 _
       |1,_=>exact Part.more (Part.own o2) fun y h=>List.mem_append_left _ h
       |2,_=>exact Part.last Stb _
       |3,_=>exact Part.more (Part.own o4) fun y h=>List.mem_append_right _ h
       |4,_=>exact Part.last j3 _
      ·match i,hi with
       |0,_=>show(x1).length<=1000;omega
       |1,_=>show([Ap]).length<=1000;decide
       |2,_=>show(x2).length<=1000;omega
       |3,_=>show([Fl]).length<=1000;decide
       |4,_=>show(x3).length<=1000;omega
     exact xuq ⟨⟨_,rfl⟩,fun v' e'=>by
      have a6:=xmq e';subst a6;show Part _ ((Z++_)++[]) _ _;rw[List.append_nil];exact e⟩
   |8,_=>
     show DE _ _ _ _ _ _ _ _ _ [piece 7];refine xhb (first:=[]) (cap:=[]) (vs:=[twV A t,val 7]) (Q:=fun v Z=>RunZ p9 t (x1++(Ap::(x2++(Fl::x3)))) (Z++piece 7) v) (LR:=[]) (piece 7) (ii:=⟨s_⟩) rfl rfl rfl (fun h L s=>xbf (O 7 rfl) s Tb Gb (h9 d_) hv (by simp only[List.length_append,List.length_cons];omega)) fun v Z e=>?_;exact xuq ⟨⟨_,rfl⟩,fun v' e'=>by
      have a6:=xmq e';subst a6;show RunZ _ _ _ ((Z++_)++[]) _;rw[List.append_nil];exact e⟩
   |10,_=>exact xbw rfl rfl (RunZ.tup (O 8 rfl)).1 (xuq ⟨⟨_,rfl⟩,fun v e=>⟨xmq e,rfl⟩⟩)
   |11,_=>exact xbw rfl rfl (RunZ.tup (O 8 rfl)).2.1 (xuq ⟨⟨_,rfl⟩,fun v e=>⟨xmq e,rfl⟩⟩)
   |12,_=>exact xbw rfl rfl (RunZ.tup (O 8 rfl)).2.2 (xuq ⟨⟨_,rfl⟩,fun v e=>⟨xmq e,rfl⟩⟩)
   |13,_=>
     refine xec rfl fun b=>?_;exact xuq ⟨⟨_,rfl⟩,fun v e=>⟨b,xmq e,rfl⟩⟩
   |15,_=>
     obtain⟨b,e1,y1⟩:=O 13 rfl;obtain⟨A',e9⟩:=RunZ.agg (O 8 rfl);show DE _ _ _ _ _ _ _ _ _ [piece 13];rw[y1];refine xbd (b:=b) (off:=0) (cs:=tcs zA zT) (v:=twV A' (Bt t (x1++(Ap::(x2++(Fl::x3))))).2) rfl (by show some ([],val 13)=_;rw[e1]) (by show some ([],prj 1 (val 8))=_;rw[e9]) ?_;exact xuq ⟨⟨undef,rfl⟩,fun v e=>⟨b,e1,by show _=[(b,Obj.cells (prj 1 (val 8)).cells _ _)];rw[e9];rfl⟩⟩
   |_+16,hi=>exact absurd hi om
 ·simp only[List.mem_cons,List.not_mem_nil,or_false]at hj;rcases hj with rfl|rfl|rfl|rfl|rfl|rfl|rfl|rfl|rfl<;>exact q.2
 obtain⟨g8,g6,l5,e8,i3,c3⟩:=O 8 d_;obtain⟨i0,a8,a7⟩:=O 15 d_;have a8:val 13=_:=a8;have a7:piece 15=[(i0,.cells (prj 1 (val 8)).cells 33 (0,0))]:=a7;rw[e8]at a7;rw[hE]at c3 e8 a7;have l6:(x1++(Ap::(x2++(Fl::x3)))).length=ls.length+2:=by simp only[List.length_append,List.length_cons];omega
 rw[l6]at c3 e8 i3
 refine xdk (l':=[(2,none,w_ b2 0),(3,none,w_ b3 0),(5,none,.slice a1 f H),(6,none,.slice a3 (z-f) (H-f)),(7,none,.slice V (ls.length-z) (H-z)),(9,none,.slice a9 ls.length M),(10,none,w_ n3 0),(11,none,.bool true),(12,none,.slice g8 (ls.length+2) g6),(13,none,w_ i0 0),(85,none,.bool true)]) ?_
  ⟨rfl,rfl,rfl,rfl,rfl,rfl,rfl,rfl,by show some (none,prj 0 (val 8))=_;rw[e8];rfl,by show some (none,val 13)=_;rw[a8],by show some (none,prj 2 (val 8))=_;rw[e8];rfl,trivial⟩
 clear O;show RO _ _ _ _ _ _ [piece 15,piece 8,_,_,_];rw[a7];generalize piece 8=Z8 at*;clear a7 e8 a8;refine xjz Z8 fun c5 d5 hy=>?_;obtain⟨d0,i7⟩:=c3 c5 d5.le hy;clear c3 hy;have S9:=At.mono d5.le S9;have T9:=T9.mono d5.le;have gc:=g9.trans d5;have Tc:=T.mono gc.le;have Gc:=g.mono gc.le;have n0:=At.mono gc.le S1;have m7:=At.mono gc.le St;have m8:=At.mono gc.le So;clear Tb Gb h8 Stb j3;have R1:=xic S9 f om;have R2:=xq2 S9 f z b4 hz g3;have R3:=xmk S9 z hz g3;have m1:(R.1.take f).length<=28:=by rw[List.length_take];omega
 have m2:((R.1.drop f).take (z-f)).length<=28:=by rw[List.length_take,List.length_drop];omega
 have m3:(R.1.drop z).length<=28:=by rw[List.length_drop];omega
 have n5:f<=M:=om;have i5:z<=M:=om;refine ax ?_
 refine xld 32 [31] [0,1,2,3,4,5,6,7,8,9,10,11,12,13,14,15,16,17,19,20,21,22,23,24,26,27,28,29] [18,25,30,31] (fun i=>match i with|30=>[18,25]|31=>[30]|_=>[]) (fun i=>match i with|1=>[0]|2=>[1]|3=>[2]|4=>[2,3]|5=>[2,4]|6=>[5]|7|8=>[6]|9=>[6,7,8]|10=>[6,9]|11=>[6,10]|12=>[11]|13|14|15|18|19|20|22|25|26|27=>[12]|16=>[12,15]|17=>[12,14,16]|21=>[12,20]|23=>[12,22]|24=>[12,19,21,23]|28=>[12,27]|29=>[12,26,28]|30=>[12,17,18,24,25,29]|31=>[12,30,18,25]|_=>[])
  (fun val i=>match i with
   |0|3|9=>some (.bool true)
   |1|2|4|5|6|10|11|12=>some (.bool false)
   |7=>some (twV A9 R.2)
   |8=>some (twV l5 R.2)
   |13=>some (.slice g8 (ls.length+2) g6)
   |14|19|26=>some (.slice a9 ls.length M)
   |15|20=>some (w_ b3 1)
   |16|21=>some (.J ((f:Nat):Int))
   |17=>some (.slice a9 f M)
   |22|27=>some (w_ b3 2)
   |23|28=>some (.J ((z:Nat):Int))
   |24=>some (.slice (Cf a9 M f 1) (z-f) (M-f))
   |29=>some (.slice (Cf a9 M z 1) (ls.length-z) (M-z))
   |_=>none)
  (fun i val pc v x=>match i with
   |18|25=>Aa 9 1 v (scs [wOk]) x
   |30=>∃Y0,x=Y0++(pc 18++pc 25)/\Aa 34 1 v ([.slice a9 f M,val 18,.slice (Cf a9 M f 1) (z-f) (M-f),val 25,.slice (Cf a9 M z 1) (ls.length-z) (M-z)].map fun u=>[u]) Y0
   |31=>Part c5 x v (R.1.take f++(wOk::((R.1.drop f).take (z-f)++(wOk::R.1.drop z))))
   |_=>True) (fun i hi val piece O=>?_) (fun val piece j hj v x q=>?_) (fun val piece O=>?_)
 ·match i,hi with
   |0,_|1,_|2,_|3,_|4,_|5,_|6,_|7,_|8,_|10,_|11,_|12,_|13,_|14,_|15,_|16,_|19,_|20,_|21,_|22,_|23,_|26,_|27,_|28,_=>exact det
   |9,_=>
     refine xzz rfl rfl rfl (cf15 A9 l5 R.2 T9 i7 ((xdz o7).up om)) ?_;exact det
   |17,_=>
     refine xst rfl rfl rfl n5 ?_;exact det
   |18,_|25,_=>
     refine xvz rfl rfl fun v Y(o:Aa 9 1 v (scs [wOk]) Y)=>?_;exact xuq ⟨⟨_,rfl⟩,fun v' e=>by
      have e':=xmq e;subst e';show Aa _ _ _ _ (Y++[]);rw[List.append_nil];exact o⟩
   |24,_=>
     refine de_y rfl rfl (yml rfl rfl rfl ⟨b4,i5⟩) ?_;exact det
   |29,_=>
     refine de_y rfl rfl (xhl rfl rfl ⟨hz,g3⟩) ?_;exact det
   |30,_=>
     show DE _ _ _ _ _ _ _ _ _ [piece 18,piece 25];have f3:Aa 9 1 (val 18) (scs [wOk]) (piece 18):=O 18 rfl;obtain⟨h2,f7,e3,i4⟩:=xwb f3;have f2:Aa 9 1 (val 25) (scs [wOk]) (piece 25):=O 25 rfl;obtain⟨f1,g5,g4,j0⟩:=xwb f2;refine xvz (vs:=[(0,.slice a9 f M),(1,.slice h2 f7 e3),(2,.slice (Cf a9 M f 1) (z-f) (M-f)),(3,.slice f1 g5 g4),(4,.slice (Cf a9 M z 1) (ls.length-z) (M-z))]) (cells:=#[.slice a9 f M,.slice h2 f7 e3,.slice (Cf a9 M f 1) (z-f) (M-f),.slice f1 g5 g4,.slice (Cf a9 M z 1) (ls.length-z) (M-z)]) rfl (by show some [(0,.slice a9 f M),(1,val 18),(2,.slice (Cf a9 M f 1) (z-f) (M-f)),(3,val 25),(4,.slice (Cf a9 M z 1) (ls.length-z) (M-z))]=_;rw[i4,j0]) (fun v Y(o:Aa 34 1 v ([.slice a9 f M,.slice h2 f7 e3,.slice (Cf a9 M f 1) (z-f) (M-f),.slice f1 g5 g4,.slice (Cf a9 M z 1) (ls.length-z) (M-z)].map fun u=>[u]) Y)=>?_) (hf:=by kernel_rfl) (hc:=by kernel_rfl) (hw:=by kernel_rfl) (hn:=by kernel_rfl);exact xuq ⟨⟨_,rfl⟩,fun v' e=>by
      have e':=xmq e;subst e';refine⟨Y,by show Y++(piece 18++(piece 25++[]))=Y++(piece 18++piece 25);rw[List.append_nil],?_⟩;show Aa 34 1 _ ([.slice a9 f M,val 18,.slice (Cf a9 M f 1) (z-f) (M-f),val 25,.slice (Cf a9 M z 1) (ls.length-z) (M-z)].map fun u=>[u]) Y;rw[i4,j0];exact o⟩
   |31,_=>
     obtain⟨Y0,e0,o⟩:=O 30 rfl;have e0:piece 30=Y0++(piece 18++piece 25):=e0;have o:Aa 34 1 (val 30) ([.slice a9 f M,val 18,.slice (Cf a9 M f 1) (z-f) (M-f),val 25,.slice (Cf a9 M z 1) (ls.length-z) (M-z)].map fun u=>[u]) Y0:=o;have f3:Aa 9 1 (val 18) (scs [wOk]) (piece 18):=O 18 rfl;have f2:Aa 9 1 (val 25) (scs [wOk]) (piece 25):=O 25 rfl;show DE _ _ _ _ _ _ _ _ _ [piece 30];rw[e0];refine xhb (first:=[]) (cap:=[]) (vs:=[val 30]) (Q:=fun v Z=>Part c5 (Z++(Y0++(piece 18++piece 25))) v (R.1.take f++(wOk::((R.1.drop f).take (z-f)++(wOk::R.1.drop z))))) (LR:=[]) (Y0++(piece 18++piece 25)) (ii:=⟨s_⟩) rfl rfl rfl (fun h L s=>?_) fun v Z e=>?_
     ·have q:=xyv (md:=.main true) (xss:=[R.1.take f,[wOk],(R.1.drop f).take (z-f),[wOk],R.1.drop z]) o s rfl (fun i hi=>?_) (show(5:Nat)<=10 by decide) (fun i hi=>?_)
      ·rw[show [R.1.take f,[wOk],(R.1.drop f).take (z-f),[wOk],R.1.drop z].flatten=R.1.take f++(wOk::((R.1.drop f).take (z-f)++(wOk::R.1.drop z))) by simp]at q;exact q
      ·match i,hi with
       |0,_=>exact Part.last R1 _
       |1,_=>exact Part.more (Part.own f3) fun y h=>List.mem_append_left _ h
       |2,_=>exact Part.last R2 _
       |3,_=>exact Part.more (Part.own f2) fun y h=>List.mem_append_right _ h
       |4,_=>exact Part.last R3 _
      ·match i,hi with
       |0,_=>show(R.1.take f).length<=1000;omega
       |1,_=>show([wOk]).length<=1000;decide
       |2,_=>show((R.1.drop f).take (z-f)).length<=1000;omega
       |3,_=>show([wOk]).length<=1000;decide
       |4,_=>show(R.1.drop z).length<=1000;omega
     exact xuq ⟨⟨_,rfl⟩,fun v' e'=>by
      have a6:=xmq e';subst a6;show Part _ ((Z++_)++[]) _ _;rw[List.append_nil];exact e⟩
   |_+32,hi=>exact absurd hi om
 ·simp only[List.mem_cons,List.not_mem_nil,or_false]at hj;rcases hj with rfl|rfl|rfl|rfl|rfl|rfl|rfl|rfl|rfl|rfl|rfl|rfl|rfl|rfl|rfl|rfl|rfl|rfl|rfl|rfl|rfl|rfl|rfl|rfl|rfl|rfl|rfl|rfl<;>exact q.2
 have l0:Part c5 (piece 31) (val 31) (R.1.take f++(wOk::((R.1.drop f).take (z-f)++(wOk::R.1.drop z)))):=O 31 d_;refine xdk (l':=[(2,none,w_ b2 0),(3,none,w_ b3 0),(5,none,.slice a1 f H),(6,none,.slice a3 (z-f) (H-f)),(7,none,.slice V (ls.length-z) (H-z)),(9,none,.slice a9 ls.length M),(98,none,.bool false),(99,none,.slice g8 (ls.length+2) g6),(117,none,val 31)]) ?_ ⟨rfl,rfl,rfl,rfl,rfl,rfl,rfl,rfl,rfl,trivial⟩;clear O;generalize val 31=u at*;show RO _ _ _ _ _ _ [piece 31,_,_,_,_];generalize piece 31=Z31 at*;refine xjz Z31 fun h6 c8 hy=>?_;obtain⟨p2,p4,rfl,g1⟩:=l0 h6 c8.le hy;clear l0 hy;have n7:(R.1.take f++(wOk::((R.1.drop f).take (z-f)++(wOk::R.1.drop z)))).length=ls.length+2:=by simp only[List.length_append,List.length_cons,List.length_take,List.length_drop];omega
 rw[n7]at g1⊢;have gd:=gc.trans c8;have Td:=T.mono gd.le;have Gd:=g.mono gd.le;have j4:=At.mono gd.le S1;have n4:=At.mono gd.le St;have j6:=At.mono gd.le So;have R2:=At.mono c8.le R2;have d0:=At.mono c8.le d0;refine ax ?_;refine xqz rfl rfl rfl sdu (fun _=>cf13 (R.1.take f++(wOk::((R.1.drop f).take (z-f)++(wOk::R.1.drop z)))) (R.1.take f++(wOk::((R.1.drop f).take (z-f)++(wOk::R.1.drop z)))) d0 g1 ⟨om,om⟩) ?_;refine cq (fun cd=>?_) (fun _=>?_)
 ·exact absurd cd s_
 clear d0 g1 T9 i7 R1 R3 n0 m7 m8 Tc Gc;have n6:(x1++x3).length=ls.length-(z-f):=by rw[List.length_append];omega
 refine drq [3,4] R5 ?_;refine xvz (vs:=[(0,.slice a1 f H),(1,.slice V (ls.length-z) (H-z))]) (cells:=#[.slice a1 f H,.slice V (ls.length-z) (H-z)]) rfl rfl (fun v3 Y3(o3:Aa 34 1 v3 ([.slice a1 f H,.slice V (ls.length-z) (H-z)].map fun u=>[u]) Y3)=>?_) (hf:=by kernel_rfl) (hc:=by kernel_rfl) (hw:=by kernel_rfl) (hn:=by kernel_rfl);refine ex ?_;refine xhb (first:=[]) (cap:=[]) (vs:=[v3]) (Q:=fun v Z=>Part h6 (Z++(Y3++[])) v (x1++x3)) (LR:=[]) Y3 (ii:=⟨s_⟩) rfl rfl rfl (fun h L s=>?_) fun v4 Z4 P4=>?_
 ·have y:=xyv (md:=.main true) (Y:=[]) (L:=L) (xss:=[x1,x3]) o3 (by rw[List.append_nil];exact s) rfl (fun i hi=>?_) (show(2:Nat)<=10 by decide) (fun i hi=>?_)
  ·rw[show [x1,x3].flatten=x1++x3 by simp]at y;exact y
  ·match i,hi with
   |0,_=>exact Part.last j4 _
   |1,_=>exact Part.last j6 _
  ·match i,hi with
   |0,_=>show x1.length<=1000;omega
   |1,_=>show x3.length<=1000;omega
 refine ex ?_;refine xjz (Z4++Y3) fun b8 h0 hy=>?_;obtain⟨a4,c4,rfl,S4⟩:=P4 b8 h0.le (by rw[List.append_nil];exact hy);have ge:=gd.trans h0;have Te:=T.mono ge.le;have Ge:=g.mono ge.le;refine ckq (xlh A t Te hn _ c4 _ S4) ?_;rintro _ ⟨q2,rfl,_⟩;refine cq (fun _=>?_) (fun _=>?_)
 ·refine cdq (cf9 Ge) ?_;refine ax ?_;exact xij k_ func5 rfl rfl fun _ H_=>⟨rfl,H_.kept⟩
 clear S4 P4;have l4:=At.mono ge.le S1;have o0:=At.mono ge.le St;have j9:=At.mono ge.le So;have R2:=At.mono h0.le R2;clear Td Gd j4 n4 j6;refine ax ?_
 refine xld 13 [12,5] [0,1,2,6,7,8,9,11] [3,4,5,10,12] (fun i=>match i with|4=>[3]|5=>[4]|12=>[10]|_=>[]) (fun i=>match i with|3=>[1,2]|4=>[3]|5=>[0,4]|6=>[5]|7|8|9=>[5,6]|11=>[5,7]|12=>[5,8,10]|_=>[])
  (fun val i=>match i with
   |0=>some (twV A t)
   |1=>some (.slice a1 f H)
   |2=>some (.slice V (ls.length-z) (H-z))
   |6=>some (val 5)
   |7|11=>some (prj 0 (val 5))
   |8=>some (prj 1 (val 5))
   |9=>some (prj 2 (val 5))
   |_=>none)
  (fun i val pc v x=>match i with
   |3=>∃Y0,x=Y0++[]/\Aa 34 1 v ([.slice a1 f H,.slice V (ls.length-z) (H-z)].map fun u=>[u]) Y0
   |4=>Part b8 x v (x1++x3)
   |5=>RunZ b8 t (x1++x3) x v
   |10=>∃b,v=w_ b 0/\x=[(b,.cells (tcs zA zT).toArray 33 (0,0))]
   |12=>∃b,val 10=w_ b 0/\x=[(b,.cells (prj 1 (val 5)).cells 33 (0,0))]
   |_=>True) (fun i hi val piece O=>?_) (fun val piece j hj v x q=>?_) (fun val piece O=>?_)
 ·match i,hi with
   |0,_|1,_|2,_|6,_|11,_=>exact det
   |3,_=>
     show DE _ _ _ _ _ _ _ _ _ [];refine xvz (vs:=[(0,.slice a1 f H),(1,.slice V (ls.length-z) (H-z))]) (cells:=#[.slice a1 f H,.slice V (ls.length-z) (H-z)]) rfl rfl (fun v Y(o:Aa 34 1 v ([.slice a1 f H,.slice V (ls.length-z) (H-z)].map fun u=>[u]) Y)=>?_) (hf:=by kernel_rfl) (hc:=by kernel_rfl) (hw:=by kernel_rfl) (hn:=by kernel_rfl);exact xuq ⟨⟨_,rfl⟩,fun v' e=>by
      have e':=xmq e;subst e';refine⟨Y,rfl,?_⟩;show Aa 34 1 _ ([.slice a1 f H,.slice V (ls.length-z) (H-z)].map fun u=>[u]) Y;exact o⟩
   |4,_=>
     obtain⟨Y0,e0,o⟩:=O 3 rfl;have e0:piece 3=Y0++[]:=e0;have o:Aa 34 1 (val 3) ([.slice a1 f H,.slice V (ls.length-z) (H-z)].map fun u=>[u]) Y0:=o;show DE _ _ _ _ _ _ _ _ _ [piece 3];rw[e0];refine xhb (first:=[]) (cap:=[]) (vs:=[val 3]) (Q:=fun v Z=>Part b8 (Z++(Y0++[])) v (x1++x3)) (LR:=[]) (Y0++[]) (ii:=⟨s_⟩) rfl rfl rfl (fun h L s=>?_) fun v Z e=>?_
     ·have q:=xyv (md:=.main true) (xss:=[x1,x3]) o s rfl (fun i hi=>?_) (show(2:Nat)<=10 by decide) (fun i hi=>?_)
      ·rw[show [x1,x3].flatten=x1++x3 by simp]at q;exact q
      ·match i,hi with
       |0,_=>exact Part.last l4 _
       |1,_=>exact Part.last j9 _
      ·match i,hi with
       |0,_=>show(x1).length<=1000;omega
       |1,_=>show(x3).length<=1000;omega
     exact xuq ⟨⟨_,rfl⟩,fun v' e'=>by
      have a6:=xmq e';subst a6;show Part _ ((Z++_)++[]) _ _;rw[List.append_nil];exact e⟩
   |5,_=>
     show DE _ _ _ _ _ _ _ _ _ [piece 4];refine xhb (first:=[]) (cap:=[]) (vs:=[twV A t,val 4]) (Q:=fun v Z=>RunZ b8 t (x1++x3) (Z++piece 4) v) (LR:=[]) (piece 4) (ii:=⟨s_⟩) rfl rfl rfl (fun h L s=>xbf (O 4 rfl) s Te Ge l8 hv (by simp only[List.length_append];omega)) fun v Z e=>?_;exact xuq ⟨⟨_,rfl⟩,fun v' e'=>by
      have a6:=xmq e';subst a6;show RunZ _ _ _ ((Z++_)++[]) _;rw[List.append_nil];exact e⟩
   |7,_=>exact xbw rfl rfl (RunZ.tup (O 5 rfl)).1 (xuq ⟨⟨_,rfl⟩,fun v e=>⟨xmq e,rfl⟩⟩)
   |8,_=>exact xbw rfl rfl (RunZ.tup (O 5 rfl)).2.1 (xuq ⟨⟨_,rfl⟩,fun v e=>⟨xmq e,rfl⟩⟩)
   |9,_=>exact xbw rfl rfl (RunZ.tup (O 5 rfl)).2.2 (xuq ⟨⟨_,rfl⟩,fun v e=>⟨xmq e,rfl⟩⟩)
   |10,_=>
     refine xec rfl fun b=>?_;exact xuq ⟨⟨_,rfl⟩,fun v e=>⟨b,xmq e,rfl⟩⟩
   |12,_=>
     obtain⟨b,e1,y1⟩:=O 10 rfl;obtain⟨A',e9⟩:=RunZ.agg (O 5 rfl);show DE _ _ _ _ _ _ _ _ _ [piece 10];rw[y1];refine xbd (b:=b) (off:=0) (cs:=tcs zA zT) (v:=twV A' (Bt t (x1++x3)).2) rfl (by show some ([],val 10)=_;rw[e1]) (by show some ([],prj 1 (val 5))=_;rw[e9]) ?_;exact xuq ⟨⟨undef,rfl⟩,fun v e=>⟨b,e1,by show _=[(b,Obj.cells (prj 1 (val 5)).cells _ _)];rw[e9];rfl⟩⟩
 ·simp only[List.mem_cons,List.not_mem_nil,or_false]at hj;rcases hj with rfl|rfl|rfl|rfl|rfl|rfl|rfl|rfl<;>exact q.2
 obtain⟨a5,a2,i1,e5,b6,h5⟩:=O 5 d_;obtain⟨g2,c2,b7⟩:=O 12 d_;have c2:val 10=_:=c2;have b7:piece 12=[(g2,.cells (prj 1 (val 5)).cells 33 (0,0))]:=b7;rw[e5]at b7;have o1:=xxw (ls:=x1++x3) hv om;have l9:=xhw (ls:=x1++x3) hv om;rw[n6]at h5 e5 b6 o1
 refine xdk (l':=[(2,none,w_ b2 0),(3,none,w_ b3 0),(5,none,.slice a1 f H),(6,none,.slice a3 (z-f) (H-f)),(7,none,.slice V (ls.length-z) (H-z)),(9,none,.slice a9 ls.length M),(15,none,.slice a5 (ls.length-(z-f)) a2),(16,none,w_ g2 0),(138,none,.bool true)]) ?_
  ⟨rfl,rfl,rfl,rfl,rfl,rfl,by show some (none,prj 0 (val 5))=_;rw[e5];rfl,by show some (none,val 10)=_;rw[c2],by show some (none,prj 2 (val 5))=_;rw[e5];rfl,trivial⟩
 clear O;show RO _ _ _ _ _ _ [piece 12,piece 5,_,_,_,_];rw[b7];generalize piece 5=Z5 at*;clear b7 e5 c2;generalize hK:Bt t (x1++x3)=K at*;refine xjz Z5 fun b9 h4 hy=>?_;obtain⟨c7,f8⟩:=h5 b9 h4.le hy;clear h5 hy;have gf:=ge.trans h4;have Tf:=T.mono gf.le;have Gf:=g.mono gf.le;have j8:=At.mono gf.le S1;have j7:=At.mono gf.le St;have k9:=At.mono gf.le So;have R2:=At.mono h4.le R2;clear Te Ge l4 o0 j9;refine ax ?_
 refine xld 16 [15,8] [0,1,3,5,9,10,11,12,14] [2,4,6,7,8,13,15] (fun i=>match i with|6=>[2,4]|7=>[6]|8=>[7]|15=>[13]|_=>[]) (fun i=>match i with|6=>[1,2,3,4,5]|7=>[6,2,4]|8=>[0,7]|9=>[8]|10=>[8,9]|11=>[8,9]|12=>[8,9]|14=>[8,10]|15=>[8,11,13]|_=>[])
  (fun val i=>match i with
   |0=>some (twV A t)
   |1=>some (.slice a1 f H)
   |3=>some (.slice a3 (z-f) (H-f))
   |5=>some (.slice V (ls.length-z) (H-z))
   |9=>some (val 8)
   |10|14=>some (prj 0 (val 8))
   |11=>some (prj 1 (val 8))
   |12=>some (prj 2 (val 8))
   |_=>none)
  (fun i val pc v x=>match i with
   |2=>Aa 9 1 v (scs [Ap]) x
   |4=>Aa 9 1 v (scs [Cc]) x
   |6=>∃Y0,x=Y0++(pc 2++pc 4)/\Aa 34 1 v ([.slice a1 f H,val 2,.slice a3 (z-f) (H-f),val 4,.slice V (ls.length-z) (H-z)].map fun u=>[u]) Y0
   |7=>Part b9 x v (x1++(Ap::(x2++(Cc::x3))))
   |8=>RunZ b9 t (x1++(Ap::(x2++(Cc::x3)))) x v
   |13=>∃b,v=w_ b 0/\x=[(b,.cells (tcs zA zT).toArray 33 (0,0))]
   |15=>∃b,val 13=w_ b 0/\x=[(b,.cells (prj 1 (val 8)).cells 33 (0,0))]
   |_=>True) (fun i hi val piece O=>?_) (fun val piece j hj v x q=>?_) (fun val piece O=>?_)
 ·match i,hi with
   |0,_|1,_|3,_|5,_|9,_|14,_=>exact det
   |2,_=>
     refine xvz rfl rfl fun v Y(o:Aa 9 1 v (scs [Ap]) Y)=>?_;exact xuq ⟨⟨_,rfl⟩,fun v' e=>by
      have e':=xmq e;subst e';show Aa _ _ _ _ (Y++[]);rw[List.append_nil];exact o⟩
   |4,_=>
     refine xvz rfl rfl fun v Y(o:Aa 9 1 v (scs [Cc]) Y)=>?_;exact xuq ⟨⟨_,rfl⟩,fun v' e=>by
      have e':=xmq e;subst e';show Aa _ _ _ _ (Y++[]);rw[List.append_nil];exact o⟩
   |6,_=>
     show DE _ _ _ _ _ _ _ _ _ [piece 2,piece 4];have o2:Aa 9 1 (val 2) (scs [Ap]) (piece 2):=O 2 rfl;obtain⟨u2,m2,d2,e2⟩:=xwb o2;have o4:Aa 9 1 (val 4) (scs [Cc]) (piece 4):=O 4 rfl;obtain⟨u4,m4,d4,e4⟩:=xwb o4;refine xvz (vs:=[(0,.slice a1 f H),(1,.slice u2 m2 d2),(2,.slice a3 (z-f) (H-f)),(3,.slice u4 m4 d4),(4,.slice V (ls.length-z) (H-z))]) (cells:=#[.slice a1 f H,.slice u2 m2 d2,.slice a3 (z-f) (H-f),.slice u4 m4 d4,.slice V (ls.length-z) (H-z)]) rfl (by show some [(0,.slice a1 f H),(1,val 2),(2,.slice a3 (z-f) (H-f)),(3,val 4),(4,.slice V (ls.length-z) (H-z))]=_;rw[e2,e4]) (fun v Y(o:Aa 34 1 v ([.slice a1 f H,.slice u2 m2 d2,.slice a3 (z-f) (H-f),.slice u4 m4 d4,.slice V (ls.length-z) (H-z)].map fun u=>[u]) Y)=>?_) (hf:=by kernel_rfl) (hc:=by kernel_rfl) (hw:=by kernel_rfl) (hn:=by kernel_rfl);exact xuq ⟨⟨_,rfl⟩,fun v' e=>by
      have e':=xmq e;subst e';refine⟨Y,by show Y++(piece 2++(piece 4++[]))=Y++(piece 2++piece 4);rw[List.append_nil],?_⟩;show Aa 34 1 _ ([.slice a1 f H,val 2,.slice a3 (z-f) (H-f),val 4,.slice V (ls.length-z) (H-z)].map fun u=>[u]) Y;rw[e2,e4];exact o⟩
   |7,_=>
     obtain⟨Y0,e0,o⟩:=O 6 rfl;have e0:piece 6=Y0++(piece 2++piece 4):=e0;have o:Aa 34 1 (val 6) ([.slice a1 f H,val 2,.slice a3 (z-f) (H-f),val 4,.slice V (ls.length-z) (H-z)].map fun u=>[u]) Y0:=o;have o2:Aa 9 1 (val 2) (scs [Ap]) (piece 2):=O 2 rfl;have o4:Aa 9 1 (val 4) (scs [Cc]) (piece 4):=O 4 rfl;show DE _ _ _ _ _ _ _ _ _ [piece 6];rw[e0];refine xhb (first:=[]) (cap:=[]) (vs:=[val 6]) (Q:=fun v Z=>Part b9 (Z++(Y0++(piece 2++piece 4))) v (x1++(Ap::(x2++(Cc::x3))))) (LR:=[]) (Y0++(piece 2++piece 4)) (ii:=⟨s_⟩) rfl rfl rfl (fun h L s=>?_) fun v Z e=>?_
     ·have q:=xyv (md:=.main true) (xss:=[x1,[Ap],x2,[Cc],x3]) o s rfl (fun i hi=>?_) (show(5:Nat)<=10 by decide) (fun i hi=>?_)
      ·rw[show [x1,[Ap],x2,[Cc],x3].flatten=x1++(Ap::(x2++(Cc::x3))) by simp]at q;exact q
      ·match i,hi with
       |0,_=>exact Part.last j8 _
       |1,_=>exact Part.more (Part.own o2) fun y h=>List.mem_append_left _ h
       |2,_=>exact Part.last j7 _
       |3,_=>exact Part.more (Part.own o4) fun y h=>List.mem_append_right _ h
       |4,_=>exact Part.last k9 _
      ·match i,hi with
       |0,_=>show(x1).length<=1000;omega
       |1,_=>show([Ap]).length<=1000;decide
       |2,_=>show(x2).length<=1000;omega
       |3,_=>show([Cc]).length<=1000;decide
       |4,_=>show(x3).length<=1000;omega
     exact xuq ⟨⟨_,rfl⟩,fun v' e'=>by
      have a6:=xmq e';subst a6;show Part _ ((Z++_)++[]) _ _;rw[List.append_nil];exact e⟩
   |8,_=>
     show DE _ _ _ _ _ _ _ _ _ [piece 7];refine xhb (first:=[]) (cap:=[]) (vs:=[twV A t,val 7]) (Q:=fun v Z=>RunZ b9 t (x1++(Ap::(x2++(Cc::x3)))) (Z++piece 7) v) (LR:=[]) (piece 7) (ii:=⟨s_⟩) rfl rfl rfl (fun h L s=>xbf (O 7 rfl) s Tf Gf (h9 d_) hv (by simp only[List.length_append,List.length_cons];omega)) fun v Z e=>?_;exact xuq ⟨⟨_,rfl⟩,fun v' e'=>by
      have a6:=xmq e';subst a6;show RunZ _ _ _ ((Z++_)++[]) _;rw[List.append_nil];exact e⟩
   |10,_=>exact xbw rfl rfl (RunZ.tup (O 8 rfl)).1 (xuq ⟨⟨_,rfl⟩,fun v e=>⟨xmq e,rfl⟩⟩)
   |11,_=>exact xbw rfl rfl (RunZ.tup (O 8 rfl)).2.1 (xuq ⟨⟨_,rfl⟩,fun v e=>⟨xmq e,rfl⟩⟩)
   |12,_=>exact xbw rfl rfl (RunZ.tup (O 8 rfl)).2.2 (xuq ⟨⟨_,rfl⟩,fun v e=>⟨xmq e,rfl⟩⟩)
   |13,_=>
     refine xec rfl fun b=>?_;exact xuq ⟨⟨_,rfl⟩,fun v e=>⟨b,xmq e,rfl⟩⟩
   |15,_=>
     obtain⟨b,e1,y1⟩:=O 13 rfl;obtain⟨A',e9⟩:=RunZ.agg (O 8 rfl);show DE _ _ _ _ _ _ _ _ _ [piece 13];rw[y1];refine xbd (b:=b) (off:=0) (cs:=tcs zA zT) (v:=twV A' (Bt t (x1++(Ap::(x2++(Cc::x3))))).2) rfl (by show some ([],val 13)=_;rw[e1]) (by show some ([],prj 1 (val 8))=_;rw[e9]) ?_;exact xuq ⟨⟨undef,rfl⟩,fun v e=>⟨b,e1,by show _=[(b,Obj.cells (prj 1 (val 8)).cells _ _)];rw[e9];rfl⟩⟩
   |_+16,hi=>exact absurd hi om
 ·simp only[List.mem_cons,List.not_mem_nil,or_false]at hj;rcases hj with rfl|rfl|rfl|rfl|rfl|rfl|rfl|rfl|rfl<;>exact q.2
 obtain⟨e7,f9,h7,e8,i9,c6⟩:=O 8 d_;obtain⟨i8,a8,a7⟩:=O 15 d_;have a8:val 13=_:=a8;have a7:piece 15=[(i8,.cells (prj 1 (val 8)).cells 33 (0,0))]:=a7;rw[e8]at a7;rw[hD]at c6 e8 a7;have n9:(x1++(Ap::(x2++(Cc::x3)))).length=ls.length+2:=by simp only[List.length_append,List.length_cons];omega
 rw[n9]at c6 e8 i9
 refine xdk (l':=[(3,none,w_ b3 0),(9,none,.slice a9 ls.length M),(11,none,.bool true),(15,none,.slice a5 (ls.length-(z-f)) a2),(16,none,w_ g2 0),(17,none,.slice e7 (ls.length+2) f9),(18,none,w_ i8 0),(151,none,.bool true)]) ?_
  ⟨rfl,rfl,rfl,rfl,rfl,by show some (none,prj 0 (val 8))=_;rw[e8];rfl,by show some (none,val 13)=_;rw[a8],by show some (none,prj 2 (val 8))=_;rw[e8];rfl,trivial⟩
 clear O;show RO _ _ _ _ _ _ [piece 15,piece 8,_,_,_,_,_];rw[a7];generalize piece 8=Z8 at*;clear a7 e8 a8;refine xjz Z8 fun d6 b5 hy=>?_;obtain⟨m9,o6⟩:=c6 d6 b5.le hy;clear c6 hy;have c7:=At.mono b5.le c7;have f8:=f8.mono b5.le;have Gg:=g.mono (gf.trans b5).le;have R2:=At.mono b5.le R2;clear Tf Gf j8 j7 k9;have K1:=xic c7 f om;have K2:=xmk c7 f om b6;have n1:(K.1.take f).length<=28:=by rw[List.length_take];omega
 have n2:(K.1.drop f).length<=28:=by rw[List.length_drop];omega
 have o9:f<=a2:=om;have l7:f<=ls.length-(z-f):=om;refine ax ?_
 refine xld 29 [28] [0,1,2,3,4,5,6,7,8,9,10,11,12,13,14,16,17,18,19,20,21,23,24,25,26] [15,22,27,28] (fun i=>match i with|27=>[15,22]|28=>[27]|_=>[]) (fun i=>match i with|1=>[0]|2=>[1]|3=>[1,2]|4=>[3]|5|6=>[4]|7=>[4,5,6]|8=>[4,7]|9=>[8]|10|11|12|15|16|17|19|22|23|24=>[9]|13=>[9,12]|14=>[9,11,13]|18=>[9,17]|20=>[9,19]|21=>[9,16,18,20]|25=>[9,24]|26=>[9,23,25]|27=>[9,14,15,21,22,26]|28=>[9,27,15,22]|_=>[])
  (fun val i=>match i with
   |0|1|2|3|4|7|8|9=>some (.bool true)
   |5=>some (twV i1 K.2)
   |6=>some (twV h7 K.2)
   |10=>some (.slice e7 (ls.length+2) f9)
   |11|23=>some (.slice a5 (ls.length-(z-f)) a2)
   |12|17|24=>some (w_ b3 1)
   |13|18|25=>some (.J ((f:Nat):Int))
   |14=>some (.slice a5 f a2)
   |16=>some (.slice a9 ls.length M)
   |19=>some (w_ b3 2)
   |20=>some (.J ((z:Nat):Int))
   |21=>some (.slice (Cf a9 M f 1) (z-f) (M-f))
   |26=>some (.slice (Cf a5 a2 f 1) (ls.length-(z-f)-f) (a2-f))
   |_=>none)
  (fun i val pc v x=>match i with
   |15|22=>Aa 9 1 v (scs [wOk]) x
   |27=>∃Y0,x=Y0++(pc 15++pc 22)/\Aa 34 1 v ([.slice a5 f a2,val 15,.slice (Cf a9 M f 1) (z-f) (M-f),val 22,.slice (Cf a5 a2 f 1) (ls.length-(z-f)-f) (a2-f)].map fun u=>[u]) Y0
   |28=>Part d6 x v (K.1.take f++(wOk::((R.1.drop f).take (z-f)++(wOk::K.1.drop f))))
   |_=>True) (fun i hi val piece O=>?_) (fun val piece j hj v x q=>?_) (fun val piece O=>?_)
 ·match i,hi with
   |0,_|1,_|2,_|3,_|4,_|5,_|6,_|8,_|9,_|10,_|11,_|12,_|13,_|16,_|17,_|18,_|19,_|20,_|23,_|24,_|25,_=>exact det
   |7,_=>
     refine xzz rfl rfl rfl (cf15 i1 h7 K.2 f8 o6 ((xdz l9).up om)) ?_;exact det
   |14,_=>
     refine xst rfl rfl rfl o9 ?_;exact det
   |15,_|22,_=>
     refine xvz rfl rfl fun v Y(o:Aa 9 1 v (scs [wOk]) Y)=>?_;exact xuq ⟨⟨_,rfl⟩,fun v' e=>by
      have e':=xmq e;subst e';show Aa _ _ _ _ (Y++[]);rw[List.append_nil];exact o⟩
   |21,_=>
     refine de_y rfl rfl (yml rfl rfl rfl ⟨b4,i5⟩) ?_;exact det
   |26,_=>
     refine de_y rfl rfl (xhl rfl rfl ⟨l7,b6⟩) ?_;exact det
   |27,_=>
     show DE _ _ _ _ _ _ _ _ _ [piece 15,piece 22];have g7:Aa 9 1 (val 15) (scs [wOk]) (piece 15):=O 15 rfl;obtain⟨d8,f5,e6,k7⟩:=xwb g7;have g0:Aa 9 1 (val 22) (scs [wOk]) (piece 22):=O 22 rfl;obtain⟨h3,d7,d9,i2⟩:=xwb g0;refine xvz (vs:=[(0,.slice a5 f a2),(1,.slice d8 f5 e6),(2,.slice (Cf a9 M f 1) (z-f) (M-f)),(3,.slice h3 d7 d9),(4,.slice (Cf a5 a2 f 1) (ls.length-(z-f)-f) (a2-f))]) (cells:=#[.slice a5 f a2,.slice d8 f5 e6,.slice (Cf a9 M f 1) (z-f) (M-f),.slice h3 d7 d9,.slice (Cf a5 a2 f 1) (ls.length-(z-f)-f) (a2-f)]) rfl (by show some [(0,.slice a5 f a2),(1,val 15),(2,.slice (Cf a9 M f 1) (z-f) (M-f)),(3,val 22),(4,.slice (Cf a5 a2 f 1) (ls.length-(z-f)-f) (a2-f))]=_;rw[k7,i2]) (fun v Y(o:Aa 34 1 v ([.slice a5 f a2,.slice d8 f5 e6,.slice (Cf a9 M f 1) (z-f) (M-f),.slice h3 d7 d9,.slice (Cf a5 a2 f 1) (ls.length-(z-f)-f) (a2-f)].map fun u=>[u]) Y)=>?_) (hf:=by kernel_rfl) (hc:=by kernel_rfl) (hw:=by kernel_rfl) (hn:=by kernel_rfl);exact xuq ⟨⟨_,rfl⟩,fun v' e=>by
      have e':=xmq e;subst e';refine⟨Y,by show Y++(piece 15++(piece 22++[]))=Y++(piece 15++piece 22);rw[List.append_nil],?_⟩;show Aa 34 1 _ ([.slice a5 f a2,val 15,.slice (Cf a9 M f 1) (z-f) (M-f),val 22,.slice (Cf a5 a2 f 1) (ls.length-(z-f)-f) (a2-f)].map fun u=>[u]) Y;rw[k7,i2];exact o⟩
   |28,_=>
     obtain⟨Y0,e0,o⟩:=O 27 rfl;have e0:piece 27=Y0++(piece 15++piece 22):=e0;have o:Aa 34 1 (val 27) ([.slice a5 f a2,val 15,.slice (Cf a9 M f 1) (z-f) (M-f),val 22,.slice (Cf a5 a2 f 1) (ls.length-(z-f)-f) (a2-f)].map fun u=>[u]) Y0:=o;have g7:Aa 9 1 (val 15) (scs [wOk]) (piece 15):=O 15 rfl;have g0:Aa 9 1 (val 22) (scs [wOk]) (piece 22):=O 22 rfl;show DE _ _ _ _ _ _ _ _ _ [piece 27];rw[e0];refine xhb (first:=[]) (cap:=[]) (vs:=[val 27]) (Q:=fun v Z=>Part d6 (Z++(Y0++(piece 15++piece 22))) v (K.1.take f++(wOk::((R.1.drop f).take (z-f)++(wOk::K.1.drop f))))) (LR:=[]) (Y0++(piece 15++piece 22)) (ii:=⟨s_⟩) rfl rfl rfl (fun h L s=>?_) fun v Z e=>?_
     ·have q:=xyv (md:=.main true) (xss:=[K.1.take f,[wOk],(R.1.drop f).take (z-f),[wOk],K.1.drop f]) o s rfl (fun i hi=>?_) (show(5:Nat)<=10 by decide) (fun i hi=>?_)
      ·rw[show [K.1.take f,[wOk],(R.1.drop f).take (z-f),[wOk],K.1.drop f].flatten=K.1.take f++(wOk::((R.1.drop f).take (z-f)++(wOk::K.1.drop f))) by simp]at q;exact q
      ·match i,hi with
       |0,_=>exact Part.last K1 _
       |1,_=>exact Part.more (Part.own g7) fun y h=>List.mem_append_left _ h
       |2,_=>exact Part.last R2 _
       |3,_=>exact Part.more (Part.own g0) fun y h=>List.mem_append_right _ h
       |4,_=>exact Part.last K2 _
      ·match i,hi with
       |0,_=>show(K.1.take f).length<=1000;omega
       |1,_=>show([wOk]).length<=1000;decide
       |2,_=>show((R.1.drop f).take (z-f)).length<=1000;omega
       |3,_=>show([wOk]).length<=1000;decide
       |4,_=>show(K.1.drop f).length<=1000;omega
     exact xuq ⟨⟨_,rfl⟩,fun v' e'=>by
      have a6:=xmq e';subst a6;show Part _ ((Z++_)++[]) _ _;rw[List.append_nil];exact e⟩
   |_+29,hi=>exact absurd hi om
 ·simp only[List.mem_cons,List.not_mem_nil,or_false]at hj;rcases hj with rfl|rfl|rfl|rfl|rfl|rfl|rfl|rfl|rfl|rfl|rfl|rfl|rfl|rfl|rfl|rfl|rfl|rfl|rfl|rfl|rfl|rfl|rfl|rfl|rfl<;>exact q.2
 have m5:Part d6 (piece 28) (val 28) (K.1.take f++(wOk::((R.1.drop f).take (z-f)++(wOk::K.1.drop f)))):=O 28 d_;refine xdk (l':=[(161,none,.bool true),(162,none,.slice e7 (ls.length+2) f9),(180,none,val 28)]) ?_ ⟨rfl,rfl,rfl,trivial⟩;clear O;generalize val 28=u at*;show RO _ _ _ _ _ _ [piece 28,_,_,_,_,_,_];generalize piece 28=Z28 at*;refine xjz Z28 fun o5 f4 hy=>?_;obtain⟨p0,p5,rfl,j5⟩:=m5 o5 f4.le hy;have m0:(K.1.take f++(wOk::((R.1.drop f).take (z-f)++(wOk::K.1.drop f)))).length=ls.length+2:=by simp only[List.length_append,List.length_cons,List.length_take,List.length_drop];omega
 rw[m0]at j5⊢;refine ax ?_;refine xqz rfl rfl rfl sdu (fun _=>cf13 (K.1.take f++(wOk::((R.1.drop f).take (z-f)++(wOk::K.1.drop f)))) (K.1.take f++(wOk::((R.1.drop f).take (z-f)++(wOk::K.1.drop f)))) (At.mono f4.le m9) j5 ⟨om,om⟩) ?_;refine cgq (fun _=>cf9 (Gg.mono f4.le)) ?_;refine ax ?_;exact xij k_ func5 rfl rfl fun _ H_=>⟨s_,H_.kept⟩
end Go.Proofs.YtofhlcococeifaaGreatDoor
