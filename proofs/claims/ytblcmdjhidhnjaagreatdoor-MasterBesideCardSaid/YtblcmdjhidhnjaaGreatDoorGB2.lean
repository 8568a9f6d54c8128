/-
  Part of proofs about a town's master: a calculus for Be beside goroutines that are only leaving, and the Be. No condition.
-/
import Derived.Test.YtblcmdjhidhnjaaGreatDoorGB1
namespace Go.X
open Go.Conc
section
variable{P:Program}{h z9:Heap}{zz:List Nat}{p:Ab}{L C:Pcs}{tm:List Value}{d:Option Tmp}{ty:TypeId}{pos:String}{aft:Array Edge}{gd:Option (Nat×Bool)}{x y:Operand}{T T':TypeId}
theorem xym{E:TypeId}{v u:Value}{q:Bool}{K:Bool->Heap->Prop}(M:P.underlying T=some (.pointer E))(n:K q h)
 (H:(∃o,v=.pointer o/\u=.pointer none/\q=o.isNone)\/ ∃a w,v=.pointer (some a)/\u=.pointer (some a)/\q=true/\Bi P E=some (w+1)):wpS P (Op.equal T v u) h K:=by
 simp only[Op.equal,Op.maxDepth];rw[show(10000:Nat)=9999+1 from rfl];unfold Op.equalIn;refine xbq (xfq M ?_);rcases H with⟨o,rfl,rfl,rfl⟩|⟨a,w,rfl,rfl,rfl,hs⟩
 ·cases o with
  |none=>exact xcq n
  |some a=>exact xcq n
 ·refine xbq (xax hs ?_);rw[if_pos om];unfold sameAddr;rw[if_pos s_];simpa using xcq (P:=P) n
theorem ypb{E:TypeId}{o:Option Addr}(M:P.underlying T=some (.pointer E))(O:evl tm x=.pointer o)(H:evl tm y=.pointer none):Exd P tm ⟨d,.binOp .eql T x y T',ty,pos,aft,gd⟩ h (.bool o.isNone):=by
 refine xxx O H (fun K z=>?_) ?_
 ·unfold eqGuard;rw[if_neg d_];exact xcq z
 ·have e:binOp .eql T (.pointer o) (.pointer none)=(do pure (.bool (<- Op.equal T (.pointer o) (.pointer none)))):=rfl;rw[e];exact xbq (xym M (xcq ⟨rfl,rfl⟩) (.inl ⟨o,rfl,rfl,rfl⟩))
theorem yxh{E w:TypeId}{a:Addr}(O:P.underlying T=some (.pointer E))(hs:Bi P E=some (w+1))(M:evl tm x=.pointer (some a))(H:evl tm y=.pointer (some a)):Exd P tm ⟨d,.binOp .neq T x y T',ty,pos,aft,gd⟩ h (.bool false):=by
 refine xxx M H (fun K z=>?_) ?_
 ·unfold eqGuard;rw[if_neg d_];exact xcq z
 ·have e:binOp .neq T (.pointer (some a)) (.pointer (some a))=(do pure (.bool (!(<- Op.equal T (.pointer (some a)) (.pointer (some a)))))):=rfl;rw[e];exact xbq (xym O (xcq ⟨rfl,rfl⟩) (.inr ⟨a,w,rfl,rfl,rfl,hs⟩))
theorem xcs{r:Nat}{c:Array Value}{e:TypeId}{z:Nat×Nat}{K:Option (Addr×TypeId)->Heap->Prop}(H:h[r]?=some (.cells c e z))(hc:0<c.size)(k:K none h):wpS P (viewAt r) h K:=by
 unfold viewAt;refine xbq (xok H hc ?_);simp only[Option.isSome_some,if_true];exact xcq k
theorem xl2{a:Addr}{c:Array Value}{e:TypeId}{z:Nat×Nat}{K:Addr->Heap->Prop}(H:h[a.block]?=some (.cells c e z))(hc:0<c.size)(k:K a h):wpS P (Conv.seenAt a) h K:=by
 unfold Conv.seenAt;refine xbq (xcs H hc ?_);exact xcq k
theorem ysh{M H E w:TypeId}{b off i:Nat}{c:Array Value}{e:TypeId}{z:Nat×Nat}(hs:P.underlying M=some (.pointer E))(O:P.underlying H=some .unsafePointer)(hz:Bi P E=some (w+1))(s:St z9 zz p h L)(hL:L[i]?=some (b,.cells c e z))(ho:off<c.size)(hx:evl tm x=w_ b off):
 Exd P tm ⟨d,.convert M H x,ty,pos,aft,gd⟩ h (w_ b off):=by
 have V:=s.at hL;refine xtz (s:=convert M H (w_ b off)) (by simp only[execOp,hx]) ?_;unfold convert;refine xbq (xfq hs ?_);refine xbq (xfq O ?_);simp only;unfold Conv.unsafePointer;refine xbq (xfq hs ?_);refine xbq (xfq O ?_);simp only;refine xbq (xl2 V om ?_);unfold cellsIn;refine xbq (xbq (xok V om ?_));refine xcq ?_;refine xbq (xax hz ?_);rw[if_neg (by simp;omega)];exact xcq ⟨rfl,rfl⟩
theorem yoz{M H E w:TypeId}{b off i:Nat}{c:Array Value}{e:TypeId}{z:Nat×Nat}(hs:P.underlying M=some .unsafePointer)(V:P.underlying H=some (.pointer E))(hz:Bi P E=some (w+1))(s:St z9 zz p h L)(hL:L[i]?=some (b,.cells c e z))(hc:0<c.size)(hv:liesAt P P.depth e (c.size / P.cellsOf e) off E 1=true)(hx:evl tm x=w_ b off):
 Exd P tm ⟨d,.convert M H x,ty,pos,aft,gd⟩ h (w_ b off):=by
 have O:=s.at hL;refine xtz (s:=convert M H (w_ b off)) (by simp only[execOp,hx]) ?_;unfold convert;refine xbq (xfq hs ?_);refine xbq (xfq V ?_);simp only;unfold Conv.unsafePointer;refine xbq (xfq hs ?_);refine xbq (xfq V ?_);simp only;refine xbq (xl2 O hc ?_);refine xbq (xax hz ?_);unfold variablesAt;refine xbq (xbq (xlv ?_));refine xbq (xok O hc ?_);refine xcq ?_;rw[if_pos (by simp[hv])];exact xcq ⟨rfl,rfl⟩
theorem yrh{ats:Array TypeId}{a:Addr}{n c:Nat}(H:evl tm x=.slice (some a) n c)(hc:0<c):Exd P tm ⟨d,.call ⟨.builtin .unsafeSliceData,#[x],ats⟩,ty,pos,aft,gd⟩ h (.pointer (some a)):=by
 refine xsk (s:=Builtin.unsafeSliceData_ ats ty #[.slice (some a) n c]) (fun cs=>by simp only[builtin,List.map_toArray,List.map_cons,List.map_nil,H]) ?_;show wpS P (if c≠0 then(pure (Value.pointer (some a)):Sem Value)else _) h _;rw[if_pos om];exact xcq ⟨rfl,rfl⟩
end
section
variable{X:Cx}{k:List Item}{ops rest:List Oper}{m:Ks}{l:Env}{p:Ab}{LF LL LR L3:List Pcs}{effs todo:List Nat}{d:Option Tmp}{dd:Nat}{ty:TypeId}{pos:String}{aft:Array Edge}{gd:Option (Nat×Bool)}{g:Option Bool}{ss ss':List Prop}{x y y2:Operand}{i:Nat}{v:Value}{T T' t:TypeId}{w:Nat}{es news:List (List Value)}{Y Z:Pcs}{a:List UInt8}
theorem xs9{E:TypeId}{o:Option Addr}(q:Bool)(O:o.isNone=q)(M:evS l x=some ([],.pointer o))(H:evS l y=some ([],.pointer none))(V:X.P.underlying T=some (.pointer E))(n:RO X k ops rest (ent d none (.bool q) l) p LL):RO X k ops (⟨d,.binOp .eql T x y T',ty,pos,aft,none⟩::rest) l p LL:=
 xjx (g:=none) rfl rfl (fun _ _ E _=>O ▸ ypb V (xeq E M trivial) (xeq E H trivial)) n
theorem ytm{E w:TypeId}{a:Addr}(M:evS l x=some ([],.pointer (some a)))(H:evS l y=some ([],.pointer (some a)))(O:X.P.underlying T=some (.pointer E))(hs:Bi X.P E=some (w+1))(n:RO X k ops rest (ent d none (.bool false) l) p LL):RO X k ops (⟨d,.binOp .neq T x y T',ty,pos,aft,none⟩::rest) l p LL:=
 xjx (g:=none) rfl rfl (fun _ _ E _=>yxh O hs (xeq E M trivial) (xeq E H trivial)) n
theorem yom{M H E w:TypeId}{b off i:Nat}{c:Array Value}{e:TypeId}{z:Nat×Nat}(hs:X.P.underlying M=some (.pointer E))(hd:X.P.underlying H=some .unsafePointer)(O:Bi X.P E=some (w+1))(hL:LL.flatten[i]?=some (b,.cells c e z))(V:off<c.size)(hx:evS l x=some ([],w_ b off))
 (n:RO X k ops rest (ent d none (w_ b off) l) p LL):RO X k ops (⟨d,.convert M H x,ty,pos,aft,none⟩::rest) l p LL:=
 xjx (g:=none) rfl rfl (fun _ _ E s=>ysh hs hd O s hL V (xeq E hx trivial)) n
theorem yfv{M H E w:TypeId}{b off i:Nat}{c:Array Value}{e:TypeId}{z:Nat×Nat}(hs:X.P.underlying M=some .unsafePointer)(V:X.P.underlying H=some (.pointer E))(O:Bi X.P E=some (w+1))(hL:LL.flatten[i]?=some (b,.cells c e z))(hc:0<c.size)(hv:liesAt X.P X.P.depth e (c.size / X.P.cellsOf e) off E 1=true)(hx:evS l x=some ([],w_ b off))
 (n:RO X k ops rest (ent d none (w_ b off) l) p LL):RO X k ops (⟨d,.convert M H x,ty,pos,aft,none⟩::rest) l p LL:=
 xjx (g:=none) rfl rfl (fun _ _ E s=>yoz hs V O s hL hc hv (xeq E hx trivial)) n
theorem ybr{ats:Array TypeId}{a:Addr}{q c:Nat}(M:ops[i]?=some ⟨d,.call ⟨.builtin .unsafeSliceData,#[x],ats⟩,ty,pos,aft,none⟩)(H:evS l x=some ([],.slice (some a) q c))(hc:0<c)(n:DE X k ops m p LF effs todo (ent d none (.pointer (some a)) l) LL):DE X k ops m p LF effs (i::todo) l LL:=
 xuz (g:=none) M rfl rfl (fun _ _ _ E _=>yrh (xeq E H trivial) hc) n
theorem yiv{sT xT eT:TypeId}{z:Value}{b:List UInt8}(hx:evS l x=some ([],v))(hy:evS l y=some ([],sv b))(o:Ac eT 1 v (bcs a) Y)(a2:a.length+b.length<=2^30)[i1:Rm LL Y LR][hT:Bv X.P sT eT][hs:Ai X.P eT 1][hz:A5 X.P eT z][hb:ByC X.P eT 1](nx:∀v' H,Ac eT 1 v' (bcs (a++b)) H->RO X k ops rest ((dd,none,v')::l) p (H::LR))
 (hX:X.P.underlying xT=some .string:=by kernel_rfl)(M:z.cells.size=1:=by rfl):RO X k ops (⟨some dd,.call ⟨.builtin .append,#[x,y],#[sT,xT]⟩,ty,pos,aft,none⟩::rest) l p LL:=by
 exact⟨fun ok tm V E=>xmj (K:=fun v' h'=>∃H,Ac eT 1 v' (bcs (a++b)) H/\St X.z9 X.zz p h' (H++LR.flatten)) (xrq rfl) rfl (fun h s=>by
  unfold Ex;simp only[execOp,resolve];refine xbq (xcq ?_);simp only[invoke,builtin];refine xbq ?_;have e:(#[x,y]:Array Operand).map (evl tm)=#[v,.string (bs b)]:=by
   simp only[List.map_toArray,List.map_cons,List.map_nil,xeq E hx trivial,xeq E hy trivial];rfl
  rw[e];have hf:∀K:Array Value->Heap->Prop,K (bcs b).flatten.toArray h->wpS X.P (Builtin.firstCells 1 b.length (.string (bs b))) h K:=fun K k=>by
   have e2:(((bs b).extract 0 b.length).data.map fun b=>Value.int .u8 ((b.toNat:Nat):Int))=(bcs b).flatten.toArray:=by
    rw[xrj,xdg];apply Array.ext';simp[bs]
   show wpS X.P (pure _) h K;rw[e2];exact xcq k
  have hl:∀K:Nat->Heap->Prop,K b.length h->wpS X.P (Builtin.lenOf (.string (bs b))) h K:=fun K k=>by
   show wpS X.P (pure _) h K;rw[xcw];exact xcq k
  have h1:∀u∈(bcs b).flatten,A7 u=true:=fun u hu=>by
   rw[xrj]at hu;obtain⟨b,_,rfl⟩:=List.mem_map.1 hu;rfl
  refine xth (A:=[]) hT.h hs.h hz.h M hb.h hX (fun _ e=>by cases e) o (s.rm i1) hl hf (xbk b) (fun e he=>by obtain⟨_,_,rfl⟩:=List.mem_map.1 he;rfl) h1 (by rw[xbk];omega) d_ fun v' X' h' O s'=>?_;exact xcq ⟨v',rfl,X',O.as (by simp[bcs]),s'⟩) fun v'=>xgk fun H=>xcz fun O=>(nx v' H O).run (xjq ok).1 _ (by simp[Cm,V]) (E.set (g:=none) (V ▸ xhw ok rfl))⟩
theorem xa6{z9 h:Heap}{zz:List Nat}{H:List Pcs}{C:Pcs}[i:Rm LL Y LR][j:Rm LR Z L3][q:Rm L3 C H](s:St z9 zz p h LL.flatten):St z9 zz p h ((Y++Z)++C):=
 ((s.rm i).perm (List.Perm.append_left Y (j.h.trans (List.Perm.append_left Z q.h)))).sub (by
   rw[<- List.append_assoc,<- List.append_assoc];exact List.sublist_append_left _ _)
end
def Nc:TypeDesc->Bool
 |.pointer _=>true
 |_=>false
def O0(P:Program)(T:TypeId)(name:String):Option FuncId:=
 match P.info? T,P.underlying T with
 |some i,some D=>match i.methods.find? (·.name==name)with
   |some m=>match m.func with
     |some (g,false)=>if m.path.isEmpty&&!(Nc D)then some g else none
     |_=>none
   |none=>none
 |_,_=>none
section
variable{P:Program}{h:Heap}
theorem xqm{T:TypeId}{v:Value}{name:String}{g:FuncId}{args:Array Value}{K:Next->Heap->Prop}(H:O0 P T name=some g)(V:Am P g=true)(k:K (.enter g (#[v]++args)) h):wpS P (callMethod (.iface T v) name args) h K:=by
 unfold O0 at H;split at H
 ·rename_i i D hi hD;split at H
  ·rename_i m hf;split at H
   ·rename_i g' M;split at H
    ·rename_i hc;cases H;rw[Bool.and_eq_true]at hc;have hp:m.path=#[]:=by simpa using hc.1
     unfold callMethod;refine xbq (xlv ?_);rw[show Made.depth=(Made.depth-1)+1 from rfl,<- Nat.add_assoc];refine xbq ?_;unfold method;refine xbq (xqx hi ?_);rw[hf];simp only;rw[hp];refine xbq (xcq ?_);rw[M];simp only;refine xbq ?_;unfold receiverAt;refine xbq (xfq hD ?_);have O:Nc D=false:=by simpa using hc.2
     cases D with
     |pointer e=>cases O
     |_=>exact xcq (xcq (xlb V k))
    ·cases H
   ·cases H
  ·cases H
 ·cases H
theorem yyd{args:List Operand}{ats:Array TypeId}{d:Option Tmp}{ty:TypeId}{pos:String}{aft:Array Edge}{gd:Option (Nat×Bool)}{tm:List Value}{x:Operand}{g:FuncId}{T:TypeId}{v:Value}{name:String}{vs:List Value}
 (hx:evl tm x=.iface T v)(H:v::args.map (evl tm)=vs)(hm:O0 P T name=some g)(M:Am P g=true):
 wpS P (execOp (evl tm) ⟨d,.call ⟨.invoke x name,args.toArray,ats⟩,ty,pos,aft,gd⟩) h fun n O=>n=.enter g vs.toArray/\O=h:=by
 simp only[execOp];refine xbq ?_;unfold resolve;simp only[hx];refine xcq ?_;simp only[invoke];have V:(#[Value.iface T v]++args.toArray.map (evl tm))[0]?=some (.iface T v):=by simp
 rw[V];simp only;refine xqm hm M ⟨?_,rfl⟩;rw[<- H];simp;exact List.take_of_length_le s_
end
section
variable{P:Program}{md:Md}{f:FuncId}{r:Rd}{df:List Deferred}{k:List Item}{cs:List Frame}{Stop:Goroutine->Heap->Prop}{ops rest:List Oper}{tm:List Value}{Φ:Heap->Prop}
theorem yln[Stb Φ]{args:List Operand}{ats:Array TypeId}{d:Option Tmp}{ty:TypeId}{pos:String}{aft:Array Edge}{gd:Option (Nat×Bool)}{x:Operand}{g:FuncId}{T:TypeId}{v:Value}{name:String}{vs:List Value}{R:Value->Heap->Prop}
 (hm:Met ops tm ⟨d,.call ⟨.invoke x name,args.toArray,ats⟩,ty,pos,aft,gd⟩ true)(hx:evl tm x=.iface T v)(O:v::args.map (evl tm)=vs)(H:O0 P T name=some g)(V:Am P g=true)
 (hc:∀h,Φ h->Aa P md g vs.toArray h R)(n:∀v,RL P md f r df k cs Stop ops rest (Cm tm d v) (R v)):
 RL P md f r df k cs Stop ops (⟨d,.call ⟨.invoke x name,args.toArray,ats⟩,ty,pos,aft,gd⟩::rest) tm Φ:=by
 intro M e;rw[xiw];refine xe9 (xod e) (xbx hm) xvw rfl (fun h y=>by rw[xez];exact yyd hx O H V) hc fun v h' hR=>?_;have:=n v (M++[⟨d,.call ⟨.invoke x name,args.toArray,ats⟩,ty,pos,aft,gd⟩]) (by simp[e]) h' hR;rw[xdx];simpa[FL]using this
end
section
variable{X:Cx}{k:List Item}{ops rest:List Oper}{l:Env}{p:Ab}{LL:List Pcs}{d:Option Tmp}{ty:TypeId}{pos:String}{aft:Array Edge}{x:Operand}{T A S:TypeId}{v:Value}
theorem xm9{args:List Operand}{ats:Array TypeId}{g:FuncId}{name:String}{vs:List Value}{u:Value}(hx:evS l x=some ([],.iface T v))(H:C9 l args=some ([],vs))(hm:O0 X.P T name=some g)
 (hc:∀h,Per p h->Aa X.P X.md g (v::vs).toArray h fun v' V=>v'=u/\Af h V)(n:RO X k ops rest (ent d none u l) p LL)(hf:Am X.P g=true:=by kernel_rfl):
 RO X k ops (⟨d,.call ⟨.invoke x name,args.toArray,ats⟩,ty,pos,aft,none⟩::rest) l p LL:=⟨fun O tm M E=>
 yln (R:=fun v h=>v=u/\St X.z9 X.zz p h LL.flatten) (xrq rfl) (xeq E hx trivial) (by rw[xnx E H trivial]) hm hf
  (fun h s=>(hc h fun b o e=>s.per b o e).mono fun _ _⟨q,kk⟩=>⟨q,s.call kk⟩)
  fun v=>xcz fun q=>by subst q;exact n.run (xjq O).1 _ (Aw.trans M) (E.ent (g:=none) M (xjq O).2)⟩
theorem ytp{P:Program}{h:Heap}{tm:List Value}{D:TypeDesc}{z:Value}(O:P.underlying A=some D)(V:Mq D=false)(H:Dx P A=some z)(M:evl tm x=.iface T v):Exd P tm ⟨d,.typeAssert x S A true,ty,pos,aft,none⟩ h (if T=A then .tuple #[v,.bool true]else .tuple #[z,.bool false]):=by
 refine xtz (s:=Instr.typeAssert (.iface T v) S A true) (by simp only[execOp,M]) ?_;unfold Instr.typeAssert;refine xbq (xfq O ?_);cases D with
 |interface _=>cases V
 |_=>
   simp only;split
   ·exact xcq ⟨rfl,rfl⟩
   ·exact xbq (xaz H (xcq ⟨rfl,rfl⟩))
theorem yuf{D:TypeDesc}{z:Value}{u:Value}(O:evS l x=some ([],.iface T v))(V:X.P.underlying A=some D)(H:Dx X.P A=some z)(M:(if T=A then Value.tuple #[v,.bool true]else .tuple #[z,.bool false])=u)(n:RO X k ops rest (ent d none u l) p LL)(hD:Mq D=false:=by rfl):RO X k ops (⟨d,.typeAssert x S A true,ty,pos,aft,none⟩::rest) l p LL:=
 xjx (g:=none) rfl rfl (fun _ _ E _=>M ▸ ytp V hD H (xeq E O trivial)) n
end
end Go.X
