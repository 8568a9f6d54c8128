/-
  Part of proofs about a town's master: a calculus for walks beside goroutines that are only leaving, and the walks. No condition.
-/
import Derived.Test.YtjcakmlipohaeaaGreatDoorGB1
namespace Go.X
open Go.Conc
section
variable{P:Program}{h h₀:Heap}{B₀:List Nat}{p:PHeap}{L C:Pcs}{tm:List Value}{d:Option Tmp}{ty:TypeId}{pos:String}{aft:Array Edge}{gd:Option (Nat×Bool)}{x y:Operand}{T T':TypeId}
theorem xmn{E:TypeId}{v u:Value}{q:Bool}{K:Bool->Heap->Prop}(hT:P.underlying T=some (.pointer E))(n:K q h)
 (hq:(∃o,v=.pointer o/\u=.pointer none/\q=o.isNone)\/ ∃a w,v=.pointer (some a)/\u=.pointer (some a)/\q=true/\sizeT P E=some (w+1)):wpS P (Op.equal T v u) h K:=by
 simp only[Op.equal,Op.maxDepth]
 rw[show(10000:Nat)=9999+1 from rfl]
 unfold Op.equalIn
 refine xbq (xeq hT ?_)
 rcases hq with⟨o,rfl,rfl,rfl⟩|⟨a,w,rfl,rfl,rfl,hs⟩
 ·cases o with
  |none=>exact xcq n
  |some a=>exact xcq n
 ·refine xbq (xwq hs ?_)
  rw[if_pos om]
  unfold sameAddr
  rw[if_pos (by simp)]
  simpa using xcq (P:=P) n
theorem yuc{E:TypeId}{o:Option Addr}(hT:P.underlying T=some (.pointer E))(hx:evl tm x=.pointer o)(hy:evl tm y=.pointer none):Exd P tm ⟨d,.binOp .eql T x y T',ty,pos,aft,gd⟩ h (.bool o.isNone):=by
 refine xux hx hy (fun K z=>?_) ?_
 ·unfold eqGuard
  rw[if_neg (by decide)]
  exact xcq z
 ·have e:binOp .eql T (.pointer o) (.pointer none)=(do pure (.bool (<- Op.equal T (.pointer o) (.pointer none)))):=rfl
  rw[e]
  exact xbq (xmn hT (xcq ⟨rfl,rfl⟩) (.inl ⟨o,rfl,rfl,rfl⟩))
theorem ybm{E w:TypeId}{a:Addr}(hT:P.underlying T=some (.pointer E))(hs:sizeT P E=some (w+1))(hx:evl tm x=.pointer (some a))(hy:evl tm y=.pointer (some a)):Exd P tm ⟨d,.binOp .neq T x y T',ty,pos,aft,gd⟩ h (.bool false):=by
 refine xux hx hy (fun K z=>?_) ?_
 ·unfold eqGuard
  rw[if_neg (by decide)]
  exact xcq z
 ·have e:binOp .neq T (.pointer (some a)) (.pointer (some a))=(do pure (.bool (!(<- Op.equal T (.pointer (some a)) (.pointer (some a)))))):=rfl
  rw[e]
  exact xbq (xmn hT (xcq ⟨rfl,rfl⟩) (.inr ⟨a,w,rfl,rfl,rfl,hs⟩))
theorem xzs{r:Nat}{c:Array Value}{e:TypeId}{z:Nat×Nat}{K:Option (Addr×TypeId)->Heap->Prop}(hb:h[r]?=some (.cells c e z))(hc:0<c.size)(k:K none h):wpS P (viewAt r) h K:=by
 unfold viewAt
 refine xbq (xfk hb hc ?_)
 simp only[Option.isSome_some,if_true]
 exact xcq k
theorem xj3{a:Addr}{c:Array Value}{e:TypeId}{z:Nat×Nat}{K:Addr->Heap->Prop}(hb:h[a.block]?=some (.cells c e z))(hc:0<c.size)(k:K a h):wpS P (Conv.seenAt a) h K:=by
 unfold Conv.seenAt
 refine xbq (xzs hb hc ?_)
 exact xcq k
theorem ywl{src dst E w:TypeId}{b off i:Nat}{c:Array Value}{e:TypeId}{z:Nat×Nat}(hs:P.underlying src=some (.pointer E))(hd:P.underlying dst=some .unsafePointer)(hz:sizeT P E=some (w+1))(s:St h₀ B₀ p h L)(hL:L[i]?=some (b,.cells c e z))(ho:off<c.size)(hx:evl tm x=.pointer (some ⟨b,off,none⟩)):
 Exd P tm ⟨d,.convert src dst x,ty,pos,aft,gd⟩ h (.pointer (some ⟨b,off,none⟩)):=by
 have hb:=s.at hL
 refine xuz (s:=convert src dst (.pointer (some ⟨b,off,none⟩))) (by simp only[execOp,hx]) ?_
 unfold convert
 refine xbq (xeq hs ?_)
 refine xbq (xeq hd ?_)
 simp only
 unfold Conv.unsafePointer
 refine xbq (xeq hs ?_)
 refine xbq (xeq hd ?_)
 simp only
 refine xbq (xj3 hb om ?_)
 unfold cellsIn
 refine xbq (xbq (xfk hb om ?_))
 refine xcq ?_
 refine xbq (xwq hz ?_)
 rw[if_neg (by simp;omega)]
 exact xcq ⟨rfl,rfl⟩
theorem ysj{src dst E w:TypeId}{b off i:Nat}{c:Array Value}{e:TypeId}{z:Nat×Nat}(hs:P.underlying src=some .unsafePointer)(hd:P.underlying dst=some (.pointer E))(hz:sizeT P E=some (w+1))(s:St h₀ B₀ p h L)(hL:L[i]?=some (b,.cells c e z))(hc:0<c.size)(hv:liesAt P P.depth e (c.size / P.cellsOf e) off E 1=true)(hx:evl tm x=.pointer (some ⟨b,off,none⟩)):
 Exd P tm ⟨d,.convert src dst x,ty,pos,aft,gd⟩ h (.pointer (some ⟨b,off,none⟩)):=by
 have hb:=s.at hL
 refine xuz (s:=convert src dst (.pointer (some ⟨b,off,none⟩))) (by simp only[execOp,hx]) ?_
 unfold convert
 refine xbq (xeq hs ?_)
 refine xbq (xeq hd ?_)
 simp only
 unfold Conv.unsafePointer
 refine xbq (xeq hs ?_)
 refine xbq (xeq hd ?_)
 simp only
 refine xbq (xj3 hb hc ?_)
 refine xbq (xwq hz ?_)
 unfold variablesAt
 refine xbq (xbq (xdv ?_))
 refine xbq (xfk hb hc ?_)
 refine xcq ?_
 rw[if_pos (by simp[hv])]
 exact xcq ⟨rfl,rfl⟩
theorem yvl{ats:Array TypeId}{a:Addr}{n c:Nat}(hx:evl tm x=.slice (some a) n c)(hc:0<c):Exd P tm ⟨d,.call ⟨.builtin .unsafeSliceData,#[x],ats⟩,ty,pos,aft,gd⟩ h (.pointer (some a)):=by
 refine xaj (s:=Builtin.unsafeSliceData_ ats ty #[.slice (some a) n c]) (fun cs=>by simp only[builtin,List.map_toArray,List.map_cons,List.map_nil,hx]) ?_
 show wpS P (if c≠0 then(pure (Value.pointer (some a)):Sem Value)else _) h _
 rw[if_pos om]
 exact xcq ⟨rfl,rfl⟩
end
section
variable{X:Cx}{k:List Item}{ops rest:List Oper}{m:Ks}{l:Env}{p:PHeap}{LF LL LR L3:List Pcs}{effs todo:List Nat}{d:Option Tmp}{dd:Nat}{ty:TypeId}{pos:String}{aft:Array Edge}{gd:Option (Nat×Bool)}{g:Option Bool}{ss ss':List Prop}{x y y2:Operand}{i:Nat}{v:Value}{T T' t:TypeId}{w:Nat}{es news:List (List Value)}{Y Z:Pcs}{a:List UInt8}
theorem ypq{E:TypeId}{o:Option Addr}(q:Bool)(hq:o.isNone=q)(hx:evS l x=some ([],.pointer o))(hy:evS l y=some ([],.pointer none))(hT:X.P.underlying T=some (.pointer E))(n:RO X k ops rest (ent d none (.bool q) l) p LL):RO X k ops (⟨d,.binOp .eql T x y T',ty,pos,aft,none⟩::rest) l p LL:=
 xdx (g:=none) rfl rfl (fun _ _ E _=>hq ▸ yuc hT (xdq E hx trivial) (xdq E hy trivial)) n
theorem ycp{E w:TypeId}{a:Addr}(hx:evS l x=some ([],.pointer (some a)))(hy:evS l y=some ([],.pointer (some a)))(hT:X.P.underlying T=some (.pointer E))(hs:sizeT X.P E=some (w+1))(n:RO X k ops rest (ent d none (.bool false) l) p LL):RO X k ops (⟨d,.binOp .neq T x y T',ty,pos,aft,none⟩::rest) l p LL:=
 xdx (g:=none) rfl rfl (fun _ _ E _=>ybm hT hs (xdq E hx trivial) (xdq E hy trivial)) n
theorem ywn{src dst E w:TypeId}{b off i:Nat}{c:Array Value}{e:TypeId}{z:Nat×Nat}(hs:X.P.underlying src=some (.pointer E))(hd:X.P.underlying dst=some .unsafePointer)(hz:sizeT X.P E=some (w+1))(hL:LL.flatten[i]?=some (b,.cells c e z))(ho:off<c.size)(hx:evS l x=some ([],.pointer (some ⟨b,off,none⟩)))
 (n:RO X k ops rest (ent d none (.pointer (some ⟨b,off,none⟩)) l) p LL):RO X k ops (⟨d,.convert src dst x,ty,pos,aft,none⟩::rest) l p LL:=
 xdx (g:=none) rfl rfl (fun _ _ E s=>ywl hs hd hz s hL ho (xdq E hx trivial)) n
theorem ynw{src dst E w:TypeId}{b off i:Nat}{c:Array Value}{e:TypeId}{z:Nat×Nat}(hs:X.P.underlying src=some .unsafePointer)(hd:X.P.underlying dst=some (.pointer E))(hz:sizeT X.P E=some (w+1))(hL:LL.flatten[i]?=some (b,.cells c e z))(hc:0<c.size)(hv:liesAt X.P X.P.depth e (c.size / X.P.cellsOf e) off E 1=true)(hx:evS l x=some ([],.pointer (some ⟨b,off,none⟩)))
 (n:RO X k ops rest (ent d none (.pointer (some ⟨b,off,none⟩)) l) p LL):RO X k ops (⟨d,.convert src dst x,ty,pos,aft,none⟩::rest) l p LL:=
 xdx (g:=none) rfl rfl (fun _ _ E s=>ysj hs hd hz s hL hc hv (xdq E hx trivial)) n
theorem yjs{ats:Array TypeId}{a:Addr}{q c:Nat}(ho:ops[i]?=some ⟨d,.call ⟨.builtin .unsafeSliceData,#[x],ats⟩,ty,pos,aft,none⟩)(hx:evS l x=some ([],.slice (some a) q c))(hc:0<c)(n:DE X k ops m p LF effs todo (ent d none (.pointer (some a)) l) LL):DE X k ops m p LF effs (i::todo) l LL:=
 xwz (g:=none) ho rfl rfl (fun _ _ _ E _=>yvl (xdq E hx trivial) hc) n
theorem yqw{sT xT eT:TypeId}{z:Value}{b:List UInt8}(hx:evS l x=some ([],v))(hy:evS l y=some ([],sv b))(o:OwnS eT 1 v (bcs a) Y)(room:a.length+b.length<=2^30)[i1:Rm LL Y LR][hT:SlcC X.P sT eT][hs:SizeC X.P eT 1][hz:ZeroC X.P eT z][hb:ByC X.P eT 1](nx:∀v' Y',OwnS eT 1 v' (bcs (a++b)) Y'->RO X k ops rest ((dd,none,v')::l) p (Y'::LR))
 (hX:X.P.underlying xT=some .string:=by kernel_rfl)(hzs:z.cells.size=1:=by rfl):RO X k ops (⟨some dd,.call ⟨.builtin .append,#[x,y],#[sT,xT]⟩,ty,pos,aft,none⟩::rest) l p LL:=by
 exact⟨fun ok tm ht E=>xfj (K:=fun v' h'=>∃Y',OwnS eT 1 v' (bcs (a++b)) Y'/\St X.h₀ X.B₀ p h' (Y'++LR.flatten)) (xoq rfl) rfl (fun h s=>by
  unfold Ex
  simp only[execOp,resolve]
  refine xbq (xcq ?_)
  simp only[invoke,builtin]
  refine xbq ?_
  have e:(#[x,y]:Array Operand).map (evl tm)=#[v,.string (bs b)]:=by
   simp only[List.map_toArray,List.map_cons,List.map_nil,xdq E hx trivial,xdq E hy trivial];rfl
  rw[e]
  have hf:∀K:Array Value->Heap->Prop,K (bcs b).flatten.toArray h->wpS X.P (Builtin.firstCells 1 b.length (.string (bs b))) h K:=fun K k=>by
   have e2:(((bs b).extract 0 b.length).data.map fun b=>Value.int .u8 ((b.toNat:Nat):Int))=(bcs b).flatten.toArray:=by
    rw[xlj,xug]
    apply Array.ext'
    simp[bs]
   show wpS X.P (pure _) h K
   rw[e2]
   exact xcq k
  have hl:∀K:Nat->Heap->Prop,K b.length h->wpS X.P (Builtin.lenOf (.string (bs b))) h K:=fun K k=>by
   show wpS X.P (pure _) h K
   rw[xpv];exact xcq k
  have h1:∀u∈(bcs b).flatten,isOne u=true:=fun u hu=>by
   rw[xlj]at hu
   obtain⟨b,_,rfl⟩:=List.mem_map.1 hu
   rfl
  refine xil (A:=[]) hT.h hs.h hz.h hzs hb.h hX (fun _ e=>by cases e) o (s.rm i1) hl hf (xuj b) (fun e he=>by obtain⟨_,_,rfl⟩:=List.mem_map.1 he;rfl) h1 (by rw[xuj];omega) (by decide) fun v' X' h' o' s'=>?_
  exact xcq ⟨v',rfl,X',o'.as (by simp[bcs]),s'⟩) fun v'=>xwj fun Y'=>xgz fun o'=>(nx v' Y' o').run (xhq ok).1 _ (by simp[putl,ht]) (E.set (g:=none) (ht ▸ xvv ok rfl))⟩
theorem ygv{h₀ h:Heap}{B₀:List Nat}{L4:List Pcs}{C:Pcs}[i:Rm LL Y LR][j:Rm LR Z L3][q:Rm L3 C L4](s:St h₀ B₀ p h LL.flatten):St h₀ B₀ p h ((Y++Z)++C):=
 ((s.rm i).perm (List.Perm.append_left Y (j.h.trans (List.Perm.append_left Z q.h)))).sub (by
   rw[<- List.append_assoc,<- List.append_assoc];exact List.sublist_append_left _ _)
end
def isPtrD:TypeDesc->Bool
 |.pointer _=>true
 |_=>false
def mthF(P:Program)(T:TypeId)(name:String):Option FuncId:=
 match P.info? T,P.underlying T with
 |some i,some D=>match i.methods.find? (·.name==name)with
   |some m=>match m.func with
     |some (g,false)=>if m.path.isEmpty&&!(isPtrD D)then some g else none
     |_=>none
   |none=>none
 |_,_=>none
section
variable{P:Program}{h:Heap}
theorem xfn{T:TypeId}{v:Value}{name:String}{g:FuncId}{args:Array Value}{K:Next->Heap->Prop}(hm:mthF P T name=some g)(hg:callable P g=true)(k:K (.enter g (#[v]++args)) h):wpS P (callMethod (.iface T v) name args) h K:=by
 unfold mthF at hm
 split at hm
 ·rename_i i D hi hD
  split at hm
  ·rename_i m hf
   split at hm
   ·rename_i g' hfn
    split at hm
    ·rename_i hc
     cases hm
     rw[Bool.and_eq_true]at hc
     have hp:m.path=#[]:=by simpa using hc.1
     unfold callMethod
     refine xbq (xdv ?_)
     rw[show Made.depth=(Made.depth-1)+1 from rfl,<- Nat.add_assoc]
     refine xbq ?_
     unfold method
     refine xbq (xkx hi ?_)
     rw[hf]
     simp only
     rw[hp]
     refine xbq (xcq ?_)
     rw[hfn]
     simp only
     refine xbq ?_
     unfold receiverAt
     refine xbq (xeq hD ?_)
     have hDp:isPtrD D=false:=by simpa using hc.2
     cases D with
     |pointer e=>cases hDp
     |_=>exact xcq (xcq (xnb hg k))
    ·cases hm
   ·cases hm
  ·cases hm
 ·cases hm
theorem yig{args:List Operand}{ats:Array TypeId}{d:Option Tmp}{ty:TypeId}{pos:String}{aft:Array Edge}{gd:Option (Nat×Bool)}{tm:List Value}{x:Operand}{g:FuncId}{T:TypeId}{v:Value}{name:String}{vs:List Value}
 (hx:evl tm x=.iface T v)(hvs:v::args.map (evl tm)=vs)(hm:mthF P T name=some g)(hg:callable P g=true):
 wpS P (execOp (evl tm) ⟨d,.call ⟨.invoke x name,args.toArray,ats⟩,ty,pos,aft,gd⟩) h fun n h'=>n=.enter g vs.toArray/\h'=h:=by
 simp only[execOp]
 refine xbq ?_
 unfold resolve
 simp only[hx]
 refine xcq ?_
 simp only[invoke]
 have e0:(#[Value.iface T v]++args.toArray.map (evl tm))[0]?=some (.iface T v):=by simp
 rw[e0]
 simp only
 refine xfn hm hg ⟨?_,rfl⟩
 rw[<- hvs]
 simp
 exact List.take_of_length_le (by simp)
end
section
variable{P:Program}{md:Md}{f:FuncId}{r:Rd}{df:List Deferred}{k:List Item}{cs:List Frame}{Stop:Goroutine->Heap->Prop}{ops rest:List Oper}{tm:List Value}{Φ:Heap->Prop}
theorem ysp[Stb Φ]{args:List Operand}{ats:Array TypeId}{d:Option Tmp}{ty:TypeId}{pos:String}{aft:Array Edge}{gd:Option (Nat×Bool)}{x:Operand}{g:FuncId}{T:TypeId}{v:Value}{name:String}{vs:List Value}{R:Value->Heap->Prop}
 (hm:Met ops tm ⟨d,.call ⟨.invoke x name,args.toArray,ats⟩,ty,pos,aft,gd⟩ true)(hx:evl tm x=.iface T v)(hvs:v::args.map (evl tm)=vs)(hmt:mthF P T name=some g)(hg:callable P g=true)
 (hc:∀h,Φ h->CallsX P md g vs.toArray h R)(n:∀v,RL P md f r df k cs Stop ops rest (putl tm d v) (R v)):
 RL P md f r df k cs Stop ops (⟨d,.call ⟨.invoke x name,args.toArray,ats⟩,ty,pos,aft,gd⟩::rest) tm Φ:=by
 intro pre e
 rw[xzv]
 refine ybq (xef e) (xxq hm) xpw rfl (fun h y=>by rw[xfz];exact yig hx hvs hmt hg) hc fun v h' hR=>?_
 have:=n v (pre++[⟨d,.call ⟨.invoke x name,args.toArray,ats⟩,ty,pos,aft,gd⟩]) (by simp[e]) h' hR
 rw[xzq]
 simpa[FL]using this
end
section
variable{X:Cx}{k:List Item}{ops rest:List Oper}{l:Env}{p:PHeap}{LL:List Pcs}{d:Option Tmp}{ty:TypeId}{pos:String}{aft:Array Edge}{x:Operand}{T A S:TypeId}{v:Value}
theorem ylq{args:List Operand}{ats:Array TypeId}{g:FuncId}{name:String}{vs:List Value}{u:Value}(hx:evS l x=some ([],.iface T v))(hvs:evsS l args=some ([],vs))(hm:mthF X.P T name=some g)
 (hc:∀h,Per p h->CallsX X.P X.md g (v::vs).toArray h fun v' h'=>v'=u/\Keep h h')(n:RO X k ops rest (ent d none u l) p LL)(hf:callable X.P g=true:=by kernel_rfl):
 RO X k ops (⟨d,.call ⟨.invoke x name,args.toArray,ats⟩,ty,pos,aft,none⟩::rest) l p LL:=⟨fun ok tm ht E=>
 ysp (R:=fun v h=>v=u/\St X.h₀ X.B₀ p h LL.flatten) (xoq rfl) (xdq E hx trivial) (by rw[xlx E hvs trivial]) hm hf
  (fun h s=>(hc h fun b o e=>s.per b o e).mono fun _ _⟨q,kk⟩=>⟨q,s.call kk⟩)
  fun v=>xgz fun q=>by subst q;exact n.run (xhq ok).1 _ (putl_len.trans ht) (E.ent (g:=none) ht (xhq ok).2)⟩
theorem yyr{P:Program}{h:Heap}{tm:List Value}{D:TypeDesc}{z:Value}(hA:P.underlying A=some D)(hD:isIfc D=false)(hz:zeroT P A=some z)(hx:evl tm x=.iface T v):Exd P tm ⟨d,.typeAssert x S A true,ty,pos,aft,none⟩ h (if T=A then .tuple #[v,.bool true]else .tuple #[z,.bool false]):=by
 refine xuz (s:=Instr.typeAssert (.iface T v) S A true) (by simp only[execOp,hx]) ?_
 unfold Instr.typeAssert
 refine xbq (xeq hA ?_)
 cases D with
 |interface _=>cases hD
 |_=>
   simp only
   split
   ·exact xcq ⟨rfl,rfl⟩
   ·exact xbq (xaz hz (xcq ⟨rfl,rfl⟩))
theorem ydh{D:TypeDesc}{z:Value}{u:Value}(hx:evS l x=some ([],.iface T v))(hA:X.P.underlying A=some D)(hz:zeroT X.P A=some z)(hu:(if T=A then Value.tuple #[v,.bool true]else .tuple #[z,.bool false])=u)(n:RO X k ops rest (ent d none u l) p LL)(hD:isIfc D=false:=by rfl):RO X k ops (⟨d,.typeAssert x S A true,ty,pos,aft,none⟩::rest) l p LL:=
 xdx (g:=none) rfl rfl (fun _ _ E _=>hu ▸ yyr hA hD hz (xdq E hx trivial)) n
end
end Go.X
