/-
  Part of proofs about buckets brought from wells to houses: a lone run, and what it computes. No condition.
-/
import Derived.Test.YtalfgojocdonhaaDoorD2
import Derived.Test.YtalfgojocdonhaaDoorD1
import Derived.Test.YtalfgojocdonhaaDoorD4
import Derived.Test.YtalfgojocdonhaaDoorD3
import Derived.Conc.LeavingOf
import Derived.Carry
import Derived.Deep.Slices
import Derived.Lib.SmallJoins
import Derived.Calls
import Derived.Test.YtalfgojocdonhaaDoorRows
import Derived.Lay
import Derived.Lib.LaidTab
import Derived.LaidSub
import Derived.MakeChecks
import Derived.JoinedOf
import Derived.Handed
import Derived.ChangeMaps5
import Derived.ProofKit
namespace Go.Proofs.YtalfgojocdonhaaDoor
open Go.X Go.X.Flow Go.Conc
set_option maxRecDepth 10000
set_option synthInstance.maxSize 2000

set_option maxHeartbeats 2000000
theorem c63 (md:Md) (h:Heap):CallsX Tryd.prog md 63 #[] h fun v h'=>∃ w1:Value,∃ w2:Value,∃ w3:Value,∃ w4:Value,∃ w5:Value,∃ w6:Value,∃ w7:Value,∃ w8:Value,∃ w9:Value,∃ X1:Pcs,∃ X2:Pcs,∃ X3:Pcs,∃ X4:Pcs,∃ X5:Pcs,∃ X6:Pcs,∃ X7:Pcs,∃ X8:Pcs,∃ X9:Pcs,v= .tuple #[.agg #[w1,w2,w3],.agg #[w4,w5,w6],.agg #[w7,w8,w9]]∧OwnS 3 1 w1 (ics exB.hs) X1∧OwnS 3 1 w2 (ics exB.ws) X2∧OwnS 43 2 w3 (wcs exB.wy) X3∧OwnS 3 1 w4 (ics exC.hs) X4∧OwnS 3 1 w5 (ics exC.ws) X5∧OwnS 43 2 w6 (wcs exC.wy) X6∧OwnS 3 1 w7 (ics exD.hs) X7∧OwnS 3 1 w8 (ics exD.ws) X8∧OwnS 43 2 w9 (wcs exD.wy) X9∧New h h' ((X1++(X2++(X3++(X4++(X5++(X6++(X7++(X8++(X9++[])))))))))):=by
 refine xcq (Φ:=fun h_=>St h [] (fun _=>none) h_ []) Tryd.func63 rfl (tm:=zq2 (zq8 (zq16 []))) rfl ?_ (St.start h _ (fun _ _ e=>by cases e))
 intro c₀ cs Stop K
 refine fsr ?_
 refine xkx mn tZ25 rfl fun b1=>xcz (L':=[(b1,.cells #[.slice none 0 0,.slice none 0 0,.slice none 0 0] 25 (0,0))]) rfl ?_
 refine xkx mn tZ25 rfl fun b2=>xcz (L':=[(b2,.cells #[.slice none 0 0,.slice none 0 0,.slice none 0 0] 25 (0,0)),(b1,.cells #[.slice none 0 0,.slice none 0 0,.slice none 0 0] 25 (0,0))]) rfl ?_
 refine xkx mn tZ25 rfl fun b3=>xcz (L':=[(b3,.cells #[.slice none 0 0,.slice none 0 0,.slice none 0 0] 25 (0,0)),(b2,.cells #[.slice none 0 0,.slice none 0 0,.slice none 0 0] 25 (0,0)),(b1,.cells #[.slice none 0 0,.slice none 0 0,.slice none 0 0] 25 (0,0))]) rfl ?_
 refine xgq (tm':=_::_::_::_) rfl ?_
 refine ren <| xbq ?_
 refine xcz (L':=([(b3,.cells #[.slice none 0 0,.slice none 0 0,.slice none 0 0] 25 (0,0)),(b2,.cells #[.slice none 0 0,.slice none 0 0,.slice none 0 0] 25 (0,0)),(b1,.cells #[.slice none 0 0,.slice none 0 0,.slice none 0 0] 25 (0,0))]:Pcs)++[]) rfl ?_
 refine xlv ([(b3,.cells #[.slice none 0 0,.slice none 0 0,.slice none 0 0] 25 (0,0)),(b2,.cells #[.slice none 0 0,.slice none 0 0,.slice none 0 0] 25 (0,0)),(b1,.cells #[.slice none 0 0,.slice none 0 0,.slice none 0 0] 25 (0,0))]:Pcs) mn Tryd.underlying22 tS3 tZ3 (Nat.le_of_ble_eq_true rfl) (vs:=[(0,.int .i64 5),(1,.int .i64 4),(2,.int .i64 3)]) rfl rfl (es:=[[.int .i64 5],[.int .i64 4],[.int .i64 3]]) rfl rfl rfl fun v4 X5 o6=>?_
 refine xlv ([(b3,.cells #[.slice none 0 0,.slice none 0 0,.slice none 0 0] 25 (0,0)),(b2,.cells #[.slice none 0 0,.slice none 0 0,.slice none 0 0] 25 (0,0)),(b1,.cells #[.slice none 0 0,.slice none 0 0,.slice none 0 0] 25 (0,0))]:Pcs) mn Tryd.underlying22 tS3 tZ3 (Nat.le_of_ble_eq_true rfl) (vs:=[(0,.int .i64 4),(1,.int .i64 3)]) rfl rfl (es:=[[.int .i64 4],[.int .i64 3]]) rfl rfl rfl fun v7 X8 o9=>?_
 refine rt (xhx tZ43 tP43 (vs:=[(0,.int .i64 0),(1,.int .i64 0)]) rfl (cells:=#[.int .i64 0,.int .i64 0]) rfl) (tm':=zq2 (zq4 _)) rfl <| ro (xhx tZ43 tP43 (vs:=[(0,.int .i64 1),(1,.int .i64 0)]) rfl (cells:=#[.int .i64 1,.int .i64 0]) rfl) <| ro (xhx tZ43 tP43 (vs:=[(0,.int .i64 1),(1,.int .i64 1)]) rfl (cells:=#[.int .i64 1,.int .i64 1]) rfl) <| rt (xhx tZ43 tP43 (vs:=[(0,.int .i64 2),(1,.int .i64 1)]) rfl (cells:=#[.int .i64 2,.int .i64 1]) rfl) (tm':=zq1 (zq8 _)) rfl ?_
 refine xlv ([(b3,.cells #[.slice none 0 0,.slice none 0 0,.slice none 0 0] 25 (0,0)),(b2,.cells #[.slice none 0 0,.slice none 0 0,.slice none 0 0] 25 (0,0)),(b1,.cells #[.slice none 0 0,.slice none 0 0,.slice none 0 0] 25 (0,0))]:Pcs) mn Tryd.underlying23 tS43 tZ43 (Nat.le_of_ble_eq_true rfl) (vs:=[(0,.agg #[.int .i64 0,.int .i64 0]),(1,.agg #[.int .i64 1,.int .i64 0]),(2,.agg #[.int .i64 1,.int .i64 1]),(3,.agg #[.int .i64 2,.int .i64 1])]) rfl rfl (es:=[[.int .i64 0,.int .i64 0],[.int .i64 1,.int .i64 0],[.int .i64 1,.int .i64 1],[.int .i64 2,.int .i64 1]]) rfl rfl rfl fun v10 X11 o12=>?_
 obtain ⟨a13,c14,ev_,_⟩:=o6.val;have ev_:v4= .slice a13 3 c14:=ev_.trans (congrArg (fun q_=>Value.slice a13 q_ c14) (show _=3 from rfl));subst ev_
 obtain ⟨a15,c16,ev_,_⟩:=o9.val;have ev_:v7= .slice a15 2 c16:=ev_.trans (congrArg (fun q_=>Value.slice a15 q_ c16) (show _=2 from rfl));subst ev_
 obtain ⟨a17,c18,ev_,_⟩:=o12.val;have ev_:v10= .slice a17 4 c18:=ev_.trans (congrArg (fun q_=>Value.slice a17 q_ c18) (show _=4 from rfl));subst ev_
 refine ro (xhx tZ25 tP25 (vs:=[(0,(.slice a13 3 c14)),(1,(.slice a15 2 c16)),(2,(.slice a17 4 c18))]) rfl (cells:=#[(.slice a13 3 c14),(.slice a15 2 c16),(.slice a17 4 c18)]) rfl) ?_
 refine xiz mn tS25 rfl (v:=.agg #[(.slice a13 3 c14),(.slice a15 2 c16),(.slice a17 4 c18)]) rfl (i:=2) rfl rfl (xgv o6.one.2 (xgv o9.one.2 (xgv o12.one.2 rfl))) (Nat.le_of_ble_eq_true rfl) (cs2:=[(.slice a13 3 c14),(.slice a15 2 c16),(.slice a17 4 c18)]) rfl (xcz (L':=([(b3,.cells #[.slice none 0 0,.slice none 0 0,.slice none 0 0] 25 (0,0)),(b2,.cells #[.slice none 0 0,.slice none 0 0,.slice none 0 0] 25 (0,0)),(b1,.cells #[(.slice a13 3 c14),(.slice a15 2 c16),(.slice a17 4 c18)] 25 (0,0))]:Pcs)++(X11++(X8++(X5++[])))) rfl ?_)
 refine ren <| xbq ?_
 refine xlv ([(b3,.cells #[.slice none 0 0,.slice none 0 0,.slice none 0 0] 25 (0,0)),(b2,.cells #[.slice none 0 0,.slice none 0 0,.slice none 0 0] 25 (0,0)),(b1,.cells #[(.slice a13 3 c14),(.slice a15 2 c16),(.slice a17 4 c18)] 25 (0,0))]:Pcs) mn Tryd.underlying22 tS3 tZ3 (Nat.le_of_ble_eq_true rfl) (vs:=[(0,.int .i64 2),(1,.int .i64 3)]) rfl rfl (es:=[[.int .i64 2],[.int .i64 3]]) rfl rfl rfl fun v19 X20 o21=>?_
 refine xgq (tm':=zq4 (zq8 _)) rfl ?_
 refine xlv ([(b3,.cells #[.slice none 0 0,.slice none 0 0,.slice none 0 0] 25 (0,0)),(b2,.cells #[.slice none 0 0,.slice none 0 0,.slice none 0 0] 25 (0,0)),(b1,.cells #[(.slice a13 3 c14),(.slice a15 2 c16),(.slice a17 4 c18)] 25 (0,0))]:Pcs) mn Tryd.underlying22 tS3 tZ3 (Nat.le_of_ble_eq_true rfl) (vs:=[(0,.int .i64 5),(1,.int .i64 0)]) rfl rfl (es:=[[.int .i64 5],[.int .i64 0]]) rfl rfl rfl fun v22 X23 o24=>?_
 refine ro (xhx tZ43 tP43 (vs:=[(0,.int .i64 0),(1,.int .i64 0)]) rfl (cells:=#[.int .i64 0,.int .i64 0]) rfl) <| rt (xhx tZ43 tP43 (vs:=[(0,.int .i64 1),(1,.int .i64 1)]) rfl (cells:=#[.int .i64 1,.int .i64 1]) rfl) (tm':=zq1 (zq2 (zq4 (zq8 _)))) rfl ?_
 refine xlv ([(b3,.cells #[.slice none 0 0,.slice none 0 0,.slice none 0 0] 25 (0,0)),(b2,.cells #[.slice none 0 0,.slice none 0 0,.slice none 0 0] 25 (0,0)),(b1,.cells #[(.slice a13 3 c14),(.slice a15 2 c16),(.slice a17 4 c18)] 25 (0,0))]:Pcs) mn Tryd.underlying23 tS43 tZ43 (Nat.le_of_ble_eq_true rfl) (vs:=[(0,.agg #[.int .i64 0,.int .i64 0]),(1,.agg #[.int .i64 1,.int .i64 1])]) rfl rfl (es:=[[.int .i64 0,.int .i64 0],[.int .i64 1,.int .i64 1]]) rfl rfl rfl fun v25 X26 o27=>?_
 obtain ⟨a28,c29,ev_,_⟩:=o21.val;have ev_:v19= .slice a28 2 c29:=ev_.trans (congrArg (fun q_=>Value.slice a28 q_ c29) (show _=2 from rfl));subst ev_
 obtain ⟨a30,c31,ev_,_⟩:=o24.val;have ev_:v22= .slice a30 2 c31:=ev_.trans (congrArg (fun q_=>Value.slice a30 q_ c31) (show _=2 from rfl));subst ev_
 obtain ⟨a32,c33,ev_,_⟩:=o27.val;have ev_:v25= .slice a32 2 c33:=ev_.trans (congrArg (fun q_=>Value.slice a32 q_ c33) (show _=2 from rfl));subst ev_
 refine ro (xhx tZ25 tP25 (vs:=[(0,(.slice a28 2 c29)),(1,(.slice a30 2 c31)),(2,(.slice a32 2 c33))]) rfl (cells:=#[(.slice a28 2 c29),(.slice a30 2 c31),(.slice a32 2 c33)]) rfl) ?_
 refine xiz mn tS25 rfl (v:=.agg #[(.slice a28 2 c29),(.slice a30 2 c31),(.slice a32 2 c33)]) rfl (i:=1) rfl rfl (xgv o21.one.2 (xgv o24.one.2 (xgv o27.one.2 rfl))) (Nat.le_of_ble_eq_true rfl) (cs2:=[(.slice a28 2 c29),(.slice a30 2 c31),(.slice a32 2 c33)]) rfl (xcz (L':=([(b3,.cells #[.slice none 0 0,.slice none 0 0,.slice none 0 0] 25 (0,0)),(b2,.cells #[(.slice a28 2 c29),(.slice a30 2 c31),(.slice a32 2 c33)] 25 (0,0)),(b1,.cells #[(.slice a13 3 c14),(.slice a15 2 c16),(.slice a17 4 c18)] 25 (0,0))]:Pcs)++(X26++(X23++(X20++(X11++(X8++(X5++[]))))))) rfl ?_)
 refine ren <| xbq ?_
 refine xlv ([(b3,.cells #[.slice none 0 0,.slice none 0 0,.slice none 0 0] 25 (0,0)),(b2,.cells #[(.slice a28 2 c29),(.slice a30 2 c31),(.slice a32 2 c33)] 25 (0,0)),(b1,.cells #[(.slice a13 3 c14),(.slice a15 2 c16),(.slice a17 4 c18)] 25 (0,0))]:Pcs) mn Tryd.underlying22 tS3 tZ3 (Nat.le_of_ble_eq_true rfl) (vs:=[(0,.int .i64 1)]) rfl rfl (es:=[[.int .i64 1]]) rfl rfl rfl fun v34 X35 o36=>?_
 refine xgq (tm':=zq2 (zq8 (zq16 []))) rfl ?_
 refine xlv ([(b3,.cells #[.slice none 0 0,.slice none 0 0,.slice none 0 0] 25 (0,0)),(b2,.cells #[(.slice a28 2 c29),(.slice a30 2 c31),(.slice a32 2 c33)] 25 (0,0)),(b1,.cells #[(.slice a13 3 c14),(.slice a15 2 c16),(.slice a17 4 c18)] 25 (0,0))]:Pcs) mn Tryd.underlying22 tS3 tZ3 (Nat.le_of_ble_eq_true rfl) (vs:=[(0,.int .i64 1),(1,.int .i64 1)]) rfl rfl (es:=[[.int .i64 1],[.int .i64 1]]) rfl rfl rfl fun v37 X38 o39=>?_
 refine ro (xhx tZ43 tP43 (vs:=[(0,.int .i64 0),(1,.int .i64 0)]) rfl (cells:=#[.int .i64 0,.int .i64 0]) rfl) <| rt (xhx tZ43 tP43 (vs:=[(0,.int .i64 0),(1,.int .i64 1)]) rfl (cells:=#[.int .i64 0,.int .i64 1]) rfl) (tm':=zq2 (zq8 (zq16 []))) rfl ?_
 refine xlv ([(b3,.cells #[.slice none 0 0,.slice none 0 0,.slice none 0 0] 25 (0,0)),(b2,.cells #[(.slice a28 2 c29),(.slice a30 2 c31),(.slice a32 2 c33)] 25 (0,0)),(b1,.cells #[(.slice a13 3 c14),(.slice a15 2 c16),(.slice a17 4 c18)] 25 (0,0))]:Pcs) mn Tryd.underlying23 tS43 tZ43 (Nat.le_of_ble_eq_true rfl) (vs:=[(0,.agg #[.int .i64 0,.int .i64 0]),(1,.agg #[.int .i64 0,.int .i64 1])]) rfl rfl (es:=[[.int .i64 0,.int .i64 0],[.int .i64 0,.int .i64 1]]) rfl rfl rfl fun v40 X41 o42=>?_
 obtain ⟨a43,c44,ev_,_⟩:=o36.val;have ev_:v34= .slice a43 1 c44:=ev_.trans (congrArg (fun q_=>Value.slice a43 q_ c44) (show _=1 from rfl));subst ev_
 obtain ⟨a45,c46,ev_,_⟩:=o39.val;have ev_:v37= .slice a45 2 c46:=ev_.trans (congrArg (fun q_=>Value.slice a45 q_ c46) (show _=2 from rfl));subst ev_
 obtain ⟨a47,c48,ev_,_⟩:=o42.val;have ev_:v40= .slice a47 2 c48:=ev_.trans (congrArg (fun q_=>Value.slice a47 q_ c48) (show _=2 from rfl));subst ev_
 refine ro (xhx tZ25 tP25 (vs:=[(0,(.slice a43 1 c44)),(1,(.slice a45 2 c46)),(2,(.slice a47 2 c48))]) rfl (cells:=#[(.slice a43 1 c44),(.slice a45 2 c46),(.slice a47 2 c48)]) rfl) ?_
 refine xiz mn tS25 rfl (v:=.agg #[(.slice a43 1 c44),(.slice a45 2 c46),(.slice a47 2 c48)]) rfl (i:=0) rfl rfl (xgv o36.one.2 (xgv o39.one.2 (xgv o42.one.2 rfl))) (Nat.le_of_ble_eq_true rfl) (cs2:=[(.slice a43 1 c44),(.slice a45 2 c46),(.slice a47 2 c48)]) rfl (xcz (L':=([(b3,.cells #[(.slice a43 1 c44),(.slice a45 2 c46),(.slice a47 2 c48)] 25 (0,0)),(b2,.cells #[(.slice a28 2 c29),(.slice a30 2 c31),(.slice a32 2 c33)] 25 (0,0)),(b1,.cells #[(.slice a13 3 c14),(.slice a15 2 c16),(.slice a17 4 c18)] 25 (0,0))]:Pcs)++(X41++(X38++(X35++(X26++(X23++(X20++(X11++(X8++(X5++[])))))))))) rfl ?_)
 refine ren ?_
 refine xzq (xmx (C:=[]) (A:=([(b3,.cells #[(.slice a43 1 c44),(.slice a45 2 c46),(.slice a47 2 c48)] 25 (0,0)),(b2,.cells #[(.slice a28 2 c29),(.slice a30 2 c31),(.slice a32 2 c33)] 25 (0,0)),(b1,.cells #[(.slice a13 3 c14),(.slice a15 2 c16),(.slice a17 4 c18)] 25 (0,0))]:Pcs)) 5 [] [5,6,7,8,9,10,11,12,13] [5,6,7,8,9,10,11,12,13] [0,1,2,3,4] (fun i_=>match i_ with | 5=>X41 | 6=>X38 | 7=>X35 | 8=>X26 | 9=>X23 | 10=>X20 | 11=>X11 | 12=>X8 | 13=>X5 | _=>[]) (fun _=>[]) (fun i_=>match i_ with | 0=>[] | 1=>[] | 2=>[] | 3=>[0] | 4=>[0,1] | _=>[]) (fun i_ val_ pc_ v_ x_=>match i_ with | 0=>v_= .agg #[(.slice a13 3 c14),(.slice a15 2 c16),(.slice a17 4 c18)]∧x_=[] | 1=>v_= .agg #[(.slice a28 2 c29),(.slice a30 2 c31),(.slice a32 2 c33)]∧x_=[] | 2=>v_= .agg #[(.slice a43 1 c44),(.slice a45 2 c46),(.slice a47 2 c48)]∧x_=[] | 3=>v_=undef∧x_=[] | 4=>v_=undef∧x_=[] | _=>True) (fun val49=>[.pointer (some ⟨b1,0,none⟩),.pointer (some ⟨b2,0,none⟩),.pointer (some ⟨b3,0,none⟩),(.slice a13 3 c14),(.slice a15 2 c16),.agg #[.int .i64 0,.int .i64 0],.agg #[.int .i64 1,.int .i64 0],.agg #[.int .i64 1,.int .i64 1],.agg #[.int .i64 2,.int .i64 1],(.slice a17 4 c18),.agg #[(.slice a13 3 c14),(.slice a15 2 c16),(.slice a17 4 c18)],(.slice a28 2 c29),(.slice a30 2 c31),.agg #[.int .i64 0,.int .i64 0],.agg #[.int .i64 1,.int .i64 1],(.slice a32 2 c33),.agg #[(.slice a28 2 c29),(.slice a30 2 c31),(.slice a32 2 c33)],(.slice a43 1 c44),(.slice a45 2 c46),.agg #[.int .i64 0,.int .i64 0],.agg #[.int .i64 0,.int .i64 1],(.slice a47 2 c48),.agg #[(.slice a43 1 c44),(.slice a45 2 c46),(.slice a47 2 c48)],(val49 0),(val49 1),(val49 2)]) xlq (by kernel_rfl) (Nat.le_of_ble_eq_true rfl) (by kernel_rfl) (by kernel_rfl) (by kernel_rfl) (fun _ _=>⟨fun _ _ h=>h.2,⟨fun _ _ h=>h.2,⟨fun _ _ h=>h.2,⟨fun _ _ h=>h.2,⟨fun _ _ h=>h.2,trivial⟩⟩⟩⟩⟩) (fun _=>by kernel_rfl) (by kernel_rfl) ?_ ?_) (fun h_ H_=>St.swap (A:=([(b3,.cells #[(.slice a43 1 c44),(.slice a45 2 c46),(.slice a47 2 c48)] 25 (0,0)),(b2,.cells #[(.slice a28 2 c29),(.slice a30 2 c31),(.slice a32 2 c33)] 25 (0,0)),(b1,.cells #[(.slice a13 3 c14),(.slice a15 2 c16),(.slice a17 4 c18)] 25 (0,0))]:Pcs)) (U:=(X41++(X38++(X35++(X26++(X23++(X20++(X11++(X8++(X5++[])))))))))) H_)
 ·
  refine xaw rfl (xdj ?_) ?_
  ·
   intro val49 pc50 hQ_ hX_
   obtain ⟨q_,hq0_⟩: ∃ q_:Value→Pcs→Prop,q_=(fun v_ x_=>v_= .agg #[(.slice a13 3 c14),(.slice a15 2 c16),(.slice a17 4 c18)]∧x_=[]):=⟨_,rfl⟩
   refine ⟨(zq2 (zq8 (zq16 []))),[],q_,rfl,rfl,(fun _ _ z_=>by subst hq0_;exact z_),?_⟩
   subst hq0_
   exact xdk mn (fun _ h_ H_=>xav H_ tA25 tS25 rfl (i:=2) rfl (vs:=[(.slice a13 3 c14),(.slice a15 2 c16),(.slice a17 4 c18)]) rfl rfl) ⟨rfl,rfl⟩
  refine xaw rfl (xdj ?_) ?_
  ·
   intro val49 pc50 hQ_ hX_
   obtain ⟨q_,hq0_⟩: ∃ q_:Value→Pcs→Prop,q_=(fun v_ x_=>v_= .agg #[(.slice a28 2 c29),(.slice a30 2 c31),(.slice a32 2 c33)]∧x_=[]):=⟨_,rfl⟩
   refine ⟨(zq2 (zq8 (zq16 []))),[],q_,rfl,rfl,(fun _ _ z_=>by subst hq0_;exact z_),?_⟩
   subst hq0_
   exact xdk mn (fun _ h_ H_=>xav H_ tA25 tS25 rfl (i:=1) rfl (vs:=[(.slice a28 2 c29),(.slice a30 2 c31),(.slice a32 2 c33)]) rfl rfl) ⟨rfl,rfl⟩
  refine xaw rfl (xdj ?_) ?_
  ·
   intro val49 pc50 hQ_ hX_
   obtain ⟨q_,hq0_⟩: ∃ q_:Value→Pcs→Prop,q_=(fun v_ x_=>v_= .agg #[(.slice a43 1 c44),(.slice a45 2 c46),(.slice a47 2 c48)]∧x_=[]):=⟨_,rfl⟩
   refine ⟨(zq2 (zq8 (zq16 []))),[],q_,rfl,rfl,(fun _ _ z_=>by subst hq0_;exact z_),?_⟩
   subst hq0_
   exact xdk mn (fun _ h_ H_=>xav H_ tA25 tS25 rfl (i:=0) rfl (vs:=[(.slice a43 1 c44),(.slice a45 2 c46),(.slice a47 2 c48)]) rfl rfl) ⟨rfl,rfl⟩
  refine xaw rfl (xdj ?_) ?_
  ·
   intro val49 pc50 hQ_ hX_
   have e0_:val49 0= .agg #[(.slice a13 3 c14),(.slice a15 2 c16),(.slice a17 4 c18)]:=(hQ_ 0 rfl).1
   obtain ⟨q_,hq0_⟩: ∃ q_:Value→Pcs→Prop,q_=(fun v_ x_=>v_=undef∧x_=[]):=⟨_,rfl⟩
   refine ⟨(zq2 (zq8 (zq16 []))),[],q_,(by rw [e0_]),rfl,(fun _ _ z_=>by subst hq0_;exact z_),?_⟩
   subst hq0_
   exact zmw mn tS25 rfl (v:=.agg #[(.slice a13 3 c14),(.slice a15 2 c16),(.slice a17 4 c18)]) rfl (i:=2) (fun _=>rfl) rfl (xgv o6.one.2 (xgv o9.one.2 (xgv o12.one.2 rfl))) (Nat.le_of_ble_eq_true rfl) rfl ⟨rfl,rfl⟩
  refine xaw rfl (xdj ?_) ?_
  ·
   intro val49 pc50 hQ_ hX_
   have e0_:val49 0= .agg #[(.slice a13 3 c14),(.slice a15 2 c16),(.slice a17 4 c18)]:=(hQ_ 0 rfl).1
   have e1_:val49 1= .agg #[(.slice a28 2 c29),(.slice a30 2 c31),(.slice a32 2 c33)]:=(hQ_ 1 rfl).1
   obtain ⟨q_,hq0_⟩: ∃ q_:Value→Pcs→Prop,q_=(fun v_ x_=>v_=undef∧x_=[]):=⟨_,rfl⟩
   refine ⟨(zq2 (zq8 (zq16 []))),[],q_,(by rw [e0_,e1_]),rfl,(fun _ _ z_=>by subst hq0_;exact z_),?_⟩
   subst hq0_
   exact zmw mn tS25 rfl (v:=.agg #[(.slice a28 2 c29),(.slice a30 2 c31),(.slice a32 2 c33)]) rfl (i:=1) (fun _=>rfl) rfl (xgv o21.one.2 (xgv o24.one.2 (xgv o27.one.2 rfl))) (Nat.le_of_ble_eq_true rfl) rfl ⟨rfl,rfl⟩
  exact xlw rfl
 intro val49 pc50 hQ_ hX_
 have e0_:val49 0= .agg #[(.slice a13 3 c14),(.slice a15 2 c16),(.slice a17 4 c18)]:=(hQ_ 0 (by decide)).1
 have e1_:val49 1= .agg #[(.slice a28 2 c29),(.slice a30 2 c31),(.slice a32 2 c33)]:=(hQ_ 1 (by decide)).1
 have e2_:val49 2= .agg #[(.slice a43 1 c44),(.slice a45 2 c46),(.slice a47 2 c48)]:=(hQ_ 2 (by decide)).1
 have x5_:pc50 5=X41:=hX_ 5 (by decide)
 have x6_:pc50 6=X38:=hX_ 6 (by decide)
 have x7_:pc50 7=X35:=hX_ 7 (by decide)
 have x8_:pc50 8=X26:=hX_ 8 (by decide)
 have x9_:pc50 9=X23:=hX_ 9 (by decide)
 have x10_:pc50 10=X20:=hX_ 10 (by decide)
 have x11_:pc50 11=X11:=hX_ 11 (by decide)
 have x12_:pc50 12=X8:=hX_ 12 (by decide)
 have x13_:pc50 13=X5:=hX_ 13 (by decide)
 clear hQ_ hX_
 refine xxz (Φ:=fun h_=>St h [] (fun _=>none) h_ (([(b3,.cells #[(.slice a43 1 c44),(.slice a45 2 c46),(.slice a47 2 c48)] 25 (0,0)),(b2,.cells #[(.slice a28 2 c29),(.slice a30 2 c31),(.slice a32 2 c33)] 25 (0,0)),(b1,.cells #[(.slice a13 3 c14),(.slice a15 2 c16),(.slice a17 4 c18)] 25 (0,0))]:Pcs)++(pc50 5++(pc50 6++(pc50 7++(pc50 8++(pc50 9++(pc50 10++(pc50 11++(pc50 12++(pc50 13++[]))))))))))) ?_ (fun h_ H_=>H_.swap')
 rw [x5_,x6_,x7_,x8_,x9_,x10_,x11_,x12_,x13_]
 refine xgq (tm':=(zq2 (zq8 (zq16 [])))) (by rw [e0_,e1_,e2_]) ?_
 refine xiz mn tS25 rfl (v:=.agg #[(.slice a43 1 c44),(.slice a45 2 c46),(.slice a47 2 c48)]) rfl (i:=0) rfl rfl (xgv o36.one.2 (xgv o39.one.2 (xgv o42.one.2 rfl))) (Nat.le_of_ble_eq_true rfl) (cs2:=[(.slice a43 1 c44),(.slice a45 2 c46),(.slice a47 2 c48)]) rfl (xcz (L':=([(b3,.cells #[(.slice a43 1 c44),(.slice a45 2 c46),(.slice a47 2 c48)] 25 (0,0)),(b2,.cells #[(.slice a28 2 c29),(.slice a30 2 c31),(.slice a32 2 c33)] 25 (0,0)),(b1,.cells #[(.slice a13 3 c14),(.slice a15 2 c16),(.slice a17 4 c18)] 25 (0,0))]:Pcs)++(X41++(X38++(X35++(X26++(X23++(X20++(X11++(X8++(X5++[])))))))))) rfl ?_)
 refine xak ?_
 refine xdz Tryd.func63 rfl (vs:=[.agg #[(.slice a13 3 c14),(.slice a15 2 c16),(.slice a17 4 c18)],.agg #[(.slice a28 2 c29),(.slice a30 2 c31),(.slice a32 2 c33)],.agg #[(.slice a43 1 c44),(.slice a45 2 c46),(.slice a47 2 c48)]]) (fun h_ H_=>⟨.agg #[(.slice a13 3 c14),(.slice a15 2 c16),(.slice a17 4 c18)],_,rfl,(xbx (xbk (xnj tA25 tS25 (vs:=[(.slice a13 3 c14),(.slice a15 2 c16),(.slice a17 4 c18)]) rfl (fun j_ v_ e_=>by rw [xmv];exact H_.ocell (i:=2) rfl (by simpa using e_)) ⟨rfl,rfl⟩))),⟨.agg #[(.slice a28 2 c29),(.slice a30 2 c31),(.slice a32 2 c33)],_,rfl,(xbx (xbk (xnj tA25 tS25 (vs:=[(.slice a28 2 c29),(.slice a30 2 c31),(.slice a32 2 c33)]) rfl (fun j_ v_ e_=>by rw [xmv];exact H_.ocell (i:=1) rfl (by simpa using e_)) ⟨rfl,rfl⟩))),⟨.agg #[(.slice a43 1 c44),(.slice a45 2 c46),(.slice a47 2 c48)],_,rfl,(xbx (xbk (xnj tA25 tS25 (vs:=[(.slice a43 1 c44),(.slice a45 2 c46),(.slice a47 2 c48)]) rfl (fun j_ v_ e_=>by rw [xmv];exact H_.ocell (i:=0) rfl (by simpa using e_)) ⟨rfl,rfl⟩))),rfl⟩⟩⟩) (v:=.tuple #[.agg #[(.slice a13 3 c14),(.slice a15 2 c16),(.slice a17 4 c18)],.agg #[(.slice a28 2 c29),(.slice a30 2 c31),(.slice a32 2 c33)],.agg #[(.slice a43 1 c44),(.slice a45 2 c46),(.slice a47 2 c48)]]) rfl ?_
 refine xfw (List.Perm.append_left _ (List.Perm.append_left _ (List.Perm.append_left _ (List.Perm.append_left _ (List.Perm.append_left _ (List.Perm.append_left _ (List.Perm.append_left _ (List.Perm.append_left _ (List.perm_append_comm_assoc _ _ _))))))))) ?_
 refine xfw (List.Perm.append_left _ (List.Perm.append_left _ (List.Perm.append_left _ (List.Perm.append_left _ (List.Perm.append_left _ (List.Perm.append_left _ (List.Perm.append_left _ (List.perm_append_comm_assoc _ _ _)))))))) ?_
 refine xfw (List.Perm.append_left _ (List.Perm.append_left _ (List.Perm.append_left _ (List.Perm.append_left _ (List.Perm.append_left _ (List.Perm.append_left _ (List.perm_append_comm_assoc _ _ _))))))) ?_
 refine xfw (List.Perm.append_left _ (List.Perm.append_left _ (List.Perm.append_left _ (List.Perm.append_left _ (List.Perm.append_left _ (List.perm_append_comm_assoc _ _ _)))))) ?_
 refine xfw (List.Perm.append_left _ (List.Perm.append_left _ (List.Perm.append_left _ (List.Perm.append_left _ (List.perm_append_comm_assoc _ _ _))))) ?_
 refine xfw (List.Perm.append_left _ (List.Perm.append_left _ (List.Perm.append_left _ (List.perm_append_comm_assoc _ _ _)))) ?_
 refine xfw (List.Perm.append_left _ (List.Perm.append_left _ (List.perm_append_comm_assoc _ _ _))) ?_
 refine xfw (List.Perm.append_left _ (List.perm_append_comm_assoc _ _ _)) ?_
 refine xfw (List.Perm.append_left _ (List.Perm.append_left _ (List.Perm.append_left _ (List.Perm.append_left _ (List.Perm.append_left _ (List.Perm.append_left _ (List.Perm.append_left _ (List.Perm.append_left _ (List.perm_append_comm_assoc _ _ _))))))))) ?_
 refine xfw (List.Perm.append_left _ (List.Perm.append_left _ (List.Perm.append_left _ (List.Perm.append_left _ (List.Perm.append_left _ (List.Perm.append_left _ (List.Perm.append_left _ (List.perm_append_comm_assoc _ _ _)))))))) ?_
 refine xfw (List.Perm.append_left _ (List.Perm.append_left _ (List.Perm.append_left _ (List.Perm.append_left _ (List.Perm.append_left _ (List.Perm.append_left _ (List.perm_append_comm_assoc _ _ _))))))) ?_
 refine xfw (List.Perm.append_left _ (List.Perm.append_left _ (List.Perm.append_left _ (List.Perm.append_left _ (List.Perm.append_left _ (List.perm_append_comm_assoc _ _ _)))))) ?_
 refine xfw (List.Perm.append_left _ (List.Perm.append_left _ (List.Perm.append_left _ (List.Perm.append_left _ (List.perm_append_comm_assoc _ _ _))))) ?_
 refine xfw (List.Perm.append_left _ (List.Perm.append_left _ (List.Perm.append_left _ (List.perm_append_comm_assoc _ _ _)))) ?_
 refine xfw (List.Perm.append_left _ (List.Perm.append_left _ (List.perm_append_comm_assoc _ _ _))) ?_
 refine xfw (List.Perm.append_left _ (List.Perm.append_left _ (List.Perm.append_left _ (List.Perm.append_left _ (List.Perm.append_left _ (List.Perm.append_left _ (List.Perm.append_left _ (List.Perm.append_left _ (List.perm_append_comm_assoc _ _ _))))))))) ?_
 refine xfw (List.Perm.append_left _ (List.Perm.append_left _ (List.Perm.append_left _ (List.Perm.append_left _ (List.Perm.append_left _ (List.Perm.append_left _ (List.Perm.append_left _ (List.perm_append_comm_assoc _ _ _)))))))) ?_
 refine xfw (List.Perm.append_left _ (List.Perm.append_left _ (List.Perm.append_left _ (List.Perm.append_left _ (List.Perm.append_left _ (List.Perm.append_left _ (List.perm_append_comm_assoc _ _ _))))))) ?_
 refine xfw (List.Perm.append_left _ (List.Perm.append_left _ (List.Perm.append_left _ (List.Perm.append_left _ (List.Perm.append_left _ (List.perm_append_comm_assoc _ _ _)))))) ?_
 refine xfw (List.Perm.append_left _ (List.Perm.append_left _ (List.Perm.append_left _ (List.Perm.append_left _ (List.perm_append_comm_assoc _ _ _))))) ?_
 refine xfw (List.Perm.append_left _ (List.Perm.append_left _ (List.Perm.append_left _ (List.perm_append_comm_assoc _ _ _)))) ?_
 refine xfw (List.Perm.append_left _ (List.Perm.append_left _ (List.Perm.append_left _ (List.Perm.append_left _ (List.Perm.append_left _ (List.Perm.append_left _ (List.Perm.append_left _ (List.Perm.append_left _ (List.perm_append_comm_assoc _ _ _))))))))) ?_
 refine xfw (List.Perm.append_left _ (List.Perm.append_left _ (List.Perm.append_left _ (List.Perm.append_left _ (List.Perm.append_left _ (List.Perm.append_left _ (List.Perm.append_left _ (List.perm_append_comm_assoc _ _ _)))))))) ?_
 refine xfw (List.Perm.append_left _ (List.Perm.append_left _ (List.Perm.append_left _ (List.Perm.append_left _ (List.Perm.append_left _ (List.Perm.append_left _ (List.perm_append_comm_assoc _ _ _))))))) ?_
 refine xfw (List.Perm.append_left _ (List.Perm.append_left _ (List.Perm.append_left _ (List.Perm.append_left _ (List.Perm.append_left _ (List.perm_append_comm_assoc _ _ _)))))) ?_
 refine xfw (List.Perm.append_left _ (List.Perm.append_left _ (List.Perm.append_left _ (List.Perm.append_left _ (List.perm_append_comm_assoc _ _ _))))) ?_
 refine xfw (List.Perm.append_left _ (List.Perm.append_left _ (List.Perm.append_left _ (List.Perm.append_left _ (List.Perm.append_left _ (List.Perm.append_left _ (List.Perm.append_left _ (List.Perm.append_left _ (List.perm_append_comm_assoc _ _ _))))))))) ?_
 refine xfw (List.Perm.append_left _ (List.Perm.append_left _ (List.Perm.append_left _ (List.Perm.append_left _ (List.Perm.append_left _ (List.Perm.append_left _ (List.Perm.append_left _ (List.perm_append_comm_assoc _ _ _)))))))) ?_
 refine xfw (List.Perm.append_left _ (List.Perm.append_left _ (List.Perm.append_left _ (List.Perm.append_left _ (List.Perm.append_left _ (List.Perm.append_left _ (List.perm_append_comm_assoc _ _ _))))))) ?_
 refine xfw (List.Perm.append_left _ (List.Perm.append_left _ (List.Perm.append_left _ (List.Perm.append_left _ (List.Perm.append_left _ (List.perm_append_comm_assoc _ _ _)))))) ?_
 refine xfw (List.Perm.append_left _ (List.Perm.append_left _ (List.Perm.append_left _ (List.Perm.append_left _ (List.Perm.append_left _ (List.Perm.append_left _ (List.Perm.append_left _ (List.Perm.append_left _ (List.perm_append_comm_assoc _ _ _))))))))) ?_
 refine xfw (List.Perm.append_left _ (List.Perm.append_left _ (List.Perm.append_left _ (List.Perm.append_left _ (List.Perm.append_left _ (List.Perm.append_left _ (List.Perm.append_left _ (List.perm_append_comm_assoc _ _ _)))))))) ?_
 refine xfw (List.Perm.append_left _ (List.Perm.append_left _ (List.Perm.append_left _ (List.Perm.append_left _ (List.Perm.append_left _ (List.Perm.append_left _ (List.perm_append_comm_assoc _ _ _))))))) ?_
 refine xfw (List.Perm.append_left _ (List.Perm.append_left _ (List.Perm.append_left _ (List.Perm.append_left _ (List.Perm.append_left _ (List.Perm.append_left _ (List.Perm.append_left _ (List.Perm.append_left _ (List.perm_append_comm_assoc _ _ _))))))))) ?_
 refine xfw (List.Perm.append_left _ (List.Perm.append_left _ (List.Perm.append_left _ (List.Perm.append_left _ (List.Perm.append_left _ (List.Perm.append_left _ (List.Perm.append_left _ (List.perm_append_comm_assoc _ _ _)))))))) ?_
 refine xfw (List.Perm.append_left _ (List.Perm.append_left _ (List.Perm.append_left _ (List.Perm.append_left _ (List.Perm.append_left _ (List.Perm.append_left _ (List.Perm.append_left _ (List.Perm.append_left _ (List.perm_append_comm_assoc _ _ _))))))))) ?_
 refine xkw (L':=([(b3,.cells #[(.slice a43 1 c44),(.slice a45 2 c46),(.slice a47 2 c48)] 25 (0,0)),(b2,.cells #[(.slice a28 2 c29),(.slice a30 2 c31),(.slice a32 2 c33)] 25 (0,0)),(b1,.cells #[(.slice a13 3 c14),(.slice a15 2 c16),(.slice a17 4 c18)] 25 (0,0))]:Pcs)++(X5++(X8++(X11++(X20++(X23++(X26++(X35++(X38++(X41++[])))))))))) rfl ?_
 exact fun h_ H_=>K _ _ ⟨_,_,_,_,_,_,_,_,_,_,_,_,_,_,_,_,_,_,rfl,o6,o9,o12,o21,o24,o27,o36,o39,o42,by simpa using H_.dropA.new⟩
theorem c16 (md:Md) (h:Heap) (p:PHeap) (hp:Per p h) (N:NoneP p) (Z:TabP p):CallsX Tryd.prog md 16 #[] h fun v h'=>v= .bool true∧Keep h h':=by
 refine xcq (Φ:=fun h_=>St h [] p h_ []) Tryd.func16 rfl (tm:=zq1 (zq2 (zq32 (zq32 (zq32 []))))) rfl ?_ (St.start h _ hp)
 intro c₀ cs Stop K
 have nB1:exB.nH=3:=rfl
 have nB2:exB.nW=2:=rfl
 have nB3:exB.m=4:=rfl
 have nC1:exC.nH=2:=rfl
 have nC2:exC.nW=2:=rfl
 have nC3:exC.m=2:=rfl
 have nD1:exD.nH=1:=rfl
 have nD2:exD.nW=2:=rfl
 have nD3:exD.m=2:=rfl
 have mostB_:mostC exB=7:=by rw [mostC,if_pos ygz,wrq]
 have lkB_:LKc exB=[2,2,1]:=by rw [yyj ygz,vaj]
 have shoC_:shortC exC=[1]:=by rw [yhz wcz,wnq]
 have shoE_:shortE exC=0:=zkw wcz (by rw [wnq];decide)
 have nl1_:(LKc exB).length=3:=by rw [lkB_];rfl
 have nl2_:(shortC exC).length=1:=by rw [shoC_];rfl
 have wA_:wayA exC 1 0=0:=by rw [zfj (by omega),askB,if_pos wcz];simp;omega
 have wayE_:wayE exC 1 0=0:=zuk wA_ (by decide)
 have wayB__:wayB exC 1 0=true:=by rw [zuw wA_ (by decide)];exact decide_eq_true wuw
 have askB_:askB exB (decide (0≤(0:Int)∧(0:Int)≤(exB.nH:Int)-1))=0:=by rw [askB,if_pos ygz];simp;omega
 have askD_:askB exD (decide (0≤(0:Int)∧(0:Int)≤(exD.nW:Int)-1))=0:=by rw [askB,if_pos wzz];simp;omega
 have houB1_:houseC exB 0 (-1)=3:=by rw [yaj askB_,wsk]
 have houB2_:houseC exB 0 1=4:=by rw [yaj askB_,wsj]
 have dryD_:dryC exD 0=3:=by rw [ymz askD_,wzq]
 refine fsr <| rt (xax (v:=.bool (false)) rfl) (tm':=_::_) rfl <| ren <| xbq ?_
 refine xcz (L':=([]:Pcs)++[]) rfl ?_
 refine xjk mn (first:=[]) (cap:=[]) rfl rfl fC63 (R:=fun v_ h_=>∃ w1:Value,∃ w4:Value,∃ w7:Value,∃ w10:Value,∃ w13:Value,∃ w16:Value,∃ w19:Value,∃ w22:Value,∃ w25:Value,∃ X2:Pcs,∃ X5:Pcs,∃ X8:Pcs,∃ X11:Pcs,∃ X14:Pcs,∃ X17:Pcs,∃ X20:Pcs,∃ X23:Pcs,∃ X26:Pcs,v_= .tuple #[.agg #[w1,w4,w7],.agg #[w10,w13,w16],.agg #[w19,w22,w25]]∧(OwnS 3 1 w1 (ics exB.hs) X2)∧(OwnS 3 1 w4 (ics exB.ws) X5)∧(OwnS 43 2 w7 (wcs exB.wy) X8)∧(OwnS 3 1 w10 (ics exC.hs) X11)∧(OwnS 3 1 w13 (ics exC.ws) X14)∧(OwnS 43 2 w16 (wcs exC.wy) X17)∧(OwnS 3 1 w19 (ics exD.hs) X20)∧(OwnS 3 1 w22 (ics exD.ws) X23)∧(OwnS 43 2 w25 (wcs exD.wy) X26)∧St h [] p h_ (([]:Pcs)++((X2++(X5++(X8++(X11++(X14++(X17++(X20++(X23++(X26++[])))))))))++[]))) (fun h_ H_=>(c63 md _).mono fun v_ h2_ ⟨w1,w4,w7,w10,w13,w16,w19,w22,w25,X2,X5,X8,X11,X14,X17,X20,X23,X26,e_,o3,o6,o9,o12,o15,o18,o21,o24,o27,N_⟩=>⟨w1,w4,w7,w10,w13,w16,w19,w22,w25,X2,X5,X8,X11,X14,X17,X20,X23,X26,e_,o3,o6,o9,o12,o15,o18,o21,o24,o27,H_.callNA N_⟩) fun v_=>?_
 refine xgw fun w1=>xgw fun w4=>xgw fun w7=>xgw fun w10=>xgw fun w13=>xgw fun w16=>xgw fun w19=>xgw fun w22=>xgw fun w25=>xgw fun X2=>xgw fun X5=>xgw fun X8=>xgw fun X11=>xgw fun X14=>xgw fun X17=>xgw fun X20=>xgw fun X23=>xgw fun X26=>xfq fun ev_=>xfq fun o3=>xfq fun o6=>xfq fun o9=>xfq fun o12=>xfq fun o15=>xfq fun o18=>xfq fun o21=>xfq fun o24=>xfq fun o27=>?_
 have ev_:=ev_.symm;subst ev_
 refine xcz (L':=([]:Pcs)++(X2++(X5++(X8++(X11++(X14++(X17++(X20++(X23++(X26++[])))))))))) (by simp) ?_
 refine ro (xaq (v:=.tuple #[.agg #[w1,w4,w7],.agg #[w10,w13,w16],.agg #[w19,w22,w25]]) rfl) <| rt (xej rfl (v:=.agg #[w1,w4,w7]) rfl) (tm':=zq1 (zq2 (zq16 _))) rfl <| ro (xej rfl (v:=.agg #[w10,w13,w16]) rfl) <| ro (xej rfl (v:=.agg #[w19,w22,w25]) rfl) ?_
 refine xkx mn tZ25 rfl fun b28=>xcz (L':=([(b28,.cells #[.slice none 0 0,.slice none 0 0,.slice none 0 0] 25 (0,0))]:Pcs)++(X2++(X5++(X8++(X11++(X14++(X17++(X20++(X23++(X26++[])))))))))) rfl ?_
 refine xgq (tm':=_::_::_) rfl ?_
 refine xkx mn tZ25 rfl fun b29=>xcz (L':=([(b29,.cells #[.slice none 0 0,.slice none 0 0,.slice none 0 0] 25 (0,0)),(b28,.cells #[.slice none 0 0,.slice none 0 0,.slice none 0 0] 25 (0,0))]:Pcs)++(X2++(X5++(X8++(X11++(X14++(X17++(X20++(X23++(X26++[])))))))))) rfl ?_
 refine xkx mn tZ25 rfl fun b30=>xcz (L':=([(b30,.cells #[.slice none 0 0,.slice none 0 0,.slice none 0 0] 25 (0,0)),(b29,.cells #[.slice none 0 0,.slice none 0 0,.slice none 0 0] 25 (0,0)),(b28,.cells #[.slice none 0 0,.slice none 0 0,.slice none 0 0] 25 (0,0))]:Pcs)++(X2++(X5++(X8++(X11++(X14++(X17++(X20++(X23++(X26++[])))))))))) rfl ?_
 refine xiz mn tS25 rfl (v:=.agg #[w1,w4,w7]) rfl (i:=2) rfl rfl (xgv o3.one.2 (xgv o6.one.2 (xgv o9.one.2 rfl))) (Nat.le_of_ble_eq_true rfl) (cs2:=[w1,w4,w7]) rfl (xcz (L':=([(b30,.cells #[.slice none 0 0,.slice none 0 0,.slice none 0 0] 25 (0,0)),(b29,.cells #[.slice none 0 0,.slice none 0 0,.slice none 0 0] 25 (0,0)),(b28,.cells #[w1,w4,w7] 25 (0,0))]:Pcs)++(X2++(X5++(X8++(X11++(X14++(X17++(X20++(X23++(X26++[])))))))))) rfl ?_)
 refine xiz mn tS25 rfl (v:=.agg #[w10,w13,w16]) rfl (i:=1) rfl rfl (xgv o12.one.2 (xgv o15.one.2 (xgv o18.one.2 rfl))) (Nat.le_of_ble_eq_true rfl) (cs2:=[w10,w13,w16]) rfl (xcz (L':=([(b30,.cells #[.slice none 0 0,.slice none 0 0,.slice none 0 0] 25 (0,0)),(b29,.cells #[w10,w13,w16] 25 (0,0)),(b28,.cells #[w1,w4,w7] 25 (0,0))]:Pcs)++(X2++(X5++(X8++(X11++(X14++(X17++(X20++(X23++(X26++[])))))))))) rfl ?_)
 refine xiz mn tS25 rfl (v:=.agg #[w19,w22,w25]) rfl (i:=0) rfl rfl (xgv o21.one.2 (xgv o24.one.2 (xgv o27.one.2 rfl))) (Nat.le_of_ble_eq_true rfl) (cs2:=[w19,w22,w25]) rfl (xcz (L':=([(b30,.cells #[w19,w22,w25] 25 (0,0)),(b29,.cells #[w10,w13,w16] 25 (0,0)),(b28,.cells #[w1,w4,w7] 25 (0,0))]:Pcs)++(X2++(X5++(X8++(X11++(X14++(X17++(X20++(X23++(X26++[])))))))))) rfl ?_)
 refine ren ?_
 refine xuz (A:=([(b30,.cells #[w19,w22,w25] 25 (0,0)),(b29,.cells #[w10,w13,w16] 25 (0,0)),(b28,.cells #[w1,w4,w7] 25 (0,0))]:Pcs)) o3 ((xdq _).trans rfl) (by decide) fun p31 a32 cp33 le34 ev_ D35 hcD35=>?_
 subst ev_
 refine xuz (A:=([(b30,.cells #[w19,w22,w25] 25 (0,0)),(b29,.cells #[w10,w13,w16] 25 (0,0)),(b28,.cells #[.slice a32 exB.nH cp33,w4,w7] 25 (0,0))]:Pcs)) o6 ((xdq _).trans rfl) (by decide) fun p36 a37 cp38 le39 ev_ D40 hcD40=>?_
 subst ev_
 refine xuz (A:=([(b30,.cells #[w19,w22,w25] 25 (0,0)),(b29,.cells #[w10,w13,w16] 25 (0,0)),(b28,.cells #[.slice a32 exB.nH cp33,.slice a37 exB.nW cp38,w7] 25 (0,0))]:Pcs)) o9 (show (wcs exB.wy).length=exB.m from rfl) (by decide) fun p41 a42 cp43 le44 ev_ D45 hcD45=>?_
 subst ev_
 refine xuz (A:=([(b30,.cells #[w19,w22,w25] 25 (0,0)),(b29,.cells #[w10,w13,w16] 25 (0,0)),(b28,.cells #[.slice a32 exB.nH cp33,.slice a37 exB.nW cp38,.slice a42 exB.m cp43] 25 (0,0))]:Pcs)) o12 ((xdq _).trans rfl) (by decide) fun p46 a47 cp48 le49 ev_ D50 hcD50=>?_
 subst ev_
 refine xuz (A:=([(b30,.cells #[w19,w22,w25] 25 (0,0)),(b29,.cells #[.slice a47 exC.nH cp48,w13,w16] 25 (0,0)),(b28,.cells #[.slice a32 exB.nH cp33,.slice a37 exB.nW cp38,.slice a42 exB.m cp43] 25 (0,0))]:Pcs)) o15 ((xdq _).trans rfl) (by decide) fun p51 a52 cp53 le54 ev_ D55 hcD55=>?_
 subst ev_
 refine xuz (A:=([(b30,.cells #[w19,w22,w25] 25 (0,0)),(b29,.cells #[.slice a47 exC.nH cp48,.slice a52 exC.nW cp53,w16] 25 (0,0)),(b28,.cells #[.slice a32 exB.nH cp33,.slice a37 exB.nW cp38,.slice a42 exB.m cp43] 25 (0,0))]:Pcs)) o18 (show (wcs exC.wy).length=exC.m from rfl) (by decide) fun p56 a57 cp58 le59 ev_ D60 hcD60=>?_
 subst ev_
 refine xuz (A:=([(b30,.cells #[w19,w22,w25] 25 (0,0)),(b29,.cells #[.slice a47 exC.nH cp48,.slice a52 exC.nW cp53,.slice a57 exC.m cp58] 25 (0,0)),(b28,.cells #[.slice a32 exB.nH cp33,.slice a37 exB.nW cp38,.slice a42 exB.m cp43] 25 (0,0))]:Pcs)) o21 ((xdq _).trans rfl) (by decide) fun p61 a62 cp63 le64 ev_ D65 hcD65=>?_
 subst ev_
 refine xuz (A:=([(b30,.cells #[.slice a62 exD.nH cp63,w22,w25] 25 (0,0)),(b29,.cells #[.slice a47 exC.nH cp48,.slice a52 exC.nW cp53,.slice a57 exC.m cp58] 25 (0,0)),(b28,.cells #[.slice a32 exB.nH cp33,.slice a37 exB.nW cp38,.slice a42 exB.m cp43] 25 (0,0))]:Pcs)) o24 ((xdq _).trans rfl) (by decide) fun p66 a67 cp68 le69 ev_ D70 hcD70=>?_
 subst ev_
 refine xuz (A:=([(b30,.cells #[.slice a62 exD.nH cp63,.slice a67 exD.nW cp68,w25] 25 (0,0)),(b29,.cells #[.slice a47 exC.nH cp48,.slice a52 exC.nW cp53,.slice a57 exC.m cp58] 25 (0,0)),(b28,.cells #[.slice a32 exB.nH cp33,.slice a37 exB.nW cp38,.slice a42 exB.m cp43] 25 (0,0))]:Pcs)) o27 (show (wcs exD.wy).length=exD.m from rfl) (by decide) fun p71 a72 cp73 le74 ev_ D75 hcD75=>?_
 subst ev_
 refine xkw (L':=[(b30,.cells #[.slice a62 exD.nH cp63,.slice a67 exD.nW cp68,.slice a72 exD.m cp73] 25 (0,0)),(b29,.cells #[.slice a47 exC.nH cp48,.slice a52 exC.nW cp53,.slice a57 exC.m cp58] 25 (0,0)),(b28,.cells #[.slice a32 exB.nH cp33,.slice a37 exB.nW cp38,.slice a42 exB.m cp43] 25 (0,0))]) rfl ?_
 refine xbq ?_
 refine xbz mn (fun h_ H_=>xav H_ tA25 tS25 rfl (i:=2) rfl (vs:=[.slice a32 exB.nH cp33,.slice a37 exB.nW cp38,.slice a42 exB.m cp43]) rfl rfl) (tm':=zq1 (zq2 (zq4 (zq16 _)))) rfl ?_
 refine xeq mn (first:=[]) (cap:=[]) rfl rfl fC28 (fun h_ H_=>c28 md _ _ H_.pe _ _ _ _ _ _ exB (show TownP _ _ _ _ _ _ _ exB from ⟨(((((((((show Ints _ _ _ exB.hs from D35).mono le39).mono le44).mono le49).mono le54).mono le59).mono le64).mono le69).mono le74),((((((((show Ints _ _ _ exB.ws from D40).mono le44).mono le49).mono le54).mono le59).mono le64).mono le69).mono le74),(((((((show Wys _ _ _ exB.wy from D45).mono le49).mono le54).mono le59).mono le64).mono le69).mono le74)⟩) (by omega) (((((((((N.mono le34).mono le39).mono le44).mono le49).mono le54).mono le59).mono le64).mono le69).mono le74)) rfl ?_
 refine ro (xaq (v:=.tuple #[.int .i64 (mostC exB),.int .i64 (chkB exB)]) rfl) <| rt (xej rfl (v:=.int .i64 (mostC exB)) rfl) (tm':=zq1 (zq8 (zq16 _))) rfl <| ro (xej rfl (v:=.int .i64 (chkB exB)) rfl) <| ro (xax (v:=.int .i64 (mostC exB)) rfl) <| rt (xax (v:=.int .i64 (chkB exB)) rfl) (tm':=zq2 (zq4 _)) rfl <| ren ?_
 refine xbq <| rd (fun h_ H_=>xav H_ tA25 tS25 rfl (i:=2) rfl (vs:=[.slice a32 exB.nH cp33,.slice a37 exB.nW cp38,.slice a42 exB.m cp43]) rfl rfl) ?_
 refine xcz (L':=([(b30,.cells #[.slice a62 exD.nH cp63,.slice a67 exD.nW cp68,.slice a72 exD.m cp73] 25 (0,0)),(b29,.cells #[.slice a47 exC.nH cp48,.slice a52 exC.nW cp53,.slice a57 exC.m cp58] 25 (0,0)),(b28,.cells #[.slice a32 exB.nH cp33,.slice a37 exB.nW cp38,.slice a42 exB.m cp43] 25 (0,0))]:Pcs)++[]) rfl ?_
 refine xjk mn (first:=[]) (cap:=[]) rfl rfl fC43 (R:=fun v_ h_=>∃ w76:Value,∃ X77:Pcs,v_= .tuple #[w76,.int .i64 (chkB exB)]∧(OwnS 3 1 w76 (ics (LKc exB)) X77)∧St h [] p71 h_ (([(b30,.cells #[.slice a62 exD.nH cp63,.slice a67 exD.nW cp68,.slice a72 exD.m cp73] 25 (0,0)),(b29,.cells #[.slice a47 exC.nH cp48,.slice a52 exC.nW cp53,.slice a57 exC.m cp58] 25 (0,0)),(b28,.cells #[.slice a32 exB.nH cp33,.slice a37 exB.nW cp38,.slice a42 exB.m cp43] 25 (0,0))]:Pcs)++(X77++[]))) (fun h_ H_=>(c43 md _ _ H_.pe _ _ _ _ _ _ exB (show TownP _ _ _ _ _ _ _ exB from ⟨(((((((((show Ints _ _ _ exB.hs from D35).mono le39).mono le44).mono le49).mono le54).mono le59).mono le64).mono le69).mono le74),((((((((show Ints _ _ _ exB.ws from D40).mono le44).mono le49).mono le54).mono le59).mono le64).mono le69).mono le74),(((((((show Wys _ _ _ exB.wy from D45).mono le49).mono le54).mono le59).mono le64).mono le69).mono le74)⟩) (by omega) (((((((((N.mono le34).mono le39).mono le44).mono le49).mono le54).mono le59).mono le64).mono le69).mono le74)).mono fun v_ h2_ ⟨w76,X77,e_,o78,N_⟩=>⟨w76,X77,e_,o78,H_.callNA N_⟩) fun v_=>?_
 refine xgw fun w76=>xgw fun X77=>xfq fun ev_=>xfq fun o78=>?_
 have ev_:=ev_.symm;subst ev_
 refine xcz (L':=([(b30,.cells #[.slice a62 exD.nH cp63,.slice a67 exD.nW cp68,.slice a72 exD.m cp73] 25 (0,0)),(b29,.cells #[.slice a47 exC.nH cp48,.slice a52 exC.nW cp53,.slice a57 exC.m cp58] 25 (0,0)),(b28,.cells #[.slice a32 exB.nH cp33,.slice a37 exB.nW cp38,.slice a42 exB.m cp43] 25 (0,0))]:Pcs)++(X77++[])) rfl ?_
 refine rt (xaq (v:=.tuple #[w76,.int .i64 (chkB exB)]) rfl) (tm':=zq1 (zq2 (zq8 (zq16 _)))) rfl <| ro (xej rfl (v:=w76) rfl) <| ro (xej rfl (v:=.int .i64 (chkB exB)) rfl) <| rt (xax (v:=w76) rfl) (tm':=zq1 (zq2 (zq4 _))) rfl <| ro (xax (v:=.int .i64 (chkB exB)) rfl) <| ren ?_
 refine xbq <| rd (fun h_ H_=>xav H_ tA25 tS25 rfl (i:=2) rfl (vs:=[.slice a32 exB.nH cp33,.slice a37 exB.nW cp38,.slice a42 exB.m cp43]) rfl rfl) ?_
 refine xeq mn (first:=[]) (cap:=[]) rfl rfl fC18 (fun h_ H_=>c18 md _ _ H_.pe _ _ _ _ _ _ exB (show TownP _ _ _ _ _ _ _ exB from ⟨(((((((((show Ints _ _ _ exB.hs from D35).mono le39).mono le44).mono le49).mono le54).mono le59).mono le64).mono le69).mono le74),((((((((show Ints _ _ _ exB.ws from D40).mono le44).mono le49).mono le54).mono le59).mono le64).mono le69).mono le74),(((((((show Wys _ _ _ exB.wy from D45).mono le49).mono le54).mono le59).mono le64).mono le69).mono le74)⟩) (by omega) (0) (((((((((N.mono le34).mono le39).mono le44).mono le49).mono le54).mono le59).mono le64).mono le69).mono le74)) (tm':=zq2 (zq32 _)) rfl ?_
 refine ro (xaq (v:=.tuple #[.agg #[.int .i64 (houseC exB (0) (-1)),.int .i64 (houseC exB (0) 1)],.int .i64 (askB exB (decide (0≤0∧0≤(exB.nH:Int)-1)))]) rfl) <| ro (xej rfl (v:=.agg #[.int .i64 (houseC exB (0) (-1)),.int .i64 (houseC exB (0) 1)]) rfl) <| rt (xej rfl (v:=.int .i64 (askB exB (decide (0≤0∧0≤(exB.nH:Int)-1)))) rfl) (tm':=zq4 (zq32 _)) rfl ?_
 refine xkx mn tZ30 rfl fun b79=>xcz (L':=([(b79,.cells #[.int .i64 0,.int .i64 0] 30 (0,0)),(b30,.cells #[.slice a62 exD.nH cp63,.slice a67 exD.nW cp68,.slice a72 exD.m cp73] 25 (0,0)),(b29,.cells #[.slice a47 exC.nH cp48,.slice a52 exC.nW cp53,.slice a57 exC.m cp58] 25 (0,0)),(b28,.cells #[.slice a32 exB.nH cp33,.slice a37 exB.nW cp38,.slice a42 exB.m cp43] 25 (0,0))]:Pcs)++(X77++[])) rfl ?_
 refine xiz mn tS30 rfl (v:=.agg #[.int .i64 (houseC exB (0) (-1)),.int .i64 (houseC exB (0) 1)]) rfl (i:=0) rfl rfl rfl (Nat.le_of_ble_eq_true rfl) (cs2:=[.int .i64 (houseC exB (0) (-1)),.int .i64 (houseC exB (0) 1)]) rfl (xcz (L':=([(b79,.cells #[.int .i64 (houseC exB (0) (-1)),.int .i64 (houseC exB (0) 1)] 30 (0,0)),(b30,.cells #[.slice a62 exD.nH cp63,.slice a67 exD.nW cp68,.slice a72 exD.m cp73] 25 (0,0)),(b29,.cells #[.slice a47 exC.nH cp48,.slice a52 exC.nW cp53,.slice a57 exC.m cp58] 25 (0,0)),(b28,.cells #[.slice a32 exB.nH cp33,.slice a37 exB.nW cp38,.slice a42 exB.m cp43] 25 (0,0))]:Pcs)++(X77++[])) rfl ?_)
 refine ro (xax (v:=.int .i64 (askB exB (decide (0≤0∧0≤(exB.nH:Int)-1)))) rfl) <| ren <| xbq ?_
 refine xbz mn (fun h_ H_=>xav H_ tA25 tS25 rfl (i:=2) rfl (vs:=[.slice a47 exC.nH cp48,.slice a52 exC.nW cp53,.slice a57 exC.m cp58]) rfl rfl) (tm':=zq2 (zq4 (zq32 _))) rfl ?_
 refine xjk mn (first:=[]) (cap:=[]) rfl rfl fC25 (R:=fun v_ h_=>∃ w80:Value,∃ X81:Pcs,v_= .tuple #[w80,.int .i64 (shortE exC)]∧(OwnS 3 1 w80 (ics (shortC exC)) X81)∧St h [] p71 h_ (([(b79,.cells #[.int .i64 (houseC exB (0) (-1)),.int .i64 (houseC exB (0) 1)] 30 (0,0)),(b30,.cells #[.slice a62 exD.nH cp63,.slice a67 exD.nW cp68,.slice a72 exD.m cp73] 25 (0,0)),(b29,.cells #[.slice a47 exC.nH cp48,.slice a52 exC.nW cp53,.slice a57 exC.m cp58] 25 (0,0)),(b28,.cells #[.slice a32 exB.nH cp33,.slice a37 exB.nW cp38,.slice a42 exB.m cp43] 25 (0,0))]:Pcs)++(X81++(X77++[])))) (fun h_ H_=>(c25 md _ _ H_.pe _ _ _ _ _ _ exC (show TownP _ _ _ _ _ _ _ exC from ⟨((((((show Ints _ _ _ exC.hs from D50).mono le54).mono le59).mono le64).mono le69).mono le74),(((((show Ints _ _ _ exC.ws from D55).mono le59).mono le64).mono le69).mono le74),((((show Wys _ _ _ exC.wy from D60).mono le64).mono le69).mono le74)⟩) (by omega) (((((((((Z.mono le34).mono le39).mono le44).mono le49).mono le54).mono le59).mono le64).mono le69).mono le74)).mono fun v_ h2_ ⟨w80,X81,e_,o82,N_⟩=>⟨w80,X81,e_,o82,H_.callNA N_⟩) fun v_=>?_
 refine xgw fun w80=>xgw fun X81=>xfq fun ev_=>xfq fun o82=>?_
 have ev_:=ev_.symm;subst ev_
 refine xcz (L':=([(b79,.cells #[.int .i64 (houseC exB (0) (-1)),.int .i64 (houseC exB (0) 1)] 30 (0,0)),(b30,.cells #[.slice a62 exD.nH cp63,.slice a67 exD.nW cp68,.slice a72 exD.m cp73] 25 (0,0)),(b29,.cells #[.slice a47 exC.nH cp48,.slice a52 exC.nW cp53,.slice a57 exC.m cp58] 25 (0,0)),(b28,.cells #[.slice a32 exB.nH cp33,.slice a37 exB.nW cp38,.slice a42 exB.m cp43] 25 (0,0))]:Pcs)++(X81++(X77++[]))) rfl ?_
 refine ro (xaq (v:=.tuple #[w80,.int .i64 (shortE exC)]) rfl) <| rt (xej rfl (v:=w80) rfl) (tm':=zq8 (zq32 _)) rfl <| ro (xej rfl (v:=.int .i64 (shortE exC)) rfl) <| ro (xax (v:=w80) rfl) <| rt (xax (v:=.int .i64 (shortE exC)) rfl) (tm':=zq4 (zq8 _)) rfl <| ren ?_
 refine xbq <| rd (fun h_ H_=>xav H_ tA25 tS25 rfl (i:=2) rfl (vs:=[.slice a47 exC.nH cp48,.slice a52 exC.nW cp53,.slice a57 exC.m cp58]) rfl rfl) ?_
 refine xeq mn (first:=[]) (cap:=[]) rfl rfl fC55 (fun h_ H_=>c55 md _ _ H_.pe _ _ _ _ _ _ exC (show TownP _ _ _ _ _ _ _ exC from ⟨((((((show Ints _ _ _ exC.hs from D50).mono le54).mono le59).mono le64).mono le69).mono le74),(((((show Ints _ _ _ exC.ws from D55).mono le59).mono le64).mono le69).mono le74),((((show Wys _ _ _ exC.wy from D60).mono le64).mono le69).mono le74)⟩) (by omega) (hcD60) (1) (0) (((((((((N.mono le34).mono le39).mono le44).mono le49).mono le54).mono le59).mono le64).mono le69).mono le74)) rfl ?_
 refine rt (xaq (v:=.tuple #[.bool (wayB exC (1) (0)),.int .i64 (wayE exC (1) (0))]) rfl) (tm':=zq2 (zq8 (zq32 _))) rfl <| ro (xej rfl (v:=.bool (wayB exC (1) (0))) rfl) <| ro (xej rfl (v:=.int .i64 (wayE exC (1) (0))) rfl) <| rt (xax (v:=.bool (wayB exC (1) (0))) rfl) (tm':=zq1 (zq4 (zq8 _))) rfl <| ro (xax (v:=.int .i64 (wayE exC (1) (0))) rfl) <| ren ?_
 refine xbq <| rd (fun h_ H_=>xav H_ tA25 tS25 rfl (i:=1) rfl (vs:=[.slice a62 exD.nH cp63,.slice a67 exD.nW cp68,.slice a72 exD.m cp73]) rfl rfl) ?_
 refine xeq mn (first:=[]) (cap:=[]) rfl rfl fC20 (fun h_ H_=>c20 md _ _ H_.pe _ _ _ _ _ _ exD (show TownP _ _ _ _ _ _ _ exD from ⟨(((show Ints _ _ _ exD.hs from D65).mono le69).mono le74),((show Ints _ _ _ exD.ws from D70).mono le74),(show Wys _ _ _ exD.wy from D75)⟩) (by omega) (0) (((((((((N.mono le34).mono le39).mono le44).mono le49).mono le54).mono le59).mono le64).mono le69).mono le74)) (tm':=zq1 (zq16 (zq32 _))) rfl ?_
 refine ro (xaq (v:=.tuple #[.int .i64 (dryC exD (0)),.int .i64 (askB exD (decide (0≤0∧0≤(exD.nW:Int)-1)))]) rfl) <| ro (xej rfl (v:=.int .i64 (dryC exD (0))) rfl) <| rt (xej rfl (v:=.int .i64 (askB exD (decide (0≤0∧0≤(exD.nW:Int)-1)))) rfl) (tm':=zq1 (zq2 (zq16 (zq32 _)))) rfl <| ro (xax (v:=.int .i64 (dryC exD (0))) rfl) <| ro (xax (v:=.int .i64 (askB exD (decide (0≤0∧0≤(exD.nW:Int)-1)))) rfl) <| ren ?_
 refine xbq <| rt (xaq (v:=.int .i64 (chkB exB)) rfl) (tm':=zq4 (zq16 (zq32 _))) rfl <| ro (xkz rfl rfl) <| ro (xaq (v:=.bool (decide (chkB exB=0))) rfl) ?_
 refine xbz (ms rfl rfl (decide_eq_true ygz)) (fun h_ H_=>xaq (v:=.int .i64 (chkB exB)) rfl) (tm':=zq1 (zq2 (zq4 (zq16 (zq32 _))))) rfl ?_
 refine xbz (ms rfl rfl (decide_eq_true ygz)) (fun h_ H_=>xkz rfl rfl) rfl ?_
 refine ro (xdv rfl (decide_eq_true ygz) (v:=.bool (decide (chkB exB=0))) rfl) <| rt (xaq (v:=.bool (decide (chkB exB=0))) rfl) (tm':=zq2 (zq8 (zq16 (zq32 _)))) rfl ?_
 refine xbz (ms rfl rfl (decide_eq_true ygz)) (fun h_ H_=>xaq (v:=.int .i64 (askB exB (decide (0≤0∧0≤(exB.nH:Int)-1)))) rfl) rfl ?_
 refine xbz (ms rfl rfl (decide_eq_true ygz)) (fun h_ H_=>xkz rfl rfl) rfl ?_
 refine rt (xdv rfl (decide_eq_true ygz) (v:=.bool (decide (askB exB (decide (0≤0∧0≤(exB.nH:Int)-1))=0))) rfl) (tm':=zq1 (zq4 (zq8 (zq16 (zq32 _))))) rfl <| ro (xaq (v:=.bool (decide (askB exB (decide (0≤0∧0≤(exB.nH:Int)-1))=0))) rfl) ?_
 refine xbz (ms rfl rfl (decide_eq_true askB_)) (fun h_ H_=>xaq (v:=.int .i64 (shortE exC)) rfl) rfl ?_
 refine xbz (ms rfl rfl (decide_eq_true askB_)) (fun h_ H_=>xkz rfl rfl) (tm':=zq32 (zq32 _)) rfl ?_
 refine ro (xdv rfl (decide_eq_true askB_) (v:=.bool (decide (shortE exC=0))) rfl) <| ro (xaq (v:=.bool (decide (shortE exC=0))) rfl) ?_
 refine xbz (ms rfl rfl (decide_eq_true shoE_)) (fun h_ H_=>xaq (v:=.int .i64 (wayE exC (1) (0))) rfl) (tm':=zq1 (zq2 (zq32 (zq32 (zq32 []))))) rfl ?_
 refine xbz (ms rfl rfl (decide_eq_true shoE_)) (fun h_ H_=>xkz rfl rfl) rfl ?_
 refine ro (xdv rfl (decide_eq_true shoE_) (v:=.bool (decide (wayE exC (1) (0)=0))) rfl) <| rt (xaq (v:=.bool (decide (wayE exC (1) (0)=0))) rfl) (tm':=zq1 (zq2 (zq32 (zq32 (zq32 []))))) rfl ?_
 refine xbz (ms rfl rfl (decide_eq_true wayE_)) (fun h_ H_=>xaq (v:=.int .i64 (askB exD (decide (0≤0∧0≤(exD.nW:Int)-1)))) rfl) rfl ?_
 refine xbz (ms rfl rfl (decide_eq_true wayE_)) (fun h_ H_=>xkz rfl rfl) rfl ?_
 refine rt (xdv rfl (decide_eq_true wayE_) (v:=.bool (decide (askB exD (decide (0≤0∧0≤(exD.nW:Int)-1))=0))) rfl) (tm':=zq1 (zq2 (zq32 (zq32 (zq32 []))))) rfl <| ro (xaq (v:=.bool (decide (askB exD (decide (0≤0∧0≤(exD.nW:Int)-1))=0))) rfl) ?_
 refine xbz (ms rfl rfl (decide_eq_true askD_)) (fun h_ H_=>xaq (v:=.int .i64 (mostC exB)) rfl) rfl ?_
 refine xbz (ms rfl rfl (decide_eq_true askD_)) (fun h_ H_=>xkz rfl rfl) (tm':=zq1 (zq2 (zq32 (zq32 (zq32 []))))) rfl ?_
 refine ro (xdv rfl (decide_eq_true askD_) (v:=.bool (decide (mostC exB=7))) rfl) <| ro (xaq (v:=.bool (decide (mostC exB=7))) rfl) ?_
 refine xbz (ms rfl rfl (decide_eq_true mostB_)) (fun h_ H_=>xaq (v:=w76) rfl) (tm':=zq1 (zq2 (zq32 (zq32 (zq32 []))))) rfl ?_
 refine xlv ([(b79,.cells #[.int .i64 (houseC exB (0) (-1)),.int .i64 (houseC exB (0) 1)] 30 (0,0)),(b30,.cells #[.slice a62 exD.nH cp63,.slice a67 exD.nW cp68,.slice a72 exD.m cp73] 25 (0,0)),(b29,.cells #[.slice a47 exC.nH cp48,.slice a52 exC.nW cp53,.slice a57 exC.m cp58] 25 (0,0)),(b28,.cells #[.slice a32 exB.nH cp33,.slice a37 exB.nW cp38,.slice a42 exB.m cp43] 25 (0,0))]:Pcs) (ms rfl rfl (decide_eq_true mostB_)) Tryd.underlying22 tS3 tZ3 (Nat.le_of_ble_eq_true rfl) (vs:=[(0,.int .i64 2),(1,.int .i64 2),(2,.int .i64 1)]) rfl rfl (es:=[[.int .i64 2],[.int .i64 2],[.int .i64 1]]) rfl rfl rfl fun v83 X84 o85=>?_
 refine xpv (List.Perm.append_left _ (List.Perm.append_left _ (List.perm_append_comm_assoc _ _ _))) ?_
 refine xpv (List.Perm.append_left _ (List.perm_append_comm_assoc _ _ _)) ?_
 refine xcz (L':=([(b79,.cells #[.int .i64 (houseC exB (0) (-1)),.int .i64 (houseC exB (0) 1)] 30 (0,0)),(b30,.cells #[.slice a62 exD.nH cp63,.slice a67 exD.nW cp68,.slice a72 exD.m cp73] 25 (0,0)),(b29,.cells #[.slice a47 exC.nH cp48,.slice a52 exC.nW cp53,.slice a57 exC.m cp58] 25 (0,0)),(b28,.cells #[.slice a32 exB.nH cp33,.slice a37 exB.nW cp38,.slice a42 exB.m cp43] 25 (0,0))]:Pcs)++(X77++(X84++(X81++[])))) rfl ?_
 refine xwq (A:=([(b79,.cells #[.int .i64 (houseC exB (0) (-1)),.int .i64 (houseC exB (0) 1)] 30 (0,0)),(b30,.cells #[.slice a62 exD.nH cp63,.slice a67 exD.nW cp68,.slice a72 exD.m cp73] 25 (0,0)),(b29,.cells #[.slice a47 exC.nH cp48,.slice a52 exC.nW cp53,.slice a57 exC.m cp58] 25 (0,0)),(b28,.cells #[.slice a32 exB.nH cp33,.slice a37 exB.nW cp38,.slice a42 exB.m cp43] 25 (0,0))]:Pcs)) o78 ((xdq _).trans rfl) fun p86 a87 cp88 le89 ev_ D90=>?_
 subst ev_
 refine xwq (A:=([(b79,.cells #[.int .i64 (houseC exB (0) (-1)),.int .i64 (houseC exB (0) 1)] 30 (0,0)),(b30,.cells #[.slice a62 exD.nH cp63,.slice a67 exD.nW cp68,.slice a72 exD.m cp73] 25 (0,0)),(b29,.cells #[.slice a47 exC.nH cp48,.slice a52 exC.nW cp53,.slice a57 exC.m cp58] 25 (0,0)),(b28,.cells #[.slice a32 exB.nH cp33,.slice a37 exB.nW cp38,.slice a42 exB.m cp43] 25 (0,0))]:Pcs)) o85 (show _=3 from rfl) fun p91 a92 cp93 le94 ev_ D95=>?_
 subst ev_
 refine xeq (ms rfl rfl (decide_eq_true mostB_)) (first:=[]) (cap:=[]) rfl rfl fC27 (fun h_ H_=>c27 md _ _ H_.pe _ _ _ _ _ _ _ _ ((show Ints _ _ _ (LKc exB) from D90).mono le94) (show Ints _ _ _ [2,2,1] from D95) (by omega)) rfl ?_
 refine rt (xdv rfl (decide_eq_true mostB_) (v:=.bool (decide ((LKc exB)=[2,2,1]))) rfl) (tm':=zq1 (zq2 (zq32 (zq32 (zq32 []))))) rfl <| ro (xaq (v:=.bool (decide ((LKc exB)=[2,2,1]))) rfl) ?_
 refine xbz (ms rfl rfl (decide_eq_true lkB_)) (fun h_ H_=>xav H_ tA30 tS30 rfl (i:=0) rfl (vs:=[.int .i64 (houseC exB (0) (-1)),.int .i64 (houseC exB (0) 1)]) rfl rfl) rfl ?_
 refine xbz (ms rfl rfl (decide_eq_true lkB_)) (fun h_ H_=>xhx tZ30 tP30 (vs:=[(0,.int .i64 3),(1,.int .i64 4)]) rfl (cells:=#[.int .i64 3,.int .i64 4]) rfl) (tm':=zq1 (zq2 (zq32 (zq32 (zq32 []))))) rfl ?_
 refine xbz (ms rfl rfl (decide_eq_true lkB_)) (fun h_ H_=>yqk gT30 (wmw 9998 _ _ _ _) rfl rfl) rfl ?_
 refine ro (xdv rfl (decide_eq_true lkB_) (v:=.bool (decide (houseC exB (0) (-1)=3∧houseC exB (0) 1=4))) rfl) <| rt (xaq (v:=.bool (decide (houseC exB (0) (-1)=3∧houseC exB (0) 1=4))) rfl) (tm':=zq1 (zq2 (zq32 (zq32 (zq32 []))))) rfl ?_
 refine xbz (ms rfl rfl (decide_eq_true ⟨houB1_,houB2_⟩)) (fun h_ H_=>xaq (v:=w80) rfl) rfl ?_
 refine xlv ([(b79,.cells #[.int .i64 (houseC exB (0) (-1)),.int .i64 (houseC exB (0) 1)] 30 (0,0)),(b30,.cells #[.slice a62 exD.nH cp63,.slice a67 exD.nW cp68,.slice a72 exD.m cp73] 25 (0,0)),(b29,.cells #[.slice a47 exC.nH cp48,.slice a52 exC.nW cp53,.slice a57 exC.m cp58] 25 (0,0)),(b28,.cells #[.slice a32 exB.nH cp33,.slice a37 exB.nW cp38,.slice a42 exB.m cp43] 25 (0,0))]:Pcs) (ms rfl rfl (decide_eq_true ⟨houB1_,houB2_⟩)) Tryd.underlying22 tS3 tZ3 (Nat.le_of_ble_eq_true rfl) (vs:=[(0,.int .i64 1)]) rfl rfl (es:=[[.int .i64 1]]) rfl rfl rfl fun v96 X97 o98=>?_
 refine xpv (List.Perm.append_left _ (List.perm_append_comm_assoc _ _ _)) ?_
 refine xcz (L':=([(b79,.cells #[.int .i64 (houseC exB (0) (-1)),.int .i64 (houseC exB (0) 1)] 30 (0,0)),(b30,.cells #[.slice a62 exD.nH cp63,.slice a67 exD.nW cp68,.slice a72 exD.m cp73] 25 (0,0)),(b29,.cells #[.slice a47 exC.nH cp48,.slice a52 exC.nW cp53,.slice a57 exC.m cp58] 25 (0,0)),(b28,.cells #[.slice a32 exB.nH cp33,.slice a37 exB.nW cp38,.slice a42 exB.m cp43] 25 (0,0))]:Pcs)++(X81++(X97++[]))) rfl ?_
 refine xwq (A:=([(b79,.cells #[.int .i64 (houseC exB (0) (-1)),.int .i64 (houseC exB (0) 1)] 30 (0,0)),(b30,.cells #[.slice a62 exD.nH cp63,.slice a67 exD.nW cp68,.slice a72 exD.m cp73] 25 (0,0)),(b29,.cells #[.slice a47 exC.nH cp48,.slice a52 exC.nW cp53,.slice a57 exC.m cp58] 25 (0,0)),(b28,.cells #[.slice a32 exB.nH cp33,.slice a37 exB.nW cp38,.slice a42 exB.m cp43] 25 (0,0))]:Pcs)) o82 ((xdq _).trans rfl) fun p99 a100 cp101 le102 ev_ D103=>?_
 subst ev_
 refine xwq (A:=([(b79,.cells #[.int .i64 (houseC exB (0) (-1)),.int .i64 (houseC exB (0) 1)] 30 (0,0)),(b30,.cells #[.slice a62 exD.nH cp63,.slice a67 exD.nW cp68,.slice a72 exD.m cp73] 25 (0,0)),(b29,.cells #[.slice a47 exC.nH cp48,.slice a52 exC.nW cp53,.slice a57 exC.m cp58] 25 (0,0)),(b28,.cells #[.slice a32 exB.nH cp33,.slice a37 exB.nW cp38,.slice a42 exB.m cp43] 25 (0,0))]:Pcs)) o98 (show _=1 from rfl) fun p104 a105 cp106 le107 ev_ D108=>?_
 subst ev_
 refine xcz (L':=[(b79,.cells #[.int .i64 (houseC exB (0) (-1)),.int .i64 (houseC exB (0) 1)] 30 (0,0)),(b30,.cells #[.slice a62 exD.nH cp63,.slice a67 exD.nW cp68,.slice a72 exD.m cp73] 25 (0,0)),(b29,.cells #[.slice a47 exC.nH cp48,.slice a52 exC.nW cp53,.slice a57 exC.m cp58] 25 (0,0)),(b28,.cells #[.slice a32 exB.nH cp33,.slice a37 exB.nW cp38,.slice a42 exB.m cp43] 25 (0,0))]) rfl ?_
 refine xeq (ms rfl rfl (decide_eq_true ⟨houB1_,houB2_⟩)) (first:=[]) (cap:=[]) rfl rfl fC27 (fun h_ H_=>c27 md _ _ H_.pe _ _ _ _ _ _ _ _ ((show Ints _ _ _ (shortC exC) from D103).mono le107) (show Ints _ _ _ [1] from D108) (by omega)) (tm':=zq1 (zq2 (zq32 (zq32 (zq32 []))))) rfl ?_
 refine ro (xdv rfl (decide_eq_true ⟨houB1_,houB2_⟩) (v:=.bool (decide ((shortC exC)=[1]))) rfl) <| ro (xaq (v:=.bool (decide ((shortC exC)=[1]))) rfl) ?_
 refine xbz (ms rfl rfl (decide_eq_true shoC_)) (fun h_ H_=>xaq (v:=.bool (wayB exC (1) (0))) rfl) (tm':=zq1 (zq2 (zq32 (zq32 (zq32 []))))) rfl ?_
 refine ro (xdv rfl (decide_eq_true shoC_) (v:=.bool (wayB exC (1) (0))) rfl) <| ro (xaq (v:=.bool (wayB exC (1) (0))) rfl) ?_
 refine xbz (ms rfl rfl wayB__) (fun h_ H_=>xaq (v:=.int .i64 (dryC exD (0))) rfl) (tm':=zq1 (zq2 (zq32 (zq32 (zq32 []))))) rfl ?_
 refine xbz (ms rfl rfl wayB__) (fun h_ H_=>xkz rfl rfl) rfl ?_
 refine ro (xdv rfl wayB__ (v:=.bool (decide (dryC exD (0)=3))) rfl) <| rt (xax (v:=.bool (decide (dryC exD (0)=3))) rfl) (tm':=_::_) rfl <| xak ?_
 refine xdz Tryd.func16 rfl (vs:=[.bool (decide (dryC exD (0)=3))]) (fun h_ H_=>⟨.bool (decide (dryC exD (0)=3)),_,rfl,rfl,rfl⟩) (v:=.bool (decide (dryC exD (0)=3))) rfl ?_
 exact fun h_ H_=>K _ _ ⟨congrArg Value.bool (decide_eq_true dryD_),H_.kept⟩
end Go.Proofs.YtalfgojocdonhaaDoor
namespace Go.Proofs.YtalfgojocdonhaaDoor
open Go.X Go.X.Flow Go.Conc
set_option maxRecDepth 10000
set_option synthInstance.maxSize 2000

set_option maxHeartbeats 2000000
theorem cb46 (md:Md) (h:Heap) (p:PHeap) (hp:Per p h) (a1 a2 a3:Option Addr) (c1 c2 c3:Nat) (t:Tn) (_T:TownP p a1 t.nH a2 t.nW a3 t.m t) (hl:t.nH≤9223372036854775807∧t.nW≤9223372036854775807∧t.m≤9223372036854775807):CallsX Tryd.prog md 46 #[.agg #[.slice a1 t.nH c1,.slice a2 t.nW c2,.slice a3 t.m c3]] h fun v h'=>v= .bool (decide (Big t))∧Keep h h':=by
 refine xcq (Φ:=fun h_=>St h [] p h_ []) Tryd.func46 rfl (tm:=zq1 (zq2 (zq16 []))) rfl ?_ (St.start h _ hp)
 intro c₀ cs Stop K
 refine fsr ?_
 refine xix mn (v:=.agg #[.slice a1 t.nH c1,.slice a2 t.nW c2,.slice a3 t.m c3]) rfl fun b1=>xcz (L':=[(b1,.cells #[.slice a1 t.nH c1,.slice a2 t.nW c2,.slice a3 t.m c3] 25 (0,0))]) rfl ?_
 refine ro (xax (v:=.bool (false)) rfl) <| ren <| xbq <| rt (xaz xoq rfl (a':=⟨b1,0,none⟩) rfl) (tm':=zq4 _) rfl <| rd (fun h_ H_=>xaj H_ tA22 rfl (i:=0) rfl (v:=.slice a1 t.nH c1) rfl) <| ro (xfx Tryd.underlying22 rfl) ?_
 refine rt (xkv rfl rfl) (tm':=zq1 (zq2 (zq4 _))) rfl <| ro (xaq (v:=.bool (decide (40<((t.nH:Nat):Int)))) rfl) ?_
 by_cases cc2:40<((t.nH:Nat):Int)
 ·
  refine rp (mo rfl rfl (dtt cc2)) <| xfj (mo rfl rfl (dtt cc2)) (tm':=zq2 (zq8 _)) rfl <| rp (mo rfl rfl (dtt cc2)) <| rp (mo rfl rfl (dtt cc2)) <| rt (xdv rfl (dtt cc2) (v:=.bool (true)) rfl) (tm':=zq1 (zq2 (zq16 []))) rfl <| ro (xaq (v:=.bool (true)) rfl) ?_
  refine rp (mo rfl rfl rfl) <| xfj (mo rfl rfl rfl) (tm':=zq1 (zq2 (zq16 []))) rfl <| rp (mo rfl rfl rfl) <| rp (mo rfl rfl rfl) <| rt (xdv rfl rfl (v:=.bool (true)) rfl) (tm':=zq1 (zq2 (zq16 []))) rfl <| ro (xax (v:=.bool (true)) rfl) ?_
  refine xak ?_
  refine xdz Tryd.func46 rfl (vs:=[.bool (true)]) (fun h_ H_=>⟨.bool (true),_,rfl,rfl,rfl⟩) (v:=.bool (true)) rfl ?_
  exact fun h_ H_=>K _ _ ⟨by congr 1;rw [Bool.eq_iff_iff,decide_eq_true_eq];first | (simp;omega) | (simp [*];done) | (simp [*];omega),H_.kept⟩
 ·
  refine xbz (ms rfl rfl (dff cc2)) (fun h_ H_=>xaz xqk rfl (a':=⟨b1,1,none⟩) rfl) rfl ?_
  refine xbz (ms rfl rfl (dff cc2)) (fun h_ H_=>xaj H_ tA22 rfl (i:=0) rfl (v:=.slice a2 t.nW c2) rfl) (tm':=zq2 (zq8 _)) rfl ?_
  refine xbz (ms rfl rfl (dff cc2)) (fun h_ H_=>xfx Tryd.underlying22 rfl) rfl ?_
  refine xbz (ms rfl rfl (dff cc2)) (fun h_ H_=>xkv rfl rfl) rfl ?_
  refine rt (xez rfl (dff cc2) (v:=.bool (decide (40<((t.nW:Nat):Int)))) rfl) (tm':=zq1 (zq2 (zq16 []))) rfl <| ro (xaq (v:=.bool (decide (40<((t.nW:Nat):Int)))) rfl) ?_
  by_cases cc3:40<((t.nW:Nat):Int)
  ·
   refine rp (mo rfl rfl (dtt cc3)) <| xfj (mo rfl rfl (dtt cc3)) (tm':=zq1 (zq2 (zq16 []))) rfl <| rp (mo rfl rfl (dtt cc3)) <| rp (mo rfl rfl (dtt cc3)) <| rt (xdv rfl (dtt cc3) (v:=.bool (true)) rfl) (tm':=zq1 (zq2 (zq16 []))) rfl <| ro (xax (v:=.bool (true)) rfl) ?_
   refine xak ?_
   refine xdz Tryd.func46 rfl (vs:=[.bool (true)]) (fun h_ H_=>⟨.bool (true),_,rfl,rfl,rfl⟩) (v:=.bool (true)) rfl ?_
   exact fun h_ H_=>K _ _ ⟨by congr 1;rw [Bool.eq_iff_iff,decide_eq_true_eq];first | (simp;omega) | (simp [*];done) | (simp [*];omega),H_.kept⟩
  ·
   refine xbz (ms rfl rfl (dff cc3)) (fun h_ H_=>xaz xkq rfl (a':=⟨b1,2,none⟩) rfl) rfl ?_
   refine xbz (ms rfl rfl (dff cc3)) (fun h_ H_=>xaj H_ tA23 rfl (i:=0) rfl (v:=.slice a3 t.m c3) rfl) (tm':=zq1 (zq2 (zq16 []))) rfl ?_
   refine xbz (ms rfl rfl (dff cc3)) (fun h_ H_=>xfx Tryd.underlying23 rfl) rfl ?_
   refine xbz (ms rfl rfl (dff cc3)) (fun h_ H_=>xkv rfl rfl) rfl ?_
   refine rt (xez rfl (dff cc3) (v:=.bool (decide (40<((t.m:Nat):Int)))) rfl) (tm':=zq1 (zq2 (zq16 []))) rfl <| ro (xax (v:=.bool (decide (40<((t.m:Nat):Int)))) rfl) <| xak ?_
   refine xdz Tryd.func46 rfl (vs:=[.bool (decide (40<((t.m:Nat):Int)))]) (fun h_ H_=>⟨.bool (decide (40<((t.m:Nat):Int))),_,rfl,rfl,rfl⟩) (v:=.bool (decide (40<((t.m:Nat):Int)))) rfl ?_
   exact fun h_ H_=>K _ _ ⟨by congr 1;rw [Bool.eq_iff_iff,decide_eq_true_eq];first | (simp;omega) | (simp [*];done) | (simp [*];omega),H_.kept⟩
theorem c15 (md:Md) (h:Heap) (p:PHeap) (hp:Per p h) (a1 a2 a3:Option Addr) (c1 c2 c3:Nat) (t:Tn) (T:TownP p a1 t.nH a2 t.nW a3 t.m t) (hl:t.nH≤9223372036854775807∧t.nW≤9223372036854775807∧t.m≤9223372036854775807):CallsX Tryd.prog md 15 #[.agg #[.slice a1 t.nH c1,.slice a2 t.nW c2,.slice a3 t.m c3]] h fun v h'=>v= .bool (farB t)∧Keep h h':=by
 refine xcq (Φ:=fun h_=>St h [] p h_ []) Tryd.func15 rfl (tm:=zq1 (zq2 (zq8 (zq32 [])))) rfl ?_ (St.start h _ hp)
 intro c₀ cs Stop K
 refine fsr ?_
 refine xix mn (v:=.agg #[.slice a1 t.nH c1,.slice a2 t.nW c2,.slice a3 t.m c3]) rfl fun b1=>xcz (L':=[(b1,.cells #[.slice a1 t.nH c1,.slice a2 t.nW c2,.slice a3 t.m c3] 25 (0,0))]) rfl ?_
 refine rt (xax (v:=.bool (false)) rfl) (tm':=_::_::_::_) rfl <| ren <| fsr <| rd (fun h_ H_=>xav H_ tA25 tS25 rfl (i:=0) rfl (vs:=[.slice a1 t.nH c1,.slice a2 t.nW c2,.slice a3 t.m c3]) rfl rfl) ?_
 refine xeq mn (first:=[]) (cap:=[]) rfl rfl fC46 (fun h_ H_=>cb46 md _ _ H_.pe _ _ _ _ _ _ t (show TownP _ _ _ _ _ _ _ t from ⟨T.h,T.w,T.y⟩) hl) rfl ?_
 refine xak ?_
 by_cases cc2:Big t
 ·
  refine xcw rfl (dtt cc2) <| fsr <| rt (xax (v:=.bool (true)) rfl) (tm':=_::_::_::_) rfl <| xak ?_
  refine xdz Tryd.func15 rfl (vs:=[.bool (true)]) (fun h_ H_=>⟨.bool (true),_,rfl,rfl,rfl⟩) (v:=.bool (true)) rfl ?_
  exact fun h_ H_=>K _ _ ⟨by rw [zox ‹_›],H_.kept⟩
 ·
  refine xck rfl (dff cc2) <| xcv <| xek <| xek ?_
  have hn:t.nH≤40∧t.nW≤40∧t.m≤41:=by have z_:=‹¬ Big t›;unfold Big at z_;omega
  refine xbq <| rd (fun h_ H_=>xav H_ tA25 tS25 rfl (i:=0) rfl (vs:=[.slice a1 t.nH c1,.slice a2 t.nW c2,.slice a3 t.m c3]) rfl rfl) ?_
  refine xeq mn (first:=[]) (cap:=[]) rfl rfl fC48 (fun h_ H_=>c48 md _ _ H_.pe _ _ _ _ _ _ _ _ _ t (show TownP _ _ _ _ _ _ _ t from ⟨T.h,T.w,T.y⟩) (by omega)) rfl ?_
  refine rt (xjv rfl rfl) (tm':=zq2 (zq8 _)) rfl <| xak ?_
  by_cases cc3:chkB t≠0
  ·
   refine xcw rfl (dtt cc3) <| fsr <| ro (xax (v:=.bool (false)) rfl) <| xak ?_
   refine xdz Tryd.func15 rfl (vs:=[.bool (false)]) (fun h_ H_=>⟨.bool (false),_,rfl,rfl,rfl⟩) (v:=.bool (false)) rfl ?_
   exact fun h_ H_=>K _ _ ⟨by rw [wjx ‹_› ‹_›],H_.kept⟩
  ·
   refine xck rfl (dff cc3) <| xcv <| xek ?_
   have hc_:chkB t=0:=by omega
   have hO:OkT t:=xuq hc_
   have oM_:=hO.nm
   refine xbq <| ro (xax (v:=.int .i64 1) rfl) <| ren <| fsr <| rt (xax (v:=.int .i64 0) rfl) (tm':=zq1 (zq4 _)) rfl <| xak ?_
   refine xex ?_
   refine xiq (m₀:=t.m-0) (fun m_ tm_ h_=>∃ (k:Nat) (s:Int),m_=t.m-k∧(∃ y4:Nat→Value,tm_=[.agg #[.slice a1 t.nH c1,.slice a2 t.nW c2,.slice a3 t.m c3],.pointer (some ⟨b1,0,none⟩),(y4 2),.int .i64 (s),.int .i64 (((k:Nat):Int)),.agg #[.slice a1 t.nH c1,.slice a2 t.nW c2,.slice a3 t.m c3],.bool (decide (Big t)),.agg #[.slice a1 t.nH c1,.slice a2 t.nW c2,.slice a3 t.m c3],.int .i64 (chkB t),.bool (decide (chkB t≠0)),(y4 10),(y4 11),(y4 12),(y4 13),(y4 14),(y4 15),(y4 16),(y4 17),(y4 18),(y4 19),(y4 20),(y4 21),(y4 22),(y4 23),(y4 24),(y4 25),(y4 26),(y4 27),(y4 28),(y4 29),(y4 30),(y4 31),(y4 32),(y4 33),(y4 34),(y4 35),(y4 36),(y4 37),(y4 38),(y4 39),(y4 40),(y4 41),(y4 42)])∧(k≤t.m)∧(s=prodK t k)∧(s≤2000)∧St h [] p h_ ([(b1,.cells #[.slice a1 t.nH c1,.slice a2 t.nW c2,.slice a3 t.m c3] 25 (0,0))])) (fun h_ H_=>⟨0,1,rfl,(y_of rfl),Nat.zero_le _,rfl,(by decide),H_⟩) ?_
   intro m_ tm_ IH5
   refine xhk fun k=>xhk fun s=>xcj fun hm_=>xcj fun ht_=>xcj fun hk=>xcj fun hs=>xcj fun h2=>?_
   subst hm_;obtain ⟨y4,ht_⟩:=ht_;subst ht_
   have hy_:=fun z_:k<t.m=>hO.y k z_
   have hp_:1≤s:=by rw [hs];exact yow hO.toOk k hk
   refine xek <| fsr <| ro (xaq (v:=.int .i64 (((k:Nat):Int))) rfl) <| ro (xaz xkq rfl (a':=⟨b1,2,none⟩) rfl) ?_
   refine xbz mn (fun h_ H_=>xaj H_ tA23 rfl (i:=0) rfl (v:=.slice a3 t.m c3) rfl) (tm':=zq1 (zq4 (zq8 _))) rfl ?_
   refine ro (xfx Tryd.underlying23 rfl) <| ro (xgj rfl rfl) <| xak ?_
   by_cases cc6:((k:Nat):Int)<((t.m:Nat):Int)
   ·
    refine xcw rfl (dtt cc6) <| xcv <| xek <| xex <| xek ?_
    refine xgz 23 [[],[],[1],[],[3],[],[3,4,5],[3,4,5,6],[3,4,5,6,7],[1,2,3,4,5,6,7,8],[1,2,3,4,5,6,7,8,9],[],[11],[],[13],[],[13,14,15],[13,14,15,16],[13,14,15,16,17],[11,12,13,14,15,16,17,18],[11,12,13,14,15,16,17,18,19],[1,2,3,4,5,6,7,8,9,10,11,12,13,14,15,16,17,18,19,20],[1,2,3,4,5,6,7,8,9,10,11,12,13,14,15,16,17,18,19,20,21],[],[]] xlq (by kernel_rfl) (Nat.le_of_ble_eq_true rfl) ?_
    refine wt (xaq (v:=.int .i64 (s)) rfl) (tm':=zq2 (zq16 _)) rfl <| wo (xaz xoq rfl (a':=⟨b1,0,none⟩) rfl) ?_
    refine xbv mn (fun h_ H_=>xaj H_ tA22 rfl (i:=0) rfl (v:=.slice a1 t.nH c1) rfl) (tm':=zq4 (zq16 _)) rfl ?_
    refine wo (xaz xkq rfl (a':=⟨b1,2,none⟩) rfl) ?_
    refine xbv mn (fun h_ H_=>xaj H_ tA23 rfl (i:=0) rfl (v:=.slice a3 t.m c3) rfl) (tm':=zq2 (zq4 (zq16 _))) rfl ?_
    refine wo (xaq (v:=.int .i64 (((k:Nat):Int))) rfl) ?_
    refine wt (xbw (i:=k) Tryd.underlying23 tS43 (xjz a3 t.m c3 (T.y.ne (by omega))) rfl (by omega)) (tm':=zq8 (zq16 _)) rfl ?_
    refine wo (xaz xov rfl (a':=(adr a3).add (k*2)) rfl) ?_
    refine xbv mn (fun h_ H_=>xbj H_ tA3 rfl (v:=.int .i64 (((t.wh k:Nat):Int))) (T.y.hoN (by omega) (hO.yp _ (by omega)).1)) (tm':=zq2 (zq8 (zq16 _))) rfl ?_
    refine wo (xbw (i:=(t.wh k)) Tryd.underlying22 tS3 (xjz a1 t.nH c1 (T.h.ne (by omega))) rfl (by omega)) ?_
    refine xbv mn (fun h_ H_=>xbj H_ tA3 rfl (v:=.int .i64 (t.hv (t.wh k))) (T.h.get (by omega))) (tm':=zq4 (zq8 (zq16 _))) rfl ?_
    refine wo (xaz xqk rfl (a':=⟨b1,1,none⟩) rfl) ?_
    refine xbv mn (fun h_ H_=>xaj H_ tA22 rfl (i:=0) rfl (v:=.slice a2 t.nW c2) rfl) (tm':=zq1 (zq2 (zq8 (zq32 [])))) rfl ?_
    refine wo (xaz xkq rfl (a':=⟨b1,2,none⟩) rfl) ?_
    refine xbv mn (fun h_ H_=>xaj H_ tA23 rfl (i:=0) rfl (v:=.slice a3 t.m c3) rfl) (tm':=zq1 (zq2 (zq8 (zq32 [])))) rfl ?_
    refine wo (xaq (v:=.int .i64 (((k:Nat):Int))) rfl) ?_
    refine wt (xbw (i:=k) Tryd.underlying23 tS43 (xjz a3 t.m c3 (T.y.ne (by omega))) rfl (by omega)) (tm':=zq1 (zq2 (zq8 (zq32 [])))) rfl ?_
    refine wo (xaz xrk rfl (a':=((adr a3).add (k*2)).add 1) rfl) ?_
    refine xbv mn (fun h_ H_=>xbj H_ tA3 rfl (v:=.int .i64 (((t.ww k:Nat):Int))) (T.y.weN (by omega) (hO.yp _ (by omega)).2)) (tm':=zq1 (zq2 (zq8 (zq32 [])))) rfl ?_
    refine wo (xbw (i:=(t.ww k)) Tryd.underlying22 tS3 (xjz a2 t.nW c2 (T.w.ne (by omega))) rfl (by omega)) ?_
    refine xbv mn (fun h_ H_=>xbj H_ tA3 rfl (v:=.int .i64 (t.wv (t.ww k))) (T.w.get (by omega))) (tm':=zq1 (zq2 (zq8 (zq32 [])))) rfl ?_
    refine wo (ziz rfl rfl) ?_
    refine wt (xev rfl rfl (wr (by have z1_:=hy_ (by omega);have z2_:=hO.h _ z1_.1;have z3_:=hO.w _ z1_.2;omega))) (tm':=zq1 (zq2 (zq8 (zq32 [])))) rfl ?_
    refine xik rfl ?_
    refine ro (zix rfl rfl (wr (by have z1_:=hy_ (by omega);have z2_:=hO.h _ z1_.1;have z3_:=hO.w _ z1_.2;have z4_:0≤min (t.hv (t.wh k)) (t.wv (t.ww k))+1∧min (t.hv (t.wh k)) (t.wv (t.ww k))+1≤10:=(by omega);have z5_:=Int.mul_le_mul (show s≤2000 by omega) z4_.2 z4_.1 (by decide);have z6_:=Int.mul_nonneg (show 0≤s by omega) z4_.1;omega))) ?_
    refine rt (xax (v:=.int .i64 (s*((min (t.hv (t.wh k)) (t.wv (t.ww k)))+1))) rfl) (tm':=zq4 _) rfl <| ren <| xbq <| ro (xaq (v:=.int .i64 (s*((min (t.hv (t.wh k)) (t.wv (t.ww k)))+1))) rfl) <| ro (xkv rfl rfl) <| xak ?_
    by_cases cc7:2000<s*((min (t.hv (t.wh k)) (t.wv (t.ww k)))+1)
    ·
     refine xcw rfl (dtt cc7) <| fsr <| rt (xax (v:=.bool (true)) rfl) (tm':=_::_::_::_) rfl <| xak ?_
     refine xdz Tryd.func15 rfl (vs:=[.bool (true)]) (fun h_ H_=>⟨.bool (true),_,rfl,rfl,rfl⟩) (v:=.bool (true)) rfl ?_
     exact fun h_ H_=>K _ _ ⟨by rw [wjq hO.toOk hc_ (k:=k+1) (by omega) (by rw [prodK,← hs];unfold fac;assumption)],H_.kept⟩
    ·
     refine xck rfl (dff cc7) <| xcv <| xdx <| xbq <| ro (xaq (v:=.int .i64 (((k:Nat):Int))) rfl) ?_
     refine ro (xev rfl rfl (n:=((k+1:Nat):Int)) (wr (by omega))) ?_
     refine rt (xax (v:=.int .i64 (((k+1:Nat):Int))) rfl) (tm':=zq1 (zq4 _)) rfl <| xak ?_
     exact fun h_ H_=>IH5 _ _ (by omega) h_ ⟨k+1,s*((min (t.hv (t.wh k)) (t.wv (t.ww k)))+1),rfl,(y_of rfl),(by omega),(by rw [hs,prodK];rfl),(by omega),H_⟩
   ·
    refine xck rfl (dff cc6) <| xhv rfl <| fsr <| ro (xax (v:=.bool (false)) rfl) <| xak ?_
    refine xdz Tryd.func15 rfl (vs:=[.bool (false)]) (fun h_ H_=>⟨.bool (false),_,rfl,rfl,rfl⟩) (v:=.bool (false)) rfl ?_
    have e_:k=t.m:=by omega
    have z_: ¬ 2000<prodK t t.m:=by rw [← e_,← hs];omega
    exact fun h_ H_=>K _ _ ⟨by rw [wav ‹_› z_],H_.kept⟩
end Go.Proofs.YtalfgojocdonhaaDoor
namespace Go.Proofs.YtalfgojocdonhaaDoor
open Go.X Go.X.Flow Go.Conc

@[simp] theorem wcs_size (xs:List FWay):(wcs xs).length=xs.length:=yhq xs
theorem wov (xs:List FWay): ∀ u∈(wcs xs).flatten,isOne u=true:=by
  intro u hu
  obtain ⟨l,hl,hu⟩:=List.mem_flatten.1 hu
  obtain ⟨x,_,rfl⟩:=List.mem_map.1 hl
  unfold FWay.cells at hu
  simp only [List.mem_cons,List.not_mem_nil,or_false] at hu
  rcases hu with rfl | rfl <;> rfl
def sameT (t u:Tn):Prop:=t.hs=u.hs∧t.ws=u.ws∧t.wy=u.wy
instance {t u:Tn}:Decidable (sameT t u):=by unfold sameT;exact inferInstance
theorem yhj (t:Tn):sameT t t:=⟨rfl,rfl,rfl⟩
theorem wpj {k:Nat} {t u:Tn} (hs: ∀ i,i<k→t.wy.getD i wz=u.wy.getD i wz) (h:(t.wy.getD k wz).1=(u.wy.getD k wz).1∧(t.wy.getD k wz).2=(u.wy.getD k wz).2): ∀ i,i<k+1→t.wy.getD i wz=u.wy.getD i wz:=fun i hi=>by
  by_cases e:i=k
  · subst e;exact Prod.ext h.1 h.2
  · exact hs i (by omega)
theorem xux {t u:Tn} (a:t.hs=u.hs) (b:t.ws=u.ws) (c:t.m=u.m) (h: ∀ i,i<t.m→t.wy.getD i wz=u.wy.getD i wz):sameT t u:=by
  refine ⟨a,b,List.ext_getElem c fun i h1 h2=>?_⟩
  have:=h i h1
  rwa [List.getD_eq_getElem?_getD,List.getD_eq_getElem?_getD,List.getElem?_eq_getElem h1,List.getElem?_eq_getElem h2] at this
theorem xxx {t u:Tn} {k:Nat} (h: ¬ ((t.wy.getD k wz).1=(u.wy.getD k wz).1∧(t.wy.getD k wz).2=(u.wy.getD k wz).2)): ¬ sameT t u:=fun z=>h (by rw [z.2.2];exact ⟨rfl,rfl⟩)
end Go.Proofs.YtalfgojocdonhaaDoor
namespace Go.Proofs.YtalfgojocdonhaaDoor
open Go.X Go.X.Flow Go.Conc
set_option maxRecDepth 10000
set_option synthInstance.maxSize 2000

set_option maxHeartbeats 2000000
theorem c17 (md:Md) (h:Heap) (p:PHeap) (hp:Per p h) (a1 a2 a3:Option Addr) (c1 c2 c3:Nat) (t:Tn) (T:TownP p a1 t.nH a2 t.nW a3 t.m t) (hn:t.nH≤40∧t.nW≤40∧t.m≤41):CallsX Tryd.prog md 17 #[.agg #[.slice a1 t.nH c1,.slice a2 t.nW c2,.slice a3 t.m c3]] h fun v h'=>∃ w1 w2 w3 X1 X2 X3,v= .agg #[w1,w2,w3]∧OwnS 3 1 w1 (ics t.hs) X1∧OwnS 3 1 w2 (ics t.ws) X2∧OwnS 43 2 w3 (wcs t.wy) X3∧New h h' (X3++(X1++(X2++[]))):=by
 refine xcq (Φ:=fun h_=>St h [] p h_ []) Tryd.func17 rfl (tm:=zq16 []) rfl ?_ (St.start h _ hp)
 intro c₀ cs Stop K
 have eH:=T.nH
 have eW:=T.nW
 have eM:=T.m
 refine fsr ?_
 refine xix mn (v:=.agg #[.slice a1 t.nH c1,.slice a2 t.nW c2,.slice a3 t.m c3]) rfl fun b1=>xcz (L':=[(b1,.cells #[.slice a1 t.nH c1,.slice a2 t.nW c2,.slice a3 t.m c3] 25 (0,0))]) rfl ?_
 refine xkx mn tZ25 rfl fun b2=>xcz (L':=[(b2,.cells #[.slice none 0 0,.slice none 0 0,.slice none 0 0] 25 (0,0)),(b1,.cells #[.slice a1 t.nH c1,.slice a2 t.nW c2,.slice a3 t.m c3] 25 (0,0))]) rfl ?_
 refine ren ?_
 refine xzq (xmx (C:=[]) (A:=([(b2,.cells #[.slice none 0 0,.slice none 0 0,.slice none 0 0] 25 (0,0)),(b1,.cells #[.slice a1 t.nH c1,.slice a2 t.nW c2,.slice a3 t.m c3] 25 (0,0))]:Pcs)) 11 [[],[],[1],[0,1,2],[],[],[5],[0,1,2,3,4,5,6],[],[],[9],[0,1,2,4,5,6,8,9,10],[],[]] [] [3,7,8] [1,2,5,6,9,10] (fun _=>[]) (fun i_=>match i_ with | 3=>[0] | 7=>[4] | _=>[]) (fun i_=>match i_ with | 0=>[] | 1=>[] | 2=>[1] | 3=>[0,2] | 4=>[] | 5=>[] | 6=>[5] | 7=>[3,4,6] | 8=>[] | 9=>[] | 10=>[9] | _=>[]) (fun i_ val_ pc_ v_ x_=>match i_ with | 0=>OwnS 3 1 v_ [] x_ | 1=>v_= .pointer (some ⟨b1,0,none⟩)∧x_=[] | 2=>v_= .slice a1 t.nH c1∧x_=[] | 3=>OwnS 3 1 v_ ([]++(t.hs.map fun x=>[Value.int .i64 x])) x_ | 4=>OwnS 3 1 v_ [] x_ | 5=>v_= .pointer (some ⟨b1,1,none⟩)∧x_=[] | 6=>v_= .slice a2 t.nW c2∧x_=[] | 7=>OwnS 3 1 v_ ([]++(t.ws.map fun x=>[Value.int .i64 x])) x_ | 8=>OwnS 43 2 v_ [] x_ | 9=>v_= .pointer (some ⟨b1,2,none⟩)∧x_=[] | 10=>v_= .slice a3 t.m c3∧x_=[] | _=>True) (fun val3=>[.agg #[.slice a1 t.nH c1,.slice a2 t.nW c2,.slice a3 t.m c3],.pointer (some ⟨b1,0,none⟩),.pointer (some ⟨b2,0,none⟩),(val3 0),(val3 1),(val3 2),(val3 3),(val3 4),(val3 5),(val3 6),(val3 7),(val3 8),(val3 9),(val3 10),undef,undef]) xlq (by kernel_rfl) (Nat.le_of_ble_eq_true rfl) (by kernel_rfl) (by kernel_rfl) (by kernel_rfl) (fun _ _=>⟨fun _ _ h=>h.2,⟨fun _ _ h=>h.2,⟨fun _ _ h=>h.2,⟨fun _ _ h=>h.2,⟨fun _ _ h=>h.2,⟨fun _ _ h=>h.2,trivial⟩⟩⟩⟩⟩⟩) (fun _=>by kernel_rfl) (by kernel_rfl) ?_ ?_) (fun h_ H_=>St.swap (A:=([(b2,.cells #[.slice none 0 0,.slice none 0 0,.slice none 0 0] 25 (0,0)),(b1,.cells #[.slice a1 t.nH c1,.slice a2 t.nW c2,.slice a3 t.m c3] 25 (0,0))]:Pcs)) (U:=[]) H_)
 ·
  refine xaw rfl (xdj ?_) ?_
  ·
   intro val3 pc4 hQ_ hX_
   obtain ⟨q_,hq0_⟩: ∃ q_:Value→Pcs→Prop,q_=(fun v_ x_=>OwnS 3 1 v_ [] x_):=⟨_,rfl⟩
   refine ⟨(zq16 []),[],q_,rfl,rfl,(fun _ _ z_=>by subst hq0_;exact z_),?_⟩
   subst hq0_
   exact xoj mn Tryd.underlying22 tS3 tZ3 (Nat.le_of_ble_eq_true rfl) (vs:=[]) rfl rfl (es:=[]) rfl rfl rfl fun _ _ o_=>o_
  refine xaw rfl (xdj ?_) ?_
  ·
   intro val3 pc4 hQ_ hX_
   obtain ⟨q_,hq0_⟩: ∃ q_:Value→Pcs→Prop,q_=(fun v_ x_=>v_= .pointer (some ⟨b1,0,none⟩)∧x_=[]):=⟨_,rfl⟩
   refine ⟨(zq16 []),[],q_,rfl,rfl,(fun _ _ z_=>by subst hq0_;exact z_),?_⟩
   subst hq0_
   exact xdk mn (fun _ h_ H_=>xaz xoq rfl (a':=⟨b1,0,none⟩) rfl) ⟨rfl,rfl⟩
  refine xaw rfl (xdj ?_) ?_
  ·
   intro val3 pc4 hQ_ hX_
   have e1_:val3 1= .pointer (some ⟨b1,0,none⟩):=(hQ_ 1 rfl).1
   obtain ⟨q_,hq0_⟩: ∃ q_:Value→Pcs→Prop,q_=(fun v_ x_=>v_= .slice a1 t.nH c1∧x_=[]):=⟨_,rfl⟩
   refine ⟨(zq16 []),[],q_,(by rw [e1_]),rfl,(fun _ _ z_=>by subst hq0_;exact z_),?_⟩
   subst hq0_
   exact xdk mn (fun _ h_ H_=>xaj H_ tA22 rfl (i:=1) rfl (v:=.slice a1 t.nH c1) rfl) ⟨rfl,rfl⟩
  refine xaw rfl (xdj ?_) ?_
  ·
   intro val3 pc4 hQ_ hX_
   have q0_:OwnS 3 1 (val3 0) [] (pc4 0):=hQ_ 0 rfl
   have e2_:val3 2= .slice a1 t.nH c1:=(hQ_ 2 rfl).1
   obtain ⟨q_,hq0_⟩: ∃ q_:Value→Pcs→Prop,q_=(fun v_ x_=>OwnS 3 1 v_ ([]++(t.hs.map fun x=>[Value.int .i64 x])) x_):=⟨_,rfl⟩
   refine ⟨(zq16 []),((pc4 0)++[]),q_,(by rw [e2_]),rfl,(fun _ _ z_=>by subst hq0_;exact z_),?_⟩
   subst hq0_
   exact xuw mn Tryd.underlying22 tS3 tZ3 rfl tB3 Tryd.underlying22 rfl rfl q0_ T.h (xtk _) (by simp only [List.length_nil];omega) (by decide) (by decide) fun _ _ o_=>o_
  refine xaw rfl (xdj ?_) ?_
  ·
   intro val3 pc4 hQ_ hX_
   obtain ⟨q_,hq0_⟩: ∃ q_:Value→Pcs→Prop,q_=(fun v_ x_=>OwnS 3 1 v_ [] x_):=⟨_,rfl⟩
   refine ⟨(zq16 []),[],q_,rfl,rfl,(fun _ _ z_=>by subst hq0_;exact z_),?_⟩
   subst hq0_
   exact xoj mn Tryd.underlying22 tS3 tZ3 (Nat.le_of_ble_eq_true rfl) (vs:=[]) rfl rfl (es:=[]) rfl rfl rfl fun _ _ o_=>o_
  refine xaw rfl (xdj ?_) ?_
  ·
   intro val3 pc4 hQ_ hX_
   obtain ⟨q_,hq0_⟩: ∃ q_:Value→Pcs→Prop,q_=(fun v_ x_=>v_= .pointer (some ⟨b1,1,none⟩)∧x_=[]):=⟨_,rfl⟩
   refine ⟨(zq16 []),[],q_,rfl,rfl,(fun _ _ z_=>by subst hq0_;exact z_),?_⟩
   subst hq0_
   exact xdk mn (fun _ h_ H_=>xaz xqk rfl (a':=⟨b1,1,none⟩) rfl) ⟨rfl,rfl⟩
  refine xaw rfl (xdj ?_) ?_
  ·
   intro val3 pc4 hQ_ hX_
   have e5_:val3 5= .pointer (some ⟨b1,1,none⟩):=(hQ_ 5 rfl).1
   obtain ⟨q_,hq0_⟩: ∃ q_:Value→Pcs→Prop,q_=(fun v_ x_=>v_= .slice a2 t.nW c2∧x_=[]):=⟨_,rfl⟩
   refine ⟨(zq16 []),[],q_,(by rw [e5_]),rfl,(fun _ _ z_=>by subst hq0_;exact z_),?_⟩
   subst hq0_
   exact xdk mn (fun _ h_ H_=>xaj H_ tA22 rfl (i:=1) rfl (v:=.slice a2 t.nW c2) rfl) ⟨rfl,rfl⟩
  refine xaw rfl (xdj ?_) ?_
  ·
   intro val3 pc4 hQ_ hX_
   have q3_:OwnS 3 1 (val3 3) ([]++(t.hs.map fun x=>[Value.int .i64 x])) (pc4 3):=hQ_ 3 rfl
   have q4_:OwnS 3 1 (val3 4) [] (pc4 4):=hQ_ 4 rfl
   have e6_:val3 6= .slice a2 t.nW c2:=(hQ_ 6 rfl).1
   obtain ⟨q_,hq0_⟩: ∃ q_:Value→Pcs→Prop,q_=(fun v_ x_=>OwnS 3 1 v_ ([]++(t.ws.map fun x=>[Value.int .i64 x])) x_):=⟨_,rfl⟩
   refine ⟨(zq16 []),((pc4 4)++[]),q_,(by rw [e6_]),rfl,(fun _ _ z_=>by subst hq0_;exact z_),?_⟩
   subst hq0_
   exact xuw mn Tryd.underlying22 tS3 tZ3 rfl tB3 Tryd.underlying22 rfl rfl q4_ T.w (xtk _) (by simp only [List.length_nil];omega) (by decide) (by decide) fun _ _ o_=>o_
  refine xaw rfl (xdj ?_) ?_
  ·
   intro val3 pc4 hQ_ hX_
   obtain ⟨q_,hq0_⟩: ∃ q_:Value→Pcs→Prop,q_=(fun v_ x_=>OwnS 43 2 v_ [] x_):=⟨_,rfl⟩
   refine ⟨(zq16 []),[],q_,rfl,rfl,(fun _ _ z_=>by subst hq0_;exact z_),?_⟩
   subst hq0_
   exact xoj mn Tryd.underlying23 tS43 tZ43 (Nat.le_of_ble_eq_true rfl) (vs:=[]) rfl rfl (es:=[]) rfl rfl rfl fun _ _ o_=>o_
  refine xaw rfl (xdj ?_) ?_
  ·
   intro val3 pc4 hQ_ hX_
   obtain ⟨q_,hq0_⟩: ∃ q_:Value→Pcs→Prop,q_=(fun v_ x_=>v_= .pointer (some ⟨b1,2,none⟩)∧x_=[]):=⟨_,rfl⟩
   refine ⟨(zq16 []),[],q_,rfl,rfl,(fun _ _ z_=>by subst hq0_;exact z_),?_⟩
   subst hq0_
   exact xdk mn (fun _ h_ H_=>xaz xkq rfl (a':=⟨b1,2,none⟩) rfl) ⟨rfl,rfl⟩
  refine xaw rfl (xdj ?_) ?_
  ·
   intro val3 pc4 hQ_ hX_
   have e9_:val3 9= .pointer (some ⟨b1,2,none⟩):=(hQ_ 9 rfl).1
   obtain ⟨q_,hq0_⟩: ∃ q_:Value→Pcs→Prop,q_=(fun v_ x_=>v_= .slice a3 t.m c3∧x_=[]):=⟨_,rfl⟩
   refine ⟨(zq16 []),[],q_,(by rw [e9_]),rfl,(fun _ _ z_=>by subst hq0_;exact z_),?_⟩
   subst hq0_
   exact xdk mn (fun _ h_ H_=>xaj H_ tA23 rfl (i:=1) rfl (v:=.slice a3 t.m c3) rfl) ⟨rfl,rfl⟩
  exact xlw rfl
 intro val3 pc4 hQ_ hX_
 have e1_:val3 1= .pointer (some ⟨b1,0,none⟩):=(hQ_ 1 (by decide)).1
 have e2_:val3 2= .slice a1 t.nH c1:=(hQ_ 2 (by decide)).1
 have q3_:OwnS 3 1 (val3 3) ([]++(t.hs.map fun x=>[Value.int .i64 x])) (pc4 3):=hQ_ 3 (by decide)
 have e5_:val3 5= .pointer (some ⟨b1,1,none⟩):=(hQ_ 5 (by decide)).1
 have e6_:val3 6= .slice a2 t.nW c2:=(hQ_ 6 (by decide)).1
 have q7_:OwnS 3 1 (val3 7) ([]++(t.ws.map fun x=>[Value.int .i64 x])) (pc4 7):=hQ_ 7 (by decide)
 have q8_:OwnS 43 2 (val3 8) [] (pc4 8):=hQ_ 8 (by decide)
 have e9_:val3 9= .pointer (some ⟨b1,2,none⟩):=(hQ_ 9 (by decide)).1
 have e10_:val3 10= .slice a3 t.m c3:=(hQ_ 10 (by decide)).1
 clear hQ_ hX_
 refine xxz (Φ:=fun h_=>St h [] p h_ (([(b2,.cells #[.slice none 0 0,.slice none 0 0,.slice none 0 0] 25 (0,0)),(b1,.cells #[.slice a1 t.nH c1,.slice a2 t.nW c2,.slice a3 t.m c3] 25 (0,0))]:Pcs)++(pc4 3++(pc4 7++(pc4 8++[]))))) ?_ (fun h_ H_=>H_.swap')
 refine xgq (tm':=(zq16 [])) (by rw [e1_,e2_,e5_,e6_,e9_,e10_]) ?_
 have o8:=q3_
 have o10:=q7_
 have o11:=q8_
 refine xpv (List.Perm.append_left _ (List.Perm.append_left _ (List.perm_append_comm_assoc _ _ _))) ?_
 refine xpv (List.Perm.append_left _ (List.perm_append_comm_assoc _ _ _)) ?_
 refine xcz (L':=([(b2,.cells #[.slice none 0 0,.slice none 0 0,.slice none 0 0] 25 (0,0)),(b1,.cells #[.slice a1 t.nH c1,.slice a2 t.nW c2,.slice a3 t.m c3] 25 (0,0))]:Pcs)++((pc4 8)++((pc4 3)++((pc4 7)++[])))) rfl ?_
 refine yax ([(b2,.cells #[.slice none 0 0,.slice none 0 0,.slice none 0 0] 25 (0,0)),(b1,.cells #[.slice a1 t.nH c1,.slice a2 t.nW c2,.slice a3 t.m c3] 25 (0,0))]:Pcs) (pc4 8) mn Tryd.underlying23 tS43 tZ43 rfl tB43 Tryd.underlying23 rfl rfl o11 T.y (wov _) (by simp only [List.length_nil];omega) (by decide) (by decide) fun v12 X13 o14=>?_
 refine xgq (tm':=zq16 []) rfl ?_
 generalize val3 3=w15 at*
 obtain ⟨a16,c17,ev_,_⟩:=o8.val;have ev_:w15= .slice a16 ((([]++(t.hs.map fun x=>[Value.int .i64 x])):List (List Value)).length) c17:=ev_;subst ev_
 generalize val3 7=w18 at*
 obtain ⟨a19,c20,ev_,_⟩:=o10.val;have ev_:w18= .slice a19 ((([]++(t.ws.map fun x=>[Value.int .i64 x])):List (List Value)).length) c20:=ev_;subst ev_
 obtain ⟨a21,c22,ev_,_⟩:=o14.val;have ev_:v12= .slice a21 t.m c22:=ev_.trans (congrArg (fun q_=>Value.slice a21 q_ c22) (by have h_:=T.y.len;simpa using h_));subst ev_
 refine ro (xhx tZ25 tP25 (vs:=[(0,(.slice a16 ((([]++(t.hs.map fun x=>[Value.int .i64 x])):List (List Value)).length) c17)),(1,(.slice a19 ((([]++(t.ws.map fun x=>[Value.int .i64 x])):List (List Value)).length) c20)),(2,(.slice a21 t.m c22))]) rfl (cells:=#[(.slice a16 ((([]++(t.hs.map fun x=>[Value.int .i64 x])):List (List Value)).length) c17),(.slice a19 ((([]++(t.ws.map fun x=>[Value.int .i64 x])):List (List Value)).length) c20),(.slice a21 t.m c22)]) rfl) ?_
 refine xiz mn tS25 rfl (v:=.agg #[(.slice a16 ((([]++(t.hs.map fun x=>[Value.int .i64 x])):List (List Value)).length) c17),(.slice a19 ((([]++(t.ws.map fun x=>[Value.int .i64 x])):List (List Value)).length) c20),(.slice a21 t.m c22)]) rfl (i:=0) rfl rfl (xgv o8.one.2 (xgv o10.one.2 (xgv o14.one.2 rfl))) (Nat.le_of_ble_eq_true rfl) (cs2:=[(.slice a16 ((([]++(t.hs.map fun x=>[Value.int .i64 x])):List (List Value)).length) c17),(.slice a19 ((([]++(t.ws.map fun x=>[Value.int .i64 x])):List (List Value)).length) c20),(.slice a21 t.m c22)]) rfl (xcz (L':=([(b2,.cells #[(.slice a16 ((([]++(t.hs.map fun x=>[Value.int .i64 x])):List (List Value)).length) c17),(.slice a19 ((([]++(t.ws.map fun x=>[Value.int .i64 x])):List (List Value)).length) c20),(.slice a21 t.m c22)] 25 (0,0)),(b1,.cells #[.slice a1 t.nH c1,.slice a2 t.nW c2,.slice a3 t.m c3] 25 (0,0))]:Pcs)++(X13++((pc4 3)++((pc4 7)++[])))) rfl ?_)
 refine xak ?_
 refine xdz Tryd.func17 rfl (vs:=[.agg #[(.slice a16 ((([]++(t.hs.map fun x=>[Value.int .i64 x])):List (List Value)).length) c17),(.slice a19 ((([]++(t.ws.map fun x=>[Value.int .i64 x])):List (List Value)).length) c20),(.slice a21 t.m c22)]]) (fun h_ H_=>⟨.agg #[(.slice a16 ((([]++(t.hs.map fun x=>[Value.int .i64 x])):List (List Value)).length) c17),(.slice a19 ((([]++(t.ws.map fun x=>[Value.int .i64 x])):List (List Value)).length) c20),(.slice a21 t.m c22)],_,rfl,(xbx (xbk (xnj tA25 tS25 (vs:=[(.slice a16 ((([]++(t.hs.map fun x=>[Value.int .i64 x])):List (List Value)).length) c17),(.slice a19 ((([]++(t.ws.map fun x=>[Value.int .i64 x])):List (List Value)).length) c20),(.slice a21 t.m c22)]) rfl (fun j_ v_ e_=>by rw [xmv];exact H_.ocell (i:=0) rfl (by simpa using e_)) ⟨rfl,rfl⟩))),rfl⟩) (v:=.agg #[(.slice a16 ((([]++(t.hs.map fun x=>[Value.int .i64 x])):List (List Value)).length) c17),(.slice a19 ((([]++(t.ws.map fun x=>[Value.int .i64 x])):List (List Value)).length) c20),(.slice a21 t.m c22)]) rfl ?_
 exact fun h_ H_=>K _ _ ⟨_,_,_,_,_,_,rfl,o8,o10,o14,by simpa using (H_.dropA).new⟩
theorem c22 (md:Md) (h:Heap) (p:PHeap) (hp:Per p h) (a1 a2 a3:Option Addr) (c1 c2 c3:Nat) (t:Tn) (T:TownP p a1 t.nH a2 t.nW a3 t.m t) (hn:t.nH≤40∧t.nW≤40∧t.m≤41)(a1' a2' a3':Option Addr) (c1' c2' c3':Nat) (u:Tn) (U:TownP p a1' u.nH a2' u.nW a3' u.m u) (hn':u.nH≤40∧u.nW≤40∧u.m≤41):CallsX Tryd.prog md 22 #[.agg #[.slice a1 t.nH c1,.slice a2 t.nW c2,.slice a3 t.m c3],.agg #[.slice a1' u.nH c1',.slice a2' u.nW c2',.slice a3' u.m c3']] h fun v h'=>v= .bool (decide (sameT t u))∧Keep h h':=by
 refine xcq (Φ:=fun h_=>St h [] p h_ []) Tryd.func22 rfl (tm:=zq1 (zq2 (zq4 (zq8 (zq32 []))))) rfl ?_ (St.start h _ hp)
 intro c₀ cs Stop K
 refine fsr ?_
 refine xix mn (v:=.agg #[.slice a1 t.nH c1,.slice a2 t.nW c2,.slice a3 t.m c3]) rfl fun b1=>xcz (L':=[(b1,.cells #[.slice a1 t.nH c1,.slice a2 t.nW c2,.slice a3 t.m c3] 25 (0,0))]) rfl ?_
 refine xix mn (v:=.agg #[.slice a1' u.nH c1',.slice a2' u.nW c2',.slice a3' u.m c3']) rfl fun b2=>xcz (L':=[(b2,.cells #[.slice a1' u.nH c1',.slice a2' u.nW c2',.slice a3' u.m c3'] 25 (0,0)),(b1,.cells #[.slice a1 t.nH c1,.slice a2 t.nW c2,.slice a3 t.m c3] 25 (0,0))]) rfl ?_
 refine xgq (tm':=zq4 _) rfl ?_
 refine ro (xax (v:=.bool (false)) rfl) <| ren <| fsr <| ro (xaz xoq rfl (a':=⟨b1,0,none⟩) rfl) ?_
 refine xbz mn (fun h_ H_=>xaj H_ tA22 rfl (i:=1) rfl (v:=.slice a1 t.nH c1) rfl) (tm':=zq8 _) rfl ?_
 refine ro (xaz xoq rfl (a':=⟨b2,0,none⟩) rfl) <| rd (fun h_ H_=>xaj H_ tA22 rfl (i:=0) rfl (v:=.slice a1' u.nH c1') rfl) ?_
 refine xeq mn (first:=[]) (cap:=[]) rfl rfl fC27 (fun h_ H_=>c27 md _ _ H_.pe _ _ _ _ _ _ _ _ T.h U.h (by omega)) (tm':=zq1 (zq2 (zq8 _))) rfl ?_
 refine ro (xjx rfl) <| ro (xaq (v:=.bool (!(decide (t.hs=u.hs)))) rfl) ?_
 by_cases cc3:t.hs=u.hs
 ·
  refine xbz (ms rfl rfl (xfk (dtt cc3))) (fun h_ H_=>xaz xqk rfl (a':=⟨b1,1,none⟩) rfl) (tm':=zq2 (zq4 (zq8 _))) rfl ?_
  refine xbz (ms rfl rfl (xfk (dtt cc3))) (fun h_ H_=>xaj H_ tA22 rfl (i:=1) rfl (v:=.slice a2 t.nW c2) rfl) rfl ?_
  refine xbz (ms rfl rfl (xfk (dtt cc3))) (fun h_ H_=>xaz xqk rfl (a':=⟨b2,1,none⟩) rfl) rfl ?_
  refine xbz (ms rfl rfl (xfk (dtt cc3))) (fun h_ H_=>xaj H_ tA22 rfl (i:=0) rfl (v:=.slice a2' u.nW c2') rfl) (tm':=zq1 (zq16 _)) rfl ?_
  refine xeq (ms rfl rfl (xfk (dtt cc3))) (first:=[]) (cap:=[]) rfl rfl fC27 (fun h_ H_=>c27 md _ _ H_.pe _ _ _ _ _ _ _ _ T.w U.w (by omega)) rfl ?_
  refine xbz (ms rfl rfl (xfk (dtt cc3))) (fun h_ H_=>xjx rfl) rfl ?_
  refine rt (xez rfl (xfk (dtt cc3)) (v:=.bool (!(decide (t.ws=u.ws)))) rfl) (tm':=zq4 (zq16 _)) rfl <| ro (xaq (v:=.bool (!(decide (t.ws=u.ws)))) rfl) ?_
  by_cases cc4:t.ws=u.ws
  ·
   refine xbz (ms rfl rfl (xfk (dtt cc4))) (fun h_ H_=>xaz xkq rfl (a':=⟨b1,2,none⟩) rfl) rfl ?_
   refine xbz (ms rfl rfl (xfk (dtt cc4))) (fun h_ H_=>xaj H_ tA23 rfl (i:=1) rfl (v:=.slice a3 t.m c3) rfl) (tm':=zq1 (zq2 (zq4 (zq16 _)))) rfl ?_
   refine xbz (ms rfl rfl (xfk (dtt cc4))) (fun h_ H_=>xfx Tryd.underlying23 rfl) rfl ?_
   refine xbz (ms rfl rfl (xfk (dtt cc4))) (fun h_ H_=>xaz xkq rfl (a':=⟨b2,2,none⟩) rfl) rfl ?_
   refine xbz (ms rfl rfl (xfk (dtt cc4))) (fun h_ H_=>xaj H_ tA23 rfl (i:=0) rfl (v:=.slice a3' u.m c3') rfl) (tm':=zq2 (zq8 (zq16 _))) rfl ?_
   refine xbz (ms rfl rfl (xfk (dtt cc4))) (fun h_ H_=>xfx Tryd.underlying23 rfl) rfl ?_
   refine xbz (ms rfl rfl (xfk (dtt cc4))) (fun h_ H_=>xjv rfl rfl) rfl ?_
   refine rt (xez rfl (xfk (dtt cc4)) (v:=.bool (decide (((t.m:Nat):Int)≠((u.m:Nat):Int)))) rfl) (tm':=zq1 (zq4 (zq8 (zq16 _)))) rfl <| xak ?_
   by_cases cc5:((t.m:Nat):Int)≠((u.m:Nat):Int)
   ·
    refine xcw rfl (dtt cc5) <| fsr <| ro (xax (v:=.bool (false)) rfl) <| xak ?_
    refine xdz Tryd.func22 rfl (vs:=[.bool (false)]) (fun h_ H_=>⟨.bool (false),_,rfl,rfl,rfl⟩) (v:=.bool (false)) rfl ?_
    exact fun h_ H_=>K _ _ ⟨by first | (rw [decide_eq_true (p:=sameT t u) (xux ‹_› ‹_› (by omega) (fun i hi=>hs i (by omega)))]) | (rw [decide_eq_false (p:=sameT t u) (fun z_=>absurd z_.1 ‹_›)]) | (rw [decide_eq_false (p:=sameT t u) (fun z_=>absurd z_.2.1 ‹_›)]) | (rw [decide_eq_false (p:=sameT t u) (fun z_=>by have z2_:=congrArg List.length z_.2.2;unfold Tn.m at *;omega)]) | (rw [decide_eq_false (p:=sameT t u) (xxx (k:=k) ‹_›)]),H_.kept⟩
   ·
    refine xck rfl (dff cc5) <| xcv <| xek <| fsr <| ro (xax (v:=.int .i64 0) rfl) <| xak ?_
    refine xex ?_
    refine xiq (m₀:=t.m-0) (fun m_ tm_ h_=>∃ (k:Nat),m_=t.m-k∧(∃ y6:Nat→Value,tm_=[.agg #[.slice a1 t.nH c1,.slice a2 t.nW c2,.slice a3 t.m c3],.agg #[.slice a1' u.nH c1',.slice a2' u.nW c2',.slice a3' u.m c3'],.pointer (some ⟨b1,0,none⟩),.pointer (some ⟨b2,0,none⟩),(y6 4),.int .i64 (((k:Nat):Int)),.pointer (some ⟨b1,0,none⟩),.slice a1 t.nH c1,.pointer (some ⟨b2,0,none⟩),.slice a1' u.nH c1',.bool (decide (t.hs=u.hs)),.bool (!(decide (t.hs=u.hs))),.bool (!(decide (t.hs=u.hs))),.pointer (some ⟨b1,1,none⟩),.slice a2 t.nW c2,.pointer (some ⟨b2,1,none⟩),.slice a2' u.nW c2',.bool (decide (t.ws=u.ws)),.bool (!(decide (t.ws=u.ws))),.bool (!(decide (t.ws=u.ws))),.bool (!(decide (t.ws=u.ws))),.pointer (some ⟨b1,2,none⟩),.slice a3 t.m c3,.int .i64 (((t.m:Nat):Int)),.pointer (some ⟨b2,2,none⟩),.slice a3' u.m c3',.int .i64 (((u.m:Nat):Int)),.bool (decide (((t.m:Nat):Int)≠((u.m:Nat):Int))),.bool (decide (((t.m:Nat):Int)≠((u.m:Nat):Int))),(y6 29),(y6 30),(y6 31),(y6 32),(y6 33),(y6 34),(y6 35),(y6 36),(y6 37),(y6 38),(y6 39),(y6 40),(y6 41),(y6 42),(y6 43),(y6 44),(y6 45),(y6 46)])∧(k≤t.m)∧(∀ i,i<k→t.wy.getD i wz=u.wy.getD i wz)∧St h [] p h_ ([(b2,.cells #[.slice a1' u.nH c1',.slice a2' u.nW c2',.slice a3' u.m c3'] 25 (0,0)),(b1,.cells #[.slice a1 t.nH c1,.slice a2 t.nW c2,.slice a3 t.m c3] 25 (0,0))])) (fun h_ H_=>⟨0,rfl,(y_of rfl),Nat.zero_le _,(fun i hi=>absurd hi (Nat.not_lt_zero i)),H_⟩) ?_
    intro m_ tm_ IH7
    refine xhk fun k=>xcj fun hm_=>xcj fun ht_=>xcj fun hk=>xcj fun hs=>?_
    subst hm_;obtain ⟨y6,ht_⟩:=ht_;subst ht_
    refine xek <| fsr <| rt (xaq (v:=.int .i64 (((k:Nat):Int))) rfl) (tm':=zq2 (zq4 (zq8 (zq16 _)))) rfl <| ro (xaz xkq rfl (a':=⟨b1,2,none⟩) rfl) <| rd (fun h_ H_=>xaj H_ tA23 rfl (i:=1) rfl (v:=.slice a3 t.m c3) rfl) <| rt (xfx Tryd.underlying23 rfl) (tm':=zq1 (zq2 (zq4 (zq8 (zq32 []))))) rfl ?_
    refine ro (xgj rfl rfl) <| xak ?_
    by_cases cc8:((k:Nat):Int)<((t.m:Nat):Int)
    ·
     refine xcw rfl (dtt cc8) <| xcv <| xek <| xex <| xek ?_
     refine xgz 10 [[],[0],[],[0,1,2],[0,1,2,3],[],[5],[],[5,6,7],[5,6,7,8],[]] xlq (by kernel_rfl) (Nat.le_of_ble_eq_true rfl) ?_
     refine wt (xaz xkq rfl (a':=⟨b1,2,none⟩) rfl) (tm':=zq1 (zq2 (zq4 (zq8 (zq32 []))))) rfl <| wd (fun h_ H_=>xaj H_ tA23 rfl (i:=1) rfl (v:=.slice a3 t.m c3) rfl) <| wt (xaq (v:=.int .i64 (((k:Nat):Int))) rfl) (tm':=zq1 (zq2 (zq4 (zq8 (zq32 []))))) rfl ?_
     refine wo (xbw (i:=k) Tryd.underlying23 tS43 (xjz a3 t.m c3 (T.y.ne (by omega))) rfl (by omega)) ?_
     refine xbv mn (fun h_ H_=>xhq H_ tA43 tS43 rfl (vs:=[.int .i64 ((t.wy.getD k wz).1),.int .i64 ((t.wy.getD k wz).2)]) rfl (T.y.all (by omega))) (tm':=zq1 (zq2 (zq4 (zq8 (zq32 []))))) rfl ?_
     refine wo (xaz xkq rfl (a':=⟨b2,2,none⟩) rfl) ?_
     refine xbv mn (fun h_ H_=>xaj H_ tA23 rfl (i:=0) rfl (v:=.slice a3' u.m c3') rfl) (tm':=zq1 (zq2 (zq4 (zq8 (zq32 []))))) rfl ?_
     refine wo (xaq (v:=.int .i64 (((k:Nat):Int))) rfl) ?_
     refine wt (xbw (i:=k) Tryd.underlying23 tS43 (xjz a3' u.m c3' (U.y.ne (by omega))) rfl (by omega)) (tm':=zq1 (zq2 (zq4 (zq8 (zq32 []))))) rfl ?_
     refine wd (fun h_ H_=>xhq H_ tA43 tS43 rfl (vs:=[.int .i64 ((u.wy.getD k wz).1),.int .i64 ((u.wy.getD k wz).2)]) rfl (U.y.all (by omega))) ?_
     refine xik rfl ?_
     refine rt (ztk gT43 (wuv 9998 _ _ _ _) rfl rfl) (tm':=zq1 (zq2 (zq4 (zq8 (zq32 []))))) rfl <| xak ?_
     by_cases cc9:(t.wy.getD k wz).1=(u.wy.getD k wz).1∧(t.wy.getD k wz).2=(u.wy.getD k wz).2
     ·
      refine xck rfl (xfk (dtt cc9)) <| xcv <| xdx <| xbq <| ro (xaq (v:=.int .i64 (((k:Nat):Int))) rfl) ?_
      refine ro (xev rfl rfl (n:=((k+1:Nat):Int)) (wr (by omega))) ?_
      refine rt (xax (v:=.int .i64 (((k+1:Nat):Int))) rfl) (tm':=zq2 (zq4 _)) rfl <| xak ?_
      exact fun h_ H_=>IH7 _ _ (by omega) h_ ⟨k+1,rfl,(y_of rfl),(by omega),(wpj hs ‹_›),H_⟩
     ·
      refine xcw rfl (xnq (dff cc9)) <| fsr <| ro (xax (v:=.bool (false)) rfl) <| xak ?_
      refine xdz Tryd.func22 rfl (vs:=[.bool (false)]) (fun h_ H_=>⟨.bool (false),_,rfl,rfl,rfl⟩) (v:=.bool (false)) rfl ?_
      exact fun h_ H_=>K _ _ ⟨by first | (rw [decide_eq_true (p:=sameT t u) (xux ‹_› ‹_› (by omega) (fun i hi=>hs i (by omega)))]) | (rw [decide_eq_false (p:=sameT t u) (fun z_=>absurd z_.1 ‹_›)]) | (rw [decide_eq_false (p:=sameT t u) (fun z_=>absurd z_.2.1 ‹_›)]) | (rw [decide_eq_false (p:=sameT t u) (fun z_=>by have z2_:=congrArg List.length z_.2.2;unfold Tn.m at *;omega)]) | (rw [decide_eq_false (p:=sameT t u) (xxx (k:=k) ‹_›)]),H_.kept⟩
    ·
     refine xck rfl (dff cc8) <| xhv rfl <| fsr <| ro (xax (v:=.bool (true)) rfl) <| xak ?_
     refine xdz Tryd.func22 rfl (vs:=[.bool (true)]) (fun h_ H_=>⟨.bool (true),_,rfl,rfl,rfl⟩) (v:=.bool (true)) rfl ?_
     exact fun h_ H_=>K _ _ ⟨by first | (rw [decide_eq_true (p:=sameT t u) (xux ‹_› ‹_› (by omega) (fun i hi=>hs i (by omega)))]) | (rw [decide_eq_false (p:=sameT t u) (fun z_=>absurd z_.1 ‹_›)]) | (rw [decide_eq_false (p:=sameT t u) (fun z_=>absurd z_.2.1 ‹_›)]) | (rw [decide_eq_false (p:=sameT t u) (fun z_=>by have z2_:=congrArg List.length z_.2.2;unfold Tn.m at *;omega)]) | (rw [decide_eq_false (p:=sameT t u) (xxx (k:=k) ‹_›)]),H_.kept⟩
  ·
   refine xfj (mo rfl rfl (xnq (dff cc4))) (tm':=zq2 (zq4 (zq16 _))) rfl <| rp (mo rfl rfl (xnq (dff cc4))) <| rp (mo rfl rfl (xnq (dff cc4))) <| xfj (mo rfl rfl (xnq (dff cc4))) (tm':=zq1 (zq8 (zq16 _))) rfl <| rp (mo rfl rfl (xnq (dff cc4))) <| rp (mo rfl rfl (xnq (dff cc4))) ?_
   refine xfj (mo rfl rfl (xnq (dff cc4))) (tm':=zq4 (zq8 (zq16 _))) rfl <| ro (xdv rfl (xnq (dff cc4)) (v:=.bool (true)) rfl) <| xak <| xcw rfl rfl <| fsr <| ro (xax (v:=.bool (false)) rfl) ?_
   refine xak ?_
   refine xdz Tryd.func22 rfl (vs:=[.bool (false)]) (fun h_ H_=>⟨.bool (false),_,rfl,rfl,rfl⟩) (v:=.bool (false)) rfl ?_
   exact fun h_ H_=>K _ _ ⟨by first | (rw [decide_eq_true (p:=sameT t u) (xux ‹_› ‹_› (by omega) (fun i hi=>hs i (by omega)))]) | (rw [decide_eq_false (p:=sameT t u) (fun z_=>absurd z_.1 ‹_›)]) | (rw [decide_eq_false (p:=sameT t u) (fun z_=>absurd z_.2.1 ‹_›)]) | (rw [decide_eq_false (p:=sameT t u) (fun z_=>by have z2_:=congrArg List.length z_.2.2;unfold Tn.m at *;omega)]) | (rw [decide_eq_false (p:=sameT t u) (xxx (k:=k) ‹_›)]),H_.kept⟩
 ·
  refine xfj (mo rfl rfl (xnq (dff cc3))) (tm':=zq2 (zq4 (zq8 _))) rfl <| rp (mo rfl rfl (xnq (dff cc3))) <| rp (mo rfl rfl (xnq (dff cc3))) <| xfj (mo rfl rfl (xnq (dff cc3))) (tm':=zq1 (zq16 _)) rfl <| rp (mo rfl rfl (xnq (dff cc3))) <| rp (mo rfl rfl (xnq (dff cc3))) ?_
  refine rt (xdv rfl (xnq (dff cc3)) (v:=.bool (true)) rfl) (tm':=zq4 (zq16 _)) rfl <| ro (xaq (v:=.bool (true)) rfl) <| rp (mo rfl rfl rfl) <| xfj (mo rfl rfl rfl) (tm':=zq1 (zq2 (zq4 (zq16 _)))) rfl <| rp (mo rfl rfl rfl) <| rp (mo rfl rfl rfl) ?_
  refine xfj (mo rfl rfl rfl) (tm':=zq2 (zq8 (zq16 _))) rfl <| rp (mo rfl rfl rfl) <| rp (mo rfl rfl rfl) <| rt (xdv rfl rfl (v:=.bool (true)) rfl) (tm':=zq1 (zq4 (zq8 (zq16 _)))) rfl <| xak <| xcw rfl rfl ?_
  refine fsr <| ro (xax (v:=.bool (false)) rfl) <| xak ?_
  refine xdz Tryd.func22 rfl (vs:=[.bool (false)]) (fun h_ H_=>⟨.bool (false),_,rfl,rfl,rfl⟩) (v:=.bool (false)) rfl ?_
  exact fun h_ H_=>K _ _ ⟨by first | (rw [decide_eq_true (p:=sameT t u) (xux ‹_› ‹_› (by omega) (fun i hi=>hs i (by omega)))]) | (rw [decide_eq_false (p:=sameT t u) (fun z_=>absurd z_.1 ‹_›)]) | (rw [decide_eq_false (p:=sameT t u) (fun z_=>absurd z_.2.1 ‹_›)]) | (rw [decide_eq_false (p:=sameT t u) (fun z_=>by have z2_:=congrArg List.length z_.2.2;unfold Tn.m at *;omega)]) | (rw [decide_eq_false (p:=sameT t u) (xxx (k:=k) ‹_›)]),H_.kept⟩
end Go.Proofs.YtalfgojocdonhaaDoor
namespace Go.X.Flow
open Go.X
theorem OkT.wok {t:Tn} (O:OkT t):WOk t:=fun i hi=>by
  have a:=O.y i hi;have b:=O.yp i hi
  have e1:(t.wy.getD i wz).1.toNat=t.wh i:=rfl
  have e2:(t.wy.getD i wz).2.toNat=t.ww i:=rfl
  omega
theorem wbw {t:Tn} {d:List Int} (w:WOk t) (hl:d.length≤t.m) {x:Int} {h:Nat} (hx:x=(h:Int)):drawI t d d.length x=draw t d h:=by
  have key: ∀ k,k+d.length≤t.m→drawI t d d.length x=sm (d.length+k) fun i=>if t.wh i=h then dv d i else 0:=fun k=>by
    induction k with
    | zero=>
      intro _
      refine xhj fun i hi=>?_
      have:=(w i (by omega)).1
      have e:(t.wy.getD i wz).1.toNat=t.wh i:=rfl
      by_cases c:t.wh i=h
      · rw [if_pos (by omega),if_pos c]
      · rw [if_neg (by omega),if_neg c]
    | succ k ih=>intro hk;rw [ih (by omega)];show _=sm (d.length+k+1) _;rw [sm,yqw (by omega)];split <;> omega
  have:=key (t.m-d.length) (by omega)
  rwa [show d.length+(t.m-d.length)=t.m by omega] at this
theorem waq {t:Tn} {d:List Int} (w:WOk t) (hl:d.length≤t.m) {x:Int} {h:Nat} (hx:x=(h:Int)):giveI t d d.length x=give t d h:=by
  have key: ∀ k,k+d.length≤t.m→giveI t d d.length x=sm (d.length+k) fun i=>if t.ww i=h then dv d i else 0:=fun k=>by
    induction k with
    | zero=>
      intro _
      refine xhj fun i hi=>?_
      have:=(w i (by omega)).2
      have e:(t.wy.getD i wz).2.toNat=t.ww i:=rfl
      by_cases c:t.ww i=h
      · rw [if_pos (by omega),if_pos c]
      · rw [if_neg (by omega),if_neg c]
    | succ k ih=>intro hk;rw [ih (by omega)];show _=sm (d.length+k+1) _;rw [sm,yqw (by omega)];split <;> omega
  have:=key (t.m-d.length) (by omega)
  rwa [show d.length+(t.m-d.length)=t.m by omega] at this
theorem wqw {t:Tn} (O:OkT t) {d:List Int} {k:Nat} (e:d.length=k) (h:k<t.m):
    min (t.hs.getD (t.wy.getD k wz).1.toNat 0-drawI t d d.length (t.wy.getD k wz).1) (t.ws.getD (t.wy.getD k wz).2.toNat 0-giveI t d d.length (t.wy.getD k wz).2)=most t d:=by
  subst e
  have b:=O.yp d.length h
  have e1:(t.wy.getD d.length wz).1.toNat=t.wh d.length:=rfl
  have e2:(t.wy.getD d.length wz).2.toNat=t.ww d.length:=rfl
  rw [wbw O.wok (by omega) (show (t.wy.getD d.length wz).1=((t.wh d.length:Nat):Int) by omega),waq O.wok (by omega) (show (t.wy.getD d.length wz).2=((t.ww d.length:Nat):Int) by omega)]
  rfl
theorem Pre.small {t:Tn} {d:List Int} (D:Pre t d) (O:Ok t): ∀ i,i<d.length→0≤dv d i∧dv d i≤1000:=fun i hi=>by
  have hm:=D.len
  have h0:=D.pos i (by omega)
  have hy:=(O.y i (by omega)).1
  have h1:(if t.wh i=t.wh i then dv d i else 0)≤draw t d (t.wh i):=zax (f:=fun j=>if t.wh j=t.wh i then dv d j else 0) (fun j hj=>by split;exact D.pos j hj;exact Int.le_refl _) (by omega)
  rw [if_pos rfl] at h1
  have h2:=D.hs _ hy;have h3:=O.h _ hy
  omega
theorem zmv {t:Tn} {d:List Int} (D:Pre t d) (O:Ok t) (h:d.length<t.m):0≤most t d∧most t d≤9:=by
  have hy:=O.y d.length h
  have h1:=D.hs _ hy.1;have h2:=D.ws _ hy.2;have h3:=O.h _ hy.1
  have g1:0≤draw t d (t.wh d.length):=xrx fun i hi=>by split;exact D.pos i hi;exact Int.le_refl _
  unfold most;omega
def divP (t:Tn) (f:Nat) (d:List Int) (j:Nat):List (List Int):=(List.range j).flatMap fun n:Nat=>divs t f (d++[(n:Int)])
theorem yrq (t f d j):divP t f d (j+1)=divP t f d j++divs t f (d++[((j:Nat):Int)]):=by
  unfold divP;rw [List.range_succ,List.flatMap_append];simp
theorem wbx {t:Tn} (O:Ok t) {k:Nat} (h:k<t.m):1≤(min (t.hv (t.wh k)) (t.wv (t.ww k))+1).toNat:=by
  have hy:=O.y k h;have h3:=O.h _ hy.1;have h4:=O.w _ hy.2;omega
theorem zrw {t:Tn} (O:Ok t) {f k:Nat} (h:k+(f+1)≤t.m):prodW t f (k+1)≤prodW t (f+1) k:=by
  rw [prodW];exact Nat.le_mul_of_pos_left _ (wbx O (by omega))
theorem zbj {t:Tn} (O:Ok t): ∀ {k f:Nat},k+f=t.m→prodW t f k≤prodW t t.m 0
  | 0,f,h=>by rw [show f=t.m by omega];exact Nat.le_refl _
  | k+1,f,h=>Nat.le_trans (zrw O (by omega)) (zbj O (k:=k) (f:=f+1) (by omega))
theorem zpz {t:Tn} (O:Ok t) {f:Nat} {d:List Int} (D:Pre t d) (h:d.length+(f+1)=t.m): ∀ {k:Nat},k≤(most t d+1).toNat→(divP t f d k).length≤k*prodW t f (d.length+1)
  | 0,_=>by simp [divP]
  | k+1,hk=>by
    rw [yrq,List.length_append,Nat.add_mul,Nat.one_mul]
    have a:=zpz O D h (k:=k) (by omega)
    have b:=ymk O (D.next (by omega) (n:=k) (by omega) (by omega)) (f:=f) (by simp;omega)
    simp only [List.length_append,List.length_cons,List.length_nil,Nat.zero_add] at b
    omega
theorem yyx {t:Tn} (O:Ok t) (hP:prodW t t.m 0≤2000) {f:Nat} {d:List Int} (D:Pre t d) (h:d.length+(f+1)=t.m) {j:Nat} {es es2:List (List Value)} (hj:((j:Nat):Int)≤most t d) (e1:es.length=(divP t f d j).length) (e2:es2.length=(divs t f (d++[((j:Nat):Int)])).length):(es.length+es2.length)*24≤2 ^ 40:=by
  have a:=zpz O D h (k:=j) (by omega)
  have b:=ymk O (D.next (by omega) (n:=j) (by omega) hj) (f:=f) (by simp;omega)
  simp only [List.length_append,List.length_cons,List.length_nil,Nat.zero_add] at b
  have c:=zbj O (k:=d.length+1) (f:=f) (by omega)
  have m:=zmv D O (by omega)
  have:j*prodW t f (d.length+1)≤9*prodW t f (d.length+1):=Nat.mul_le_mul_right _ (by omega)
  omega
theorem wnx {t:Tn} (O:Ok t): ∀ {k:Nat},k≤t.m→prodK t k*((prodW t (t.m-k) k:Nat):Int)=((prodW t t.m 0:Nat):Int)
  | 0,_=>by rw [prodK];simp
  | k+1,h=>by
    have ih:=wnx O (k:=k) (by omega)
    rw [show t.m-k=(t.m-(k+1))+1 by omega,prodW,Int.natCast_mul,Int.toNat_of_nonneg (by have:=wbx O (k:=k) (by omega);omega),← Int.mul_assoc] at ih
    exact ih
theorem zxj {t:Tn} (O:Ok t) (h: ¬ 2000<prodK t t.m):prodW t t.m 0≤2000:=by
  have:=wnx O (k:=t.m) (Nat.le_refl _)
  rw [Nat.sub_self,prodW] at this
  omega
theorem ydx {t:Tn} (O:Ok t) (hP:prodW t t.m 0≤2000):(allD t).length≤2000:=Nat.le_trans (ymk O (Pre.nil O) (by simp)) hP
theorem ydq {t:Tn} (O:Ok t):0<(allD t).length:=List.length_pos_of_mem (wox O)
theorem yrw {t:Tn} (O:Ok t) {i:Nat} (h:i<(allD t).length):Div t ((allD t).getD i []):=(yix O).1 (by rw [xvj h];exact List.getElem_mem h)
theorem ygv {t:Tn} (O:Ok t) {k:Nat} (h:k<(allD t).length): ∀ i,i<t.m→0≤dv ((allD t).getD k []) i∧dv ((allD t).getD k []) i≤1000:=fun i hi=>by
  have D:=yrw O h
  exact Pre.small (d:=(allD t).getD k []) ⟨Nat.le_of_eq D.len,D.pos,D.hs,D.ws⟩ O i (by rw [D.len];exact hi)
theorem ynk {α:Type} {l:List α} {k:Nat} {d:α} (h:k<l.length):l.take (k+1)=l.take k++[l.getD k d]:=by
  rw [List.take_add_one,List.getElem?_eq_getElem h,xvj h];rfl
theorem yjx {t:Tn} {d:List Int}: ∀ {L:List (List Int)} {b:List Int},bestL t (L++[d]) b=if earlier (lacks t d) (bestL t L b)=true then lacks t d else bestL t L b
  | [],b=>rfl
  | e::L,b=>by rw [List.cons_append,bestL,yjx (L:=L)];rfl
theorem zcj {t:Tn} {d:List Int}: ∀ {L:List (List Int)} {b:Int},maxT t (L++[d]) b=max (maxT t L b) (tot t d)
  | [],b=>rfl
  | e::L,b=>by rw [List.cons_append,maxT,zcj (L:=L)];rfl
def bestK (t:Tn) (k:Nat):List Int:=bestL t ((allD t).take k) (lacks t ((allD t).getD 0 []))
theorem wdq {t:Tn} {k:Nat} (h:k<(allD t).length) (e:earlier (lacks t ((allD t).getD k [])) (bestK t k)=true):lacks t ((allD t).getD k [])=bestK t (k+1):=by
  unfold bestK at *;rw [ynk (d:=[]) h,yjx,if_pos e]
theorem wkk {t:Tn} {k:Nat} (h:k<(allD t).length) (e: ¬ earlier (lacks t ((allD t).getD k [])) (bestK t k)=true):bestK t k=bestK t (k+1):=by
  unfold bestK at *;rw [ynk (d:=[]) h,yjx,if_neg e]
theorem yrj {t:Tn}: ∀ {L:List (List Int)} {b:List Int},b.length=t.nH→(bestL t L b).length=t.nH
  | [],_,h=>h
  | d::L,b,h=>by rw [bestL];split;exact yrj (xmq t d);exact yrj h
theorem wdx (t:Tn) (k:Nat):(bestK t k).length=t.nH:=yrj (xmq _ _)
theorem wdz {t:Tn} (O:Ok t) {k:Nat} (h:k=(allD t).length):bestK t k=LK t:=by
  subst h;unfold bestK;rw [List.take_length];exact wcw O (yrw O (ydq O))
def maxK (t:Tn) (k:Nat):Int:=maxT t ((allD t).take k) 0
theorem wrk {t:Tn} {k:Nat} (h:k<(allD t).length):max (maxK t k) (sm t.m (dv ((allD t).getD k [])))=maxK t (k+1):=by
  unfold maxK;rw [ynk (d:=[]) h,zcj];rfl
theorem whx {t:Tn} (O:Ok t) {k:Nat} (h:k=(allD t).length):maxK t k=mostV t:=by
  subst h;unfold maxK;rw [List.take_length];exact whq O xtq
theorem wyj {t:Tn} (h:farB t=false):chkB t=0→prodW t t.m 0≤2000:=fun e=>zxj (xuq e).toOk fun z=>by
  have:=of_decide_eq_false h;exact this (.inr ⟨e,z⟩)
theorem Div.pre {t:Tn} {d:List Int} (D:Div t d):Pre t d:=⟨Nat.le_of_eq D.len,D.pos,D.hs,D.ws⟩
end Go.X.Flow
namespace Go.Proofs.YtalfgojocdonhaaDoor
open Go.X Go.X.Flow Go.Conc

theorem whv (p:PHeap):Ints p none 0 []:=⟨rfl,by simp,fun h=>by omega,fun i e he=>by simp at he⟩
def DivC (f:Nat):Prop:=∀ (md:Md) (h:Heap) (p:PHeap),Per p h→ ∀ (a1 a2 a3:Option Addr) (c1 c2 c3:Nat) (t:Tn),TownP p a1 t.nH a2 t.nW a3 t.m t→(t.nH≤40∧t.nW≤40∧t.m≤41)→OkT t→prodW t t.m 0≤2000→ ∀ (b:Option Addr) (m cb:Nat) (pre:List Int),Ints p b m pre→Pre t pre→m+f=t.m→
  CallsX Tryd.prog md 80 #[.agg #[.slice a1 t.nH c1,.slice a2 t.nW c2,.slice a3 t.m c3],.slice b m cb] h fun v h'=>∃ es X Z,OwnS 22 1 v es X∧Inn p es (divs t f pre) Z∧es.length=(divs t f pre).length∧(∀ u∈es.flatten,isOne u=true)∧New h h' (X++(Z++[]))
theorem wyq {f:Nat} (hrec:DivC f) {md:Md} {h h₀:Heap} {B₀:List Nat} {p:PHeap} {L Xo:Pcs} {v:Value} {pre:List Int} {a1 a2 a3:Option Addr} {c1 c2 c3:Nat} {t:Tn} (o:OwnS 3 1 v (pre.map fun x=>[.int .i64 x]) Xo) (T:TownP p a1 t.nH a2 t.nW a3 t.m t)
    (hn:t.nH≤40∧t.nW≤40∧t.m≤41) (O:OkT t) (hP:prodW t t.m 0≤2000) (D:Pre t pre) (hf:pre.length+f=t.m) (h0:0<pre.length) (s:St h₀ B₀ p h ((Xo++[])++L)):
    CallsX Tryd.prog md 80 #[.agg #[.slice a1 t.nH c1,.slice a2 t.nW c2,.slice a3 t.m c3],v] h fun v' h'=>∃ x,(∃ w es X Z,v'=w∧OwnS 22 1 w es X∧Inn p es (divs t f pre) Z∧es.length=(divs t f pre).length∧(∀ u∈es.flatten,isOne u=true)∧x=X++(Z++[]))∧St h₀ B₀ p h' (x++L):=by
  rw [List.append_nil] at s
  obtain ⟨a',cap,b,ob,rfl,rfl,hp,le,sl⟩:=o.lend (by rw [List.length_map];exact h0) s
  rw [List.length_map] at sl ⊢
  refine (hrec md h _ hp a1 a2 a3 c1 c2 c3 t (T.mono le) hn O hP a' _ cap pre sl D hf).mono fun v' h' ⟨es,X,Z,o',i',l',e',N⟩=>?_
  refine ⟨X++((Z++[(b,ob)])++[]),⟨v',es,X,Z++[(b,ob)],rfl,o',i'.lent le,l',e',rfl⟩,?_⟩
  exact (s.callN N).perm (by simp)
structure DInv (p:PHeap) (t:Tn) (f j:Nat) (pre:List Int) (w:Value) (es:List (List Value)) (X Z:Pcs):Prop where
  hj:((j:Nat):Int)≤most t pre+1
  o:OwnS 22 1 w es X
  i:Inn p es (divP t f pre j) Z
  el:es.length=(divP t f pre j).length
  eo: ∀ u∈es.flatten,isOne u=true
theorem Tab1.const {p:PHeap} {a:Option Addr} {k n:Nat} {A:Nat→Option Addr} {C N:Nat→Nat} {xs:Nat→List Int} (t:Tab1 p a k A C N xs) (h: ∀ i,i<k→N i=n):Tab1 p a k A C (fun _=>n) xs:=
  ⟨t.ne,fun i hi=>by rw [t.cell i hi,h i hi],fun i hi=>by rw [← h i hi];exact t.ints i hi⟩
end Go.Proofs.YtalfgojocdonhaaDoor
namespace Go.Proofs.YtalfgojocdonhaaDoor
open Go.X Go.X.Flow Go.Conc
set_option maxRecDepth 10000
set_option synthInstance.maxSize 2000

set_option maxHeartbeats 2000000
theorem c80s (md:Md) (h:Heap) (p:PHeap) (hp:Per p h) (a1 a2 a3:Option Addr) (c1 c2 c3:Nat) (t:Tn) (T:TownP p a1 t.nH a2 t.nW a3 t.m t) (hn:t.nH≤40∧t.nW≤40∧t.m≤41) (O:OkT t) (hP:prodW t t.m 0≤2000) (b:Option Addr) (m cb:Nat) (pre:List Int) (W:Ints p b m pre) (hD:Pre t pre) (f:Nat) (hf:m+f=t.m) (hrec: ∀ f',f=f'+1→DivC f'):CallsX Tryd.prog md 80 #[.agg #[.slice a1 t.nH c1,.slice a2 t.nW c2,.slice a3 t.m c3],.slice b m cb] h fun v h'=>∃ es X Z,OwnS 22 1 v es X∧Inn p es (divs t f pre) Z∧es.length=(divs t f pre).length∧(∀ u∈es.flatten,isOne u=true)∧New h h' (X++(Z++[])):=by
 refine xcq (Φ:=fun h_=>St h [] p h_ []) Tryd.func80 rfl (tm:=zq32 (zq32 [])) rfl ?_ (St.start h _ hp)
 intro c₀ cs Stop K
 have hm:=W.len
 refine fsr ?_
 refine xix mn (v:=.agg #[.slice a1 t.nH c1,.slice a2 t.nW c2,.slice a3 t.m c3]) rfl fun b1=>xcz (L':=[(b1,.cells #[.slice a1 t.nH c1,.slice a2 t.nW c2,.slice a3 t.m c3] 25 (0,0))]) rfl ?_
 refine ro (xax (v:=.slice none 0 0) rfl) <| ren <| fsr <| rt (xaq (v:=.slice b m cb) rfl) (tm':=zq2 (zq8 _)) rfl <| ro (xfx Tryd.underlying22 rfl) <| ro (xaz xkq rfl (a':=⟨b1,2,none⟩) rfl) ?_
 refine xbz mn (fun h_ H_=>xaj H_ tA23 rfl (i:=0) rfl (v:=.slice a3 t.m c3) rfl) (tm':=zq1 (zq4 (zq8 _))) rfl ?_
 refine ro (xfx Tryd.underlying23 rfl) <| ro (xkz rfl rfl) <| xak ?_
 by_cases cc2:((m:Nat):Int)=((t.m:Nat):Int)
 ·
  refine xcw rfl (dtt cc2) <| fsr <| rt (xaq (v:=.slice b m cb) rfl) (tm':=zq16 _) rfl ?_
  refine xcz (L':=([(b1,.cells #[.slice a1 t.nH c1,.slice a2 t.nW c2,.slice a3 t.m c3] 25 (0,0))]:Pcs)++[]) rfl ?_
  refine xlv ([(b1,.cells #[.slice a1 t.nH c1,.slice a2 t.nW c2,.slice a3 t.m c3] 25 (0,0))]:Pcs) mn Tryd.underlying74 tS22 tZ22 (Nat.le_of_ble_eq_true rfl) (vs:=[(0,.slice b m cb)]) rfl rfl (es:=[[.slice b m cb]]) rfl rfl rfl fun v3 X4 o5=>?_
  refine ro (xax (v:=v3) rfl) <| xak ?_
  refine xdz Tryd.func80 rfl (vs:=[v3]) (fun h_ H_=>⟨v3,_,rfl,rfl,rfl⟩) (v:=v3) rfl ?_
  obtain rfl:f=0:=by omega
  exact fun h_ H_=>K _ _ ⟨_,_,[],o5,Inn.one W,rfl,(by simp [isOne]),by simpa using H_.dropA.new⟩
 ·
  refine xck rfl (dff cc2) <| xcv <| xek ?_
  obtain ⟨f0,rfl⟩: ∃ f0,f=f0+1:=⟨f-1,by omega⟩
  have hw_:=O.wok m (by omega)
  have hme_:=wqw O hm (by omega)
  have hmb_:=zmv hD O.toOk (by omega)
  have hb1_:0≤drawI t pre pre.length (t.wy.getD m wz).1∧drawI t pre pre.length (t.wy.getD m wz).1≤1000*pre.length:=xwk fun i hi=>hD.small O.toOk i hi
  have hb2_:0≤giveI t pre pre.length (t.wy.getD m wz).2∧giveI t pre pre.length (t.wy.getD m wz).2≤1000*pre.length:=xwk fun i hi=>hD.small O.toOk i hi
  have hh_:0≤t.hs.getD (t.wy.getD m wz).1.toNat 0∧t.hs.getD (t.wy.getD m wz).1.toNat 0≤9:=O.h _ hw_.1.2
  have hv_:0≤t.ws.getD (t.wy.getD m wz).2.toNat 0∧t.ws.getD (t.wy.getD m wz).2.toNat 0≤21:=O.w _ hw_.2.2
  refine xbq <| rt (xaz xkq rfl (a':=⟨b1,2,none⟩) rfl) (tm':=zq2 (zq16 _)) rfl <| rd (fun h_ H_=>xaj H_ tA23 rfl (i:=0) rfl (v:=.slice a3 t.m c3) rfl) <| ro (xaq (v:=.slice b m cb) rfl) <| rt (xfx Tryd.underlying22 rfl) (tm':=zq1 (zq4 (zq16 _))) rfl ?_
  refine ro (xbw (i:=m) Tryd.underlying23 tS43 (xjz a3 t.m c3 (T.y.ne (by omega))) rfl (by omega)) ?_
  refine rd (fun h_ H_=>xhq H_ tA43 tS43 rfl (vs:=[.int .i64 ((t.wy.getD m wz).1),.int .i64 ((t.wy.getD m wz).2)]) rfl (T.y.all (by omega))) ?_
  refine xkx mn tZ43 rfl fun b6=>xcz (L':=[(b6,.cells #[.int .i64 0,.int .i64 0] 43 (0,0)),(b1,.cells #[.slice a1 t.nH c1,.slice a2 t.nW c2,.slice a3 t.m c3] 25 (0,0))]) rfl ?_
  refine xgq (tm':=zq2 (zq4 _)) rfl ?_
  refine xiz mn tS43 rfl (v:=.agg #[.int .i64 ((t.wy.getD m wz).1),.int .i64 ((t.wy.getD m wz).2)]) rfl (i:=0) rfl rfl rfl (Nat.le_of_ble_eq_true rfl) (cs2:=[.int .i64 ((t.wy.getD m wz).1),.int .i64 ((t.wy.getD m wz).2)]) rfl (xcz (L':=[(b6,.cells #[.int .i64 ((t.wy.getD m wz).1),.int .i64 ((t.wy.getD m wz).2)] 43 (0,0)),(b1,.cells #[.slice a1 t.nH c1,.slice a2 t.nW c2,.slice a3 t.m c3] 25 (0,0))]) rfl ?_)
  refine ren ?_
  refine xgz 24 [[],[0],[],[2],[0,1,2,3],[0,1,2,3,4],[],[],[],[8],[6,7,8,9],[0,1,2,3,4,5],[],[12],[],[14],[12,13,14,15],[12,13,14,15,16],[],[],[],[20],[6,7,8,9,10,18,19,20,21],[6,7,8,9,10,12,13,14,15,16,17,18,19,20,21,22],[],[]] xlq (by kernel_rfl) (Nat.le_of_ble_eq_true rfl) ?_
  refine wo (xaz xoq rfl (a':=⟨b1,0,none⟩) rfl) ?_
  refine xbv mn (fun h_ H_=>xaj H_ tA22 rfl (i:=1) rfl (v:=.slice a1 t.nH c1) rfl) (tm':=zq1 (zq8 (zq16 _))) rfl ?_
  refine wo (xaz xov rfl (a':=⟨b6,0,none⟩) rfl) ?_
  refine xbv mn (fun h_ H_=>xaj H_ tA3 rfl (i:=0) rfl (v:=.int .i64 ((t.wy.getD m wz).1)) rfl) (tm':=zq1 (zq2 (zq8 (zq16 _)))) rfl ?_
  refine wo (xlj Tryd.underlying22 tS3 (xjz a1 t.nH c1 (T.h.ne (by omega))) rfl (by omega) (by omega) (a':=(adr a1).add (((((t.wy.getD m wz).1)).toNat)*1)) rfl) ?_
  refine xbv mn (fun h_ H_=>xbj H_ tA3 rfl (v:=.int .i64 (t.hs.getD ((((t.wy.getD m wz).1)).toNat) 0)) (T.h.get (by omega))) (tm':=zq1 (zq4 (zq8 (zq16 _)))) rfl ?_
  refine wd (fun h_ H_=>xav H_ tA25 tS25 rfl (i:=1) rfl (vs:=[.slice a1 t.nH c1,.slice a2 t.nW c2,.slice a3 t.m c3]) rfl rfl) <| wt (xaq (v:=.slice b m cb) rfl) (tm':=zq1 (zq2 (zq4 (zq8 (zq16 _))))) rfl <| wo (xaz xov rfl (a':=⟨b6,0,none⟩) rfl) ?_
  refine xbv mn (fun h_ H_=>xaj H_ tA3 rfl (i:=0) rfl (v:=.int .i64 ((t.wy.getD m wz).1)) rfl) (tm':=zq1 (zq32 _)) rfl ?_
  refine xjq mn (first:=[]) (cap:=[]) rfl rfl fC34 (fun h_ H_=>(c34 md _ _ H_.pe _ _ _ _ _ _ _ _ _ t (show TownP _ _ _ _ _ _ _ t from ⟨T.h,T.w,T.y⟩) (by omega) _ _ _ _ W (by omega) (fun i hi=>hD.small O.toOk i (by omega)) ((t.wy.getD m wz).1)).mono fun v_ h2_ ⟨e_,k_⟩=>⟨e_,H_.call k_⟩) rfl ?_
  refine wt (xjj rfl rfl (wr (by omega))) (tm':=zq1 (zq2 (zq32 _))) rfl ?_
  refine wo (xaz xqk rfl (a':=⟨b1,1,none⟩) rfl) ?_
  refine xbv mn (fun h_ H_=>xaj H_ tA22 rfl (i:=1) rfl (v:=.slice a2 t.nW c2) rfl) (tm':=zq1 (zq4 (zq32 _))) rfl ?_
  refine wo (xaz xrk rfl (a':=⟨b6,1,none⟩) rfl) ?_
  refine xbv mn (fun h_ H_=>xaj H_ tA3 rfl (i:=0) rfl (v:=.int .i64 ((t.wy.getD m wz).2)) rfl) (tm':=zq1 (zq2 (zq4 (zq32 _)))) rfl ?_
  refine wo (xlj Tryd.underlying22 tS3 (xjz a2 t.nW c2 (T.w.ne (by omega))) rfl (by omega) (by omega) (a':=(adr a2).add (((((t.wy.getD m wz).2)).toNat)*1)) rfl) ?_
  refine xbv mn (fun h_ H_=>xbj H_ tA3 rfl (v:=.int .i64 (t.ws.getD ((((t.wy.getD m wz).2)).toNat) 0)) (T.w.get (by omega))) (tm':=zq1 (zq8 (zq32 _))) rfl ?_
  refine wd (fun h_ H_=>xav H_ tA25 tS25 rfl (i:=1) rfl (vs:=[.slice a1 t.nH c1,.slice a2 t.nW c2,.slice a3 t.m c3]) rfl rfl) <| wt (xaq (v:=.slice b m cb) rfl) (tm':=zq32 (zq32 [])) rfl <| wo (xaz xrk rfl (a':=⟨b6,1,none⟩) rfl) ?_
  refine xbv mn (fun h_ H_=>xaj H_ tA3 rfl (i:=0) rfl (v:=.int .i64 ((t.wy.getD m wz).2)) rfl) (tm':=zq32 (zq32 [])) rfl ?_
  refine xjq mn (first:=[]) (cap:=[]) rfl rfl fC62 (fun h_ H_=>(c62 md _ _ H_.pe _ _ _ _ _ _ _ _ _ t (show TownP _ _ _ _ _ _ _ t from ⟨T.h,T.w,T.y⟩) (by omega) _ _ _ _ W (by omega) (fun i hi=>hD.small O.toOk i (by omega)) ((t.wy.getD m wz).2)).mono fun v_ h2_ ⟨e_,k_⟩=>⟨e_,H_.call k_⟩) rfl ?_
  refine wt (xjj rfl rfl (wr (by omega))) (tm':=zq32 (zq32 [])) rfl ?_
  refine xik rfl ?_
  refine ro (ziz rfl rfl) <| ro (xax (v:=.int .i64 (min ((t.hs.getD ((((t.wy.getD m wz).1)).toNat) 0)-(drawI t pre pre.length ((t.wy.getD m wz).1))) ((t.ws.getD ((((t.wy.getD m wz).2)).toNat) 0)-(giveI t pre pre.length ((t.wy.getD m wz).2))))) rfl) <| ren <| xbq <| rt (xax (v:=.slice none 0 0) rfl) (tm':=zq8 _) rfl <| ren ?_
  refine fsr <| ro (xax (v:=.int .i64 0) rfl) <| xak <| xex ?_
  refine xiq (m₀:=(most t pre+1).toNat-0) (fun m_ tm_ h_=>∃ (j:Nat) (w:Value) (es:List (List Value)) (X:Pcs) (Z:Pcs),m_=(most t pre+1).toNat-j∧(∃ y7:Nat→Value,tm_=[.agg #[.slice a1 t.nH c1,.slice a2 t.nW c2,.slice a3 t.m c3],.slice b m cb,.pointer (some ⟨b1,0,none⟩),undef,.slice none 0 0,.pointer (some ⟨b6,0,none⟩),.int .i64 (min ((t.hs.getD ((((t.wy.getD m wz).1)).toNat) 0)-(drawI t pre pre.length ((t.wy.getD m wz).1))) ((t.ws.getD ((((t.wy.getD m wz).2)).toNat) 0)-(giveI t pre pre.length ((t.wy.getD m wz).2)))),w,.int .i64 (((j:Nat):Int)),.slice b m cb,.int .i64 (((m:Nat):Int)),.pointer (some ⟨b1,2,none⟩),.slice a3 t.m c3,.int .i64 (((t.m:Nat):Int)),.bool (decide (((m:Nat):Int)=((t.m:Nat):Int))),undef,undef,.pointer (some ⟨b1,2,none⟩),.slice a3 t.m c3,.slice b m cb,.int .i64 (((m:Nat):Int)),.pointer (some ((adr a3).add (m*2))),.agg #[.int .i64 ((t.wy.getD m wz).1),.int .i64 ((t.wy.getD m wz).2)],.pointer (some ⟨b1,0,none⟩),.slice a1 t.nH c1,.pointer (some ⟨b6,0,none⟩),.int .i64 ((t.wy.getD m wz).1),.pointer (some ((adr a1).add (((((t.wy.getD m wz).1)).toNat)*1))),.int .i64 (t.hs.getD ((((t.wy.getD m wz).1)).toNat) 0),.agg #[.slice a1 t.nH c1,.slice a2 t.nW c2,.slice a3 t.m c3],.slice b m cb,.pointer (some ⟨b6,0,none⟩),.int .i64 ((t.wy.getD m wz).1),.int .i64 (drawI t pre pre.length ((t.wy.getD m wz).1)),.int .i64 ((t.hs.getD ((((t.wy.getD m wz).1)).toNat) 0)-(drawI t pre pre.length ((t.wy.getD m wz).1))),.pointer (some ⟨b1,1,none⟩),.slice a2 t.nW c2,.pointer (some ⟨b6,1,none⟩),.int .i64 ((t.wy.getD m wz).2),.pointer (some ((adr a2).add (((((t.wy.getD m wz).2)).toNat)*1))),.int .i64 (t.ws.getD ((((t.wy.getD m wz).2)).toNat) 0),.agg #[.slice a1 t.nH c1,.slice a2 t.nW c2,.slice a3 t.m c3],.slice b m cb,.pointer (some ⟨b6,1,none⟩),.int .i64 ((t.wy.getD m wz).2),.int .i64 (giveI t pre pre.length ((t.wy.getD m wz).2)),.int .i64 ((t.ws.getD ((((t.wy.getD m wz).2)).toNat) 0)-(giveI t pre pre.length ((t.wy.getD m wz).2))),.int .i64 (min ((t.hs.getD ((((t.wy.getD m wz).1)).toNat) 0)-(drawI t pre pre.length ((t.wy.getD m wz).1))) ((t.ws.getD ((((t.wy.getD m wz).2)).toNat) 0)-(giveI t pre pre.length ((t.wy.getD m wz).2)))),(y7 48),(y7 49),(y7 50),(y7 51),(y7 52),(y7 53),(y7 54),(y7 55),(y7 56),(y7 57),(y7 58),(y7 59),(y7 60),(y7 61),(y7 62),undef])∧(DInv p t f0 j pre w es X Z)∧St h [] p h_ (([(b6,.cells #[.int .i64 ((t.wy.getD m wz).1),.int .i64 ((t.wy.getD m wz).2)] 43 (0,0)),(b1,.cells #[.slice a1 t.nH c1,.slice a2 t.nW c2,.slice a3 t.m c3] 25 (0,0))]:Pcs)++(X++(Z++[])))) (fun h_ H_=>⟨0,_,_,[],[],rfl,(y_of rfl),⟨(by omega),OwnS.empty _ _,Inn.nil,rfl,(by simp)⟩,H_⟩) ?_
  intro m_ tm_ IH8
  refine xhk fun j=>xhk fun w=>xhk fun es=>xhk fun X=>xhk fun Z=>xcj fun hm_=>xcj fun ht_=>xcj fun hI=>?_
  subst hm_;obtain ⟨y7,ht_⟩:=ht_;subst ht_
  have hj:=hI.hj;have o:=hI.o;have i_:=hI.i;have el:=hI.el;have eo:=hI.eo
  refine xek <| fsr <| ro (xaq (v:=.int .i64 (((j:Nat):Int))) rfl) <| rt (xaq (v:=.int .i64 (min ((t.hs.getD ((((t.wy.getD m wz).1)).toNat) 0)-(drawI t pre pre.length ((t.wy.getD m wz).1))) ((t.ws.getD ((((t.wy.getD m wz).2)).toNat) 0)-(giveI t pre pre.length ((t.wy.getD m wz).2))))) rfl) (tm':=zq32 (zq32 [])) rfl <| ro (yck rfl rfl) <| xak ?_
  by_cases cc9:((j:Nat):Int)≤min ((t.hs.getD ((((t.wy.getD m wz).1)).toNat) 0)-(drawI t pre pre.length ((t.wy.getD m wz).1))) ((t.ws.getD ((((t.wy.getD m wz).2)).toNat) 0)-(giveI t pre pre.length ((t.wy.getD m wz).2)))
  ·
   refine xcw rfl (dtt cc9) <| xcv <| xek <| xex ?_
   obtain ⟨Gw12,Ges13,GX14,GZ15,hG8_⟩:=sk4 (fun (v_:Value) (x_:Pcs) (w12:Value) (es13:List (List Value)) (X14:Pcs) (Z15:Pcs)=>v_=w12∧(OwnS 22 1 w12 es13 X14)∧(Inn p es13 (divs t f0 (pre++[((j:Nat):Int)])) Z15)∧(es13.length=(divs t f0 (pre++[((j:Nat):Int)])).length)∧(∀ u∈es13.flatten,isOne u=true)∧x_=(X14++(Z15++[])))
   refine xzq (xmx (C:=[]) (A:=([(b6,.cells #[.int .i64 ((t.wy.getD m wz).1),.int .i64 ((t.wy.getD m wz).2)] 43 (0,0)),(b1,.cells #[.slice a1 t.nH c1,.slice a2 t.nW c2,.slice a3 t.m c3] 25 (0,0))]:Pcs)) 9 [[],[],[],[],[2,3],[],[5],[2,3,4,5,6],[1,2,3,4,5,6,7],[],[]] [9,10] [9,10,8] [0,1,3,5] (fun i_=>match i_ with | 9=>X | 10=>Z | _=>[]) (fun i_=>match i_ with | 4=>[2] | 7=>[4,6] | 8=>[7] | _=>[]) (fun i_=>match i_ with | 0=>[] | 1=>[] | 2=>[] | 3=>[] | 4=>[2,3] | 5=>[] | 6=>[5] | 7=>[4,6] | 8=>[1,7] | _=>[]) (fun i_ val_ pc_ v_ x_=>match i_ with | 0=>v_=w∧x_=[] | 1=>v_= .agg #[.slice a1 t.nH c1,.slice a2 t.nW c2,.slice a3 t.m c3]∧x_=[] | 2=>OwnS 3 1 v_ [] x_ | 3=>v_= .slice b m cb∧x_=[] | 4=>OwnS 3 1 v_ ([]++(pre.map fun x=>[Value.int .i64 x])) x_ | 5=>v_= .int .i64 (((j:Nat):Int))∧x_=[] | 6=>OwnS 3 1 v_ [[.int .i64 (((j:Nat):Int))]] x_ | 7=>OwnS 3 1 v_ (([]++(pre.map fun x=>[Value.int .i64 x]))++[[.int .i64 (((j:Nat):Int))]]) x_ | 8=>∃ w12:Value,∃ es13:List (List Value),∃ X14:Pcs,∃ Z15:Pcs,v_=w12∧(OwnS 22 1 w12 es13 X14)∧(Inn p es13 (divs t f0 (pre++[((j:Nat):Int)])) Z15)∧(es13.length=(divs t f0 (pre++[((j:Nat):Int)])).length)∧(∀ u∈es13.flatten,isOne u=true)∧x_=(X14++(Z15++[])) | _=>True) (fun val10=>[.agg #[.slice a1 t.nH c1,.slice a2 t.nW c2,.slice a3 t.m c3],.slice b m cb,.pointer (some ⟨b1,0,none⟩),undef,.slice none 0 0,.pointer (some ⟨b6,0,none⟩),.int .i64 (min ((t.hs.getD ((((t.wy.getD m wz).1)).toNat) 0)-(drawI t pre pre.length ((t.wy.getD m wz).1))) ((t.ws.getD ((((t.wy.getD m wz).2)).toNat) 0)-(giveI t pre pre.length ((t.wy.getD m wz).2)))),w,.int .i64 (((j:Nat):Int)),.slice b m cb,.int .i64 (((m:Nat):Int)),.pointer (some ⟨b1,2,none⟩),.slice a3 t.m c3,.int .i64 (((t.m:Nat):Int)),.bool (decide (((m:Nat):Int)=((t.m:Nat):Int))),undef,undef,.pointer (some ⟨b1,2,none⟩),.slice a3 t.m c3,.slice b m cb,.int .i64 (((m:Nat):Int)),.pointer (some ((adr a3).add (m*2))),.agg #[.int .i64 ((t.wy.getD m wz).1),.int .i64 ((t.wy.getD m wz).2)],.pointer (some ⟨b1,0,none⟩),.slice a1 t.nH c1,.pointer (some ⟨b6,0,none⟩),.int .i64 ((t.wy.getD m wz).1),.pointer (some ((adr a1).add (((((t.wy.getD m wz).1)).toNat)*1))),.int .i64 (t.hs.getD ((((t.wy.getD m wz).1)).toNat) 0),.agg #[.slice a1 t.nH c1,.slice a2 t.nW c2,.slice a3 t.m c3],.slice b m cb,.pointer (some ⟨b6,0,none⟩),.int .i64 ((t.wy.getD m wz).1),.int .i64 (drawI t pre pre.length ((t.wy.getD m wz).1)),.int .i64 ((t.hs.getD ((((t.wy.getD m wz).1)).toNat) 0)-(drawI t pre pre.length ((t.wy.getD m wz).1))),.pointer (some ⟨b1,1,none⟩),.slice a2 t.nW c2,.pointer (some ⟨b6,1,none⟩),.int .i64 ((t.wy.getD m wz).2),.pointer (some ((adr a2).add (((((t.wy.getD m wz).2)).toNat)*1))),.int .i64 (t.ws.getD ((((t.wy.getD m wz).2)).toNat) 0),.agg #[.slice a1 t.nH c1,.slice a2 t.nW c2,.slice a3 t.m c3],.slice b m cb,.pointer (some ⟨b6,1,none⟩),.int .i64 ((t.wy.getD m wz).2),.int .i64 (giveI t pre pre.length ((t.wy.getD m wz).2)),.int .i64 ((t.ws.getD ((((t.wy.getD m wz).2)).toNat) 0)-(giveI t pre pre.length ((t.wy.getD m wz).2))),.int .i64 (min ((t.hs.getD ((((t.wy.getD m wz).1)).toNat) 0)-(drawI t pre pre.length ((t.wy.getD m wz).1))) ((t.ws.getD ((((t.wy.getD m wz).2)).toNat) 0)-(giveI t pre pre.length ((t.wy.getD m wz).2)))),.int .i64 (((j:Nat):Int)),.int .i64 (min ((t.hs.getD ((((t.wy.getD m wz).1)).toNat) 0)-(drawI t pre pre.length ((t.wy.getD m wz).1))) ((t.ws.getD ((((t.wy.getD m wz).2)).toNat) 0)-(giveI t pre pre.length ((t.wy.getD m wz).2)))),.bool (decide (((j:Nat):Int)≤min ((t.hs.getD ((((t.wy.getD m wz).1)).toNat) 0)-(drawI t pre pre.length ((t.wy.getD m wz).1))) ((t.ws.getD ((((t.wy.getD m wz).2)).toNat) 0)-(giveI t pre pre.length ((t.wy.getD m wz).2))))),(y7 51),(y7 52),(val10 0),(val10 1),(val10 2),(val10 3),(val10 4),(val10 5),(val10 6),(val10 7),(val10 8),(y7 62),undef]) xlq (by kernel_rfl) (Nat.le_of_ble_eq_true rfl) (by kernel_rfl) (by kernel_rfl) (by kernel_rfl) (fun _ _=>⟨fun _ _ h=>h.2,⟨fun _ _ h=>h.2,⟨fun _ _ h=>h.2,⟨fun _ _ h=>h.2,trivial⟩⟩⟩⟩) (fun _=>by kernel_rfl) (by kernel_rfl) ?_ ?_) (fun h_ H_=>St.swap (A:=([(b6,.cells #[.int .i64 ((t.wy.getD m wz).1),.int .i64 ((t.wy.getD m wz).2)] 43 (0,0)),(b1,.cells #[.slice a1 t.nH c1,.slice a2 t.nW c2,.slice a3 t.m c3] 25 (0,0))]:Pcs)) (U:=(X++(Z++[]))) H_)
   ·
    refine xaw rfl (xdj ?_) ?_
    ·
     intro val10 pc11 hQ_ hX_
     obtain ⟨q_,hq0_⟩: ∃ q_:Value→Pcs→Prop,q_=(fun v_ x_=>v_=w∧x_=[]):=⟨_,rfl⟩
     refine ⟨(zq32 (zq32 [])),[],q_,rfl,rfl,(fun _ _ z_=>by subst hq0_;exact z_),?_⟩
     subst hq0_
     exact xdk mn (fun _ h_ H_=>xaq (v:=w) rfl) ⟨rfl,rfl⟩
    refine xaw rfl (xdj ?_) ?_
    ·
     intro val10 pc11 hQ_ hX_
     obtain ⟨q_,hq0_⟩: ∃ q_:Value→Pcs→Prop,q_=(fun v_ x_=>v_= .agg #[.slice a1 t.nH c1,.slice a2 t.nW c2,.slice a3 t.m c3]∧x_=[]):=⟨_,rfl⟩
     refine ⟨(zq32 (zq32 [])),[],q_,rfl,rfl,(fun _ _ z_=>by subst hq0_;exact z_),?_⟩
     subst hq0_
     exact xdk mn (fun _ h_ H_=>xav H_ tA25 tS25 rfl (i:=1) rfl (vs:=[.slice a1 t.nH c1,.slice a2 t.nW c2,.slice a3 t.m c3]) rfl rfl) ⟨rfl,rfl⟩
    refine xaw rfl (xdj ?_) ?_
    ·
     intro val10 pc11 hQ_ hX_
     obtain ⟨q_,hq0_⟩: ∃ q_:Value→Pcs→Prop,q_=(fun v_ x_=>OwnS 3 1 v_ [] x_):=⟨_,rfl⟩
     refine ⟨(zq32 (zq32 [])),[],q_,rfl,rfl,(fun _ _ z_=>by subst hq0_;exact z_),?_⟩
     subst hq0_
     exact xoj mn Tryd.underlying22 tS3 tZ3 (Nat.le_of_ble_eq_true rfl) (vs:=[]) rfl rfl (es:=[]) rfl rfl rfl fun _ _ o_=>o_
    refine xaw rfl (xdj ?_) ?_
    ·
     intro val10 pc11 hQ_ hX_
     obtain ⟨q_,hq0_⟩: ∃ q_:Value→Pcs→Prop,q_=(fun v_ x_=>v_= .slice b m cb∧x_=[]):=⟨_,rfl⟩
     refine ⟨(zq32 (zq32 [])),[],q_,rfl,rfl,(fun _ _ z_=>by subst hq0_;exact z_),?_⟩
     subst hq0_
     exact xdk mn (fun _ h_ H_=>xaq (v:=.slice b m cb) rfl) ⟨rfl,rfl⟩
    refine xaw rfl (xdj ?_) ?_
    ·
     intro val10 pc11 hQ_ hX_
     have q2_:OwnS 3 1 (val10 2) [] (pc11 2):=hQ_ 2 rfl
     have e3_:val10 3= .slice b m cb:=(hQ_ 3 rfl).1
     obtain ⟨q_,hq0_⟩: ∃ q_:Value→Pcs→Prop,q_=(fun v_ x_=>OwnS 3 1 v_ ([]++(pre.map fun x=>[Value.int .i64 x])) x_):=⟨_,rfl⟩
     refine ⟨(zq32 (zq32 [])),((pc11 2)++[]),q_,(by rw [e3_]),rfl,(fun _ _ z_=>by subst hq0_;exact z_),?_⟩
     subst hq0_
     exact xuw mn Tryd.underlying22 tS3 tZ3 rfl tB3 Tryd.underlying22 rfl rfl q2_ W (xtk _) (by first | exact yyx O.toOk hP hD (by omega) (by omega) el ‹_› | (simp;omega)) (by decide) (by decide) fun _ _ o_=>o_
    refine xaw rfl (xdj ?_) ?_
    ·
     intro val10 pc11 hQ_ hX_
     obtain ⟨q_,hq0_⟩: ∃ q_:Value→Pcs→Prop,q_=(fun v_ x_=>v_= .int .i64 (((j:Nat):Int))∧x_=[]):=⟨_,rfl⟩
     refine ⟨(zq32 (zq32 [])),[],q_,rfl,rfl,(fun _ _ z_=>by subst hq0_;exact z_),?_⟩
     subst hq0_
     exact xdk mn (fun _ h_ H_=>xaq (v:=.int .i64 (((j:Nat):Int))) rfl) ⟨rfl,rfl⟩
    refine xaw rfl (xdj ?_) ?_
    ·
     intro val10 pc11 hQ_ hX_
     have e5_:val10 5= .int .i64 (((j:Nat):Int)):=(hQ_ 5 rfl).1
     obtain ⟨q_,hq0_⟩: ∃ q_:Value→Pcs→Prop,q_=(fun v_ x_=>OwnS 3 1 v_ [[.int .i64 (((j:Nat):Int))]] x_):=⟨_,rfl⟩
     refine ⟨(zq32 (zq32 [])),[],q_,(by rw [e5_]),rfl,(fun _ _ z_=>by subst hq0_;exact z_),?_⟩
     subst hq0_
     exact xoj mn Tryd.underlying22 tS3 tZ3 (Nat.le_of_ble_eq_true rfl) (vs:=[(0,.int .i64 (((j:Nat):Int)))]) rfl rfl (es:=[[.int .i64 (((j:Nat):Int))]]) rfl rfl rfl fun _ _ o_=>o_
    refine xaw rfl (xdj ?_) ?_
    ·
     intro val10 pc11 hQ_ hX_
     have q4_:OwnS 3 1 (val10 4) ([]++(pre.map fun x=>[Value.int .i64 x])) (pc11 4):=hQ_ 4 rfl
     have q6_:OwnS 3 1 (val10 6) [[.int .i64 (((j:Nat):Int))]] (pc11 6):=hQ_ 6 rfl
     obtain ⟨q_,hq0_⟩: ∃ q_:Value→Pcs→Prop,q_=(fun v_ x_=>OwnS 3 1 v_ (([]++(pre.map fun x=>[Value.int .i64 x]))++[[.int .i64 (((j:Nat):Int))]]) x_):=⟨_,rfl⟩
     refine ⟨(zq32 (zq32 [])),((pc11 4)++((pc11 6)++[])),q_,rfl,rfl,(fun _ _ z_=>by subst hq0_;exact z_),?_⟩
     subst hq0_
     exact yiq mn Tryd.underlying22 tS3 tZ3 rfl tB3 Tryd.underlying22 rfl rfl q4_ q6_ (yhw rfl) (by first | exact yyx O.toOk hP hD (by omega) (by omega) el ‹_› | (simp;omega)) (by decide) fun _ _ o_=>o_
    refine xaw rfl (xdj ?_) ?_
    ·
     intro val10 pc11 hQ_ hX_
     have e1_:val10 1= .agg #[.slice a1 t.nH c1,.slice a2 t.nW c2,.slice a3 t.m c3]:=(hQ_ 1 rfl).1
     have q7_:OwnS 3 1 (val10 7) (([]++(pre.map fun x=>[Value.int .i64 x]))++[[.int .i64 (((j:Nat):Int))]]) (pc11 7):=hQ_ 7 rfl
     obtain ⟨q_,hq0_⟩: ∃ q_:Value→Pcs→Prop,q_=(fun v_ x_=>∃ w12:Value,∃ es13:List (List Value),∃ X14:Pcs,∃ Z15:Pcs,v_=w12∧(OwnS 22 1 w12 es13 X14)∧(Inn p es13 (divs t f0 (pre++[((j:Nat):Int)])) Z15)∧(es13.length=(divs t f0 (pre++[((j:Nat):Int)])).length)∧(∀ u∈es13.flatten,isOne u=true)∧x_=(X14++(Z15++[]))):=⟨_,rfl⟩
     refine ⟨(zq32 (zq32 [])),((pc11 7)++[]),q_,(by rw [e1_]),rfl,(fun _ _ z_=>by subst hq0_;exact z_),?_⟩
     subst hq0_
     exact xpq mn (first:=[]) (cap:=[]) rfl rfl fC80 (fun _ h_ H_=>wyq (hrec _ rfl) (pre:=pre++[((j:Nat):Int)]) (q7_.as (by simp)) (show TownP _ _ _ _ _ _ _ t from ⟨T.h,T.w,T.y⟩) hn O hP (hD.next (by omega) (by omega) (by omega)) (by simp;omega) (by simp) H_)
    exact xlw rfl
   intro val10 pc11 hQ_ hX_
   have e0_:val10 0=w:=(hQ_ 0 (by decide)).1
   have e1_:val10 1= .agg #[.slice a1 t.nH c1,.slice a2 t.nW c2,.slice a3 t.m c3]:=(hQ_ 1 (by decide)).1
   have e3_:val10 3= .slice b m cb:=(hQ_ 3 (by decide)).1
   have e5_:val10 5= .int .i64 (((j:Nat):Int)):=(hQ_ 5 (by decide)).1
   obtain ⟨e8_,o16,i17,el18,eo19,x8_⟩:=hG8_ _ _ (hQ_ 8 (by decide))
   have x9_:pc11 9=X:=hX_ 9 (by decide)
   have x10_:pc11 10=Z:=hX_ 10 (by decide)
   clear hQ_ hX_
   generalize Gw12 (val10 8) (pc11 8)=w12 at*
   generalize Ges13 (val10 8) (pc11 8)=es13 at*
   generalize GX14 (val10 8) (pc11 8)=X14 at*
   generalize GZ15 (val10 8) (pc11 8)=Z15 at*
   refine xxz (Φ:=fun h_=>St h [] p h_ (([(b6,.cells #[.int .i64 ((t.wy.getD m wz).1),.int .i64 ((t.wy.getD m wz).2)] 43 (0,0)),(b1,.cells #[.slice a1 t.nH c1,.slice a2 t.nW c2,.slice a3 t.m c3] 25 (0,0))]:Pcs)++(pc11 9++(pc11 10++(pc11 8++[]))))) ?_ (fun h_ H_=>H_.swap')
   rw [x9_,x10_,x8_]
   refine xcz (L':=([(b6,.cells #[.int .i64 ((t.wy.getD m wz).1),.int .i64 ((t.wy.getD m wz).2)] 43 (0,0)),(b1,.cells #[.slice a1 t.nH c1,.slice a2 t.nW c2,.slice a3 t.m c3] 25 (0,0))]:Pcs)++(X++(Z++(X14++(Z15++[]))))) (by simp) ?_
   refine xgq (tm':=(zq32 (zq32 []))) (by rw [e0_,e1_,e3_,e5_,e8_]) ?_
   refine xpv (List.Perm.append_left _ (List.Perm.append_left _ (List.perm_append_comm_assoc _ _ _))) ?_
   refine xcz (L':=([(b6,.cells #[.int .i64 ((t.wy.getD m wz).1),.int .i64 ((t.wy.getD m wz).2)] 43 (0,0)),(b1,.cells #[.slice a1 t.nH c1,.slice a2 t.nW c2,.slice a3 t.m c3] 25 (0,0))]:Pcs)++(X++(X14++(Z++(Z15++[]))))) rfl ?_
   refine yaz ([(b6,.cells #[.int .i64 ((t.wy.getD m wz).1),.int .i64 ((t.wy.getD m wz).2)] 43 (0,0)),(b1,.cells #[.slice a1 t.nH c1,.slice a2 t.nW c2,.slice a3 t.m c3] 25 (0,0))]:Pcs) X X14 mn Tryd.underlying74 tS22 tZ22 rfl tB22 Tryd.underlying74 rfl rfl o o16 eo19 (by first | exact yyx O.toOk hP hD (by omega) (by omega) el ‹_› | (simp;omega)) (by decide) fun v26 X27 o28=>?_
   refine ro (xax (v:=v26) rfl) <| xak <| xdx <| xbq <| rt (xaq (v:=.int .i64 (((j:Nat):Int))) rfl) (tm':=zq32 (zq32 [])) rfl ?_
   refine ro (xev rfl rfl (n:=((j+1:Nat):Int)) (wr (by omega))) ?_
   refine ro (xax (v:=.int .i64 (((j+1:Nat):Int))) rfl) <| xak ?_
   refine xkw (L':=([(b6,.cells #[.int .i64 ((t.wy.getD m wz).1),.int .i64 ((t.wy.getD m wz).2)] 43 (0,0)),(b1,.cells #[.slice a1 t.nH c1,.slice a2 t.nW c2,.slice a3 t.m c3] 25 (0,0))]:Pcs)++(X27++((Z++Z15)++[]))) (by simp) ?_
   exact fun h_ H_=>IH8 _ _ (by omega) h_ ⟨j+1,v26,_,X27,(Z++Z15),rfl,(y_of rfl),⟨(by omega),o28,((i_.app i17).as (by rw [yrq]) rfl),(by rw [List.length_append,el,el18,yrq,List.length_append]),(wgz eo eo19)⟩,H_⟩
  ·
   refine xck rfl (dff cc9) <| xhv rfl <| fsr <| rt (xaq (v:=w) rfl) (tm':=zq32 (zq32 [])) rfl <| ro (xax (v:=w) rfl) <| xak ?_
   refine xdz Tryd.func80 rfl (vs:=[w]) (fun h_ H_=>⟨w,_,rfl,rfl,rfl⟩) (v:=w) rfl ?_
   have hjj:j=(most t pre+1).toNat:=by omega
   subst hjj
   exact fun h_ H_=>K _ _ ⟨_,_,_,o,i_,el,eo,by simpa using H_.dropA.new⟩
theorem wcq: ∀ f,DivC f
 | 0=>fun md h p hp a1 a2 a3 c1 c2 c3 t T hn O hP b m cb pre W D hf=>c80s md h p hp a1 a2 a3 c1 c2 c3 t T hn O hP b m cb pre W D 0 hf fun f' e=>by omega
 | f+1=>fun md h p hp a1 a2 a3 c1 c2 c3 t T hn O hP b m cb pre W D hf=>c80s md h p hp a1 a2 a3 c1 c2 c3 t T hn O hP b m cb pre W D (f+1) hf fun f' e=>by
  obtain rfl:f=f':=by omega
  exact wcq f
theorem c80w (md:Md) (h:Heap) (p:PHeap) (hp:Per p h) (a1 a2 a3:Option Addr) (c1 c2 c3:Nat) (t:Tn) (T:TownP p a1 t.nH a2 t.nW a3 t.m t) (hn:t.nH≤40∧t.nW≤40∧t.m≤41) (O:OkT t) (hP:prodW t t.m 0≤2000):CallsX Tryd.prog md 80 #[.agg #[.slice a1 t.nH c1,.slice a2 t.nW c2,.slice a3 t.m c3],.slice none 0 0] h fun v h'=>∃ w es X Z,v=w∧OwnS 22 1 w es X∧Inn p es (allD t) Z∧es.length=(allD t).length∧New h h' (X++(Z++[])):=
 (wcq _ md h p hp a1 a2 a3 c1 c2 c3 t T hn O hP none 0 0 [] (whv p) (Pre.nil O.toOk) (by omega)).mono fun v h' ⟨es,X,Z,o,i,el,_,N⟩=>⟨v,es,X,Z,rfl,o,i,el,N⟩
end Go.Proofs.YtalfgojocdonhaaDoor
namespace Go.Proofs.YtalfgojocdonhaaDoor
open Go.X Go.X.Flow Go.Conc
set_option maxRecDepth 10000
set_option synthInstance.maxSize 2000

set_option maxHeartbeats 2000000
theorem c82 (md:Md) (h:Heap) (p:PHeap) (hp:Per p h) (a1 a2 a3:Option Addr) (c1 c2 c3:Nat) (t:Tn) (T:TownP p a1 t.nH a2 t.nW a3 t.m t) (hn:t.nH≤40∧t.nW≤40∧t.m≤41) (O:OkT t) (hP:prodW t t.m 0≤2000):CallsX Tryd.prog md 82 #[.agg #[.slice a1 t.nH c1,.slice a2 t.nW c2,.slice a3 t.m c3]] h fun v h'=>∃ w X,v=w∧OwnS 3 1 w (ics (LK t)) X∧New h h' X:=by
 refine xcq (Φ:=fun h_=>St h [] p h_ []) Tryd.func82 rfl (tm:=zq1 (zq2 (zq4 (zq8 (zq16 []))))) rfl ?_ (St.start h _ hp)
 intro c₀ cs Stop K
 have hap_:=ydq O.toOk
 have hal_:=ydx O.toOk hP
 refine fsr ?_
 refine xix mn (v:=.agg #[.slice a1 t.nH c1,.slice a2 t.nW c2,.slice a3 t.m c3]) rfl fun b1=>xcz (L':=[(b1,.cells #[.slice a1 t.nH c1,.slice a2 t.nW c2,.slice a3 t.m c3] 25 (0,0))]) rfl ?_
 refine ro (xax (v:=.slice none 0 0) rfl) <| ren <| xbq ?_
 refine xbz mn (fun h_ H_=>xav H_ tA25 tS25 rfl (i:=0) rfl (vs:=[.slice a1 t.nH c1,.slice a2 t.nW c2,.slice a3 t.m c3]) rfl rfl) (tm':=zq8 _) rfl ?_
 refine xcz (L':=([(b1,.cells #[.slice a1 t.nH c1,.slice a2 t.nW c2,.slice a3 t.m c3] 25 (0,0))]:Pcs)++[]) rfl ?_
 refine xjk mn (first:=[]) (cap:=[]) rfl rfl fC80 (R:=fun v_ h_=>∃ w2:Value,∃ es3:List (List Value),∃ X4:Pcs,∃ Z5:Pcs,v_=w2∧(OwnS 22 1 w2 es3 X4)∧(Inn p es3 (allD t) Z5)∧(es3.length=(allD t).length)∧St h [] p h_ (([(b1,.cells #[.slice a1 t.nH c1,.slice a2 t.nW c2,.slice a3 t.m c3] 25 (0,0))]:Pcs)++((X4++(Z5++[]))++[]))) (fun h_ H_=>(c80w md _ _ H_.pe _ _ _ _ _ _ t (show TownP _ _ _ _ _ _ _ t from ⟨T.h,T.w,T.y⟩) (by omega) O hP).mono fun v_ h2_ ⟨w2,es3,X4,Z5,e_,o6,i7,el8,N_⟩=>⟨w2,es3,X4,Z5,e_,o6,i7,el8,H_.callNA N_⟩) fun v_=>?_
 refine xgw fun w2=>xgw fun es3=>xgw fun X4=>xgw fun Z5=>xfq fun ev_=>xfq fun o6=>xfq fun i7=>xfq fun el8=>?_
 have ev_:=ev_.symm;subst ev_
 refine xcz (L':=([(b1,.cells #[.slice a1 t.nH c1,.slice a2 t.nW c2,.slice a3 t.m c3] 25 (0,0))]:Pcs)++(X4++(Z5++[]))) (by simp) ?_
 refine ro (xax (v:=w2) rfl) <| ren ?_
 refine xfw (List.Perm.append_left _ (List.perm_append_comm_assoc _ _ _)) ?_
 refine xkw (L':=([(b1,.cells #[.slice a1 t.nH c1,.slice a2 t.nW c2,.slice a3 t.m c3] 25 (0,0))]:Pcs)++(Z5++(X4++[]))) rfl ?_
 refine yaq (A:=([(b1,.cells #[.slice a1 t.nH c1,.slice a2 t.nW c2,.slice a3 t.m c3] 25 (0,0))]:Pcs)) (Z:=Z5) fun p9 le10 hz11=>?_
 refine xmk (A:=([(b1,.cells #[.slice a1 t.nH c1,.slice a2 t.nW c2,.slice a3 t.m c3] 25 (0,0))]:Pcs)) o6 el8 fun p15 a16 cp17 le18 ev_ D19=>?_
 subst ev_
 refine xkw (L':=[(b1,.cells #[.slice a1 t.nH c1,.slice a2 t.nW c2,.slice a3 t.m c3] 25 (0,0))]) rfl ?_
 obtain ⟨A13,C14,T_⟩:=(i7 _ (le10.trans le18) (fun x_ hx_=>le18 _ _ (hz11 x_ hx_))).tab D19
 have T12:=Tab1.const (n:=t.m) T_ (fun i_ hi_=>(yrw O.toOk hi_).len);clear T_
 refine xgz 4 [[],[],[1],[1,2],[],[]] xlq (by kernel_rfl) (Nat.le_of_ble_eq_true rfl) ?_
 refine xbv mn (fun h_ H_=>xav H_ tA25 tS25 rfl (i:=0) rfl (vs:=[.slice a1 t.nH c1,.slice a2 t.nW c2,.slice a3 t.m c3]) rfl rfl) (tm':=zq2 (zq8 _)) rfl ?_
 refine wo (xaq (v:=.slice a16 ((allD t).length) cp17) rfl) ?_
 refine wt (xbw (i:=0) Tryd.underlying74 tS22 (xjz a16 ((allD t).length) cp17 (T12.ne (by omega))) rfl (by omega)) (tm':=zq4 (zq8 _)) rfl ?_
 refine wd (fun h_ H_=>xbj H_ tA22 rfl (v:=.slice (A13 0) t.m (C14 0)) (T12.cell _ (by omega))) ?_
 refine xik rfl ?_
 refine xcz (L':=([(b1,.cells #[.slice a1 t.nH c1,.slice a2 t.nW c2,.slice a3 t.m c3] 25 (0,0))]:Pcs)++[]) rfl ?_
 refine xjk mn (first:=[]) (cap:=[]) rfl rfl fC45 (R:=fun v_ h_=>∃ w20:Value,∃ X21:Pcs,v_=w20∧(OwnS 3 1 w20 (ics (lacks t ((allD t).getD 0 []))) X21)∧St h [] p15 h_ (([(b1,.cells #[.slice a1 t.nH c1,.slice a2 t.nW c2,.slice a3 t.m c3] 25 (0,0))]:Pcs)++(X21++[]))) (fun h_ H_=>(c45 md _ _ H_.pe _ _ _ _ _ _ _ _ _ t (show TownP _ _ _ _ _ _ _ t from ⟨((T.h.mono le10).mono le18),((T.w.mono le10).mono le18),((T.y.mono le10).mono le18)⟩) (by omega) _ _ _ _ (T12.ints _ (by omega)) rfl (ygv O.toOk (by omega)) O.wok (fun i hi=>by have z_:=O.h i hi;unfold Tn.hv at z_;omega)).mono fun v_ h2_ ⟨w20,X21,e_,o22,N_⟩=>⟨w20,X21,e_,o22,H_.callNA N_⟩) fun v_=>?_
 refine xgw fun w20=>xgw fun X21=>xfq fun ev_=>xfq fun o22=>?_
 have ev_:=ev_.symm;subst ev_
 refine xcz (L':=([(b1,.cells #[.slice a1 t.nH c1,.slice a2 t.nW c2,.slice a3 t.m c3] 25 (0,0))]:Pcs)++(X21++[])) rfl ?_
 refine ro (xax (v:=w20) rfl) <| ren <| fsr <| rt (xax (v:=.int .i64 0) rfl) (tm':=zq2 (zq4 _)) rfl <| xak <| xex ?_
 refine xiq (m₀:=(allD t).length-0) (fun m_ tm_ h_=>∃ (k:Nat) (w_:Value) (X1_:Pcs),m_=(allD t).length-k∧(∃ y23:Nat→Value,tm_=[.agg #[.slice a1 t.nH c1,.slice a2 t.nW c2,.slice a3 t.m c3],.pointer (some ⟨b1,0,none⟩),.slice none 0 0,.slice a16 ((allD t).length) cp17,w_,.int .i64 (((k:Nat):Int)),(y23 6),.agg #[.slice a1 t.nH c1,.slice a2 t.nW c2,.slice a3 t.m c3],.slice a16 ((allD t).length) cp17,.agg #[.slice a1 t.nH c1,.slice a2 t.nW c2,.slice a3 t.m c3],.slice a16 ((allD t).length) cp17,.pointer (some ((adr a16).add (0*1))),.slice (A13 0) t.m (C14 0),w20,(y23 14),(y23 15),(y23 16),(y23 17),(y23 18),(y23 19),(y23 20),(y23 21),(y23 22),(y23 23),(y23 24),(y23 25),(y23 26),(y23 27),(y23 28),(y23 29),undef])∧(k≤(allD t).length)∧(OwnS 3 1 w_ (ics (bestK t k)) X1_)∧St h [] p15 h_ (([(b1,.cells #[.slice a1 t.nH c1,.slice a2 t.nW c2,.slice a3 t.m c3] 25 (0,0))]:Pcs)++(X1_++[]))) (fun h_ H_=>⟨0,w20,X21,rfl,(y_of rfl),Nat.zero_le _,o22,H_⟩) ?_
 intro m_ tm_ IH24
 refine xhk fun k=>xhk fun w_=>xhk fun X1_=>xcj fun hm_=>xcj fun ht_=>xcj fun hk=>xcj fun o1_=>?_
 subst hm_;obtain ⟨y23,ht_⟩:=ht_;subst ht_
 refine xek <| fsr <| ro (xaq (v:=.int .i64 (((k:Nat):Int))) rfl) <| ro (xaq (v:=.slice a16 ((allD t).length) cp17) rfl) <| rt (xfx Tryd.underlying74 rfl) (tm':=zq1 (zq16 _)) rfl <| ro (xgj rfl rfl) ?_
 refine xak ?_
 by_cases cc25:((k:Nat):Int)<(((allD t).length:Nat):Int)
 ·
  refine xcw rfl (dtt cc25) <| xcv <| xek <| xex <| xek ?_
  refine xgz 5 [[],[],[],[1,2],[1,2,3],[],[]] xlq (by kernel_rfl) (Nat.le_of_ble_eq_true rfl) ?_
  refine wd (fun h_ H_=>xav H_ tA25 tS25 rfl (i:=0) rfl (vs:=[.slice a1 t.nH c1,.slice a2 t.nW c2,.slice a3 t.m c3]) rfl rfl) <| wt (xaq (v:=.slice a16 ((allD t).length) cp17) rfl) (tm':=zq1 (zq2 (zq4 (zq8 (zq16 []))))) rfl <| wo (xaq (v:=.int .i64 (((k:Nat):Int))) rfl) ?_
  refine wt (xbw (i:=k) Tryd.underlying74 tS22 (xjz a16 ((allD t).length) cp17 (T12.ne (by omega))) rfl (by omega)) (tm':=zq1 (zq2 (zq4 (zq8 (zq16 []))))) rfl ?_
  refine wd (fun h_ H_=>xbj H_ tA22 rfl (v:=.slice (A13 k) t.m (C14 k)) (T12.cell _ (by omega))) ?_
  refine xik rfl ?_
  refine xjk mn (first:=[]) (cap:=[]) rfl rfl fC45 (R:=fun v_ h_=>∃ w26:Value,∃ X27:Pcs,v_=w26∧(OwnS 3 1 w26 (ics (lacks t ((allD t).getD k []))) X27)∧St h [] p15 h_ (([(b1,.cells #[.slice a1 t.nH c1,.slice a2 t.nW c2,.slice a3 t.m c3] 25 (0,0))]:Pcs)++(X27++(X1_++[])))) (fun h_ H_=>(c45 md _ _ H_.pe _ _ _ _ _ _ _ _ _ t (show TownP _ _ _ _ _ _ _ t from ⟨((T.h.mono le10).mono le18),((T.w.mono le10).mono le18),((T.y.mono le10).mono le18)⟩) (by omega) _ _ _ _ (T12.ints _ (by omega)) rfl (ygv O.toOk (by omega)) O.wok (fun i hi=>by have z_:=O.h i hi;unfold Tn.hv at z_;omega)).mono fun v_ h2_ ⟨w26,X27,e_,o28,N_⟩=>⟨w26,X27,e_,o28,H_.callNA N_⟩) fun v_=>?_
  refine xgw fun w26=>xgw fun X27=>xfq fun ev_=>xfq fun o28=>?_
  have ev_:=ev_.symm;subst ev_
  refine xcz (L':=([(b1,.cells #[.slice a1 t.nH c1,.slice a2 t.nW c2,.slice a3 t.m c3] 25 (0,0))]:Pcs)++(X27++(X1_++[]))) rfl ?_
  refine ro (xax (v:=w26) rfl) <| ren <| xbq <| rt (xaq (v:=w26) rfl) (tm':=zq1 (zq2 (zq4 (zq8 (zq16 []))))) rfl <| ro (xaq (v:=w_) rfl) ?_
  refine xeq mn (first:=[]) (cap:=[]) rfl rfl fC59 (fun h_ H_=>show CallsX Tryd.prog md 59 #[w26,w_] h_ (fun v_ h2_=>v_= .bool (decide (earlier (lacks t ((allD t).getD k [])) (bestK t k)=true))∧Keep h_ h2_) from wsx (n:=t.nH) (n':=t.nH) o28 ((xdq _).trans (xmq _ _)) o1_ ((xdq _).trans (wdx _ _)) H_ (fun x_ h_=>by simp at h_ ⊢;rcases h_ with h_ | h_ <;> simp [h_]) fun p_ a_ c_ a2_ c2_ hp_ le_ hv_ hv2_ D_ D2_=>by rw [hv_,hv2_];exact wtz md hp_ (show Ints _ _ _ (lacks t ((allD t).getD k [])) from D_) (show Ints _ _ _ (bestK t k) from D2_) (by omega)) rfl ?_
  refine xak ?_
  by_cases cc29:earlier (lacks t ((allD t).getD k [])) (bestK t k)=true
  ·
   refine xcw rfl (dtt cc29) <| xbq <| rt (xaq (v:=w26) rfl) (tm':=zq1 (zq2 (zq4 (zq8 (zq16 []))))) rfl <| ro (xax (v:=w26) rfl) <| xak <| xdx ?_
   refine xbq <| ro (xaq (v:=.int .i64 (((k:Nat):Int))) rfl) ?_
   refine rt (xev rfl rfl (n:=((k+1:Nat):Int)) (wr (by omega))) (tm':=zq4 (zq16 _)) rfl ?_
   refine ro (xax (v:=.int .i64 (((k+1:Nat):Int))) rfl) <| xak ?_
   refine xfw (List.Perm.append_left _ (List.perm_append_comm_assoc _ _ _)) ?_
   refine xkw (L':=([(b1,.cells #[.slice a1 t.nH c1,.slice a2 t.nW c2,.slice a3 t.m c3] 25 (0,0))]:Pcs)++(X1_++(X27++[]))) rfl ?_
   exact fun h_ H_=>IH24 _ _ (by omega) h_ ⟨k+1,w26,X27,rfl,(y_of rfl),(by omega),(o28.as (congrArg ics (wdq (by omega) (by assumption)))),H_.dropX⟩
  ·
   refine xck rfl (dff cc29) <| xcv <| xdx <| xbq <| ro (xaq (v:=.int .i64 (((k:Nat):Int))) rfl) ?_
   refine rt (xev rfl rfl (n:=((k+1:Nat):Int)) (wr (by omega))) (tm':=zq4 (zq16 _)) rfl ?_
   refine ro (xax (v:=.int .i64 (((k+1:Nat):Int))) rfl) <| xak ?_
   exact fun h_ H_=>IH24 _ _ (by omega) h_ ⟨k+1,w_,X1_,rfl,(y_of rfl),(by omega),(o1_.as (congrArg ics (wkk (by omega) (by assumption)))),H_.dropX⟩
 ·
  refine xck rfl (dff cc25) <| xhv rfl <| fsr <| ro (xaq (v:=w_) rfl) <| rt (xax (v:=w_) rfl) (tm':=_::_::_::_) rfl <| xak ?_
  refine xdz Tryd.func82 rfl (vs:=[w_]) (fun h_ H_=>⟨w_,_,rfl,rfl,rfl⟩) (v:=w_) rfl ?_
  have kE_:k=(allD t).length:=by omega
  exact fun h_ H_=>K _ _ ⟨_,_,rfl,o1_.as (congrArg ics (wdz O.toOk kE_)),by simpa using H_.dropA.new⟩
theorem c41 (md:Md) (h:Heap) (p:PHeap) (hp:Per p h) (a1 a2 a3:Option Addr) (c1 c2 c3:Nat) (t:Tn) (T:TownP p a1 t.nH a2 t.nW a3 t.m t) (hn:t.nH≤40∧t.nW≤40∧t.m≤41) (hc0:chkB t=0→prodW t t.m 0≤2000):CallsX Tryd.prog md 41 #[.agg #[.slice a1 t.nH c1,.slice a2 t.nW c2,.slice a3 t.m c3]] h fun v h'=>v= .tuple #[.int .i64 (mostC t),.int .i64 (chkB t)]∧Keep h h':=by
 refine xcq (Φ:=fun h_=>St h [] p h_ []) Tryd.func41 rfl (tm:=zq1 (zq4 (zq8 (zq16 [])))) rfl ?_ (St.start h _ hp)
 intro c₀ cs Stop K
 refine fsr ?_
 refine xix mn (v:=.agg #[.slice a1 t.nH c1,.slice a2 t.nW c2,.slice a3 t.m c3]) rfl fun b1=>xcz (L':=[(b1,.cells #[.slice a1 t.nH c1,.slice a2 t.nW c2,.slice a3 t.m c3] 25 (0,0))]) rfl ?_
 refine ro (xax (v:=.int .i64 0) rfl) <| rt (xax (v:=.int .i64 0) rfl) (tm':=zq4 _) rfl <| ren <| fsr <| rd (fun h_ H_=>xav H_ tA25 tS25 rfl (i:=0) rfl (vs:=[.slice a1 t.nH c1,.slice a2 t.nW c2,.slice a3 t.m c3]) rfl rfl) ?_
 refine xeq mn (first:=[]) (cap:=[]) rfl rfl fC48 (fun h_ H_=>c48 md _ _ H_.pe _ _ _ _ _ _ _ _ _ t (show TownP _ _ _ _ _ _ _ t from ⟨T.h,T.w,T.y⟩) (by omega)) rfl ?_
 refine rt (xax (v:=.int .i64 (chkB t)) rfl) (tm':=zq1 (zq4 _)) rfl <| ren <| xbq <| ro (xaq (v:=.int .i64 (chkB t)) rfl) <| ro (xjv rfl rfl) <| xak ?_
 by_cases cc2:chkB t≠0
 ·
  refine xcw rfl (dtt cc2) <| fsr <| rt (xaq (v:=.int .i64 (chkB t)) rfl) (tm':=zq1 (zq4 (zq8 _))) rfl <| ro (xax (v:=.int .i64 0) rfl) <| ro (xax (v:=.int .i64 (chkB t)) rfl) <| xak ?_
  refine xdz Tryd.func41 rfl (vs:=[.int .i64 0,.int .i64 (chkB t)]) (fun h_ H_=>⟨.int .i64 0,_,rfl,rfl,⟨.int .i64 (chkB t),_,rfl,rfl,rfl⟩⟩) (v:=.tuple #[.int .i64 0,.int .i64 (chkB t)]) rfl ?_
  exact fun h_ H_=>K _ _ ⟨by rw [mostC,if_neg ‹_›],H_.kept⟩
 ·
  refine xck rfl (dff cc2) <| xcv <| xek ?_
  have e0_:chkB t=0:=by omega
  have O:=xuq e0_
  have hP:=hc0 e0_
  have hap_:=ydq O.toOk
  have hal_:=ydx O.toOk hP
  refine xbq ?_
  refine xbz mn (fun h_ H_=>xav H_ tA25 tS25 rfl (i:=0) rfl (vs:=[.slice a1 t.nH c1,.slice a2 t.nW c2,.slice a3 t.m c3]) rfl rfl) (tm':=zq2 (zq4 (zq8 _))) rfl ?_
  refine xcz (L':=([(b1,.cells #[.slice a1 t.nH c1,.slice a2 t.nW c2,.slice a3 t.m c3] 25 (0,0))]:Pcs)++[]) rfl ?_
  refine xjk mn (first:=[]) (cap:=[]) rfl rfl fC80 (R:=fun v_ h_=>∃ w3:Value,∃ es4:List (List Value),∃ X5:Pcs,∃ Z6:Pcs,v_=w3∧(OwnS 22 1 w3 es4 X5)∧(Inn p es4 (allD t) Z6)∧(es4.length=(allD t).length)∧St h [] p h_ (([(b1,.cells #[.slice a1 t.nH c1,.slice a2 t.nW c2,.slice a3 t.m c3] 25 (0,0))]:Pcs)++((X5++(Z6++[]))++[]))) (fun h_ H_=>(c80w md _ _ H_.pe _ _ _ _ _ _ t (show TownP _ _ _ _ _ _ _ t from ⟨T.h,T.w,T.y⟩) (by omega) O hP).mono fun v_ h2_ ⟨w3,es4,X5,Z6,e_,o7,i8,el9,N_⟩=>⟨w3,es4,X5,Z6,e_,o7,i8,el9,H_.callNA N_⟩) fun v_=>?_
  refine xgw fun w3=>xgw fun es4=>xgw fun X5=>xgw fun Z6=>xfq fun ev_=>xfq fun o7=>xfq fun i8=>xfq fun el9=>?_
  have ev_:=ev_.symm;subst ev_
  refine xcz (L':=([(b1,.cells #[.slice a1 t.nH c1,.slice a2 t.nW c2,.slice a3 t.m c3] 25 (0,0))]:Pcs)++(X5++(Z6++[]))) (by simp) ?_
  refine ro (xax (v:=.int .i64 0) rfl) <| rt (xax (v:=w3) rfl) (tm':=zq1 (zq2 (zq4 _))) rfl <| ren <| xek ?_
  refine xfw (List.Perm.append_left _ (List.perm_append_comm_assoc _ _ _)) ?_
  refine xkw (L':=([(b1,.cells #[.slice a1 t.nH c1,.slice a2 t.nW c2,.slice a3 t.m c3] 25 (0,0))]:Pcs)++(Z6++(X5++[]))) rfl ?_
  refine yaq (A:=([(b1,.cells #[.slice a1 t.nH c1,.slice a2 t.nW c2,.slice a3 t.m c3] 25 (0,0))]:Pcs)) (Z:=Z6) fun p10 le11 hz12=>?_
  refine xmk (A:=([(b1,.cells #[.slice a1 t.nH c1,.slice a2 t.nW c2,.slice a3 t.m c3] 25 (0,0))]:Pcs)) o7 el9 fun p16 a17 cp18 le19 ev_ D20=>?_
  subst ev_
  refine xkw (L':=[(b1,.cells #[.slice a1 t.nH c1,.slice a2 t.nW c2,.slice a3 t.m c3] 25 (0,0))]) rfl ?_
  obtain ⟨A14,C15,T_⟩:=(i8 _ (le11.trans le19) (fun x_ hx_=>le19 _ _ (hz12 x_ hx_))).tab D20
  have T13:=Tab1.const (n:=t.m) T_ (fun i_ hi_=>(yrw O.toOk hi_).len);clear T_
  refine xbq <| ro (xax (v:=.int .i64 0) rfl) <| xak <| xex ?_
  refine xiq (m₀:=(allD t).length-0) (fun m_ tm_ h_=>∃ (k:Nat) (z_:Int),m_=(allD t).length-k∧(∃ y21:Nat→Value,tm_=[.agg #[.slice a1 t.nH c1,.slice a2 t.nW c2,.slice a3 t.m c3],.pointer (some ⟨b1,0,none⟩),.int .i64 0,.int .i64 0,.int .i64 (chkB t),.int .i64 (z_),.slice a17 ((allD t).length) cp18,.int .i64 (((k:Nat):Int)),.agg #[.slice a1 t.nH c1,.slice a2 t.nW c2,.slice a3 t.m c3],.int .i64 (chkB t),.int .i64 (chkB t),.bool (decide (chkB t≠0)),undef,.agg #[.slice a1 t.nH c1,.slice a2 t.nW c2,.slice a3 t.m c3],.slice a17 ((allD t).length) cp18,(y21 15),(y21 16),(y21 17),(y21 18),(y21 19),(y21 20),(y21 21),(y21 22),(y21 23),(y21 24),(y21 25),(y21 26),(y21 27),undef])∧(k≤(allD t).length)∧(z_=maxK t k)∧St h [] p16 h_ ([(b1,.cells #[.slice a1 t.nH c1,.slice a2 t.nW c2,.slice a3 t.m c3] 25 (0,0))])) (fun h_ H_=>⟨0,0,rfl,(y_of rfl),Nat.zero_le _,rfl,H_⟩) ?_
  intro m_ tm_ IH22
  refine xhk fun k=>xhk fun z_=>xcj fun hm_=>xcj fun ht_=>xcj fun hk=>xcj fun hz_=>?_
  subst hm_;obtain ⟨y21,ht_⟩:=ht_;subst ht_
  refine xek <| fsr <| ro (xaq (v:=.int .i64 (((k:Nat):Int))) rfl) <| rt (xaq (v:=.slice a17 ((allD t).length) cp18) rfl) (tm':=zq1 (zq16 _)) rfl <| ro (xfx Tryd.underlying74 rfl) <| ro (xgj rfl rfl) ?_
  refine xak ?_
  by_cases cc23:((k:Nat):Int)<(((allD t).length:Nat):Int)
  ·
   refine xcw rfl (dtt cc23) <| xcv <| xek <| xex <| xbq <| rt (xaq (v:=.int .i64 (z_)) rfl) (tm':=zq1 (zq4 (zq8 (zq16 [])))) rfl ?_
   refine ro (xaq (v:=.slice a17 ((allD t).length) cp18) rfl) <| ro (xaq (v:=.int .i64 (((k:Nat):Int))) rfl) ?_
   refine rt (xbw (i:=k) Tryd.underlying74 tS22 (xjz a17 ((allD t).length) cp18 (T13.ne (by omega))) rfl (by omega)) (tm':=zq1 (zq4 (zq8 (zq16 [])))) rfl ?_
   refine rd (fun h_ H_=>xbj H_ tA22 rfl (v:=.slice (A14 k) t.m (C15 k)) (T13.cell _ (by omega))) ?_
   refine xeq mn (first:=[]) (cap:=[]) rfl rfl fC32 (fun h_ H_=>c32 md _ _ H_.pe _ _ _ _ (T13.ints _ (by omega)) (by omega) (ygv O.toOk (by omega)) (by omega)) rfl ?_
   refine rt (wbj rfl rfl) (tm':=zq1 (zq4 (zq8 (zq16 [])))) rfl <| ro (xax (v:=.int .i64 (max z_ (sm t.m (dv ((allD t).getD k []))))) rfl) <| xak <| xdx <| xbq <| ro (xaq (v:=.int .i64 (((k:Nat):Int))) rfl) ?_
   refine rt (xev rfl rfl (n:=((k+1:Nat):Int)) (wr (by omega))) (tm':=zq1 (zq4 (zq8 (zq16 [])))) rfl ?_
   refine ro (xax (v:=.int .i64 (((k+1:Nat):Int))) rfl) <| xak ?_
   exact fun h_ H_=>IH22 _ _ (by omega) h_ ⟨k+1,max z_ (sm t.m (dv ((allD t).getD k []))),rfl,(y_of rfl),(by omega),(by rw [hz_];exact wrk (by omega)),H_⟩
  ·
   refine xck rfl (dff cc23) <| xhv rfl <| fsr <| ro (xaq (v:=.int .i64 (z_)) rfl) <| rt (xax (v:=.int .i64 (z_)) rfl) (tm':=_::_::_::_) rfl <| ro (xax (v:=.int .i64 0) rfl) ?_
   refine xak ?_
   refine xdz Tryd.func41 rfl (vs:=[.int .i64 (z_),.int .i64 0]) (fun h_ H_=>⟨.int .i64 (z_),_,rfl,rfl,⟨.int .i64 0,_,rfl,rfl,rfl⟩⟩) (v:=.tuple #[.int .i64 (z_),.int .i64 0]) rfl ?_
   have kE_:=whx O.toOk (k:=k) (by omega)
   exact fun h_ H_=>K _ _ ⟨by rw [mostC,if_pos e0_,e0_,hz_,kE_],H_.kept⟩
theorem c44 (md:Md) (h:Heap) (p:PHeap) (hp:Per p h) (a1 a2 a3:Option Addr) (c1 c2 c3:Nat) (t:Tn) (T:TownP p a1 t.nH a2 t.nW a3 t.m t) (hn:t.nH≤40∧t.nW≤40∧t.m≤41) (hc0:chkB t=0→prodW t t.m 0≤2000):CallsX Tryd.prog md 44 #[.agg #[.slice a1 t.nH c1,.slice a2 t.nW c2,.slice a3 t.m c3]] h fun v h'=>∃ w X,v= .tuple #[w,.int .i64 (chkB t)]∧OwnS 3 1 w (ics (LKc t)) X∧New h h' X:=by
 refine xcq (Φ:=fun h_=>St h [] p h_ []) Tryd.func44 rfl (tm:=zq4 (zq8 [])) rfl ?_ (St.start h _ hp)
 intro c₀ cs Stop K
 refine fsr ?_
 refine xix mn (v:=.agg #[.slice a1 t.nH c1,.slice a2 t.nW c2,.slice a3 t.m c3]) rfl fun b1=>xcz (L':=[(b1,.cells #[.slice a1 t.nH c1,.slice a2 t.nW c2,.slice a3 t.m c3] 25 (0,0))]) rfl ?_
 refine rt (xax (v:=.slice none 0 0) rfl) (tm':=_::_::_::_) rfl <| ro (xax (v:=.int .i64 0) rfl) <| ren <| fsr <| rd (fun h_ H_=>xav H_ tA25 tS25 rfl (i:=0) rfl (vs:=[.slice a1 t.nH c1,.slice a2 t.nW c2,.slice a3 t.m c3]) rfl rfl) ?_
 refine xeq mn (first:=[]) (cap:=[]) rfl rfl fC48 (fun h_ H_=>c48 md _ _ H_.pe _ _ _ _ _ _ _ _ _ t (show TownP _ _ _ _ _ _ _ t from ⟨T.h,T.w,T.y⟩) (by omega)) (tm':=zq1 (zq2 (zq4 _))) rfl ?_
 refine ro (xax (v:=.int .i64 (chkB t)) rfl) <| ren <| xbq <| ro (xaq (v:=.int .i64 (chkB t)) rfl) <| rt (xjv rfl rfl) (tm':=zq4 (zq8 [])) rfl <| xak ?_
 by_cases cc2:chkB t≠0
 ·
  refine xcw rfl (dtt cc2) <| fsr <| ro (xaq (v:=.int .i64 (chkB t)) rfl) <| ro (xax (v:=.slice none 0 0) rfl) <| rt (xax (v:=.int .i64 (chkB t)) rfl) (tm':=zq4 _) rfl <| xak ?_
  refine xdz Tryd.func44 rfl (vs:=[.slice none 0 0,.int .i64 (chkB t)]) (fun h_ H_=>⟨.slice none 0 0,_,rfl,rfl,⟨.int .i64 (chkB t),_,rfl,rfl,rfl⟩⟩) (v:=.tuple #[.slice none 0 0,.int .i64 (chkB t)]) rfl ?_
  exact fun h_ H_=>K _ _ ⟨_,[],rfl,by rw [zfq ‹_›];exact OwnS.empty _ _,(H_.sub (List.nil_sublist _)).new⟩
 ·
  refine xck rfl (dff cc2) <| xcv <| xek ?_
  have e0_:chkB t=0:=by omega
  have O:=xuq e0_
  have hP:=hc0 e0_
  have hap_:=ydq O.toOk
  have hal_:=ydx O.toOk hP
  refine xbq <| rd (fun h_ H_=>xav H_ tA25 tS25 rfl (i:=0) rfl (vs:=[.slice a1 t.nH c1,.slice a2 t.nW c2,.slice a3 t.m c3]) rfl rfl) ?_
  refine xcz (L':=([(b1,.cells #[.slice a1 t.nH c1,.slice a2 t.nW c2,.slice a3 t.m c3] 25 (0,0))]:Pcs)++[]) rfl ?_
  refine xjk mn (first:=[]) (cap:=[]) rfl rfl fC82 (R:=fun v_ h_=>∃ w3:Value,∃ X4:Pcs,v_=w3∧(OwnS 3 1 w3 (ics (LK t)) X4)∧St h [] p h_ (([(b1,.cells #[.slice a1 t.nH c1,.slice a2 t.nW c2,.slice a3 t.m c3] 25 (0,0))]:Pcs)++(X4++[]))) (fun h_ H_=>(c82 md _ _ H_.pe _ _ _ _ _ _ t (show TownP _ _ _ _ _ _ _ t from ⟨T.h,T.w,T.y⟩) (by omega) O hP).mono fun v_ h2_ ⟨w3,X4,e_,o5,N_⟩=>⟨w3,X4,e_,o5,H_.callNA N_⟩) fun v_=>?_
  refine xgw fun w3=>xgw fun X4=>xfq fun ev_=>xfq fun o5=>?_
  have ev_:=ev_.symm;subst ev_
  refine xcz (L':=([(b1,.cells #[.slice a1 t.nH c1,.slice a2 t.nW c2,.slice a3 t.m c3] 25 (0,0))]:Pcs)++(X4++[])) rfl ?_
  refine rt (xax (v:=w3) rfl) (tm':=_::_::_::_) rfl <| ro (xax (v:=.int .i64 0) rfl) <| xak ?_
  refine xdz Tryd.func44 rfl (vs:=[w3,.int .i64 0]) (fun h_ H_=>⟨w3,_,rfl,rfl,⟨.int .i64 0,_,rfl,rfl,rfl⟩⟩) (v:=.tuple #[w3,.int .i64 0]) rfl ?_
  exact fun h_ H_=>K _ _ ⟨_,_,by rw [e0_],o5.as (by rw [yyj e0_]),by simpa using H_.dropA.new⟩
theorem c42 (md:Md) (h:Heap) (p:PHeap) (hp:Per p h) (a1 a2 a3:Option Addr) (c1 c2 c3:Nat) (t:Tn) (T:TownP p a1 t.nH a2 t.nW a3 t.m t) (hn:t.nH≤40∧t.nW≤40∧t.m≤41) (hc0:chkB t=0→prodW t t.m 0≤2000):CallsX Tryd.prog md 42 #[.agg #[.slice a1 t.nH c1,.slice a2 t.nW c2,.slice a3 t.m c3]] h fun v h'=>v= .tuple #[.int .i64 (worstC t),.int .i64 (chkB t)]∧Keep h h':=by
 refine xcq (Φ:=fun h_=>St h [] p h_ []) Tryd.func42 rfl (tm:=zq2 (zq4 (zq16 []))) rfl ?_ (St.start h _ hp)
 intro c₀ cs Stop K
 refine fsr ?_
 refine xix mn (v:=.agg #[.slice a1 t.nH c1,.slice a2 t.nW c2,.slice a3 t.m c3]) rfl fun b1=>xcz (L':=[(b1,.cells #[.slice a1 t.nH c1,.slice a2 t.nW c2,.slice a3 t.m c3] 25 (0,0))]) rfl ?_
 refine rt (xax (v:=.int .i64 0) rfl) (tm':=_::_::_::_) rfl <| ro (xax (v:=.int .i64 0) rfl) <| ren <| xbq <| rd (fun h_ H_=>xav H_ tA25 tS25 rfl (i:=0) rfl (vs:=[.slice a1 t.nH c1,.slice a2 t.nW c2,.slice a3 t.m c3]) rfl rfl) ?_
 refine xcz (L':=([(b1,.cells #[.slice a1 t.nH c1,.slice a2 t.nW c2,.slice a3 t.m c3] 25 (0,0))]:Pcs)++[]) rfl ?_
 refine xjk mn (first:=[]) (cap:=[]) rfl rfl fC44 (R:=fun v_ h_=>∃ w2:Value,∃ X3:Pcs,v_= .tuple #[w2,.int .i64 (chkB t)]∧(OwnS 3 1 w2 (ics (LKc t)) X3)∧St h [] p h_ (([(b1,.cells #[.slice a1 t.nH c1,.slice a2 t.nW c2,.slice a3 t.m c3] 25 (0,0))]:Pcs)++(X3++[]))) (fun h_ H_=>(c44 md _ _ H_.pe _ _ _ _ _ _ t (show TownP _ _ _ _ _ _ _ t from ⟨T.h,T.w,T.y⟩) (by omega) hc0).mono fun v_ h2_ ⟨w2,X3,e_,o4,N_⟩=>⟨w2,X3,e_,o4,H_.callNA N_⟩) fun v_=>?_
 refine xgw fun w2=>xgw fun X3=>xfq fun ev_=>xfq fun o4=>?_
 have ev_:=ev_.symm;subst ev_
 refine xcz (L':=([(b1,.cells #[.slice a1 t.nH c1,.slice a2 t.nW c2,.slice a3 t.m c3] 25 (0,0))]:Pcs)++(X3++[])) rfl ?_
 refine xgq (tm':=zq1 (zq8 _)) rfl ?_
 refine ro (xaq (v:=.tuple #[w2,.int .i64 (chkB t)]) rfl) <| ro (xej rfl (v:=w2) rfl) <| rt (xej rfl (v:=.int .i64 (chkB t)) rfl) (tm':=zq1 (zq2 (zq8 _))) rfl <| ro (xax (v:=w2) rfl) <| ro (xax (v:=.int .i64 (chkB t)) rfl) <| ren ?_
 refine xek ?_
 refine xmk (A:=([(b1,.cells #[.slice a1 t.nH c1,.slice a2 t.nW c2,.slice a3 t.m c3] 25 (0,0))]:Pcs)) o4 ((xdq _).trans rfl) fun p5 a6 cp7 le8 ev_ D9=>?_
 subst ev_
 refine xkw (L':=[(b1,.cells #[.slice a1 t.nH c1,.slice a2 t.nW c2,.slice a3 t.m c3] 25 (0,0))]) rfl ?_
 refine xbq <| rt (xaq (v:=.int .i64 (chkB t)) rfl) (tm':=zq4 (zq8 _)) rfl <| ro (xjv rfl rfl) <| ro (xaq (v:=.bool (decide (chkB t≠0))) rfl) ?_
 by_cases cc10:chkB t≠0
 ·
  refine xfj (mo rfl rfl (dtt cc10)) (tm':=zq2 (zq4 (zq16 []))) rfl <| rp (mo rfl rfl (dtt cc10)) <| rp (mo rfl rfl (dtt cc10)) <| rt (xdv rfl (dtt cc10) (v:=.bool (true)) rfl) (tm':=zq2 (zq4 (zq16 []))) rfl <| xak <| xcw rfl rfl ?_
  refine fsr <| ro (xaq (v:=.int .i64 (chkB t)) rfl) <| ro (xax (v:=.int .i64 0) rfl) <| rt (xax (v:=.int .i64 (chkB t)) rfl) (tm':=zq4 _) rfl <| xak ?_
  refine xdz Tryd.func42 rfl (vs:=[.int .i64 0,.int .i64 (chkB t)]) (fun h_ H_=>⟨.int .i64 0,_,rfl,rfl,⟨.int .i64 (chkB t),_,rfl,rfl,rfl⟩⟩) (v:=.tuple #[.int .i64 0,.int .i64 (chkB t)]) rfl ?_
  exact fun h_ H_=>K _ _ ⟨by first | (rw [worstC,zfq ‹_›];rfl) | (rw [worstC,List.eq_nil_of_length_eq_zero (show (LKc t).length=0 by omega)];rfl),H_.kept⟩
 ·
  refine xbz (ms rfl rfl (dff cc10)) (fun h_ H_=>xaq (v:=.slice a6 ((LKc t).length) cp7) rfl) rfl ?_
  refine xbz (ms rfl rfl (dff cc10)) (fun h_ H_=>xfx Tryd.underlying22 rfl) rfl ?_
  refine xbz (ms rfl rfl (dff cc10)) (fun h_ H_=>xkz rfl rfl) (tm':=zq2 (zq4 (zq16 []))) rfl ?_
  refine ro (xez rfl (dff cc10) (v:=.bool (decide ((((LKc t).length:Nat):Int)=0))) rfl) <| xak ?_
  by_cases cc11:(((LKc t).length:Nat):Int)=0
  ·
   refine xcw rfl (dtt cc11) <| fsr <| ro (xaq (v:=.int .i64 (chkB t)) rfl) <| rt (xax (v:=.int .i64 0) rfl) (tm':=_::_::_::_) rfl <| ro (xax (v:=.int .i64 (chkB t)) rfl) <| xak ?_
   refine xdz Tryd.func42 rfl (vs:=[.int .i64 0,.int .i64 (chkB t)]) (fun h_ H_=>⟨.int .i64 0,_,rfl,rfl,⟨.int .i64 (chkB t),_,rfl,rfl,rfl⟩⟩) (v:=.tuple #[.int .i64 0,.int .i64 (chkB t)]) rfl ?_
   exact fun h_ H_=>K _ _ ⟨by first | (rw [worstC,zfq ‹_›];rfl) | (rw [worstC,List.eq_nil_of_length_eq_zero (show (LKc t).length=0 by omega)];rfl),H_.kept⟩
  ·
   refine xck rfl (dff cc11) <| xcv <| fsr <| ro (xaq (v:=.slice a6 ((LKc t).length) cp7) rfl) ?_
   refine rt (xbw (i:=0) Tryd.underlying22 tS3 (xjz a6 ((LKc t).length) cp7 ((show Ints _ _ _ (LKc t) from D9).ne (by omega))) rfl (by omega)) (tm':=zq2 (zq4 (zq16 []))) rfl ?_
   refine rd (fun h_ H_=>xbj H_ tA3 rfl (v:=.int .i64 ((LKc t).getD 0 0)) ((show Ints _ _ _ (LKc t) from D9).get (by omega))) ?_
   refine ro (xax (v:=.int .i64 ((LKc t).getD 0 0)) rfl) <| rt (xax (v:=.int .i64 0) rfl) (tm':=zq4 _) rfl <| xak ?_
   refine xdz Tryd.func42 rfl (vs:=[.int .i64 ((LKc t).getD 0 0),.int .i64 0]) (fun h_ H_=>⟨.int .i64 ((LKc t).getD 0 0),_,rfl,rfl,⟨.int .i64 0,_,rfl,rfl,rfl⟩⟩) (v:=.tuple #[.int .i64 ((LKc t).getD 0 0),.int .i64 0]) rfl ?_
   have e0_:chkB t=0:=by omega
   exact fun h_ H_=>K _ _ ⟨by rw [e0_];rfl,H_.kept⟩
end Go.Proofs.YtalfgojocdonhaaDoor
namespace Go.X
open Go.Conc
structure Fresh (h₀:Heap) (B₀:List Nat) (p:PHeap) (Z:Pcs):Prop where
  own: ∀ x∈Z,p x.1=none∧(h₀.size≤x.1∨x.1∈B₀)
  nod:(Z.map (·.1)).Nodup
theorem wfj {P:Program} {md:Md} {g:Goroutine} {Stop:Goroutine→Heap→Prop} {h₀:Heap} {B₀:List Nat} {A C Z:Pcs} {p:PHeap}
    (nx: ∀ p',PLe p p'→(∀ x∈Z,p' x.1=some x.2)→Fresh h₀ B₀ p Z→RS P md g (fun h=>St h₀ B₀ p' h (A++C)) Stop):RS P md g (fun h=>St h₀ B₀ p h (A++(Z++C))) Stop:=fun h s=>by
  have s1:St h₀ B₀ p h Z:=s.sub ((List.sublist_append_left Z C).trans (List.sublist_append_right A _))
  exact yaq (fun p' le hz=>nx p' le hz ⟨fun x hx=>(s1.own x hx).2,s1.nod⟩) h s
theorem St.unlast {h₀ h:Heap} {B₀:List Nat} {p p':PHeap} {L Z:Pcs} (s:St h₀ B₀ p' h L) (le:PLe p p') (hz: ∀ x∈Z,p' x.1=some x.2) (f:Fresh h₀ B₀ p Z):St h₀ B₀ p h (L++Z):=by
  refine ⟨s.keep,s.size,fun b o x=>s.per b o (le b o x),fun x hx=>?_,?_⟩
  · rcases List.mem_append.1 hx with hx | hx
    · obtain ⟨a,b,c⟩:=s.own x hx
      refine ⟨a,?_,c⟩
      cases e:p x.1 with
      | none=>rfl
      | some y=>rw [le _ _ e] at b;cases b
    · exact ⟨s.per _ _ (hz x hx),f.own x hx⟩
  · rw [List.map_append,List.nodup_append]
    refine ⟨s.nod,f.nod,fun a ha b hb e=>?_⟩
    obtain ⟨x,hx,rfl⟩:=List.mem_map.1 ha
    obtain ⟨y,hy,rfl⟩:=List.mem_map.1 hb
    have h1:=(s.own x hx).2.1
    have h2:=hz y hy
    rw [e,h2] at h1;cases h1
section
variable {p:PHeap} {es:List (List Value)} {xss:List (List Int)} {Z:Pcs} {A:Nat→Option Addr} {C:Nat→Nat} {n:Nat}
theorem Refs.tab2 {a:Option Addr} {m:Nat} (r:Refs p es xss) (s:Sl p a m 1 es): ∃ A C,(∀ i,i<xss.length→es[i]?=some [.slice (A i) (xss.getD i []).length (C i)])∧Tab1 p a xss.length A C (fun i=>(xss.getD i []).length) (fun i=>xss.getD i []):=by
  obtain ⟨hl,r⟩:=r
  have hn:m=xss.length:=by rw [← hl];exact s.len.symm
  have key: ∀ i:Nat,∃ y:Option Addr × Nat,i<xss.length→es[i]?=some [.slice y.1 (xss.getD i []).length y.2]∧Ints p y.1 (xss.getD i []).length (xss.getD i []):=fun i=>by
    by_cases h:i<xss.length
    · obtain ⟨a,c,h1,h2⟩:=r i h
      exact ⟨(a,c),fun _=>⟨h1,h2⟩⟩
    · exact ⟨(none,0),fun x=>absurd x h⟩
  obtain ⟨F,hF⟩:=Classical.axiomOfChoice key
  exact ⟨fun i=>(F i).1,fun i=>(F i).2,fun i hi=>(hF i hi).1,fun h=>s.ne (by omega),fun i hi=>s.get i _ (hF i hi).1 0 _ rfl,fun i hi=>(hF i hi).2⟩
theorem Inn.pick (x:Inn p es xss Z) (hA: ∀ i,i<xss.length→es[i]?=some [.slice (A i) (xss.getD i []).length (C i)]) (hn: ∀ i,i<xss.length→(xss.getD i []).length=n) {l:List Nat} (hi: ∀ i∈l,i<xss.length):
    Inn p (l.map fun i=>[Value.slice (A i) n (C i)]) (l.map fun i=>xss.getD i []) Z:=fun p' le hz=>by
  obtain ⟨_,r⟩:=x p' le hz
  refine ⟨by simp,fun j hj=>?_⟩
  rw [List.length_map] at hj
  have hl:=hi l[j] (List.getElem_mem hj)
  obtain ⟨a,c,e1,e2⟩:=r l[j] hl
  rw [hA _ hl] at e1
  have e:=Option.some.inj e1
  simp only [List.cons.injEq,Value.slice.injEq,and_true,true_and] at e
  obtain ⟨rfl,rfl⟩:=e
  have ej:(l.map fun i=>xss.getD i []).getD j []=xss.getD l[j] []:=by rw [List.getD_eq_getElem?_getD,List.getElem?_map,List.getElem?_eq_getElem hj];rfl
  rw [ej]
  exact ⟨_,_,by rw [List.getElem?_map,List.getElem?_eq_getElem hj,Option.map_some,hn _ hl],e2⟩
end
end Go.X
namespace Go.X.Flow
open Go.X
def fidx (t:Tn) (k:Nat):List Nat:=(List.range k).filter fun i=>decide (lacks t ((allD t).getD i [])=LK t)
theorem wiw {t:Tn} {k:Nat} (h:lacks t ((allD t).getD k [])=LK t):fidx t (k+1)=fidx t k++[k]:=by
  unfold fidx;rw [List.range_succ,List.filter_append];simp only [List.filter_cons,List.filter_nil,h,decide_true,if_true]
theorem wtq {t:Tn} {k:Nat} (h: ¬ lacks t ((allD t).getD k [])=LK t):fidx t (k+1)=fidx t k:=by
  unfold fidx;rw [List.range_succ,List.filter_append,List.filter_cons,decide_eq_false h];simp
theorem zoq {t:Tn} (k:Nat):(fidx t k).length≤k:=by
  have:=List.length_filter_le (fun i=>decide (lacks t ((allD t).getD i [])=LK t)) (List.range k);rw [List.length_range] at this;exact this
theorem waj {t:Tn} {k:Nat}: ∀ i∈fidx t k,i<k:=fun _ hi=>List.mem_range.1 (List.mem_filter.1 hi).1
def FL (t:Tn):List (List Int):=(fidx t (allD t).length).map fun i=>(allD t).getD i []
theorem ytk {t:Tn} (O:Ok t) {d:List Int}:d∈FL t↔Fairest t d:=by
  unfold FL
  constructor
  · intro h
    obtain ⟨i,hi,rfl⟩:=List.mem_map.1 h
    have hl:=waj i hi
    exact (zhw O (yrw O hl)).2 (of_decide_eq_true (List.mem_filter.1 hi).2)
  · intro F
    obtain ⟨i,hi,e⟩:=List.mem_iff_getElem.1 ((yix O).2 F.div)
    have e':(allD t).getD i []=d:=by rw [xvj hi,e]
    exact List.mem_map.2 ⟨i,List.mem_filter.2 ⟨List.mem_range.2 hi,decide_eq_true (by rw [e'];exact F.lk O)⟩,e'⟩
theorem ysq {t:Tn} (O:Ok t) {k:Nat} (h:k<(FL t).length):Fairest t ((FL t).getD k []):=(ytk O).1 (by rw [xvj h];exact List.getElem_mem h)
theorem wex {t:Tn} (O:Ok t) (hP:prodW t t.m 0≤2000):(FL t).length≤2000:=by
  unfold FL;rw [List.length_map];exact Nat.le_trans (zoq _) (ydx O hP)
theorem yuv {t:Tn} (O:Ok t):0<(FL t).length:=List.length_pos_of_mem ((ytk O).2 (xnk O xtq))
theorem yyk {t:Tn} (O:Ok t) {k:Nat} (h:k<(FL t).length): ∀ i,i<t.m→0≤dv ((FL t).getD k []) i∧dv ((FL t).getD k []) i≤1000:=fun i hi=>by
  have D:=(ysq O h).div
  exact Pre.small (d:=(FL t).getD k []) ⟨Nat.le_of_eq D.len,D.pos,D.hs,D.ws⟩ O i (by rw [D.len];exact hi)
noncomputable def FLc (t:Tn) (b:Bool):List (List Int):=if askB t b=0 then FL t else []
theorem zjx {t:Tn} {b:Bool} (h:askB t b=0):FLc t b=FL t:=if_pos h
theorem woj {t:Tn} {b:Bool} (h: ¬ askB t b=0):FLc t b=[]:=if_neg h
def drF (t:Tn) (z:Int) (k:Nat):Int:=drawI t ((FL t).getD k []) ((FL t).getD k []).length z
def loK (t:Tn) (z:Int):Nat→Int
  | 0=>drF t z 0
  | k+1=>min (loK t z k) (drF t z k)
def hiK (t:Tn) (z:Int):Nat→Int
  | 0=>drF t z 0
  | k+1=>max (hiK t z k) (drF t z k)
theorem zpx {t:Tn} (O:OkT t) {z:Int} (hz:0≤z) {k:Nat} (h:k<(FL t).length):drF t z k=draw t ((FL t).getD k []) z.toNat:=
  ymj O.wok (ysq O.toOk h).div.len (by omega)
theorem znx {t:Tn} {z:Int}: ∀ {k:Nat},(∀ i,i<k→loK t z k≤drF t z i)∧((∃ i,i<k∧loK t z k=drF t z i)∨loK t z k=drF t z 0)
  | 0=>⟨fun i hi=>absurd hi (Nat.not_lt_zero i),.inr rfl⟩
  | k+1=>by
    obtain ⟨a,b⟩:=znx (t:=t) (z:=z) (k:=k)
    rw [loK]
    refine ⟨fun i hi=>?_,?_⟩
    · by_cases e:i=k
      · subst e;omega
      · have:=a i (by omega);omega
    · by_cases c:loK t z k≤drF t z k
      · rw [Int.min_eq_left c]
        rcases b with ⟨i,hi,e⟩ | e
        · exact .inl ⟨i,by omega,e⟩
        · exact .inr e
      · rw [Int.min_eq_right (by omega)];exact .inl ⟨k,by omega,rfl⟩
theorem znk {t:Tn} {z:Int}: ∀ {k:Nat},(∀ i,i<k→drF t z i≤hiK t z k)∧((∃ i,i<k∧hiK t z k=drF t z i)∨hiK t z k=drF t z 0)
  | 0=>⟨fun i hi=>absurd hi (Nat.not_lt_zero i),.inr rfl⟩
  | k+1=>by
    obtain ⟨a,b⟩:=znk (t:=t) (z:=z) (k:=k)
    rw [hiK]
    refine ⟨fun i hi=>?_,?_⟩
    · by_cases e:i=k
      · subst e;omega
      · have:=a i (by omega);omega
    · by_cases c:drF t z k≤hiK t z k
      · rw [Int.max_eq_left c]
        rcases b with ⟨i,hi,e⟩ | e
        · exact .inl ⟨i,by omega,e⟩
        · exact .inr e
      · rw [Int.max_eq_right (by omega)];exact .inl ⟨k,by omega,rfl⟩
theorem wlk {t:Tn} {d:List Int} (h:d∈FL t): ∃ i,i<(FL t).length∧(FL t).getD i []=d:=by
  obtain ⟨i,hi,e⟩:=List.mem_iff_getElem.1 h
  exact ⟨i,hi,by rw [xvj hi,e]⟩
theorem wrv {t:Tn} (O:OkT t) {z:Int} (hz:0≤z∧z≤(t.nH:Int)-1) {k:Nat} (hk:k=(FL t).length):loK t z k=drawV t z (-1):=by
  subst hk
  have hh:z.toNat<t.nH:=by omega
  have ez:((z.toNat:Nat):Int)=z:=Int.toNat_of_nonneg hz.1
  obtain ⟨a,b⟩:=znx (t:=t) (z:=z) (k:=(FL t).length)
  obtain ⟨i,hi,e⟩:=wlk ((ytk O.toOk).2 (xnk O.toOk (ykk (h:=z) (x:=-1) (s:=-1) (by decide) (by decide))))
  have h1:=a i hi
  rw [zpx O hz.1 hi,e] at h1
  have p:=yuv O.toOk
  obtain ⟨j,hj,e2⟩: ∃ j,j<(FL t).length∧loK t z (FL t).length=drF t z j:=by
    rcases b with ⟨j,hj,e⟩ | e
    · exact ⟨j,hj,e⟩
    · exact ⟨0,p,e⟩
  rw [zpx O hz.1 hj] at e2
  have h2:=zzj O.toOk hh (ysq O.toOk hj)
  rw [ez] at h2
  unfold drawV;omega
theorem wsv {t:Tn} (O:OkT t) {z:Int} (hz:0≤z∧z≤(t.nH:Int)-1) {k:Nat} (hk:k=(FL t).length):hiK t z k=drawV t z 1:=by
  subst hk
  have hh:z.toNat<t.nH:=by omega
  have ez:((z.toNat:Nat):Int)=z:=Int.toNat_of_nonneg hz.1
  obtain ⟨a,b⟩:=znk (t:=t) (z:=z) (k:=(FL t).length)
  obtain ⟨i,hi,e⟩:=wlk ((ytk O.toOk).2 (xnk O.toOk (ykk (h:=z) (x:=-1) (s:=1) (by decide) (by decide))))
  have h1:=a i hi
  rw [zpx O hz.1 hi,e] at h1
  have p:=yuv O.toOk
  obtain ⟨j,hj,e2⟩: ∃ j,j<(FL t).length∧hiK t z (FL t).length=drF t z j:=by
    rcases b with ⟨j,hj,e⟩ | e
    · exact ⟨j,hj,e⟩
    · exact ⟨0,p,e⟩
  rw [zpx O hz.1 hj] at e2
  have h2:=zzk O.toOk hh (ysq O.toOk hj)
  rw [ez] at h2
  unfold drawV;omega
def giF (t:Tn) (z:Int) (k:Nat):Int:=giveI t ((FL t).getD k []) ((FL t).getD k []).length z
def cntK (t:Tn) (z:Int):Nat→Nat
  | 0=>0
  | k+1=>if giF t z k=t.ws.getD z.toNat 0 then cntK t z k+1 else cntK t z k
theorem yrz {t:Tn} {z:Int}: ∀ {k:Nat},cntK t z k≤k∧(cntK t z k=0↔ ∀ i,i<k→giF t z i≠t.ws.getD z.toNat 0)∧(cntK t z k=k↔ ∀ i,i<k→giF t z i=t.ws.getD z.toNat 0)
  | 0=>⟨Nat.le_refl _,⟨fun _ i hi=>absurd hi (Nat.not_lt_zero i),fun _=>rfl⟩,⟨fun _ i hi=>absurd hi (Nat.not_lt_zero i),fun _=>rfl⟩⟩
  | k+1=>by
    obtain ⟨a,b,c⟩:=yrz (t:=t) (z:=z) (k:=k)
    rw [cntK]
    by_cases e:giF t z k=t.ws.getD z.toNat 0
    · rw [if_pos e]
      refine ⟨by omega,⟨fun h=>by omega,fun h=>absurd e (h k (by omega))⟩,⟨fun h i hi=>?_,fun h=>?_⟩⟩
      · by_cases q:i=k
        · subst q;exact e
        · exact c.1 (by omega) i (by omega)
      · have:=c.2 fun i hi=>h i (by omega);omega
    · rw [if_neg e]
      refine ⟨by omega,⟨fun h i hi=>?_,fun h=>b.2 fun i hi=>h i (by omega)⟩,⟨fun h=>by omega,fun h=>absurd (h k (by omega)) e⟩⟩
      by_cases q:i=k
      · subst q;exact e
      · exact b.1 h i (by omega)
theorem wtj {t:Tn} (O:OkT t) {z:Int} (hz:0≤z∧z≤(t.nW:Int)-1) {k:Nat} (hk:k=(FL t).length):knownI ((cntK t z k:Nat):Int) (((FL t).length:Nat):Int)=dryV t z:=by
  subst hk
  have hx:z.toNat<t.nW:=by omega
  have ez:((z.toNat:Nat):Int)=z:=Int.toNat_of_nonneg hz.1
  obtain ⟨a,b,c⟩:=yrz (t:=t) (z:=z) (k:=(FL t).length)
  have p:=yuv O.toOk
  have ge: ∀ i,i<(FL t).length→giF t z i=give t ((FL t).getD i []) z.toNat:=fun i hi=>yww O.wok (ysq O.toOk hi).div.len (by omega)
  have le: ∀ d,Fairest t d→give t d z.toNat≤t.ws.getD z.toNat 0:=fun d F=>F.div.ws _ hx
  have F1:=xnk O.toOk (ykk (h:=-1) (x:=z) (s:=1) (by decide) (by decide))
  have F2:=xnk O.toOk (ykk (h:=-1) (x:=z) (s:=-1) (by decide) (by decide))
  have r1:restV t z 1=t.ws.getD z.toNat 0-give t (fairP t ⟨-1,z,1⟩) z.toNat:=rfl
  have r2:restV t z (-1)=t.ws.getD z.toNat 0-give t (fairP t ⟨-1,z,-1⟩) z.toNat:=rfl
  have m1: ∀ d,Fairest t d→give t d z.toNat≤give t (fairP t ⟨-1,z,1⟩) z.toNat:=fun d F=>by have:=wej O.toOk hx F;rwa [ez] at this
  have m2: ∀ d,Fairest t d→give t (fairP t ⟨-1,z,-1⟩) z.toNat≤give t d z.toNat:=fun d F=>by have:=wez O.toOk hx F;rwa [ez] at this
  have l1:=le _ F1;have l2:=le _ F2;have l3:=m1 _ F2
  have z0:cntK t z (FL t).length=0↔0<restV t z 1:=by
    rw [b]
    constructor
    · intro h
      obtain ⟨i,hi,e⟩:=wlk ((ytk O.toOk).2 F1)
      have:=h i hi;rw [ge i hi,e] at this;omega
    · intro h i hi
      have:=m1 _ (ysq O.toOk hi);rw [ge i hi];omega
  have z1:cntK t z (FL t).length=(FL t).length↔restV t z (-1)=0:=by
    rw [c]
    constructor
    · intro h
      obtain ⟨i,hi,e⟩:=wlk ((ytk O.toOk).2 F2)
      have:=h i hi;rw [ge i hi,e] at this;omega
    · intro h i hi
      have:=m2 _ (ysq O.toOk hi);have:=le _ (ysq O.toOk hi);rw [ge i hi];omega
  unfold knownI dryV
  by_cases c1:restV t z (-1)=0
  · have:=z1.2 c1
    rw [if_pos c1,if_neg (by omega),if_pos (by omega)]
  · by_cases c2:0<restV t z 1
    · rw [if_neg c1,if_pos c2,if_pos (by have:=z0.2 c2;omega)]
    · rw [if_neg c1,if_neg c2,if_neg (fun h=>c2 (z0.1 (by omega))),if_neg (fun h=>c1 (z1.1 (by omega)))]
end Go.X.Flow
namespace Go.Proofs.YtalfgojocdonhaaDoor
open Go.X Go.X.Flow Go.Conc
set_option maxRecDepth 10000
set_option synthInstance.maxSize 2000

set_option maxHeartbeats 2000000
theorem c69 (md:Md) (h:Heap) (p:PHeap) (hp:Per p h) (a1 a2 a3:Option Addr) (c1 c2 c3:Nat) (t:Tn) (T:TownP p a1 t.nH a2 t.nW a3 t.m t) (hn:t.nH≤40∧t.nW≤40∧t.m≤41) (hc0:chkB t=0→prodW t t.m 0≤2000) (b:Bool):CallsX Tryd.prog md 69 #[.agg #[.slice a1 t.nH c1,.slice a2 t.nW c2,.slice a3 t.m c3],.bool (b)] h fun v h'=>∃ w es X Z,v= .tuple #[w,.int .i64 (askB t b)]∧OwnS 22 1 w es X∧Inn p es (FLc t b) Z∧es.length=(FLc t b).length∧New h h' (X++(Z++[])):=by
 refine xcq (Φ:=fun h_=>St h [] p h_ []) Tryd.func69 rfl (tm:=zq1 (zq2 (zq8 (zq32 [])))) rfl ?_ (St.start h _ hp)
 intro c₀ cs Stop K
 refine fsr ?_
 refine xix mn (v:=.agg #[.slice a1 t.nH c1,.slice a2 t.nW c2,.slice a3 t.m c3]) rfl fun b1=>xcz (L':=[(b1,.cells #[.slice a1 t.nH c1,.slice a2 t.nW c2,.slice a3 t.m c3] 25 (0,0))]) rfl ?_
 refine ro (xax (v:=.slice none 0 0) rfl) <| rt (xax (v:=.int .i64 0) rfl) (tm':=zq2 (zq4 _)) rfl <| ren <| fsr <| rd (fun h_ H_=>xav H_ tA25 tS25 rfl (i:=0) rfl (vs:=[.slice a1 t.nH c1,.slice a2 t.nW c2,.slice a3 t.m c3]) rfl rfl) <| ro (xaq (v:=.bool (b)) rfl) ?_
 refine xeq mn (first:=[]) (cap:=[]) rfl rfl fC96 (fun h_ H_=>c96 md _ _ H_.pe _ _ _ _ _ _ _ _ _ t (show TownP _ _ _ _ _ _ _ t from ⟨T.h,T.w,T.y⟩) (by omega) b) (tm':=zq2 (zq4 (zq8 _))) rfl ?_
 refine ro (xax (v:=.int .i64 (askB t b)) rfl) <| ren <| xbq <| ro (xaq (v:=.int .i64 (askB t b)) rfl) <| rt (xjv rfl rfl) (tm':=zq16 _) rfl <| xak ?_
 by_cases cc2:askB t b≠0
 ·
  refine xcw rfl (dtt cc2) <| fsr <| ro (xaq (v:=.int .i64 (askB t b)) rfl) <| ro (xax (v:=.slice none 0 0) rfl) <| rt (xax (v:=.int .i64 (askB t b)) rfl) (tm':=zq2 (zq4 _)) rfl <| xak ?_
  refine xdz Tryd.func69 rfl (vs:=[.slice none 0 0,.int .i64 (askB t b)]) (fun h_ H_=>⟨.slice none 0 0,_,rfl,rfl,⟨.int .i64 (askB t b),_,rfl,rfl,rfl⟩⟩) (v:=.tuple #[.slice none 0 0,.int .i64 (askB t b)]) rfl ?_
  exact fun h_ H_=>K _ _ ⟨_,[],[],[],rfl,OwnS.empty _ _,by rw [woj ‹_›];exact Inn.nil,by rw [woj ‹_›];rfl,(H_.sub (List.nil_sublist _)).new⟩
 ·
  refine xck rfl (dff cc2) <| xcv <| xek ?_
  obtain ⟨e0_,eb_⟩:=yuk (show askB t (b)=0 by omega)
  have O:=xuq e0_
  have hP:=hc0 e0_
  have hap_:=ydq O.toOk
  have hal_:=ydx O.toOk hP
  have fl_:=zjx (show askB t (b)=0 by omega)
  have fp_:=yuv O.toOk
  have fn_:=wex O.toOk hP
  refine xbq <| rd (fun h_ H_=>xav H_ tA25 tS25 rfl (i:=0) rfl (vs:=[.slice a1 t.nH c1,.slice a2 t.nW c2,.slice a3 t.m c3]) rfl rfl) ?_
  refine xcz (L':=([(b1,.cells #[.slice a1 t.nH c1,.slice a2 t.nW c2,.slice a3 t.m c3] 25 (0,0))]:Pcs)++[]) rfl ?_
  refine xjk mn (first:=[]) (cap:=[]) rfl rfl fC82 (R:=fun v_ h_=>∃ w3:Value,∃ X4:Pcs,v_=w3∧(OwnS 3 1 w3 (ics (LK t)) X4)∧St h [] p h_ (([(b1,.cells #[.slice a1 t.nH c1,.slice a2 t.nW c2,.slice a3 t.m c3] 25 (0,0))]:Pcs)++(X4++[]))) (fun h_ H_=>(c82 md _ _ H_.pe _ _ _ _ _ _ t (show TownP _ _ _ _ _ _ _ t from ⟨T.h,T.w,T.y⟩) (by omega) O hP).mono fun v_ h2_ ⟨w3,X4,e_,o5,N_⟩=>⟨w3,X4,e_,o5,H_.callNA N_⟩) fun v_=>?_
  refine xgw fun w3=>xgw fun X4=>xfq fun ev_=>xfq fun o5=>?_
  have ev_:=ev_.symm;subst ev_
  refine xcz (L':=([(b1,.cells #[.slice a1 t.nH c1,.slice a2 t.nW c2,.slice a3 t.m c3] 25 (0,0))]:Pcs)++(X4++[])) rfl ?_
  refine rt (xax (v:=w3) rfl) (tm':=zq8 _) rfl <| ren <| xbq <| rd (fun h_ H_=>xav H_ tA25 tS25 rfl (i:=0) rfl (vs:=[.slice a1 t.nH c1,.slice a2 t.nW c2,.slice a3 t.m c3]) rfl rfl) ?_
  refine xjk mn (first:=[]) (cap:=[]) rfl rfl fC80 (R:=fun v_ h_=>∃ w6:Value,∃ es7:List (List Value),∃ X8:Pcs,∃ Z9:Pcs,v_=w6∧(OwnS 22 1 w6 es7 X8)∧(Inn p es7 (allD t) Z9)∧(es7.length=(allD t).length)∧St h [] p h_ (([(b1,.cells #[.slice a1 t.nH c1,.slice a2 t.nW c2,.slice a3 t.m c3] 25 (0,0))]:Pcs)++((X8++(Z9++[]))++(X4++[])))) (fun h_ H_=>(c80w md _ _ H_.pe _ _ _ _ _ _ t (show TownP _ _ _ _ _ _ _ t from ⟨T.h,T.w,T.y⟩) (by omega) O hP).mono fun v_ h2_ ⟨w6,es7,X8,Z9,e_,o10,i11,el12,N_⟩=>⟨w6,es7,X8,Z9,e_,o10,i11,el12,H_.callNA N_⟩) fun v_=>?_
  refine xgw fun w6=>xgw fun es7=>xgw fun X8=>xgw fun Z9=>xfq fun ev_=>xfq fun o10=>xfq fun i11=>xfq fun el12=>?_
  have ev_:=ev_.symm;subst ev_
  refine xcz (L':=([(b1,.cells #[.slice a1 t.nH c1,.slice a2 t.nW c2,.slice a3 t.m c3] 25 (0,0))]:Pcs)++(X8++(Z9++(X4++[])))) (by simp) ?_
  refine rt (xax (v:=w6) rfl) (tm':=zq1 (zq8 _)) rfl <| ren ?_
  refine xfw (List.Perm.append_left _ (List.Perm.append_left _ (List.perm_append_comm_assoc _ _ _))) ?_
  refine xfw (List.Perm.append_left _ (List.perm_append_comm_assoc _ _ _)) ?_
  refine xkw (L':=([(b1,.cells #[.slice a1 t.nH c1,.slice a2 t.nW c2,.slice a3 t.m c3] 25 (0,0))]:Pcs)++(X4++(X8++(Z9++[])))) rfl ?_
  refine xmk (A:=([(b1,.cells #[.slice a1 t.nH c1,.slice a2 t.nW c2,.slice a3 t.m c3] 25 (0,0))]:Pcs)) o5 ((xdq _).trans (zpw _)) fun p13 a14 cp15 le16 ev_ D17=>?_
  subst ev_
  refine xfw (List.Perm.append_left _ (List.perm_append_comm_assoc _ _ _)) ?_
  refine xkw (L':=([(b1,.cells #[.slice a1 t.nH c1,.slice a2 t.nW c2,.slice a3 t.m c3] 25 (0,0))]:Pcs)++(Z9++(X8++[]))) rfl ?_
  refine wfj (A:=([(b1,.cells #[.slice a1 t.nH c1,.slice a2 t.nW c2,.slice a3 t.m c3] 25 (0,0))]:Pcs)) (Z:=Z9) fun p18 le19 hz20 fr21=>?_
  refine xmk (A:=([(b1,.cells #[.slice a1 t.nH c1,.slice a2 t.nW c2,.slice a3 t.m c3] 25 (0,0))]:Pcs)) o10 el12 fun p26 a27 cp28 le29 ev_ D30=>?_
  subst ev_
  refine xkw (L':=[(b1,.cells #[.slice a1 t.nH c1,.slice a2 t.nW c2,.slice a3 t.m c3] 25 (0,0))]) rfl ?_
  obtain ⟨A23,C24,hA25,T_⟩:=(i11 _ (le16.trans (le19.trans le29)) (fun x_ hx_=>le29 _ _ (hz20 x_ hx_))).tab2 D30
  have T22:=Tab1.const (n:=t.m) T_ (fun i_ hi_=>(yrw O.toOk hi_).len);clear T_
  refine xbq <| ro (xax (v:=.slice none 0 0) rfl) <| ren <| fsr <| ro (xax (v:=.int .i64 0) rfl) <| xak ?_
  refine xex ?_
  refine xiq (m₀:=(allD t).length-0) (fun m_ tm_ h_=>∃ (k:Nat) (w_:Value) (X1_:Pcs),m_=(allD t).length-k∧(∃ y31:Nat→Value,tm_=[.agg #[.slice a1 t.nH c1,.slice a2 t.nW c2,.slice a3 t.m c3],.bool (b),.pointer (some ⟨b1,0,none⟩),undef,.slice none 0 0,.int .i64 0,.int .i64 (askB t b),.slice a14 t.nH cp15,.slice a27 ((allD t).length) cp28,w_,.int .i64 (((k:Nat):Int)),.agg #[.slice a1 t.nH c1,.slice a2 t.nW c2,.slice a3 t.m c3],.bool (b),.int .i64 (askB t b),.int .i64 (askB t b),.bool (decide (askB t b≠0)),undef,.agg #[.slice a1 t.nH c1,.slice a2 t.nW c2,.slice a3 t.m c3],.slice a14 t.nH cp15,.agg #[.slice a1 t.nH c1,.slice a2 t.nW c2,.slice a3 t.m c3],.slice a27 ((allD t).length) cp28,(y31 21),(y31 22),(y31 23),(y31 24),(y31 25),(y31 26),(y31 27),(y31 28),(y31 29),(y31 30),(y31 31),(y31 32),(y31 33),(y31 34),(y31 35),(y31 36),(y31 37),(y31 38),(y31 39),(y31 40),(y31 41),undef])∧(k≤(allD t).length)∧(OwnS 22 1 w_ ((fidx t k).map fun i_=>[Value.slice (A23 i_) t.m (C24 i_)]) X1_)∧St h [] p26 h_ (([(b1,.cells #[.slice a1 t.nH c1,.slice a2 t.nW c2,.slice a3 t.m c3] 25 (0,0))]:Pcs)++(X1_++[]))) (fun h_ H_=>⟨0,_,[],rfl,(y_of rfl),Nat.zero_le _,(OwnS.empty _ _),H_⟩) ?_
  intro m_ tm_ IH32
  refine xhk fun k=>xhk fun w_=>xhk fun X1_=>xcj fun hm_=>xcj fun ht_=>xcj fun hk=>xcj fun o1_=>?_
  subst hm_;obtain ⟨y31,ht_⟩:=ht_;subst ht_
  have hfl_:=zoq (t:=t) k
  refine xek <| fsr <| rt (xaq (v:=.int .i64 (((k:Nat):Int))) rfl) (tm':=zq2 (zq4 (zq16 _))) rfl <| ro (xaq (v:=.slice a27 ((allD t).length) cp28) rfl) <| ro (xfx Tryd.underlying74 rfl) <| rt (xgj rfl rfl) (tm':=zq1 (zq8 (zq16 _))) rfl ?_
  refine xak ?_
  by_cases cc33:((k:Nat):Int)<(((allD t).length:Nat):Int)
  ·
   refine xcw rfl (dtt cc33) <| xcv <| xek <| xex <| xek ?_
   obtain ⟨Gw39,GX40,hG5_⟩:=sk2 (fun (v_:Value) (x_:Pcs) (w39:Value) (X40:Pcs)=>v_=w39∧(OwnS 3 1 w39 (ics (lacks t ((allD t).getD k []))) X40)∧x_=(X40++[]))
   refine xzq (xmx (C:=[]) (A:=([(b1,.cells #[.slice a1 t.nH c1,.slice a2 t.nW c2,.slice a3 t.m c3] 25 (0,0))]:Pcs)) 7 [[],[],[],[1,2],[1,2,3],[0,1,2,3,4],[],[]] [7] [7,5] [0,1,2,3,4,6] (fun i_=>match i_ with | 7=>X1_ | _=>[]) (fun _=>[]) (fun i_=>match i_ with | 0=>[] | 1=>[] | 2=>[] | 3=>[1,2] | 4=>[3] | 5=>[0,4] | 6=>[] | _=>[]) (fun i_ val_ pc_ v_ x_=>match i_ with | 0=>v_= .agg #[.slice a1 t.nH c1,.slice a2 t.nW c2,.slice a3 t.m c3]∧x_=[] | 1=>v_= .slice a27 ((allD t).length) cp28∧x_=[] | 2=>v_= .int .i64 (((k:Nat):Int))∧x_=[] | 3=>v_= .pointer (some ((adr a27).add (k*1)))∧x_=[] | 4=>v_= .slice (A23 k) t.m (C24 k)∧x_=[] | 5=>∃ w39:Value,∃ X40:Pcs,v_=w39∧(OwnS 3 1 w39 (ics (lacks t ((allD t).getD k []))) X40)∧x_=(X40++[]) | 6=>v_= .slice a14 t.nH cp15∧x_=[] | _=>True) (fun val37=>[.agg #[.slice a1 t.nH c1,.slice a2 t.nW c2,.slice a3 t.m c3],.bool (b),.pointer (some ⟨b1,0,none⟩),undef,.slice none 0 0,.int .i64 0,.int .i64 (askB t b),.slice a14 t.nH cp15,.slice a27 ((allD t).length) cp28,w_,.int .i64 (((k:Nat):Int)),.agg #[.slice a1 t.nH c1,.slice a2 t.nW c2,.slice a3 t.m c3],.bool (b),.int .i64 (askB t b),.int .i64 (askB t b),.bool (decide (askB t b≠0)),undef,.agg #[.slice a1 t.nH c1,.slice a2 t.nW c2,.slice a3 t.m c3],.slice a14 t.nH cp15,.agg #[.slice a1 t.nH c1,.slice a2 t.nW c2,.slice a3 t.m c3],.slice a27 ((allD t).length) cp28,.int .i64 (((k:Nat):Int)),.slice a27 ((allD t).length) cp28,.int .i64 ((((allD t).length:Nat):Int)),.bool (decide (((k:Nat):Int)<(((allD t).length:Nat):Int))),(y31 25),(y31 26),(val37 0),(val37 1),(val37 2),(val37 3),(val37 4),(val37 5),(val37 6),(y31 34),(y31 35),(y31 36),(y31 37),(y31 38),(y31 39),(y31 40),(y31 41),undef]) xlq (by kernel_rfl) (Nat.le_of_ble_eq_true rfl) (by kernel_rfl) (by kernel_rfl) (by kernel_rfl) (fun _ _=>⟨fun _ _ h=>h.2,⟨fun _ _ h=>h.2,⟨fun _ _ h=>h.2,⟨fun _ _ h=>h.2,⟨fun _ _ h=>h.2,⟨fun _ _ h=>h.2,trivial⟩⟩⟩⟩⟩⟩) (fun _=>by kernel_rfl) (by kernel_rfl) ?_ ?_) (fun h_ H_=>St.swap (A:=([(b1,.cells #[.slice a1 t.nH c1,.slice a2 t.nW c2,.slice a3 t.m c3] 25 (0,0))]:Pcs)) (U:=(X1_++[])) H_)
   ·
    refine xaw rfl (xdj ?_) ?_
    ·
     intro val37 pc38 hQ_ hX_
     obtain ⟨q_,hq0_⟩: ∃ q_:Value→Pcs→Prop,q_=(fun v_ x_=>v_= .agg #[.slice a1 t.nH c1,.slice a2 t.nW c2,.slice a3 t.m c3]∧x_=[]):=⟨_,rfl⟩
     refine ⟨(zq1 (zq2 (zq8 (zq32 [])))),[],q_,rfl,rfl,(fun _ _ z_=>by subst hq0_;exact z_),?_⟩
     subst hq0_
     exact xdk mn (fun _ h_ H_=>xav H_ tA25 tS25 rfl (i:=0) rfl (vs:=[.slice a1 t.nH c1,.slice a2 t.nW c2,.slice a3 t.m c3]) rfl rfl) ⟨rfl,rfl⟩
    refine xaw rfl (xdj ?_) ?_
    ·
     intro val37 pc38 hQ_ hX_
     obtain ⟨q_,hq0_⟩: ∃ q_:Value→Pcs→Prop,q_=(fun v_ x_=>v_= .slice a27 ((allD t).length) cp28∧x_=[]):=⟨_,rfl⟩
     refine ⟨(zq1 (zq2 (zq8 (zq32 [])))),[],q_,rfl,rfl,(fun _ _ z_=>by subst hq0_;exact z_),?_⟩
     subst hq0_
     exact xdk mn (fun _ h_ H_=>xaq (v:=.slice a27 ((allD t).length) cp28) rfl) ⟨rfl,rfl⟩
    refine xaw rfl (xdj ?_) ?_
    ·
     intro val37 pc38 hQ_ hX_
     obtain ⟨q_,hq0_⟩: ∃ q_:Value→Pcs→Prop,q_=(fun v_ x_=>v_= .int .i64 (((k:Nat):Int))∧x_=[]):=⟨_,rfl⟩
     refine ⟨(zq1 (zq2 (zq8 (zq32 [])))),[],q_,rfl,rfl,(fun _ _ z_=>by subst hq0_;exact z_),?_⟩
     subst hq0_
     exact xdk mn (fun _ h_ H_=>xaq (v:=.int .i64 (((k:Nat):Int))) rfl) ⟨rfl,rfl⟩
    refine xaw rfl (xdj ?_) ?_
    ·
     intro val37 pc38 hQ_ hX_
     have e1_:val37 1= .slice a27 ((allD t).length) cp28:=(hQ_ 1 rfl).1
     have e2_:val37 2= .int .i64 (((k:Nat):Int)):=(hQ_ 2 rfl).1
     obtain ⟨q_,hq0_⟩: ∃ q_:Value→Pcs→Prop,q_=(fun v_ x_=>v_= .pointer (some ((adr a27).add (k*1)))∧x_=[]):=⟨_,rfl⟩
     refine ⟨(zq1 (zq2 (zq8 (zq32 [])))),[],q_,(by rw [e1_,e2_]),rfl,(fun _ _ z_=>by subst hq0_;exact z_),?_⟩
     subst hq0_
     exact xdk mn (fun _ h_ H_=>xbw (i:=k) Tryd.underlying74 tS22 (xjz a27 ((allD t).length) cp28 (T22.ne (by omega))) rfl (by omega)) ⟨rfl,rfl⟩
    refine xaw rfl (xdj ?_) ?_
    ·
     intro val37 pc38 hQ_ hX_
     have e3_:val37 3= .pointer (some ((adr a27).add (k*1))):=(hQ_ 3 rfl).1
     obtain ⟨q_,hq0_⟩: ∃ q_:Value→Pcs→Prop,q_=(fun v_ x_=>v_= .slice (A23 k) t.m (C24 k)∧x_=[]):=⟨_,rfl⟩
     refine ⟨(zq1 (zq2 (zq8 (zq32 [])))),[],q_,(by rw [e3_]),rfl,(fun _ _ z_=>by subst hq0_;exact z_),?_⟩
     subst hq0_
     exact xdk mn (fun _ h_ H_=>xbj H_ tA22 rfl (v:=.slice (A23 k) t.m (C24 k)) (T22.cell _ (by omega))) ⟨rfl,rfl⟩
    refine xaw rfl (xdj ?_) ?_
    ·
     intro val37 pc38 hQ_ hX_
     have e0_:val37 0= .agg #[.slice a1 t.nH c1,.slice a2 t.nW c2,.slice a3 t.m c3]:=(hQ_ 0 rfl).1
     have e4_:val37 4= .slice (A23 k) t.m (C24 k):=(hQ_ 4 rfl).1
     obtain ⟨q_,hq0_⟩: ∃ q_:Value→Pcs→Prop,q_=(fun v_ x_=>∃ w39:Value,∃ X40:Pcs,v_=w39∧(OwnS 3 1 w39 (ics (lacks t ((allD t).getD k []))) X40)∧x_=(X40++[])):=⟨_,rfl⟩
     refine ⟨(zq1 (zq2 (zq8 (zq32 [])))),[],q_,(by rw [e0_,e4_]),rfl,(fun _ _ z_=>by subst hq0_;exact z_),?_⟩
     subst hq0_
     exact xpq mn (first:=[]) (cap:=[]) rfl rfl fC45 (fun _ h_ H_=>(c45 md _ _ H_.pe _ _ _ _ _ _ _ _ _ t (show TownP _ _ _ _ _ _ _ t from ⟨(((T.h.mono le16).mono le19).mono le29),(((T.w.mono le16).mono le19).mono le29),(((T.y.mono le16).mono le19).mono le29)⟩) (by omega) _ _ _ _ (T22.ints _ (by omega)) rfl (ygv O.toOk (by omega)) O.wok (fun i hi=>by have z_:=O.h i hi;unfold Tn.hv at z_;omega)).mono fun v_ h2_ ⟨w39,X40,e_,o41,N_⟩=>⟨_,⟨w39,X40,e_,o41,rfl⟩,H_.callN (show New _ _ (X40++[]) by rw [List.append_nil];exact N_)⟩)
    refine xaw rfl (xdj ?_) ?_
    ·
     intro val37 pc38 hQ_ hX_
     obtain ⟨q_,hq0_⟩: ∃ q_:Value→Pcs→Prop,q_=(fun v_ x_=>v_= .slice a14 t.nH cp15∧x_=[]):=⟨_,rfl⟩
     refine ⟨(zq1 (zq2 (zq8 (zq32 [])))),[],q_,rfl,rfl,(fun _ _ z_=>by subst hq0_;exact z_),?_⟩
     subst hq0_
     exact xdk mn (fun _ h_ H_=>xaq (v:=.slice a14 t.nH cp15) rfl) ⟨rfl,rfl⟩
    exact xlw rfl
   intro val37 pc38 hQ_ hX_
   have e0_:val37 0= .agg #[.slice a1 t.nH c1,.slice a2 t.nW c2,.slice a3 t.m c3]:=(hQ_ 0 (by decide)).1
   have e1_:val37 1= .slice a27 ((allD t).length) cp28:=(hQ_ 1 (by decide)).1
   have e2_:val37 2= .int .i64 (((k:Nat):Int)):=(hQ_ 2 (by decide)).1
   have e3_:val37 3= .pointer (some ((adr a27).add (k*1))):=(hQ_ 3 (by decide)).1
   have e4_:val37 4= .slice (A23 k) t.m (C24 k):=(hQ_ 4 (by decide)).1
   obtain ⟨e5_,o41,x5_⟩:=hG5_ _ _ (hQ_ 5 (by decide))
   have e6_:val37 6= .slice a14 t.nH cp15:=(hQ_ 6 (by decide)).1
   have x7_:pc38 7=X1_:=hX_ 7 (by decide)
   clear hQ_ hX_
   generalize Gw39 (val37 5) (pc38 5)=w39 at*
   generalize GX40 (val37 5) (pc38 5)=X40 at*
   refine xxz (Φ:=fun h_=>St h [] p26 h_ (([(b1,.cells #[.slice a1 t.nH c1,.slice a2 t.nW c2,.slice a3 t.m c3] 25 (0,0))]:Pcs)++(pc38 7++(pc38 5++[])))) ?_ (fun h_ H_=>H_.swap')
   rw [x7_,x5_]
   refine xcz (L':=([(b1,.cells #[.slice a1 t.nH c1,.slice a2 t.nW c2,.slice a3 t.m c3] 25 (0,0))]:Pcs)++(X1_++(X40++[]))) (by simp) ?_
   refine xgq (tm':=(zq1 (zq2 (zq8 (zq32 []))))) (by rw [e0_,e1_,e2_,e3_,e4_,e5_,e6_]) ?_
   refine xeq mn (first:=[]) (cap:=[]) rfl rfl fC27 (fun h_ H_=>show CallsX Tryd.prog md 27 #[w39,.slice a14 t.nH cp15] h_ (fun v_ h2_=>v_= .bool (decide ((lacks t ((allD t).getD k []))=(LK t)))∧Keep h_ h2_) from ypk (n:=t.nH) o41 ((xdq _).trans (xmq _ _)) H_ (fun x_ h_=>by simp [h_]) fun p_ a_ c_ hp_ le_ hv_ D_=>by rw [hv_];exact c27 md _ _ hp_ _ _ _ _ _ _ _ _ (show Ints _ _ _ (lacks t ((allD t).getD k [])) from D_) ((((show Ints _ _ _ (LK t) from D17).mono le19).mono le29).mono le_) (by omega)) (tm':=zq1 (zq2 (zq8 (zq32 [])))) rfl ?_
   refine xak ?_
   by_cases cc44:(lacks t ((allD t).getD k []))=(LK t)
   ·
    refine xcw rfl (dtt cc44) <| xbq <| ro (xaq (v:=w_) rfl) <| ro (xaq (v:=.slice a27 ((allD t).length) cp28) rfl) <| rt (xaq (v:=.int .i64 (((k:Nat):Int))) rfl) (tm':=zq1 (zq2 (zq8 (zq32 [])))) rfl ?_
    refine ro (xbw (i:=k) Tryd.underlying74 tS22 (xjz a27 ((allD t).length) cp28 (T22.ne (by omega))) rfl (by omega)) ?_
    refine rd (fun h_ H_=>xbj H_ tA22 rfl (v:=.slice (A23 k) t.m (C24 k)) (T22.cell _ (by omega))) ?_
    refine xlv ([(b1,.cells #[.slice a1 t.nH c1,.slice a2 t.nW c2,.slice a3 t.m c3] 25 (0,0))]:Pcs) mn Tryd.underlying74 tS22 tZ22 (Nat.le_of_ble_eq_true rfl) (vs:=[(0,.slice (A23 k) t.m (C24 k))]) rfl rfl (es:=[[.slice (A23 k) t.m (C24 k)]]) rfl rfl rfl fun v45 X46 o47=>?_
    refine xgq (tm':=zq1 (zq2 (zq8 (zq32 [])))) rfl ?_
    refine xpv (List.Perm.append_left _ (List.perm_append_comm_assoc _ _ _)) ?_
    refine xcz (L':=([(b1,.cells #[.slice a1 t.nH c1,.slice a2 t.nW c2,.slice a3 t.m c3] 25 (0,0))]:Pcs)++(X1_++(X46++(X40++[])))) rfl ?_
    refine yaz ([(b1,.cells #[.slice a1 t.nH c1,.slice a2 t.nW c2,.slice a3 t.m c3] 25 (0,0))]:Pcs) X1_ X46 mn Tryd.underlying74 tS22 tZ22 rfl tB22 Tryd.underlying74 rfl rfl o1_ o47 (yhw rfl) (by simp only [List.length_map,List.length_cons,List.length_nil];omega) (by decide) fun v48 X49 o50=>?_
    refine ro (xax (v:=v48) rfl) <| xak <| xdx <| xbq <| rt (xaq (v:=.int .i64 (((k:Nat):Int))) rfl) (tm':=zq2 (zq8 (zq16 _))) rfl ?_
    refine ro (xev rfl rfl (n:=((k+1:Nat):Int)) (wr (by omega))) ?_
    refine ro (xax (v:=.int .i64 (((k+1:Nat):Int))) rfl) <| xak ?_
    refine xfw (List.Perm.append_left _ (List.perm_append_comm_assoc _ _ _)) ?_
    refine xkw (L':=([(b1,.cells #[.slice a1 t.nH c1,.slice a2 t.nW c2,.slice a3 t.m c3] 25 (0,0))]:Pcs)++(X40++(X49++[]))) rfl ?_
    exact fun h_ H_=>IH32 _ _ (by omega) h_ ⟨k+1,v48,X49,rfl,(y_of rfl),(by omega),(o50.as (by rw [wiw (by assumption),List.map_append];rfl)),H_.dropX⟩
   ·
    refine xck rfl (dff cc44) <| xcv <| xdx <| xbq <| rt (xaq (v:=.int .i64 (((k:Nat):Int))) rfl) (tm':=zq2 (zq8 (zq16 _))) rfl ?_
    refine ro (xev rfl rfl (n:=((k+1:Nat):Int)) (wr (by omega))) ?_
    refine ro (xax (v:=.int .i64 (((k+1:Nat):Int))) rfl) <| xak ?_
    refine xfw (List.Perm.append_left _ (List.perm_append_comm_assoc _ _ _)) ?_
    refine xkw (L':=([(b1,.cells #[.slice a1 t.nH c1,.slice a2 t.nW c2,.slice a3 t.m c3] 25 (0,0))]:Pcs)++(X40++(X1_++[]))) rfl ?_
    exact fun h_ H_=>IH32 _ _ (by omega) h_ ⟨k+1,w_,X1_,rfl,(y_of rfl),(by omega),(o1_.as (by rw [wtq (by assumption)])),H_.dropX⟩
  ·
   refine xck rfl (dff cc33) <| xhv rfl <| fsr <| rt (xaq (v:=w_) rfl) (tm':=zq1 (zq2 (zq8 (zq32 [])))) rfl <| ro (xax (v:=w_) rfl) <| ro (xax (v:=.int .i64 0) rfl) ?_
   refine xak ?_
   refine xdz Tryd.func69 rfl (vs:=[w_,.int .i64 0]) (fun h_ H_=>⟨w_,_,rfl,rfl,⟨.int .i64 0,_,rfl,rfl,rfl⟩⟩) (v:=.tuple #[w_,.int .i64 0]) rfl ?_
   have kE_:k=(allD t).length:=by omega
   have pk_:=Inn.pick (n:=t.m) i11 hA25 (fun i_ hi_=>(yrw O.toOk hi_).len) (l:=fidx t k) (fun i_ hi_=>by have z_:=waj i_ hi_;omega)
   exact fun h_ H_=>K _ _ ⟨_,_,_,Z9,by rw [show askB t b=0 by omega],o1_,by rw [fl_];exact pk_.as (by rw [kE_];rfl) rfl,by rw [fl_,kE_];simp [Flow.FL],by simpa using (St.unlast (L:=X1_++[]) H_.dropA (le19.trans le29) (fun x_ hx_=>le29 _ _ (hz20 x_ hx_)) fr21).new⟩
theorem c19 (md:Md) (h:Heap) (p:PHeap) (hp:Per p h) (a1 a2 a3:Option Addr) (c1 c2 c3:Nat) (t:Tn) (T:TownP p a1 t.nH a2 t.nW a3 t.m t) (hn:t.nH≤40∧t.nW≤40∧t.m≤41) (hc0:chkB t=0→prodW t t.m 0≤2000) (z:Int):CallsX Tryd.prog md 19 #[.agg #[.slice a1 t.nH c1,.slice a2 t.nW c2,.slice a3 t.m c3],.int .i64 (z)] h fun v h'=>v= .tuple #[.agg #[.int .i64 (houseC t z (-1)),.int .i64 (houseC t z 1)],.int .i64 (askB t (decide (0≤z∧z≤((t.nH:Nat):Int)-1)))]∧Keep h h':=by
 refine xcq (Φ:=fun h_=>St h [] p h_ []) Tryd.func19 rfl (tm:=zq8 (zq16 (zq32 []))) rfl ?_ (St.start h _ hp)
 intro c₀ cs Stop K
 refine fsr ?_
 refine xix mn (v:=.agg #[.slice a1 t.nH c1,.slice a2 t.nW c2,.slice a3 t.m c3]) rfl fun b1=>xcz (L':=[(b1,.cells #[.slice a1 t.nH c1,.slice a2 t.nW c2,.slice a3 t.m c3] 25 (0,0))]) rfl ?_
 refine xgq (tm':=_::_::_::_) rfl ?_
 refine xkx mn tZ30 rfl fun b2=>xcz (L':=[(b2,.cells #[.int .i64 0,.int .i64 0] 30 (0,0)),(b1,.cells #[.slice a1 t.nH c1,.slice a2 t.nW c2,.slice a3 t.m c3] 25 (0,0))]) rfl ?_
 refine ro (xax (v:=.int .i64 0) rfl) <| ren ?_
 obtain ⟨Gw12,Ges13,GX14,GZ15,hG4_⟩:=sk4 (fun (v_:Value) (x_:Pcs) (w12:Value) (es13:List (List Value)) (X14:Pcs) (Z15:Pcs)=>v_= .tuple #[w12,.int .i64 (askB t (decide (0≤z∧z≤(t.nH:Int)-1)))]∧(OwnS 22 1 w12 es13 X14)∧(Inn p es13 (FLc t (decide (0≤z∧z≤(t.nH:Int)-1))) Z15)∧(es13.length=(FLc t (decide (0≤z∧z≤(t.nH:Int)-1))).length)∧x_=(X14++(Z15++[])))
 refine xzq (xmx (C:=[]) (A:=([(b2,.cells #[.int .i64 0,.int .i64 0] 30 (0,0)),(b1,.cells #[.slice a1 t.nH c1,.slice a2 t.nW c2,.slice a3 t.m c3] 25 (0,0))]:Pcs)) 9 [[],[],[],[],[],[4],[],[],[],[]] [] [4] [0,1,2,3,5,6,7,8] (fun _=>[]) (fun _=>[]) (fun i_=>match i_ with | 0=>[] | 1=>[] | 2=>[] | 3=>[1,2] | 4=>[0,3] | 5=>[4] | 6=>[4,5] | 7=>[4,5] | 8=>[0,1,2,3,4,5,6] | _=>[]) (fun i_ val_ pc_ v_ x_=>match i_ with | 0=>v_= .agg #[.slice a1 t.nH c1,.slice a2 t.nW c2,.slice a3 t.m c3]∧x_=[] | 1=>v_= .agg #[.slice a1 t.nH c1,.slice a2 t.nW c2,.slice a3 t.m c3]∧x_=[] | 2=>v_= .int .i64 (z)∧x_=[] | 3=>v_= .bool (decide (0≤z∧z≤(t.nH:Int)-1))∧x_=[] | 4=>∃ w12:Value,∃ es13:List (List Value),∃ X14:Pcs,∃ Z15:Pcs,v_= .tuple #[w12,.int .i64 (askB t (decide (0≤z∧z≤(t.nH:Int)-1)))]∧(OwnS 22 1 w12 es13 X14)∧(Inn p es13 (FLc t (decide (0≤z∧z≤(t.nH:Int)-1))) Z15)∧(es13.length=(FLc t (decide (0≤z∧z≤(t.nH:Int)-1))).length)∧x_=(X14++(Z15++[])) | 5=>v_= .tuple #[(Gw12 (val_ 4) (pc_ 4)),.int .i64 (askB t (decide (0≤z∧z≤(t.nH:Int)-1)))]∧x_=[] | 6=>v_=(Gw12 (val_ 4) (pc_ 4))∧x_=[] | 7=>v_= .int .i64 (askB t (decide (0≤z∧z≤(t.nH:Int)-1)))∧x_=[] | 8=>v_=(Gw12 (val_ 4) (pc_ 4))∧x_=[] | _=>True) (fun val10=>(.agg #[.slice a1 t.nH c1,.slice a2 t.nW c2,.slice a3 t.m c3]::.int .i64 (z)::.pointer (some ⟨b1,0,none⟩)::undef::.pointer (some ⟨b2,0,none⟩)::.int .i64 0::(val10 8)::undef::zu4 ((val10 5)::(val10 0)::(val10 1)::(val10 2)::(val10 3)::(val10 4)::(val10 6)::(val10 7)::zu4 (zu16 (zu16 []))))) xlq (by kernel_rfl) (Nat.le_of_ble_eq_true rfl) (by kernel_rfl) (by kernel_rfl) (by kernel_rfl) (fun _ _=>⟨fun _ _ h=>h.2,⟨fun _ _ h=>h.2,⟨fun _ _ h=>h.2,⟨fun _ _ h=>h.2,⟨fun _ _ h=>h.2,⟨fun _ _ h=>h.2,⟨fun _ _ h=>h.2,⟨fun _ _ h=>h.2,trivial⟩⟩⟩⟩⟩⟩⟩⟩) (fun _=>by kernel_rfl) (by kernel_rfl) ?_ ?_) (fun h_ H_=>St.swap (A:=([(b2,.cells #[.int .i64 0,.int .i64 0] 30 (0,0)),(b1,.cells #[.slice a1 t.nH c1,.slice a2 t.nW c2,.slice a3 t.m c3] 25 (0,0))]:Pcs)) (U:=[]) H_)
 ·
  refine xaw rfl (xdj ?_) ?_
  ·
   intro val10 pc11 hQ_ hX_
   obtain ⟨q_,hq0_⟩: ∃ q_:Value→Pcs→Prop,q_=(fun v_ x_=>v_= .agg #[.slice a1 t.nH c1,.slice a2 t.nW c2,.slice a3 t.m c3]∧x_=[]):=⟨_,rfl⟩
   refine ⟨(zq8 (zq16 (zq32 []))),[],q_,rfl,rfl,(fun _ _ z_=>by subst hq0_;exact z_),?_⟩
   subst hq0_
   exact xdk mn (fun _ h_ H_=>xav H_ tA25 tS25 rfl (i:=1) rfl (vs:=[.slice a1 t.nH c1,.slice a2 t.nW c2,.slice a3 t.m c3]) rfl rfl) ⟨rfl,rfl⟩
  refine xaw rfl (xdj ?_) ?_
  ·
   intro val10 pc11 hQ_ hX_
   obtain ⟨q_,hq0_⟩: ∃ q_:Value→Pcs→Prop,q_=(fun v_ x_=>v_= .agg #[.slice a1 t.nH c1,.slice a2 t.nW c2,.slice a3 t.m c3]∧x_=[]):=⟨_,rfl⟩
   refine ⟨(zq8 (zq16 (zq32 []))),[],q_,rfl,rfl,(fun _ _ z_=>by subst hq0_;exact z_),?_⟩
   subst hq0_
   exact xdk mn (fun _ h_ H_=>xav H_ tA25 tS25 rfl (i:=1) rfl (vs:=[.slice a1 t.nH c1,.slice a2 t.nW c2,.slice a3 t.m c3]) rfl rfl) ⟨rfl,rfl⟩
  refine xaw rfl (xdj ?_) ?_
  ·
   intro val10 pc11 hQ_ hX_
   obtain ⟨q_,hq0_⟩: ∃ q_:Value→Pcs→Prop,q_=(fun v_ x_=>v_= .int .i64 (z)∧x_=[]):=⟨_,rfl⟩
   refine ⟨(zq8 (zq16 (zq32 []))),[],q_,rfl,rfl,(fun _ _ z_=>by subst hq0_;exact z_),?_⟩
   subst hq0_
   exact xdk mn (fun _ h_ H_=>xaq (v:=.int .i64 (z)) rfl) ⟨rfl,rfl⟩
  refine xaw rfl (xdj ?_) ?_
  ·
   intro val10 pc11 hQ_ hX_
   have e1_:val10 1= .agg #[.slice a1 t.nH c1,.slice a2 t.nW c2,.slice a3 t.m c3]:=(hQ_ 1 rfl).1
   have e2_:val10 2= .int .i64 (z):=(hQ_ 2 rfl).1
   obtain ⟨q_,hq0_⟩: ∃ q_:Value→Pcs→Prop,q_=(fun v_ x_=>v_= .bool (decide (0≤z∧z≤(t.nH:Int)-1))∧x_=[]):=⟨_,rfl⟩
   refine ⟨(zq8 (zq16 (zq32 []))),[],q_,(by rw [e1_,e2_]),rfl,(fun _ _ z_=>by subst hq0_;exact z_),?_⟩
   subst hq0_
   exact xpq mn (first:=[]) (cap:=[]) rfl rfl fC33 (fun _ h_ H_=>(c33 md _ _ H_.pe _ _ _ _ _ _ _ _ _ t (show TownP _ _ _ _ _ _ _ t from ⟨T.h,T.w,T.y⟩) (by omega) (z)).mono fun v_ h2_ ⟨e_,k_⟩=>⟨[],⟨e_,rfl⟩,H_.call k_⟩)
  refine xaw rfl (xdj ?_) ?_
  ·
   intro val10 pc11 hQ_ hX_
   have e0_:val10 0= .agg #[.slice a1 t.nH c1,.slice a2 t.nW c2,.slice a3 t.m c3]:=(hQ_ 0 rfl).1
   have e3_:val10 3= .bool (decide (0≤z∧z≤(t.nH:Int)-1)):=(hQ_ 3 rfl).1
   obtain ⟨q_,hq0_⟩: ∃ q_:Value→Pcs→Prop,q_=(fun v_ x_=>∃ w12:Value,∃ es13:List (List Value),∃ X14:Pcs,∃ Z15:Pcs,v_= .tuple #[w12,.int .i64 (askB t (decide (0≤z∧z≤(t.nH:Int)-1)))]∧(OwnS 22 1 w12 es13 X14)∧(Inn p es13 (FLc t (decide (0≤z∧z≤(t.nH:Int)-1))) Z15)∧(es13.length=(FLc t (decide (0≤z∧z≤(t.nH:Int)-1))).length)∧x_=(X14++(Z15++[]))):=⟨_,rfl⟩
   refine ⟨(zq8 (zq16 (zq32 []))),[],q_,(by rw [e0_,e3_]),rfl,(fun _ _ z_=>by subst hq0_;exact z_),?_⟩
   subst hq0_
   exact xpq mn (first:=[]) (cap:=[]) rfl rfl fC69 (fun _ h_ H_=>(c69 md _ _ H_.pe _ _ _ _ _ _ t (show TownP _ _ _ _ _ _ _ t from ⟨T.h,T.w,T.y⟩) (by omega) hc0 (decide (0≤z∧z≤(t.nH:Int)-1))).mono fun v_ h2_ ⟨w12,es13,X14,Z15,e_,o16,i17,el18,N_⟩=>⟨_,⟨w12,es13,X14,Z15,e_,o16,i17,el18,rfl⟩,H_.callN N_⟩)
  refine xaw rfl (xdj ?_) ?_
  ·
   intro val10 pc11 hQ_ hX_
   obtain ⟨e4_,o16,i17,el18,x4_⟩:=hG4_ _ _ (hQ_ 4 rfl)
   generalize hg_w12:Gw12 (val10 4) (pc11 4)=w12 at*
   generalize hg_es13:Ges13 (val10 4) (pc11 4)=es13 at*
   generalize hg_X14:GX14 (val10 4) (pc11 4)=X14 at*
   generalize hg_Z15:GZ15 (val10 4) (pc11 4)=Z15 at*
   obtain ⟨q_,hq0_⟩: ∃ q_:Value→Pcs→Prop,q_=(fun v_ x_=>v_= .tuple #[w12,.int .i64 (askB t (decide (0≤z∧z≤(t.nH:Int)-1)))]∧x_=[]):=⟨_,rfl⟩
   refine ⟨(zq8 (zq16 (zq32 []))),[],q_,(by rw [e4_]),rfl,(fun _ _ z_=>by subst hq0_ hg_w12 hg_es13 hg_X14 hg_Z15;exact z_),?_⟩
   subst hq0_
   exact xdk mn (fun _ h_ H_=>xaq (v:=.tuple #[w12,.int .i64 (askB t (decide (0≤z∧z≤(t.nH:Int)-1)))]) rfl) ⟨rfl,rfl⟩
  refine xaw rfl (xdj ?_) ?_
  ·
   intro val10 pc11 hQ_ hX_
   obtain ⟨e4_,o16,i17,el18,x4_⟩:=hG4_ _ _ (hQ_ 4 rfl)
   have e5_:val10 5= .tuple #[(Gw12 (val10 4) (pc11 4)),.int .i64 (askB t (decide (0≤z∧z≤(t.nH:Int)-1)))]:=(hQ_ 5 rfl).1
   generalize hg_w12:Gw12 (val10 4) (pc11 4)=w12 at*
   generalize hg_es13:Ges13 (val10 4) (pc11 4)=es13 at*
   generalize hg_X14:GX14 (val10 4) (pc11 4)=X14 at*
   generalize hg_Z15:GZ15 (val10 4) (pc11 4)=Z15 at*
   obtain ⟨q_,hq0_⟩: ∃ q_:Value→Pcs→Prop,q_=(fun v_ x_=>v_=w12∧x_=[]):=⟨_,rfl⟩
   refine ⟨(zq8 (zq16 (zq32 []))),[],q_,(by rw [e4_,e5_]),rfl,(fun _ _ z_=>by subst hq0_ hg_w12 hg_es13 hg_X14 hg_Z15;exact z_),?_⟩
   subst hq0_
   exact xdk mn (fun _ h_ H_=>xej rfl (v:=w12) rfl) ⟨rfl,rfl⟩
  refine xaw rfl (xdj ?_) ?_
  ·
   intro val10 pc11 hQ_ hX_
   obtain ⟨e4_,o16,i17,el18,x4_⟩:=hG4_ _ _ (hQ_ 4 rfl)
   have e5_:val10 5= .tuple #[(Gw12 (val10 4) (pc11 4)),.int .i64 (askB t (decide (0≤z∧z≤(t.nH:Int)-1)))]:=(hQ_ 5 rfl).1
   generalize hg_w12:Gw12 (val10 4) (pc11 4)=w12 at*
   generalize hg_es13:Ges13 (val10 4) (pc11 4)=es13 at*
   generalize hg_X14:GX14 (val10 4) (pc11 4)=X14 at*
   generalize hg_Z15:GZ15 (val10 4) (pc11 4)=Z15 at*
   obtain ⟨q_,hq0_⟩: ∃ q_:Value→Pcs→Prop,q_=(fun v_ x_=>v_= .int .i64 (askB t (decide (0≤z∧z≤(t.nH:Int)-1)))∧x_=[]):=⟨_,rfl⟩
   refine ⟨(zq8 (zq16 (zq32 []))),[],q_,(by rw [e4_,e5_]),rfl,(fun _ _ z_=>by subst hq0_ hg_w12 hg_es13 hg_X14 hg_Z15;exact z_),?_⟩
   subst hq0_
   exact xdk mn (fun _ h_ H_=>xej rfl (v:=.int .i64 (askB t (decide (0≤z∧z≤(t.nH:Int)-1)))) rfl) ⟨rfl,rfl⟩
  refine xaw rfl (xdj ?_) ?_
  ·
   intro val10 pc11 hQ_ hX_
   have e0_:val10 0= .agg #[.slice a1 t.nH c1,.slice a2 t.nW c2,.slice a3 t.m c3]:=(hQ_ 0 rfl).1
   have e1_:val10 1= .agg #[.slice a1 t.nH c1,.slice a2 t.nW c2,.slice a3 t.m c3]:=(hQ_ 1 rfl).1
   have e2_:val10 2= .int .i64 (z):=(hQ_ 2 rfl).1
   have e3_:val10 3= .bool (decide (0≤z∧z≤(t.nH:Int)-1)):=(hQ_ 3 rfl).1
   obtain ⟨e4_,o16,i17,el18,x4_⟩:=hG4_ _ _ (hQ_ 4 rfl)
   have e5_:val10 5= .tuple #[(Gw12 (val10 4) (pc11 4)),.int .i64 (askB t (decide (0≤z∧z≤(t.nH:Int)-1)))]:=(hQ_ 5 rfl).1
   have e6_:val10 6=(Gw12 (val10 4) (pc11 4)):=(hQ_ 6 rfl).1
   generalize hg_w12:Gw12 (val10 4) (pc11 4)=w12 at*
   generalize hg_es13:Ges13 (val10 4) (pc11 4)=es13 at*
   generalize hg_X14:GX14 (val10 4) (pc11 4)=X14 at*
   generalize hg_Z15:GZ15 (val10 4) (pc11 4)=Z15 at*
   obtain ⟨q_,hq0_⟩: ∃ q_:Value→Pcs→Prop,q_=(fun v_ x_=>v_=w12∧x_=[]):=⟨_,rfl⟩
   refine ⟨(zq8 (zq16 (zq32 []))),[],q_,(by rw [e0_,e1_,e2_,e3_,e4_,e5_,e6_]),rfl,(fun _ _ z_=>by subst hq0_ hg_w12 hg_es13 hg_X14 hg_Z15;exact z_),?_⟩
   subst hq0_
   exact xdk mn (fun _ h_ H_=>xax (v:=w12) rfl) ⟨rfl,rfl⟩
  exact xlw rfl
 intro val10 pc11 hQ_ hX_
 have e0_:val10 0= .agg #[.slice a1 t.nH c1,.slice a2 t.nW c2,.slice a3 t.m c3]:=(hQ_ 0 (by decide)).1
 have e1_:val10 1= .agg #[.slice a1 t.nH c1,.slice a2 t.nW c2,.slice a3 t.m c3]:=(hQ_ 1 (by decide)).1
 have e2_:val10 2= .int .i64 (z):=(hQ_ 2 (by decide)).1
 have e3_:val10 3= .bool (decide (0≤z∧z≤(t.nH:Int)-1)):=(hQ_ 3 (by decide)).1
 obtain ⟨e4_,o16,i17,el18,x4_⟩:=hG4_ _ _ (hQ_ 4 (by decide))
 have e5_:val10 5= .tuple #[(Gw12 (val10 4) (pc11 4)),.int .i64 (askB t (decide (0≤z∧z≤(t.nH:Int)-1)))]:=(hQ_ 5 (by decide)).1
 have e6_:val10 6=(Gw12 (val10 4) (pc11 4)):=(hQ_ 6 (by decide)).1
 have e7_:val10 7= .int .i64 (askB t (decide (0≤z∧z≤(t.nH:Int)-1))):=(hQ_ 7 (by decide)).1
 have e8_:val10 8=(Gw12 (val10 4) (pc11 4)):=(hQ_ 8 (by decide)).1
 clear hQ_ hX_
 generalize Gw12 (val10 4) (pc11 4)=w12 at*
 generalize Ges13 (val10 4) (pc11 4)=es13 at*
 generalize GX14 (val10 4) (pc11 4)=X14 at*
 generalize GZ15 (val10 4) (pc11 4)=Z15 at*
 refine xxz (Φ:=fun h_=>St h [] p h_ (([(b2,.cells #[.int .i64 0,.int .i64 0] 30 (0,0)),(b1,.cells #[.slice a1 t.nH c1,.slice a2 t.nW c2,.slice a3 t.m c3] 25 (0,0))]:Pcs)++(pc11 4++[]))) ?_ (fun h_ H_=>H_.swap')
 rw [x4_]
 refine xcz (L':=([(b2,.cells #[.int .i64 0,.int .i64 0] 30 (0,0)),(b1,.cells #[.slice a1 t.nH c1,.slice a2 t.nW c2,.slice a3 t.m c3] 25 (0,0))]:Pcs)++(X14++(Z15++[]))) (by simp) ?_
 refine xgq (tm':=(zq8 (zq16 (zq32 [])))) (by rw [e0_,e1_,e2_,e3_,e4_,e5_,e6_,e7_,e8_]) ?_
 refine ro (xax (v:=.int .i64 (askB t (decide (0≤z∧z≤(t.nH:Int)-1)))) rfl) <| ren <| fsr <| ro (xaq (v:=.int .i64 (askB t (decide (0≤z∧z≤(t.nH:Int)-1)))) rfl) <| rt (xjv rfl rfl) (tm':=zq2 (zq4 (zq16 _))) rfl <| xak ?_
 by_cases cc21:askB t (decide (0≤z∧z≤(t.nH:Int)-1))≠0
 ·
  refine xcw rfl (dtt cc21) <| fsr <| ro (xhx tZ30 tP30 (vs:=[]) rfl (cells:=#[.int .i64 0,.int .i64 0]) rfl) <| ro (xaq (v:=.int .i64 (askB t (decide (0≤z∧z≤(t.nH:Int)-1)))) rfl) ?_
  refine xiz mn tS30 rfl (v:=.agg #[.int .i64 0,.int .i64 0]) rfl (i:=0) rfl rfl rfl (Nat.le_of_ble_eq_true rfl) (cs2:=[.int .i64 0,.int .i64 0]) rfl (xcz (L':=([(b2,.cells #[.int .i64 0,.int .i64 0] 30 (0,0)),(b1,.cells #[.slice a1 t.nH c1,.slice a2 t.nW c2,.slice a3 t.m c3] 25 (0,0))]:Pcs)++(X14++(Z15++[]))) rfl ?_)
  refine rt (xax (v:=.int .i64 (askB t (decide (0≤z∧z≤(t.nH:Int)-1)))) rfl) (tm':=zq2 (zq4 _)) rfl <| xak ?_
  refine xdz Tryd.func19 rfl (vs:=[.agg #[.int .i64 0,.int .i64 0],.int .i64 (askB t (decide (0≤z∧z≤(t.nH:Int)-1)))]) (fun h_ H_=>⟨.agg #[.int .i64 0,.int .i64 0],_,rfl,(xbx (xbk (xnj tA30 tS30 (vs:=[.int .i64 0,.int .i64 0]) rfl (fun j_ v_ e_=>by rw [xmv];exact H_.ocell (i:=0) rfl (by simpa using e_)) ⟨rfl,rfl⟩))),⟨.int .i64 (askB t (decide (0≤z∧z≤(t.nH:Int)-1))),_,rfl,rfl,rfl⟩⟩) (v:=.tuple #[.agg #[.int .i64 0,.int .i64 0],.int .i64 (askB t (decide (0≤z∧z≤(t.nH:Int)-1)))]) rfl ?_
  exact fun h_ H_=>K _ _ ⟨by rw [houseC,if_neg ‹_›,houseC,if_neg ‹_›],H_.kept⟩
 ·
  refine xck rfl (dff cc21) <| xcv <| xek ?_
  obtain ⟨e0_,eb_⟩:=yuk (show askB t (decide (0≤z∧z≤((t.nH:Nat):Int)-1))=0 by omega)
  have O:=xuq e0_
  have hP:=hc0 e0_
  have hap_:=ydq O.toOk
  have hal_:=ydx O.toOk hP
  have fl_:=zjx (show askB t (decide (0≤z∧z≤((t.nH:Nat):Int)-1))=0 by omega)
  have fp_:=yuv O.toOk
  have fn_:=wex O.toOk hP
  refine xfw (List.Perm.append_left _ (List.perm_append_comm_assoc _ _ _)) ?_
  refine xkw (L':=([(b2,.cells #[.int .i64 0,.int .i64 0] 30 (0,0)),(b1,.cells #[.slice a1 t.nH c1,.slice a2 t.nW c2,.slice a3 t.m c3] 25 (0,0))]:Pcs)++(Z15++(X14++[]))) rfl ?_
  refine yaq (A:=([(b2,.cells #[.int .i64 0,.int .i64 0] 30 (0,0)),(b1,.cells #[.slice a1 t.nH c1,.slice a2 t.nW c2,.slice a3 t.m c3] 25 (0,0))]:Pcs)) (Z:=Z15) fun p22 le23 hz24=>?_
  refine xmk (A:=([(b2,.cells #[.int .i64 0,.int .i64 0] 30 (0,0)),(b1,.cells #[.slice a1 t.nH c1,.slice a2 t.nW c2,.slice a3 t.m c3] 25 (0,0))]:Pcs)) o16 (el18.trans (congrArg List.length fl_)) fun p28 a29 cp30 le31 ev_ D32=>?_
  subst ev_
  refine xkw (L':=[(b2,.cells #[.int .i64 0,.int .i64 0] 30 (0,0)),(b1,.cells #[.slice a1 t.nH c1,.slice a2 t.nW c2,.slice a3 t.m c3] 25 (0,0))]) rfl ?_
  obtain ⟨A26,C27,T_⟩:=((i17.as fl_ rfl) _ (le23.trans le31) (fun x_ hx_=>le31 _ _ (hz24 x_ hx_))).tab D32
  have T25:=Tab1.const (n:=t.m) T_ (fun i_ hi_=>(ysq O.toOk hi_).div.len);clear T_
  refine xgz 5 [[],[],[1],[1,2],[],[],[]] xlq (by kernel_rfl) (Nat.le_of_ble_eq_true rfl) ?_
  refine wd (fun h_ H_=>xav H_ tA25 tS25 rfl (i:=1) rfl (vs:=[.slice a1 t.nH c1,.slice a2 t.nW c2,.slice a3 t.m c3]) rfl rfl) <| wt (xaq (v:=.slice a29 ((FL t).length) cp30) rfl) (tm':=zq2 (zq8 (zq16 _))) rfl ?_
  refine wo (xbw (i:=0) Tryd.underlying74 tS22 (xjz a29 ((FL t).length) cp30 (T25.ne (by omega))) rfl (by omega)) ?_
  refine xbv mn (fun h_ H_=>xbj H_ tA22 rfl (v:=.slice (A26 0) t.m (C27 0)) (T25.cell _ (by omega))) (tm':=zq4 (zq8 (zq16 _))) rfl ?_
  refine wo (xaq (v:=.int .i64 (z)) rfl) ?_
  refine xik rfl ?_
  refine xeq mn (first:=[]) (cap:=[]) rfl rfl fC34 (fun h_ H_=>c34 md _ _ H_.pe _ _ _ _ _ _ _ _ _ t (show TownP _ _ _ _ _ _ _ t from ⟨((T.h.mono le23).mono le31),((T.w.mono le23).mono le31),((T.y.mono le23).mono le31)⟩) (by omega) _ _ _ _ (T25.ints _ (by omega)) (Nat.le_refl _) (yyk O.toOk (by omega)) (z)) (tm':=zq2 (zq4 (zq8 (zq16 _)))) rfl ?_
  refine ro (xax (v:=.int .i64 (drawI t ((FL t).getD 0 []) ((FL t).getD 0 []).length (z))) rfl) <| ren <| xbq <| ro (xaq (v:=.int .i64 (drawI t ((FL t).getD 0 []) ((FL t).getD 0 []).length (z))) rfl) <| rt (xaq (v:=.int .i64 (drawI t ((FL t).getD 0 []) ((FL t).getD 0 []).length (z))) rfl) (tm':=zq32 _) rfl <| ro (xhx tZ30 tP30 (vs:=[(0,.int .i64 (drawI t ((FL t).getD 0 []) ((FL t).getD 0 []).length (z))),(1,.int .i64 (drawI t ((FL t).getD 0 []) ((FL t).getD 0 []).length (z)))]) rfl (cells:=#[.int .i64 (drawI t ((FL t).getD 0 []) ((FL t).getD 0 []).length (z)),.int .i64 (drawI t ((FL t).getD 0 []) ((FL t).getD 0 []).length (z))]) rfl) ?_
  refine xkx mn tZ30 rfl fun b33=>xcz (L':=[(b33,.cells #[.int .i64 0,.int .i64 0] 30 (0,0)),(b2,.cells #[.int .i64 0,.int .i64 0] 30 (0,0)),(b1,.cells #[.slice a1 t.nH c1,.slice a2 t.nW c2,.slice a3 t.m c3] 25 (0,0))]) rfl ?_
  refine xiz mn tS30 rfl (v:=.agg #[.int .i64 (drawI t ((FL t).getD 0 []) ((FL t).getD 0 []).length (z)),.int .i64 (drawI t ((FL t).getD 0 []) ((FL t).getD 0 []).length (z))]) rfl (i:=0) rfl rfl rfl (Nat.le_of_ble_eq_true rfl) (cs2:=[.int .i64 (drawI t ((FL t).getD 0 []) ((FL t).getD 0 []).length (z)),.int .i64 (drawI t ((FL t).getD 0 []) ((FL t).getD 0 []).length (z))]) rfl (xcz (L':=[(b33,.cells #[.int .i64 (drawI t ((FL t).getD 0 []) ((FL t).getD 0 []).length (z)),.int .i64 (drawI t ((FL t).getD 0 []) ((FL t).getD 0 []).length (z))] 30 (0,0)),(b2,.cells #[.int .i64 0,.int .i64 0] 30 (0,0)),(b1,.cells #[.slice a1 t.nH c1,.slice a2 t.nW c2,.slice a3 t.m c3] 25 (0,0))]) rfl ?_)
  refine ren <| fsr <| rt (xax (v:=.int .i64 0) rfl) (tm':=zq1 (zq2 (zq8 _))) rfl <| xak <| xex ?_
  refine xiq (m₀:=(FL t).length-0) (fun m_ tm_ h_=>∃ (k:Nat) (lo_:Int) (hi_:Int),m_=(FL t).length-k∧(∃ y34:Nat→Value,tm_=[.agg #[.slice a1 t.nH c1,.slice a2 t.nW c2,.slice a3 t.m c3],.int .i64 (z),.pointer (some ⟨b1,0,none⟩),undef,.pointer (some ⟨b2,0,none⟩),.int .i64 0,.slice a29 ((FL t).length) cp30,.int .i64 (askB t (decide (0≤z∧z≤(t.nH:Int)-1))),.int .i64 (drawI t ((FL t).getD 0 []) ((FL t).getD 0 []).length (z)),.pointer (some ⟨b33,0,none⟩),.int .i64 (((k:Nat):Int)),(y34 11),.tuple #[.slice a29 ((FL t).length) cp30,.int .i64 (askB t (decide (0≤z∧z≤(t.nH:Int)-1)))],.agg #[.slice a1 t.nH c1,.slice a2 t.nW c2,.slice a3 t.m c3],.agg #[.slice a1 t.nH c1,.slice a2 t.nW c2,.slice a3 t.m c3],.int .i64 (z),.bool (decide (0≤z∧z≤(t.nH:Int)-1)),.tuple #[.slice a29 ((FL t).length) cp30,.int .i64 (askB t (decide (0≤z∧z≤(t.nH:Int)-1)))],.slice a29 ((FL t).length) cp30,.int .i64 (askB t (decide (0≤z∧z≤(t.nH:Int)-1))),.int .i64 (askB t (decide (0≤z∧z≤(t.nH:Int)-1))),.bool (decide (askB t (decide (0≤z∧z≤(t.nH:Int)-1))≠0)),undef,undef,.agg #[.slice a1 t.nH c1,.slice a2 t.nW c2,.slice a3 t.m c3],.slice a29 ((FL t).length) cp30,.pointer (some ((adr a29).add (0*1))),.slice (A26 0) t.m (C27 0),.int .i64 (z),.int .i64 (drawI t ((FL t).getD 0 []) ((FL t).getD 0 []).length (z)),.int .i64 (drawI t ((FL t).getD 0 []) ((FL t).getD 0 []).length (z)),.int .i64 (drawI t ((FL t).getD 0 []) ((FL t).getD 0 []).length (z)),.agg #[.int .i64 (drawI t ((FL t).getD 0 []) ((FL t).getD 0 []).length (z)),.int .i64 (drawI t ((FL t).getD 0 []) ((FL t).getD 0 []).length (z))],(y34 33),(y34 34),(y34 35),(y34 36),(y34 37),(y34 38),(y34 39),(y34 40),(y34 41),(y34 42),(y34 43),(y34 44),(y34 45),(y34 46),(y34 47),(y34 48),(y34 49),(y34 50),(y34 51),(y34 52),(y34 53),(y34 54),undef])∧(k≤(FL t).length)∧(lo_=loK t z k)∧(hi_=hiK t z k)∧St h [] p28 h_ ([(b33,.cells #[.int .i64 (lo_),.int .i64 (hi_)] 30 (0,0)),(b2,.cells #[.int .i64 0,.int .i64 0] 30 (0,0)),(b1,.cells #[.slice a1 t.nH c1,.slice a2 t.nW c2,.slice a3 t.m c3] 25 (0,0))])) (fun h_ H_=>⟨0,drF t z 0,drF t z 0,rfl,(y_of rfl),Nat.zero_le _,rfl,rfl,H_⟩) ?_
  intro m_ tm_ IH35
  refine xhk fun k=>xhk fun lo_=>xhk fun hi_=>xcj fun hm_=>xcj fun ht_=>xcj fun hk=>xcj fun hlo_=>xcj fun hhi_=>?_
  subst hm_;obtain ⟨y34,ht_⟩:=ht_;subst ht_
  refine xek <| fsr <| ro (xaq (v:=.int .i64 (((k:Nat):Int))) rfl) <| ro (xaq (v:=.slice a29 ((FL t).length) cp30) rfl) <| rt (xfx Tryd.underlying74 rfl) (tm':=zq4 (zq32 _)) rfl <| ro (xgj rfl rfl) ?_
  refine xak ?_
  by_cases cc36:((k:Nat):Int)<(((FL t).length:Nat):Int)
  ·
   refine xcw rfl (dtt cc36) <| xcv <| xek <| xex <| xek ?_
   refine xgz 6 [[],[],[],[1,2],[1,2,3],[],[],[]] xlq (by kernel_rfl) (Nat.le_of_ble_eq_true rfl) ?_
   refine wd (fun h_ H_=>xav H_ tA25 tS25 rfl (i:=2) rfl (vs:=[.slice a1 t.nH c1,.slice a2 t.nW c2,.slice a3 t.m c3]) rfl rfl) <| wt (xaq (v:=.slice a29 ((FL t).length) cp30) rfl) (tm':=zq8 (zq16 (zq32 []))) rfl <| wo (xaq (v:=.int .i64 (((k:Nat):Int))) rfl) ?_
   refine wt (xbw (i:=k) Tryd.underlying74 tS22 (xjz a29 ((FL t).length) cp30 (T25.ne (by omega))) rfl (by omega)) (tm':=zq8 (zq16 (zq32 []))) rfl ?_
   refine wd (fun h_ H_=>xbj H_ tA22 rfl (v:=.slice (A26 k) t.m (C27 k)) (T25.cell _ (by omega))) ?_
   refine wt (xaq (v:=.int .i64 (z)) rfl) (tm':=zq8 (zq16 (zq32 []))) rfl ?_
   refine xik rfl ?_
   refine xeq mn (first:=[]) (cap:=[]) rfl rfl fC34 (fun h_ H_=>c34 md _ _ H_.pe _ _ _ _ _ _ _ _ _ t (show TownP _ _ _ _ _ _ _ t from ⟨((T.h.mono le23).mono le31),((T.w.mono le23).mono le31),((T.y.mono le23).mono le31)⟩) (by omega) _ _ _ _ (T25.ints _ (by omega)) (Nat.le_refl _) (yyk O.toOk (by omega)) (z)) rfl ?_
   refine rt (xax (v:=.int .i64 (drawI t ((FL t).getD k []) ((FL t).getD k []).length (z))) rfl) (tm':=zq4 (zq8 _)) rfl <| xak <| xbq <| ro (xaz wvj rfl (a':=⟨b33,0,none⟩) rfl) <| rd (fun h_ H_=>xaj H_ tA3 rfl (i:=0) rfl (v:=.int .i64 (lo_)) rfl) <| rt (xaq (v:=.int .i64 (drawI t ((FL t).getD k []) ((FL t).getD k []).length (z))) rfl) (tm':=zq8 (zq16 (zq32 []))) rfl ?_
   refine ro (ziz rfl rfl) <| ro (xaz wvz rfl (a':=⟨b33,1,none⟩) rfl) ?_
   refine xbz mn (fun h_ H_=>xaj H_ tA3 rfl (i:=0) rfl (v:=.int .i64 (hi_)) rfl) (tm':=zq8 (zq16 (zq32 []))) rfl ?_
   refine ro (xaq (v:=.int .i64 (drawI t ((FL t).getD k []) ((FL t).getD k []).length (z))) rfl) <| ro (wbj rfl rfl) <| rt (xhx tZ30 tP30 (vs:=[(0,.int .i64 (min lo_ (drawI t ((FL t).getD k []) ((FL t).getD k []).length (z)))),(1,.int .i64 (max hi_ (drawI t ((FL t).getD k []) ((FL t).getD k []).length (z))))]) rfl (cells:=#[.int .i64 (min lo_ (drawI t ((FL t).getD k []) ((FL t).getD k []).length (z))),.int .i64 (max hi_ (drawI t ((FL t).getD k []) ((FL t).getD k []).length (z)))]) rfl) (tm':=zq8 (zq16 (zq32 []))) rfl ?_
   refine xiz mn tS30 rfl (v:=.agg #[.int .i64 (min lo_ (drawI t ((FL t).getD k []) ((FL t).getD k []).length (z))),.int .i64 (max hi_ (drawI t ((FL t).getD k []) ((FL t).getD k []).length (z)))]) rfl (i:=0) rfl rfl rfl (Nat.le_of_ble_eq_true rfl) (cs2:=[.int .i64 (min lo_ (drawI t ((FL t).getD k []) ((FL t).getD k []).length (z))),.int .i64 (max hi_ (drawI t ((FL t).getD k []) ((FL t).getD k []).length (z)))]) rfl (xcz (L':=[(b33,.cells #[.int .i64 (min lo_ (drawI t ((FL t).getD k []) ((FL t).getD k []).length (z))),.int .i64 (max hi_ (drawI t ((FL t).getD k []) ((FL t).getD k []).length (z)))] 30 (0,0)),(b2,.cells #[.int .i64 0,.int .i64 0] 30 (0,0)),(b1,.cells #[.slice a1 t.nH c1,.slice a2 t.nW c2,.slice a3 t.m c3] 25 (0,0))]) rfl ?_)
   refine xak <| xdx <| xbq <| ro (xaq (v:=.int .i64 (((k:Nat):Int))) rfl) ?_
   refine ro (xev rfl rfl (n:=((k+1:Nat):Int)) (wr (by omega))) ?_
   refine rt (xax (v:=.int .i64 (((k+1:Nat):Int))) rfl) (tm':=zq1 (zq2 (zq8 _))) rfl <| xak ?_
   exact fun h_ H_=>IH35 _ _ (by omega) h_ ⟨k+1,min lo_ (drawI t ((FL t).getD k []) ((FL t).getD k []).length (z)),max hi_ (drawI t ((FL t).getD k []) ((FL t).getD k []).length (z)),rfl,(y_of rfl),(by omega),(by rw [hlo_];rfl),(by rw [hhi_];rfl),H_⟩
  ·
   refine xck rfl (dff cc36) <| xhv rfl <| fsr <| rd (fun h_ H_=>xav H_ tA30 tS30 rfl (i:=0) rfl (vs:=[.int .i64 (lo_),.int .i64 (hi_)]) rfl rfl) ?_
   refine xiz mn tS30 rfl (v:=.agg #[.int .i64 (lo_),.int .i64 (hi_)]) rfl (i:=1) rfl rfl rfl (Nat.le_of_ble_eq_true rfl) (cs2:=[.int .i64 (lo_),.int .i64 (hi_)]) rfl (xcz (L':=[(b33,.cells #[.int .i64 (lo_),.int .i64 (hi_)] 30 (0,0)),(b2,.cells #[.int .i64 (lo_),.int .i64 (hi_)] 30 (0,0)),(b1,.cells #[.slice a1 t.nH c1,.slice a2 t.nW c2,.slice a3 t.m c3] 25 (0,0))]) rfl ?_)
   refine ro (xax (v:=.int .i64 0) rfl) <| xak ?_
   refine xdz Tryd.func19 rfl (vs:=[.agg #[.int .i64 (lo_),.int .i64 (hi_)],.int .i64 0]) (fun h_ H_=>⟨.agg #[.int .i64 (lo_),.int .i64 (hi_)],_,rfl,(xbx (xbk (xnj tA30 tS30 (vs:=[.int .i64 (lo_),.int .i64 (hi_)]) rfl (fun j_ v_ e_=>by rw [xmv];exact H_.ocell (i:=1) rfl (by simpa using e_)) ⟨rfl,rfl⟩))),⟨.int .i64 0,_,rfl,rfl,rfl⟩⟩) (v:=.tuple #[.agg #[.int .i64 (lo_),.int .i64 (hi_)],.int .i64 0]) rfl ?_
   have hz_:=of_decide_eq_true eb_
   have a0_:askB t (decide (0≤z∧z≤((t.nH:Nat):Int)-1))=0:=by omega
   have k1_:=wrv O hz_ (k:=k) (by omega)
   have k2_:=wsv O hz_ (k:=k) (by omega)
   exact fun h_ H_=>K _ _ ⟨by rw [houseC,if_pos a0_,houseC,if_pos a0_,a0_,hlo_,hhi_,k1_,k2_],H_.kept⟩
theorem c21 (md:Md) (h:Heap) (p:PHeap) (hp:Per p h) (a1 a2 a3:Option Addr) (c1 c2 c3:Nat) (t:Tn) (T:TownP p a1 t.nH a2 t.nW a3 t.m t) (hn:t.nH≤40∧t.nW≤40∧t.m≤41) (hc0:chkB t=0→prodW t t.m 0≤2000) (z:Int):CallsX Tryd.prog md 21 #[.agg #[.slice a1 t.nH c1,.slice a2 t.nW c2,.slice a3 t.m c3],.int .i64 (z)] h fun v h'=>v= .tuple #[.int .i64 (dryC t z),.int .i64 (askB t (decide (0≤z∧z≤((t.nW:Nat):Int)-1)))]∧Keep h h':=by
 refine xcq (Φ:=fun h_=>St h [] p h_ []) Tryd.func21 rfl (tm:=zq2 (zq4 (zq8 (zq32 [])))) rfl ?_ (St.start h _ hp)
 intro c₀ cs Stop K
 refine fsr ?_
 refine xix mn (v:=.agg #[.slice a1 t.nH c1,.slice a2 t.nW c2,.slice a3 t.m c3]) rfl fun b1=>xcz (L':=[(b1,.cells #[.slice a1 t.nH c1,.slice a2 t.nW c2,.slice a3 t.m c3] 25 (0,0))]) rfl ?_
 refine xgq (tm':=_::_::_::_) rfl ?_
 refine ro (xax (v:=.int .i64 0) rfl) <| ro (xax (v:=.int .i64 0) rfl) <| ren ?_
 obtain ⟨Gw11,Ges12,GX13,GZ14,hG4_⟩:=sk4 (fun (v_:Value) (x_:Pcs) (w11:Value) (es12:List (List Value)) (X13:Pcs) (Z14:Pcs)=>v_= .tuple #[w11,.int .i64 (askB t (decide (0≤z∧z≤(t.nW:Int)-1)))]∧(OwnS 22 1 w11 es12 X13)∧(Inn p es12 (FLc t (decide (0≤z∧z≤(t.nW:Int)-1))) Z14)∧(es12.length=(FLc t (decide (0≤z∧z≤(t.nW:Int)-1))).length)∧x_=(X13++(Z14++[])))
 refine xzq (xmx (C:=[]) (A:=([(b1,.cells #[.slice a1 t.nH c1,.slice a2 t.nW c2,.slice a3 t.m c3] 25 (0,0))]:Pcs)) 9 [[],[],[],[],[],[4],[],[],[],[]] [] [4] [0,1,2,3,5,6,7,8] (fun _=>[]) (fun _=>[]) (fun i_=>match i_ with | 0=>[] | 1=>[] | 2=>[] | 3=>[1,2] | 4=>[0,3] | 5=>[4] | 6=>[4,5] | 7=>[4,5] | 8=>[0,1,2,3,4,5,6] | _=>[]) (fun i_ val_ pc_ v_ x_=>match i_ with | 0=>v_= .agg #[.slice a1 t.nH c1,.slice a2 t.nW c2,.slice a3 t.m c3]∧x_=[] | 1=>v_= .agg #[.slice a1 t.nH c1,.slice a2 t.nW c2,.slice a3 t.m c3]∧x_=[] | 2=>v_= .int .i64 (z)∧x_=[] | 3=>v_= .bool (decide (0≤z∧z≤(t.nW:Int)-1))∧x_=[] | 4=>∃ w11:Value,∃ es12:List (List Value),∃ X13:Pcs,∃ Z14:Pcs,v_= .tuple #[w11,.int .i64 (askB t (decide (0≤z∧z≤(t.nW:Int)-1)))]∧(OwnS 22 1 w11 es12 X13)∧(Inn p es12 (FLc t (decide (0≤z∧z≤(t.nW:Int)-1))) Z14)∧(es12.length=(FLc t (decide (0≤z∧z≤(t.nW:Int)-1))).length)∧x_=(X13++(Z14++[])) | 5=>v_= .tuple #[(Gw11 (val_ 4) (pc_ 4)),.int .i64 (askB t (decide (0≤z∧z≤(t.nW:Int)-1)))]∧x_=[] | 6=>v_=(Gw11 (val_ 4) (pc_ 4))∧x_=[] | 7=>v_= .int .i64 (askB t (decide (0≤z∧z≤(t.nW:Int)-1)))∧x_=[] | 8=>v_=(Gw11 (val_ 4) (pc_ 4))∧x_=[] | _=>True) (fun val9=>(.agg #[.slice a1 t.nH c1,.slice a2 t.nW c2,.slice a3 t.m c3]::.int .i64 (z)::.pointer (some ⟨b1,0,none⟩)::undef::.int .i64 0::.int .i64 0::(val9 8)::undef::undef::undef::(val9 5)::(val9 0)::(val9 1)::(val9 2)::(val9 3)::(val9 4)::(val9 6)::(val9 7)::zu4 (zu8 (zu16 [])))) xlq (by kernel_rfl) (Nat.le_of_ble_eq_true rfl) (by kernel_rfl) (by kernel_rfl) (by kernel_rfl) (fun _ _=>⟨fun _ _ h=>h.2,⟨fun _ _ h=>h.2,⟨fun _ _ h=>h.2,⟨fun _ _ h=>h.2,⟨fun _ _ h=>h.2,⟨fun _ _ h=>h.2,⟨fun _ _ h=>h.2,⟨fun _ _ h=>h.2,trivial⟩⟩⟩⟩⟩⟩⟩⟩) (fun _=>by kernel_rfl) (by kernel_rfl) ?_ ?_) (fun h_ H_=>St.swap (A:=([(b1,.cells #[.slice a1 t.nH c1,.slice a2 t.nW c2,.slice a3 t.m c3] 25 (0,0))]:Pcs)) (U:=[]) H_)
 ·
  refine xaw rfl (xdj ?_) ?_
  ·
   intro val9 pc10 hQ_ hX_
   obtain ⟨q_,hq0_⟩: ∃ q_:Value→Pcs→Prop,q_=(fun v_ x_=>v_= .agg #[.slice a1 t.nH c1,.slice a2 t.nW c2,.slice a3 t.m c3]∧x_=[]):=⟨_,rfl⟩
   refine ⟨(zq2 (zq4 (zq8 (zq32 [])))),[],q_,rfl,rfl,(fun _ _ z_=>by subst hq0_;exact z_),?_⟩
   subst hq0_
   exact xdk mn (fun _ h_ H_=>xav H_ tA25 tS25 rfl (i:=0) rfl (vs:=[.slice a1 t.nH c1,.slice a2 t.nW c2,.slice a3 t.m c3]) rfl rfl) ⟨rfl,rfl⟩
  refine xaw rfl (xdj ?_) ?_
  ·
   intro val9 pc10 hQ_ hX_
   obtain ⟨q_,hq0_⟩: ∃ q_:Value→Pcs→Prop,q_=(fun v_ x_=>v_= .agg #[.slice a1 t.nH c1,.slice a2 t.nW c2,.slice a3 t.m c3]∧x_=[]):=⟨_,rfl⟩
   refine ⟨(zq2 (zq4 (zq8 (zq32 [])))),[],q_,rfl,rfl,(fun _ _ z_=>by subst hq0_;exact z_),?_⟩
   subst hq0_
   exact xdk mn (fun _ h_ H_=>xav H_ tA25 tS25 rfl (i:=0) rfl (vs:=[.slice a1 t.nH c1,.slice a2 t.nW c2,.slice a3 t.m c3]) rfl rfl) ⟨rfl,rfl⟩
  refine xaw rfl (xdj ?_) ?_
  ·
   intro val9 pc10 hQ_ hX_
   obtain ⟨q_,hq0_⟩: ∃ q_:Value→Pcs→Prop,q_=(fun v_ x_=>v_= .int .i64 (z)∧x_=[]):=⟨_,rfl⟩
   refine ⟨(zq2 (zq4 (zq8 (zq32 [])))),[],q_,rfl,rfl,(fun _ _ z_=>by subst hq0_;exact z_),?_⟩
   subst hq0_
   exact xdk mn (fun _ h_ H_=>xaq (v:=.int .i64 (z)) rfl) ⟨rfl,rfl⟩
  refine xaw rfl (xdj ?_) ?_
  ·
   intro val9 pc10 hQ_ hX_
   have e1_:val9 1= .agg #[.slice a1 t.nH c1,.slice a2 t.nW c2,.slice a3 t.m c3]:=(hQ_ 1 rfl).1
   have e2_:val9 2= .int .i64 (z):=(hQ_ 2 rfl).1
   obtain ⟨q_,hq0_⟩: ∃ q_:Value→Pcs→Prop,q_=(fun v_ x_=>v_= .bool (decide (0≤z∧z≤(t.nW:Int)-1))∧x_=[]):=⟨_,rfl⟩
   refine ⟨(zq2 (zq4 (zq8 (zq32 [])))),[],q_,(by rw [e1_,e2_]),rfl,(fun _ _ z_=>by subst hq0_;exact z_),?_⟩
   subst hq0_
   exact xpq mn (first:=[]) (cap:=[]) rfl rfl fC57 (fun _ h_ H_=>(c57 md _ _ H_.pe _ _ _ _ _ _ _ _ _ t (show TownP _ _ _ _ _ _ _ t from ⟨T.h,T.w,T.y⟩) (by omega) (z)).mono fun v_ h2_ ⟨e_,k_⟩=>⟨[],⟨e_,rfl⟩,H_.call k_⟩)
  refine xaw rfl (xdj ?_) ?_
  ·
   intro val9 pc10 hQ_ hX_
   have e0_:val9 0= .agg #[.slice a1 t.nH c1,.slice a2 t.nW c2,.slice a3 t.m c3]:=(hQ_ 0 rfl).1
   have e3_:val9 3= .bool (decide (0≤z∧z≤(t.nW:Int)-1)):=(hQ_ 3 rfl).1
   obtain ⟨q_,hq0_⟩: ∃ q_:Value→Pcs→Prop,q_=(fun v_ x_=>∃ w11:Value,∃ es12:List (List Value),∃ X13:Pcs,∃ Z14:Pcs,v_= .tuple #[w11,.int .i64 (askB t (decide (0≤z∧z≤(t.nW:Int)-1)))]∧(OwnS 22 1 w11 es12 X13)∧(Inn p es12 (FLc t (decide (0≤z∧z≤(t.nW:Int)-1))) Z14)∧(es12.length=(FLc t (decide (0≤z∧z≤(t.nW:Int)-1))).length)∧x_=(X13++(Z14++[]))):=⟨_,rfl⟩
   refine ⟨(zq2 (zq4 (zq8 (zq32 [])))),[],q_,(by rw [e0_,e3_]),rfl,(fun _ _ z_=>by subst hq0_;exact z_),?_⟩
   subst hq0_
   exact xpq mn (first:=[]) (cap:=[]) rfl rfl fC69 (fun _ h_ H_=>(c69 md _ _ H_.pe _ _ _ _ _ _ t (show TownP _ _ _ _ _ _ _ t from ⟨T.h,T.w,T.y⟩) (by omega) hc0 (decide (0≤z∧z≤(t.nW:Int)-1))).mono fun v_ h2_ ⟨w11,es12,X13,Z14,e_,o15,i16,el17,N_⟩=>⟨_,⟨w11,es12,X13,Z14,e_,o15,i16,el17,rfl⟩,H_.callN N_⟩)
  refine xaw rfl (xdj ?_) ?_
  ·
   intro val9 pc10 hQ_ hX_
   obtain ⟨e4_,o15,i16,el17,x4_⟩:=hG4_ _ _ (hQ_ 4 rfl)
   generalize hg_w11:Gw11 (val9 4) (pc10 4)=w11 at*
   generalize hg_es12:Ges12 (val9 4) (pc10 4)=es12 at*
   generalize hg_X13:GX13 (val9 4) (pc10 4)=X13 at*
   generalize hg_Z14:GZ14 (val9 4) (pc10 4)=Z14 at*
   obtain ⟨q_,hq0_⟩: ∃ q_:Value→Pcs→Prop,q_=(fun v_ x_=>v_= .tuple #[w11,.int .i64 (askB t (decide (0≤z∧z≤(t.nW:Int)-1)))]∧x_=[]):=⟨_,rfl⟩
   refine ⟨(zq2 (zq4 (zq8 (zq32 [])))),[],q_,(by rw [e4_]),rfl,(fun _ _ z_=>by subst hq0_ hg_w11 hg_es12 hg_X13 hg_Z14;exact z_),?_⟩
   subst hq0_
   exact xdk mn (fun _ h_ H_=>xaq (v:=.tuple #[w11,.int .i64 (askB t (decide (0≤z∧z≤(t.nW:Int)-1)))]) rfl) ⟨rfl,rfl⟩
  refine xaw rfl (xdj ?_) ?_
  ·
   intro val9 pc10 hQ_ hX_
   obtain ⟨e4_,o15,i16,el17,x4_⟩:=hG4_ _ _ (hQ_ 4 rfl)
   have e5_:val9 5= .tuple #[(Gw11 (val9 4) (pc10 4)),.int .i64 (askB t (decide (0≤z∧z≤(t.nW:Int)-1)))]:=(hQ_ 5 rfl).1
   generalize hg_w11:Gw11 (val9 4) (pc10 4)=w11 at*
   generalize hg_es12:Ges12 (val9 4) (pc10 4)=es12 at*
   generalize hg_X13:GX13 (val9 4) (pc10 4)=X13 at*
   generalize hg_Z14:GZ14 (val9 4) (pc10 4)=Z14 at*
   obtain ⟨q_,hq0_⟩: ∃ q_:Value→Pcs→Prop,q_=(fun v_ x_=>v_=w11∧x_=[]):=⟨_,rfl⟩
   refine ⟨(zq2 (zq4 (zq8 (zq32 [])))),[],q_,(by rw [e4_,e5_]),rfl,(fun _ _ z_=>by subst hq0_ hg_w11 hg_es12 hg_X13 hg_Z14;exact z_),?_⟩
   subst hq0_
   exact xdk mn (fun _ h_ H_=>xej rfl (v:=w11) rfl) ⟨rfl,rfl⟩
  refine xaw rfl (xdj ?_) ?_
  ·
   intro val9 pc10 hQ_ hX_
   obtain ⟨e4_,o15,i16,el17,x4_⟩:=hG4_ _ _ (hQ_ 4 rfl)
   have e5_:val9 5= .tuple #[(Gw11 (val9 4) (pc10 4)),.int .i64 (askB t (decide (0≤z∧z≤(t.nW:Int)-1)))]:=(hQ_ 5 rfl).1
   generalize hg_w11:Gw11 (val9 4) (pc10 4)=w11 at*
   generalize hg_es12:Ges12 (val9 4) (pc10 4)=es12 at*
   generalize hg_X13:GX13 (val9 4) (pc10 4)=X13 at*
   generalize hg_Z14:GZ14 (val9 4) (pc10 4)=Z14 at*
   obtain ⟨q_,hq0_⟩: ∃ q_:Value→Pcs→Prop,q_=(fun v_ x_=>v_= .int .i64 (askB t (decide (0≤z∧z≤(t.nW:Int)-1)))∧x_=[]):=⟨_,rfl⟩
   refine ⟨(zq2 (zq4 (zq8 (zq32 [])))),[],q_,(by rw [e4_,e5_]),rfl,(fun _ _ z_=>by subst hq0_ hg_w11 hg_es12 hg_X13 hg_Z14;exact z_),?_⟩
   subst hq0_
   exact xdk mn (fun _ h_ H_=>xej rfl (v:=.int .i64 (askB t (decide (0≤z∧z≤(t.nW:Int)-1)))) rfl) ⟨rfl,rfl⟩
  refine xaw rfl (xdj ?_) ?_
  ·
   intro val9 pc10 hQ_ hX_
   have e0_:val9 0= .agg #[.slice a1 t.nH c1,.slice a2 t.nW c2,.slice a3 t.m c3]:=(hQ_ 0 rfl).1
   have e1_:val9 1= .agg #[.slice a1 t.nH c1,.slice a2 t.nW c2,.slice a3 t.m c3]:=(hQ_ 1 rfl).1
   have e2_:val9 2= .int .i64 (z):=(hQ_ 2 rfl).1
   have e3_:val9 3= .bool (decide (0≤z∧z≤(t.nW:Int)-1)):=(hQ_ 3 rfl).1
   obtain ⟨e4_,o15,i16,el17,x4_⟩:=hG4_ _ _ (hQ_ 4 rfl)
   have e5_:val9 5= .tuple #[(Gw11 (val9 4) (pc10 4)),.int .i64 (askB t (decide (0≤z∧z≤(t.nW:Int)-1)))]:=(hQ_ 5 rfl).1
   have e6_:val9 6=(Gw11 (val9 4) (pc10 4)):=(hQ_ 6 rfl).1
   generalize hg_w11:Gw11 (val9 4) (pc10 4)=w11 at*
   generalize hg_es12:Ges12 (val9 4) (pc10 4)=es12 at*
   generalize hg_X13:GX13 (val9 4) (pc10 4)=X13 at*
   generalize hg_Z14:GZ14 (val9 4) (pc10 4)=Z14 at*
   obtain ⟨q_,hq0_⟩: ∃ q_:Value→Pcs→Prop,q_=(fun v_ x_=>v_=w11∧x_=[]):=⟨_,rfl⟩
   refine ⟨(zq2 (zq4 (zq8 (zq32 [])))),[],q_,(by rw [e0_,e1_,e2_,e3_,e4_,e5_,e6_]),rfl,(fun _ _ z_=>by subst hq0_ hg_w11 hg_es12 hg_X13 hg_Z14;exact z_),?_⟩
   subst hq0_
   exact xdk mn (fun _ h_ H_=>xax (v:=w11) rfl) ⟨rfl,rfl⟩
  exact xlw rfl
 intro val9 pc10 hQ_ hX_
 have e0_:val9 0= .agg #[.slice a1 t.nH c1,.slice a2 t.nW c2,.slice a3 t.m c3]:=(hQ_ 0 (by decide)).1
 have e1_:val9 1= .agg #[.slice a1 t.nH c1,.slice a2 t.nW c2,.slice a3 t.m c3]:=(hQ_ 1 (by decide)).1
 have e2_:val9 2= .int .i64 (z):=(hQ_ 2 (by decide)).1
 have e3_:val9 3= .bool (decide (0≤z∧z≤(t.nW:Int)-1)):=(hQ_ 3 (by decide)).1
 obtain ⟨e4_,o15,i16,el17,x4_⟩:=hG4_ _ _ (hQ_ 4 (by decide))
 have e5_:val9 5= .tuple #[(Gw11 (val9 4) (pc10 4)),.int .i64 (askB t (decide (0≤z∧z≤(t.nW:Int)-1)))]:=(hQ_ 5 (by decide)).1
 have e6_:val9 6=(Gw11 (val9 4) (pc10 4)):=(hQ_ 6 (by decide)).1
 have e7_:val9 7= .int .i64 (askB t (decide (0≤z∧z≤(t.nW:Int)-1))):=(hQ_ 7 (by decide)).1
 have e8_:val9 8=(Gw11 (val9 4) (pc10 4)):=(hQ_ 8 (by decide)).1
 clear hQ_ hX_
 generalize Gw11 (val9 4) (pc10 4)=w11 at*
 generalize Ges12 (val9 4) (pc10 4)=es12 at*
 generalize GX13 (val9 4) (pc10 4)=X13 at*
 generalize GZ14 (val9 4) (pc10 4)=Z14 at*
 refine xxz (Φ:=fun h_=>St h [] p h_ (([(b1,.cells #[.slice a1 t.nH c1,.slice a2 t.nW c2,.slice a3 t.m c3] 25 (0,0))]:Pcs)++(pc10 4++[]))) ?_ (fun h_ H_=>H_.swap')
 rw [x4_]
 refine xcz (L':=([(b1,.cells #[.slice a1 t.nH c1,.slice a2 t.nW c2,.slice a3 t.m c3] 25 (0,0))]:Pcs)++(X13++(Z14++[]))) (by simp) ?_
 refine xgq (tm':=(zq2 (zq4 (zq8 (zq32 []))))) (by rw [e0_,e1_,e2_,e3_,e4_,e5_,e6_,e7_,e8_]) ?_
 refine ro (xax (v:=.int .i64 (askB t (decide (0≤z∧z≤(t.nW:Int)-1)))) rfl) <| ren <| fsr <| ro (xaq (v:=.int .i64 (askB t (decide (0≤z∧z≤(t.nW:Int)-1)))) rfl) <| rt (xjv rfl rfl) (tm':=zq4 (zq16 _)) rfl <| xak ?_
 by_cases cc20:askB t (decide (0≤z∧z≤(t.nW:Int)-1))≠0
 ·
  refine xcw rfl (dtt cc20) <| fsr <| ro (xaq (v:=.int .i64 (askB t (decide (0≤z∧z≤(t.nW:Int)-1)))) rfl) <| ro (xax (v:=.int .i64 0) rfl) <| rt (xax (v:=.int .i64 (askB t (decide (0≤z∧z≤(t.nW:Int)-1)))) rfl) (tm':=zq2 (zq4 _)) rfl <| xak ?_
  refine xdz Tryd.func21 rfl (vs:=[.int .i64 0,.int .i64 (askB t (decide (0≤z∧z≤(t.nW:Int)-1)))]) (fun h_ H_=>⟨.int .i64 0,_,rfl,rfl,⟨.int .i64 (askB t (decide (0≤z∧z≤(t.nW:Int)-1))),_,rfl,rfl,rfl⟩⟩) (v:=.tuple #[.int .i64 0,.int .i64 (askB t (decide (0≤z∧z≤(t.nW:Int)-1)))]) rfl ?_
  exact fun h_ H_=>K _ _ ⟨by rw [dryC,if_neg ‹_›],H_.kept⟩
 ·
  refine xck rfl (dff cc20) <| xcv <| xek ?_
  obtain ⟨e0_,eb_⟩:=yuk (show askB t (decide (0≤z∧z≤((t.nW:Nat):Int)-1))=0 by omega)
  have O:=xuq e0_
  have hP:=hc0 e0_
  have hap_:=ydq O.toOk
  have hal_:=ydx O.toOk hP
  have fl_:=zjx (show askB t (decide (0≤z∧z≤((t.nW:Nat):Int)-1))=0 by omega)
  have fp_:=yuv O.toOk
  have fn_:=wex O.toOk hP
  have hz_:=of_decide_eq_true eb_
  refine xfw (List.Perm.append_left _ (List.perm_append_comm_assoc _ _ _)) ?_
  refine xkw (L':=([(b1,.cells #[.slice a1 t.nH c1,.slice a2 t.nW c2,.slice a3 t.m c3] 25 (0,0))]:Pcs)++(Z14++(X13++[]))) rfl ?_
  refine yaq (A:=([(b1,.cells #[.slice a1 t.nH c1,.slice a2 t.nW c2,.slice a3 t.m c3] 25 (0,0))]:Pcs)) (Z:=Z14) fun p21 le22 hz23=>?_
  refine xmk (A:=([(b1,.cells #[.slice a1 t.nH c1,.slice a2 t.nW c2,.slice a3 t.m c3] 25 (0,0))]:Pcs)) o15 (el17.trans (congrArg List.length fl_)) fun p27 a28 cp29 le30 ev_ D31=>?_
  subst ev_
  refine xkw (L':=[(b1,.cells #[.slice a1 t.nH c1,.slice a2 t.nW c2,.slice a3 t.m c3] 25 (0,0))]) rfl ?_
  obtain ⟨A25,C26,T_⟩:=((i16.as fl_ rfl) _ (le22.trans le30) (fun x_ hx_=>le30 _ _ (hz23 x_ hx_))).tab D31
  have T24:=Tab1.const (n:=t.m) T_ (fun i_ hi_=>(ysq O.toOk hi_).div.len);clear T_
  refine xbq <| ro (xax (v:=.int .i64 0) rfl) <| ren <| fsr <| ro (xax (v:=.int .i64 0) rfl) <| xak ?_
  refine xex ?_
  refine xiq (m₀:=(FL t).length-0) (fun m_ tm_ h_=>∃ (k:Nat) (n_:Nat),m_=(FL t).length-k∧(∃ y32:Nat→Value,tm_=[.agg #[.slice a1 t.nH c1,.slice a2 t.nW c2,.slice a3 t.m c3],.int .i64 (z),.pointer (some ⟨b1,0,none⟩),undef,.int .i64 0,.int .i64 0,.slice a28 ((FL t).length) cp29,.int .i64 (askB t (decide (0≤z∧z≤(t.nW:Int)-1))),.int .i64 (((n_:Nat):Int)),.int .i64 (((k:Nat):Int)),.tuple #[.slice a28 ((FL t).length) cp29,.int .i64 (askB t (decide (0≤z∧z≤(t.nW:Int)-1)))],.agg #[.slice a1 t.nH c1,.slice a2 t.nW c2,.slice a3 t.m c3],.agg #[.slice a1 t.nH c1,.slice a2 t.nW c2,.slice a3 t.m c3],.int .i64 (z),.bool (decide (0≤z∧z≤(t.nW:Int)-1)),.tuple #[.slice a28 ((FL t).length) cp29,.int .i64 (askB t (decide (0≤z∧z≤(t.nW:Int)-1)))],.slice a28 ((FL t).length) cp29,.int .i64 (askB t (decide (0≤z∧z≤(t.nW:Int)-1))),.int .i64 (askB t (decide (0≤z∧z≤(t.nW:Int)-1))),.bool (decide (askB t (decide (0≤z∧z≤(t.nW:Int)-1))≠0)),undef,(y32 21),(y32 22),(y32 23),(y32 24),(y32 25),(y32 26),(y32 27),(y32 28),(y32 29),(y32 30),(y32 31),(y32 32),(y32 33),(y32 34),(y32 35),(y32 36),(y32 37),(y32 38),(y32 39),(y32 40),(y32 41),undef,undef,undef,undef])∧(k≤(FL t).length)∧(n_=cntK t z k)∧St h [] p27 h_ ([(b1,.cells #[.slice a1 t.nH c1,.slice a2 t.nW c2,.slice a3 t.m c3] 25 (0,0))])) (fun h_ H_=>⟨0,0,rfl,(y_of rfl),Nat.zero_le _,rfl,H_⟩) ?_
  intro m_ tm_ IH33
  refine xhk fun k=>xhk fun n_=>xcj fun hm_=>xcj fun ht_=>xcj fun hk=>xcj fun hn_=>?_
  subst hm_;obtain ⟨y32,ht_⟩:=ht_;subst ht_
  have hnb_:n_≤k:=by rw [hn_];exact yrz.1
  refine xek <| fsr <| rt (xaq (v:=.int .i64 (((k:Nat):Int))) rfl) (tm':=zq2 (zq4 (zq16 _))) rfl <| ro (xaq (v:=.slice a28 ((FL t).length) cp29) rfl) <| ro (xfx Tryd.underlying74 rfl) <| rt (xgj rfl rfl) (tm':=zq1 (zq8 (zq16 _))) rfl ?_
  refine xak ?_
  by_cases cc34:((k:Nat):Int)<(((FL t).length:Nat):Int)
  ·
   refine xcw rfl (dtt cc34) <| xcv <| xek <| xex <| xek ?_
   refine xgz 12 [[],[],[],[1,2],[1,2,3],[],[0,1,2,3,4,5],[],[7],[],[7,8,9],[7,8,9,10],[]] xlq (by kernel_rfl) (Nat.le_of_ble_eq_true rfl) ?_
   refine xbv mn (fun h_ H_=>xav H_ tA25 tS25 rfl (i:=0) rfl (vs:=[.slice a1 t.nH c1,.slice a2 t.nW c2,.slice a3 t.m c3]) rfl rfl) (tm':=zq4 (zq8 (zq16 _))) rfl ?_
   refine wo (xaq (v:=.slice a28 ((FL t).length) cp29) rfl) <| wt (xaq (v:=.int .i64 (((k:Nat):Int))) rfl) (tm':=zq2 (zq4 (zq8 (zq16 _)))) rfl ?_
   refine wo (xbw (i:=k) Tryd.underlying74 tS22 (xjz a28 ((FL t).length) cp29 (T24.ne (by omega))) rfl (by omega)) ?_
   refine xbv mn (fun h_ H_=>xbj H_ tA22 rfl (v:=.slice (A25 k) t.m (C26 k)) (T24.cell _ (by omega))) (tm':=zq2 (zq4 (zq8 (zq32 [])))) rfl ?_
   refine wo (xaq (v:=.int .i64 (z)) rfl) ?_
   refine xjq mn (first:=[]) (cap:=[]) rfl rfl fC62 (fun h_ H_=>(c62 md _ _ H_.pe _ _ _ _ _ _ _ _ _ t (show TownP _ _ _ _ _ _ _ t from ⟨((T.h.mono le22).mono le30),((T.w.mono le22).mono le30),((T.y.mono le22).mono le30)⟩) (by omega) _ _ _ _ (T24.ints _ (by omega)) (Nat.le_refl _) (yyk O.toOk (by omega)) (z)).mono fun v_ h2_ ⟨e_,k_⟩=>⟨e_,H_.call k_⟩) (tm':=zq2 (zq4 (zq8 (zq32 [])))) rfl ?_
   refine wo (xaz xqk rfl (a':=⟨b1,1,none⟩) rfl) ?_
   refine xbv mn (fun h_ H_=>xaj H_ tA22 rfl (i:=0) rfl (v:=.slice a2 t.nW c2) rfl) (tm':=zq2 (zq4 (zq8 (zq32 [])))) rfl ?_
   refine wo (xaq (v:=.int .i64 (z)) rfl) ?_
   refine wt (xlj Tryd.underlying22 tS3 (xjz a2 t.nW c2 (((T.w.mono le22).mono le30).ne (by omega))) rfl (by omega) (by omega) (a':=(adr a2).add (((z).toNat)*1)) rfl) (tm':=zq2 (zq4 (zq8 (zq32 [])))) rfl ?_
   refine wd (fun h_ H_=>xbj H_ tA3 rfl (v:=.int .i64 (t.ws.getD ((z).toNat) 0)) (((T.w.mono le22).mono le30).get (by omega))) ?_
   refine xik rfl ?_
   refine ro (xkz rfl rfl) <| xak ?_
   by_cases cc35:giveI t ((FL t).getD k []) ((FL t).getD k []).length (z)=t.ws.getD ((z).toNat) 0
   ·
    refine xcw rfl (dtt cc35) <| xbq <| ro (xaq (v:=.int .i64 (((n_:Nat):Int))) rfl) ?_
    refine rt (xev rfl rfl (n:=((n_+1:Nat):Int)) (wr (by omega))) (tm':=zq2 (zq4 (zq8 (zq32 [])))) rfl ?_
    refine ro (xax (v:=.int .i64 (((n_+1:Nat):Int))) rfl) <| xak <| xdx <| xbq <| ro (xaq (v:=.int .i64 (((k:Nat):Int))) rfl) ?_
    refine rt (xev rfl rfl (n:=((k+1:Nat):Int)) (wr (by omega))) (tm':=zq1 (zq2 (zq8 (zq16 _)))) rfl ?_
    refine ro (xax (v:=.int .i64 (((k+1:Nat):Int))) rfl) <| xak ?_
    exact fun h_ H_=>IH33 _ _ (by omega) h_ ⟨k+1,n_+1,rfl,(y_of rfl),(by omega),(by rw [cntK,if_pos (by assumption),← hn_]),H_⟩
   ·
    refine xck rfl (dff cc35) <| xcv <| xdx <| xbq <| ro (xaq (v:=.int .i64 (((k:Nat):Int))) rfl) ?_
    refine rt (xev rfl rfl (n:=((k+1:Nat):Int)) (wr (by omega))) (tm':=zq1 (zq2 (zq8 (zq16 _)))) rfl ?_
    refine ro (xax (v:=.int .i64 (((k+1:Nat):Int))) rfl) <| xak ?_
    exact fun h_ H_=>IH33 _ _ (by omega) h_ ⟨k+1,n_,rfl,(y_of rfl),(by omega),(by rw [cntK,if_neg (by assumption),← hn_]),H_⟩
  ·
   refine xck rfl (dff cc34) <| xhv rfl <| fsr <| ro (xaq (v:=.int .i64 (((n_:Nat):Int))) rfl) <| rt (xaq (v:=.slice a28 ((FL t).length) cp29) rfl) (tm':=zq2 (zq4 (zq8 (zq32 [])))) rfl <| ro (xfx Tryd.underlying74 rfl) ?_
   refine xeq mn (first:=[]) (cap:=[]) rfl rfl fC72 (fun h_ H_=>c72 md _ (((n_:Nat):Int)) ((((FL t).length:Nat):Int))) rfl ?_
   refine rt (xax (v:=.int .i64 (knownI (((n_:Nat):Int)) ((((FL t).length:Nat):Int)))) rfl) (tm':=zq1 (zq4 _)) rfl <| ro (xax (v:=.int .i64 0) rfl) <| xak ?_
   refine xdz Tryd.func21 rfl (vs:=[.int .i64 (knownI (((n_:Nat):Int)) ((((FL t).length:Nat):Int))),.int .i64 0]) (fun h_ H_=>⟨.int .i64 (knownI (((n_:Nat):Int)) ((((FL t).length:Nat):Int))),_,rfl,rfl,⟨.int .i64 0,_,rfl,rfl,rfl⟩⟩) (v:=.tuple #[.int .i64 (knownI (((n_:Nat):Int)) ((((FL t).length:Nat):Int))),.int .i64 0]) rfl ?_
   have a0_:askB t (decide (0≤z∧z≤((t.nW:Nat):Int)-1))=0:=by omega
   have k1_:=wtj O hz_ (k:=k) (by omega)
   exact fun h_ H_=>K _ _ ⟨by rw [dryC,if_pos a0_,a0_,hn_,k1_],H_.kept⟩
end Go.Proofs.YtalfgojocdonhaaDoor
namespace Go.X
open Go.Conc Go.RowKit

def AtFin (P:Program) (v:Value) (g:Goroutine):Prop:=g.status= .running∧ ∀ w:World,stepG P true g w= .ended (.done v) w #[]
def StopE (P:Program) (R:Value→Heap→Prop) (g:Goroutine) (h:Heap):Prop:=∃ v,AtFin P v g∧R v h
def EntersX (P:Program) (md:Md) (f:FuncId) (args:Array Value) (h:Heap) (R:Value→Heap→Prop):Prop:=Reach P md (G (Frame.enter P f args .normal) []) h (StopE P R)

section
variable {P:Program} {md:Md} {f:FuncId} {h:Heap} {Φ:Heap→Prop} {tm:List Value} {k:List Item} {R:Value→Heap→Prop}

end

def nilO:Obj→Obj
  | .cells c e f=>if c.size=0 then .cells #[] 0 (0,0) else .cells c e f
  | o=>o
def nilV (r:Heap):Heap:=r.map nilO
def Empty (r:Heap) (b:Nat):Prop:=∃ e f,r[b]?=some (.cells #[] e f)
section
variable {P:Program} {f:FuncId} {args:Array Value} {w:World} {R:Value→Heap→Prop}
end
end Go.X
namespace Go.X
open Go.Conc Go.RowKit Go.ChangeShapes Go.WideShapes Go.ChangeAt

def vwP (W:World):PHeap:=fun b=>(nilV W.heap)[b]?
theorem znq {f:Nat→Option Value}: ∀ {l:List Nat} {r:List Value},l.mapM f=some r→r.length=l.length∧ ∀ (j:Nat) (x:Value),r[j]?=some x→ ∃ i,l[j]?=some i∧f i=some x
  | [],r,h=>by simp at h;subst h;simp
  | i::l,r,h=>by
    simp only [List.mapM_cons,Option.bind_eq_bind,Option.bind_eq_some_iff] at h
    obtain ⟨y,hy,ys,hys,e⟩:=h
    obtain rfl:y::ys=r:=by simpa using e
    obtain ⟨h1,h2⟩:=znq hys
    refine ⟨by simp [h1],fun j x hx=>?_⟩
    cases j with
    | zero=>simp at hx;subst hx;exact ⟨i,rfl,hy⟩
    | succ j=>exact h2 j x (by simpa using hx)

theorem zev {W:World} {a:Addr} {n:Nat} {cs:List Value} (h:W.cells? 0 a n=some cs):cs.length=n∧ ∀ (j:Nat) (x:Value),cs[j]?=some x→W.cell? (a.add j)=some x:=by
  unfold World.cells? at h
  rw [if_pos (Nat.zero_le _)] at h
  obtain ⟨h1,h2⟩:=znq h
  refine ⟨by simpa using h1,fun j x hx=>?_⟩
  obtain ⟨i,hi,hf⟩:=h2 j x hx
  obtain ⟨_,rfl⟩:j<n∧j=i:=by simpa [List.getElem?_range'] using List.getElem?_eq_some_iff.1 hi
  exact hf

theorem wwq (p:PHeap) (w:Nat):Sl p none 0 w []:=⟨rfl,by simp,fun h=>absurd h (by omega),fun i e he=>by simp at he⟩

section
variable {H:Type} {enc:TypeId × Value→H} {P:Program} {W:World}
theorem yuw {t:TypeId} {m:Nat} {cs:List Value} {y:DataW H × List MemPlace} (ht:P.underlying t=some (.int .i64)) (h:DataW.trod enc P W 0 (fun _=>true) true m t cs=some y): ∃ n:Int,cs=[.int .i64 n]:=by
  obtain ⟨n,e,_,_⟩:=DataW.trod_int ht h
  exact ⟨n,e⟩
theorem ydk (hl:laidOutB P=true) {W':World} (hB:Below W.heap.size W W'): ∀ {ts:List TypeId} {vs:List Value} {ds:List (DataW H)} {ps:List MemPlace},(∀ t∈ts,P.readableRec t=true∧t<P.types.size)→(∀ x∈ps,x.block<W.heap.size)→
    DataW.TrodAll enc P W 0 (fun _=>true) true ts vs ds ps→DataW.TrodAll enc P W' 0 (fun b=>decide (b<W.heap.size)) true ts vs ds ps
  | [],[],[],_,_,_,h=>h
  | _::_,[],_,_,_,_,h=>by cases h
  | [],_::_,_,_,_,_,h=>by cases h
  | [],[],_::_,_,_,_,h=>by cases h
  | _::_,_::_,[],_,_,_,h=>by cases h
  | t::ts,v::vs,d::ds,ps,hr,hlt,⟨p,q,h1,h2,e⟩=>by
    subst e
    exact ⟨p,q,Below.trod hl (hr t (by simp)).1 (hr t (by simp)).2 h1 hB (fun x hx=>hlt x (by simp [hx])),ydk hl hB (fun t' ht'=>hr t' (by simp [ht'])) (fun x hx=>hlt x (by simp [hx])) h2,rfl⟩

theorem znz {fn:Func} {s:ChangeSpec} {W':World} {args:Array Value} {ds gs:List (DataW H)} {before:List MemPlace} {fresh handsOn:Bool} {tb:TypeId} (hl:laidOutB P=true) (hvars:s.vars=[])
    (hts: ∀ t∈fn.params.toList,P.readableRec t=true∧t<P.types.size) (hrt:fn.resultTypes=#[tb]) (hub:P.underlying tb=some .bool) (hW:DataW.Whole enc P fn.params.toList s.vars false W args.toList ds gs before)
    (hs:s.fn H (ds++gs)={ results:=[.lit (.bool true)],args:=ds }) (hB:Below W.heap.size W W'):s.post enc P fn false fresh handsOn false W args (.bool true) W':=by
  have hW':=hW
  obtain ⟨p,q,hA,hV,rfl,_,_⟩:=hW
  rw [hvars] at hV
  obtain rfl:q=[]:=by
    cases gs with
    | nil=>exact hV
    | cons _ _=>exact hV.elim
  refine ⟨ds,gs,p++[],[],p,[],hW',?_,?_,?_,hB.frame _,fun h=>by cases h⟩
  · rw [hs,hrt]
    exact ⟨[],[],⟨1,by simp [DataW.trod,hub,Value.cells]⟩,rfl,rfl⟩
  · rw [hs]
    exact ydk hl hB hts (fun x hx=>hW'.lt x (by simp [hx])) hA
  · rw [hs,hvars];rfl
end
end Go.X
namespace Go.X
open Go.Conc Go.RowKit

section
variable {P:Program} {f:FuncId} {args:Array Value} {h:Heap} {w:World} {R:Value→Heap→Prop}

def StopL (P:Program) (f:FuncId) (cs:List Frame) (R:Value→Heap→Prop) (g:Goroutine) (h:Heap):Prop:=
  ∃ fr v,g=G fr cs∧fr.fn=f∧(∀ w,fr.leaving P w (.returned v))∧R v h
def EntersL (P:Program) (f:FuncId) (args:Array Value) (h:Heap) (R:Value→Heap→Prop):Prop:=∀ cs,Reach P .lone (G (Frame.enter P f args .normal) cs) h (StopL P f cs R)

theorem xzw (x:EntersL P f args w.heap R):Calls P f args w fun e w'=>∃ v,e= .returned v∧R v w'.heap∧Calm w w':=by
  intro cs
  obtain ⟨g',w',a,⟨fr,v,rfl,hf,hl,hR⟩,c⟩:=x cs w rfl
  exact ⟨.returned v,w',fr,⟨v,rfl,hR,c⟩,a,hf,hl w'⟩

theorem yfw {Φ:Heap→Prop} {tm:List Value} {fn:Func} {c:Code} (hf:P.funcs[f]?=some fn) (hb:fn.body=some c) (ht:args.toList++List.replicate (fn.ntmps-args.size) undef=tm)
    (x: ∀ cs,RS P .lone (G (FL f .none tm [] [.code c]) cs) Φ (StopL P f cs R)) (h0:Φ h):EntersL P f args h R:=by
  intro cs
  have:=x cs h h0
  have e:Frame.enter P f args .normal=FL f .none tm [] [.code c]:=by
    unfold Frame.enter
    simp only [hf,hb,Option.map_some,Option.bind_some,Option.getD_some,FL,F,B,← ht]
    simp [Rd.kind,Rd.round]
  rw [e];exact this

theorem yqq {Φ:Heap→Prop} [Stb Φ] {cs:List Frame} {tm:List Value} {k:List Item} {fn:Func} {t:Nat} {vs:List Value} {v:Value} (hf:P.funcs[f]?=some fn) (hr:fn.results=#[.tmp t]) (e: ∀ h,Φ h→Res P h tm [.tmp t] vs) (hv:packs vs=v)
    (x: ∀ h,Φ h→R v h):RS P .lone (G (FL f .none tm [] (.code .ret::k)) cs) Φ (StopL P f cs R):=
  zwx (hro:=rfl) fun _=>fun h y=>zrk (by
    obtain ⟨v',vs',rfl,h1,h2⟩:=e h y
    obtain rfl:vs'=[]:=h2
    subst hv
    refine ⟨_,v',rfl,rfl,fun w=>⟨rfl,rfl,rfl,fn,hf,?_⟩,x h y⟩
    unfold results
    simp only [hr,FR,B,← h1]
    simp)
end
end Go.X
namespace Go.Proofs.YtalfgojocdonhaaDoor
open Go.X Go.X.Flow Go.Conc Go.RowKit Go.ChangeShapes Go.WideShapes Go.ChangeAt Go.Joins

set_option maxRecDepth 100000

theorem pOwn:ownKnob Tryd.prog.godebug=none:=by kernel_rfl
theorem wxw:laidOutB Tryd.prog=true:=by kernel_rfl
theorem pC3: Tryd.prog.cellsOf 3=1:=by kernel_rfl
theorem pC25: Tryd.prog.cellsOf 25=3:=by kernel_rfl
theorem pC43: Tryd.prog.cellsOf 43=2:=by kernel_rfl

def pW (W:World):PHeap:=fun b=>W.heap[b]?
theorem wnk (W:World):Per (pW W) W.heap:=fun _ _ e=>e
theorem wqk {W:World} {a:Addr} {v:Value} (h:W.cell? a=some v):pcell (pW W) a=some v:=by
  unfold World.cell? at h
  unfold pcell pW
  cases e:W.heap[a.block]? with
  | none=>rw [e] at h;cases h
  | some o=>
    rw [e] at h
    cases o with
    | cells c t f=>exact h
    | _=>cases h
theorem sl_W {W:World} {a:Addr} {n w:Nat} {E:Nat→List Value} (h: ∀ i,i<n→W.cells? 0 (a.add (i*w)) w=some (E i)):Sl (pW W) (some a) n w ((List.range n).map E):=by
  refine ⟨by simp,fun e he=>?_,fun _=>rfl,fun i e he j x hx=>?_⟩
  · obtain ⟨i,hi,rfl⟩:=List.mem_map.1 he
    exact (zev (h i (List.mem_range.1 hi))).1
  · rw [List.getElem?_map] at he
    obtain ⟨i',hi',rfl⟩:=Option.map_eq_some_iff.1 he
    obtain ⟨hlt,rfl⟩:i<n∧i=i':=by simpa using List.getElem?_eq_some_iff.1 hi'
    exact wqk ((zev (h i hlt)).2 j x hx)

section
variable {H:Type} {enc:TypeId × Value→H} {W:World}
theorem zmj {fuel:Nat} {t e w:TypeId} {v:Value} {y:DataW H × List MemPlace} {Q:List Value→Prop} (ht: Tryd.prog.underlying t=some (.slice e)) (hw: Tryd.prog.cellsOf e=w)
    (hQ: ∀ m cs y,DataW.trod enc Tryd.prog W 0 (fun _=>true) true m e cs=some y→Q cs) (h:DataW.trod enc Tryd.prog W 0 (fun _=>true) true fuel t [v]=some y):
    ∃ a n c E,v= .slice a n c∧n≤9223372036854775807∧n≤c∧(∀ i,i<n→Q (E i))∧Sl (pW W) a n w ((List.range n).map E):=by
  rcases Go.Deep.open_slice ht h with ⟨e1,_⟩ | ⟨a,len,cap,m,k,D,Pl,e1,_,hl,hcap,hm,_,hall⟩
  · obtain rfl:v= .slice none 0 0:=by simpa using e1
    exact ⟨none,0,0,fun _=>[],rfl,by omega,Nat.le_refl _,fun i hi=>absurd hi (by omega),wwq _ _⟩
  · obtain rfl:v= .slice (some a) len cap:=by simpa using e1
    simp only [if_true] at hm
    subst hw
    obtain ⟨E,hE⟩:=Go.Deep.choose_lt (n:=len) (p:=fun i cs=>W.cells? 0 (a.add (i* Tryd.prog.cellsOf e)) (Tryd.prog.cellsOf e)=some cs∧Q cs) fun i hi=>by
      obtain ⟨cs,h1,h2⟩:=hall i (by omega)
      exact ⟨cs,h1,hQ _ _ _ h2⟩
    exact ⟨_,_,_,E,rfl,by unfold maxLen at hcap;omega,hl,fun i hi=>(hE i hi).2,sl_W fun i hi=>(hE i hi).1⟩
theorem ytj {fuel:Nat} {v:Value} {y:DataW H × List MemPlace} (h:DataW.trod enc Tryd.prog W 0 (fun _=>true) true fuel 22 [v]=some y):
    ∃ a n c xs,v= .slice a n c∧n≤9223372036854775807∧n≤c∧Ints (pW W) a n xs:=by
  obtain ⟨a,n,c,E,rfl,hb,hc,hQ,s⟩:=zmj Tryd.underlying22 pC3 (Q:=fun cs=>∃ n:Int,cs=[.int .i64 n]) (fun m cs y h=>yuw Tryd.underlying3 h) h
  obtain ⟨z,hz⟩:=Go.Deep.choose_lt hQ
  refine ⟨a,n,c,(List.range n).map z,rfl,hb,hc,?_⟩
  have:(List.range n).map E=((List.range n).map z).map fun x=>[Value.int .i64 x]:=by
    rw [List.map_map]
    exact List.map_congr_left fun i hi=>hz i (List.mem_range.1 hi)
  unfold Ints
  rw [← this];exact s
theorem wev {m:Nat} {cs:List Value} {y:DataW H × List MemPlace} (h:DataW.trod enc Tryd.prog W 0 (fun _=>true) true m 43 cs=some y): ∃ x:FWay,cs=x.cells:=by
  obtain ⟨y0,y1,n,_,hl,h0,h1⟩:=trod_struct2 Tryd.underlying43 h
  rw [pC43] at hl
  obtain ⟨a,ha⟩:=yuw Tryd.underlying3 h0
  obtain ⟨b,hb⟩:=yuw Tryd.underlying3 h1
  match cs,hl with
  | [u,v],_=>
    refine ⟨(a,b),?_⟩
    simp [pC3] at ha hb
    simp [FWay.cells,ha,hb]
theorem zsz {fuel:Nat} {v:Value} {y:DataW H × List MemPlace} (h:DataW.trod enc Tryd.prog W 0 (fun _=>true) true fuel 23 [v]=some y):
    ∃ a n c xs,v= .slice a n c∧n≤9223372036854775807∧n≤c∧Wys (pW W) a n xs:=by
  obtain ⟨a,n,c,E,rfl,hb,hc,hQ,s⟩:=zmj Tryd.underlying23 pC43 (Q:=fun cs=>∃ x:FWay,cs=x.cells) (fun m cs y h=>wev h) h
  obtain ⟨z,hz⟩:=Go.Deep.choose_lt hQ
  refine ⟨a,n,c,(List.range n).map z,rfl,hb,hc,?_⟩
  have:(List.range n).map E=wcs ((List.range n).map z):=by
    unfold wcs
    rw [List.map_map]
    exact List.map_congr_left fun i hi=>hz i (List.mem_range.1 hi)
  unfold Wys
  rw [← this];exact s
theorem zbk {base:Nat} {v:Value} {d:DataW H} {p:List MemPlace} (hv:Value.okWide Tryd.prog W .any base 25 v) (h:DataW.Trod enc Tryd.prog W 0 (fun _=>true) true 25 v d p):
    ∃ a1 c1 a2 c2 a3 c3 t,v= .agg #[.slice a1 t.nH c1,.slice a2 t.nW c2,.slice a3 t.m c3]∧(t.nH≤9223372036854775807∧t.nW≤9223372036854775807∧t.m≤9223372036854775807)∧t.m≤c3∧TownP (pW W) a1 t.nH a2 t.nW a3 t.m t:=by
  obtain ⟨v0,v1,v2,y0,y1,y2,n,rfl,_,_,h0,h1,h2⟩:=open_agg3 Tryd.underlying25 (by kernel_rfl) pC25 hv h
  obtain ⟨a1,n1,c1,hs,rfl,b1,_,T1⟩:=ytj h0
  obtain ⟨a2,n2,c2,ws,rfl,b2,_,T2⟩:=ytj h1
  obtain ⟨a3,n3,c3,wy,rfl,b3,hc,T3⟩:=zsz h2
  obtain rfl:=T1.len
  obtain rfl:=T2.len
  obtain rfl:=T3.len
  exact ⟨a1,c1,a2,c2,a3,c3,⟨hs,ws,wy⟩,rfl,⟨b1,b2,b3⟩,hc,⟨T1,T2,T3⟩⟩
theorem zmk {base:Nat} {v:Value} {d:DataW H} {p:List MemPlace} (hv:Value.okWide Tryd.prog W .any base 3 v) (h:DataW.Trod enc Tryd.prog W 0 (fun _=>true) true 3 v d p): ∃ n:Int,v= .int .i64 n∧(-9223372036854775808≤n∧n≤9223372036854775807):=by
  obtain ⟨n,rfl,_,_,hw⟩:=open_int Tryd.underlying3 hv h
  refine ⟨n,rfl,?_⟩
  simpa [Lit.wf,IntKind.min,IntKind.max,IntKind.signed,IntKind.bits] using hw
end

theorem g_none : Tryd.prog.globalNamed "steening/buckets.none" = some 0 := by kernel_rfl
theorem wyx : Tryd.prog.globalNamed "math/bits.deBruijn64tab" = some 2 := by kernel_rfl
theorem zjv {W:World} {n:String} {g:Nat} {cs:Array Value} (hg: Tryd.prog.globalNamed n=some g) (h:W.var? Tryd.prog n=some cs): ∃ t z,pW W g=some (.cells cs t z):=by
  unfold World.var? at h
  rw [hg] at h
  simp only [Option.bind_some] at h
  unfold pW
  split at h
  · rename_i c t f e
    obtain rfl:=Option.some.inj h
    exact ⟨t,f,e⟩
  · cases h
theorem ynv {W:World} (h:laidMetH Tryd.prog Rows.bucketsAllRow.laid W):TabP (pW W):=by
  rw [MakeChecks.laidMetH_plain _ _ _ (by kernel_rfl)] at h
  have h2 := laidMet.filter (fun x => x.1 == "math/bits.deBruijn64tab") h
  have e : (Rows.bucketsAllRow.laid.filter fun x => x.1 == "math/bits.deBruijn64tab") = [("math/bits.deBruijn64tab", Lib.tabData .u8 (tab64.map fun n => ((n : Nat) : Int)))] := by kernel_rfl
  rw [e] at h2
  have h3:=Lib.tabIs_of_head (t:=116) (e:=5) (n:=64) wyx (by kernel_rfl) (by kernel_rfl) (by kernel_rfl) (by kernel_rfl) (by kernel_rfl) h2
  obtain ⟨t,z,h4⟩:=zjv wyx h3
  exact ⟨t,z,by rw [h4];simp⟩
theorem ykq {W:World} (h:laidMetH Tryd.prog Rows.bucketsAllRow.laid W):NoneP (pW W):=by
  rw [MakeChecks.laidMetH_plain _ _ _ (by kernel_rfl)] at h
  have h2 := laidMet.filter (fun x => x.1 == "steening/buckets.none") h
  have e : (Rows.bucketsAllRow.laid.filter fun x => x.1 == "steening/buckets.none") = [("steening/buckets.none", .agg [.lit (.int .i64 (-1)), .lit (.int .i64 (-1)), .lit (.int .i64 0)])] := by kernel_rfl
  rw [e] at h2
  obtain ⟨ps,⟨g',t',cs,fuel,p,q,hg',ht',hvar,hd,_,_⟩,_⟩:=h2
  obtain rfl:=Option.some.inj (g_none.symm.trans hg')
  obtain rfl:t'=72:=Option.some.inj (ht'.symm.trans (by kernel_rfl))
  obtain ⟨y0,y1,y2,n,hx,hl,h0,h1,h2⟩:=Go.Deep.trod_struct3 Tryd.underlying72 hd
  have e72: Tryd.prog.cellsOf 72=3:=by kernel_rfl
  rw [e72] at hl
  obtain ⟨a,ha,ea,_⟩:=DataW.trod_int Tryd.underlying3 h0
  obtain ⟨b,hb,eb,_⟩:=DataW.trod_int Tryd.underlying3 h1
  obtain ⟨c,hc,ec,_⟩:=DataW.trod_int Tryd.underlying3 h2
  obtain ⟨l⟩:=cs
  match l,hl with
  | [u,v,w],_=>
    simp only [pC3] at ha hb hc
    simp at ha hb hc
    rw [ea,eb,ec] at hx
    simp at hx
    obtain ⟨t,z,h4⟩:=zjv g_none hvar
    refine ⟨t,z,?_⟩
    rw [h4,ha,hb,hc,← hx.1.1,← hx.1.2.1,← hx.1.2.2]
noncomputable def laidW (os:Os):World:=World.laidAll Tryd.prog os Rows.bucketsAllRow.laid
theorem zck (os:Os) (args:Array Value):laidMetH Tryd.prog Rows.bucketsAllRow.laid ((laidW os).forCall (fun _ _=>0) ⟨#[],args,[]⟩).memory:=by
  rw [MakeChecks.laidMetH_plain _ _ _ (by kernel_rfl)]
  exact laidMet_laidAll _ (by kernel_rfl) (by kernel_rfl)
theorem zpj {w w':World} (k:Keep w.heap w'.heap) (c:Go.X.Calm w w'):Below w.heap.size w w':=⟨c.os,c.tape,c.output,c.size,fun b hb=>k.keep b hb⟩
end Go.Proofs.YtalfgojocdonhaaDoor
namespace Go.X
open Go.Conc
section
variable {P:Program} {h:Heap} {tm:List Value} {d:Option Tmp} {ty:TypeId} {pos:String} {aft:Array Edge} {gd:Option (Nat × Bool)}
end
end Go.X
