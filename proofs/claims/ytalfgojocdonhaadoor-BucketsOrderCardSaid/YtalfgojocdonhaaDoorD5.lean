/-
  Part of proofs about buckets brought from wells to houses: a lone run, and what it computes. No condition.
-/
import Derived.Test.YtalfgojocdonhaaDoorD2
import Derived.Test.YtalfgojocdonhaaDoorD1
import Derived.Test.YtalfgojocdonhaaDoorD4
import Derived.Test.YtalfgojocdonhaaDoorD3
import Derived.Conc.LeavingOf
import Derived.Carry
import Derived.Deep.Slices
import Derived.Lib.SmallJoins
import Derived.Calls
import Derived.Test.YtalfgojocdonhaaDoorRows
import Derived.Lay
import Derived.Lib.LaidTab
import Derived.LaidSub
import Derived.MakeChecks
import Derived.JoinedOf
import Derived.Handed
import Derived.ChangeMaps5
import Derived.ProofKit
namespace Go.Proofs.YtalfgojocdonhaaDoor
open Go.X Go.X.Flow Go.Conc
set_option maxRecDepth 10000
set_option synthInstance.maxSize 2000

set_option maxHeartbeats 2000000
theorem c63 (md:Md) (h:Heap):CallsX Tryd.prog md 63 #[] h fun v h'=>∃ w1:Value,∃ w2:Value,∃ w3:Value,∃ w4:Value,∃ w5:Value,∃ w6:Value,∃ w7:Value,∃ w8:Value,∃ w9:Value,∃ X1:Pcs,∃ X2:Pcs,∃ X3:Pcs,∃ X4:Pcs,∃ X5:Pcs,∃ X6:Pcs,∃ X7:Pcs,∃ X8:Pcs,∃ X9:Pcs,v= .tuple #[.agg #[w1,w2,w3],.agg #[w4,w5,w6],.agg #[w7,w8,w9]]∧OwnS 3 1 w1 (ics exB.hs) X1∧OwnS 3 1 w2 (ics exB.ws) X2∧OwnS 43 2 w3 (wcs exB.wy) X3∧OwnS 3 1 w4 (ics exC.hs) X4∧OwnS 3 1 w5 (ics exC.ws) X5∧OwnS 43 2 w6 (wcs exC.wy) X6∧OwnS 3 1 w7 (ics exD.hs) X7∧OwnS 3 1 w8 (ics exD.ws) X8∧OwnS 43 2 w9 (wcs exD.wy) X9∧New h h' ((X1++(X2++(X3++(X4++(X5++(X6++(X7++(X8++(X9++[])))))))))):=by
 refine xdq (Φ:=fun h_=>St h [] (fun _=>none) h_ []) Tryd.func63 rfl (tm:=zq2 (zq8 (zq16 []))) rfl ?_ (St.start h _ (fun _ _ e=>by cases e))
 intro c₀ cs Stop K
 refine fsr ?_
 refine xkx mn tZ25 rfl fun b1=>xcq (L':=[(b1,.cells #[.slice none 0 0,.slice none 0 0,.slice none 0 0] 25 (0,0))]) rfl ?_
 refine xkx mn tZ25 rfl fun b2=>xcq (L':=[(b2,.cells #[.slice none 0 0,.slice none 0 0,.slice none 0 0] 25 (0,0)),(b1,.cells #[.slice none 0 0,.slice none 0 0,.slice none 0 0] 25 (0,0))]) rfl ?_
 refine xkx mn tZ25 rfl fun b3=>xcq (L':=[(b3,.cells #[.slice none 0 0,.slice none 0 0,.slice none 0 0] 25 (0,0)),(b2,.cells #[.slice none 0 0,.slice none 0 0,.slice none 0 0] 25 (0,0)),(b1,.cells #[.slice none 0 0,.slice none 0 0,.slice none 0 0] 25 (0,0))]) rfl ?_
 refine xgq (tm':=_::_::_::_) rfl ?_
 refine ren <| xbx ?_
 refine xcq (L':=([(b3,.cells #[.slice none 0 0,.slice none 0 0,.slice none 0 0] 25 (0,0)),(b2,.cells #[.slice none 0 0,.slice none 0 0,.slice none 0 0] 25 (0,0)),(b1,.cells #[.slice none 0 0,.slice none 0 0,.slice none 0 0] 25 (0,0))]:Pcs)++[]) rfl ?_
 refine xmj ([(b3,.cells #[.slice none 0 0,.slice none 0 0,.slice none 0 0] 25 (0,0)),(b2,.cells #[.slice none 0 0,.slice none 0 0,.slice none 0 0] 25 (0,0)),(b1,.cells #[.slice none 0 0,.slice none 0 0,.slice none 0 0] 25 (0,0))]:Pcs) mn Tryd.underlying22 tS3 tZ3 (Nat.le_of_ble_eq_true rfl) (vs:=[(0,.int .i64 5),(1,.int .i64 4),(2,.int .i64 3)]) rfl rfl (es:=[[.int .i64 5],[.int .i64 4],[.int .i64 3]]) rfl rfl rfl fun v4 X5 o6=>?_
 refine xmj ([(b3,.cells #[.slice none 0 0,.slice none 0 0,.slice none 0 0] 25 (0,0)),(b2,.cells #[.slice none 0 0,.slice none 0 0,.slice none 0 0] 25 (0,0)),(b1,.cells #[.slice none 0 0,.slice none 0 0,.slice none 0 0] 25 (0,0))]:Pcs) mn Tryd.underlying22 tS3 tZ3 (Nat.le_of_ble_eq_true rfl) (vs:=[(0,.int .i64 4),(1,.int .i64 3)]) rfl rfl (es:=[[.int .i64 4],[.int .i64 3]]) rfl rfl rfl fun v7 X8 o9=>?_
 refine rt (xhv tZ43 tP43 (vs:=[(0,.int .i64 0),(1,.int .i64 0)]) rfl (cells:=#[.int .i64 0,.int .i64 0]) rfl) (tm':=zq2 (zq4 _)) rfl <| ro (xhv tZ43 tP43 (vs:=[(0,.int .i64 1),(1,.int .i64 0)]) rfl (cells:=#[.int .i64 1,.int .i64 0]) rfl) <| ro (xhv tZ43 tP43 (vs:=[(0,.int .i64 1),(1,.int .i64 1)]) rfl (cells:=#[.int .i64 1,.int .i64 1]) rfl) <| rt (xhv tZ43 tP43 (vs:=[(0,.int .i64 2),(1,.int .i64 1)]) rfl (cells:=#[.int .i64 2,.int .i64 1]) rfl) (tm':=zq1 (zq8 _)) rfl ?_
 refine xmj ([(b3,.cells #[.slice none 0 0,.slice none 0 0,.slice none 0 0] 25 (0,0)),(b2,.cells #[.slice none 0 0,.slice none 0 0,.slice none 0 0] 25 (0,0)),(b1,.cells #[.slice none 0 0,.slice none 0 0,.slice none 0 0] 25 (0,0))]:Pcs) mn Tryd.underlying23 tS43 tZ43 (Nat.le_of_ble_eq_true rfl) (vs:=[(0,.agg #[.int .i64 0,.int .i64 0]),(1,.agg #[.int .i64 1,.int .i64 0]),(2,.agg #[.int .i64 1,.int .i64 1]),(3,.agg #[.int .i64 2,.int .i64 1])]) rfl rfl (es:=[[.int .i64 0,.int .i64 0],[.int .i64 1,.int .i64 0],[.int .i64 1,.int .i64 1],[.int .i64 2,.int .i64 1]]) rfl rfl rfl fun v10 X11 o12=>?_
 obtain ⟨a13,c14,ev_,_⟩:=o6.val;have ev_:v4= .slice a13 3 c14:=ev_.trans (congrArg (fun q_=>Value.slice a13 q_ c14) (show _=3 from rfl));subst ev_
 obtain ⟨a15,c16,ev_,_⟩:=o9.val;have ev_:v7= .slice a15 2 c16:=ev_.trans (congrArg (fun q_=>Value.slice a15 q_ c16) (show _=2 from rfl));subst ev_
 obtain ⟨a17,c18,ev_,_⟩:=o12.val;have ev_:v10= .slice a17 4 c18:=ev_.trans (congrArg (fun q_=>Value.slice a17 q_ c18) (show _=4 from rfl));subst ev_
 refine ro (xhv tZ25 tP25 (vs:=[(0,(.slice a13 3 c14)),(1,(.slice a15 2 c16)),(2,(.slice a17 4 c18))]) rfl (cells:=#[(.slice a13 3 c14),(.slice a15 2 c16),(.slice a17 4 c18)]) rfl) ?_
 refine xiq mn tS25 rfl (v:=.agg #[(.slice a13 3 c14),(.slice a15 2 c16),(.slice a17 4 c18)]) rfl (i:=2) rfl rfl (xew o6.one.2 (xew o9.one.2 (xew o12.one.2 rfl))) (Nat.le_of_ble_eq_true rfl) (cs2:=[(.slice a13 3 c14),(.slice a15 2 c16),(.slice a17 4 c18)]) rfl (xcq (L':=([(b3,.cells #[.slice none 0 0,.slice none 0 0,.slice none 0 0] 25 (0,0)),(b2,.cells #[.slice none 0 0,.slice none 0 0,.slice none 0 0] 25 (0,0)),(b1,.cells #[(.slice a13 3 c14),(.slice a15 2 c16),(.slice a17 4 c18)] 25 (0,0))]:Pcs)++(X11++(X8++(X5++[])))) rfl ?_)
 refine ren <| xbx ?_
 refine xmj ([(b3,.cells #[.slice none 0 0,.slice none 0 0,.slice none 0 0] 25 (0,0)),(b2,.cells #[.slice none 0 0,.slice none 0 0,.slice none 0 0] 25 (0,0)),(b1,.cells #[(.slice a13 3 c14),(.slice a15 2 c16),(.slice a17 4 c18)] 25 (0,0))]:Pcs) mn Tryd.underlying22 tS3 tZ3 (Nat.le_of_ble_eq_true rfl) (vs:=[(0,.int .i64 2),(1,.int .i64 3)]) rfl rfl (es:=[[.int .i64 2],[.int .i64 3]]) rfl rfl rfl fun v19 X20 o21=>?_
 refine xgq (tm':=zq4 (zq8 _)) rfl ?_
 refine xmj ([(b3,.cells #[.slice none 0 0,.slice none 0 0,.slice none 0 0] 25 (0,0)),(b2,.cells #[.slice none 0 0,.slice none 0 0,.slice none 0 0] 25 (0,0)),(b1,.cells #[(.slice a13 3 c14),(.slice a15 2 c16),(.slice a17 4 c18)] 25 (0,0))]:Pcs) mn Tryd.underlying22 tS3 tZ3 (Nat.le_of_ble_eq_true rfl) (vs:=[(0,.int .i64 5),(1,.int .i64 0)]) rfl rfl (es:=[[.int .i64 5],[.int .i64 0]]) rfl rfl rfl fun v22 X23 o24=>?_
 refine ro (xhv tZ43 tP43 (vs:=[(0,.int .i64 0),(1,.int .i64 0)]) rfl (cells:=#[.int .i64 0,.int .i64 0]) rfl) <| rt (xhv tZ43 tP43 (vs:=[(0,.int .i64 1),(1,.int .i64 1)]) rfl (cells:=#[.int .i64 1,.int .i64 1]) rfl) (tm':=zq1 (zq2 (zq4 (zq8 _)))) rfl ?_
 refine xmj ([(b3,.cells #[.slice none 0 0,.slice none 0 0,.slice none 0 0] 25 (0,0)),(b2,.cells #[.slice none 0 0,.slice none 0 0,.slice none 0 0] 25 (0,0)),(b1,.cells #[(.slice a13 3 c14),(.slice a15 2 c16),(.slice a17 4 c18)] 25 (0,0))]:Pcs) mn Tryd.underlying23 tS43 tZ43 (Nat.le_of_ble_eq_true rfl) (vs:=[(0,.agg #[.int .i64 0,.int .i64 0]),(1,.agg #[.int .i64 1,.int .i64 1])]) rfl rfl (es:=[[.int .i64 0,.int .i64 0],[.int .i64 1,.int .i64 1]]) rfl rfl rfl fun v25 X26 o27=>?_
 obtain ⟨a28,c29,ev_,_⟩:=o21.val;have ev_:v19= .slice a28 2 c29:=ev_.trans (congrArg (fun q_=>Value.slice a28 q_ c29) (show _=2 from rfl));subst ev_
 obtain ⟨a30,c31,ev_,_⟩:=o24.val;have ev_:v22= .slice a30 2 c31:=ev_.trans (congrArg (fun q_=>Value.slice a30 q_ c31) (show _=2 from rfl));subst ev_
 obtain ⟨a32,c33,ev_,_⟩:=o27.val;have ev_:v25= .slice a32 2 c33:=ev_.trans (congrArg (fun q_=>Value.slice a32 q_ c33) (show _=2 from rfl));subst ev_
 refine ro (xhv tZ25 tP25 (vs:=[(0,(.slice a28 2 c29)),(1,(.slice a30 2 c31)),(2,(.slice a32 2 c33))]) rfl (cells:=#[(.slice a28 2 c29),(.slice a30 2 c31),(.slice a32 2 c33)]) rfl) ?_
 refine xiq mn tS25 rfl (v:=.agg #[(.slice a28 2 c29),(.slice a30 2 c31),(.slice a32 2 c33)]) rfl (i:=1) rfl rfl (xew o21.one.2 (xew o24.one.2 (xew o27.one.2 rfl))) (Nat.le_of_ble_eq_true rfl) (cs2:=[(.slice a28 2 c29),(.slice a30 2 c31),(.slice a32 2 c33)]) rfl (xcq (L':=([(b3,.cells #[.slice none 0 0,.slice none 0 0,.slice none 0 0] 25 (0,0)),(b2,.cells #[(.slice a28 2 c29),(.slice a30 2 c31),(.slice a32 2 c33)] 25 (0,0)),(b1,.cells #[(.slice a13 3 c14),(.slice a15 2 c16),(.slice a17 4 c18)] 25 (0,0))]:Pcs)++(X26++(X23++(X20++(X11++(X8++(X5++[]))))))) rfl ?_)
 refine ren <| xbx ?_
 refine xmj ([(b3,.cells #[.slice none 0 0,.slice none 0 0,.slice none 0 0] 25 (0,0)),(b2,.cells #[(.slice a28 2 c29),(.slice a30 2 c31),(.slice a32 2 c33)] 25 (0,0)),(b1,.cells #[(.slice a13 3 c14),(.slice a15 2 c16),(.slice a17 4 c18)] 25 (0,0))]:Pcs) mn Tryd.underlying22 tS3 tZ3 (Nat.le_of_ble_eq_true rfl) (vs:=[(0,.int .i64 1)]) rfl rfl (es:=[[.int .i64 1]]) rfl rfl rfl fun v34 X35 o36=>?_
 refine xgq (tm':=zq2 (zq8 (zq16 []))) rfl ?_
 refine xmj ([(b3,.cells #[.slice none 0 0,.slice none 0 0,.slice none 0 0] 25 (0,0)),(b2,.cells #[(.slice a28 2 c29),(.slice a30 2 c31),(.slice a32 2 c33)] 25 (0,0)),(b1,.cells #[(.slice a13 3 c14),(.slice a15 2 c16),(.slice a17 4 c18)] 25 (0,0))]:Pcs) mn Tryd.underlying22 tS3 tZ3 (Nat.le_of_ble_eq_true rfl) (vs:=[(0,.int .i64 1),(1,.int .i64 1)]) rfl rfl (es:=[[.int .i64 1],[.int .i64 1]]) rfl rfl rfl fun v37 X38 o39=>?_
 refine ro (xhv tZ43 tP43 (vs:=[(0,.int .i64 0),(1,.int .i64 0)]) rfl (cells:=#[.int .i64 0,.int .i64 0]) rfl) <| rt (xhv tZ43 tP43 (vs:=[(0,.int .i64 0),(1,.int .i64 1)]) rfl (cells:=#[.int .i64 0,.int .i64 1]) rfl) (tm':=zq2 (zq8 (zq16 []))) rfl ?_
 refine xmj ([(b3,.cells #[.slice none 0 0,.slice none 0 0,.slice none 0 0] 25 (0,0)),(b2,.cells #[(.slice a28 2 c29),(.slice a30 2 c31),(.slice a32 2 c33)] 25 (0,0)),(b1,.cells #[(.slice a13 3 c14),(.slice a15 2 c16),(.slice a17 4 c18)] 25 (0,0))]:Pcs) mn Tryd.underlying23 tS43 tZ43 (Nat.le_of_ble_eq_true rfl) (vs:=[(0,.agg #[.int .i64 0,.int .i64 0]),(1,.agg #[.int .i64 0,.int .i64 1])]) rfl rfl (es:=[[.int .i64 0,.int .i64 0],[.int .i64 0,.int .i64 1]]) rfl rfl rfl fun v40 X41 o42=>?_
 obtain ⟨a43,c44,ev_,_⟩:=o36.val;have ev_:v34= .slice a43 1 c44:=ev_.trans (congrArg (fun q_=>Value.slice a43 q_ c44) (show _=1 from rfl));subst ev_
 obtain ⟨a45,c46,ev_,_⟩:=o39.val;have ev_:v37= .slice a45 2 c46:=ev_.trans (congrArg (fun q_=>Value.slice a45 q_ c46) (show _=2 from rfl));subst ev_
 obtain ⟨a47,c48,ev_,_⟩:=o42.val;have ev_:v40= .slice a47 2 c48:=ev_.trans (congrArg (fun q_=>Value.slice a47 q_ c48) (show _=2 from rfl));subst ev_
 refine ro (xhv tZ25 tP25 (vs:=[(0,(.slice a43 1 c44)),(1,(.slice a45 2 c46)),(2,(.slice a47 2 c48))]) rfl (cells:=#[(.slice a43 1 c44),(.slice a45 2 c46),(.slice a47 2 c48)]) rfl) ?_
 refine xiq mn tS25 rfl (v:=.agg #[(.slice a43 1 c44),(.slice a45 2 c46),(.slice a47 2 c48)]) rfl (i:=0) rfl rfl (xew o36.one.2 (xew o39.one.2 (xew o42.one.2 rfl))) (Nat.le_of_ble_eq_true rfl) (cs2:=[(.slice a43 1 c44),(.slice a45 2 c46),(.slice a47 2 c48)]) rfl (xcq (L':=([(b3,.cells #[(.slice a43 1 c44),(.slice a45 2 c46),(.slice a47 2 c48)] 25 (0,0)),(b2,.cells #[(.slice a28 2 c29),(.slice a30 2 c31),(.slice a32 2 c33)] 25 (0,0)),(b1,.cells #[(.slice a13 3 c14),(.slice a15 2 c16),(.slice a17 4 c18)] 25 (0,0))]:Pcs)++(X41++(X38++(X35++(X26++(X23++(X20++(X11++(X8++(X5++[])))))))))) rfl ?_)
 refine ren ?_
 refine xyx (xlz (C:=[]) (A:=([(b3,.cells #[(.slice a43 1 c44),(.slice a45 2 c46),(.slice a47 2 c48)] 25 (0,0)),(b2,.cells #[(.slice a28 2 c29),(.slice a30 2 c31),(.slice a32 2 c33)] 25 (0,0)),(b1,.cells #[(.slice a13 3 c14),(.slice a15 2 c16),(.slice a17 4 c18)] 25 (0,0))]:Pcs)) 5 [] [5,6,7,8,9,10,11,12,13] [5,6,7,8,9,10,11,12,13] [0,1,2,3,4] (fun i_=>match i_ with | 5=>X41 | 6=>X38 | 7=>X35 | 8=>X26 | 9=>X23 | 10=>X20 | 11=>X11 | 12=>X8 | 13=>X5 | _=>[]) (fun _=>[]) (fun i_=>match i_ with | 0=>[] | 1=>[] | 2=>[] | 3=>[0] | 4=>[0,1] | _=>[]) (fun i_ val_ pc_ v_ x_=>match i_ with | 0=>v_= .agg #[(.slice a13 3 c14),(.slice a15 2 c16),(.slice a17 4 c18)]∧x_=[] | 1=>v_= .agg #[(.slice a28 2 c29),(.slice a30 2 c31),(.slice a32 2 c33)]∧x_=[] | 2=>v_= .agg #[(.slice a43 1 c44),(.slice a45 2 c46),(.slice a47 2 c48)]∧x_=[] | 3=>v_=undef∧x_=[] | 4=>v_=undef∧x_=[] | _=>True) (fun val49=>[.pointer (some ⟨b1,0,none⟩),.pointer (some ⟨b2,0,none⟩),.pointer (some ⟨b3,0,none⟩),(.slice a13 3 c14),(.slice a15 2 c16),.agg #[.int .i64 0,.int .i64 0],.agg #[.int .i64 1,.int .i64 0],.agg #[.int .i64 1,.int .i64 1],.agg #[.int .i64 2,.int .i64 1],(.slice a17 4 c18),.agg #[(.slice a13 3 c14),(.slice a15 2 c16),(.slice a17 4 c18)],(.slice a28 2 c29),(.slice a30 2 c31),.agg #[.int .i64 0,.int .i64 0],.agg #[.int .i64 1,.int .i64 1],(.slice a32 2 c33),.agg #[(.slice a28 2 c29),(.slice a30 2 c31),(.slice a32 2 c33)],(.slice a43 1 c44),(.slice a45 2 c46),.agg #[.int .i64 0,.int .i64 0],.agg #[.int .i64 0,.int .i64 1],(.slice a47 2 c48),.agg #[(.slice a43 1 c44),(.slice a45 2 c46),(.slice a47 2 c48)],(val49 0),(val49 1),(val49 2)]) xkv (by kernel_rfl) (Nat.le_of_ble_eq_true rfl) (by kernel_rfl) (by kernel_rfl) (by kernel_rfl) (fun _ _=>⟨fun _ _ h=>h.2,⟨fun _ _ h=>h.2,⟨fun _ _ h=>h.2,⟨fun _ _ h=>h.2,⟨fun _ _ h=>h.2,trivial⟩⟩⟩⟩⟩) (fun _=>by kernel_rfl) (by kernel_rfl) ?_ ?_) (fun h_ H_=>St.swap (A:=([(b3,.cells #[(.slice a43 1 c44),(.slice a45 2 c46),(.slice a47 2 c48)] 25 (0,0)),(b2,.cells #[(.slice a28 2 c29),(.slice a30 2 c31),(.slice a32 2 c33)] 25 (0,0)),(b1,.cells #[(.slice a13 3 c14),(.slice a15 2 c16),(.slice a17 4 c18)] 25 (0,0))]:Pcs)) (U:=(X41++(X38++(X35++(X26++(X23++(X20++(X11++(X8++(X5++[])))))))))) H_)
 ·
  refine xak rfl (xcj ?_) ?_
  ·
   intro val49 pc50 hQ_ hX_
   obtain ⟨q_,hq0_⟩: ∃ q_:Value→Pcs→Prop,q_=(fun v_ x_=>v_= .agg #[(.slice a13 3 c14),(.slice a15 2 c16),(.slice a17 4 c18)]∧x_=[]):=⟨_,rfl⟩
   refine ⟨(zq2 (zq8 (zq16 []))),[],q_,rfl,rfl,(fun _ _ z_=>by subst hq0_;exact z_),?_⟩
   subst hq0_
   exact xcz mn (fun _ h_ H_=>xaw H_ tA25 tS25 rfl (i:=2) rfl (vs:=[(.slice a13 3 c14),(.slice a15 2 c16),(.slice a17 4 c18)]) rfl rfl) ⟨rfl,rfl⟩
  refine xak rfl (xcj ?_) ?_
  ·
   intro val49 pc50 hQ_ hX_
   obtain ⟨q_,hq0_⟩: ∃ q_:Value→Pcs→Prop,q_=(fun v_ x_=>v_= .agg #[(.slice a28 2 c29),(.slice a30 2 c31),(.slice a32 2 c33)]∧x_=[]):=⟨_,rfl⟩
   refine ⟨(zq2 (zq8 (zq16 []))),[],q_,rfl,rfl,(fun _ _ z_=>by subst hq0_;exact z_),?_⟩
   subst hq0_
   exact xcz mn (fun _ h_ H_=>xaw H_ tA25 tS25 rfl (i:=1) rfl (vs:=[(.slice a28 2 c29),(.slice a30 2 c31),(.slice a32 2 c33)]) rfl rfl) ⟨rfl,rfl⟩
  refine xak rfl (xcj ?_) ?_
  ·
   intro val49 pc50 hQ_ hX_
   obtain ⟨q_,hq0_⟩: ∃ q_:Value→Pcs→Prop,q_=(fun v_ x_=>v_= .agg #[(.slice a43 1 c44),(.slice a45 2 c46),(.slice a47 2 c48)]∧x_=[]):=⟨_,rfl⟩
   refine ⟨(zq2 (zq8 (zq16 []))),[],q_,rfl,rfl,(fun _ _ z_=>by subst hq0_;exact z_),?_⟩
   subst hq0_
   exact xcz mn (fun _ h_ H_=>xaw H_ tA25 tS25 rfl (i:=0) rfl (vs:=[(.slice a43 1 c44),(.slice a45 2 c46),(.slice a47 2 c48)]) rfl rfl) ⟨rfl,rfl⟩
  refine xak rfl (xcj ?_) ?_
  ·
   intro val49 pc50 hQ_ hX_
   have e0_:val49 0= .agg #[(.slice a13 3 c14),(.slice a15 2 c16),(.slice a17 4 c18)]:=(hQ_ 0 rfl).1
   obtain ⟨q_,hq0_⟩: ∃ q_:Value→Pcs→Prop,q_=(fun v_ x_=>v_=undef∧x_=[]):=⟨_,rfl⟩
   refine ⟨(zq2 (zq8 (zq16 []))),[],q_,(by rw [e0_]),rfl,(fun _ _ z_=>by subst hq0_;exact z_),?_⟩
   subst hq0_
   exact zuz mn tS25 rfl (v:=.agg #[(.slice a13 3 c14),(.slice a15 2 c16),(.slice a17 4 c18)]) rfl (i:=2) (fun _=>rfl) rfl (xew o6.one.2 (xew o9.one.2 (xew o12.one.2 rfl))) (Nat.le_of_ble_eq_true rfl) rfl ⟨rfl,rfl⟩
  refine xak rfl (xcj ?_) ?_
  ·
   intro val49 pc50 hQ_ hX_
   have e0_:val49 0= .agg #[(.slice a13 3 c14),(.slice a15 2 c16),(.slice a17 4 c18)]:=(hQ_ 0 rfl).1
   have e1_:val49 1= .agg #[(.slice a28 2 c29),(.slice a30 2 c31),(.slice a32 2 c33)]:=(hQ_ 1 rfl).1
   obtain ⟨q_,hq0_⟩: ∃ q_:Value→Pcs→Prop,q_=(fun v_ x_=>v_=undef∧x_=[]):=⟨_,rfl⟩
   refine ⟨(zq2 (zq8 (zq16 []))),[],q_,(by rw [e0_,e1_]),rfl,(fun _ _ z_=>by subst hq0_;exact z_),?_⟩
   subst hq0_
   exact zuz mn tS25 rfl (v:=.agg #[(.slice a28 2 c29),(.slice a30 2 c31),(.slice a32 2 c33)]) rfl (i:=1) (fun _=>rfl) rfl (xew o21.one.2 (xew o24.one.2 (xew o27.one.2 rfl))) (Nat.le_of_ble_eq_true rfl) rfl ⟨rfl,rfl⟩
  exact xlx rfl
 intro val49 pc50 hQ_ hX_
 have e0_:val49 0= .agg #[(.slice a13 3 c14),(.slice a15 2 c16),(.slice a17 4 c18)]:=(hQ_ 0 (by decide)).1
 have e1_:val49 1= .agg #[(.slice a28 2 c29),(.slice a30 2 c31),(.slice a32 2 c33)]:=(hQ_ 1 (by decide)).1
 have e2_:val49 2= .agg #[(.slice a43 1 c44),(.slice a45 2 c46),(.slice a47 2 c48)]:=(hQ_ 2 (by decide)).1
 have x5_:pc50 5=X41:=hX_ 5 (by decide)
 have x6_:pc50 6=X38:=hX_ 6 (by decide)
 have x7_:pc50 7=X35:=hX_ 7 (by decide)
 have x8_:pc50 8=X26:=hX_ 8 (by decide)
 have x9_:pc50 9=X23:=hX_ 9 (by decide)
 have x10_:pc50 10=X20:=hX_ 10 (by decide)
 have x11_:pc50 11=X11:=hX_ 11 (by decide)
 have x12_:pc50 12=X8:=hX_ 12 (by decide)
 have x13_:pc50 13=X5:=hX_ 13 (by decide)
 clear hQ_ hX_
 refine xwv (Φ:=fun h_=>St h [] (fun _=>none) h_ (([(b3,.cells #[(.slice a43 1 c44),(.slice a45 2 c46),(.slice a47 2 c48)] 25 (0,0)),(b2,.cells #[(.slice a28 2 c29),(.slice a30 2 c31),(.slice a32 2 c33)] 25 (0,0)),(b1,.cells #[(.slice a13 3 c14),(.slice a15 2 c16),(.slice a17 4 c18)] 25 (0,0))]:Pcs)++(pc50 5++(pc50 6++(pc50 7++(pc50 8++(pc50 9++(pc50 10++(pc50 11++(pc50 12++(pc50 13++[]))))))))))) ?_ (fun h_ H_=>H_.swap')
 rw [x5_,x6_,x7_,x8_,x9_,x10_,x11_,x12_,x13_]
 refine xgq (tm':=(zq2 (zq8 (zq16 [])))) (by rw [e0_,e1_,e2_]) ?_
 refine xiq mn tS25 rfl (v:=.agg #[(.slice a43 1 c44),(.slice a45 2 c46),(.slice a47 2 c48)]) rfl (i:=0) rfl rfl (xew o36.one.2 (xew o39.one.2 (xew o42.one.2 rfl))) (Nat.le_of_ble_eq_true rfl) (cs2:=[(.slice a43 1 c44),(.slice a45 2 c46),(.slice a47 2 c48)]) rfl (xcq (L':=([(b3,.cells #[(.slice a43 1 c44),(.slice a45 2 c46),(.slice a47 2 c48)] 25 (0,0)),(b2,.cells #[(.slice a28 2 c29),(.slice a30 2 c31),(.slice a32 2 c33)] 25 (0,0)),(b1,.cells #[(.slice a13 3 c14),(.slice a15 2 c16),(.slice a17 4 c18)] 25 (0,0))]:Pcs)++(X41++(X38++(X35++(X26++(X23++(X20++(X11++(X8++(X5++[])))))))))) rfl ?_)
 refine xav ?_
 refine xev Tryd.func63 rfl (vs:=[.agg #[(.slice a13 3 c14),(.slice a15 2 c16),(.slice a17 4 c18)],.agg #[(.slice a28 2 c29),(.slice a30 2 c31),(.slice a32 2 c33)],.agg #[(.slice a43 1 c44),(.slice a45 2 c46),(.slice a47 2 c48)]]) (fun h_ H_=>⟨.agg #[(.slice a13 3 c14),(.slice a15 2 c16),(.slice a17 4 c18)],_,rfl,(xbj (xbk (xoz tA25 tS25 (vs:=[(.slice a13 3 c14),(.slice a15 2 c16),(.slice a17 4 c18)]) rfl (fun j_ v_ e_=>by rw [xox];exact H_.ocell (i:=2) rfl (by simpa using e_)) ⟨rfl,rfl⟩))),⟨.agg #[(.slice a28 2 c29),(.slice a30 2 c31),(.slice a32 2 c33)],_,rfl,(xbj (xbk (xoz tA25 tS25 (vs:=[(.slice a28 2 c29),(.slice a30 2 c31),(.slice a32 2 c33)]) rfl (fun j_ v_ e_=>by rw [xox];exact H_.ocell (i:=1) rfl (by simpa using e_)) ⟨rfl,rfl⟩))),⟨.agg #[(.slice a43 1 c44),(.slice a45 2 c46),(.slice a47 2 c48)],_,rfl,(xbj (xbk (xoz tA25 tS25 (vs:=[(.slice a43 1 c44),(.slice a45 2 c46),(.slice a47 2 c48)]) rfl (fun j_ v_ e_=>by rw [xox];exact H_.ocell (i:=0) rfl (by simpa using e_)) ⟨rfl,rfl⟩))),rfl⟩⟩⟩) (v:=.tuple #[.agg #[(.slice a13 3 c14),(.slice a15 2 c16),(.slice a17 4 c18)],.agg #[(.slice a28 2 c29),(.slice a30 2 c31),(.slice a32 2 c33)],.agg #[(.slice a43 1 c44),(.slice a45 2 c46),(.slice a47 2 c48)]]) rfl ?_
 refine xfz (List.Perm.append_left _ (List.Perm.append_left _ (List.Perm.append_left _ (List.Perm.append_left _ (List.Perm.append_left _ (List.Perm.append_left _ (List.Perm.append_left _ (List.Perm.append_left _ (List.perm_append_comm_assoc _ _ _))))))))) ?_
 refine xfz (List.Perm.append_left _ (List.Perm.append_left _ (List.Perm.append_left _ (List.Perm.append_left _ (List.Perm.append_left _ (List.Perm.append_left _ (List.Perm.append_left _ (List.perm_append_comm_assoc _ _ _)))))))) ?_
 refine xfz (List.Perm.append_left _ (List.Perm.append_left _ (List.Perm.append_left _ (List.Perm.append_left _ (List.Perm.append_left _ (List.Perm.append_left _ (List.perm_append_comm_assoc _ _ _))))))) ?_
 refine xfz (List.Perm.append_left _ (List.Perm.append_left _ (List.Perm.append_left _ (List.Perm.append_left _ (List.Perm.append_left _ (List.perm_append_comm_assoc _ _ _)))))) ?_
 refine xfz (List.Perm.append_left _ (List.Perm.append_left _ (List.Perm.append_left _ (List.Perm.append_left _ (List.perm_append_comm_assoc _ _ _))))) ?_
 refine xfz (List.Perm.append_left _ (List.Perm.append_left _ (List.Perm.append_left _ (List.perm_append_comm_assoc _ _ _)))) ?_
 refine xfz (List.Perm.append_left _ (List.Perm.append_left _ (List.perm_append_comm_assoc _ _ _))) ?_
 refine xfz (List.Perm.append_left _ (List.perm_append_comm_assoc _ _ _)) ?_
 refine xfz (List.Perm.append_left _ (List.Perm.append_left _ (List.Perm.append_left _ (List.Perm.append_left _ (List.Perm.append_left _ (List.Perm.append_left _ (List.Perm.append_left _ (List.Perm.append_left _ (List.perm_append_comm_assoc _ _ _))))))))) ?_
 refine xfz (List.Perm.append_left _ (List.Perm.append_left _ (List.Perm.append_left _ (List.Perm.append_left _ (List.Perm.append_left _ (List.Perm.append_left _ (List.Perm.append_left _ (List.perm_append_comm_assoc _ _ _)))))))) ?_
 refine xfz (List.Perm.append_left _ (List.Perm.append_left _ (List.Perm.append_left _ (List.Perm.append_left _ (List.Perm.append_left _ (List.Perm.append_left _ (List.perm_append_comm_assoc _ _ _))))))) ?_
 refine xfz (List.Perm.append_left _ (List.Perm.append_left _ (List.Perm.append_left _ (List.Perm.append_left _ (List.Perm.append_left _ (List.perm_append_comm_assoc _ _ _)))))) ?_
 refine xfz (List.Perm.append_left _ (List.Perm.append_left _ (List.Perm.append_left _ (List.Perm.append_left _ (List.perm_append_comm_assoc _ _ _))))) ?_
 refine xfz (List.Perm.append_left _ (List.Perm.append_left _ (List.Perm.append_left _ (List.perm_append_comm_assoc _ _ _)))) ?_
 refine xfz (List.Perm.append_left _ (List.Perm.append_left _ (List.perm_append_comm_assoc _ _ _))) ?_
 refine xfz (List.Perm.append_left _ (List.Perm.append_left _ (List.Perm.append_left _ (List.Perm.append_left _ (List.Perm.append_left _ (List.Perm.append_left _ (List.Perm.append_left _ (List.Perm.append_left _ (List.perm_append_comm_assoc _ _ _))))))))) ?_
 refine xfz (List.Perm.append_left _ (List.Perm.append_left _ (List.Perm.append_left _ (List.Perm.append_left _ (List.Perm.append_left _ (List.Perm.append_left _ (List.Perm.append_left _ (List.perm_append_comm_assoc _ _ _)))))))) ?_
 refine xfz (List.Perm.append_left _ (List.Perm.append_left _ (List.Perm.append_left _ (List.Perm.append_left _ (List.Perm.append_left _ (List.Perm.append_left _ (List.perm_append_comm_assoc _ _ _))))))) ?_
 refine xfz (List.Perm.append_left _ (List.Perm.append_left _ (List.Perm.append_left _ (List.Perm.append_left _ (List.Perm.append_left _ (List.perm_append_comm_assoc _ _ _)))))) ?_
 refine xfz (List.Perm.append_left _ (List.Perm.append_left _ (List.Perm.append_left _ (List.Perm.append_left _ (List.perm_append_comm_assoc _ _ _))))) ?_
 refine xfz (List.Perm.append_left _ (List.Perm.append_left _ (List.Perm.append_left _ (List.perm_append_comm_assoc _ _ _)))) ?_
 refine xfz (List.Perm.append_left _ (List.Perm.append_left _ (List.Perm.append_left _ (List.Perm.append_left _ (List.Perm.append_left _ (List.Perm.append_left _ (List.Perm.append_left _ (List.Perm.append_left _ (List.perm_append_comm_assoc _ _ _))))))))) ?_
 refine xfz (List.Perm.append_left _ (List.Perm.append_left _ (List.Perm.append_left _ (List.Perm.append_left _ (List.Perm.append_left _ (List.Perm.append_left _ (List.Perm.append_left _ (List.perm_append_comm_assoc _ _ _)))))))) ?_
 refine xfz (List.Perm.append_left _ (List.Perm.append_left _ (List.Perm.append_left _ (List.Perm.append_left _ (List.Perm.append_left _ (List.Perm.append_left _ (List.perm_append_comm_assoc _ _ _))))))) ?_
 refine xfz (List.Perm.append_left _ (List.Perm.append_left _ (List.Perm.append_left _ (List.Perm.append_left _ (List.Perm.append_left _ (List.perm_append_comm_assoc _ _ _)))))) ?_
 refine xfz (List.Perm.append_left _ (List.Perm.append_left _ (List.Perm.append_left _ (List.Perm.append_left _ (List.perm_append_comm_assoc _ _ _))))) ?_
 refine xfz (List.Perm.append_left _ (List.Perm.append_left _ (List.Perm.append_left _ (List.Perm.append_left _ (List.Perm.append_left _ (List.Perm.append_left _ (List.Perm.append_left _ (List.Perm.append_left _ (List.perm_append_comm_assoc _ _ _))))))))) ?_
 refine xfz (List.Perm.append_left _ (List.Perm.append_left _ (List.Perm.append_left _ (List.Perm.append_left _ (List.Perm.append_left _ (List.Perm.append_left _ (List.Perm.append_left _ (List.perm_append_comm_assoc _ _ _)))))))) ?_
 refine xfz (List.Perm.append_left _ (List.Perm.append_left _ (List.Perm.append_left _ (List.Perm.append_left _ (List.Perm.append_left _ (List.Perm.append_left _ (List.perm_append_comm_assoc _ _ _))))))) ?_
 refine xfz (List.Perm.append_left _ (List.Perm.append_left _ (List.Perm.append_left _ (List.Perm.append_left _ (List.Perm.append_left _ (List.perm_append_comm_assoc _ _ _)))))) ?_
 refine xfz (List.Perm.append_left _ (List.Perm.append_left _ (List.Perm.append_left _ (List.Perm.append_left _ (List.Perm.append_left _ (List.Perm.append_left _ (List.Perm.append_left _ (List.Perm.append_left _ (List.perm_append_comm_assoc _ _ _))))))))) ?_
 refine xfz (List.Perm.append_left _ (List.Perm.append_left _ (List.Perm.append_left _ (List.Perm.append_left _ (List.Perm.append_left _ (List.Perm.append_left _ (List.Perm.append_left _ (List.perm_append_comm_assoc _ _ _)))))))) ?_
 refine xfz (List.Perm.append_left _ (List.Perm.append_left _ (List.Perm.append_left _ (List.Perm.append_left _ (List.Perm.append_left _ (List.Perm.append_left _ (List.perm_append_comm_assoc _ _ _))))))) ?_
 refine xfz (List.Perm.append_left _ (List.Perm.append_left _ (List.Perm.append_left _ (List.Perm.append_left _ (List.Perm.append_left _ (List.Perm.append_left _ (List.Perm.append_left _ (List.Perm.append_left _ (List.perm_append_comm_assoc _ _ _))))))))) ?_
 refine xfz (List.Perm.append_left _ (List.Perm.append_left _ (List.Perm.append_left _ (List.Perm.append_left _ (List.Perm.append_left _ (List.Perm.append_left _ (List.Perm.append_left _ (List.perm_append_comm_assoc _ _ _)))))))) ?_
 refine xfz (List.Perm.append_left _ (List.Perm.append_left _ (List.Perm.append_left _ (List.Perm.append_left _ (List.Perm.append_left _ (List.Perm.append_left _ (List.Perm.append_left _ (List.Perm.append_left _ (List.perm_append_comm_assoc _ _ _))))))))) ?_
 refine xkw (L':=([(b3,.cells #[(.slice a43 1 c44),(.slice a45 2 c46),(.slice a47 2 c48)] 25 (0,0)),(b2,.cells #[(.slice a28 2 c29),(.slice a30 2 c31),(.slice a32 2 c33)] 25 (0,0)),(b1,.cells #[(.slice a13 3 c14),(.slice a15 2 c16),(.slice a17 4 c18)] 25 (0,0))]:Pcs)++(X5++(X8++(X11++(X20++(X23++(X26++(X35++(X38++(X41++[])))))))))) rfl ?_
 exact fun h_ H_=>K _ _ ⟨_,_,_,_,_,_,_,_,_,_,_,_,_,_,_,_,_,_,rfl,o6,o9,o12,o21,o24,o27,o36,o39,o42,by simpa using H_.dropA.new⟩
theorem c16 (md:Md) (h:Heap) (p:PHeap) (hp:Per p h) (N:NoneP p) (Z:TabP p):CallsX Tryd.prog md 16 #[] h fun v h'=>v= .bool true∧Keep h h':=by
 refine xdq (Φ:=fun h_=>St h [] p h_ []) Tryd.func16 rfl (tm:=zq1 (zq2 (zq32 (zq32 (zq32 []))))) rfl ?_ (St.start h _ hp)
 intro c₀ cs Stop K
 have nB1:exB.nH=3:=rfl
 have nB2:exB.nW=2:=rfl
 have nB3:exB.m=4:=rfl
 have nC1:exC.nH=2:=rfl
 have nC2:exC.nW=2:=rfl
 have nC3:exC.m=2:=rfl
 have nD1:exD.nH=1:=rfl
 have nD2:exD.nW=2:=rfl
 have nD3:exD.m=2:=rfl
 have mostB_:mostC exB=7:=by rw [mostC,if_pos ykk,vbq]
 have lkB_:LKc exB=[2,2,1]:=by rw [zpv ykk,vkz]
 have shoC_:shortC exC=[1]:=by rw [ydj wlz,wwv]
 have shoE_:shortE exC=0:=zsq wlz (by rw [wwv];decide)
 have nl1_:(LKc exB).length=3:=by rw [lkB_];rfl
 have nl2_:(shortC exC).length=1:=by rw [shoC_];rfl
 have wA_:wayA exC 1 0=0:=by rw [zlq (by omega),askB,if_pos wlz];simp;omega
 have wayE_:wayE exC 1 0=0:=wdj wA_ (by decide)
 have wayB__:wayB exC 1 0=true:=by rw [wdv wA_ (by decide)];exact decide_eq_true vek
 have askB_:askB exB (decide (0≤(0:Int)∧(0:Int)≤(exB.nH:Int)-1))=0:=by rw [askB,if_pos ykk];simp;omega
 have askD_:askB exD (decide (0≤(0:Int)∧(0:Int)≤(exD.nW:Int)-1))=0:=by rw [askB,if_pos viw];simp;omega
 have houB1_:houseC exB 0 (-1)=3:=by rw [xwz askB_,vcq]
 have houB2_:houseC exB 0 1=4:=by rw [xwz askB_,vbw]
 have dryD_:dryC exD 0=3:=by rw [yqz askD_,vik]
 refine fsr <| rt (xax (v:=.bool (false)) rfl) (tm':=_::_) rfl <| ren <| xbx ?_
 refine xcq (L':=([]:Pcs)++[]) rfl ?_
 refine xjj mn (first:=[]) (cap:=[]) rfl rfl fC63 (R:=fun v_ h_=>∃ w1:Value,∃ w4:Value,∃ w7:Value,∃ w10:Value,∃ w13:Value,∃ w16:Value,∃ w19:Value,∃ w22:Value,∃ w25:Value,∃ X2:Pcs,∃ X5:Pcs,∃ X8:Pcs,∃ X11:Pcs,∃ X14:Pcs,∃ X17:Pcs,∃ X20:Pcs,∃ X23:Pcs,∃ X26:Pcs,v_= .tuple #[.agg #[w1,w4,w7],.agg #[w10,w13,w16],.agg #[w19,w22,w25]]∧(OwnS 3 1 w1 (ics exB.hs) X2)∧(OwnS 3 1 w4 (ics exB.ws) X5)∧(OwnS 43 2 w7 (wcs exB.wy) X8)∧(OwnS 3 1 w10 (ics exC.hs) X11)∧(OwnS 3 1 w13 (ics exC.ws) X14)∧(OwnS 43 2 w16 (wcs exC.wy) X17)∧(OwnS 3 1 w19 (ics exD.hs) X20)∧(OwnS 3 1 w22 (ics exD.ws) X23)∧(OwnS 43 2 w25 (wcs exD.wy) X26)∧St h [] p h_ (([]:Pcs)++((X2++(X5++(X8++(X11++(X14++(X17++(X20++(X23++(X26++[])))))))))++[]))) (fun h_ H_=>(c63 md _).mono fun v_ h2_ ⟨w1,w4,w7,w10,w13,w16,w19,w22,w25,X2,X5,X8,X11,X14,X17,X20,X23,X26,e_,o3,o6,o9,o12,o15,o18,o21,o24,o27,N_⟩=>⟨w1,w4,w7,w10,w13,w16,w19,w22,w25,X2,X5,X8,X11,X14,X17,X20,X23,X26,e_,o3,o6,o9,o12,o15,o18,o21,o24,o27,H_.callNA N_⟩) fun v_=>?_
 refine xgz fun w1=>xgz fun w4=>xgz fun w7=>xgz fun w10=>xgz fun w13=>xgz fun w16=>xgz fun w19=>xgz fun w22=>xgz fun w25=>xgz fun X2=>xgz fun X5=>xgz fun X8=>xgz fun X11=>xgz fun X14=>xgz fun X17=>xgz fun X20=>xgz fun X23=>xgz fun X26=>xfx fun ev_=>xfx fun o3=>xfx fun o6=>xfx fun o9=>xfx fun o12=>xfx fun o15=>xfx fun o18=>xfx fun o21=>xfx fun o24=>xfx fun o27=>?_
 have ev_:=ev_.symm;subst ev_
 refine xcq (L':=([]:Pcs)++(X2++(X5++(X8++(X11++(X14++(X17++(X20++(X23++(X26++[])))))))))) (by simp) ?_
 refine ro (xaq (v:=.tuple #[.agg #[w1,w4,w7],.agg #[w10,w13,w16],.agg #[w19,w22,w25]]) rfl) <| rt (xdz rfl (v:=.agg #[w1,w4,w7]) rfl) (tm':=zq1 (zq2 (zq16 _))) rfl <| ro (xdz rfl (v:=.agg #[w10,w13,w16]) rfl) <| ro (xdz rfl (v:=.agg #[w19,w22,w25]) rfl) ?_
 refine xkx mn tZ25 rfl fun b28=>xcq (L':=([(b28,.cells #[.slice none 0 0,.slice none 0 0,.slice none 0 0] 25 (0,0))]:Pcs)++(X2++(X5++(X8++(X11++(X14++(X17++(X20++(X23++(X26++[])))))))))) rfl ?_
 refine xgq (tm':=_::_::_) rfl ?_
 refine xkx mn tZ25 rfl fun b29=>xcq (L':=([(b29,.cells #[.slice none 0 0,.slice none 0 0,.slice none 0 0] 25 (0,0)),(b28,.cells #[.slice none 0 0,.slice none 0 0,.slice none 0 0] 25 (0,0))]:Pcs)++(X2++(X5++(X8++(X11++(X14++(X17++(X20++(X23++(X26++[])))))))))) rfl ?_
 refine xkx mn tZ25 rfl fun b30=>xcq (L':=([(b30,.cells #[.slice none 0 0,.slice none 0 0,.slice none 0 0] 25 (0,0)),(b29,.cells #[.slice none 0 0,.slice none 0 0,.slice none 0 0] 25 (0,0)),(b28,.cells #[.slice none 0 0,.slice none 0 0,.slice none 0 0] 25 (0,0))]:Pcs)++(X2++(X5++(X8++(X11++(X14++(X17++(X20++(X23++(X26++[])))))))))) rfl ?_
 refine xiq mn tS25 rfl (v:=.agg #[w1,w4,w7]) rfl (i:=2) rfl rfl (xew o3.one.2 (xew o6.one.2 (xew o9.one.2 rfl))) (Nat.le_of_ble_eq_true rfl) (cs2:=[w1,w4,w7]) rfl (xcq (L':=([(b30,.cells #[.slice none 0 0,.slice none 0 0,.slice none 0 0] 25 (0,0)),(b29,.cells #[.slice none 0 0,.slice none 0 0,.slice none 0 0] 25 (0,0)),(b28,.cells #[w1,w4,w7] 25 (0,0))]:Pcs)++(X2++(X5++(X8++(X11++(X14++(X17++(X20++(X23++(X26++[])))))))))) rfl ?_)
 refine xiq mn tS25 rfl (v:=.agg #[w10,w13,w16]) rfl (i:=1) rfl rfl (xew o12.one.2 (xew o15.one.2 (xew o18.one.2 rfl))) (Nat.le_of_ble_eq_true rfl) (cs2:=[w10,w13,w16]) rfl (xcq (L':=([(b30,.cells #[.slice none 0 0,.slice none 0 0,.slice none 0 0] 25 (0,0)),(b29,.cells #[w10,w13,w16] 25 (0,0)),(b28,.cells #[w1,w4,w7] 25 (0,0))]:Pcs)++(X2++(X5++(X8++(X11++(X14++(X17++(X20++(X23++(X26++[])))))))))) rfl ?_)
 refine xiq mn tS25 rfl (v:=.agg #[w19,w22,w25]) rfl (i:=0) rfl rfl (xew o21.one.2 (xew o24.one.2 (xew o27.one.2 rfl))) (Nat.le_of_ble_eq_true rfl) (cs2:=[w19,w22,w25]) rfl (xcq (L':=([(b30,.cells #[w19,w22,w25] 25 (0,0)),(b29,.cells #[w10,w13,w16] 25 (0,0)),(b28,.cells #[w1,w4,w7] 25 (0,0))]:Pcs)++(X2++(X5++(X8++(X11++(X14++(X17++(X20++(X23++(X26++[])))))))))) rfl ?_)
 refine ren ?_
 refine xvw (A:=([(b30,.cells #[w19,w22,w25] 25 (0,0)),(b29,.cells #[w10,w13,w16] 25 (0,0)),(b28,.cells #[w1,w4,w7] 25 (0,0))]:Pcs)) o3 ((xcx _).trans rfl) (by decide) fun p31 a32 cp33 le34 ev_ D35 hcD35=>?_
 subst ev_
 refine xvw (A:=([(b30,.cells #[w19,w22,w25] 25 (0,0)),(b29,.cells #[w10,w13,w16] 25 (0,0)),(b28,.cells #[.slice a32 exB.nH cp33,w4,w7] 25 (0,0))]:Pcs)) o6 ((xcx _).trans rfl) (by decide) fun p36 a37 cp38 le39 ev_ D40 hcD40=>?_
 subst ev_
 refine xvw (A:=([(b30,.cells #[w19,w22,w25] 25 (0,0)),(b29,.cells #[w10,w13,w16] 25 (0,0)),(b28,.cells #[.slice a32 exB.nH cp33,.slice a37 exB.nW cp38,w7] 25 (0,0))]:Pcs)) o9 (show (wcs exB.wy).length=exB.m from rfl) (by decide) fun p41 a42 cp43 le44 ev_ D45 hcD45=>?_
 subst ev_
 refine xvw (A:=([(b30,.cells #[w19,w22,w25] 25 (0,0)),(b29,.cells #[w10,w13,w16] 25 (0,0)),(b28,.cells #[.slice a32 exB.nH cp33,.slice a37 exB.nW cp38,.slice a42 exB.m cp43] 25 (0,0))]:Pcs)) o12 ((xcx _).trans rfl) (by decide) fun p46 a47 cp48 le49 ev_ D50 hcD50=>?_
 subst ev_
 refine xvw (A:=([(b30,.cells #[w19,w22,w25] 25 (0,0)),(b29,.cells #[.slice a47 exC.nH cp48,w13,w16] 25 (0,0)),(b28,.cells #[.slice a32 exB.nH cp33,.slice a37 exB.nW cp38,.slice a42 exB.m cp43] 25 (0,0))]:Pcs)) o15 ((xcx _).trans rfl) (by decide) fun p51 a52 cp53 le54 ev_ D55 hcD55=>?_
 subst ev_
 refine xvw (A:=([(b30,.cells #[w19,w22,w25] 25 (0,0)),(b29,.cells #[.slice a47 exC.nH cp48,.slice a52 exC.nW cp53,w16] 25 (0,0)),(b28,.cells #[.slice a32 exB.nH cp33,.slice a37 exB.nW cp38,.slice a42 exB.m cp43] 25 (0,0))]:Pcs)) o18 (show (wcs exC.wy).length=exC.m from rfl) (by decide) fun p56 a57 cp58 le59 ev_ D60 hcD60=>?_
 subst ev_
 refine xvw (A:=([(b30,.cells #[w19,w22,w25] 25 (0,0)),(b29,.cells #[.slice a47 exC.nH cp48,.slice a52 exC.nW cp53,.slice a57 exC.m cp58] 25 (0,0)),(b28,.cells #[.slice a32 exB.nH cp33,.slice a37 exB.nW cp38,.slice a42 exB.m cp43] 25 (0,0))]:Pcs)) o21 ((xcx _).trans rfl) (by decide) fun p61 a62 cp63 le64 ev_ D65 hcD65=>?_
 subst ev_
 refine xvw (A:=([(b30,.cells #[.slice a62 exD.nH cp63,w22,w25] 25 (0,0)),(b29,.cells #[.slice a47 exC.nH cp48,.slice a52 exC.nW cp53,.slice a57 exC.m cp58] 25 (0,0)),(b28,.cells #[.slice a32 exB.nH cp33,.slice a37 exB.nW cp38,.slice a42 exB.m cp43] 25 (0,0))]:Pcs)) o24 ((xcx _).trans rfl) (by decide) fun p66 a67 cp68 le69 ev_ D70 hcD70=>?_
 subst ev_
 refine xvw (A:=([(b30,.cells #[.slice a62 exD.nH cp63,.slice a67 exD.nW cp68,w25] 25 (0,0)),(b29,.cells #[.slice a47 exC.nH cp48,.slice a52 exC.nW cp53,.slice a57 exC.m cp58] 25 (0,0)),(b28,.cells #[.slice a32 exB.nH cp33,.slice a37 exB.nW cp38,.slice a42 exB.m cp43] 25 (0,0))]:Pcs)) o27 (show (wcs exD.wy).length=exD.m from rfl) (by decide) fun p71 a72 cp73 le74 ev_ D75 hcD75=>?_
 subst ev_
 refine xkw (L':=[(b30,.cells #[.slice a62 exD.nH cp63,.slice a67 exD.nW cp68,.slice a72 exD.m cp73] 25 (0,0)),(b29,.cells #[.slice a47 exC.nH cp48,.slice a52 exC.nW cp53,.slice a57 exC.m cp58] 25 (0,0)),(b28,.cells #[.slice a32 exB.nH cp33,.slice a37 exB.nW cp38,.slice a42 exB.m cp43] 25 (0,0))]) rfl ?_
 refine xbx ?_
 refine xbq mn (fun h_ H_=>xaw H_ tA25 tS25 rfl (i:=2) rfl (vs:=[.slice a32 exB.nH cp33,.slice a37 exB.nW cp38,.slice a42 exB.m cp43]) rfl rfl) (tm':=zq1 (zq2 (zq4 (zq16 _)))) rfl ?_
 refine xdv mn (first:=[]) (cap:=[]) rfl rfl fC28 (fun h_ H_=>c28 md _ _ H_.pe _ _ _ _ _ _ exB (show TownP _ _ _ _ _ _ _ exB from ⟨(((((((((show Ints _ _ _ exB.hs from D35).mono le39).mono le44).mono le49).mono le54).mono le59).mono le64).mono le69).mono le74),((((((((show Ints _ _ _ exB.ws from D40).mono le44).mono le49).mono le54).mono le59).mono le64).mono le69).mono le74),(((((((show Wys _ _ _ exB.wy from D45).mono le49).mono le54).mono le59).mono le64).mono le69).mono le74)⟩) (by omega) (((((((((N.mono le34).mono le39).mono le44).mono le49).mono le54).mono le59).mono le64).mono le69).mono le74)) rfl ?_
 refine ro (xaq (v:=.tuple #[.int .i64 (mostC exB),.int .i64 (chkB exB)]) rfl) <| rt (xdz rfl (v:=.int .i64 (mostC exB)) rfl) (tm':=zq1 (zq8 (zq16 _))) rfl <| ro (xdz rfl (v:=.int .i64 (chkB exB)) rfl) <| ro (xax (v:=.int .i64 (mostC exB)) rfl) <| rt (xax (v:=.int .i64 (chkB exB)) rfl) (tm':=zq2 (zq4 _)) rfl <| ren ?_
 refine xbx <| rd (fun h_ H_=>xaw H_ tA25 tS25 rfl (i:=2) rfl (vs:=[.slice a32 exB.nH cp33,.slice a37 exB.nW cp38,.slice a42 exB.m cp43]) rfl rfl) ?_
 refine xcq (L':=([(b30,.cells #[.slice a62 exD.nH cp63,.slice a67 exD.nW cp68,.slice a72 exD.m cp73] 25 (0,0)),(b29,.cells #[.slice a47 exC.nH cp48,.slice a52 exC.nW cp53,.slice a57 exC.m cp58] 25 (0,0)),(b28,.cells #[.slice a32 exB.nH cp33,.slice a37 exB.nW cp38,.slice a42 exB.m cp43] 25 (0,0))]:Pcs)++[]) rfl ?_
 refine xjj mn (first:=[]) (cap:=[]) rfl rfl fC43 (R:=fun v_ h_=>∃ w76:Value,∃ X77:Pcs,v_= .tuple #[w76,.int .i64 (chkB exB)]∧(OwnS 3 1 w76 (ics (LKc exB)) X77)∧St h [] p71 h_ (([(b30,.cells #[.slice a62 exD.nH cp63,.slice a67 exD.nW cp68,.slice a72 exD.m cp73] 25 (0,0)),(b29,.cells #[.slice a47 exC.nH cp48,.slice a52 exC.nW cp53,.slice a57 exC.m cp58] 25 (0,0)),(b28,.cells #[.slice a32 exB.nH cp33,.slice a37 exB.nW cp38,.slice a42 exB.m cp43] 25 (0,0))]:Pcs)++(X77++[]))) (fun h_ H_=>(c43 md _ _ H_.pe _ _ _ _ _ _ exB (show TownP _ _ _ _ _ _ _ exB from ⟨(((((((((show Ints _ _ _ exB.hs from D35).mono le39).mono le44).mono le49).mono le54).mono le59).mono le64).mono le69).mono le74),((((((((show Ints _ _ _ exB.ws from D40).mono le44).mono le49).mono le54).mono le59).mono le64).mono le69).mono le74),(((((((show Wys _ _ _ exB.wy from D45).mono le49).mono le54).mono le59).mono le64).mono le69).mono le74)⟩) (by omega) (((((((((N.mono le34).mono le39).mono le44).mono le49).mono le54).mono le59).mono le64).mono le69).mono le74)).mono fun v_ h2_ ⟨w76,X77,e_,o78,N_⟩=>⟨w76,X77,e_,o78,H_.callNA N_⟩) fun v_=>?_
 refine xgz fun w76=>xgz fun X77=>xfx fun ev_=>xfx fun o78=>?_
 have ev_:=ev_.symm;subst ev_
 refine xcq (L':=([(b30,.cells #[.slice a62 exD.nH cp63,.slice a67 exD.nW cp68,.slice a72 exD.m cp73] 25 (0,0)),(b29,.cells #[.slice a47 exC.nH cp48,.slice a52 exC.nW cp53,.slice a57 exC.m cp58] 25 (0,0)),(b28,.cells #[.slice a32 exB.nH cp33,.slice a37 exB.nW cp38,.slice a42 exB.m cp43] 25 (0,0))]:Pcs)++(X77++[])) rfl ?_
 refine rt (xaq (v:=.tuple #[w76,.int .i64 (chkB exB)]) rfl) (tm':=zq1 (zq2 (zq8 (zq16 _)))) rfl <| ro (xdz rfl (v:=w76) rfl) <| ro (xdz rfl (v:=.int .i64 (chkB exB)) rfl) <| rt (xax (v:=w76) rfl) (tm':=zq1 (zq2 (zq4 _))) rfl <| ro (xax (v:=.int .i64 (chkB exB)) rfl) <| ren ?_
 refine xbx <| rd (fun h_ H_=>xaw H_ tA25 tS25 rfl (i:=2) rfl (vs:=[.slice a32 exB.nH cp33,.slice a37 exB.nW cp38,.slice a42 exB.m cp43]) rfl rfl) ?_
 refine xdv mn (first:=[]) (cap:=[]) rfl rfl fC18 (fun h_ H_=>c18 md _ _ H_.pe _ _ _ _ _ _ exB (show TownP _ _ _ _ _ _ _ exB from ⟨(((((((((show Ints _ _ _ exB.hs from D35).mono le39).mono le44).mono le49).mono le54).mono le59).mono le64).mono le69).mono le74),((((((((show Ints _ _ _ exB.ws from D40).mono le44).mono le49).mono le54).mono le59).mono le64).mono le69).mono le74),(((((((show Wys _ _ _ exB.wy from D45).mono le49).mono le54).mono le59).mono le64).mono le69).mono le74)⟩) (by omega) (0) (((((((((N.mono le34).mono le39).mono le44).mono le49).mono le54).mono le59).mono le64).mono le69).mono le74)) (tm':=zq2 (zq32 _)) rfl ?_
 refine ro (xaq (v:=.tuple #[.agg #[.int .i64 (houseC exB (0) (-1)),.int .i64 (houseC exB (0) 1)],.int .i64 (askB exB (decide (0≤0∧0≤(exB.nH:Int)-1)))]) rfl) <| ro (xdz rfl (v:=.agg #[.int .i64 (houseC exB (0) (-1)),.int .i64 (houseC exB (0) 1)]) rfl) <| rt (xdz rfl (v:=.int .i64 (askB exB (decide (0≤0∧0≤(exB.nH:Int)-1)))) rfl) (tm':=zq4 (zq32 _)) rfl ?_
 refine xkx mn tZ30 rfl fun b79=>xcq (L':=([(b79,.cells #[.int .i64 0,.int .i64 0] 30 (0,0)),(b30,.cells #[.slice a62 exD.nH cp63,.slice a67 exD.nW cp68,.slice a72 exD.m cp73] 25 (0,0)),(b29,.cells #[.slice a47 exC.nH cp48,.slice a52 exC.nW cp53,.slice a57 exC.m cp58] 25 (0,0)),(b28,.cells #[.slice a32 exB.nH cp33,.slice a37 exB.nW cp38,.slice a42 exB.m cp43] 25 (0,0))]:Pcs)++(X77++[])) rfl ?_
 refine xiq mn tS30 rfl (v:=.agg #[.int .i64 (houseC exB (0) (-1)),.int .i64 (houseC exB (0) 1)]) rfl (i:=0) rfl rfl rfl (Nat.le_of_ble_eq_true rfl) (cs2:=[.int .i64 (houseC exB (0) (-1)),.int .i64 (houseC exB (0) 1)]) rfl (xcq (L':=([(b79,.cells #[.int .i64 (houseC exB (0) (-1)),.int .i64 (houseC exB (0) 1)] 30 (0,0)),(b30,.cells #[.slice a62 exD.nH cp63,.slice a67 exD.nW cp68,.slice a72 exD.m cp73] 25 (0,0)),(b29,.cells #[.slice a47 exC.nH cp48,.slice a52 exC.nW cp53,.slice a57 exC.m cp58] 25 (0,0)),(b28,.cells #[.slice a32 exB.nH cp33,.slice a37 exB.nW cp38,.slice a42 exB.m cp43] 25 (0,0))]:Pcs)++(X77++[])) rfl ?_)
 refine ro (xax (v:=.int .i64 (askB exB (decide (0≤0∧0≤(exB.nH:Int)-1)))) rfl) <| ren <| xbx ?_
 refine xbq mn (fun h_ H_=>xaw H_ tA25 tS25 rfl (i:=2) rfl (vs:=[.slice a47 exC.nH cp48,.slice a52 exC.nW cp53,.slice a57 exC.m cp58]) rfl rfl) (tm':=zq2 (zq4 (zq32 _))) rfl ?_
 refine xjj mn (first:=[]) (cap:=[]) rfl rfl fC25 (R:=fun v_ h_=>∃ w80:Value,∃ X81:Pcs,v_= .tuple #[w80,.int .i64 (shortE exC)]∧(OwnS 3 1 w80 (ics (shortC exC)) X81)∧St h [] p71 h_ (([(b79,.cells #[.int .i64 (houseC exB (0) (-1)),.int .i64 (houseC exB (0) 1)] 30 (0,0)),(b30,.cells #[.slice a62 exD.nH cp63,.slice a67 exD.nW cp68,.slice a72 exD.m cp73] 25 (0,0)),(b29,.cells #[.slice a47 exC.nH cp48,.slice a52 exC.nW cp53,.slice a57 exC.m cp58] 25 (0,0)),(b28,.cells #[.slice a32 exB.nH cp33,.slice a37 exB.nW cp38,.slice a42 exB.m cp43] 25 (0,0))]:Pcs)++(X81++(X77++[])))) (fun h_ H_=>(c25 md _ _ H_.pe _ _ _ _ _ _ exC (show TownP _ _ _ _ _ _ _ exC from ⟨((((((show Ints _ _ _ exC.hs from D50).mono le54).mono le59).mono le64).mono le69).mono le74),(((((show Ints _ _ _ exC.ws from D55).mono le59).mono le64).mono le69).mono le74),((((show Wys _ _ _ exC.wy from D60).mono le64).mono le69).mono le74)⟩) (by omega) (((((((((Z.mono le34).mono le39).mono le44).mono le49).mono le54).mono le59).mono le64).mono le69).mono le74)).mono fun v_ h2_ ⟨w80,X81,e_,o82,N_⟩=>⟨w80,X81,e_,o82,H_.callNA N_⟩) fun v_=>?_
 refine xgz fun w80=>xgz fun X81=>xfx fun ev_=>xfx fun o82=>?_
 have ev_:=ev_.symm;subst ev_
 refine xcq (L':=([(b79,.cells #[.int .i64 (houseC exB (0) (-1)),.int .i64 (houseC exB (0) 1)] 30 (0,0)),(b30,.cells #[.slice a62 exD.nH cp63,.slice a67 exD.nW cp68,.slice a72 exD.m cp73] 25 (0,0)),(b29,.cells #[.slice a47 exC.nH cp48,.slice a52 exC.nW cp53,.slice a57 exC.m cp58] 25 (0,0)),(b28,.cells #[.slice a32 exB.nH cp33,.slice a37 exB.nW cp38,.slice a42 exB.m cp43] 25 (0,0))]:Pcs)++(X81++(X77++[]))) rfl ?_
 refine ro (xaq (v:=.tuple #[w80,.int .i64 (shortE exC)]) rfl) <| rt (xdz rfl (v:=w80) rfl) (tm':=zq8 (zq32 _)) rfl <| ro (xdz rfl (v:=.int .i64 (shortE exC)) rfl) <| ro (xax (v:=w80) rfl) <| rt (xax (v:=.int .i64 (shortE exC)) rfl) (tm':=zq4 (zq8 _)) rfl <| ren ?_
 refine xbx <| rd (fun h_ H_=>xaw H_ tA25 tS25 rfl (i:=2) rfl (vs:=[.slice a47 exC.nH cp48,.slice a52 exC.nW cp53,.slice a57 exC.m cp58]) rfl rfl) ?_
 refine xdv mn (first:=[]) (cap:=[]) rfl rfl fC55 (fun h_ H_=>c55 md _ _ H_.pe _ _ _ _ _ _ exC (show TownP _ _ _ _ _ _ _ exC from ⟨((((((show Ints _ _ _ exC.hs from D50).mono le54).mono le59).mono le64).mono le69).mono le74),(((((show Ints _ _ _ exC.ws from D55).mono le59).mono le64).mono le69).mono le74),((((show Wys _ _ _ exC.wy from D60).mono le64).mono le69).mono le74)⟩) (by omega) (hcD60) (1) (0) (((((((((N.mono le34).mono le39).mono le44).mono le49).mono le54).mono le59).mono le64).mono le69).mono le74)) rfl ?_
 refine rt (xaq (v:=.tuple #[.bool (wayB exC (1) (0)),.int .i64 (wayE exC (1) (0))]) rfl) (tm':=zq2 (zq8 (zq32 _))) rfl <| ro (xdz rfl (v:=.bool (wayB exC (1) (0))) rfl) <| ro (xdz rfl (v:=.int .i64 (wayE exC (1) (0))) rfl) <| rt (xax (v:=.bool (wayB exC (1) (0))) rfl) (tm':=zq1 (zq4 (zq8 _))) rfl <| ro (xax (v:=.int .i64 (wayE exC (1) (0))) rfl) <| ren ?_
 refine xbx <| rd (fun h_ H_=>xaw H_ tA25 tS25 rfl (i:=1) rfl (vs:=[.slice a62 exD.nH cp63,.slice a67 exD.nW cp68,.slice a72 exD.m cp73]) rfl rfl) ?_
 refine xdv mn (first:=[]) (cap:=[]) rfl rfl fC20 (fun h_ H_=>c20 md _ _ H_.pe _ _ _ _ _ _ exD (show TownP _ _ _ _ _ _ _ exD from ⟨(((show Ints _ _ _ exD.hs from D65).mono le69).mono le74),((show Ints _ _ _ exD.ws from D70).mono le74),(show Wys _ _ _ exD.wy from D75)⟩) (by omega) (0) (((((((((N.mono le34).mono le39).mono le44).mono le49).mono le54).mono le59).mono le64).mono le69).mono le74)) (tm':=zq1 (zq16 (zq32 _))) rfl ?_
 refine ro (xaq (v:=.tuple #[.int .i64 (dryC exD (0)),.int .i64 (askB exD (decide (0≤0∧0≤(exD.nW:Int)-1)))]) rfl) <| ro (xdz rfl (v:=.int .i64 (dryC exD (0))) rfl) <| rt (xdz rfl (v:=.int .i64 (askB exD (decide (0≤0∧0≤(exD.nW:Int)-1)))) rfl) (tm':=zq1 (zq2 (zq16 (zq32 _)))) rfl <| ro (xax (v:=.int .i64 (dryC exD (0))) rfl) <| ro (xax (v:=.int .i64 (askB exD (decide (0≤0∧0≤(exD.nW:Int)-1)))) rfl) <| ren ?_
 refine xbx <| rt (xaq (v:=.int .i64 (chkB exB)) rfl) (tm':=zq4 (zq16 (zq32 _))) rfl <| ro (xmw rfl rfl) <| ro (xaq (v:=.bool (decide (chkB exB=0))) rfl) ?_
 refine xbq (ms rfl rfl (decide_eq_true ykk)) (fun h_ H_=>xaq (v:=.int .i64 (chkB exB)) rfl) (tm':=zq1 (zq2 (zq4 (zq16 (zq32 _))))) rfl ?_
 refine xbq (ms rfl rfl (decide_eq_true ykk)) (fun h_ H_=>xmw rfl rfl) rfl ?_
 refine ro (xdj rfl (decide_eq_true ykk) (v:=.bool (decide (chkB exB=0))) rfl) <| rt (xaq (v:=.bool (decide (chkB exB=0))) rfl) (tm':=zq2 (zq8 (zq16 (zq32 _)))) rfl ?_
 refine xbq (ms rfl rfl (decide_eq_true ykk)) (fun h_ H_=>xaq (v:=.int .i64 (askB exB (decide (0≤0∧0≤(exB.nH:Int)-1)))) rfl) rfl ?_
 refine xbq (ms rfl rfl (decide_eq_true ykk)) (fun h_ H_=>xmw rfl rfl) rfl ?_
 refine rt (xdj rfl (decide_eq_true ykk) (v:=.bool (decide (askB exB (decide (0≤0∧0≤(exB.nH:Int)-1))=0))) rfl) (tm':=zq1 (zq4 (zq8 (zq16 (zq32 _))))) rfl <| ro (xaq (v:=.bool (decide (askB exB (decide (0≤0∧0≤(exB.nH:Int)-1))=0))) rfl) ?_
 refine xbq (ms rfl rfl (decide_eq_true askB_)) (fun h_ H_=>xaq (v:=.int .i64 (shortE exC)) rfl) rfl ?_
 refine xbq (ms rfl rfl (decide_eq_true askB_)) (fun h_ H_=>xmw rfl rfl) (tm':=zq32 (zq32 _)) rfl ?_
 refine ro (xdj rfl (decide_eq_true askB_) (v:=.bool (decide (shortE exC=0))) rfl) <| ro (xaq (v:=.bool (decide (shortE exC=0))) rfl) ?_
 refine xbq (ms rfl rfl (decide_eq_true shoE_)) (fun h_ H_=>xaq (v:=.int .i64 (wayE exC (1) (0))) rfl) (tm':=zq1 (zq2 (zq32 (zq32 (zq32 []))))) rfl ?_
 refine xbq (ms rfl rfl (decide_eq_true shoE_)) (fun h_ H_=>xmw rfl rfl) rfl ?_
 refine ro (xdj rfl (decide_eq_true shoE_) (v:=.bool (decide (wayE exC (1) (0)=0))) rfl) <| rt (xaq (v:=.bool (decide (wayE exC (1) (0)=0))) rfl) (tm':=zq1 (zq2 (zq32 (zq32 (zq32 []))))) rfl ?_
 refine xbq (ms rfl rfl (decide_eq_true wayE_)) (fun h_ H_=>xaq (v:=.int .i64 (askB exD (decide (0≤0∧0≤(exD.nW:Int)-1)))) rfl) rfl ?_
 refine xbq (ms rfl rfl (decide_eq_true wayE_)) (fun h_ H_=>xmw rfl rfl) rfl ?_
 refine rt (xdj rfl (decide_eq_true wayE_) (v:=.bool (decide (askB exD (decide (0≤0∧0≤(exD.nW:Int)-1))=0))) rfl) (tm':=zq1 (zq2 (zq32 (zq32 (zq32 []))))) rfl <| ro (xaq (v:=.bool (decide (askB exD (decide (0≤0∧0≤(exD.nW:Int)-1))=0))) rfl) ?_
 refine xbq (ms rfl rfl (decide_eq_true askD_)) (fun h_ H_=>xaq (v:=.int .i64 (mostC exB)) rfl) rfl ?_
 refine xbq (ms rfl rfl (decide_eq_true askD_)) (fun h_ H_=>xmw rfl rfl) (tm':=zq1 (zq2 (zq32 (zq32 (zq32 []))))) rfl ?_
 refine ro (xdj rfl (decide_eq_true askD_) (v:=.bool (decide (mostC exB=7))) rfl) <| ro (xaq (v:=.bool (decide (mostC exB=7))) rfl) ?_
 refine xbq (ms rfl rfl (decide_eq_true mostB_)) (fun h_ H_=>xaq (v:=w76) rfl) (tm':=zq1 (zq2 (zq32 (zq32 (zq32 []))))) rfl ?_
 refine xmj ([(b79,.cells #[.int .i64 (houseC exB (0) (-1)),.int .i64 (houseC exB (0) 1)] 30 (0,0)),(b30,.cells #[.slice a62 exD.nH cp63,.slice a67 exD.nW cp68,.slice a72 exD.m cp73] 25 (0,0)),(b29,.cells #[.slice a47 exC.nH cp48,.slice a52 exC.nW cp53,.slice a57 exC.m cp58] 25 (0,0)),(b28,.cells #[.slice a32 exB.nH cp33,.slice a37 exB.nW cp38,.slice a42 exB.m cp43] 25 (0,0))]:Pcs) (ms rfl rfl (decide_eq_true mostB_)) Tryd.underlying22 tS3 tZ3 (Nat.le_of_ble_eq_true rfl) (vs:=[(0,.int .i64 2),(1,.int .i64 2),(2,.int .i64 1)]) rfl rfl (es:=[[.int .i64 2],[.int .i64 2],[.int .i64 1]]) rfl rfl rfl fun v83 X84 o85=>?_
 refine xjz (List.Perm.append_left _ (List.Perm.append_left _ (List.perm_append_comm_assoc _ _ _))) ?_
 refine xjz (List.Perm.append_left _ (List.perm_append_comm_assoc _ _ _)) ?_
 refine xcq (L':=([(b79,.cells #[.int .i64 (houseC exB (0) (-1)),.int .i64 (houseC exB (0) 1)] 30 (0,0)),(b30,.cells #[.slice a62 exD.nH cp63,.slice a67 exD.nW cp68,.slice a72 exD.m cp73] 25 (0,0)),(b29,.cells #[.slice a47 exC.nH cp48,.slice a52 exC.nW cp53,.slice a57 exC.m cp58] 25 (0,0)),(b28,.cells #[.slice a32 exB.nH cp33,.slice a37 exB.nW cp38,.slice a42 exB.m cp43] 25 (0,0))]:Pcs)++(X77++(X84++(X81++[])))) rfl ?_
 refine xyj (A:=([(b79,.cells #[.int .i64 (houseC exB (0) (-1)),.int .i64 (houseC exB (0) 1)] 30 (0,0)),(b30,.cells #[.slice a62 exD.nH cp63,.slice a67 exD.nW cp68,.slice a72 exD.m cp73] 25 (0,0)),(b29,.cells #[.slice a47 exC.nH cp48,.slice a52 exC.nW cp53,.slice a57 exC.m cp58] 25 (0,0)),(b28,.cells #[.slice a32 exB.nH cp33,.slice a37 exB.nW cp38,.slice a42 exB.m cp43] 25 (0,0))]:Pcs)) o78 ((xcx _).trans rfl) fun p86 a87 cp88 le89 ev_ D90=>?_
 subst ev_
 refine xyj (A:=([(b79,.cells #[.int .i64 (houseC exB (0) (-1)),.int .i64 (houseC exB (0) 1)] 30 (0,0)),(b30,.cells #[.slice a62 exD.nH cp63,.slice a67 exD.nW cp68,.slice a72 exD.m cp73] 25 (0,0)),(b29,.cells #[.slice a47 exC.nH cp48,.slice a52 exC.nW cp53,.slice a57 exC.m cp58] 25 (0,0)),(b28,.cells #[.slice a32 exB.nH cp33,.slice a37 exB.nW cp38,.slice a42 exB.m cp43] 25 (0,0))]:Pcs)) o85 (show _=3 from rfl) fun p91 a92 cp93 le94 ev_ D95=>?_
 subst ev_
 refine xdv (ms rfl rfl (decide_eq_true mostB_)) (first:=[]) (cap:=[]) rfl rfl fC27 (fun h_ H_=>c27 md _ _ H_.pe _ _ _ _ _ _ _ _ ((show Ints _ _ _ (LKc exB) from D90).mono le94) (show Ints _ _ _ [2,2,1] from D95) (by omega)) rfl ?_
 refine rt (xdj rfl (decide_eq_true mostB_) (v:=.bool (decide ((LKc exB)=[2,2,1]))) rfl) (tm':=zq1 (zq2 (zq32 (zq32 (zq32 []))))) rfl <| ro (xaq (v:=.bool (decide ((LKc exB)=[2,2,1]))) rfl) ?_
 refine xbq (ms rfl rfl (decide_eq_true lkB_)) (fun h_ H_=>xaw H_ tA30 tS30 rfl (i:=0) rfl (vs:=[.int .i64 (houseC exB (0) (-1)),.int .i64 (houseC exB (0) 1)]) rfl rfl) rfl ?_
 refine xbq (ms rfl rfl (decide_eq_true lkB_)) (fun h_ H_=>xhv tZ30 tP30 (vs:=[(0,.int .i64 3),(1,.int .i64 4)]) rfl (cells:=#[.int .i64 3,.int .i64 4]) rfl) (tm':=zq1 (zq2 (zq32 (zq32 (zq32 []))))) rfl ?_
 refine xbq (ms rfl rfl (decide_eq_true lkB_)) (fun h_ H_=>yvx gT30 (wwj 9998 _ _ _ _) rfl rfl) rfl ?_
 refine ro (xdj rfl (decide_eq_true lkB_) (v:=.bool (decide (houseC exB (0) (-1)=3∧houseC exB (0) 1=4))) rfl) <| rt (xaq (v:=.bool (decide (houseC exB (0) (-1)=3∧houseC exB (0) 1=4))) rfl) (tm':=zq1 (zq2 (zq32 (zq32 (zq32 []))))) rfl ?_
 refine xbq (ms rfl rfl (decide_eq_true ⟨houB1_,houB2_⟩)) (fun h_ H_=>xaq (v:=w80) rfl) rfl ?_
 refine xmj ([(b79,.cells #[.int .i64 (houseC exB (0) (-1)),.int .i64 (houseC exB (0) 1)] 30 (0,0)),(b30,.cells #[.slice a62 exD.nH cp63,.slice a67 exD.nW cp68,.slice a72 exD.m cp73] 25 (0,0)),(b29,.cells #[.slice a47 exC.nH cp48,.slice a52 exC.nW cp53,.slice a57 exC.m cp58] 25 (0,0)),(b28,.cells #[.slice a32 exB.nH cp33,.slice a37 exB.nW cp38,.slice a42 exB.m cp43] 25 (0,0))]:Pcs) (ms rfl rfl (decide_eq_true ⟨houB1_,houB2_⟩)) Tryd.underlying22 tS3 tZ3 (Nat.le_of_ble_eq_true rfl) (vs:=[(0,.int .i64 1)]) rfl rfl (es:=[[.int .i64 1]]) rfl rfl rfl fun v96 X97 o98=>?_
 refine xjz (List.Perm.append_left _ (List.perm_append_comm_assoc _ _ _)) ?_
 refine xcq (L':=([(b79,.cells #[.int .i64 (houseC exB (0) (-1)),.int .i64 (houseC exB (0) 1)] 30 (0,0)),(b30,.cells #[.slice a62 exD.nH cp63,.slice a67 exD.nW cp68,.slice a72 exD.m cp73] 25 (0,0)),(b29,.cells #[.slice a47 exC.nH cp48,.slice a52 exC.nW cp53,.slice a57 exC.m cp58] 25 (0,0)),(b28,.cells #[.slice a32 exB.nH cp33,.slice a37 exB.nW cp38,.slice a42 exB.m cp43] 25 (0,0))]:Pcs)++(X81++(X97++[]))) rfl ?_
 refine xyj (A:=([(b79,.cells #[.int .i64 (houseC exB (0) (-1)),.int .i64 (houseC exB (0) 1)] 30 (0,0)),(b30,.cells #[.slice a62 exD.nH cp63,.slice a67 exD.nW cp68,.slice a72 exD.m cp73] 25 (0,0)),(b29,.cells #[.slice a47 exC.nH cp48,.slice a52 exC.nW cp53,.slice a57 exC.m cp58] 25 (0,0)),(b28,.cells #[.slice a32 exB.nH cp33,.slice a37 exB.nW cp38,.slice a42 exB.m cp43] 25 (0,0))]:Pcs)) o82 ((xcx _).trans rfl) fun p99 a100 cp101 le102 ev_ D103=>?_
 subst ev_
 refine xyj (A:=([(b79,.cells #[.int .i64 (houseC exB (0) (-1)),.int .i64 (houseC exB (0) 1)] 30 (0,0)),(b30,.cells #[.slice a62 exD.nH cp63,.slice a67 exD.nW cp68,.slice a72 exD.m cp73] 25 (0,0)),(b29,.cells #[.slice a47 exC.nH cp48,.slice a52 exC.nW cp53,.slice a57 exC.m cp58] 25 (0,0)),(b28,.cells #[.slice a32 exB.nH cp33,.slice a37 exB.nW cp38,.slice a42 exB.m cp43] 25 (0,0))]:Pcs)) o98 (show _=1 from rfl) fun p104 a105 cp106 le107 ev_ D108=>?_
 subst ev_
 refine xcq (L':=[(b79,.cells #[.int .i64 (houseC exB (0) (-1)),.int .i64 (houseC exB (0) 1)] 30 (0,0)),(b30,.cells #[.slice a62 exD.nH cp63,.slice a67 exD.nW cp68,.slice a72 exD.m cp73] 25 (0,0)),(b29,.cells #[.slice a47 exC.nH cp48,.slice a52 exC.nW cp53,.slice a57 exC.m cp58] 25 (0,0)),(b28,.cells #[.slice a32 exB.nH cp33,.slice a37 exB.nW cp38,.slice a42 exB.m cp43] 25 (0,0))]) rfl ?_
 refine xdv (ms rfl rfl (decide_eq_true ⟨houB1_,houB2_⟩)) (first:=[]) (cap:=[]) rfl rfl fC27 (fun h_ H_=>c27 md _ _ H_.pe _ _ _ _ _ _ _ _ ((show Ints _ _ _ (shortC exC) from D103).mono le107) (show Ints _ _ _ [1] from D108) (by omega)) (tm':=zq1 (zq2 (zq32 (zq32 (zq32 []))))) rfl ?_
 refine ro (xdj rfl (decide_eq_true ⟨houB1_,houB2_⟩) (v:=.bool (decide ((shortC exC)=[1]))) rfl) <| ro (xaq (v:=.bool (decide ((shortC exC)=[1]))) rfl) ?_
 refine xbq (ms rfl rfl (decide_eq_true shoC_)) (fun h_ H_=>xaq (v:=.bool (wayB exC (1) (0))) rfl) (tm':=zq1 (zq2 (zq32 (zq32 (zq32 []))))) rfl ?_
 refine ro (xdj rfl (decide_eq_true shoC_) (v:=.bool (wayB exC (1) (0))) rfl) <| ro (xaq (v:=.bool (wayB exC (1) (0))) rfl) ?_
 refine xbq (ms rfl rfl wayB__) (fun h_ H_=>xaq (v:=.int .i64 (dryC exD (0))) rfl) (tm':=zq1 (zq2 (zq32 (zq32 (zq32 []))))) rfl ?_
 refine xbq (ms rfl rfl wayB__) (fun h_ H_=>xmw rfl rfl) rfl ?_
 refine ro (xdj rfl wayB__ (v:=.bool (decide (dryC exD (0)=3))) rfl) <| rt (xax (v:=.bool (decide (dryC exD (0)=3))) rfl) (tm':=_::_) rfl <| xav ?_
 refine xev Tryd.func16 rfl (vs:=[.bool (decide (dryC exD (0)=3))]) (fun h_ H_=>⟨.bool (decide (dryC exD (0)=3)),_,rfl,rfl,rfl⟩) (v:=.bool (decide (dryC exD (0)=3))) rfl ?_
 exact fun h_ H_=>K _ _ ⟨congrArg Value.bool (decide_eq_true dryD_),H_.kept⟩
end Go.Proofs.YtalfgojocdonhaaDoor
namespace Go.Proofs.YtalfgojocdonhaaDoor
open Go.X Go.X.Flow Go.Conc
set_option maxRecDepth 10000
set_option synthInstance.maxSize 2000

set_option maxHeartbeats 2000000
theorem cb46 (md:Md) (h:Heap) (p:PHeap) (hp:Per p h) (a1 a2 a3:Option Addr) (c1 c2 c3:Nat) (t:Tn) (_T:TownP p a1 t.nH a2 t.nW a3 t.m t) (hl:t.nH≤9223372036854775807∧t.nW≤9223372036854775807∧t.m≤9223372036854775807):CallsX Tryd.prog md 46 #[.agg #[.slice a1 t.nH c1,.slice a2 t.nW c2,.slice a3 t.m c3]] h fun v h'=>v= .bool (decide (Big t))∧Keep h h':=by
 refine xdq (Φ:=fun h_=>St h [] p h_ []) Tryd.func46 rfl (tm:=zq1 (zq2 (zq16 []))) rfl ?_ (St.start h _ hp)
 intro c₀ cs Stop K
 refine fsr ?_
 refine xjx mn (v:=.agg #[.slice a1 t.nH c1,.slice a2 t.nW c2,.slice a3 t.m c3]) rfl fun b1=>xcq (L':=[(b1,.cells #[.slice a1 t.nH c1,.slice a2 t.nW c2,.slice a3 t.m c3] 25 (0,0))]) rfl ?_
 refine ro (xax (v:=.bool (false)) rfl) <| ren <| xbx <| rt (xaz xlw rfl (a':=⟨b1,0,none⟩) rfl) (tm':=zq4 _) rfl <| rd (fun h_ H_=>xaj H_ tA22 rfl (i:=0) rfl (v:=.slice a1 t.nH c1) rfl) <| ro (xfk Tryd.underlying22 rfl) ?_
 refine rt (xjq rfl rfl) (tm':=zq1 (zq2 (zq4 _))) rfl <| ro (xaq (v:=.bool (decide (40<((t.nH:Nat):Int)))) rfl) ?_
 by_cases cc2:40<((t.nH:Nat):Int)
 ·
  refine rp (mo rfl rfl (dtt cc2)) <| xfj (mo rfl rfl (dtt cc2)) (tm':=zq2 (zq8 _)) rfl <| rp (mo rfl rfl (dtt cc2)) <| rp (mo rfl rfl (dtt cc2)) <| rt (xdj rfl (dtt cc2) (v:=.bool (true)) rfl) (tm':=zq1 (zq2 (zq16 []))) rfl <| ro (xaq (v:=.bool (true)) rfl) ?_
  refine rp (mo rfl rfl rfl) <| xfj (mo rfl rfl rfl) (tm':=zq1 (zq2 (zq16 []))) rfl <| rp (mo rfl rfl rfl) <| rp (mo rfl rfl rfl) <| rt (xdj rfl rfl (v:=.bool (true)) rfl) (tm':=zq1 (zq2 (zq16 []))) rfl <| ro (xax (v:=.bool (true)) rfl) ?_
  refine xav ?_
  refine xev Tryd.func46 rfl (vs:=[.bool (true)]) (fun h_ H_=>⟨.bool (true),_,rfl,rfl,rfl⟩) (v:=.bool (true)) rfl ?_
  exact fun h_ H_=>K _ _ ⟨by congr 1;rw [Bool.eq_iff_iff,decide_eq_true_eq];first | (simp;omega) | (simp [*];done) | (simp [*];omega),H_.kept⟩
 ·
  refine xbq (ms rfl rfl (dff cc2)) (fun h_ H_=>xaz xmz rfl (a':=⟨b1,1,none⟩) rfl) rfl ?_
  refine xbq (ms rfl rfl (dff cc2)) (fun h_ H_=>xaj H_ tA22 rfl (i:=0) rfl (v:=.slice a2 t.nW c2) rfl) (tm':=zq2 (zq8 _)) rfl ?_
  refine xbq (ms rfl rfl (dff cc2)) (fun h_ H_=>xfk Tryd.underlying22 rfl) rfl ?_
  refine xbq (ms rfl rfl (dff cc2)) (fun h_ H_=>xjq rfl rfl) rfl ?_
  refine rt (xck rfl (dff cc2) (v:=.bool (decide (40<((t.nW:Nat):Int)))) rfl) (tm':=zq1 (zq2 (zq16 []))) rfl <| ro (xaq (v:=.bool (decide (40<((t.nW:Nat):Int)))) rfl) ?_
  by_cases cc3:40<((t.nW:Nat):Int)
  ·
   refine rp (mo rfl rfl (dtt cc3)) <| xfj (mo rfl rfl (dtt cc3)) (tm':=zq1 (zq2 (zq16 []))) rfl <| rp (mo rfl rfl (dtt cc3)) <| rp (mo rfl rfl (dtt cc3)) <| rt (xdj rfl (dtt cc3) (v:=.bool (true)) rfl) (tm':=zq1 (zq2 (zq16 []))) rfl <| ro (xax (v:=.bool (true)) rfl) ?_
   refine xav ?_
   refine xev Tryd.func46 rfl (vs:=[.bool (true)]) (fun h_ H_=>⟨.bool (true),_,rfl,rfl,rfl⟩) (v:=.bool (true)) rfl ?_
   exact fun h_ H_=>K _ _ ⟨by congr 1;rw [Bool.eq_iff_iff,decide_eq_true_eq];first | (simp;omega) | (simp [*];done) | (simp [*];omega),H_.kept⟩
  ·
   refine xbq (ms rfl rfl (dff cc3)) (fun h_ H_=>xaz xhk rfl (a':=⟨b1,2,none⟩) rfl) rfl ?_
   refine xbq (ms rfl rfl (dff cc3)) (fun h_ H_=>xaj H_ tA23 rfl (i:=0) rfl (v:=.slice a3 t.m c3) rfl) (tm':=zq1 (zq2 (zq16 []))) rfl ?_
   refine xbq (ms rfl rfl (dff cc3)) (fun h_ H_=>xfk Tryd.underlying23 rfl) rfl ?_
   refine xbq (ms rfl rfl (dff cc3)) (fun h_ H_=>xjq rfl rfl) rfl ?_
   refine rt (xck rfl (dff cc3) (v:=.bool (decide (40<((t.m:Nat):Int)))) rfl) (tm':=zq1 (zq2 (zq16 []))) rfl <| ro (xax (v:=.bool (decide (40<((t.m:Nat):Int)))) rfl) <| xav ?_
   refine xev Tryd.func46 rfl (vs:=[.bool (decide (40<((t.m:Nat):Int)))]) (fun h_ H_=>⟨.bool (decide (40<((t.m:Nat):Int))),_,rfl,rfl,rfl⟩) (v:=.bool (decide (40<((t.m:Nat):Int)))) rfl ?_
   exact fun h_ H_=>K _ _ ⟨by congr 1;rw [Bool.eq_iff_iff,decide_eq_true_eq];first | (simp;omega) | (simp [*];done) | (simp [*];omega),H_.kept⟩
theorem c15 (md:Md) (h:Heap) (p:PHeap) (hp:Per p h) (a1 a2 a3:Option Addr) (c1 c2 c3:Nat) (t:Tn) (T:TownP p a1 t.nH a2 t.nW a3 t.m t) (hl:t.nH≤9223372036854775807∧t.nW≤9223372036854775807∧t.m≤9223372036854775807):CallsX Tryd.prog md 15 #[.agg #[.slice a1 t.nH c1,.slice a2 t.nW c2,.slice a3 t.m c3]] h fun v h'=>v= .bool (farB t)∧Keep h h':=by
 refine xdq (Φ:=fun h_=>St h [] p h_ []) Tryd.func15 rfl (tm:=zq1 (zq2 (zq8 (zq32 [])))) rfl ?_ (St.start h _ hp)
 intro c₀ cs Stop K
 refine fsr ?_
 refine xjx mn (v:=.agg #[.slice a1 t.nH c1,.slice a2 t.nW c2,.slice a3 t.m c3]) rfl fun b1=>xcq (L':=[(b1,.cells #[.slice a1 t.nH c1,.slice a2 t.nW c2,.slice a3 t.m c3] 25 (0,0))]) rfl ?_
 refine rt (xax (v:=.bool (false)) rfl) (tm':=_::_::_::_) rfl <| ren <| fsr <| rd (fun h_ H_=>xaw H_ tA25 tS25 rfl (i:=0) rfl (vs:=[.slice a1 t.nH c1,.slice a2 t.nW c2,.slice a3 t.m c3]) rfl rfl) ?_
 refine xdv mn (first:=[]) (cap:=[]) rfl rfl fC46 (fun h_ H_=>cb46 md _ _ H_.pe _ _ _ _ _ _ t (show TownP _ _ _ _ _ _ _ t from ⟨T.h,T.w,T.y⟩) hl) rfl ?_
 refine xav ?_
 by_cases cc2:Big t
 ·
  refine xdw rfl (dtt cc2) <| fsr <| rt (xax (v:=.bool (true)) rfl) (tm':=_::_::_::_) rfl <| xav ?_
  refine xev Tryd.func15 rfl (vs:=[.bool (true)]) (fun h_ H_=>⟨.bool (true),_,rfl,rfl,rfl⟩) (v:=.bool (true)) rfl ?_
  exact fun h_ H_=>K _ _ ⟨by rw [zvv ‹_›],H_.kept⟩
 ·
  refine xdx rfl (dff cc2) <| xdk <| xek <| xek ?_
  have hn:t.nH≤40∧t.nW≤40∧t.m≤41:=by have z_:=‹¬ Big t›;unfold Big at z_;omega
  refine xbx <| rd (fun h_ H_=>xaw H_ tA25 tS25 rfl (i:=0) rfl (vs:=[.slice a1 t.nH c1,.slice a2 t.nW c2,.slice a3 t.m c3]) rfl rfl) ?_
  refine xdv mn (first:=[]) (cap:=[]) rfl rfl fC48 (fun h_ H_=>c48 md _ _ H_.pe _ _ _ _ _ _ _ _ _ t (show TownP _ _ _ _ _ _ _ t from ⟨T.h,T.w,T.y⟩) (by omega)) rfl ?_
  refine rt (xkk rfl rfl) (tm':=zq2 (zq8 _)) rfl <| xav ?_
  by_cases cc3:chkB t≠0
  ·
   refine xdw rfl (dtt cc3) <| fsr <| ro (xax (v:=.bool (false)) rfl) <| xav ?_
   refine xev Tryd.func15 rfl (vs:=[.bool (false)]) (fun h_ H_=>⟨.bool (false),_,rfl,rfl,rfl⟩) (v:=.bool (false)) rfl ?_
   exact fun h_ H_=>K _ _ ⟨by rw [wsz ‹_› ‹_›],H_.kept⟩
  ·
   refine xdx rfl (dff cc3) <| xdk <| xek ?_
   have hc_:chkB t=0:=by omega
   have hO:OkT t:=xuq hc_
   have oM_:=hO.nm
   refine xbx <| ro (xax (v:=.int .i64 1) rfl) <| ren <| fsr <| rt (xax (v:=.int .i64 0) rfl) (tm':=zq1 (zq4 _)) rfl <| xav ?_
   refine xez ?_
   refine xiv (m₀:=t.m-0) (fun m_ tm_ h_=>∃ (k:Nat) (s:Int),m_=t.m-k∧(∃ y4:Nat→Value,tm_=[.agg #[.slice a1 t.nH c1,.slice a2 t.nW c2,.slice a3 t.m c3],.pointer (some ⟨b1,0,none⟩),(y4 2),.int .i64 (s),.int .i64 (((k:Nat):Int)),.agg #[.slice a1 t.nH c1,.slice a2 t.nW c2,.slice a3 t.m c3],.bool (decide (Big t)),.agg #[.slice a1 t.nH c1,.slice a2 t.nW c2,.slice a3 t.m c3],.int .i64 (chkB t),.bool (decide (chkB t≠0)),(y4 10),(y4 11),(y4 12),(y4 13),(y4 14),(y4 15),(y4 16),(y4 17),(y4 18),(y4 19),(y4 20),(y4 21),(y4 22),(y4 23),(y4 24),(y4 25),(y4 26),(y4 27),(y4 28),(y4 29),(y4 30),(y4 31),(y4 32),(y4 33),(y4 34),(y4 35),(y4 36),(y4 37),(y4 38),(y4 39),(y4 40),(y4 41),(y4 42)])∧(k≤t.m)∧(s=prodK t k)∧(s≤2000)∧St h [] p h_ ([(b1,.cells #[.slice a1 t.nH c1,.slice a2 t.nW c2,.slice a3 t.m c3] 25 (0,0))])) (fun h_ H_=>⟨0,1,rfl,(y_of rfl),Nat.zero_le _,rfl,(by decide),H_⟩) ?_
   intro m_ tm_ IH5
   refine xhj fun k=>xhj fun s=>xcw fun hm_=>xcw fun ht_=>xcw fun hk=>xcw fun hs=>xcw fun h2=>?_
   subst hm_;obtain ⟨y4,ht_⟩:=ht_;subst ht_
   have hy_:=fun z_:k<t.m=>hO.y k z_
   have hp_:1≤s:=by rw [hs];exact ysk hO.toOk k hk
   refine xek <| fsr <| ro (xaq (v:=.int .i64 (((k:Nat):Int))) rfl) <| ro (xaz xhk rfl (a':=⟨b1,2,none⟩) rfl) ?_
   refine xbq mn (fun h_ H_=>xaj H_ tA23 rfl (i:=0) rfl (v:=.slice a3 t.m c3) rfl) (tm':=zq1 (zq4 (zq8 _))) rfl ?_
   refine ro (xfk Tryd.underlying23 rfl) <| ro (xgk rfl rfl) <| xav ?_
   by_cases cc6:((k:Nat):Int)<((t.m:Nat):Int)
   ·
    refine xdw rfl (dtt cc6) <| xdk <| xek <| xez <| xek ?_
    refine xgj 23 [[],[],[1],[],[3],[],[3,4,5],[3,4,5,6],[3,4,5,6,7],[1,2,3,4,5,6,7,8],[1,2,3,4,5,6,7,8,9],[],[11],[],[13],[],[13,14,15],[13,14,15,16],[13,14,15,16,17],[11,12,13,14,15,16,17,18],[11,12,13,14,15,16,17,18,19],[1,2,3,4,5,6,7,8,9,10,11,12,13,14,15,16,17,18,19,20],[1,2,3,4,5,6,7,8,9,10,11,12,13,14,15,16,17,18,19,20,21],[],[]] xkv (by kernel_rfl) (Nat.le_of_ble_eq_true rfl) ?_
    refine wt (xaq (v:=.int .i64 (s)) rfl) (tm':=zq2 (zq16 _)) rfl <| wo (xaz xlw rfl (a':=⟨b1,0,none⟩) rfl) ?_
    refine xbz mn (fun h_ H_=>xaj H_ tA22 rfl (i:=0) rfl (v:=.slice a1 t.nH c1) rfl) (tm':=zq4 (zq16 _)) rfl ?_
    refine wo (xaz xhk rfl (a':=⟨b1,2,none⟩) rfl) ?_
    refine xbz mn (fun h_ H_=>xaj H_ tA23 rfl (i:=0) rfl (v:=.slice a3 t.m c3) rfl) (tm':=zq2 (zq4 (zq16 _))) rfl ?_
    refine wo (xaq (v:=.int .i64 (((k:Nat):Int))) rfl) ?_
    refine wt (xbw (i:=k) Tryd.underlying23 tS43 (xkj a3 t.m c3 (T.y.ne (by omega))) rfl (by omega)) (tm':=zq8 (zq16 _)) rfl ?_
    refine wo (xaz xoj rfl (a':=(adr a3).add (k*2)) rfl) ?_
    refine xbz mn (fun h_ H_=>xbv H_ tA3 rfl (v:=.int .i64 (((t.wh k:Nat):Int))) (T.y.hoN (by omega) (hO.yp _ (by omega)).1)) (tm':=zq2 (zq8 (zq16 _))) rfl ?_
    refine wo (xbw (i:=(t.wh k)) Tryd.underlying22 tS3 (xkj a1 t.nH c1 (T.h.ne (by omega))) rfl (by omega)) ?_
    refine xbz mn (fun h_ H_=>xbv H_ tA3 rfl (v:=.int .i64 (t.hv (t.wh k))) (T.h.get (by omega))) (tm':=zq4 (zq8 (zq16 _))) rfl ?_
    refine wo (xaz xmz rfl (a':=⟨b1,1,none⟩) rfl) ?_
    refine xbz mn (fun h_ H_=>xaj H_ tA22 rfl (i:=0) rfl (v:=.slice a2 t.nW c2) rfl) (tm':=zq1 (zq2 (zq8 (zq32 [])))) rfl ?_
    refine wo (xaz xhk rfl (a':=⟨b1,2,none⟩) rfl) ?_
    refine xbz mn (fun h_ H_=>xaj H_ tA23 rfl (i:=0) rfl (v:=.slice a3 t.m c3) rfl) (tm':=zq1 (zq2 (zq8 (zq32 [])))) rfl ?_
    refine wo (xaq (v:=.int .i64 (((k:Nat):Int))) rfl) ?_
    refine wt (xbw (i:=k) Tryd.underlying23 tS43 (xkj a3 t.m c3 (T.y.ne (by omega))) rfl (by omega)) (tm':=zq1 (zq2 (zq8 (zq32 [])))) rfl ?_
    refine wo (xaz xpx rfl (a':=((adr a3).add (k*2)).add 1) rfl) ?_
    refine xbz mn (fun h_ H_=>xbv H_ tA3 rfl (v:=.int .i64 (((t.ww k:Nat):Int))) (T.y.weN (by omega) (hO.yp _ (by omega)).2)) (tm':=zq1 (zq2 (zq8 (zq32 [])))) rfl ?_
    refine wo (xbw (i:=(t.ww k)) Tryd.underlying22 tS3 (xkj a2 t.nW c2 (T.w.ne (by omega))) rfl (by omega)) ?_
    refine xbz mn (fun h_ H_=>xbv H_ tA3 rfl (v:=.int .i64 (t.wv (t.ww k))) (T.w.get (by omega))) (tm':=zq1 (zq2 (zq8 (zq32 [])))) rfl ?_
    refine wo (yuk rfl rfl) ?_
    refine wt (xfq rfl rfl (wr (by have z1_:=hy_ (by omega);have z2_:=hO.h _ z1_.1;have z3_:=hO.w _ z1_.2;omega))) (tm':=zq1 (zq2 (zq8 (zq32 [])))) rfl ?_
    refine xiw rfl ?_
    refine ro (yuj rfl rfl (wr (by have z1_:=hy_ (by omega);have z2_:=hO.h _ z1_.1;have z3_:=hO.w _ z1_.2;have z4_:0≤min (t.hv (t.wh k)) (t.wv (t.ww k))+1∧min (t.hv (t.wh k)) (t.wv (t.ww k))+1≤10:=(by omega);have z5_:=Int.mul_le_mul (show s≤2000 by omega) z4_.2 z4_.1 (by decide);have z6_:=Int.mul_nonneg (show 0≤s by omega) z4_.1;omega))) ?_
    refine rt (xax (v:=.int .i64 (s*((min (t.hv (t.wh k)) (t.wv (t.ww k)))+1))) rfl) (tm':=zq4 _) rfl <| ren <| xbx <| ro (xaq (v:=.int .i64 (s*((min (t.hv (t.wh k)) (t.wv (t.ww k)))+1))) rfl) <| ro (xjq rfl rfl) <| xav ?_
    by_cases cc7:2000<s*((min (t.hv (t.wh k)) (t.wv (t.ww k)))+1)
    ·
     refine xdw rfl (dtt cc7) <| fsr <| rt (xax (v:=.bool (true)) rfl) (tm':=_::_::_::_) rfl <| xav ?_
     refine xev Tryd.func15 rfl (vs:=[.bool (true)]) (fun h_ H_=>⟨.bool (true),_,rfl,rfl,rfl⟩) (v:=.bool (true)) rfl ?_
     exact fun h_ H_=>K _ _ ⟨by rw [wsx hO.toOk hc_ (k:=k+1) (by omega) (by rw [prodK,← hs];unfold fac;assumption)],H_.kept⟩
    ·
     refine xdx rfl (dff cc7) <| xdk <| xeq <| xbx <| ro (xaq (v:=.int .i64 (((k:Nat):Int))) rfl) ?_
     refine ro (xfq rfl rfl (n:=((k+1:Nat):Int)) (wr (by omega))) ?_
     refine rt (xax (v:=.int .i64 (((k+1:Nat):Int))) rfl) (tm':=zq1 (zq4 _)) rfl <| xav ?_
     exact fun h_ H_=>IH5 _ _ (by omega) h_ ⟨k+1,s*((min (t.hv (t.wh k)) (t.wv (t.ww k)))+1),rfl,(y_of rfl),(by omega),(by rw [hs,prodK];rfl),(by omega),H_⟩
   ·
    refine xdx rfl (dff cc6) <| xiz rfl <| fsr <| ro (xax (v:=.bool (false)) rfl) <| xav ?_
    refine xev Tryd.func15 rfl (vs:=[.bool (false)]) (fun h_ H_=>⟨.bool (false),_,rfl,rfl,rfl⟩) (v:=.bool (false)) rfl ?_
    have e_:k=t.m:=by omega
    have z_: ¬ 2000<prodK t t.m:=by rw [← e_,← hs];omega
    exact fun h_ H_=>K _ _ ⟨by rw [wkx ‹_› z_],H_.kept⟩
theorem c23 (md:Md) (h:Heap) (p:PHeap) (hp:Per p h) (a1 a2 a3:Option Addr) (c1 c2 c3:Nat) (t:Tn) (T:TownP p a1 t.nH a2 t.nW a3 t.m t) (hl:t.nH≤9223372036854775807∧t.nW≤9223372036854775807∧t.m≤9223372036854775807):CallsX Tryd.prog md 23 #[.agg #[.slice a1 t.nH c1,.slice a2 t.nW c2,.slice a3 t.m c3]] h fun v h'=>v= .bool (readyB t)∧Keep h h':=by
 refine xdq (Φ:=fun h_=>St h [] p h_ []) Tryd.func23 rfl (tm:=zq1 (zq2 (zq8 []))) rfl ?_ (St.start h _ hp)
 intro c₀ cs Stop K
 refine fsr ?_
 refine xjx mn (v:=.agg #[.slice a1 t.nH c1,.slice a2 t.nW c2,.slice a3 t.m c3]) rfl fun b1=>xcq (L':=[(b1,.cells #[.slice a1 t.nH c1,.slice a2 t.nW c2,.slice a3 t.m c3] 25 (0,0))]) rfl ?_
 refine rt (xax (v:=.bool (false)) rfl) (tm':=_::_::_::_) rfl <| ren <| xbx <| rd (fun h_ H_=>xaw H_ tA25 tS25 rfl (i:=0) rfl (vs:=[.slice a1 t.nH c1,.slice a2 t.nW c2,.slice a3 t.m c3]) rfl rfl) ?_
 refine xdv mn (first:=[]) (cap:=[]) rfl rfl fC15 (fun h_ H_=>c15 md _ _ H_.pe _ _ _ _ _ _ t (show TownP _ _ _ _ _ _ _ t from ⟨T.h,T.w,T.y⟩) hl) rfl ?_
 refine rt (xgw rfl) (tm':=zq2 (zq4 _)) rfl <| ro (xaq (v:=.bool (!(farB t))) rfl) ?_
 rcases xzj (farB t) with cc2 | cc2
 ·
  refine rp (mo rfl rfl (xej cc2)) <| xfj (mo rfl rfl (xej cc2)) (tm':=zq1 (zq2 (zq8 []))) rfl <| rp (mo rfl rfl (xej cc2)) <| ro (xck rfl (xej cc2) (v:=.bool (false)) rfl) <| rt (xax (v:=.bool (false)) rfl) (tm':=_::_::_::_) rfl <| xav ?_
  refine xev Tryd.func23 rfl (vs:=[.bool (false)]) (fun h_ H_=>⟨.bool (false),_,rfl,rfl,rfl⟩) (v:=.bool (false)) rfl ?_
  exact fun h_ H_=>K _ _ ⟨by unfold readyB;simp [*],H_.kept⟩
 ·
  have hn:t.nH≤40∧t.nW≤40∧t.m≤41:=by have z_:=ymx cc2;unfold Big at z_;omega
  refine xbq (ms rfl rfl (xhw cc2)) (fun h_ H_=>xaw H_ tA25 tS25 rfl (i:=0) rfl (vs:=[.slice a1 t.nH c1,.slice a2 t.nW c2,.slice a3 t.m c3]) rfl rfl) rfl ?_
  refine xdv (ms rfl rfl (xhw cc2)) (first:=[]) (cap:=[]) rfl rfl fC48 (fun h_ H_=>c48 md _ _ H_.pe _ _ _ _ _ _ _ _ _ t (show TownP _ _ _ _ _ _ _ t from ⟨T.h,T.w,T.y⟩) (by omega)) rfl ?_
  refine xbq (ms rfl rfl (xhw cc2)) (fun h_ H_=>xmw rfl rfl) (tm':=zq1 (zq2 (zq8 []))) rfl ?_
  refine ro (xdj rfl (xhw cc2) (v:=.bool (decide (chkB t=0))) rfl) <| ro (xax (v:=.bool (decide (chkB t=0))) rfl) <| xav ?_
  refine xev Tryd.func23 rfl (vs:=[.bool (decide (chkB t=0))]) (fun h_ H_=>⟨.bool (decide (chkB t=0)),_,rfl,rfl,rfl⟩) (v:=.bool (decide (chkB t=0))) rfl ?_
  exact fun h_ H_=>K _ _ ⟨by unfold readyB;simp [*],H_.kept⟩
theorem wqv (md:Md) {h:Heap} {p:PHeap} (hp:Per p h) {a1 a2 a3:Option Addr} {c1 c2 c3:Nat} {t:Tn} (T:TownP p a1 t.nH a2 t.nW a3 t.m t) (hn:t.nH≤40∧t.nW≤40∧t.m≤41) (N:NoneP p) (hc:chkB t=0):
  CallsX Tryd.prog md 43 #[.agg #[.slice a1 t.nH c1,.slice a2 t.nW c2,.slice a3 t.m c3]] h fun v h'=>∃ w X,v= .tuple #[w,.int .i64 0]∧OwnS 3 1 w (ics (LK t)) X∧New h h' X:=
 (c43 md h p hp _ _ _ _ _ _ t T hn N).mono fun v h' ⟨w,X,e,o,k⟩=>⟨w,X,by rw [e,hc],o.as (congrArg ics (zpv hc)),k⟩
theorem wrx (md:Md) {h:Heap} {p:PHeap} (hp:Per p h) {a1 a2 a3:Option Addr} {c1 c2 c3:Nat} {t:Tn} (T:TownP p a1 t.nH a2 t.nW a3 t.m t) (hn:t.nH≤40∧t.nW≤40∧t.m≤41) (N:NoneP p) (hc:chkB t=0):
  CallsX Tryd.prog md 53 #[.agg #[.slice a1 t.nH c1,.slice a2 t.nW c2,.slice a3 t.m c3]] h fun v h'=>∃ w X,v= .tuple #[w,.int .i64 0]∧OwnS 3 1 w (ics (helpsF t t.nW)) X∧New h h' X:=
 (c53 md h p hp _ _ _ _ _ _ t T hn N).mono fun v h' ⟨w,X,e,o,k⟩=>⟨w,X,by rw [e,hc],o.as (congrArg ics (if_pos hc)),k⟩
theorem yfk (md:Md) {h:Heap} {p:PHeap} (hp:Per p h) {a1 a2 a3:Option Addr} {c1 c2 c3:Nat} {t:Tn} (T:TownP p a1 t.nH a2 t.nW a3 t.m t) (hn:t.nH≤40∧t.nW≤40∧t.m≤41) (N:NoneP p) (hc:chkB t=0):
  CallsX Tryd.prog md 28 #[.agg #[.slice a1 t.nH c1,.slice a2 t.nW c2,.slice a3 t.m c3]] h fun v h'=>v= .tuple #[.int .i64 (mostV t),.int .i64 0]∧Keep h h':=
 (c28 md h p hp _ _ _ _ _ _ t T hn N).mono fun v h' ⟨e,k⟩=>⟨by rw [e,mostC,if_pos hc,hc],k⟩
theorem zvz (md:Md) {h:Heap} {p:PHeap} (hp:Per p h) {a1 a2 a3:Option Addr} {c1 c2 c3:Nat} {t:Tn} (T:TownP p a1 t.nH a2 t.nW a3 t.m t) (hn:t.nH≤40∧t.nW≤40∧t.m≤41) (N:NoneP p) (hc:chkB t=0) {z:Int} (hz:0≤z∧z≤(t.nH:Int)-1):
  CallsX Tryd.prog md 18 #[.agg #[.slice a1 t.nH c1,.slice a2 t.nW c2,.slice a3 t.m c3],.int .i64 z] h fun v h'=>v= .tuple #[.agg #[.int .i64 (drawV t z (-1)),.int .i64 (drawV t z 1)],.int .i64 0]∧Keep h h':=
 have ha:askB t (decide (0≤z∧z≤(t.nH:Int)-1))=0:=by rw [askB,if_pos hc,decide_eq_true hz];rfl
 (c18 md h p hp _ _ _ _ _ _ t T hn z N).mono fun v h' ⟨e,k⟩=>⟨by rw [e,xwz ha,xwz ha,ha],k⟩
theorem c24 (md:Md) (h:Heap) (p:PHeap) (hp:Per p h) (a1 a2 a3:Option Addr) (c1 c2 c3:Nat) (t:Tn) (T:TownP p a1 t.nH a2 t.nW a3 t.m t) (hn:t.nH≤40∧t.nW≤40∧t.m≤41) (N:NoneP p) (hc:chkB t=0):CallsX Tryd.prog md 24 #[.agg #[.slice a1 t.nH c1,.slice a2 t.nW c2,.slice a3 t.m c3]] h fun v h'=>∃ w X,v= .tuple #[w,.bool true]∧OwnS 3 1 w (ics (LK t)) X∧New h h' X:=by
 refine xdq (Φ:=fun h_=>St h [] p h_ []) Tryd.func24 rfl (tm:=zq1 (zq2 (zq16 (zq32 [])))) rfl ?_ (St.start h _ hp)
 intro c₀ cs Stop K
 have hO:OkT t:=xuq hc
 have hLl:=xpj t
 refine fsr ?_
 refine xjx mn (v:=.agg #[.slice a1 t.nH c1,.slice a2 t.nW c2,.slice a3 t.m c3]) rfl fun b1=>xcq (L':=[(b1,.cells #[.slice a1 t.nH c1,.slice a2 t.nW c2,.slice a3 t.m c3] 25 (0,0))]) rfl ?_
 refine xgq (tm':=_::_::_) rfl ?_
 refine ro (xax (v:=.slice none 0 0) rfl) <| ro (xax (v:=.bool (false)) rfl) <| ren <| xbx ?_
 refine xbq mn (fun h_ H_=>xaw H_ tA25 tS25 rfl (i:=0) rfl (vs:=[.slice a1 t.nH c1,.slice a2 t.nW c2,.slice a3 t.m c3]) rfl rfl) (tm':=zq1 (zq8 _)) rfl ?_
 refine xcq (L':=([(b1,.cells #[.slice a1 t.nH c1,.slice a2 t.nW c2,.slice a3 t.m c3] 25 (0,0))]:Pcs)++[]) rfl ?_
 refine xjj mn (first:=[]) (cap:=[]) rfl rfl fC43 (R:=fun v_ h_=>∃ w2:Value,∃ X3:Pcs,v_= .tuple #[w2,.int .i64 0]∧(OwnS 3 1 w2 (ics (LK t)) X3)∧St h [] p h_ (([(b1,.cells #[.slice a1 t.nH c1,.slice a2 t.nW c2,.slice a3 t.m c3] 25 (0,0))]:Pcs)++(X3++[]))) (fun h_ H_=>(wqv md H_.pe (show TownP _ _ _ _ _ _ _ t from ⟨T.h,T.w,T.y⟩) (by omega) N hc).mono fun v_ h2_ ⟨w2,X3,e_,o4,N_⟩=>⟨w2,X3,e_,o4,H_.callNA N_⟩) fun v_=>?_
 refine xgz fun w2=>xgz fun X3=>xfx fun ev_=>xfx fun o4=>?_
 have ev_:=ev_.symm;subst ev_
 refine xcq (L':=([(b1,.cells #[.slice a1 t.nH c1,.slice a2 t.nW c2,.slice a3 t.m c3] 25 (0,0))]:Pcs)++(X3++[])) rfl ?_
 refine ro (xaq (v:=.tuple #[w2,.int .i64 0]) rfl) <| rt (xdz rfl (v:=w2) rfl) (tm':=zq1 (zq2 (zq8 _))) rfl <| ro (xdz rfl (v:=.int .i64 0) rfl) <| ro (xax (v:=w2) rfl) <| rt (xax (v:=.int .i64 0) rfl) (tm':=zq2 (zq4 _)) rfl <| ren ?_
 refine fsr <| ro (xaq (v:=.int .i64 0) rfl) <| ro (xkk rfl rfl) <| rt (xaq (v:=.bool (decide ((0:Int)≠0))) rfl) (tm':=zq1 (zq2 (zq4 (zq8 _)))) rfl ?_
 refine xbq (ms rfl rfl (decide_eq_false (fun z_=>z_ rfl))) (fun h_ H_=>xaq (v:=w2) rfl) rfl ?_
 refine xbq (ms rfl rfl (decide_eq_false (fun z_=>z_ rfl))) (fun h_ H_=>xwq o4 ((xcx _).trans (xpj _)) Tryd.underlying22 rfl) rfl ?_
 refine xbq (ms rfl rfl (decide_eq_false (fun z_=>z_ rfl))) (fun h_ H_=>xaz xlw rfl (a':=⟨b1,0,none⟩) rfl) (tm':=zq2 (zq16 _)) rfl ?_
 refine xbq (ms rfl rfl (decide_eq_false (fun z_=>z_ rfl))) (fun h_ H_=>xaj H_ tA22 rfl (i:=0) rfl (v:=.slice a1 t.nH c1) rfl) rfl ?_
 refine xbq (ms rfl rfl (decide_eq_false (fun z_=>z_ rfl))) (fun h_ H_=>xfk Tryd.underlying22 rfl) rfl ?_
 refine xbq (ms rfl rfl (decide_eq_false (fun z_=>z_ rfl))) (fun h_ H_=>xkk rfl rfl) (tm':=zq1 (zq4 (zq16 _))) rfl ?_
 refine ro (xck rfl (decide_eq_false (fun z_=>z_ rfl)) (v:=.bool (decide (((t.nH:Nat):Int)≠((t.nH:Nat):Int)))) rfl) <| xav <| xdx rfl (decide_eq_false (fun z_=>z_ rfl)) <| xdk <| xek <| fsr ?_
 refine ro (xax (v:=.int .i64 0) rfl) <| xav <| xez ?_
 refine xiv (m₀:=t.nH-0) (fun m_ tm_ h_=>∃ (k:Nat),m_=t.nH-k∧(∃ y5:Nat→Value,tm_=[.agg #[.slice a1 t.nH c1,.slice a2 t.nW c2,.slice a3 t.m c3],.pointer (some ⟨b1,0,none⟩),(y5 2),(y5 3),w2,.int .i64 0,.int .i64 (((k:Nat):Int)),.tuple #[w2,.int .i64 0],.agg #[.slice a1 t.nH c1,.slice a2 t.nW c2,.slice a3 t.m c3],.tuple #[w2,.int .i64 0],w2,.int .i64 0,.int .i64 0,.bool (decide ((0:Int)≠0)),.bool (decide ((0:Int)≠0)),w2,.int .i64 (((t.nH:Nat):Int)),.pointer (some ⟨b1,0,none⟩),.slice a1 t.nH c1,.int .i64 (((t.nH:Nat):Int)),.bool (decide (((t.nH:Nat):Int)≠((t.nH:Nat):Int))),.bool (decide (((t.nH:Nat):Int)≠((t.nH:Nat):Int))),(y5 22),(y5 23),(y5 24),(y5 25),(y5 26),(y5 27),(y5 28),(y5 29),(y5 30),(y5 31),(y5 32),(y5 33),(y5 34),(y5 35),(y5 36),(y5 37),(y5 38),(y5 39),(y5 40),(y5 41),(y5 42),(y5 43),(y5 44),(y5 45),(y5 46),(y5 47),(y5 48),(y5 49),undef])∧(k≤t.nH)∧St h [] p h_ (([(b1,.cells #[.slice a1 t.nH c1,.slice a2 t.nW c2,.slice a3 t.m c3] 25 (0,0))]:Pcs)++(X3++[]))) (fun h_ H_=>⟨0,rfl,(y_of rfl),Nat.zero_le _,H_⟩) ?_
 intro m_ tm_ IH6
 refine xhj fun k=>xcw fun hm_=>xcw fun ht_=>xcw fun hk=>?_
 subst hm_;obtain ⟨y5,ht_⟩:=ht_;subst ht_
 refine xek <| fsr <| rt (xaq (v:=.int .i64 (((k:Nat):Int))) rfl) (tm':=zq1 (zq2 (zq4 (zq16 _)))) rfl <| ro (xaq (v:=w2) rfl) <| ro (xwq o4 ((xcx _).trans (xpj _)) Tryd.underlying22 rfl) <| rt (xgk rfl rfl) (tm':=zq2 (zq8 (zq16 _))) rfl ?_
 refine xav ?_
 by_cases cc7:((k:Nat):Int)<((t.nH:Nat):Int)
 ·
  refine xdw rfl (dtt cc7) <| xdk <| xek <| xez <| xek ?_
  by_cases cc8:0<((k:Nat):Int)
  ·
   refine xgj 19 [[],[],[0,1],[0,1,2],[0,1,2,3],[0,1,2,3],[0,1,2,3,4,5],[0,1,2,3,4,5],[0,1,2,3,4,5,7],[0,1,2,3,4,5,6,7,8],[],[],[10,11],[10,11,12],[],[0,1,2,3,4,5,6,7,8],[0,1,2,3,4,5,6,7,8,15],[0,1,2,3,4,5,6,7,8,14,15,16],[0,1,2,3,4,5,6,7,8,14,15,16,17],[0,1,2,3,4,5,7,8,10,11,12,13,14,15,16,17,18],[0,1,2,3,4,5,7,8,9,10,11,12,13,14,15,16,17,18,19],[]] xkv (by kernel_rfl) (Nat.le_of_ble_eq_true rfl) ?_
   refine wo (xaq (v:=w2) rfl) <| wt (xaq (v:=.int .i64 (((k:Nat):Int))) rfl) (tm':=zq2 (zq4 (zq8 (zq16 _)))) rfl ?_
   refine wo (xhz o4 Tryd.underlying22 tS3 rfl rfl (by rw [((xcx _).trans (xpj _))];first | omega | (simp only [List.length_set];omega))) ?_
   refine xbz mn (fun h_ H_=>xmv (A:=([(b1,.cells #[.slice a1 t.nH c1,.slice a2 t.nW c2,.slice a3 t.m c3] 25 (0,0))]:Pcs)) (i:=k) (j:=0) (e:=[.int .i64 ((LK t).getD k 0)]) o4 H_ tA3 rfl rfl (xpz (by first | omega | (rw [leftK_length];omega) | (simp only [List.length_set];omega))) (u:=.int .i64 ((LK t).getD k 0)) rfl) (tm':=zq32 _) rfl ?_
   refine xkq mn (first:=[]) (cap:=[]) rfl rfl fC61 (fun h_ H_=>(c61 md _ ((LK t).getD k 0) (0) (9)).mono fun v_ h2_ ⟨e_,k_⟩=>⟨e_,H_.call k_⟩) rfl ?_
   refine wt (xgw rfl) (tm':=zq2 (zq32 _)) rfl <| wo (xaq (v:=.bool (!(decide (0≤(LK t).getD k 0∧(LK t).getD k 0≤9)))) rfl) ?_
   refine xbz (ms rfl rfl (xej (decide_eq_true (yvw hO.toOk (by omega))))) (fun h_ H_=>xaq (v:=.int .i64 (((k:Nat):Int))) rfl) (tm':=zq1 (zq2 (zq16 (zq32 [])))) rfl ?_
   refine xbz (ms rfl rfl (xej (decide_eq_true (yvw hO.toOk (by omega))))) (fun h_ H_=>xjq rfl rfl) rfl ?_
   refine xbz (ms rfl rfl (xej (decide_eq_true (yvw hO.toOk (by omega))))) (fun h_ H_=>xaq (v:=.bool (decide (0<((k:Nat):Int)))) rfl) (tm':=zq1 (zq2 (zq16 (zq32 [])))) rfl ?_
   refine xbz (ms rfl rfl (dtt cc8)) (fun h_ H_=>xaq (v:=w2) rfl) rfl ?_
   refine xbz (ms rfl rfl (dtt cc8)) (fun h_ H_=>xaq (v:=.int .i64 (((k:Nat):Int))) rfl) (tm':=zq1 (zq2 (zq16 (zq32 [])))) rfl ?_
   refine xbz (ms rfl rfl (dtt cc8)) (fun h_ H_=>xhz o4 Tryd.underlying22 tS3 rfl rfl (by rw [((xcx _).trans (xpj _))];first | omega | (simp only [List.length_set];omega))) rfl ?_
   refine xbz (ms rfl rfl (dtt cc8)) (fun h_ H_=>xmv (A:=([(b1,.cells #[.slice a1 t.nH c1,.slice a2 t.nW c2,.slice a3 t.m c3] 25 (0,0))]:Pcs)) (i:=k) (j:=0) (e:=[.int .i64 ((LK t).getD k 0)]) o4 H_ tA3 rfl rfl (xpz (by first | omega | (rw [leftK_length];omega) | (simp only [List.length_set];omega))) (u:=.int .i64 ((LK t).getD k 0)) rfl) (tm':=zq1 (zq2 (zq16 (zq32 [])))) rfl ?_
   refine xbz (ms rfl rfl (dtt cc8)) (fun h_ H_=>xaq (v:=w2) rfl) rfl ?_
   refine xbz (ms rfl rfl (dtt cc8)) (fun h_ H_=>xaq (v:=.int .i64 (((k:Nat):Int))) rfl) (tm':=zq1 (zq2 (zq16 (zq32 [])))) rfl ?_
   refine xbz (ms rfl rfl (dtt cc8)) (fun h_ H_=>xlj rfl rfl (n:=((k-1:Nat):Int)) (by rw [show ((k:Nat):Int)-1=((k-1:Nat):Int) from by omega];exact wr (by omega))) rfl ?_
   refine xbz (ms rfl rfl (dtt cc8)) (fun h_ H_=>xhz o4 Tryd.underlying22 tS3 rfl rfl (by rw [((xcx _).trans (xpj _))];first | omega | (simp only [List.length_set];omega))) (tm':=zq1 (zq2 (zq16 (zq32 [])))) rfl ?_
   refine xbz (ms rfl rfl (dtt cc8)) (fun h_ H_=>xmv (A:=([(b1,.cells #[.slice a1 t.nH c1,.slice a2 t.nW c2,.slice a3 t.m c3] 25 (0,0))]:Pcs)) (i:=k-1) (j:=0) (e:=[.int .i64 ((LK t).getD (k-1) 0)]) o4 H_ tA3 rfl rfl (xpz (by first | omega | (rw [leftK_length];omega) | (simp only [List.length_set];omega))) (u:=.int .i64 ((LK t).getD (k-1) 0)) rfl) rfl ?_
   refine xiw rfl ?_
   refine xbq (ms rfl rfl (dtt cc8)) (fun h_ H_=>xjq rfl rfl) (tm':=zq1 (zq2 (zq16 (zq32 [])))) rfl ?_
   refine xbq (ms rfl rfl (xej (decide_eq_true (yvw hO.toOk (by omega))))) (fun h_ H_=>xdj rfl (dtt cc8) (v:=.bool (decide ((LK t).getD (k-1) 0<(LK t).getD k 0))) rfl) rfl ?_
   refine ro (xck rfl (xej (decide_eq_true (yvw hO.toOk (by omega)))) (v:=.bool (decide ((LK t).getD (k-1) 0<(LK t).getD k 0))) rfl) ?_
   refine xav ?_
   refine xdx rfl (decide_eq_false (by have z_:=vdj (t:=t) (i:=k) (by omega) (by omega);omega)) ?_
   refine xdk <| xeq <| xbx <| rt (xaq (v:=.int .i64 (((k:Nat):Int))) rfl) (tm':=zq1 (zq2 (zq8 (zq16 _)))) rfl ?_
   refine ro (xfq rfl rfl (n:=((k+1:Nat):Int)) (wr (by omega))) ?_
   refine ro (xax (v:=.int .i64 (((k+1:Nat):Int))) rfl) <| xav ?_
   exact fun h_ H_=>IH6 _ _ (by omega) h_ ⟨k+1,rfl,(y_of rfl),(by omega),H_⟩
  ·
   refine xgj 19 [[],[],[0,1],[0,1,2],[0,1,2,3],[0,1,2,3],[0,1,2,3,4,5],[0,1,2,3,4,5],[0,1,2,3,4,5,7],[0,1,2,3,4,5,6,7,8],[],[],[10,11],[10,11,12],[],[0,1,2,3,4,5,6,7,8],[0,1,2,3,4,5,6,7,8,15],[0,1,2,3,4,5,6,7,8,14,15,16],[0,1,2,3,4,5,6,7,8,14,15,16,17],[0,1,2,3,4,5,7,8,10,11,12,13,14,15,16,17,18],[0,1,2,3,4,5,7,8,9,10,11,12,13,14,15,16,17,18,19],[]] xkv (by kernel_rfl) (Nat.le_of_ble_eq_true rfl) ?_
   refine wt (xaq (v:=w2) rfl) (tm':=zq1 (zq4 (zq8 (zq16 _)))) rfl <| wo (xaq (v:=.int .i64 (((k:Nat):Int))) rfl) ?_
   refine wt (xhz o4 Tryd.underlying22 tS3 rfl rfl (by rw [((xcx _).trans (xpj _))];first | omega | (simp only [List.length_set];omega))) (tm':=zq1 (zq2 (zq4 (zq8 (zq16 _))))) rfl ?_
   refine wd (fun h_ H_=>xmv (A:=([(b1,.cells #[.slice a1 t.nH c1,.slice a2 t.nW c2,.slice a3 t.m c3] 25 (0,0))]:Pcs)) (i:=k) (j:=0) (e:=[.int .i64 ((LK t).getD k 0)]) o4 H_ tA3 rfl rfl (xpz (by first | omega | (rw [leftK_length];omega) | (simp only [List.length_set];omega))) (u:=.int .i64 ((LK t).getD k 0)) rfl) ?_
   refine xkq mn (first:=[]) (cap:=[]) rfl rfl fC61 (fun h_ H_=>(c61 md _ ((LK t).getD k 0) (0) (9)).mono fun v_ h2_ ⟨e_,k_⟩=>⟨e_,H_.call k_⟩) (tm':=zq1 (zq32 _)) rfl ?_
   refine wo (xgw rfl) <| wt (xaq (v:=.bool (!(decide (0≤(LK t).getD k 0∧(LK t).getD k 0≤9)))) rfl) (tm':=zq1 (zq2 (zq16 (zq32 [])))) rfl ?_
   refine xbz (ms rfl rfl (xej (decide_eq_true (yvw hO.toOk (by omega))))) (fun h_ H_=>xaq (v:=.int .i64 (((k:Nat):Int))) rfl) rfl ?_
   refine xbz (ms rfl rfl (xej (decide_eq_true (yvw hO.toOk (by omega))))) (fun h_ H_=>xjq rfl rfl) (tm':=zq1 (zq2 (zq16 (zq32 [])))) rfl ?_
   refine xbz (ms rfl rfl (xej (decide_eq_true (yvw hO.toOk (by omega))))) (fun h_ H_=>xaq (v:=.bool (decide (0<((k:Nat):Int)))) rfl) rfl ?_
   refine xex (mo rfl rfl (dff cc8)) (tm':=zq1 (zq2 (zq16 (zq32 [])))) rfl <| wp (mo rfl rfl (dff cc8)) <| xex (mo rfl rfl (dff cc8)) (tm':=zq1 (zq2 (zq16 (zq32 [])))) rfl <| wp (mo rfl rfl (dff cc8)) <| xex (mo rfl rfl (dff cc8)) (tm':=zq1 (zq2 (zq16 (zq32 [])))) rfl <| wp (mo rfl rfl (dff cc8)) ?_
   refine xex (mo rfl rfl (dff cc8)) (tm':=zq1 (zq2 (zq16 (zq32 [])))) rfl <| wp (mo rfl rfl (dff cc8)) <| xex (mo rfl rfl (dff cc8)) (tm':=zq1 (zq2 (zq16 (zq32 [])))) rfl ?_
   refine xiw rfl ?_
   refine rp (mo rfl rfl (dff cc8)) ?_
   refine xbq (ms rfl rfl (xej (decide_eq_true (yvw hO.toOk (by omega))))) (fun h_ H_=>xck rfl (dff cc8) (v:=.bool (false)) rfl) rfl ?_
   refine rt (xck rfl (xej (decide_eq_true (yvw hO.toOk (by omega)))) (v:=.bool (false)) rfl) (tm':=zq1 (zq2 (zq16 (zq32 [])))) rfl ?_
   refine xav <| xdx rfl rfl <| xdk <| xeq <| xbx <| ro (xaq (v:=.int .i64 (((k:Nat):Int))) rfl) ?_
   refine ro (xfq rfl rfl (n:=((k+1:Nat):Int)) (wr (by omega))) ?_
   refine rt (xax (v:=.int .i64 (((k+1:Nat):Int))) rfl) (tm':=zq1 (zq2 (zq4 _))) rfl <| xav ?_
   exact fun h_ H_=>IH6 _ _ (by omega) h_ ⟨k+1,rfl,(y_of rfl),(by omega),H_⟩
 ·
  refine xdx rfl (dff cc7) <| xiz rfl <| fsr <| ro (xaq (v:=w2) rfl) <| ro (xax (v:=w2) rfl) <| rt (xax (v:=.bool (true)) rfl) (tm':=zq4 _) rfl ?_
  refine xav ?_
  refine xev Tryd.func24 rfl (vs:=[w2,.bool (true)]) (fun h_ H_=>⟨w2,_,rfl,rfl,⟨.bool (true),_,rfl,rfl,rfl⟩⟩) (v:=.tuple #[w2,.bool (true)]) rfl ?_
  exact fun h_ H_=>K _ _ ⟨_,_,rfl,o4,((H_.dropA).sub (List.sublist_append_left _ _)).new⟩
end Go.Proofs.YtalfgojocdonhaaDoor
namespace Go.Proofs.YtalfgojocdonhaaDoor
open Go.X Go.X.Flow Go.Conc

@[simp] theorem wcs_size (xs:List FWay):(wcs xs).length=xs.length:=ylj xs
theorem wxv (xs:List FWay): ∀ u∈(wcs xs).flatten,isOne u=true:=by
  intro u hu
  obtain ⟨l,hl,hu⟩:=List.mem_flatten.1 hu
  obtain ⟨x,_,rfl⟩:=List.mem_map.1 hl
  unfold FWay.cells at hu
  simp only [List.mem_cons,List.not_mem_nil,or_false] at hu
  rcases hu with rfl | rfl <;> rfl
def sameT (t u:Tn):Prop:=t.hs=u.hs∧t.ws=u.ws∧t.wy=u.wy
instance {t u:Tn}:Decidable (sameT t u):=by unfold sameT;exact inferInstance
theorem wzq {k:Nat} {t u:Tn} (hs: ∀ i,i<k→t.wy.getD i wz=u.wy.getD i wz) (h:(t.wy.getD k wz).1=(u.wy.getD k wz).1∧(t.wy.getD k wz).2=(u.wy.getD k wz).2): ∀ i,i<k+1→t.wy.getD i wz=u.wy.getD i wz:=fun i hi=>by
  by_cases e:i=k
  · subst e;exact Prod.ext h.1 h.2
  · exact hs i (by omega)
theorem xvv {t u:Tn} (a:t.hs=u.hs) (b:t.ws=u.ws) (c:t.m=u.m) (h: ∀ i,i<t.m→t.wy.getD i wz=u.wy.getD i wz):sameT t u:=by
  refine ⟨a,b,List.ext_getElem c fun i h1 h2=>?_⟩
  have:=h i h1
  rwa [List.getD_eq_getElem?_getD,List.getD_eq_getElem?_getD,List.getElem?_eq_getElem h1,List.getElem?_eq_getElem h2] at this
theorem xzw {t u:Tn} {k:Nat} (h: ¬ ((t.wy.getD k wz).1=(u.wy.getD k wz).1∧(t.wy.getD k wz).2=(u.wy.getD k wz).2)): ¬ sameT t u:=fun z=>h (by rw [z.2.2];exact ⟨rfl,rfl⟩)
end Go.Proofs.YtalfgojocdonhaaDoor
namespace Go.X.Flow
open Go.X
def facM (t:Tn) (i:Nat):Int:=min (t.hv (t.wh i)) (t.wv (t.ww i)+1)+1
def prodM (t:Tn):Nat→Int
  | 0=>1
  | k+1=>prodM t k*facM t k
def exM (t:Tn) (x y:Int):Int:=if (0≤x∧x≤(t.nH:Int)-1)∧(0≤y∧y≤(t.nW:Int)-1) then min (t.hv x.toNat) (t.wv y.toNat)+1 else 1
def moreB (t:Tn) (x y:Int):Bool:=decide (2000<prodM t t.m∨2000<prodM t t.m*exM t x y)
theorem zvw {t:Tn} (O:Ok t) {i:Nat} (hi:i<t.m):1≤facM t i∧facM t i≤10:=by
  have h1:=O.y i hi;have h2:=O.h _ h1.1;have h3:=O.w _ h1.2
  unfold facM;omega
theorem ysj {t:Tn} (O:Ok t): ∀ k,k≤t.m→1≤prodM t k
  | 0,_=>by simp [prodM]
  | k+1,h=>by
    have h1:=ysj O k (by omega);have h2:=zvw O (show k<t.m by omega)
    have:=Int.mul_le_mul h1 h2.1 (by decide) (by omega)
    rw [prodM];omega
theorem zzq {t:Tn} (O:Ok t) {k:Nat} (hk:k≤t.m):prodM t k≤prodM t t.m:=by
  obtain ⟨j,hj⟩:=Nat.exists_eq_add_of_le hk
  have: ∀ j,k+j≤t.m→prodM t k≤prodM t (k+j):=by
    intro j
    induction j with
    | zero=>intro _;exact Int.le_refl _
    | succ j ih=>
      intro h
      have h1:=ih (by omega);have h2:=zvw O (show k+j<t.m by omega);have h3:=ysj O (k+j) (by omega)
      have h4:prodM t (k+(j+1))=prodM t (k+j)*facM t (k+j):=rfl
      have h5:=Int.mul_le_mul (Int.le_refl (prodM t (k+j))) h2.1 (by decide) (by omega)
      rw [h4];omega
  rw [hj];exact this j (by omega)
theorem wpv {t:Tn} (O:Ok t) {x y:Int} {k:Nat} (hk:k≤t.m) (h:2000<prodM t k):moreB t x y=true:=decide_eq_true (.inl (by have:=zzq O hk;omega))
theorem wiz {t:Tn} {x y:Int} (h2: ¬ ((0≤x∧x≤(t.nH:Int)-1)∧(0≤y∧y≤(t.nW:Int)-1))):moreB t x y=decide (2000<prodM t t.m):=by
  unfold moreB exM;rw [if_neg h2,Int.mul_one];congr 1;simp
theorem wpk {t:Tn} {x y:Int} (h:prodM t t.m≤2000) (h2:(0≤x∧x≤(t.nH:Int)-1)∧(0≤y∧y≤(t.nW:Int)-1)):moreB t x y=decide (2000<prodM t t.m*(min (t.hv x.toNat) (t.wv y.toNat)+1)):=by
  unfold moreB exM;rw [if_pos h2];congr 1;rw [eq_iff_iff];constructor
  · rintro (a | a)
    · omega
    · exact a
  · exact .inr

structure DryF (t:Tn) (z:Int):Prop where
  a:1≤dryV t z∧dryV t z≤3
  b: ¬ 0<t.ws.getD z.toNat 0→dryV t z=1
  c:z∈helpsF t t.nW→dryV t z=1
  d:dryV t z=1→giveI t (fairP t none0) (fairP t none0).length z=t.ws.getD z.toNat 0
  e:dryV t z=2→giveI t (fairP t none0) (fairP t none0).length z≠t.ws.getD z.toNat 0
theorem wjx {t:Tn} {z:Int} (h:z∈helpsF t t.nW): ∃ w:Nat,w<t.nW∧z=w∧earlier (LK (pour t w)) (LK t)=true:=by
  unfold helpsF at h
  obtain ⟨w,hw,rfl⟩:=List.mem_map.1 h
  obtain ⟨h1,h2⟩:=List.mem_filter.1 hw
  refine ⟨w,List.mem_range.1 h1,rfl,?_⟩
  exact (xyw (by rw [xpj,xpj];rfl)).1 (of_decide_eq_true h2)
end Go.X.Flow
namespace Go.X.Flow
open Go.X

theorem zmq (f:Nat→Int): ∀ k,sm (k+1) f=f 0+sm k (fun i=>f (i+1))
  | 0=>by simp [sm]
  | k+1=>by rw [sm,zmq f k];simp only [sm];omega
def dr (sel:Int × Int→Bool):List (Int × Int)→List Int→Int
  | w::ws,n::ds=>(if sel w then n else 0)+dr sel ws ds
  | _,_=>0
theorem wnj (sel:Int × Int→Bool): ∀ {wy:List (Int × Int)} {d:List Int},d.length=wy.length→(sm wy.length fun i=>if sel (wy.getD i (0,0)) then d.getD i 0 else 0)=dr sel wy d
  | [],[],_=>rfl
  | [],_::_,h=>by simp at h
  | _::_,[],h=>by simp at h
  | w::ws,n::ds,h=>by
    rw [dr,← wnj sel (wy:=ws) (d:=ds) (by simpa using h),List.length_cons,zmq];rfl
structure Sim (t t':Tn):Prop where
  hs:t'.hs=t.hs
  ws:t'.ws=t.ws
  sim: ∀ d:List Int,d.length=t.wy.length→(∀ z∈d,0≤z)→ ∃ d':List Int,d'.length=t'.wy.length∧(∀ z∈d',0≤z)∧ ∀ sel,dr sel t'.wy d'=dr sel t.wy d
theorem yaw {t d} (h:d.length=t.m) (x:Nat):draw t d x=dr (fun w=>w.1.toNat == x) t.wy d:=by
  rw [← wnj _ h]
  exact xik fun i _=>by unfold Tn.wh dv;simp only [beq_iff_eq]
theorem yax {t d} (h:d.length=t.m) (x:Nat):give t d x=dr (fun w=>w.2.toNat == x) t.wy d:=by
  rw [← wnj _ h]
  exact xik fun i _=>by unfold Tn.ww dv;simp only [beq_iff_eq]
theorem zev {t d} (h:d.length=t.m):tot t d=dr (fun _=>true) t.wy d:=by
  rw [← wnj _ h]
  exact xik fun i _=>by simp [dv]
theorem Sim.div {t t' d} (s:Sim t t') (D:Div t d): ∃ d',Div t' d'∧lacks t' d'=lacks t d∧tot t' d'=tot t d:=by
  obtain ⟨d',h1,h2,h3⟩:=s.sim d D.len fun z hz=>by
    obtain ⟨i,hi,e⟩:=List.mem_iff_getElem.1 hz
    have:=D.pos i (by have:=D.len;omega)
    unfold dv at this;rw [xmk hi,e] at this;exact this
  have e1: ∀ x,draw t' d' x=draw t d x:=fun x=>by rw [yaw h1,yaw D.len,h3]
  have e2: ∀ x,give t' d' x=give t d x:=fun x=>by rw [yax h1,yax D.len,h3]
  have eH:t'.nH=t.nH:=by unfold Tn.nH;rw [s.hs]
  have eW:t'.nW=t.nW:=by unfold Tn.nW;rw [s.ws]
  have ev: ∀ h,t'.hv h=t.hv h:=fun h=>by unfold Tn.hv;rw [s.hs]
  have ew: ∀ h,t'.wv h=t.wv h:=fun h=>by unfold Tn.wv;rw [s.ws]
  refine ⟨d',⟨h1,fun i hi=>?_,fun h hh=>?_,fun x hx=>?_⟩,?_,by rw [zev h1,zev D.len,h3]⟩
  · have hl:i<d'.length:=by have e:t'.m=t'.wy.length:=rfl;omega
    unfold dv;rw [xmk hl];exact h2 _ (List.getElem_mem hl)
  · rw [e1,ev];exact D.hs h (by rw [← eH];exact hh)
  · rw [e2,ew];exact D.ws x (by rw [← eW];exact hx)
  · unfold lacks lackL;rw [eH];congr 2;funext h;unfold lack;rw [e1,ev]
theorem Sim.not_less {t t'} (s:Sim t t') (O:Ok t) (O':Ok t'):earlier (LK t) (LK t')=false:=by
  obtain ⟨d',D',e,_⟩:=s.div (xkz O xnv).div
  have h:=ybx O' D'
  rw [e] at h;exact h
theorem Sim.most {t t'} (s:Sim t t') (O:Ok t) (O':Ok t'):tot t (fairP t none0)≤tot t' (fairP t' none0):=by
  obtain ⟨d',D',_,e⟩:=s.div (xkz O xnv).div
  have h:=Best.most O' (xnq O' xnv) D'
  rw [e] at h;exact h
theorem wnq (t):(LK t).length=t.nH:=xpw t _
theorem Sim.same {t t'} (s:Sim t t') (s':Sim t' t) (O:Ok t) (O':Ok t'):LK t'=LK t:=by
  have a:=s.not_less O O'
  have b:=s'.not_less O' O
  rcases xuk (a:=LK t') (b:=LK t) (by rw [wnq,wnq];unfold Tn.nH;rw [s.hs]) with h | h | h
  · exact h
  · rw [b] at h;cases h
  · rw [a] at h;cases h
theorem vck {wy wy':List (Int × Int)} (p:wy.Perm wy'): ∀ d:List Int,d.length=wy.length→(∀ z∈d,0≤z)→ ∃ d':List Int,d'.length=wy'.length∧(∀ z∈d',0≤z)∧ ∀ sel,dr sel wy' d'=dr sel wy d:=by
  induction p with
  | nil=>exact fun d h z=>⟨d,h,z,fun _=>rfl⟩
  | cons x _ ih=>
    intro d h z
    cases d with
    | nil=>simp at h
    | cons n r=>
      obtain ⟨r',h1,h2,h3⟩:=ih r (by simpa using h) fun y hy=>z y (List.mem_cons_of_mem _ hy)
      refine ⟨n::r',by simp [h1],fun y hy=>?_,fun sel=>by rw [dr,dr,h3]⟩
      rcases List.mem_cons.1 hy with rfl | hy
      · exact z _ (List.mem_cons_self ..)
      · exact h2 y hy
  | swap x y l=>
    intro d h z
    match d,h with
    | n::k::r,h=>
      refine ⟨k::n::r,by simpa using h,fun u hu=>z u ?_,fun sel=>by simp only [dr];omega⟩
      simp only [List.mem_cons] at hu ⊢
      rcases hu with hu | hu | hu
      · exact .inr (.inl hu)
      · exact .inl hu
      · exact .inr (.inr hu)
  | trans _ _ ih1 ih2=>
    intro d h z
    obtain ⟨d1,a1,a2,a3⟩:=ih1 d h z
    obtain ⟨d2,b1,b2,b3⟩:=ih2 d1 a1 a2
    exact ⟨d2,b1,b2,fun sel=>(b3 sel).trans (a3 sel)⟩
theorem yhj {hs ws:List Int} {wy wy':List (Int × Int)} (p:wy.Perm wy'):Sim ⟨hs,ws,wy⟩ ⟨hs,ws,wy'⟩:=⟨rfl,rfl,vck p⟩
theorem vcv (sel:Int × Int→Bool) (w:Int × Int): ∀ {wy:List (Int × Int)} {d:List Int},dr sel (w::wy) (0::d)=dr sel wy d:=by
  intro wy d;rw [dr];split <;> omega
theorem wnk {hs ws:List Int} {wy:List (Int × Int)} (w:Int × Int):Sim ⟨hs,ws,wy⟩ ⟨hs,ws,w::wy⟩:=
  ⟨rfl,rfl,fun d h z=>⟨0::d,by simp [h],fun y hy=>(List.mem_cons.1 hy).elim (fun e=>by omega) (z y),fun sel=>vcv sel w⟩⟩
end Go.X.Flow
namespace Go.X.Flow
open Go.X

def wkP (t:Tn) (x:FWay):Nat→Bool
  | 0=>false
  | k+1=>wkP t x k || decide (Bf x (t.wy.getD k wz))
def wkL (t:Tn) (x:FWay):Nat→List FWay
  | 0=>[]
  | k+1=>(if wkP t x k=false∧Bf x (t.wy.getD k wz) then wkL t x k++[x] else wkL t x k)++[t.wy.getD k wz]
def withW (t:Tn) (x:FWay):List FWay:=if wkP t x t.m then wkL t x t.m else wkL t x t.m++[x]
def withT (t:Tn) (x:FWay):Tn:=⟨t.hs,t.ws,withW t x⟩
theorem wcx {t x k} {p q:Bool} (hp:p=wkP t x k) (h:q=(p || decide (Bf x (t.wy.getD k wz)))):q=wkP t x (k+1):=by rw [h,hp];rfl
theorem wxk {t x k} {p:Bool} {l:List FWay} (hp:p=wkP t x k) (hl:l=wkL t x k) (h0:p=false) (hb:Bf x (t.wy.getD k wz)):(l++[x])++[t.wy.getD k wz]=wkL t x (k+1):=by
  rw [wkL,if_pos ⟨by rw [← hp];exact h0,hb⟩,hl]
theorem zqq {t x k} {p:Bool} {l:List FWay} (hp:p=wkP t x k) (hl:l=wkL t x k) (h0: ¬ (p=false∧Bf x (t.wy.getD k wz))):l++[t.wy.getD k wz]=wkL t x (k+1):=by
  rw [wkL,if_neg (by rw [← hp];exact h0),hl]
theorem wcz {t x}: ∀ k,(wkL t x k).length=k+if wkP t x k then 1 else 0
  | 0=>rfl
  | k+1=>by
    have ih:=wcz (t:=t) (x:=x) k
    rw [wkL,wkP]
    by_cases a:wkP t x k=false <;> by_cases b:Bf x (t.wy.getD k wz)
    · rw [if_pos ⟨a,b⟩];simp only [List.length_append,ih,a,b];simp
    · rw [if_neg fun z=>b z.2];simp only [List.length_append,ih,a,b];simp
    · rw [if_neg fun z=>a z.1];rw [Bool.not_eq_false] at a;simp only [List.length_append,ih,a,b];simp
    · rw [if_neg fun z=>a z.1];rw [Bool.not_eq_false] at a;simp only [List.length_append,ih,a,b];simp
theorem ybk {xs:List FWay} {k:Nat} (h:k<xs.length):xs.take (k+1)=xs.take k++[xs.getD k wz]:=by
  rw [List.getD_eq_getElem?_getD,List.getElem?_eq_getElem h];exact (List.take_append_getElem h).symm
theorem zqx {t x}: ∀ k,k≤t.m→(wkL t x k).Perm (if wkP t x k then x::t.wy.take k else t.wy.take k)
  | 0,_=>by simp [wkL,wkP]
  | k+1,h=>by
    have ih:=zqx (t:=t) (x:=x) k (by omega)
    have e:=ybk (xs:=t.wy) (k:=k) (by unfold Tn.m at h;omega)
    rw [wkL,wkP]
    by_cases a:wkP t x k=false <;> by_cases b:Bf x (t.wy.getD k wz)
    · rw [if_pos ⟨a,b⟩,a,decide_eq_true b,Bool.false_or,if_pos rfl,e]
      rw [a,if_neg (by decide)] at ih
      refine ((ih.append_right [x]).append_right _).trans ?_
      rw [List.append_assoc]
      exact (List.perm_append_comm_assoc _ _ _)
    · rw [if_neg fun z=>b z.2,a,decide_eq_false b,Bool.false_or,if_neg (by decide),e]
      rw [a,if_neg (by decide)] at ih
      exact ih.append_right _
    · rw [Bool.not_eq_false] at a
      rw [if_neg (fun z=>absurd z.1 (by rw [a];decide)),a,Bool.true_or,if_pos rfl,e]
      rw [a,if_pos rfl] at ih
      exact ih.append_right _
    · rw [Bool.not_eq_false] at a
      rw [if_neg (fun z=>absurd z.1 (by rw [a];decide)),a,Bool.true_or,if_pos rfl,e]
      rw [a,if_pos rfl] at ih
      exact ih.append_right _
theorem ydq (t:Tn) (x:FWay):(withW t x).Perm (x::t.wy):=by
  have p:=zqx (t:=t) (x:=x) t.m (Nat.le_refl _)
  have e:t.wy.take t.m=t.wy:=List.take_length
  rw [e] at p
  unfold withW
  by_cases a:wkP t x t.m=true
  · rw [if_pos a];rwa [if_pos a] at p
  · rw [if_neg a];rw [if_neg a] at p
    exact (p.append_right [x]).trans List.perm_append_comm
theorem wcj (t:Tn) (x:FWay):(withW t x).length=t.m+1:=by rw [(ydq t x).length_eq];rfl

structure WithF (t:Tn) (x:FWay):Prop where
  lk:LK (withT t x)=LK (wayM t x)
  most:mostV t≤mostV (withT t x)
  less:earlier (LK t) (LK (withT t x))=false
theorem ywx {t:Tn} (O:Ok t) (x:FWay) (OM:Ok (wayM t x)) (OW:Ok (withT t x)):WithF t x:=by
  have p1:(withW t x).Perm (t.wy++[x]):=(ydq t x).trans (show ([x]++t.wy).Perm (t.wy++[x]) from List.perm_append_comm)
  have s1:Sim (wayM t x) (withT t x):=yhj p1.symm
  have s2:Sim (withT t x) (wayM t x):=yhj p1
  have s3:Sim t ⟨t.hs,t.ws,x::t.wy⟩:=wnk x
  have s4:Sim ⟨t.hs,t.ws,x::t.wy⟩ (withT t x):=yhj (ydq t x).symm
  have s5:Sim t (withT t x):=⟨rfl,rfl,fun d h1 h2=>by
    obtain ⟨d',a,b,c⟩:=s3.3 d h1 h2
    obtain ⟨d'',a',b',c'⟩:=s4.3 d' a b
    exact ⟨d'',a',b',fun sel=>(c' sel).trans (c sel)⟩⟩
  exact ⟨s1.same s2 OM OW,s5.most O OW,s5.not_less O OW⟩
theorem vez {t:Tn} {x:FWay} (F:WithF t x):(cmpL (LK (wayM t x)) (LK t)<0)↔earlier (LK (withT t x)) (LK t)=true:=by
  rw [F.lk];exact xyw (by rw [xpj,xpj];rfl)
structure PourF (t:Tn) (z:Int):Prop where
  a:mostV t≤mostV (pour t z.toNat)
  b:mostV (pour t z.toNat)≤mostV t+1
  c:earlier (LK t) (LK (pour t z.toNat))=false
  d:earlier (LK (pour t z.toNat)) (LK t)=true↔z∈helpsF t t.nW
theorem zzj {t:Tn} (V:Vd t) (O:OkT t) {z:Int} (hz:0≤z∧z≤(t.nW:Int)-1):PourF t z:=by
  have hx:z.toNat<t.nW:=by omega
  have h20:t.wv z.toNat≤20:=(V.w z.toNat hx).2
  refine ⟨wgw O.toOk hx h20,wov O.toOk hx h20,zbx O.toOk hx h20,?_⟩
  have e:((z.toNat:Nat):Int)=z:=Int.toNat_of_nonneg hz.1
  constructor
  · intro h
    unfold helpsF
    refine List.mem_map.2 ⟨z.toNat,List.mem_filter.2 ⟨List.mem_range.2 hx,?_⟩,e⟩
    exact decide_eq_true ((xyw (by rw [xpj,xpj];rfl)).2 h)
  · intro h
    obtain ⟨w,hw,e2,h2⟩:=wjx h
    have:w=z.toNat:=by omega
    subst this;exact h2
theorem woj {t:Tn} {z:Int}:t.ws.set z.toNat (t.ws.getD z.toNat 0+1)=(pour t z.toNat).ws:=rfl
def WayP (t:Tn) (x y:Int):Prop:=¬ ((x,y):FWay)∈t.wy∧cmpL (LK (wayM t (x,y))) (LK t)<0
instance {t:Tn} {x y:Int}:Decidable (WayP t x y):=by unfold WayP;exact inferInstance
def wayV (t:Tn) (x y:Int):Int:=if ((x,y):FWay)∈t.wy then 3 else 0
theorem wvv {t:Tn} {x y:Int} (hc:chkB t=0) (hx:0≤x∧x≤(t.nH:Int)-1) (hy:0≤y∧y≤(t.nW:Int)-1):wayA t x y=0:=by
  unfold wayA askB;rw [if_pos hc,decide_eq_true ⟨hx,hy⟩];rfl
theorem vev {t:Tn} {x y:Int} (h:wayA t x y=0):wayB t x y=decide (WayP t x y):=by
  unfold wayB;rw [Bool.eq_iff_iff,decide_eq_true_eq,decide_eq_true_eq];exact ⟨fun z=>z.2,fun z=>⟨h,z⟩⟩
theorem vej {t:Tn} {x y:Int} (h:wayA t x y=0):wayE t x y=wayV t x y:=by unfold wayE wayV;rw [if_pos h]
theorem ydx {t:Tn} {x y:Int} (h:((x,y):FWay)∈t.wy):wayV t x y=3:=if_pos h
theorem wdq {t:Tn} {x y:Int} (h: ¬ ((x,y):FWay)∈t.wy):wayV t x y=0:=if_neg h
theorem yzj {t:Tn} {x y:Int} (h:((x,y):FWay)∈t.wy): ¬ WayP t x y:=fun z=>z.1 h
theorem yzz {t:Tn} {x y:Int} (h: ¬ ((x,y):FWay)∈t.wy) (F:WithF t (x,y)):earlier (LK (withT t (x,y))) (LK t)=true↔WayP t x y:=by
  rw [← vez F];exact ⟨fun z=>⟨h,z⟩,fun z=>z.2⟩
theorem wck (t:Tn) (x:FWay):(withT t x).m=t.m+1:=wcj t x
end Go.X.Flow
namespace Go.Proofs.YtalfgojocdonhaaDoor
open Go.X Go.X.Flow Go.Conc
set_option maxRecDepth 10000
set_option synthInstance.maxSize 2000

set_option maxHeartbeats 2000000
theorem c17 (md:Md) (h:Heap) (p:PHeap) (hp:Per p h) (a1 a2 a3:Option Addr) (c1 c2 c3:Nat) (t:Tn) (T:TownP p a1 t.nH a2 t.nW a3 t.m t) (hn:t.nH≤40∧t.nW≤40∧t.m≤41):CallsX Tryd.prog md 17 #[.agg #[.slice a1 t.nH c1,.slice a2 t.nW c2,.slice a3 t.m c3]] h fun v h'=>∃ w1 w2 w3 X1 X2 X3,v= .agg #[w1,w2,w3]∧OwnS 3 1 w1 (ics t.hs) X1∧OwnS 3 1 w2 (ics t.ws) X2∧OwnS 43 2 w3 (wcs t.wy) X3∧New h h' (X3++(X1++(X2++[]))):=by
 refine xdq (Φ:=fun h_=>St h [] p h_ []) Tryd.func17 rfl (tm:=zq16 []) rfl ?_ (St.start h _ hp)
 intro c₀ cs Stop K
 have eH:=T.nH
 have eW:=T.nW
 have eM:=T.m
 refine fsr ?_
 refine xjx mn (v:=.agg #[.slice a1 t.nH c1,.slice a2 t.nW c2,.slice a3 t.m c3]) rfl fun b1=>xcq (L':=[(b1,.cells #[.slice a1 t.nH c1,.slice a2 t.nW c2,.slice a3 t.m c3] 25 (0,0))]) rfl ?_
 refine xkx mn tZ25 rfl fun b2=>xcq (L':=[(b2,.cells #[.slice none 0 0,.slice none 0 0,.slice none 0 0] 25 (0,0)),(b1,.cells #[.slice a1 t.nH c1,.slice a2 t.nW c2,.slice a3 t.m c3] 25 (0,0))]) rfl ?_
 refine ren ?_
 refine xyx (xlz (C:=[]) (A:=([(b2,.cells #[.slice none 0 0,.slice none 0 0,.slice none 0 0] 25 (0,0)),(b1,.cells #[.slice a1 t.nH c1,.slice a2 t.nW c2,.slice a3 t.m c3] 25 (0,0))]:Pcs)) 11 [[],[],[1],[0,1,2],[],[],[5],[0,1,2,3,4,5,6],[],[],[9],[0,1,2,4,5,6,8,9,10],[],[]] [] [3,7,8] [1,2,5,6,9,10] (fun _=>[]) (fun i_=>match i_ with | 3=>[0] | 7=>[4] | _=>[]) (fun i_=>match i_ with | 0=>[] | 1=>[] | 2=>[1] | 3=>[0,2] | 4=>[] | 5=>[] | 6=>[5] | 7=>[3,4,6] | 8=>[] | 9=>[] | 10=>[9] | _=>[]) (fun i_ val_ pc_ v_ x_=>match i_ with | 0=>OwnS 3 1 v_ [] x_ | 1=>v_= .pointer (some ⟨b1,0,none⟩)∧x_=[] | 2=>v_= .slice a1 t.nH c1∧x_=[] | 3=>OwnS 3 1 v_ ([]++(t.hs.map fun x=>[Value.int .i64 x])) x_ | 4=>OwnS 3 1 v_ [] x_ | 5=>v_= .pointer (some ⟨b1,1,none⟩)∧x_=[] | 6=>v_= .slice a2 t.nW c2∧x_=[] | 7=>OwnS 3 1 v_ ([]++(t.ws.map fun x=>[Value.int .i64 x])) x_ | 8=>OwnS 43 2 v_ [] x_ | 9=>v_= .pointer (some ⟨b1,2,none⟩)∧x_=[] | 10=>v_= .slice a3 t.m c3∧x_=[] | _=>True) (fun val3=>[.agg #[.slice a1 t.nH c1,.slice a2 t.nW c2,.slice a3 t.m c3],.pointer (some ⟨b1,0,none⟩),.pointer (some ⟨b2,0,none⟩),(val3 0),(val3 1),(val3 2),(val3 3),(val3 4),(val3 5),(val3 6),(val3 7),(val3 8),(val3 9),(val3 10),undef,undef]) xkv (by kernel_rfl) (Nat.le_of_ble_eq_true rfl) (by kernel_rfl) (by kernel_rfl) (by kernel_rfl) (fun _ _=>⟨fun _ _ h=>h.2,⟨fun _ _ h=>h.2,⟨fun _ _ h=>h.2,⟨fun _ _ h=>h.2,⟨fun _ _ h=>h.2,⟨fun _ _ h=>h.2,trivial⟩⟩⟩⟩⟩⟩) (fun _=>by kernel_rfl) (by kernel_rfl) ?_ ?_) (fun h_ H_=>St.swap (A:=([(b2,.cells #[.slice none 0 0,.slice none 0 0,.slice none 0 0] 25 (0,0)),(b1,.cells #[.slice a1 t.nH c1,.slice a2 t.nW c2,.slice a3 t.m c3] 25 (0,0))]:Pcs)) (U:=[]) H_)
 ·
  refine xak rfl (xcj ?_) ?_
  ·
   intro val3 pc4 hQ_ hX_
   obtain ⟨q_,hq0_⟩: ∃ q_:Value→Pcs→Prop,q_=(fun v_ x_=>OwnS 3 1 v_ [] x_):=⟨_,rfl⟩
   refine ⟨(zq16 []),[],q_,rfl,rfl,(fun _ _ z_=>by subst hq0_;exact z_),?_⟩
   subst hq0_
   exact xnj mn Tryd.underlying22 tS3 tZ3 (Nat.le_of_ble_eq_true rfl) (vs:=[]) rfl rfl (es:=[]) rfl rfl rfl fun _ _ o_=>o_
  refine xak rfl (xcj ?_) ?_
  ·
   intro val3 pc4 hQ_ hX_
   obtain ⟨q_,hq0_⟩: ∃ q_:Value→Pcs→Prop,q_=(fun v_ x_=>v_= .pointer (some ⟨b1,0,none⟩)∧x_=[]):=⟨_,rfl⟩
   refine ⟨(zq16 []),[],q_,rfl,rfl,(fun _ _ z_=>by subst hq0_;exact z_),?_⟩
   subst hq0_
   exact xcz mn (fun _ h_ H_=>xaz xlw rfl (a':=⟨b1,0,none⟩) rfl) ⟨rfl,rfl⟩
  refine xak rfl (xcj ?_) ?_
  ·
   intro val3 pc4 hQ_ hX_
   have e1_:val3 1= .pointer (some ⟨b1,0,none⟩):=(hQ_ 1 rfl).1
   obtain ⟨q_,hq0_⟩: ∃ q_:Value→Pcs→Prop,q_=(fun v_ x_=>v_= .slice a1 t.nH c1∧x_=[]):=⟨_,rfl⟩
   refine ⟨(zq16 []),[],q_,(by rw [e1_]),rfl,(fun _ _ z_=>by subst hq0_;exact z_),?_⟩
   subst hq0_
   exact xcz mn (fun _ h_ H_=>xaj H_ tA22 rfl (i:=1) rfl (v:=.slice a1 t.nH c1) rfl) ⟨rfl,rfl⟩
  refine xak rfl (xcj ?_) ?_
  ·
   intro val3 pc4 hQ_ hX_
   have q0_:OwnS 3 1 (val3 0) [] (pc4 0):=hQ_ 0 rfl
   have e2_:val3 2= .slice a1 t.nH c1:=(hQ_ 2 rfl).1
   obtain ⟨q_,hq0_⟩: ∃ q_:Value→Pcs→Prop,q_=(fun v_ x_=>OwnS 3 1 v_ ([]++(t.hs.map fun x=>[Value.int .i64 x])) x_):=⟨_,rfl⟩
   refine ⟨(zq16 []),((pc4 0)++[]),q_,(by rw [e2_]),rfl,(fun _ _ z_=>by subst hq0_;exact z_),?_⟩
   subst hq0_
   exact xrz mn Tryd.underlying22 tS3 tZ3 rfl tB3 Tryd.underlying22 rfl rfl q0_ T.h (xrj _) (by simp only [List.length_nil];omega) (by decide) (by decide) fun _ _ o_=>o_
  refine xak rfl (xcj ?_) ?_
  ·
   intro val3 pc4 hQ_ hX_
   obtain ⟨q_,hq0_⟩: ∃ q_:Value→Pcs→Prop,q_=(fun v_ x_=>OwnS 3 1 v_ [] x_):=⟨_,rfl⟩
   refine ⟨(zq16 []),[],q_,rfl,rfl,(fun _ _ z_=>by subst hq0_;exact z_),?_⟩
   subst hq0_
   exact xnj mn Tryd.underlying22 tS3 tZ3 (Nat.le_of_ble_eq_true rfl) (vs:=[]) rfl rfl (es:=[]) rfl rfl rfl fun _ _ o_=>o_
  refine xak rfl (xcj ?_) ?_
  ·
   intro val3 pc4 hQ_ hX_
   obtain ⟨q_,hq0_⟩: ∃ q_:Value→Pcs→Prop,q_=(fun v_ x_=>v_= .pointer (some ⟨b1,1,none⟩)∧x_=[]):=⟨_,rfl⟩
   refine ⟨(zq16 []),[],q_,rfl,rfl,(fun _ _ z_=>by subst hq0_;exact z_),?_⟩
   subst hq0_
   exact xcz mn (fun _ h_ H_=>xaz xmz rfl (a':=⟨b1,1,none⟩) rfl) ⟨rfl,rfl⟩
  refine xak rfl (xcj ?_) ?_
  ·
   intro val3 pc4 hQ_ hX_
   have e5_:val3 5= .pointer (some ⟨b1,1,none⟩):=(hQ_ 5 rfl).1
   obtain ⟨q_,hq0_⟩: ∃ q_:Value→Pcs→Prop,q_=(fun v_ x_=>v_= .slice a2 t.nW c2∧x_=[]):=⟨_,rfl⟩
   refine ⟨(zq16 []),[],q_,(by rw [e5_]),rfl,(fun _ _ z_=>by subst hq0_;exact z_),?_⟩
   subst hq0_
   exact xcz mn (fun _ h_ H_=>xaj H_ tA22 rfl (i:=1) rfl (v:=.slice a2 t.nW c2) rfl) ⟨rfl,rfl⟩
  refine xak rfl (xcj ?_) ?_
  ·
   intro val3 pc4 hQ_ hX_
   have q3_:OwnS 3 1 (val3 3) ([]++(t.hs.map fun x=>[Value.int .i64 x])) (pc4 3):=hQ_ 3 rfl
   have q4_:OwnS 3 1 (val3 4) [] (pc4 4):=hQ_ 4 rfl
   have e6_:val3 6= .slice a2 t.nW c2:=(hQ_ 6 rfl).1
   obtain ⟨q_,hq0_⟩: ∃ q_:Value→Pcs→Prop,q_=(fun v_ x_=>OwnS 3 1 v_ ([]++(t.ws.map fun x=>[Value.int .i64 x])) x_):=⟨_,rfl⟩
   refine ⟨(zq16 []),((pc4 4)++[]),q_,(by rw [e6_]),rfl,(fun _ _ z_=>by subst hq0_;exact z_),?_⟩
   subst hq0_
   exact xrz mn Tryd.underlying22 tS3 tZ3 rfl tB3 Tryd.underlying22 rfl rfl q4_ T.w (xrj _) (by simp only [List.length_nil];omega) (by decide) (by decide) fun _ _ o_=>o_
  refine xak rfl (xcj ?_) ?_
  ·
   intro val3 pc4 hQ_ hX_
   obtain ⟨q_,hq0_⟩: ∃ q_:Value→Pcs→Prop,q_=(fun v_ x_=>OwnS 43 2 v_ [] x_):=⟨_,rfl⟩
   refine ⟨(zq16 []),[],q_,rfl,rfl,(fun _ _ z_=>by subst hq0_;exact z_),?_⟩
   subst hq0_
   exact xnj mn Tryd.underlying23 tS43 tZ43 (Nat.le_of_ble_eq_true rfl) (vs:=[]) rfl rfl (es:=[]) rfl rfl rfl fun _ _ o_=>o_
  refine xak rfl (xcj ?_) ?_
  ·
   intro val3 pc4 hQ_ hX_
   obtain ⟨q_,hq0_⟩: ∃ q_:Value→Pcs→Prop,q_=(fun v_ x_=>v_= .pointer (some ⟨b1,2,none⟩)∧x_=[]):=⟨_,rfl⟩
   refine ⟨(zq16 []),[],q_,rfl,rfl,(fun _ _ z_=>by subst hq0_;exact z_),?_⟩
   subst hq0_
   exact xcz mn (fun _ h_ H_=>xaz xhk rfl (a':=⟨b1,2,none⟩) rfl) ⟨rfl,rfl⟩
  refine xak rfl (xcj ?_) ?_
  ·
   intro val3 pc4 hQ_ hX_
   have e9_:val3 9= .pointer (some ⟨b1,2,none⟩):=(hQ_ 9 rfl).1
   obtain ⟨q_,hq0_⟩: ∃ q_:Value→Pcs→Prop,q_=(fun v_ x_=>v_= .slice a3 t.m c3∧x_=[]):=⟨_,rfl⟩
   refine ⟨(zq16 []),[],q_,(by rw [e9_]),rfl,(fun _ _ z_=>by subst hq0_;exact z_),?_⟩
   subst hq0_
   exact xcz mn (fun _ h_ H_=>xaj H_ tA23 rfl (i:=1) rfl (v:=.slice a3 t.m c3) rfl) ⟨rfl,rfl⟩
  exact xlx rfl
 intro val3 pc4 hQ_ hX_
 have e1_:val3 1= .pointer (some ⟨b1,0,none⟩):=(hQ_ 1 (by decide)).1
 have e2_:val3 2= .slice a1 t.nH c1:=(hQ_ 2 (by decide)).1
 have q3_:OwnS 3 1 (val3 3) ([]++(t.hs.map fun x=>[Value.int .i64 x])) (pc4 3):=hQ_ 3 (by decide)
 have e5_:val3 5= .pointer (some ⟨b1,1,none⟩):=(hQ_ 5 (by decide)).1
 have e6_:val3 6= .slice a2 t.nW c2:=(hQ_ 6 (by decide)).1
 have q7_:OwnS 3 1 (val3 7) ([]++(t.ws.map fun x=>[Value.int .i64 x])) (pc4 7):=hQ_ 7 (by decide)
 have q8_:OwnS 43 2 (val3 8) [] (pc4 8):=hQ_ 8 (by decide)
 have e9_:val3 9= .pointer (some ⟨b1,2,none⟩):=(hQ_ 9 (by decide)).1
 have e10_:val3 10= .slice a3 t.m c3:=(hQ_ 10 (by decide)).1
 clear hQ_ hX_
 refine xwv (Φ:=fun h_=>St h [] p h_ (([(b2,.cells #[.slice none 0 0,.slice none 0 0,.slice none 0 0] 25 (0,0)),(b1,.cells #[.slice a1 t.nH c1,.slice a2 t.nW c2,.slice a3 t.m c3] 25 (0,0))]:Pcs)++(pc4 3++(pc4 7++(pc4 8++[]))))) ?_ (fun h_ H_=>H_.swap')
 refine xgq (tm':=(zq16 [])) (by rw [e1_,e2_,e5_,e6_,e9_,e10_]) ?_
 have o8:=q3_
 have o10:=q7_
 have o11:=q8_
 refine xjz (List.Perm.append_left _ (List.Perm.append_left _ (List.perm_append_comm_assoc _ _ _))) ?_
 refine xjz (List.Perm.append_left _ (List.perm_append_comm_assoc _ _ _)) ?_
 refine xcq (L':=([(b2,.cells #[.slice none 0 0,.slice none 0 0,.slice none 0 0] 25 (0,0)),(b1,.cells #[.slice a1 t.nH c1,.slice a2 t.nW c2,.slice a3 t.m c3] 25 (0,0))]:Pcs)++((pc4 8)++((pc4 3)++((pc4 7)++[])))) rfl ?_
 refine ydk ([(b2,.cells #[.slice none 0 0,.slice none 0 0,.slice none 0 0] 25 (0,0)),(b1,.cells #[.slice a1 t.nH c1,.slice a2 t.nW c2,.slice a3 t.m c3] 25 (0,0))]:Pcs) (pc4 8) mn Tryd.underlying23 tS43 tZ43 rfl tB43 Tryd.underlying23 rfl rfl o11 T.y (wxv _) (by simp only [List.length_nil];omega) (by decide) (by decide) fun v12 X13 o14=>?_
 refine xgq (tm':=zq16 []) rfl ?_
 generalize val3 3=w15 at*
 obtain ⟨a16,c17,ev_,_⟩:=o8.val;have ev_:w15= .slice a16 ((([]++(t.hs.map fun x=>[Value.int .i64 x])):List (List Value)).length) c17:=ev_;subst ev_
 generalize val3 7=w18 at*
 obtain ⟨a19,c20,ev_,_⟩:=o10.val;have ev_:w18= .slice a19 ((([]++(t.ws.map fun x=>[Value.int .i64 x])):List (List Value)).length) c20:=ev_;subst ev_
 obtain ⟨a21,c22,ev_,_⟩:=o14.val;have ev_:v12= .slice a21 t.m c22:=ev_.trans (congrArg (fun q_=>Value.slice a21 q_ c22) (by have h_:=T.y.len;simpa using h_));subst ev_
 refine ro (xhv tZ25 tP25 (vs:=[(0,(.slice a16 ((([]++(t.hs.map fun x=>[Value.int .i64 x])):List (List Value)).length) c17)),(1,(.slice a19 ((([]++(t.ws.map fun x=>[Value.int .i64 x])):List (List Value)).length) c20)),(2,(.slice a21 t.m c22))]) rfl (cells:=#[(.slice a16 ((([]++(t.hs.map fun x=>[Value.int .i64 x])):List (List Value)).length) c17),(.slice a19 ((([]++(t.ws.map fun x=>[Value.int .i64 x])):List (List Value)).length) c20),(.slice a21 t.m c22)]) rfl) ?_
 refine xiq mn tS25 rfl (v:=.agg #[(.slice a16 ((([]++(t.hs.map fun x=>[Value.int .i64 x])):List (List Value)).length) c17),(.slice a19 ((([]++(t.ws.map fun x=>[Value.int .i64 x])):List (List Value)).length) c20),(.slice a21 t.m c22)]) rfl (i:=0) rfl rfl (xew o8.one.2 (xew o10.one.2 (xew o14.one.2 rfl))) (Nat.le_of_ble_eq_true rfl) (cs2:=[(.slice a16 ((([]++(t.hs.map fun x=>[Value.int .i64 x])):List (List Value)).length) c17),(.slice a19 ((([]++(t.ws.map fun x=>[Value.int .i64 x])):List (List Value)).length) c20),(.slice a21 t.m c22)]) rfl (xcq (L':=([(b2,.cells #[(.slice a16 ((([]++(t.hs.map fun x=>[Value.int .i64 x])):List (List Value)).length) c17),(.slice a19 ((([]++(t.ws.map fun x=>[Value.int .i64 x])):List (List Value)).length) c20),(.slice a21 t.m c22)] 25 (0,0)),(b1,.cells #[.slice a1 t.nH c1,.slice a2 t.nW c2,.slice a3 t.m c3] 25 (0,0))]:Pcs)++(X13++((pc4 3)++((pc4 7)++[])))) rfl ?_)
 refine xav ?_
 refine xev Tryd.func17 rfl (vs:=[.agg #[(.slice a16 ((([]++(t.hs.map fun x=>[Value.int .i64 x])):List (List Value)).length) c17),(.slice a19 ((([]++(t.ws.map fun x=>[Value.int .i64 x])):List (List Value)).length) c20),(.slice a21 t.m c22)]]) (fun h_ H_=>⟨.agg #[(.slice a16 ((([]++(t.hs.map fun x=>[Value.int .i64 x])):List (List Value)).length) c17),(.slice a19 ((([]++(t.ws.map fun x=>[Value.int .i64 x])):List (List Value)).length) c20),(.slice a21 t.m c22)],_,rfl,(xbj (xbk (xoz tA25 tS25 (vs:=[(.slice a16 ((([]++(t.hs.map fun x=>[Value.int .i64 x])):List (List Value)).length) c17),(.slice a19 ((([]++(t.ws.map fun x=>[Value.int .i64 x])):List (List Value)).length) c20),(.slice a21 t.m c22)]) rfl (fun j_ v_ e_=>by rw [xox];exact H_.ocell (i:=0) rfl (by simpa using e_)) ⟨rfl,rfl⟩))),rfl⟩) (v:=.agg #[(.slice a16 ((([]++(t.hs.map fun x=>[Value.int .i64 x])):List (List Value)).length) c17),(.slice a19 ((([]++(t.ws.map fun x=>[Value.int .i64 x])):List (List Value)).length) c20),(.slice a21 t.m c22)]) rfl ?_
 exact fun h_ H_=>K _ _ ⟨_,_,_,_,_,_,rfl,o8,o10,o14,by simpa using (H_.dropA).new⟩
theorem c22 (md:Md) (h:Heap) (p:PHeap) (hp:Per p h) (a1 a2 a3:Option Addr) (c1 c2 c3:Nat) (t:Tn) (T:TownP p a1 t.nH a2 t.nW a3 t.m t) (hn:t.nH≤40∧t.nW≤40∧t.m≤41)(a1' a2' a3':Option Addr) (c1' c2' c3':Nat) (u:Tn) (U:TownP p a1' u.nH a2' u.nW a3' u.m u) (hn':u.nH≤40∧u.nW≤40∧u.m≤41):CallsX Tryd.prog md 22 #[.agg #[.slice a1 t.nH c1,.slice a2 t.nW c2,.slice a3 t.m c3],.agg #[.slice a1' u.nH c1',.slice a2' u.nW c2',.slice a3' u.m c3']] h fun v h'=>v= .bool (decide (sameT t u))∧Keep h h':=by
 refine xdq (Φ:=fun h_=>St h [] p h_ []) Tryd.func22 rfl (tm:=zq1 (zq2 (zq4 (zq8 (zq32 []))))) rfl ?_ (St.start h _ hp)
 intro c₀ cs Stop K
 refine fsr ?_
 refine xjx mn (v:=.agg #[.slice a1 t.nH c1,.slice a2 t.nW c2,.slice a3 t.m c3]) rfl fun b1=>xcq (L':=[(b1,.cells #[.slice a1 t.nH c1,.slice a2 t.nW c2,.slice a3 t.m c3] 25 (0,0))]) rfl ?_
 refine xjx mn (v:=.agg #[.slice a1' u.nH c1',.slice a2' u.nW c2',.slice a3' u.m c3']) rfl fun b2=>xcq (L':=[(b2,.cells #[.slice a1' u.nH c1',.slice a2' u.nW c2',.slice a3' u.m c3'] 25 (0,0)),(b1,.cells #[.slice a1 t.nH c1,.slice a2 t.nW c2,.slice a3 t.m c3] 25 (0,0))]) rfl ?_
 refine xgq (tm':=zq4 _) rfl ?_
 refine ro (xax (v:=.bool (false)) rfl) <| ren <| fsr <| ro (xaz xlw rfl (a':=⟨b1,0,none⟩) rfl) ?_
 refine xbq mn (fun h_ H_=>xaj H_ tA22 rfl (i:=1) rfl (v:=.slice a1 t.nH c1) rfl) (tm':=zq8 _) rfl ?_
 refine ro (xaz xlw rfl (a':=⟨b2,0,none⟩) rfl) <| rd (fun h_ H_=>xaj H_ tA22 rfl (i:=0) rfl (v:=.slice a1' u.nH c1') rfl) ?_
 refine xdv mn (first:=[]) (cap:=[]) rfl rfl fC27 (fun h_ H_=>c27 md _ _ H_.pe _ _ _ _ _ _ _ _ T.h U.h (by omega)) (tm':=zq1 (zq2 (zq8 _))) rfl ?_
 refine ro (xgw rfl) <| ro (xaq (v:=.bool (!(decide (t.hs=u.hs)))) rfl) ?_
 by_cases cc3:t.hs=u.hs
 ·
  refine xbq (ms rfl rfl (xej (dtt cc3))) (fun h_ H_=>xaz xmz rfl (a':=⟨b1,1,none⟩) rfl) (tm':=zq2 (zq4 (zq8 _))) rfl ?_
  refine xbq (ms rfl rfl (xej (dtt cc3))) (fun h_ H_=>xaj H_ tA22 rfl (i:=1) rfl (v:=.slice a2 t.nW c2) rfl) rfl ?_
  refine xbq (ms rfl rfl (xej (dtt cc3))) (fun h_ H_=>xaz xmz rfl (a':=⟨b2,1,none⟩) rfl) rfl ?_
  refine xbq (ms rfl rfl (xej (dtt cc3))) (fun h_ H_=>xaj H_ tA22 rfl (i:=0) rfl (v:=.slice a2' u.nW c2') rfl) (tm':=zq1 (zq16 _)) rfl ?_
  refine xdv (ms rfl rfl (xej (dtt cc3))) (first:=[]) (cap:=[]) rfl rfl fC27 (fun h_ H_=>c27 md _ _ H_.pe _ _ _ _ _ _ _ _ T.w U.w (by omega)) rfl ?_
  refine xbq (ms rfl rfl (xej (dtt cc3))) (fun h_ H_=>xgw rfl) rfl ?_
  refine rt (xck rfl (xej (dtt cc3)) (v:=.bool (!(decide (t.ws=u.ws)))) rfl) (tm':=zq4 (zq16 _)) rfl <| ro (xaq (v:=.bool (!(decide (t.ws=u.ws)))) rfl) ?_
  by_cases cc4:t.ws=u.ws
  ·
   refine xbq (ms rfl rfl (xej (dtt cc4))) (fun h_ H_=>xaz xhk rfl (a':=⟨b1,2,none⟩) rfl) rfl ?_
   refine xbq (ms rfl rfl (xej (dtt cc4))) (fun h_ H_=>xaj H_ tA23 rfl (i:=1) rfl (v:=.slice a3 t.m c3) rfl) (tm':=zq1 (zq2 (zq4 (zq16 _)))) rfl ?_
   refine xbq (ms rfl rfl (xej (dtt cc4))) (fun h_ H_=>xfk Tryd.underlying23 rfl) rfl ?_
   refine xbq (ms rfl rfl (xej (dtt cc4))) (fun h_ H_=>xaz xhk rfl (a':=⟨b2,2,none⟩) rfl) rfl ?_
   refine xbq (ms rfl rfl (xej (dtt cc4))) (fun h_ H_=>xaj H_ tA23 rfl (i:=0) rfl (v:=.slice a3' u.m c3') rfl) (tm':=zq2 (zq8 (zq16 _))) rfl ?_
   refine xbq (ms rfl rfl (xej (dtt cc4))) (fun h_ H_=>xfk Tryd.underlying23 rfl) rfl ?_
   refine xbq (ms rfl rfl (xej (dtt cc4))) (fun h_ H_=>xkk rfl rfl) rfl ?_
   refine rt (xck rfl (xej (dtt cc4)) (v:=.bool (decide (((t.m:Nat):Int)≠((u.m:Nat):Int)))) rfl) (tm':=zq1 (zq4 (zq8 (zq16 _)))) rfl <| xav ?_
   by_cases cc5:((t.m:Nat):Int)≠((u.m:Nat):Int)
   ·
    refine xdw rfl (dtt cc5) <| fsr <| ro (xax (v:=.bool (false)) rfl) <| xav ?_
    refine xev Tryd.func22 rfl (vs:=[.bool (false)]) (fun h_ H_=>⟨.bool (false),_,rfl,rfl,rfl⟩) (v:=.bool (false)) rfl ?_
    exact fun h_ H_=>K _ _ ⟨by first | (rw [decide_eq_true (p:=sameT t u) (xvv ‹_› ‹_› (by omega) (fun i hi=>hs i (by omega)))]) | (rw [decide_eq_false (p:=sameT t u) (fun z_=>absurd z_.1 ‹_›)]) | (rw [decide_eq_false (p:=sameT t u) (fun z_=>absurd z_.2.1 ‹_›)]) | (rw [decide_eq_false (p:=sameT t u) (fun z_=>by have z2_:=congrArg List.length z_.2.2;unfold Tn.m at *;omega)]) | (rw [decide_eq_false (p:=sameT t u) (xzw (k:=k) ‹_›)]),H_.kept⟩
   ·
    refine xdx rfl (dff cc5) <| xdk <| xek <| fsr <| ro (xax (v:=.int .i64 0) rfl) <| xav ?_
    refine xez ?_
    refine xiv (m₀:=t.m-0) (fun m_ tm_ h_=>∃ (k:Nat),m_=t.m-k∧(∃ y6:Nat→Value,tm_=[.agg #[.slice a1 t.nH c1,.slice a2 t.nW c2,.slice a3 t.m c3],.agg #[.slice a1' u.nH c1',.slice a2' u.nW c2',.slice a3' u.m c3'],.pointer (some ⟨b1,0,none⟩),.pointer (some ⟨b2,0,none⟩),(y6 4),.int .i64 (((k:Nat):Int)),.pointer (some ⟨b1,0,none⟩),.slice a1 t.nH c1,.pointer (some ⟨b2,0,none⟩),.slice a1' u.nH c1',.bool (decide (t.hs=u.hs)),.bool (!(decide (t.hs=u.hs))),.bool (!(decide (t.hs=u.hs))),.pointer (some ⟨b1,1,none⟩),.slice a2 t.nW c2,.pointer (some ⟨b2,1,none⟩),.slice a2' u.nW c2',.bool (decide (t.ws=u.ws)),.bool (!(decide (t.ws=u.ws))),.bool (!(decide (t.ws=u.ws))),.bool (!(decide (t.ws=u.ws))),.pointer (some ⟨b1,2,none⟩),.slice a3 t.m c3,.int .i64 (((t.m:Nat):Int)),.pointer (some ⟨b2,2,none⟩),.slice a3' u.m c3',.int .i64 (((u.m:Nat):Int)),.bool (decide (((t.m:Nat):Int)≠((u.m:Nat):Int))),.bool (decide (((t.m:Nat):Int)≠((u.m:Nat):Int))),(y6 29),(y6 30),(y6 31),(y6 32),(y6 33),(y6 34),(y6 35),(y6 36),(y6 37),(y6 38),(y6 39),(y6 40),(y6 41),(y6 42),(y6 43),(y6 44),(y6 45),(y6 46)])∧(k≤t.m)∧(∀ i,i<k→t.wy.getD i wz=u.wy.getD i wz)∧St h [] p h_ ([(b2,.cells #[.slice a1' u.nH c1',.slice a2' u.nW c2',.slice a3' u.m c3'] 25 (0,0)),(b1,.cells #[.slice a1 t.nH c1,.slice a2 t.nW c2,.slice a3 t.m c3] 25 (0,0))])) (fun h_ H_=>⟨0,rfl,(y_of rfl),Nat.zero_le _,(fun i hi=>absurd hi (Nat.not_lt_zero i)),H_⟩) ?_
    intro m_ tm_ IH7
    refine xhj fun k=>xcw fun hm_=>xcw fun ht_=>xcw fun hk=>xcw fun hs=>?_
    subst hm_;obtain ⟨y6,ht_⟩:=ht_;subst ht_
    refine xek <| fsr <| rt (xaq (v:=.int .i64 (((k:Nat):Int))) rfl) (tm':=zq2 (zq4 (zq8 (zq16 _)))) rfl <| ro (xaz xhk rfl (a':=⟨b1,2,none⟩) rfl) <| rd (fun h_ H_=>xaj H_ tA23 rfl (i:=1) rfl (v:=.slice a3 t.m c3) rfl) <| rt (xfk Tryd.underlying23 rfl) (tm':=zq1 (zq2 (zq4 (zq8 (zq32 []))))) rfl ?_
    refine ro (xgk rfl rfl) <| xav ?_
    by_cases cc8:((k:Nat):Int)<((t.m:Nat):Int)
    ·
     refine xdw rfl (dtt cc8) <| xdk <| xek <| xez <| xek ?_
     refine xgj 10 [[],[0],[],[0,1,2],[0,1,2,3],[],[5],[],[5,6,7],[5,6,7,8],[]] xkv (by kernel_rfl) (Nat.le_of_ble_eq_true rfl) ?_
     refine wt (xaz xhk rfl (a':=⟨b1,2,none⟩) rfl) (tm':=zq1 (zq2 (zq4 (zq8 (zq32 []))))) rfl <| wd (fun h_ H_=>xaj H_ tA23 rfl (i:=1) rfl (v:=.slice a3 t.m c3) rfl) <| wt (xaq (v:=.int .i64 (((k:Nat):Int))) rfl) (tm':=zq1 (zq2 (zq4 (zq8 (zq32 []))))) rfl ?_
     refine wo (xbw (i:=k) Tryd.underlying23 tS43 (xkj a3 t.m c3 (T.y.ne (by omega))) rfl (by omega)) ?_
     refine xbz mn (fun h_ H_=>xhq H_ tA43 tS43 rfl (vs:=[.int .i64 ((t.wy.getD k wz).1),.int .i64 ((t.wy.getD k wz).2)]) rfl (T.y.all (by omega))) (tm':=zq1 (zq2 (zq4 (zq8 (zq32 []))))) rfl ?_
     refine wo (xaz xhk rfl (a':=⟨b2,2,none⟩) rfl) ?_
     refine xbz mn (fun h_ H_=>xaj H_ tA23 rfl (i:=0) rfl (v:=.slice a3' u.m c3') rfl) (tm':=zq1 (zq2 (zq4 (zq8 (zq32 []))))) rfl ?_
     refine wo (xaq (v:=.int .i64 (((k:Nat):Int))) rfl) ?_
     refine wt (xbw (i:=k) Tryd.underlying23 tS43 (xkj a3' u.m c3' (U.y.ne (by omega))) rfl (by omega)) (tm':=zq1 (zq2 (zq4 (zq8 (zq32 []))))) rfl ?_
     refine wd (fun h_ H_=>xhq H_ tA43 tS43 rfl (vs:=[.int .i64 ((u.wy.getD k wz).1),.int .i64 ((u.wy.getD k wz).2)]) rfl (U.y.all (by omega))) ?_
     refine xiw rfl ?_
     refine rt (yyv gT43 (wxw 9998 _ _ _ _) rfl rfl) (tm':=zq1 (zq2 (zq4 (zq8 (zq32 []))))) rfl <| xav ?_
     by_cases cc9:(t.wy.getD k wz).1=(u.wy.getD k wz).1∧(t.wy.getD k wz).2=(u.wy.getD k wz).2
     ·
      refine xdx rfl (xej (dtt cc9)) <| xdk <| xeq <| xbx <| ro (xaq (v:=.int .i64 (((k:Nat):Int))) rfl) ?_
      refine ro (xfq rfl rfl (n:=((k+1:Nat):Int)) (wr (by omega))) ?_
      refine rt (xax (v:=.int .i64 (((k+1:Nat):Int))) rfl) (tm':=zq2 (zq4 _)) rfl <| xav ?_
      exact fun h_ H_=>IH7 _ _ (by omega) h_ ⟨k+1,rfl,(y_of rfl),(by omega),(wzq hs ‹_›),H_⟩
     ·
      refine xdw rfl (xhw (dff cc9)) <| fsr <| ro (xax (v:=.bool (false)) rfl) <| xav ?_
      refine xev Tryd.func22 rfl (vs:=[.bool (false)]) (fun h_ H_=>⟨.bool (false),_,rfl,rfl,rfl⟩) (v:=.bool (false)) rfl ?_
      exact fun h_ H_=>K _ _ ⟨by first | (rw [decide_eq_true (p:=sameT t u) (xvv ‹_› ‹_› (by omega) (fun i hi=>hs i (by omega)))]) | (rw [decide_eq_false (p:=sameT t u) (fun z_=>absurd z_.1 ‹_›)]) | (rw [decide_eq_false (p:=sameT t u) (fun z_=>absurd z_.2.1 ‹_›)]) | (rw [decide_eq_false (p:=sameT t u) (fun z_=>by have z2_:=congrArg List.length z_.2.2;unfold Tn.m at *;omega)]) | (rw [decide_eq_false (p:=sameT t u) (xzw (k:=k) ‹_›)]),H_.kept⟩
    ·
     refine xdx rfl (dff cc8) <| xiz rfl <| fsr <| ro (xax (v:=.bool (true)) rfl) <| xav ?_
     refine xev Tryd.func22 rfl (vs:=[.bool (true)]) (fun h_ H_=>⟨.bool (true),_,rfl,rfl,rfl⟩) (v:=.bool (true)) rfl ?_
     exact fun h_ H_=>K _ _ ⟨by first | (rw [decide_eq_true (p:=sameT t u) (xvv ‹_› ‹_› (by omega) (fun i hi=>hs i (by omega)))]) | (rw [decide_eq_false (p:=sameT t u) (fun z_=>absurd z_.1 ‹_›)]) | (rw [decide_eq_false (p:=sameT t u) (fun z_=>absurd z_.2.1 ‹_›)]) | (rw [decide_eq_false (p:=sameT t u) (fun z_=>by have z2_:=congrArg List.length z_.2.2;unfold Tn.m at *;omega)]) | (rw [decide_eq_false (p:=sameT t u) (xzw (k:=k) ‹_›)]),H_.kept⟩
  ·
   refine xfj (mo rfl rfl (xhw (dff cc4))) (tm':=zq2 (zq4 (zq16 _))) rfl <| rp (mo rfl rfl (xhw (dff cc4))) <| rp (mo rfl rfl (xhw (dff cc4))) <| xfj (mo rfl rfl (xhw (dff cc4))) (tm':=zq1 (zq8 (zq16 _))) rfl <| rp (mo rfl rfl (xhw (dff cc4))) <| rp (mo rfl rfl (xhw (dff cc4))) ?_
   refine xfj (mo rfl rfl (xhw (dff cc4))) (tm':=zq4 (zq8 (zq16 _))) rfl <| ro (xdj rfl (xhw (dff cc4)) (v:=.bool (true)) rfl) <| xav <| xdw rfl rfl <| fsr <| ro (xax (v:=.bool (false)) rfl) ?_
   refine xav ?_
   refine xev Tryd.func22 rfl (vs:=[.bool (false)]) (fun h_ H_=>⟨.bool (false),_,rfl,rfl,rfl⟩) (v:=.bool (false)) rfl ?_
   exact fun h_ H_=>K _ _ ⟨by first | (rw [decide_eq_true (p:=sameT t u) (xvv ‹_› ‹_› (by omega) (fun i hi=>hs i (by omega)))]) | (rw [decide_eq_false (p:=sameT t u) (fun z_=>absurd z_.1 ‹_›)]) | (rw [decide_eq_false (p:=sameT t u) (fun z_=>absurd z_.2.1 ‹_›)]) | (rw [decide_eq_false (p:=sameT t u) (fun z_=>by have z2_:=congrArg List.length z_.2.2;unfold Tn.m at *;omega)]) | (rw [decide_eq_false (p:=sameT t u) (xzw (k:=k) ‹_›)]),H_.kept⟩
 ·
  refine xfj (mo rfl rfl (xhw (dff cc3))) (tm':=zq2 (zq4 (zq8 _))) rfl <| rp (mo rfl rfl (xhw (dff cc3))) <| rp (mo rfl rfl (xhw (dff cc3))) <| xfj (mo rfl rfl (xhw (dff cc3))) (tm':=zq1 (zq16 _)) rfl <| rp (mo rfl rfl (xhw (dff cc3))) <| rp (mo rfl rfl (xhw (dff cc3))) ?_
  refine rt (xdj rfl (xhw (dff cc3)) (v:=.bool (true)) rfl) (tm':=zq4 (zq16 _)) rfl <| ro (xaq (v:=.bool (true)) rfl) <| rp (mo rfl rfl rfl) <| xfj (mo rfl rfl rfl) (tm':=zq1 (zq2 (zq4 (zq16 _)))) rfl <| rp (mo rfl rfl rfl) <| rp (mo rfl rfl rfl) ?_
  refine xfj (mo rfl rfl rfl) (tm':=zq2 (zq8 (zq16 _))) rfl <| rp (mo rfl rfl rfl) <| rp (mo rfl rfl rfl) <| rt (xdj rfl rfl (v:=.bool (true)) rfl) (tm':=zq1 (zq4 (zq8 (zq16 _)))) rfl <| xav <| xdw rfl rfl ?_
  refine fsr <| ro (xax (v:=.bool (false)) rfl) <| xav ?_
  refine xev Tryd.func22 rfl (vs:=[.bool (false)]) (fun h_ H_=>⟨.bool (false),_,rfl,rfl,rfl⟩) (v:=.bool (false)) rfl ?_
  exact fun h_ H_=>K _ _ ⟨by first | (rw [decide_eq_true (p:=sameT t u) (xvv ‹_› ‹_› (by omega) (fun i hi=>hs i (by omega)))]) | (rw [decide_eq_false (p:=sameT t u) (fun z_=>absurd z_.1 ‹_›)]) | (rw [decide_eq_false (p:=sameT t u) (fun z_=>absurd z_.2.1 ‹_›)]) | (rw [decide_eq_false (p:=sameT t u) (fun z_=>by have z2_:=congrArg List.length z_.2.2;unfold Tn.m at *;omega)]) | (rw [decide_eq_false (p:=sameT t u) (xzw (k:=k) ‹_›)]),H_.kept⟩
end Go.Proofs.YtalfgojocdonhaaDoor
namespace Go.Proofs.YtalfgojocdonhaaDoor
open Go.X Go.X.Flow Go.Conc
set_option maxRecDepth 10000
set_option synthInstance.maxSize 2000

set_option maxHeartbeats 2000000
theorem c51 (md:Md) (h:Heap) (p:PHeap) (hp:Per p h) (a1 a2 a3:Option Addr) (c1 c2 c3:Nat) (t:Tn) (T:TownP p a1 t.nH a2 t.nW a3 t.m t) (hn:t.nH≤40∧t.nW≤40∧t.m≤41) (O:OkT t) (x y:Int):CallsX Tryd.prog md 51 #[.agg #[.slice a1 t.nH c1,.slice a2 t.nW c2,.slice a3 t.m c3],.int .i64 (x),.int .i64 (y)] h fun v h'=>v= .bool (moreB t x y)∧Keep h h':=by
 refine xdq (Φ:=fun h_=>St h [] p h_ []) Tryd.func51 rfl (tm:=zq1 (zq2 (zq32 (zq32 [])))) rfl ?_ (St.start h _ hp)
 intro c₀ cs Stop K
 have hO:=O
 have oM_:=hO.nm
 refine fsr ?_
 refine xjx mn (v:=.agg #[.slice a1 t.nH c1,.slice a2 t.nW c2,.slice a3 t.m c3]) rfl fun b1=>xcq (L':=[(b1,.cells #[.slice a1 t.nH c1,.slice a2 t.nW c2,.slice a3 t.m c3] 25 (0,0))]) rfl ?_
 refine ro (xax (v:=.bool (false)) rfl) <| ren <| xbx <| rt (xax (v:=.int .i64 1) rfl) (tm':=zq8 _) rfl <| ren <| fsr ?_
 refine ro (xax (v:=.int .i64 0) rfl) <| xav <| xez ?_
 refine xiv (m₀:=t.m-0) (fun m_ tm_ h_=>∃ (k:Nat) (s:Int),m_=t.m-k∧(∃ y2:Nat→Value,tm_=(.agg #[.slice a1 t.nH c1,.slice a2 t.nW c2,.slice a3 t.m c3]::.int .i64 (x)::.int .i64 (y)::.pointer (some ⟨b1,0,none⟩)::undef::undef::(y2 6)::.int .i64 (s)::.int .i64 (((k:Nat):Int))::(y2 9)::(y2 10)::(y2 11)::(y2 12)::(y2 13)::(y2 14)::(y2 15)::(y2 16)::(y2 17)::(y2 18)::(y2 19)::(y2 20)::(y2 21)::(y2 22)::(y2 23)::(y2 24)::(y2 25)::(y2 26)::(y2 27)::(y2 28)::(y2 29)::(y2 30)::(y2 31)::(y2 32)::(y2 33)::(y2 34)::(y2 35)::(y2 36)::(y2 37)::(y2 38)::(y2 39)::(y2 40)::(y2 41)::(y2 42)::zu8 (zu16 [])))∧(k≤t.m)∧(s=prodM t k)∧(s≤2000)∧St h [] p h_ ([(b1,.cells #[.slice a1 t.nH c1,.slice a2 t.nW c2,.slice a3 t.m c3] 25 (0,0))])) (fun h_ H_=>⟨0,1,rfl,(y_of rfl),Nat.zero_le _,rfl,(by decide),H_⟩) ?_
 intro m_ tm_ IH3
 refine xhj fun k=>xhj fun s=>xcw fun hm_=>xcw fun ht_=>xcw fun hk=>xcw fun hs=>xcw fun h2=>?_
 subst hm_;obtain ⟨y2,ht_⟩:=ht_;subst ht_
 have hy_:=fun z_:k<t.m=>hO.y k z_
 have hp_:1≤s:=by rw [hs];exact ysj hO.toOk k hk
 refine xek <| fsr <| ro (xaq (v:=.int .i64 (((k:Nat):Int))) rfl) <| rt (xaz xhk rfl (a':=⟨b1,2,none⟩) rfl) (tm':=zq1 (zq2 (zq8 _))) rfl <| rd (fun h_ H_=>xaj H_ tA23 rfl (i:=0) rfl (v:=.slice a3 t.m c3) rfl) <| ro (xfk Tryd.underlying23 rfl) ?_
 refine rt (xgk rfl rfl) (tm':=zq2 (zq4 (zq8 _))) rfl <| xav ?_
 by_cases cc4:((k:Nat):Int)<((t.m:Nat):Int)
 ·
  refine xdw rfl (dtt cc4) <| xdk <| xek <| xez <| xek ?_
  refine xgj 24 [[],[],[1],[],[3],[],[3,4,5],[3,4,5,6],[3,4,5,6,7],[1,2,3,4,5,6,7,8],[1,2,3,4,5,6,7,8,9],[],[11],[],[13],[],[13,14,15],[13,14,15,16],[13,14,15,16,17],[11,12,13,14,15,16,17,18],[11,12,13,14,15,16,17,18,19],[11,12,13,14,15,16,17,18,19,20],[1,2,3,4,5,6,7,8,9,10,11,12,13,14,15,16,17,18,19,20,21],[1,2,3,4,5,6,7,8,9,10,11,12,13,14,15,16,17,18,19,20,21,22],[],[]] xkv (by kernel_rfl) (Nat.le_of_ble_eq_true rfl) ?_
  refine wt (xaq (v:=.int .i64 (s)) rfl) (tm':=zq1 (zq16 _)) rfl <| wo (xaz xlw rfl (a':=⟨b1,0,none⟩) rfl) ?_
  refine xbz mn (fun h_ H_=>xaj H_ tA22 rfl (i:=0) rfl (v:=.slice a1 t.nH c1) rfl) (tm':=zq1 (zq2 (zq16 _))) rfl ?_
  refine wo (xaz xhk rfl (a':=⟨b1,2,none⟩) rfl) ?_
  refine xbz mn (fun h_ H_=>xaj H_ tA23 rfl (i:=0) rfl (v:=.slice a3 t.m c3) rfl) (tm':=zq1 (zq4 (zq16 _))) rfl ?_
  refine wo (xaq (v:=.int .i64 (((k:Nat):Int))) rfl) ?_
  refine wt (xbw (i:=k) Tryd.underlying23 tS43 (xkj a3 t.m c3 (T.y.ne (by omega))) rfl (by omega)) (tm':=zq1 (zq2 (zq4 (zq16 _)))) rfl ?_
  refine wo (xaz xoj rfl (a':=(adr a3).add (k*2)) rfl) ?_
  refine xbz mn (fun h_ H_=>xbv H_ tA3 rfl (v:=.int .i64 (((t.wh k:Nat):Int))) (T.y.hoN (by omega) (hO.yp _ (by omega)).1)) (tm':=zq1 (zq8 (zq16 _))) rfl ?_
  refine wo (xbw (i:=(t.wh k)) Tryd.underlying22 tS3 (xkj a1 t.nH c1 (T.h.ne (by omega))) rfl (by omega)) ?_
  refine xbz mn (fun h_ H_=>xbv H_ tA3 rfl (v:=.int .i64 (t.hv (t.wh k))) (T.h.get (by omega))) (tm':=zq1 (zq2 (zq8 (zq16 _)))) rfl ?_
  refine wo (xaz xmz rfl (a':=⟨b1,1,none⟩) rfl) ?_
  refine xbz mn (fun h_ H_=>xaj H_ tA22 rfl (i:=0) rfl (v:=.slice a2 t.nW c2) rfl) (tm':=zq1 (zq4 (zq8 (zq16 _)))) rfl ?_
  refine wo (xaz xhk rfl (a':=⟨b1,2,none⟩) rfl) ?_
  refine xbz mn (fun h_ H_=>xaj H_ tA23 rfl (i:=0) rfl (v:=.slice a3 t.m c3) rfl) (tm':=zq1 (zq2 (zq4 (zq8 (zq16 _))))) rfl ?_
  refine wo (xaq (v:=.int .i64 (((k:Nat):Int))) rfl) ?_
  refine wt (xbw (i:=k) Tryd.underlying23 tS43 (xkj a3 t.m c3 (T.y.ne (by omega))) rfl (by omega)) (tm':=zq1 (zq32 _)) rfl ?_
  refine wo (xaz xpx rfl (a':=((adr a3).add (k*2)).add 1) rfl) ?_
  refine xbz mn (fun h_ H_=>xbv H_ tA3 rfl (v:=.int .i64 (((t.ww k:Nat):Int))) (T.y.weN (by omega) (hO.yp _ (by omega)).2)) (tm':=zq1 (zq2 (zq32 _))) rfl ?_
  refine wo (xbw (i:=(t.ww k)) Tryd.underlying22 tS3 (xkj a2 t.nW c2 (T.w.ne (by omega))) rfl (by omega)) ?_
  refine xbz mn (fun h_ H_=>xbv H_ tA3 rfl (v:=.int .i64 (t.wv (t.ww k))) (T.w.get (by omega))) (tm':=zq1 (zq4 (zq32 _))) rfl ?_
  refine wo (xfq rfl rfl (wr (by have z1_:=hy_ (by omega);have z2_:=hO.h _ z1_.1;have z3_:=hO.w _ z1_.2;omega))) ?_
  refine wt (yuk rfl rfl) (tm':=zq1 (zq2 (zq4 (zq32 _)))) rfl ?_
  refine wo (xfq rfl rfl (wr (by have z1_:=hy_ (by omega);have z2_:=hO.h _ z1_.1;have z3_:=hO.w _ z1_.2;omega))) ?_
  refine xiw rfl ?_
  refine ro (yuj rfl rfl (wr (by have z1_:=hy_ (by omega);have z2_:=hO.h _ z1_.1;have z3_:=hO.w _ z1_.2;have z4_:0≤min (t.hv (t.wh k)) (t.wv (t.ww k)+1)+1∧min (t.hv (t.wh k)) (t.wv (t.ww k)+1)+1≤10:=(by omega);have z5_:=Int.mul_le_mul (show s≤2000 by omega) z4_.2 z4_.1 (by decide);have z6_:=Int.mul_nonneg (show 0≤s by omega) z4_.1;omega))) ?_
  refine ro (xax (v:=.int .i64 (s*((min (t.hv (t.wh k)) ((t.wv (t.ww k))+1))+1))) rfl) <| ren <| xbx <| rt (xaq (v:=.int .i64 (s*((min (t.hv (t.wh k)) ((t.wv (t.ww k))+1))+1))) rfl) (tm':=zq2 (zq8 (zq32 _))) rfl <| ro (xjq rfl rfl) <| xav ?_
  by_cases cc5:2000<s*((min (t.hv (t.wh k)) ((t.wv (t.ww k))+1))+1)
  ·
   refine xdw rfl (dtt cc5) <| fsr <| ro (xax (v:=.bool (true)) rfl) <| xav ?_
   refine xev Tryd.func51 rfl (vs:=[.bool (true)]) (fun h_ H_=>⟨.bool (true),_,rfl,rfl,rfl⟩) (v:=.bool (true)) rfl ?_
   exact fun h_ H_=>K _ _ ⟨by rw [wpv hO.toOk (k:=k+1) (by omega) (by rw [prodM,← hs];unfold facM;assumption)],H_.kept⟩
  ·
   refine xdx rfl (dff cc5) <| xdk <| xeq <| xbx <| rt (xaq (v:=.int .i64 (((k:Nat):Int))) rfl) (tm':=zq1 (zq2 (zq4 (zq8 _)))) rfl ?_
   refine ro (xfq rfl rfl (n:=((k+1:Nat):Int)) (wr (by omega))) ?_
   refine ro (xax (v:=.int .i64 (((k+1:Nat):Int))) rfl) <| xav ?_
   exact fun h_ H_=>IH3 _ _ (by omega) h_ ⟨k+1,s*((min (t.hv (t.wh k)) ((t.wv (t.ww k))+1))+1),rfl,(y_of rfl),(by omega),(by rw [hs,prodM];rfl),(by omega),H_⟩
 ·
  refine xdx rfl (dff cc4) <| xiz rfl <| xek <| fsr ?_
  refine xbq mn (fun h_ H_=>xaw H_ tA25 tS25 rfl (i:=0) rfl (vs:=[.slice a1 t.nH c1,.slice a2 t.nW c2,.slice a3 t.m c3]) rfl rfl) (tm':=zq4 (zq8 (zq32 _))) rfl ?_
  refine ro (xaq (v:=.int .i64 (x)) rfl) ?_
  refine xdv mn (first:=[]) (cap:=[]) rfl rfl fC33 (fun h_ H_=>c33 md _ _ H_.pe _ _ _ _ _ _ _ _ _ t (show TownP _ _ _ _ _ _ _ t from ⟨T.h,T.w,T.y⟩) (by omega) (x)) rfl ?_
  refine rt (xaq (v:=.bool (decide (0≤x∧x≤(t.nH:Int)-1))) rfl) (tm':=zq1 (zq2 (zq32 (zq32 [])))) rfl ?_
  by_cases cc6:0≤x∧x≤(t.nH:Int)-1
  ·
   refine xbq (ms rfl rfl (dtt cc6)) (fun h_ H_=>xaw H_ tA25 tS25 rfl (i:=0) rfl (vs:=[.slice a1 t.nH c1,.slice a2 t.nW c2,.slice a3 t.m c3]) rfl rfl) rfl ?_
   refine xbq (ms rfl rfl (dtt cc6)) (fun h_ H_=>xaq (v:=.int .i64 (y)) rfl) rfl ?_
   refine xdv (ms rfl rfl (dtt cc6)) (first:=[]) (cap:=[]) rfl rfl fC57 (fun h_ H_=>c57 md _ _ H_.pe _ _ _ _ _ _ _ _ _ t (show TownP _ _ _ _ _ _ _ t from ⟨T.h,T.w,T.y⟩) (by omega) (y)) (tm':=zq1 (zq2 (zq32 (zq32 [])))) rfl ?_
   refine ro (xdj rfl (dtt cc6) (v:=.bool (decide (0≤y∧y≤(t.nW:Int)-1))) rfl) <| xav ?_
   by_cases cc7:0≤y∧y≤(t.nW:Int)-1
   ·
    refine xdw rfl (dtt cc7) ?_
    refine xgj 13 [[],[],[1],[],[1,2,3],[1,2,3,4],[],[6],[],[6,7,8],[6,7,8,9],[1,2,3,4,5,6,7,8,9,10],[1,2,3,4,5,6,7,8,9,10,11],[],[]] xkv (by kernel_rfl) (Nat.le_of_ble_eq_true rfl) ?_
    refine wt (xaq (v:=.int .i64 (s)) rfl) (tm':=zq1 (zq2 (zq32 (zq32 [])))) rfl <| wo (xaz xlw rfl (a':=⟨b1,0,none⟩) rfl) ?_
    refine xbz mn (fun h_ H_=>xaj H_ tA22 rfl (i:=0) rfl (v:=.slice a1 t.nH c1) rfl) (tm':=zq1 (zq2 (zq32 (zq32 [])))) rfl ?_
    refine wo (xaq (v:=.int .i64 (x)) rfl) ?_
    refine wt (xnk Tryd.underlying22 tS3 (xkj a1 t.nH c1 (T.h.ne (by omega))) rfl (by omega) (by omega) (a':=(adr a1).add (((x).toNat)*1)) rfl) (tm':=zq1 (zq2 (zq32 (zq32 [])))) rfl ?_
    refine wd (fun h_ H_=>xbv H_ tA3 rfl (v:=.int .i64 (t.hs.getD ((x).toNat) 0)) (T.h.get (by omega))) ?_
    refine wt (xaz xmz rfl (a':=⟨b1,1,none⟩) rfl) (tm':=zq1 (zq2 (zq32 (zq32 [])))) rfl <| wd (fun h_ H_=>xaj H_ tA22 rfl (i:=0) rfl (v:=.slice a2 t.nW c2) rfl) <| wt (xaq (v:=.int .i64 (y)) rfl) (tm':=zq1 (zq2 (zq32 (zq32 [])))) rfl ?_
    refine wo (xnk Tryd.underlying22 tS3 (xkj a2 t.nW c2 (T.w.ne (by omega))) rfl (by omega) (by omega) (a':=(adr a2).add (((y).toNat)*1)) rfl) ?_
    refine xbz mn (fun h_ H_=>xbv H_ tA3 rfl (v:=.int .i64 (t.ws.getD ((y).toNat) 0)) (T.w.get (by omega))) (tm':=zq1 (zq2 (zq32 (zq32 [])))) rfl ?_
    refine wo (yuk rfl rfl) ?_
    refine wt (xfq rfl rfl (wr (by have z2_:0≤t.hs.getD x.toNat 0∧t.hs.getD x.toNat 0≤9:=hO.h _ (by omega);have z3_:0≤t.ws.getD y.toNat 0∧t.ws.getD y.toNat 0≤21:=hO.w _ (by omega);omega))) (tm':=zq1 (zq2 (zq32 (zq32 [])))) rfl ?_
    refine xiw rfl ?_
    refine rt (yuj rfl rfl (wr (by have z2_:0≤t.hs.getD x.toNat 0∧t.hs.getD x.toNat 0≤9:=hO.h _ (by omega);have z3_:0≤t.ws.getD y.toNat 0∧t.ws.getD y.toNat 0≤21:=hO.w _ (by omega);have z4_:0≤min (t.hs.getD x.toNat 0) (t.ws.getD y.toNat 0)+1∧min (t.hs.getD x.toNat 0) (t.ws.getD y.toNat 0)+1≤10:=(by omega);have z5_:=Int.mul_le_mul (show s≤2000 by omega) z4_.2 z4_.1 (by decide);have z6_:=Int.mul_nonneg (show 0≤s by omega) z4_.1;omega))) (tm':=zq1 (zq2 (zq32 (zq32 [])))) rfl ?_
    refine ro (xax (v:=.int .i64 (s*((min (t.hs.getD ((x).toNat) 0) (t.ws.getD ((y).toNat) 0))+1))) rfl) <| ren <| xbx <| ro (xaq (v:=.int .i64 (s*((min (t.hs.getD ((x).toNat) 0) (t.ws.getD ((y).toNat) 0))+1))) rfl) <| rt (xjq rfl rfl) (tm':=zq1 (zq2 (zq32 (zq32 [])))) rfl <| ro (xax (v:=.bool (decide (2000<s*((min (t.hs.getD ((x).toNat) 0) (t.ws.getD ((y).toNat) 0))+1)))) rfl) ?_
    refine xav ?_
    refine xev Tryd.func51 rfl (vs:=[.bool (decide (2000<s*((min (t.hs.getD ((x).toNat) 0) (t.ws.getD ((y).toNat) 0))+1)))]) (fun h_ H_=>⟨.bool (decide (2000<s*((min (t.hs.getD ((x).toNat) 0) (t.ws.getD ((y).toNat) 0))+1))),_,rfl,rfl,rfl⟩) (v:=.bool (decide (2000<s*((min (t.hs.getD ((x).toNat) 0) (t.ws.getD ((y).toNat) 0))+1)))) rfl ?_
    have e_:k=t.m:=by omega
    exact fun h_ H_=>K _ _ ⟨by rw [wpk (by rw [← e_,← hs];exact h2) ⟨by assumption,by assumption⟩,← e_,← hs];rfl,H_.kept⟩
   ·
    refine xdx rfl (dff cc7) <| xdk <| fsr <| ro (xaq (v:=.int .i64 (s)) rfl) <| rt (xjq rfl rfl) (tm':=zq1 (zq2 (zq32 (zq32 [])))) rfl <| ro (xax (v:=.bool (decide (2000<s))) rfl) ?_
    refine xav ?_
    refine xev Tryd.func51 rfl (vs:=[.bool (decide (2000<s))]) (fun h_ H_=>⟨.bool (decide (2000<s)),_,rfl,rfl,rfl⟩) (v:=.bool (decide (2000<s))) rfl ?_
    have e_:k=t.m:=by omega
    exact fun h_ H_=>K _ _ ⟨by rw [wiz (fun z_=>by first | exact absurd z_.1 ‹_› | exact absurd z_.2 ‹_›),← e_,← hs],H_.kept⟩
  ·
   refine rp (mo rfl rfl (dff cc6)) <| xfj (mo rfl rfl (dff cc6)) (tm':=zq1 (zq2 (zq32 (zq32 [])))) rfl <| rp (mo rfl rfl (dff cc6)) <| ro (xck rfl (dff cc6) (v:=.bool (false)) rfl) <| xav <| xdx rfl rfl ?_
   refine xdk <| fsr <| rt (xaq (v:=.int .i64 (s)) rfl) (tm':=zq1 (zq2 (zq32 (zq32 [])))) rfl <| ro (xjq rfl rfl) <| ro (xax (v:=.bool (decide (2000<s))) rfl) <| xav ?_
   refine xev Tryd.func51 rfl (vs:=[.bool (decide (2000<s))]) (fun h_ H_=>⟨.bool (decide (2000<s)),_,rfl,rfl,rfl⟩) (v:=.bool (decide (2000<s))) rfl ?_
   have e_:k=t.m:=by omega
   exact fun h_ H_=>K _ _ ⟨by rw [wiz (fun z_=>by first | exact absurd z_.1 ‹_› | exact absurd z_.2 ‹_›),← e_,← hs],H_.kept⟩
end Go.Proofs.YtalfgojocdonhaaDoor
namespace Go.Proofs.YtalfgojocdonhaaDoor
open Go.X Go.X.Flow Go.Conc
set_option maxRecDepth 10000
set_option synthInstance.maxSize 2000

set_option maxHeartbeats 2000000
theorem c58 (md:Md) (h:Heap) (p:PHeap) (hp:Per p h) (a1 a2 a3:Option Addr) (c1 c2 c3:Nat) (t:Tn) (T:TownP p a1 t.nH a2 t.nW a3 t.m t) (hn:t.nH≤40∧t.nW≤40∧t.m≤41) (O:OkT t) (z:Int) (hz:0≤z∧z≤(t.nW:Int)-1):CallsX Tryd.prog md 58 #[.agg #[.slice a1 t.nH c1,.slice a2 t.nW c2,.slice a3 t.m c3],.int .i64 (z)] h fun v h'=>∃ w1 w2 w3 X1 X2 X3,v= .agg #[w1,w2,w3]∧OwnS 3 1 w1 (ics t.hs) X1∧OwnS 3 1 w2 (ics (pour t z.toNat).ws) X2∧OwnS 43 2 w3 (wcs t.wy) X3∧New h h' (X2++(X3++(X1++[]))):=by
 refine xdq (Φ:=fun h_=>St h [] p h_ []) Tryd.func58 rfl (tm:=zq16 []) rfl ?_ (St.start h _ hp)
 intro c₀ cs Stop K
 refine fsr ?_
 refine xjx mn (v:=.agg #[.slice a1 t.nH c1,.slice a2 t.nW c2,.slice a3 t.m c3]) rfl fun b1=>xcq (L':=[(b1,.cells #[.slice a1 t.nH c1,.slice a2 t.nW c2,.slice a3 t.m c3] 25 (0,0))]) rfl ?_
 refine xkx mn tZ25 rfl fun b2=>xcq (L':=[(b2,.cells #[.slice none 0 0,.slice none 0 0,.slice none 0 0] 25 (0,0)),(b1,.cells #[.slice a1 t.nH c1,.slice a2 t.nW c2,.slice a3 t.m c3] 25 (0,0))]) rfl ?_
 refine ren <| xbx ?_
 refine xbq mn (fun h_ H_=>xaw H_ tA25 tS25 rfl (i:=1) rfl (vs:=[.slice a1 t.nH c1,.slice a2 t.nW c2,.slice a3 t.m c3]) rfl rfl) (tm':=zq1 (zq2 (zq4 _))) rfl ?_
 refine xcq (L':=([(b2,.cells #[.slice none 0 0,.slice none 0 0,.slice none 0 0] 25 (0,0)),(b1,.cells #[.slice a1 t.nH c1,.slice a2 t.nW c2,.slice a3 t.m c3] 25 (0,0))]:Pcs)++[]) rfl ?_
 refine xjj mn (first:=[]) (cap:=[]) rfl rfl fC17 (R:=fun v_ h_=>∃ w3:Value,∃ w4:Value,∃ w5:Value,∃ X6:Pcs,∃ X7:Pcs,∃ X8:Pcs,v_= .agg #[w3,w4,w5]∧(OwnS 3 1 w3 (ics t.hs) X6)∧(OwnS 3 1 w4 (ics t.ws) X7)∧(OwnS 43 2 w5 (wcs t.wy) X8)∧St h [] p h_ (([(b2,.cells #[.slice none 0 0,.slice none 0 0,.slice none 0 0] 25 (0,0)),(b1,.cells #[.slice a1 t.nH c1,.slice a2 t.nW c2,.slice a3 t.m c3] 25 (0,0))]:Pcs)++((X8++(X6++(X7++[])))++[]))) (fun h_ H_=>(c17 md _ _ H_.pe _ _ _ _ _ _ t (show TownP _ _ _ _ _ _ _ t from ⟨T.h,T.w,T.y⟩) (by omega)).mono fun v_ h2_ ⟨w3,w4,w5,X6,X7,X8,e_,o9,o10,o11,N_⟩=>⟨w3,w4,w5,X6,X7,X8,e_,o9,o10,o11,H_.callNA N_⟩) fun v_=>?_
 refine xgz fun w3=>xgz fun w4=>xgz fun w5=>xgz fun X6=>xgz fun X7=>xgz fun X8=>xfx fun ev_=>xfx fun o9=>xfx fun o10=>xfx fun o11=>?_
 have ev_:=ev_.symm;subst ev_
 refine xcq (L':=([(b2,.cells #[.slice none 0 0,.slice none 0 0,.slice none 0 0] 25 (0,0)),(b1,.cells #[.slice a1 t.nH c1,.slice a2 t.nW c2,.slice a3 t.m c3] 25 (0,0))]:Pcs)++(X8++(X6++(X7++[])))) (by simp) ?_
 refine xkx mn tZ25 rfl fun b12=>xcq (L':=([(b12,.cells #[.slice none 0 0,.slice none 0 0,.slice none 0 0] 25 (0,0)),(b2,.cells #[.slice none 0 0,.slice none 0 0,.slice none 0 0] 25 (0,0)),(b1,.cells #[.slice a1 t.nH c1,.slice a2 t.nW c2,.slice a3 t.m c3] 25 (0,0))]:Pcs)++(X8++(X6++(X7++[])))) rfl ?_
 refine xiq mn tS25 rfl (v:=.agg #[w3,w4,w5]) rfl (i:=0) rfl rfl (xew o9.one.2 (xew o10.one.2 (xew o11.one.2 rfl))) (Nat.le_of_ble_eq_true rfl) (cs2:=[w3,w4,w5]) rfl (xcq (L':=([(b12,.cells #[w3,w4,w5] 25 (0,0)),(b2,.cells #[.slice none 0 0,.slice none 0 0,.slice none 0 0] 25 (0,0)),(b1,.cells #[.slice a1 t.nH c1,.slice a2 t.nW c2,.slice a3 t.m c3] 25 (0,0))]:Pcs)++(X8++(X6++(X7++[])))) rfl ?_)
 refine ren <| xbx <| rt (xaz xmz rfl (a':=⟨b12,1,none⟩) rfl) (tm':=zq1 (zq8 _)) rfl <| rd (fun h_ H_=>xaj H_ tA22 rfl (i:=0) rfl (v:=w4) rfl) <| ro (xaq (v:=.int .i64 (z)) rfl) ?_
 refine rt (xoq o10 Tryd.underlying22 tS3 rfl rfl (by omega) (by rw [(show (ics t.ws).length=t.nW from xcx _)];omega)) (tm':=zq16 []) rfl ?_
 refine rd (fun h_ H_=>xvz (i:=(z).toNat) (j:=0) (e:=[.int .i64 (t.ws.getD ((z).toNat) 0)]) o10 H_ (fun x_ h_=>by simp [h_]) tA3 rfl rfl (xpz (show z.toNat<t.nW from by omega)) (u:=.int .i64 (t.ws.getD ((z).toNat) 0)) rfl) ?_
 refine ro (xfq rfl rfl (wr (by have z_:=O.w z.toNat (by omega);unfold Tn.wv at z_;omega))) ?_
 refine rt (xoq o10 Tryd.underlying22 tS3 rfl rfl (by omega) (by rw [(show (ics t.ws).length=t.nW from xcx _)];omega)) (tm':=zq16 []) rfl ?_
 refine xjz (List.Perm.append_left _ (List.Perm.append_left _ (List.perm_append_comm_assoc _ _ _))) ?_
 refine xjz (List.Perm.append_left _ (List.perm_append_comm_assoc _ _ _)) ?_
 refine xcq (L':=([(b12,.cells #[w3,w4,w5] 25 (0,0)),(b2,.cells #[.slice none 0 0,.slice none 0 0,.slice none 0 0] 25 (0,0)),(b1,.cells #[.slice a1 t.nH c1,.slice a2 t.nW c2,.slice a3 t.m c3] 25 (0,0))]:Pcs)++(X7++(X8++(X6++[])))) rfl ?_
 refine xsz (A:=([(b12,.cells #[w3,w4,w5] 25 (0,0)),(b2,.cells #[.slice none 0 0,.slice none 0 0,.slice none 0 0] 25 (0,0)),(b1,.cells #[.slice a1 t.nH c1,.slice a2 t.nW c2,.slice a3 t.m c3] 25 (0,0))]:Pcs)) (i:=(z).toNat) (j:=0) (e:=[.int .i64 (t.ws.getD ((z).toNat) 0)]) (u:=.int .i64 ((t.ws.getD ((z).toNat) 0)+1)) o10 mn tS3 rfl rfl rfl ⟨rfl,rfl⟩ (xpz (show z.toNat<t.nW from by omega)) (Nat.succ_le_iff.1 (Nat.le_of_ble_eq_true rfl)) fun X13 o14=>?_
 refine ren <| xbx <| rd (fun h_ H_=>xaw H_ tA25 tS25 rfl (i:=0) rfl (vs:=[w3,w4,w5]) rfl rfl) ?_
 refine xiq mn tS25 rfl (v:=.agg #[w3,w4,w5]) rfl (i:=1) rfl rfl (xew o9.one.2 (xew o14.one.2 (xew o11.one.2 rfl))) (Nat.le_of_ble_eq_true rfl) (cs2:=[w3,w4,w5]) rfl (xcq (L':=([(b12,.cells #[w3,w4,w5] 25 (0,0)),(b2,.cells #[w3,w4,w5] 25 (0,0)),(b1,.cells #[.slice a1 t.nH c1,.slice a2 t.nW c2,.slice a3 t.m c3] 25 (0,0))]:Pcs)++(X13++(X8++(X6++[])))) rfl ?_)
 refine xav ?_
 refine xev Tryd.func58 rfl (vs:=[.agg #[w3,w4,w5]]) (fun h_ H_=>⟨.agg #[w3,w4,w5],_,rfl,(xbj (xbk (xoz tA25 tS25 (vs:=[w3,w4,w5]) rfl (fun j_ v_ e_=>by rw [xox];exact H_.ocell (i:=1) rfl (by simpa using e_)) ⟨rfl,rfl⟩))),rfl⟩) (v:=.agg #[w3,w4,w5]) rfl ?_
 exact fun h_ H_=>K _ _ ⟨_,_,_,_,_,_,rfl,o9,o14.as ((xvk).trans (congrArg ics woj)),o11,by simpa using (H_.dropA).new⟩
theorem c26 (md:Md) (h:Heap) (p:PHeap) (hp:Per p h) (a1 a2 a3:Option Addr) (c1 c2 c3:Nat) (t:Tn) (T:TownP p a1 t.nH a2 t.nW a3 t.m t) (hn:t.nH≤40∧t.nW≤40∧t.m≤41) (x y:Int):CallsX Tryd.prog md 26 #[.agg #[.slice a1 t.nH c1,.slice a2 t.nW c2,.slice a3 t.m c3],.agg #[.int .i64 (x),.int .i64 (y)]] h fun v h'=>∃ w1 w2 w3 X1 X2 X3,v= .agg #[w1,w2,w3]∧OwnS 3 1 w1 (ics t.hs) X1∧OwnS 3 1 w2 (ics t.ws) X2∧OwnS 43 2 w3 (wcs (withW t (x,y))) X3∧New h h' (X3++(X1++(X2++[]))):=by
 refine xdq (Φ:=fun h_=>St h [] p h_ []) Tryd.func26 rfl (tm:=zq2 (zq4 (zq16 (zq32 [])))) rfl ?_ (St.start h _ hp)
 intro c₀ cs Stop K
 refine fsr ?_
 refine xjx mn (v:=.agg #[.slice a1 t.nH c1,.slice a2 t.nW c2,.slice a3 t.m c3]) rfl fun b1=>xcq (L':=[(b1,.cells #[.slice a1 t.nH c1,.slice a2 t.nW c2,.slice a3 t.m c3] 25 (0,0))]) rfl ?_
 refine xjx mn (v:=.agg #[.int .i64 (x),.int .i64 (y)]) rfl fun b2=>xcq (L':=[(b2,.cells #[.int .i64 (x),.int .i64 (y)] 43 (0,0)),(b1,.cells #[.slice a1 t.nH c1,.slice a2 t.nW c2,.slice a3 t.m c3] 25 (0,0))]) rfl ?_
 refine xgq (tm':=zq4 _) rfl ?_
 refine xkx mn tZ25 rfl fun b3=>xcq (L':=[(b3,.cells #[.slice none 0 0,.slice none 0 0,.slice none 0 0] 25 (0,0)),(b2,.cells #[.int .i64 (x),.int .i64 (y)] 43 (0,0)),(b1,.cells #[.slice a1 t.nH c1,.slice a2 t.nW c2,.slice a3 t.m c3] 25 (0,0))]) rfl ?_
 refine ren <| xbx <| rd (fun h_ H_=>xaw H_ tA25 tS25 rfl (i:=2) rfl (vs:=[.slice a1 t.nH c1,.slice a2 t.nW c2,.slice a3 t.m c3]) rfl rfl) ?_
 refine xcq (L':=([(b3,.cells #[.slice none 0 0,.slice none 0 0,.slice none 0 0] 25 (0,0)),(b2,.cells #[.int .i64 (x),.int .i64 (y)] 43 (0,0)),(b1,.cells #[.slice a1 t.nH c1,.slice a2 t.nW c2,.slice a3 t.m c3] 25 (0,0))]:Pcs)++[]) rfl ?_
 refine xjj mn (first:=[]) (cap:=[]) rfl rfl fC17 (R:=fun v_ h_=>∃ w4:Value,∃ w5:Value,∃ w6:Value,∃ X7:Pcs,∃ X8:Pcs,∃ X9:Pcs,v_= .agg #[w4,w5,w6]∧(OwnS 3 1 w4 (ics t.hs) X7)∧(OwnS 3 1 w5 (ics t.ws) X8)∧(OwnS 43 2 w6 (wcs t.wy) X9)∧St h [] p h_ (([(b3,.cells #[.slice none 0 0,.slice none 0 0,.slice none 0 0] 25 (0,0)),(b2,.cells #[.int .i64 (x),.int .i64 (y)] 43 (0,0)),(b1,.cells #[.slice a1 t.nH c1,.slice a2 t.nW c2,.slice a3 t.m c3] 25 (0,0))]:Pcs)++((X9++(X7++(X8++[])))++[]))) (fun h_ H_=>(c17 md _ _ H_.pe _ _ _ _ _ _ t (show TownP _ _ _ _ _ _ _ t from ⟨T.h,T.w,T.y⟩) (by omega)).mono fun v_ h2_ ⟨w4,w5,w6,X7,X8,X9,e_,o10,o11,o12,N_⟩=>⟨w4,w5,w6,X7,X8,X9,e_,o10,o11,o12,H_.callNA N_⟩) fun v_=>?_
 refine xgz fun w4=>xgz fun w5=>xgz fun w6=>xgz fun X7=>xgz fun X8=>xgz fun X9=>xfx fun ev_=>xfx fun o10=>xfx fun o11=>xfx fun o12=>?_
 have ev_:=ev_.symm;subst ev_
 refine xcq (L':=([(b3,.cells #[.slice none 0 0,.slice none 0 0,.slice none 0 0] 25 (0,0)),(b2,.cells #[.int .i64 (x),.int .i64 (y)] 43 (0,0)),(b1,.cells #[.slice a1 t.nH c1,.slice a2 t.nW c2,.slice a3 t.m c3] 25 (0,0))]:Pcs)++(X9++(X7++(X8++[])))) (by simp) ?_
 refine xgq (tm':=zq2 (zq8 _)) rfl ?_
 refine xkx mn tZ25 rfl fun b13=>xcq (L':=([(b13,.cells #[.slice none 0 0,.slice none 0 0,.slice none 0 0] 25 (0,0)),(b3,.cells #[.slice none 0 0,.slice none 0 0,.slice none 0 0] 25 (0,0)),(b2,.cells #[.int .i64 (x),.int .i64 (y)] 43 (0,0)),(b1,.cells #[.slice a1 t.nH c1,.slice a2 t.nW c2,.slice a3 t.m c3] 25 (0,0))]:Pcs)++(X9++(X7++(X8++[])))) rfl ?_
 refine xiq mn tS25 rfl (v:=.agg #[w4,w5,w6]) rfl (i:=0) rfl rfl (xew o10.one.2 (xew o11.one.2 (xew o12.one.2 rfl))) (Nat.le_of_ble_eq_true rfl) (cs2:=[w4,w5,w6]) rfl (xcq (L':=([(b13,.cells #[w4,w5,w6] 25 (0,0)),(b3,.cells #[.slice none 0 0,.slice none 0 0,.slice none 0 0] 25 (0,0)),(b2,.cells #[.int .i64 (x),.int .i64 (y)] 43 (0,0)),(b1,.cells #[.slice a1 t.nH c1,.slice a2 t.nW c2,.slice a3 t.m c3] 25 (0,0))]:Pcs)++(X9++(X7++(X8++[])))) rfl ?_)
 refine ren <| xbx <| ro (xaz xhk rfl (a':=⟨b13,2,none⟩) rfl) ?_
 refine xiq mn tS23 rfl (v:=.slice none 0 0) rfl (i:=0) rfl rfl rfl (Nat.le_of_ble_eq_true rfl) (cs2:=[w4,w5,.slice none 0 0]) rfl (xcq (L':=([(b13,.cells #[w4,w5,.slice none 0 0] 25 (0,0)),(b3,.cells #[.slice none 0 0,.slice none 0 0,.slice none 0 0] 25 (0,0)),(b2,.cells #[.int .i64 (x),.int .i64 (y)] 43 (0,0)),(b1,.cells #[.slice a1 t.nH c1,.slice a2 t.nW c2,.slice a3 t.m c3] 25 (0,0))]:Pcs)++(X9++(X7++(X8++[])))) rfl ?_)
 refine ren <| xbx <| rt (xax (v:=.bool (false)) rfl) (tm':=zq1 (zq2 (zq4 _))) rfl <| ren <| fsr <| ro (xax (v:=.int .i64 0) rfl) ?_
 refine xav <| xez ?_
 refine xiv (m₀:=t.m-0) (fun m_ tm_ h_=>∃ (k:Nat) (p_:Bool) (l_:List FWay) (w_:Value) (X1_:Pcs),m_=t.m-k∧(∃ y14:Nat→Value,tm_=(.agg #[.slice a1 t.nH c1,.slice a2 t.nW c2,.slice a3 t.m c3]::.agg #[.int .i64 (x),.int .i64 (y)]::.pointer (some ⟨b1,0,none⟩)::.pointer (some ⟨b2,0,none⟩)::.pointer (some ⟨b3,0,none⟩)::.pointer (some ⟨b13,0,none⟩)::.bool (p_)::.int .i64 (((k:Nat):Int))::.agg #[.slice a1 t.nH c1,.slice a2 t.nW c2,.slice a3 t.m c3]::.agg #[w4,w5,w6]::.pointer (some ⟨b13,2,none⟩)::(y14 11)::(y14 12)::(y14 13)::(y14 14)::(y14 15)::(y14 16)::(y14 17)::(y14 18)::(y14 19)::(y14 20)::(y14 21)::(y14 22)::(y14 23)::(y14 24)::(y14 25)::(y14 26)::(y14 27)::(y14 28)::(y14 29)::(y14 30)::(y14 31)::(y14 32)::(y14 33)::(y14 34)::(y14 35)::(y14 36)::(y14 37)::(y14 38)::(y14 39)::(y14 40)::(y14 41)::(y14 42)::(y14 43)::(y14 44)::undef::zu8 []))∧(k≤t.m)∧(p_=wkP t (x,y) k)∧(l_=wkL t (x,y) k)∧(OwnS 43 2 w_ (wcs l_) X1_)∧St h [] p h_ (([(b13,.cells #[w4,w5,w_] 25 (0,0)),(b3,.cells #[.slice none 0 0,.slice none 0 0,.slice none 0 0] 25 (0,0)),(b2,.cells #[.int .i64 (x),.int .i64 (y)] 43 (0,0)),(b1,.cells #[.slice a1 t.nH c1,.slice a2 t.nW c2,.slice a3 t.m c3] 25 (0,0))]:Pcs)++(X1_++(X9++(X7++(X8++[])))))) (fun h_ H_=>⟨0,false,[],(.slice none 0 0),[],rfl,(y_of rfl),Nat.zero_le _,rfl,rfl,(OwnS.empty _ _),H_⟩) ?_
 intro m_ tm_ IH15
 refine xhj fun k=>xhj fun p_=>xhj fun l_=>xhj fun w_=>xhj fun X1_=>xcw fun hm_=>xcw fun ht_=>xcw fun hk=>xcw fun hp_=>xcw fun hl_=>xcw fun o1_=>?_
 subst hm_;obtain ⟨y14,ht_⟩:=ht_;subst ht_
 have hz_:l_.length≤k+1:=by rw [hl_,wcz];split <;> omega
 refine xek <| fsr <| ro (xaq (v:=.int .i64 (((k:Nat):Int))) rfl) <| rt (xaz xhk rfl (a':=⟨b1,2,none⟩) rfl) (tm':=zq1 (zq4 (zq8 _))) rfl <| rd (fun h_ H_=>xaj H_ tA23 rfl (i:=3) rfl (v:=.slice a3 t.m c3) rfl) <| ro (xfk Tryd.underlying23 rfl) ?_
 refine rt (xgk rfl rfl) (tm':=zq16 _) rfl <| xav ?_
 by_cases cc16:((k:Nat):Int)<((t.m:Nat):Int)
 ·
  refine xdw rfl (dtt cc16) <| xdk <| xek <| xez <| xek <| xek ?_
  rcases xzj (p_) with cc17 | cc17
  ·
   refine xgj 9 [[],[0],[0,1],[],[],[4],[0,1],[0,1,4,5,6],[0,1,4,5,6,7],[0,1,3,4,5,6,7,8],[]] xkv (by kernel_rfl) (Nat.le_of_ble_eq_true rfl) ?_
   refine wo (xaq (v:=.bool (p_)) rfl) <| wt (xgw rfl) (tm':=zq4 (zq16 _)) rfl <| wo (xaq (v:=.bool (!p_)) rfl) <| xex (mo rfl rfl (xej cc17)) (tm':=zq2 (zq4 (zq16 _))) rfl <| wp (mo rfl rfl (xej cc17)) <| xex (mo rfl rfl (xej cc17)) (tm':=zq8 (zq16 _)) rfl ?_
   refine wp (mo rfl rfl (xej cc17)) <| xex (mo rfl rfl (xej cc17)) (tm':=zq2 (zq8 (zq16 _))) rfl <| wp (mo rfl rfl (xej cc17)) ?_
   refine xiw rfl ?_
   refine rp (mo rfl rfl (xej cc17)) <| ro (xck rfl (xej cc17) (v:=.bool (false)) rfl) <| xav <| xdx rfl rfl <| xdk ?_
   refine xyx (xlz (C:=[]) (A:=([(b13,.cells #[w4,w5,w_] 25 (0,0)),(b3,.cells #[.slice none 0 0,.slice none 0 0,.slice none 0 0] 25 (0,0)),(b2,.cells #[.int .i64 (x),.int .i64 (y)] 43 (0,0)),(b1,.cells #[.slice a1 t.nH c1,.slice a2 t.nW c2,.slice a3 t.m c3] 25 (0,0))]:Pcs)) 8 [[],[0],[],[2],[],[2,3,4],[2,3,4,5],[2,3,4,5,6],[],[],[]] [8,9,10,11] [8,9,10,11,7] [0,1,2,3,4,5,6] (fun i_=>match i_ with | 8=>X1_ | 9=>X9 | 10=>X7 | 11=>X8 | _=>[]) (fun _=>[]) (fun i_=>match i_ with | 0=>[] | 1=>[0] | 2=>[] | 3=>[2] | 4=>[] | 5=>[3,4] | 6=>[5] | 7=>[6] | _=>[]) (fun i_ val_ pc_ v_ x_=>match i_ with | 0=>v_= .pointer (some ⟨b13,2,none⟩)∧x_=[] | 1=>v_=w_∧x_=[] | 2=>v_= .pointer (some ⟨b1,2,none⟩)∧x_=[] | 3=>v_= .slice a3 t.m c3∧x_=[] | 4=>v_= .int .i64 (((k:Nat):Int))∧x_=[] | 5=>v_= .pointer (some ((adr a3).add (k*2)))∧x_=[] | 6=>v_= .agg #[.int .i64 ((t.wy.getD k wz).1),.int .i64 ((t.wy.getD k wz).2)]∧x_=[] | 7=>OwnS 43 2 v_ [[.int .i64 ((t.wy.getD k wz).1),.int .i64 ((t.wy.getD k wz).2)]] x_ | _=>True) (fun val18=>(.agg #[.slice a1 t.nH c1,.slice a2 t.nW c2,.slice a3 t.m c3]::.agg #[.int .i64 (x),.int .i64 (y)]::.pointer (some ⟨b1,0,none⟩)::.pointer (some ⟨b2,0,none⟩)::.pointer (some ⟨b3,0,none⟩)::.pointer (some ⟨b13,0,none⟩)::.bool (p_)::.int .i64 (((k:Nat):Int))::.agg #[.slice a1 t.nH c1,.slice a2 t.nW c2,.slice a3 t.m c3]::.agg #[w4,w5,w6]::.pointer (some ⟨b13,2,none⟩)::.int .i64 (((k:Nat):Int))::.pointer (some ⟨b1,2,none⟩)::.slice a3 t.m c3::.int .i64 (((t.m:Nat):Int))::.bool (decide (((k:Nat):Int)<((t.m:Nat):Int)))::(y14 16)::(y14 17)::.bool (p_)::.bool (!p_)::.bool (!p_)::undef::undef::undef::zu4 (.bool (false)::(y14 29)::(y14 30)::(y14 31)::(y14 32)::(y14 33)::(y14 34)::(val18 0)::(val18 1)::(val18 2)::(val18 3)::(val18 4)::(val18 5)::(val18 6)::(val18 7)::(y14 43)::(y14 44)::undef::zu8 []))) xkv (by kernel_rfl) (Nat.le_of_ble_eq_true rfl) (by kernel_rfl) (by kernel_rfl) (by kernel_rfl) (fun _ _=>⟨fun _ _ h=>h.2,⟨fun _ _ h=>h.2,⟨fun _ _ h=>h.2,⟨fun _ _ h=>h.2,⟨fun _ _ h=>h.2,⟨fun _ _ h=>h.2,⟨fun _ _ h=>h.2,trivial⟩⟩⟩⟩⟩⟩⟩) (fun _=>by kernel_rfl) (by kernel_rfl) ?_ ?_) (fun h_ H_=>St.swap (A:=([(b13,.cells #[w4,w5,w_] 25 (0,0)),(b3,.cells #[.slice none 0 0,.slice none 0 0,.slice none 0 0] 25 (0,0)),(b2,.cells #[.int .i64 (x),.int .i64 (y)] 43 (0,0)),(b1,.cells #[.slice a1 t.nH c1,.slice a2 t.nW c2,.slice a3 t.m c3] 25 (0,0))]:Pcs)) (U:=(X1_++(X9++(X7++(X8++[]))))) H_)
   ·
    refine xak rfl (xcj ?_) ?_
    ·
     intro val18 pc19 hQ_ hX_
     obtain ⟨q_,hq0_⟩: ∃ q_:Value→Pcs→Prop,q_=(fun v_ x_=>v_= .pointer (some ⟨b13,2,none⟩)∧x_=[]):=⟨_,rfl⟩
     refine ⟨(zq2 (zq4 (zq16 (zq32 [])))),[],q_,rfl,rfl,(fun _ _ z_=>by subst hq0_;exact z_),?_⟩
     subst hq0_
     exact xcz mn (fun _ h_ H_=>xaz xhk rfl (a':=⟨b13,2,none⟩) rfl) ⟨rfl,rfl⟩
    refine xak rfl (xcj ?_) ?_
    ·
     intro val18 pc19 hQ_ hX_
     have e0_:val18 0= .pointer (some ⟨b13,2,none⟩):=(hQ_ 0 rfl).1
     obtain ⟨q_,hq0_⟩: ∃ q_:Value→Pcs→Prop,q_=(fun v_ x_=>v_=w_∧x_=[]):=⟨_,rfl⟩
     refine ⟨(zq2 (zq4 (zq16 (zq32 [])))),[],q_,(by rw [e0_]),rfl,(fun _ _ z_=>by subst hq0_;exact z_),?_⟩
     subst hq0_
     exact xcz mn (fun _ h_ H_=>xaj H_ tA23 rfl (i:=0) rfl (v:=w_) rfl) ⟨rfl,rfl⟩
    refine xak rfl (xcj ?_) ?_
    ·
     intro val18 pc19 hQ_ hX_
     obtain ⟨q_,hq0_⟩: ∃ q_:Value→Pcs→Prop,q_=(fun v_ x_=>v_= .pointer (some ⟨b1,2,none⟩)∧x_=[]):=⟨_,rfl⟩
     refine ⟨(zq2 (zq4 (zq16 (zq32 [])))),[],q_,rfl,rfl,(fun _ _ z_=>by subst hq0_;exact z_),?_⟩
     subst hq0_
     exact xcz mn (fun _ h_ H_=>xaz xhk rfl (a':=⟨b1,2,none⟩) rfl) ⟨rfl,rfl⟩
    refine xak rfl (xcj ?_) ?_
    ·
     intro val18 pc19 hQ_ hX_
     have e2_:val18 2= .pointer (some ⟨b1,2,none⟩):=(hQ_ 2 rfl).1
     obtain ⟨q_,hq0_⟩: ∃ q_:Value→Pcs→Prop,q_=(fun v_ x_=>v_= .slice a3 t.m c3∧x_=[]):=⟨_,rfl⟩
     refine ⟨(zq2 (zq4 (zq16 (zq32 [])))),[],q_,(by rw [e2_]),rfl,(fun _ _ z_=>by subst hq0_;exact z_),?_⟩
     subst hq0_
     exact xcz mn (fun _ h_ H_=>xaj H_ tA23 rfl (i:=3) rfl (v:=.slice a3 t.m c3) rfl) ⟨rfl,rfl⟩
    refine xak rfl (xcj ?_) ?_
    ·
     intro val18 pc19 hQ_ hX_
     obtain ⟨q_,hq0_⟩: ∃ q_:Value→Pcs→Prop,q_=(fun v_ x_=>v_= .int .i64 (((k:Nat):Int))∧x_=[]):=⟨_,rfl⟩
     refine ⟨(zq2 (zq4 (zq16 (zq32 [])))),[],q_,rfl,rfl,(fun _ _ z_=>by subst hq0_;exact z_),?_⟩
     subst hq0_
     exact xcz mn (fun _ h_ H_=>xaq (v:=.int .i64 (((k:Nat):Int))) rfl) ⟨rfl,rfl⟩
    refine xak rfl (xcj ?_) ?_
    ·
     intro val18 pc19 hQ_ hX_
     have e3_:val18 3= .slice a3 t.m c3:=(hQ_ 3 rfl).1
     have e4_:val18 4= .int .i64 (((k:Nat):Int)):=(hQ_ 4 rfl).1
     obtain ⟨q_,hq0_⟩: ∃ q_:Value→Pcs→Prop,q_=(fun v_ x_=>v_= .pointer (some ((adr a3).add (k*2)))∧x_=[]):=⟨_,rfl⟩
     refine ⟨(zq2 (zq4 (zq16 (zq32 [])))),[],q_,(by rw [e3_,e4_]),rfl,(fun _ _ z_=>by subst hq0_;exact z_),?_⟩
     subst hq0_
     exact xcz mn (fun _ h_ H_=>xbw (i:=k) Tryd.underlying23 tS43 (xkj a3 t.m c3 (T.y.ne (by omega))) rfl (by omega)) ⟨rfl,rfl⟩
    refine xak rfl (xcj ?_) ?_
    ·
     intro val18 pc19 hQ_ hX_
     have e5_:val18 5= .pointer (some ((adr a3).add (k*2))):=(hQ_ 5 rfl).1
     obtain ⟨q_,hq0_⟩: ∃ q_:Value→Pcs→Prop,q_=(fun v_ x_=>v_= .agg #[.int .i64 ((t.wy.getD k wz).1),.int .i64 ((t.wy.getD k wz).2)]∧x_=[]):=⟨_,rfl⟩
     refine ⟨(zq2 (zq4 (zq16 (zq32 [])))),[],q_,(by rw [e5_]),rfl,(fun _ _ z_=>by subst hq0_;exact z_),?_⟩
     subst hq0_
     exact xcz mn (fun _ h_ H_=>xhq H_ tA43 tS43 rfl (vs:=[.int .i64 ((t.wy.getD k wz).1),.int .i64 ((t.wy.getD k wz).2)]) rfl (T.y.all (by omega))) ⟨rfl,rfl⟩
    refine xak rfl (xcj ?_) ?_
    ·
     intro val18 pc19 hQ_ hX_
     have e6_:val18 6= .agg #[.int .i64 ((t.wy.getD k wz).1),.int .i64 ((t.wy.getD k wz).2)]:=(hQ_ 6 rfl).1
     obtain ⟨q_,hq0_⟩: ∃ q_:Value→Pcs→Prop,q_=(fun v_ x_=>OwnS 43 2 v_ [[.int .i64 ((t.wy.getD k wz).1),.int .i64 ((t.wy.getD k wz).2)]] x_):=⟨_,rfl⟩
     refine ⟨(zq2 (zq4 (zq16 (zq32 [])))),[],q_,(by rw [e6_]),rfl,(fun _ _ z_=>by subst hq0_;exact z_),?_⟩
     subst hq0_
     exact xnj mn Tryd.underlying23 tS43 tZ43 (Nat.le_of_ble_eq_true rfl) (vs:=[(0,.agg #[.int .i64 ((t.wy.getD k wz).1),.int .i64 ((t.wy.getD k wz).2)])]) rfl rfl (es:=[[.int .i64 ((t.wy.getD k wz).1),.int .i64 ((t.wy.getD k wz).2)]]) rfl rfl rfl fun _ _ o_=>o_
    exact xlx rfl
   intro val18 pc19 hQ_ hX_
   have e0_:val18 0= .pointer (some ⟨b13,2,none⟩):=(hQ_ 0 (by decide)).1
   have e1_:val18 1=w_:=(hQ_ 1 (by decide)).1
   have e2_:val18 2= .pointer (some ⟨b1,2,none⟩):=(hQ_ 2 (by decide)).1
   have e3_:val18 3= .slice a3 t.m c3:=(hQ_ 3 (by decide)).1
   have e4_:val18 4= .int .i64 (((k:Nat):Int)):=(hQ_ 4 (by decide)).1
   have e5_:val18 5= .pointer (some ((adr a3).add (k*2))):=(hQ_ 5 (by decide)).1
   have e6_:val18 6= .agg #[.int .i64 ((t.wy.getD k wz).1),.int .i64 ((t.wy.getD k wz).2)]:=(hQ_ 6 (by decide)).1
   have q7_:OwnS 43 2 (val18 7) [[.int .i64 ((t.wy.getD k wz).1),.int .i64 ((t.wy.getD k wz).2)]] (pc19 7):=hQ_ 7 (by decide)
   have x8_:pc19 8=X1_:=hX_ 8 (by decide)
   have x9_:pc19 9=X9:=hX_ 9 (by decide)
   have x10_:pc19 10=X7:=hX_ 10 (by decide)
   have x11_:pc19 11=X8:=hX_ 11 (by decide)
   clear hQ_ hX_
   refine xwv (Φ:=fun h_=>St h [] p h_ (([(b13,.cells #[w4,w5,w_] 25 (0,0)),(b3,.cells #[.slice none 0 0,.slice none 0 0,.slice none 0 0] 25 (0,0)),(b2,.cells #[.int .i64 (x),.int .i64 (y)] 43 (0,0)),(b1,.cells #[.slice a1 t.nH c1,.slice a2 t.nW c2,.slice a3 t.m c3] 25 (0,0))]:Pcs)++(pc19 8++(pc19 9++(pc19 10++(pc19 11++(pc19 7++[]))))))) ?_ (fun h_ H_=>H_.swap')
   rw [x8_,x9_,x10_,x11_]
   refine xgq (tm':=(zq2 (zq4 (zq16 (zq32 []))))) (by rw [e0_,e1_,e2_,e3_,e4_,e5_,e6_]) ?_
   have o22:=q7_
   refine xjz (List.Perm.append_left _ (List.Perm.append_left _ (List.Perm.append_left _ (List.Perm.append_left _ (List.perm_append_comm_assoc _ _ _))))) ?_
   refine xjz (List.Perm.append_left _ (List.Perm.append_left _ (List.Perm.append_left _ (List.perm_append_comm_assoc _ _ _)))) ?_
   refine xjz (List.Perm.append_left _ (List.Perm.append_left _ (List.perm_append_comm_assoc _ _ _))) ?_
   refine xcq (L':=([(b13,.cells #[w4,w5,w_] 25 (0,0)),(b3,.cells #[.slice none 0 0,.slice none 0 0,.slice none 0 0] 25 (0,0)),(b2,.cells #[.int .i64 (x),.int .i64 (y)] 43 (0,0)),(b1,.cells #[.slice a1 t.nH c1,.slice a2 t.nW c2,.slice a3 t.m c3] 25 (0,0))]:Pcs)++(X1_++((pc19 7)++(X9++(X7++(X8++[])))))) rfl ?_
   refine xrw ([(b13,.cells #[w4,w5,w_] 25 (0,0)),(b3,.cells #[.slice none 0 0,.slice none 0 0,.slice none 0 0] 25 (0,0)),(b2,.cells #[.int .i64 (x),.int .i64 (y)] 43 (0,0)),(b1,.cells #[.slice a1 t.nH c1,.slice a2 t.nW c2,.slice a3 t.m c3] 25 (0,0))]:Pcs) X1_ (pc19 7) mn Tryd.underlying23 tS43 tZ43 rfl tB43 Tryd.underlying23 rfl rfl o1_ o22 (xxz rfl) (by rw [wcs_size];first | (simp only [List.length_cons,List.length_nil];omega) | (rw [List.length_append];simp only [List.length_cons,List.length_nil];omega)) (by decide) fun v23 X24 o25=>?_
   have o26:OwnS 43 2 v23 (wcs (l_++[(t.wy.getD k wz)])) X24:=o25.as (xyz _ (t.wy.getD k wz))
   refine ro (xaz xhk rfl (a':=⟨b13,2,none⟩) rfl) ?_
   refine xpv mn tS23 rfl (v:=v23) rfl o26.one (i:=0) rfl (Nat.succ_le_iff.1 (Nat.le_of_ble_eq_true rfl)) (cs2:=[w4,w5,v23]) rfl (xcq (L':=([(b13,.cells #[w4,w5,v23] 25 (0,0)),(b3,.cells #[.slice none 0 0,.slice none 0 0,.slice none 0 0] 25 (0,0)),(b2,.cells #[.int .i64 (x),.int .i64 (y)] 43 (0,0)),(b1,.cells #[.slice a1 t.nH c1,.slice a2 t.nW c2,.slice a3 t.m c3] 25 (0,0))]:Pcs)++(X24++(X9++(X7++(X8++[]))))) rfl ?_)
   refine xav <| xeq <| xbx <| rt (xaq (v:=.int .i64 (((k:Nat):Int))) rfl) (tm':=zq1 (zq16 _)) rfl ?_
   refine ro (xfq rfl rfl (n:=((k+1:Nat):Int)) (wr (by omega))) ?_
   refine ro (xax (v:=.int .i64 (((k+1:Nat):Int))) rfl) <| xav ?_
   exact fun h_ H_=>IH15 _ _ (by omega) h_ ⟨k+1,p_,(l_++[(t.wy.getD k wz)]),v23,X24,rfl,(y_of rfl),(by omega),(wcx hp_ (by first | (rw [show p_=true by assumption];rfl) | (rw [show p_=false by assumption,decide_eq_true (show Bf (x,y) (t.wy.getD k wz) by assumption)];rfl) | (rw [show p_=false by assumption,decide_eq_false (show ¬ Bf (x,y) (t.wy.getD k wz) by assumption)];rfl))),(zqq hp_ hl_ (by first | exact fun z_=>absurd z_.2 (by assumption) | exact fun z_=>absurd z_.1 (by rw [show p_=true by assumption];decide))),o26,H_⟩
  ·
   refine xgj 9 [[],[0],[0,1],[],[],[4],[0,1],[0,1,4,5,6],[0,1,4,5,6,7],[0,1,3,4,5,6,7,8],[]] xkv (by kernel_rfl) (Nat.le_of_ble_eq_true rfl) ?_
   refine wt (xaq (v:=.bool (p_)) rfl) (tm':=zq1 (zq2 (zq16 _))) rfl <| wo (xgw rfl) <| wt (xaq (v:=.bool (!p_)) rfl) (tm':=zq1 (zq4 (zq16 _))) rfl ?_
   refine xbz (ms rfl rfl (xhw cc17)) (fun h_ H_=>xaw H_ tA43 tS43 rfl (i:=2) rfl (vs:=[.int .i64 (x),.int .i64 (y)]) rfl rfl) rfl ?_
   refine xbz (ms rfl rfl (xhw cc17)) (fun h_ H_=>xaz xhk rfl (a':=⟨b1,2,none⟩) rfl) (tm':=zq1 (zq2 (zq4 (zq16 _)))) rfl ?_
   refine xbz (ms rfl rfl (xhw cc17)) (fun h_ H_=>xaj H_ tA23 rfl (i:=3) rfl (v:=.slice a3 t.m c3) rfl) rfl ?_
   refine xbz (ms rfl rfl (xhw cc17)) (fun h_ H_=>xaq (v:=.int .i64 (((k:Nat):Int))) rfl) (tm':=zq1 (zq8 (zq16 _))) rfl ?_
   refine xbz (ms rfl rfl (xhw cc17)) (fun h_ H_=>xbw (i:=k) Tryd.underlying23 tS43 (xkj a3 t.m c3 (T.y.ne (by omega))) rfl (by omega)) rfl ?_
   refine xbz (ms rfl rfl (xhw cc17)) (fun h_ H_=>xhq H_ tA43 tS43 rfl (vs:=[.int .i64 ((t.wy.getD k wz).1),.int .i64 ((t.wy.getD k wz).2)]) rfl (T.y.all (by omega))) (tm':=zq1 (zq2 (zq8 (zq16 _)))) rfl ?_
   refine xiw rfl ?_
   refine xdv (ms rfl rfl (xhw cc17)) (first:=[]) (cap:=[]) rfl rfl fC77 (fun h_ H_=>c77 md _ (x) (y) ((t.wy.getD k wz).1) ((t.wy.getD k wz).2)) (tm':=zq4 (zq8 (zq16 _))) rfl ?_
   refine ro (xdj rfl (xhw cc17) (v:=.bool (decide (Bf ((x,y):FWay) (((t.wy.getD k wz).1,(t.wy.getD k wz).2):FWay)))) rfl) <| xav ?_
   by_cases cc27:Bf ((x,y):FWay) (((t.wy.getD k wz).1,(t.wy.getD k wz).2):FWay)
   ·
    refine xdw rfl (dtt cc27) <| xbx <| ro (xaz xhk rfl (a':=⟨b13,2,none⟩) rfl) ?_
    refine xbq mn (fun h_ H_=>xaj H_ tA23 rfl (i:=0) rfl (v:=w_) rfl) (tm':=zq1 (zq2 (zq4 (zq8 (zq16 _))))) rfl ?_
    refine rd (fun h_ H_=>xaw H_ tA43 tS43 rfl (i:=2) rfl (vs:=[.int .i64 (x),.int .i64 (y)]) rfl rfl) ?_
    refine xmj ([(b13,.cells #[w4,w5,w_] 25 (0,0)),(b3,.cells #[.slice none 0 0,.slice none 0 0,.slice none 0 0] 25 (0,0)),(b2,.cells #[.int .i64 (x),.int .i64 (y)] 43 (0,0)),(b1,.cells #[.slice a1 t.nH c1,.slice a2 t.nW c2,.slice a3 t.m c3] 25 (0,0))]:Pcs) mn Tryd.underlying23 tS43 tZ43 (Nat.le_of_ble_eq_true rfl) (vs:=[(0,.agg #[.int .i64 (x),.int .i64 (y)])]) rfl rfl (es:=[[.int .i64 (x),.int .i64 (y)]]) rfl rfl rfl fun v28 X29 o30=>?_
    refine xjz (List.Perm.append_left _ (List.perm_append_comm_assoc _ _ _)) ?_
    refine xcq (L':=([(b13,.cells #[w4,w5,w_] 25 (0,0)),(b3,.cells #[.slice none 0 0,.slice none 0 0,.slice none 0 0] 25 (0,0)),(b2,.cells #[.int .i64 (x),.int .i64 (y)] 43 (0,0)),(b1,.cells #[.slice a1 t.nH c1,.slice a2 t.nW c2,.slice a3 t.m c3] 25 (0,0))]:Pcs)++(X1_++(X29++(X9++(X7++(X8++[])))))) rfl ?_
    refine xrw ([(b13,.cells #[w4,w5,w_] 25 (0,0)),(b3,.cells #[.slice none 0 0,.slice none 0 0,.slice none 0 0] 25 (0,0)),(b2,.cells #[.int .i64 (x),.int .i64 (y)] 43 (0,0)),(b1,.cells #[.slice a1 t.nH c1,.slice a2 t.nW c2,.slice a3 t.m c3] 25 (0,0))]:Pcs) X1_ X29 mn Tryd.underlying23 tS43 tZ43 rfl tB43 Tryd.underlying23 rfl rfl o1_ o30 (xxz rfl) (by rw [wcs_size];simp only [List.length_cons,List.length_nil];omega) (by decide) fun v31 X32 o33=>?_
    have o34:OwnS 43 2 v31 (wcs (l_++[((x,y):FWay)])) X32:=o33.as (xyz _ ((x,y):FWay))
    refine xgq (tm':=zq2 (zq32 _)) rfl ?_
    refine ro (xaz xhk rfl (a':=⟨b13,2,none⟩) rfl) ?_
    refine xpv mn tS23 rfl (v:=v31) rfl o34.one (i:=0) rfl (Nat.succ_le_iff.1 (Nat.le_of_ble_eq_true rfl)) (cs2:=[w4,w5,v31]) rfl (xcq (L':=([(b13,.cells #[w4,w5,v31] 25 (0,0)),(b3,.cells #[.slice none 0 0,.slice none 0 0,.slice none 0 0] 25 (0,0)),(b2,.cells #[.int .i64 (x),.int .i64 (y)] 43 (0,0)),(b1,.cells #[.slice a1 t.nH c1,.slice a2 t.nW c2,.slice a3 t.m c3] 25 (0,0))]:Pcs)++(X32++(X9++(X7++(X8++[]))))) rfl ?_)
    refine ro (xax (v:=.bool (true)) rfl) <| xav ?_
    refine xyx (xlz (C:=[]) (A:=([(b13,.cells #[w4,w5,v31] 25 (0,0)),(b3,.cells #[.slice none 0 0,.slice none 0 0,.slice none 0 0] 25 (0,0)),(b2,.cells #[.int .i64 (x),.int .i64 (y)] 43 (0,0)),(b1,.cells #[.slice a1 t.nH c1,.slice a2 t.nW c2,.slice a3 t.m c3] 25 (0,0))]:Pcs)) 8 [[],[0],[],[2],[],[2,3,4],[2,3,4,5],[2,3,4,5,6],[],[],[]] [8,9,10,11] [8,9,10,11,7] [0,1,2,3,4,5,6] (fun i_=>match i_ with | 8=>X32 | 9=>X9 | 10=>X7 | 11=>X8 | _=>[]) (fun _=>[]) (fun i_=>match i_ with | 0=>[] | 1=>[0] | 2=>[] | 3=>[2] | 4=>[] | 5=>[3,4] | 6=>[5] | 7=>[6] | _=>[]) (fun i_ val_ pc_ v_ x_=>match i_ with | 0=>v_= .pointer (some ⟨b13,2,none⟩)∧x_=[] | 1=>v_=v31∧x_=[] | 2=>v_= .pointer (some ⟨b1,2,none⟩)∧x_=[] | 3=>v_= .slice a3 t.m c3∧x_=[] | 4=>v_= .int .i64 (((k:Nat):Int))∧x_=[] | 5=>v_= .pointer (some ((adr a3).add (k*2)))∧x_=[] | 6=>v_= .agg #[.int .i64 ((t.wy.getD k wz).1),.int .i64 ((t.wy.getD k wz).2)]∧x_=[] | 7=>OwnS 43 2 v_ [[.int .i64 ((t.wy.getD k wz).1),.int .i64 ((t.wy.getD k wz).2)]] x_ | _=>True) (fun val35=>(.agg #[.slice a1 t.nH c1,.slice a2 t.nW c2,.slice a3 t.m c3]::.agg #[.int .i64 (x),.int .i64 (y)]::.pointer (some ⟨b1,0,none⟩)::.pointer (some ⟨b2,0,none⟩)::.pointer (some ⟨b3,0,none⟩)::.pointer (some ⟨b13,0,none⟩)::.bool (true)::.int .i64 (((k:Nat):Int))::.agg #[.slice a1 t.nH c1,.slice a2 t.nW c2,.slice a3 t.m c3]::.agg #[w4,w5,w6]::.pointer (some ⟨b13,2,none⟩)::.int .i64 (((k:Nat):Int))::.pointer (some ⟨b1,2,none⟩)::.slice a3 t.m c3::.int .i64 (((t.m:Nat):Int))::.bool (decide (((k:Nat):Int)<((t.m:Nat):Int)))::(y14 16)::(y14 17)::.bool (p_)::.bool (!p_)::.bool (!p_)::.agg #[.int .i64 (x),.int .i64 (y)]::.pointer (some ⟨b1,2,none⟩)::.slice a3 t.m c3::.int .i64 (((k:Nat):Int))::.pointer (some ((adr a3).add (k*2)))::.agg #[.int .i64 ((t.wy.getD k wz).1),.int .i64 ((t.wy.getD k wz).2)]::.bool (decide (Bf ((x,y):FWay) (((t.wy.getD k wz).1,(t.wy.getD k wz).2):FWay)))::.bool (decide (Bf ((x,y):FWay) (((t.wy.getD k wz).1,(t.wy.getD k wz).2):FWay)))::.pointer (some ⟨b13,2,none⟩)::w_::.agg #[.int .i64 (x),.int .i64 (y)]::v28::v31::.pointer (some ⟨b13,2,none⟩)::(val35 0)::(val35 1)::(val35 2)::(val35 3)::(val35 4)::(val35 5)::(val35 6)::(val35 7)::(y14 43)::(y14 44)::undef::zu8 [])) xkv (by kernel_rfl) (Nat.le_of_ble_eq_true rfl) (by kernel_rfl) (by kernel_rfl) (by kernel_rfl) (fun _ _=>⟨fun _ _ h=>h.2,⟨fun _ _ h=>h.2,⟨fun _ _ h=>h.2,⟨fun _ _ h=>h.2,⟨fun _ _ h=>h.2,⟨fun _ _ h=>h.2,⟨fun _ _ h=>h.2,trivial⟩⟩⟩⟩⟩⟩⟩) (fun _=>by kernel_rfl) (by kernel_rfl) ?_ ?_) (fun h_ H_=>St.swap (A:=([(b13,.cells #[w4,w5,v31] 25 (0,0)),(b3,.cells #[.slice none 0 0,.slice none 0 0,.slice none 0 0] 25 (0,0)),(b2,.cells #[.int .i64 (x),.int .i64 (y)] 43 (0,0)),(b1,.cells #[.slice a1 t.nH c1,.slice a2 t.nW c2,.slice a3 t.m c3] 25 (0,0))]:Pcs)) (U:=(X32++(X9++(X7++(X8++[]))))) H_)
    ·
     refine xak rfl (xcj ?_) ?_
     ·
      intro val35 pc36 hQ_ hX_
      obtain ⟨q_,hq0_⟩: ∃ q_:Value→Pcs→Prop,q_=(fun v_ x_=>v_= .pointer (some ⟨b13,2,none⟩)∧x_=[]):=⟨_,rfl⟩
      refine ⟨(zq2 (zq4 (zq16 (zq32 [])))),[],q_,rfl,rfl,(fun _ _ z_=>by subst hq0_;exact z_),?_⟩
      subst hq0_
      exact xcz mn (fun _ h_ H_=>xaz xhk rfl (a':=⟨b13,2,none⟩) rfl) ⟨rfl,rfl⟩
     refine xak rfl (xcj ?_) ?_
     ·
      intro val35 pc36 hQ_ hX_
      have e0_:val35 0= .pointer (some ⟨b13,2,none⟩):=(hQ_ 0 rfl).1
      obtain ⟨q_,hq0_⟩: ∃ q_:Value→Pcs→Prop,q_=(fun v_ x_=>v_=v31∧x_=[]):=⟨_,rfl⟩
      refine ⟨(zq2 (zq4 (zq16 (zq32 [])))),[],q_,(by rw [e0_]),rfl,(fun _ _ z_=>by subst hq0_;exact z_),?_⟩
      subst hq0_
      exact xcz mn (fun _ h_ H_=>xaj H_ tA23 rfl (i:=0) rfl (v:=v31) rfl) ⟨rfl,rfl⟩
     refine xak rfl (xcj ?_) ?_
     ·
      intro val35 pc36 hQ_ hX_
      obtain ⟨q_,hq0_⟩: ∃ q_:Value→Pcs→Prop,q_=(fun v_ x_=>v_= .pointer (some ⟨b1,2,none⟩)∧x_=[]):=⟨_,rfl⟩
      refine ⟨(zq2 (zq4 (zq16 (zq32 [])))),[],q_,rfl,rfl,(fun _ _ z_=>by subst hq0_;exact z_),?_⟩
      subst hq0_
      exact xcz mn (fun _ h_ H_=>xaz xhk rfl (a':=⟨b1,2,none⟩) rfl) ⟨rfl,rfl⟩
     refine xak rfl (xcj ?_) ?_
     ·
      intro val35 pc36 hQ_ hX_
      have e2_:val35 2= .pointer (some ⟨b1,2,none⟩):=(hQ_ 2 rfl).1
      obtain ⟨q_,hq0_⟩: ∃ q_:Value→Pcs→Prop,q_=(fun v_ x_=>v_= .slice a3 t.m c3∧x_=[]):=⟨_,rfl⟩
      refine ⟨(zq2 (zq4 (zq16 (zq32 [])))),[],q_,(by rw [e2_]),rfl,(fun _ _ z_=>by subst hq0_;exact z_),?_⟩
      subst hq0_
      exact xcz mn (fun _ h_ H_=>xaj H_ tA23 rfl (i:=3) rfl (v:=.slice a3 t.m c3) rfl) ⟨rfl,rfl⟩
     refine xak rfl (xcj ?_) ?_
     ·
      intro val35 pc36 hQ_ hX_
      obtain ⟨q_,hq0_⟩: ∃ q_:Value→Pcs→Prop,q_=(fun v_ x_=>v_= .int .i64 (((k:Nat):Int))∧x_=[]):=⟨_,rfl⟩
      refine ⟨(zq2 (zq4 (zq16 (zq32 [])))),[],q_,rfl,rfl,(fun _ _ z_=>by subst hq0_;exact z_),?_⟩
      subst hq0_
      exact xcz mn (fun _ h_ H_=>xaq (v:=.int .i64 (((k:Nat):Int))) rfl) ⟨rfl,rfl⟩
     refine xak rfl (xcj ?_) ?_
     ·
      intro val35 pc36 hQ_ hX_
      have e3_:val35 3= .slice a3 t.m c3:=(hQ_ 3 rfl).1
      have e4_:val35 4= .int .i64 (((k:Nat):Int)):=(hQ_ 4 rfl).1
      obtain ⟨q_,hq0_⟩: ∃ q_:Value→Pcs→Prop,q_=(fun v_ x_=>v_= .pointer (some ((adr a3).add (k*2)))∧x_=[]):=⟨_,rfl⟩
      refine ⟨(zq2 (zq4 (zq16 (zq32 [])))),[],q_,(by rw [e3_,e4_]),rfl,(fun _ _ z_=>by subst hq0_;exact z_),?_⟩
      subst hq0_
      exact xcz mn (fun _ h_ H_=>xbw (i:=k) Tryd.underlying23 tS43 (xkj a3 t.m c3 (T.y.ne (by omega))) rfl (by omega)) ⟨rfl,rfl⟩
     refine xak rfl (xcj ?_) ?_
     ·
      intro val35 pc36 hQ_ hX_
      have e5_:val35 5= .pointer (some ((adr a3).add (k*2))):=(hQ_ 5 rfl).1
      obtain ⟨q_,hq0_⟩: ∃ q_:Value→Pcs→Prop,q_=(fun v_ x_=>v_= .agg #[.int .i64 ((t.wy.getD k wz).1),.int .i64 ((t.wy.getD k wz).2)]∧x_=[]):=⟨_,rfl⟩
      refine ⟨(zq2 (zq4 (zq16 (zq32 [])))),[],q_,(by rw [e5_]),rfl,(fun _ _ z_=>by subst hq0_;exact z_),?_⟩
      subst hq0_
      exact xcz mn (fun _ h_ H_=>xhq H_ tA43 tS43 rfl (vs:=[.int .i64 ((t.wy.getD k wz).1),.int .i64 ((t.wy.getD k wz).2)]) rfl (T.y.all (by omega))) ⟨rfl,rfl⟩
     refine xak rfl (xcj ?_) ?_
     ·
      intro val35 pc36 hQ_ hX_
      have e6_:val35 6= .agg #[.int .i64 ((t.wy.getD k wz).1),.int .i64 ((t.wy.getD k wz).2)]:=(hQ_ 6 rfl).1
      obtain ⟨q_,hq0_⟩: ∃ q_:Value→Pcs→Prop,q_=(fun v_ x_=>OwnS 43 2 v_ [[.int .i64 ((t.wy.getD k wz).1),.int .i64 ((t.wy.getD k wz).2)]] x_):=⟨_,rfl⟩
      refine ⟨(zq2 (zq4 (zq16 (zq32 [])))),[],q_,(by rw [e6_]),rfl,(fun _ _ z_=>by subst hq0_;exact z_),?_⟩
      subst hq0_
      exact xnj mn Tryd.underlying23 tS43 tZ43 (Nat.le_of_ble_eq_true rfl) (vs:=[(0,.agg #[.int .i64 ((t.wy.getD k wz).1),.int .i64 ((t.wy.getD k wz).2)])]) rfl rfl (es:=[[.int .i64 ((t.wy.getD k wz).1),.int .i64 ((t.wy.getD k wz).2)]]) rfl rfl rfl fun _ _ o_=>o_
     exact xlx rfl
    intro val35 pc36 hQ_ hX_
    have e0_:val35 0= .pointer (some ⟨b13,2,none⟩):=(hQ_ 0 (by decide)).1
    have e1_:val35 1=v31:=(hQ_ 1 (by decide)).1
    have e2_:val35 2= .pointer (some ⟨b1,2,none⟩):=(hQ_ 2 (by decide)).1
    have e3_:val35 3= .slice a3 t.m c3:=(hQ_ 3 (by decide)).1
    have e4_:val35 4= .int .i64 (((k:Nat):Int)):=(hQ_ 4 (by decide)).1
    have e5_:val35 5= .pointer (some ((adr a3).add (k*2))):=(hQ_ 5 (by decide)).1
    have e6_:val35 6= .agg #[.int .i64 ((t.wy.getD k wz).1),.int .i64 ((t.wy.getD k wz).2)]:=(hQ_ 6 (by decide)).1
    have q7_:OwnS 43 2 (val35 7) [[.int .i64 ((t.wy.getD k wz).1),.int .i64 ((t.wy.getD k wz).2)]] (pc36 7):=hQ_ 7 (by decide)
    have x8_:pc36 8=X32:=hX_ 8 (by decide)
    have x9_:pc36 9=X9:=hX_ 9 (by decide)
    have x10_:pc36 10=X7:=hX_ 10 (by decide)
    have x11_:pc36 11=X8:=hX_ 11 (by decide)
    clear hQ_ hX_
    refine xwv (Φ:=fun h_=>St h [] p h_ (([(b13,.cells #[w4,w5,v31] 25 (0,0)),(b3,.cells #[.slice none 0 0,.slice none 0 0,.slice none 0 0] 25 (0,0)),(b2,.cells #[.int .i64 (x),.int .i64 (y)] 43 (0,0)),(b1,.cells #[.slice a1 t.nH c1,.slice a2 t.nW c2,.slice a3 t.m c3] 25 (0,0))]:Pcs)++(pc36 8++(pc36 9++(pc36 10++(pc36 11++(pc36 7++[]))))))) ?_ (fun h_ H_=>H_.swap')
    rw [x8_,x9_,x10_,x11_]
    refine xgq (tm':=(zq2 (zq4 (zq16 (zq32 []))))) (by rw [e0_,e1_,e2_,e3_,e4_,e5_,e6_]) ?_
    have o39:=q7_
    refine xjz (List.Perm.append_left _ (List.Perm.append_left _ (List.Perm.append_left _ (List.Perm.append_left _ (List.perm_append_comm_assoc _ _ _))))) ?_
    refine xjz (List.Perm.append_left _ (List.Perm.append_left _ (List.Perm.append_left _ (List.perm_append_comm_assoc _ _ _)))) ?_
    refine xjz (List.Perm.append_left _ (List.Perm.append_left _ (List.perm_append_comm_assoc _ _ _))) ?_
    refine xcq (L':=([(b13,.cells #[w4,w5,v31] 25 (0,0)),(b3,.cells #[.slice none 0 0,.slice none 0 0,.slice none 0 0] 25 (0,0)),(b2,.cells #[.int .i64 (x),.int .i64 (y)] 43 (0,0)),(b1,.cells #[.slice a1 t.nH c1,.slice a2 t.nW c2,.slice a3 t.m c3] 25 (0,0))]:Pcs)++(X32++((pc36 7)++(X9++(X7++(X8++[])))))) rfl ?_
    refine xrw ([(b13,.cells #[w4,w5,v31] 25 (0,0)),(b3,.cells #[.slice none 0 0,.slice none 0 0,.slice none 0 0] 25 (0,0)),(b2,.cells #[.int .i64 (x),.int .i64 (y)] 43 (0,0)),(b1,.cells #[.slice a1 t.nH c1,.slice a2 t.nW c2,.slice a3 t.m c3] 25 (0,0))]:Pcs) X32 (pc36 7) mn Tryd.underlying23 tS43 tZ43 rfl tB43 Tryd.underlying23 rfl rfl o34 o39 (xxz rfl) (by rw [wcs_size];first | (simp only [List.length_cons,List.length_nil];omega) | (rw [List.length_append];simp only [List.length_cons,List.length_nil];omega)) (by decide) fun v40 X41 o42=>?_
    have o43:OwnS 43 2 v40 (wcs ((l_++[((x,y):FWay)])++[(t.wy.getD k wz)])) X41:=o42.as (xyz _ (t.wy.getD k wz))
    refine ro (xaz xhk rfl (a':=⟨b13,2,none⟩) rfl) ?_
    refine xpv mn tS23 rfl (v:=v40) rfl o43.one (i:=0) rfl (Nat.succ_le_iff.1 (Nat.le_of_ble_eq_true rfl)) (cs2:=[w4,w5,v40]) rfl (xcq (L':=([(b13,.cells #[w4,w5,v40] 25 (0,0)),(b3,.cells #[.slice none 0 0,.slice none 0 0,.slice none 0 0] 25 (0,0)),(b2,.cells #[.int .i64 (x),.int .i64 (y)] 43 (0,0)),(b1,.cells #[.slice a1 t.nH c1,.slice a2 t.nW c2,.slice a3 t.m c3] 25 (0,0))]:Pcs)++(X41++(X9++(X7++(X8++[]))))) rfl ?_)
    refine xav <| xeq <| xbx <| rt (xaq (v:=.int .i64 (((k:Nat):Int))) rfl) (tm':=zq1 (zq16 _)) rfl ?_
    refine ro (xfq rfl rfl (n:=((k+1:Nat):Int)) (wr (by omega))) ?_
    refine ro (xax (v:=.int .i64 (((k+1:Nat):Int))) rfl) <| xav ?_
    exact fun h_ H_=>IH15 _ _ (by omega) h_ ⟨k+1,true,((l_++[((x,y):FWay)])++[(t.wy.getD k wz)]),v40,X41,rfl,(y_of rfl),(by omega),(wcx hp_ (by first | (rw [show p_=true by assumption];rfl) | (rw [show p_=false by assumption,decide_eq_true (show Bf (x,y) (t.wy.getD k wz) by assumption)];rfl) | (rw [show p_=false by assumption,decide_eq_false (show ¬ Bf (x,y) (t.wy.getD k wz) by assumption)];rfl))),(wxk hp_ hl_ (by assumption) (by assumption)),o43,H_⟩
   ·
    refine xdx rfl (dff cc27) <| xdk ?_
    refine xyx (xlz (C:=[]) (A:=([(b13,.cells #[w4,w5,w_] 25 (0,0)),(b3,.cells #[.slice none 0 0,.slice none 0 0,.slice none 0 0] 25 (0,0)),(b2,.cells #[.int .i64 (x),.int .i64 (y)] 43 (0,0)),(b1,.cells #[.slice a1 t.nH c1,.slice a2 t.nW c2,.slice a3 t.m c3] 25 (0,0))]:Pcs)) 8 [[],[0],[],[2],[],[2,3,4],[2,3,4,5],[2,3,4,5,6],[],[],[]] [8,9,10,11] [8,9,10,11,7] [0,1,2,3,4,5,6] (fun i_=>match i_ with | 8=>X1_ | 9=>X9 | 10=>X7 | 11=>X8 | _=>[]) (fun _=>[]) (fun i_=>match i_ with | 0=>[] | 1=>[0] | 2=>[] | 3=>[2] | 4=>[] | 5=>[3,4] | 6=>[5] | 7=>[6] | _=>[]) (fun i_ val_ pc_ v_ x_=>match i_ with | 0=>v_= .pointer (some ⟨b13,2,none⟩)∧x_=[] | 1=>v_=w_∧x_=[] | 2=>v_= .pointer (some ⟨b1,2,none⟩)∧x_=[] | 3=>v_= .slice a3 t.m c3∧x_=[] | 4=>v_= .int .i64 (((k:Nat):Int))∧x_=[] | 5=>v_= .pointer (some ((adr a3).add (k*2)))∧x_=[] | 6=>v_= .agg #[.int .i64 ((t.wy.getD k wz).1),.int .i64 ((t.wy.getD k wz).2)]∧x_=[] | 7=>OwnS 43 2 v_ [[.int .i64 ((t.wy.getD k wz).1),.int .i64 ((t.wy.getD k wz).2)]] x_ | _=>True) (fun val44=>(.agg #[.slice a1 t.nH c1,.slice a2 t.nW c2,.slice a3 t.m c3]::.agg #[.int .i64 (x),.int .i64 (y)]::.pointer (some ⟨b1,0,none⟩)::.pointer (some ⟨b2,0,none⟩)::.pointer (some ⟨b3,0,none⟩)::.pointer (some ⟨b13,0,none⟩)::.bool (p_)::.int .i64 (((k:Nat):Int))::.agg #[.slice a1 t.nH c1,.slice a2 t.nW c2,.slice a3 t.m c3]::.agg #[w4,w5,w6]::.pointer (some ⟨b13,2,none⟩)::.int .i64 (((k:Nat):Int))::.pointer (some ⟨b1,2,none⟩)::.slice a3 t.m c3::.int .i64 (((t.m:Nat):Int))::.bool (decide (((k:Nat):Int)<((t.m:Nat):Int)))::(y14 16)::(y14 17)::.bool (p_)::.bool (!p_)::.bool (!p_)::.agg #[.int .i64 (x),.int .i64 (y)]::.pointer (some ⟨b1,2,none⟩)::.slice a3 t.m c3::.int .i64 (((k:Nat):Int))::.pointer (some ((adr a3).add (k*2)))::.agg #[.int .i64 ((t.wy.getD k wz).1),.int .i64 ((t.wy.getD k wz).2)]::.bool (decide (Bf ((x,y):FWay) (((t.wy.getD k wz).1,(t.wy.getD k wz).2):FWay)))::.bool (decide (Bf ((x,y):FWay) (((t.wy.getD k wz).1,(t.wy.getD k wz).2):FWay)))::(y14 29)::(y14 30)::(y14 31)::(y14 32)::(y14 33)::(y14 34)::(val44 0)::(val44 1)::(val44 2)::(val44 3)::(val44 4)::(val44 5)::(val44 6)::(val44 7)::(y14 43)::(y14 44)::undef::zu8 [])) xkv (by kernel_rfl) (Nat.le_of_ble_eq_true rfl) (by kernel_rfl) (by kernel_rfl) (by kernel_rfl) (fun _ _=>⟨fun _ _ h=>h.2,⟨fun _ _ h=>h.2,⟨fun _ _ h=>h.2,⟨fun _ _ h=>h.2,⟨fun _ _ h=>h.2,⟨fun _ _ h=>h.2,⟨fun _ _ h=>h.2,trivial⟩⟩⟩⟩⟩⟩⟩) (fun _=>by kernel_rfl) (by kernel_rfl) ?_ ?_) (fun h_ H_=>St.swap (A:=([(b13,.cells #[w4,w5,w_] 25 (0,0)),(b3,.cells #[.slice none 0 0,.slice none 0 0,.slice none 0 0] 25 (0,0)),(b2,.cells #[.int .i64 (x),.int .i64 (y)] 43 (0,0)),(b1,.cells #[.slice a1 t.nH c1,.slice a2 t.nW c2,.slice a3 t.m c3] 25 (0,0))]:Pcs)) (U:=(X1_++(X9++(X7++(X8++[]))))) H_)
    ·
     refine xak rfl (xcj ?_) ?_
     ·
      intro val44 pc45 hQ_ hX_
      obtain ⟨q_,hq0_⟩: ∃ q_:Value→Pcs→Prop,q_=(fun v_ x_=>v_= .pointer (some ⟨b13,2,none⟩)∧x_=[]):=⟨_,rfl⟩
      refine ⟨(zq2 (zq4 (zq16 (zq32 [])))),[],q_,rfl,rfl,(fun _ _ z_=>by subst hq0_;exact z_),?_⟩
      subst hq0_
      exact xcz mn (fun _ h_ H_=>xaz xhk rfl (a':=⟨b13,2,none⟩) rfl) ⟨rfl,rfl⟩
     refine xak rfl (xcj ?_) ?_
     ·
      intro val44 pc45 hQ_ hX_
      have e0_:val44 0= .pointer (some ⟨b13,2,none⟩):=(hQ_ 0 rfl).1
      obtain ⟨q_,hq0_⟩: ∃ q_:Value→Pcs→Prop,q_=(fun v_ x_=>v_=w_∧x_=[]):=⟨_,rfl⟩
      refine ⟨(zq2 (zq4 (zq16 (zq32 [])))),[],q_,(by rw [e0_]),rfl,(fun _ _ z_=>by subst hq0_;exact z_),?_⟩
      subst hq0_
      exact xcz mn (fun _ h_ H_=>xaj H_ tA23 rfl (i:=0) rfl (v:=w_) rfl) ⟨rfl,rfl⟩
     refine xak rfl (xcj ?_) ?_
     ·
      intro val44 pc45 hQ_ hX_
      obtain ⟨q_,hq0_⟩: ∃ q_:Value→Pcs→Prop,q_=(fun v_ x_=>v_= .pointer (some ⟨b1,2,none⟩)∧x_=[]):=⟨_,rfl⟩
      refine ⟨(zq2 (zq4 (zq16 (zq32 [])))),[],q_,rfl,rfl,(fun _ _ z_=>by subst hq0_;exact z_),?_⟩
      subst hq0_
      exact xcz mn (fun _ h_ H_=>xaz xhk rfl (a':=⟨b1,2,none⟩) rfl) ⟨rfl,rfl⟩
     refine xak rfl (xcj ?_) ?_
     ·
      intro val44 pc45 hQ_ hX_
      have e2_:val44 2= .pointer (some ⟨b1,2,none⟩):=(hQ_ 2 rfl).1
      obtain ⟨q_,hq0_⟩: ∃ q_:Value→Pcs→Prop,q_=(fun v_ x_=>v_= .slice a3 t.m c3∧x_=[]):=⟨_,rfl⟩
      refine ⟨(zq2 (zq4 (zq16 (zq32 [])))),[],q_,(by rw [e2_]),rfl,(fun _ _ z_=>by subst hq0_;exact z_),?_⟩
      subst hq0_
      exact xcz mn (fun _ h_ H_=>xaj H_ tA23 rfl (i:=3) rfl (v:=.slice a3 t.m c3) rfl) ⟨rfl,rfl⟩
     refine xak rfl (xcj ?_) ?_
     ·
      intro val44 pc45 hQ_ hX_
      obtain ⟨q_,hq0_⟩: ∃ q_:Value→Pcs→Prop,q_=(fun v_ x_=>v_= .int .i64 (((k:Nat):Int))∧x_=[]):=⟨_,rfl⟩
      refine ⟨(zq2 (zq4 (zq16 (zq32 [])))),[],q_,rfl,rfl,(fun _ _ z_=>by subst hq0_;exact z_),?_⟩
      subst hq0_
      exact xcz mn (fun _ h_ H_=>xaq (v:=.int .i64 (((k:Nat):Int))) rfl) ⟨rfl,rfl⟩
     refine xak rfl (xcj ?_) ?_
     ·
      intro val44 pc45 hQ_ hX_
      have e3_:val44 3= .slice a3 t.m c3:=(hQ_ 3 rfl).1
      have e4_:val44 4= .int .i64 (((k:Nat):Int)):=(hQ_ 4 rfl).1
      obtain ⟨q_,hq0_⟩: ∃ q_:Value→Pcs→Prop,q_=(fun v_ x_=>v_= .pointer (some ((adr a3).add (k*2)))∧x_=[]):=⟨_,rfl⟩
      refine ⟨(zq2 (zq4 (zq16 (zq32 [])))),[],q_,(by rw [e3_,e4_]),rfl,(fun _ _ z_=>by subst hq0_;exact z_),?_⟩
      subst hq0_
      exact xcz mn (fun _ h_ H_=>xbw (i:=k) Tryd.underlying23 tS43 (xkj a3 t.m c3 (T.y.ne (by omega))) rfl (by omega)) ⟨rfl,rfl⟩
     refine xak rfl (xcj ?_) ?_
     ·
      intro val44 pc45 hQ_ hX_
      have e5_:val44 5= .pointer (some ((adr a3).add (k*2))):=(hQ_ 5 rfl).1
      obtain ⟨q_,hq0_⟩: ∃ q_:Value→Pcs→Prop,q_=(fun v_ x_=>v_= .agg #[.int .i64 ((t.wy.getD k wz).1),.int .i64 ((t.wy.getD k wz).2)]∧x_=[]):=⟨_,rfl⟩
      refine ⟨(zq2 (zq4 (zq16 (zq32 [])))),[],q_,(by rw [e5_]),rfl,(fun _ _ z_=>by subst hq0_;exact z_),?_⟩
      subst hq0_
      exact xcz mn (fun _ h_ H_=>xhq H_ tA43 tS43 rfl (vs:=[.int .i64 ((t.wy.getD k wz).1),.int .i64 ((t.wy.getD k wz).2)]) rfl (T.y.all (by omega))) ⟨rfl,rfl⟩
     refine xak rfl (xcj ?_) ?_
     ·
      intro val44 pc45 hQ_ hX_
      have e6_:val44 6= .agg #[.int .i64 ((t.wy.getD k wz).1),.int .i64 ((t.wy.getD k wz).2)]:=(hQ_ 6 rfl).1
      obtain ⟨q_,hq0_⟩: ∃ q_:Value→Pcs→Prop,q_=(fun v_ x_=>OwnS 43 2 v_ [[.int .i64 ((t.wy.getD k wz).1),.int .i64 ((t.wy.getD k wz).2)]] x_):=⟨_,rfl⟩
      refine ⟨(zq2 (zq4 (zq16 (zq32 [])))),[],q_,(by rw [e6_]),rfl,(fun _ _ z_=>by subst hq0_;exact z_),?_⟩
      subst hq0_
      exact xnj mn Tryd.underlying23 tS43 tZ43 (Nat.le_of_ble_eq_true rfl) (vs:=[(0,.agg #[.int .i64 ((t.wy.getD k wz).1),.int .i64 ((t.wy.getD k wz).2)])]) rfl rfl (es:=[[.int .i64 ((t.wy.getD k wz).1),.int .i64 ((t.wy.getD k wz).2)]]) rfl rfl rfl fun _ _ o_=>o_
     exact xlx rfl
    intro val44 pc45 hQ_ hX_
    have e0_:val44 0= .pointer (some ⟨b13,2,none⟩):=(hQ_ 0 (by decide)).1
    have e1_:val44 1=w_:=(hQ_ 1 (by decide)).1
    have e2_:val44 2= .pointer (some ⟨b1,2,none⟩):=(hQ_ 2 (by decide)).1
    have e3_:val44 3= .slice a3 t.m c3:=(hQ_ 3 (by decide)).1
    have e4_:val44 4= .int .i64 (((k:Nat):Int)):=(hQ_ 4 (by decide)).1
    have e5_:val44 5= .pointer (some ((adr a3).add (k*2))):=(hQ_ 5 (by decide)).1
    have e6_:val44 6= .agg #[.int .i64 ((t.wy.getD k wz).1),.int .i64 ((t.wy.getD k wz).2)]:=(hQ_ 6 (by decide)).1
    have q7_:OwnS 43 2 (val44 7) [[.int .i64 ((t.wy.getD k wz).1),.int .i64 ((t.wy.getD k wz).2)]] (pc45 7):=hQ_ 7 (by decide)
    have x8_:pc45 8=X1_:=hX_ 8 (by decide)
    have x9_:pc45 9=X9:=hX_ 9 (by decide)
    have x10_:pc45 10=X7:=hX_ 10 (by decide)
    have x11_:pc45 11=X8:=hX_ 11 (by decide)
    clear hQ_ hX_
    refine xwv (Φ:=fun h_=>St h [] p h_ (([(b13,.cells #[w4,w5,w_] 25 (0,0)),(b3,.cells #[.slice none 0 0,.slice none 0 0,.slice none 0 0] 25 (0,0)),(b2,.cells #[.int .i64 (x),.int .i64 (y)] 43 (0,0)),(b1,.cells #[.slice a1 t.nH c1,.slice a2 t.nW c2,.slice a3 t.m c3] 25 (0,0))]:Pcs)++(pc45 8++(pc45 9++(pc45 10++(pc45 11++(pc45 7++[]))))))) ?_ (fun h_ H_=>H_.swap')
    rw [x8_,x9_,x10_,x11_]
    refine xgq (tm':=(zq2 (zq4 (zq16 (zq32 []))))) (by rw [e0_,e1_,e2_,e3_,e4_,e5_,e6_]) ?_
    have o48:=q7_
    refine xjz (List.Perm.append_left _ (List.Perm.append_left _ (List.Perm.append_left _ (List.Perm.append_left _ (List.perm_append_comm_assoc _ _ _))))) ?_
    refine xjz (List.Perm.append_left _ (List.Perm.append_left _ (List.Perm.append_left _ (List.perm_append_comm_assoc _ _ _)))) ?_
    refine xjz (List.Perm.append_left _ (List.Perm.append_left _ (List.perm_append_comm_assoc _ _ _))) ?_
    refine xcq (L':=([(b13,.cells #[w4,w5,w_] 25 (0,0)),(b3,.cells #[.slice none 0 0,.slice none 0 0,.slice none 0 0] 25 (0,0)),(b2,.cells #[.int .i64 (x),.int .i64 (y)] 43 (0,0)),(b1,.cells #[.slice a1 t.nH c1,.slice a2 t.nW c2,.slice a3 t.m c3] 25 (0,0))]:Pcs)++(X1_++((pc45 7)++(X9++(X7++(X8++[])))))) rfl ?_
    refine xrw ([(b13,.cells #[w4,w5,w_] 25 (0,0)),(b3,.cells #[.slice none 0 0,.slice none 0 0,.slice none 0 0] 25 (0,0)),(b2,.cells #[.int .i64 (x),.int .i64 (y)] 43 (0,0)),(b1,.cells #[.slice a1 t.nH c1,.slice a2 t.nW c2,.slice a3 t.m c3] 25 (0,0))]:Pcs) X1_ (pc45 7) mn Tryd.underlying23 tS43 tZ43 rfl tB43 Tryd.underlying23 rfl rfl o1_ o48 (xxz rfl) (by rw [wcs_size];first | (simp only [List.length_cons,List.length_nil];omega) | (rw [List.length_append];simp only [List.length_cons,List.length_nil];omega)) (by decide) fun v49 X50 o51=>?_
    have o52:OwnS 43 2 v49 (wcs (l_++[(t.wy.getD k wz)])) X50:=o51.as (xyz _ (t.wy.getD k wz))
    refine ro (xaz xhk rfl (a':=⟨b13,2,none⟩) rfl) ?_
    refine xpv mn tS23 rfl (v:=v49) rfl o52.one (i:=0) rfl (Nat.succ_le_iff.1 (Nat.le_of_ble_eq_true rfl)) (cs2:=[w4,w5,v49]) rfl (xcq (L':=([(b13,.cells #[w4,w5,v49] 25 (0,0)),(b3,.cells #[.slice none 0 0,.slice none 0 0,.slice none 0 0] 25 (0,0)),(b2,.cells #[.int .i64 (x),.int .i64 (y)] 43 (0,0)),(b1,.cells #[.slice a1 t.nH c1,.slice a2 t.nW c2,.slice a3 t.m c3] 25 (0,0))]:Pcs)++(X50++(X9++(X7++(X8++[]))))) rfl ?_)
    refine xav <| xeq <| xbx <| rt (xaq (v:=.int .i64 (((k:Nat):Int))) rfl) (tm':=zq1 (zq16 _)) rfl ?_
    refine ro (xfq rfl rfl (n:=((k+1:Nat):Int)) (wr (by omega))) ?_
    refine ro (xax (v:=.int .i64 (((k+1:Nat):Int))) rfl) <| xav ?_
    exact fun h_ H_=>IH15 _ _ (by omega) h_ ⟨k+1,p_,(l_++[(t.wy.getD k wz)]),v49,X50,rfl,(y_of rfl),(by omega),(wcx hp_ (by first | (rw [show p_=true by assumption];rfl) | (rw [show p_=false by assumption,decide_eq_true (show Bf (x,y) (t.wy.getD k wz) by assumption)];rfl) | (rw [show p_=false by assumption,decide_eq_false (show ¬ Bf (x,y) (t.wy.getD k wz) by assumption)];rfl))),(zqq hp_ hl_ (by first | exact fun z_=>absurd z_.2 (by assumption) | exact fun z_=>absurd z_.1 (by rw [show p_=true by assumption];decide))),o52,H_⟩
 ·
  refine xdx rfl (dff cc16) <| xiz rfl <| xek <| fsr <| rt (xaq (v:=.bool (p_)) rfl) (tm':=zq2 (zq4 (zq16 (zq32 [])))) rfl <| ro (xgw rfl) ?_
  refine xav ?_
  rcases xzj (p_) with cc53 | cc53
  ·
   refine xdx rfl (xej cc53) <| xdk <| fsr <| rd (fun h_ H_=>xaw H_ tA25 tS25 rfl (i:=0) rfl (vs:=[w4,w5,w_]) rfl rfl) ?_
   refine xiq mn tS25 rfl (v:=.agg #[w4,w5,w_]) rfl (i:=1) rfl rfl (xew o10.one.2 (xew o11.one.2 (xew o1_.one.2 rfl))) (Nat.le_of_ble_eq_true rfl) (cs2:=[w4,w5,w_]) rfl (xcq (L':=([(b13,.cells #[w4,w5,w_] 25 (0,0)),(b3,.cells #[w4,w5,w_] 25 (0,0)),(b2,.cells #[.int .i64 (x),.int .i64 (y)] 43 (0,0)),(b1,.cells #[.slice a1 t.nH c1,.slice a2 t.nW c2,.slice a3 t.m c3] 25 (0,0))]:Pcs)++(X1_++(X9++(X7++(X8++[]))))) rfl ?_)
   refine xav ?_
   refine xev Tryd.func26 rfl (vs:=[.agg #[w4,w5,w_]]) (fun h_ H_=>⟨.agg #[w4,w5,w_],_,rfl,(xbj (xbk (xoz tA25 tS25 (vs:=[w4,w5,w_]) rfl (fun j_ v_ e_=>by rw [xox];exact H_.ocell (i:=1) rfl (by simpa using e_)) ⟨rfl,rfl⟩))),rfl⟩) (v:=.agg #[w4,w5,w_]) rfl ?_
   have kE_:k=t.m:=by omega
   exact fun h_ H_=>K _ _ ⟨_,_,_,_,_,_,rfl,o10,o11,o1_.as (congrArg wcs (by rw [withW,if_pos (by rw [← kE_,← hp_];assumption),← kE_,← hl_])),by simpa using ((H_.dropA).sub (List.Sublist.append_left (List.sublist_append_right _ _) _)).new⟩
  ·
   refine xdw rfl (xhw cc53) <| xbx <| rt (xaz xhk rfl (a':=⟨b13,2,none⟩) rfl) (tm':=zq2 (zq4 (zq16 (zq32 [])))) rfl <| rd (fun h_ H_=>xaj H_ tA23 rfl (i:=0) rfl (v:=w_) rfl) <| rd (fun h_ H_=>xaw H_ tA43 tS43 rfl (i:=2) rfl (vs:=[.int .i64 (x),.int .i64 (y)]) rfl rfl) ?_
   refine xmj ([(b13,.cells #[w4,w5,w_] 25 (0,0)),(b3,.cells #[.slice none 0 0,.slice none 0 0,.slice none 0 0] 25 (0,0)),(b2,.cells #[.int .i64 (x),.int .i64 (y)] 43 (0,0)),(b1,.cells #[.slice a1 t.nH c1,.slice a2 t.nW c2,.slice a3 t.m c3] 25 (0,0))]:Pcs) mn Tryd.underlying23 tS43 tZ43 (Nat.le_of_ble_eq_true rfl) (vs:=[(0,.agg #[.int .i64 (x),.int .i64 (y)])]) rfl rfl (es:=[[.int .i64 (x),.int .i64 (y)]]) rfl rfl rfl fun v54 X55 o56=>?_
   refine xgq (tm':=zq2 (zq4 (zq16 (zq32 [])))) rfl ?_
   refine xjz (List.Perm.append_left _ (List.perm_append_comm_assoc _ _ _)) ?_
   refine xcq (L':=([(b13,.cells #[w4,w5,w_] 25 (0,0)),(b3,.cells #[.slice none 0 0,.slice none 0 0,.slice none 0 0] 25 (0,0)),(b2,.cells #[.int .i64 (x),.int .i64 (y)] 43 (0,0)),(b1,.cells #[.slice a1 t.nH c1,.slice a2 t.nW c2,.slice a3 t.m c3] 25 (0,0))]:Pcs)++(X1_++(X55++(X9++(X7++(X8++[])))))) rfl ?_
   refine xrw ([(b13,.cells #[w4,w5,w_] 25 (0,0)),(b3,.cells #[.slice none 0 0,.slice none 0 0,.slice none 0 0] 25 (0,0)),(b2,.cells #[.int .i64 (x),.int .i64 (y)] 43 (0,0)),(b1,.cells #[.slice a1 t.nH c1,.slice a2 t.nW c2,.slice a3 t.m c3] 25 (0,0))]:Pcs) X1_ X55 mn Tryd.underlying23 tS43 tZ43 rfl tB43 Tryd.underlying23 rfl rfl o1_ o56 (xxz rfl) (by rw [wcs_size];simp only [List.length_cons,List.length_nil];omega) (by decide) fun v57 X58 o59=>?_
   have o60:OwnS 43 2 v57 (wcs (l_++[((x,y):FWay)])) X58:=o59.as (xyz _ ((x,y):FWay))
   refine ro (xaz xhk rfl (a':=⟨b13,2,none⟩) rfl) ?_
   refine xpv mn tS23 rfl (v:=v57) rfl o60.one (i:=0) rfl (Nat.succ_le_iff.1 (Nat.le_of_ble_eq_true rfl)) (cs2:=[w4,w5,v57]) rfl (xcq (L':=([(b13,.cells #[w4,w5,v57] 25 (0,0)),(b3,.cells #[.slice none 0 0,.slice none 0 0,.slice none 0 0] 25 (0,0)),(b2,.cells #[.int .i64 (x),.int .i64 (y)] 43 (0,0)),(b1,.cells #[.slice a1 t.nH c1,.slice a2 t.nW c2,.slice a3 t.m c3] 25 (0,0))]:Pcs)++(X58++(X9++(X7++(X8++[]))))) rfl ?_)
   refine ren <| xbx ?_
   refine xbq mn (fun h_ H_=>xaw H_ tA25 tS25 rfl (i:=0) rfl (vs:=[w4,w5,v57]) rfl rfl) (tm':=zq2 (zq4 (zq16 (zq32 [])))) rfl ?_
   refine xiq mn tS25 rfl (v:=.agg #[w4,w5,v57]) rfl (i:=1) rfl rfl (xew o10.one.2 (xew o11.one.2 (xew o60.one.2 rfl))) (Nat.le_of_ble_eq_true rfl) (cs2:=[w4,w5,v57]) rfl (xcq (L':=([(b13,.cells #[w4,w5,v57] 25 (0,0)),(b3,.cells #[w4,w5,v57] 25 (0,0)),(b2,.cells #[.int .i64 (x),.int .i64 (y)] 43 (0,0)),(b1,.cells #[.slice a1 t.nH c1,.slice a2 t.nW c2,.slice a3 t.m c3] 25 (0,0))]:Pcs)++(X58++(X9++(X7++(X8++[]))))) rfl ?_)
   refine xav ?_
   refine xev Tryd.func26 rfl (vs:=[.agg #[w4,w5,v57]]) (fun h_ H_=>⟨.agg #[w4,w5,v57],_,rfl,(xbj (xbk (xoz tA25 tS25 (vs:=[w4,w5,v57]) rfl (fun j_ v_ e_=>by rw [xox];exact H_.ocell (i:=1) rfl (by simpa using e_)) ⟨rfl,rfl⟩))),rfl⟩) (v:=.agg #[w4,w5,v57]) rfl ?_
   have kE_:k=t.m:=by omega
   exact fun h_ H_=>K _ _ ⟨_,_,_,_,_,_,rfl,o10,o11,o60.as (congrArg wcs (by rw [withW,if_neg (by rw [← kE_,← hp_,show p_=false by assumption];decide),← kE_,← hl_])),by simpa using ((H_.dropA).sub (List.Sublist.append_left (List.sublist_append_right _ _) _)).new⟩
theorem wvx (md:Md) {h:Heap} {p:PHeap} (hp:Per p h) {a1 a2 a3:Option Addr} {c1 c2 c3:Nat} {t:Tn} (T:TownP p a1 t.nH a2 t.nW a3 t.m t) (hn:t.nH≤40∧t.nW≤40∧t.m≤41) (hcap:t.m≤c3) (N:NoneP p) (hc:chkB t=0) {x y:Int} (hx:0≤x∧x≤(t.nH:Int)-1) (hy:0≤y∧y≤(t.nW:Int)-1):
  CallsX Tryd.prog md 55 #[.agg #[.slice a1 t.nH c1,.slice a2 t.nW c2,.slice a3 t.m c3],.int .i64 x,.int .i64 y] h fun v h'=>v= .tuple #[.bool (decide (WayP t x y)),.int .i64 (wayV t x y)]∧Keep h h':=
 (c55 md h p hp _ _ _ _ _ _ t T hn hcap x y N).mono fun _ _ ⟨e,k⟩=>⟨by rw [e,vev (wvv hc hx hy),vej (wvv hc hx hy)],k⟩
end Go.Proofs.YtalfgojocdonhaaDoor
namespace Go.X.Flow
open Go.X

def setG (g h:Nat):Bool:=decide (g / 2 ^ h &&& 1=1)
def gB (a b c d e f:Bool):Nat:=(if a then 1 else 0)+(if b then 2 else 0)+(if c then 4 else 0)+(if d then 8 else 0)+(if e then 16 else 0)+(if f then 32 else 0)
theorem LG_in: ∀ g:Nat,g<64→ ∀ h:Nat,h<6→(setG g h=true↔((h:Nat):Int)∈LG g):=by decide +kernel
theorem vdv: ∀ g:Nat,g<64→(LG g).Pairwise (· < ·):=by decide +kernel

def wantL (t:Tn) (l:List Int) (k:Nat):Int:=sm k fun i=>t.hv (l.getD i 0).toNat
def isB (t:Tn) (l:List Int) (w:Int):Nat→Bool
  | 0=>false
  | k+1=>isB t l w k || (decide ((t.wy.getD k wz).2=w) && decide ((t.wy.getD k wz).1∈l))
def reachL (t:Tn) (l:List Int) (k:Nat):Int:=sm k fun w=>if isB t l ((w:Nat):Int) t.m then t.wv w else 0
def setL (l:List Int) (h:Nat):Bool:=decide (((h:Nat):Int)∈l)
theorem zlx {t:Tn} {X Y:Nat→Bool} (h: ∀ i,i<t.nH→X i=Y i):wantX t X=wantX t Y:=xik fun i hi=>by
  show t.hv i*inc (X i)=t.hv i*inc (Y i)
  rw [h i hi]
theorem zqz {t:Tn}: ∀ {l:List Int},l.Pairwise (· < ·)→(∀ z∈l,0≤z∧z<(t.nH:Int))→wantL t l l.length=wantX t (setL l)
  | [],_,_=>by
    have:wantX t (setL [])=sm t.nH fun _=>0:=xik fun i _=>by
      show t.hv i*inc (setL [] i)=0
      have:setL [] i=false:=decide_eq_false List.not_mem_nil
      rw [this];exact Int.mul_zero _
    rw [this,xtk];rfl
  | x::l,h,b=>by
    obtain ⟨h1,h2⟩:=List.pairwise_cons.1 h
    have ih:=zqz (t:=t) h2 fun z hz=>b z (List.mem_cons_of_mem _ hz)
    have e1:wantL t (x::l) (x::l).length=t.hv x.toNat+wantL t l l.length:=by
      unfold wantL
      have:=zmq (fun i=>t.hv ((x::l).getD i 0).toNat) l.length
      exact this
    have hx:=b x List.mem_cons_self
    have e2:wantX t (setL (x::l))=wantX t (setL l)+sm t.nH fun i=>if x.toNat=i then t.hv i else 0:=by
      unfold wantX
      rw [← xzz]
      refine xik fun i _=>?_
      show t.hv i*inc (setL (x::l) i)=t.hv i*inc (setL l i)+if x.toNat=i then t.hv i else 0
      by_cases e:x.toNat=i
      · have e3:((i:Nat):Int)=x:=by omega
        have n:setL l i=false:=decide_eq_false fun z=>by have:=h1 _ z;omega
        have y:setL (x::l) i=true:=decide_eq_true (by rw [e3];exact List.mem_cons_self)
        rw [n,y,if_pos e];simp [inc]
      · have:setL (x::l) i=setL l i:=by
          unfold setL;congr 1
          rw [List.mem_cons,eq_iff_iff]
          exact ⟨fun z=>z.resolve_left (by omega),.inr⟩
        rw [this,if_neg e,Int.add_zero]
    have e3:(sm t.nH fun i=>if x.toNat=i then t.hv i else 0)=t.hv x.toNat:=yrj (fun i=>t.hv i) (by omega)
    rw [e1,e2,e3,ih];omega

theorem wfx {t:Tn} {g w:Nat}:(0≤idxA (shq g w) t.wy↔touch t (setG g) w=true):=by
  rw [yiv,zek]
  constructor
  · rintro ⟨x,hx,h⟩
    obtain ⟨i,hi,rfl⟩:=List.mem_iff_getElem.1 hx
    unfold shq at h;rw [decide_eq_true_eq] at h
    have e:t.wy.getD i wz=t.wy[i]:=by rw [List.getD_eq_getElem?_getD,List.getElem?_eq_getElem hi];rfl
    refine ⟨i,hi,?_,?_⟩
    · show (t.wy.getD i wz).2.toNat=w;rw [e];exact h.1
    · unfold setG;rw [decide_eq_true_eq];show g / 2 ^ (t.wy.getD i wz).1.toNat &&& 1=1;rw [e];exact h.2
  · rintro ⟨i,hi,a,b⟩
    have e:t.wy.getD i wz=t.wy[i]:=by rw [List.getD_eq_getElem?_getD,List.getElem?_eq_getElem hi];rfl
    refine ⟨t.wy[i],List.getElem_mem hi,?_⟩
    unfold shq;rw [decide_eq_true_eq,← e]
    unfold setG at b;rw [decide_eq_true_eq] at b
    exact ⟨a,b⟩
theorem vfk {t:Tn} (O:Ok t) {g:Nat} (hg:g<2 ^ t.nH): ∀ h,h<t.nH→setG g h=setL (LG g) h:=fun h hh=>by
  have h64:g<64:=Nat.lt_of_lt_of_le hg (ysv O)
  have h6:=O.nh
  rw [Bool.eq_iff_iff,LG_in g h64 h (by omega)]
  unfold setL;rw [decide_eq_true_eq]
theorem vjk {t:Tn} (O:Ok t) {g:Nat} (hg:g<2 ^ t.nH): ∀ z∈LG g,0≤z∧z<(t.nH:Int):=fun z hz=>by
  have:=List.all_eq_true.1 (wxj t.nH O.nh g hg) z hz
  simpa using this
theorem zfw {t:Tn} (O:OkT t) {g:Nat} (hg:g<2 ^ t.nH):shortN t g=wantX t (setG g)-reachX t (setG g):=by
  have h64:g<64:=Nat.lt_of_lt_of_le hg (ysv O.toOk)
  unfold shortN
  have e1:wantG t g (LG g).length=wantX t (setG g):=by
    rw [zlx (vfk O.toOk hg),← zqz (vdv g h64) (vjk O.toOk hg)];rfl
  have e2:reachG t g t.nW=reachX t (setG g):=xik fun w _=>by
    show (if 0≤idxA (shq g w) t.wy then t.wv w else 0)=t.wv w*inc (touch t (setG g) w)
    by_cases c:0≤idxA (shq g w) t.wy
    · rw [if_pos c,wfx.1 c];simp [inc]
    · rw [if_neg c,Bool.eq_false_iff.2 fun e=>c (wfx.2 e)];simp [inc]
  rw [e1,e2]
structure ShortF (t:Tn):Prop where
  k:shortE t=0∨shortE t=3
  a:shortE t=0↔0<worstV t
  b:shortE t=0→shortP t≠[]
  n: ¬ shortE t=0→shortP t=[]
  r:Rise (shortP t) 0 ((t.nH:Int)-1)
  w:shortE t=0→reachL t (shortP t) t.nW<wantL t (shortP t) (shortP t).length
  sub: ∀ l,Rise l 0 ((t.nH:Int)-1)→(shortE t=0→l.length<(shortP t).length)→ ∀ Y:Nat→Bool,(∀ i,Y i=true→setL l i=true)→wantX t Y≤reachX t Y
def zeroK (t:Tn) (l:List Int) (k:Nat):List Int:=(List.range t.nH).map fun h=>if h<k then (if ((h:Nat):Int)∈l then t.hv h else 0) else t.hv h
end Go.X.Flow
namespace Go.Proofs.YtalfgojocdonhaaDoor
open Go.X Go.X.Flow Go.Conc
set_option maxRecDepth 10000
set_option synthInstance.maxSize 2000

set_option maxHeartbeats 2000000
theorem zrw (md:Md) {h:Heap} {p:PHeap} (hp:Per p h) {a1 a2 a3:Option Addr} {c1 c2 c3:Nat} {t:Tn} (T:TownP p a1 t.nH a2 t.nW a3 t.m t) (hn:t.nH≤40∧t.nW≤40∧t.m≤41) (Z:TabP p) (hc:chkB t=0):
  CallsX Tryd.prog md 25 #[.agg #[.slice a1 t.nH c1,.slice a2 t.nW c2,.slice a3 t.m c3]] h fun v h'=>∃ w X,v= .tuple #[w,.int .i64 (shortE t)]∧OwnS 3 1 w (ics (shortP t)) X∧New h h' X:=
 (c25 md h p hp _ _ _ _ _ _ t T hn Z).mono fun _ _ ⟨w,X,e,o,k⟩=>⟨w,X,e,o.as (congrArg ics (ydj hc)),k⟩
end Go.Proofs.YtalfgojocdonhaaDoor
namespace Go.X
open Go.Conc Go.RowKit

def AtFin (P:Program) (v:Value) (g:Goroutine):Prop:=g.status= .running∧ ∀ w:World,stepG P true g w= .ended (.done v) w #[]
def StopE (P:Program) (R:Value→Heap→Prop) (g:Goroutine) (h:Heap):Prop:=∃ v,AtFin P v g∧R v h
def EntersX (P:Program) (md:Md) (f:FuncId) (args:Array Value) (h:Heap) (R:Value→Heap→Prop):Prop:=Reach P md (G (Frame.enter P f args .normal) []) h (StopE P R)

section
variable {P:Program} {md:Md} {f:FuncId} {h:Heap} {Φ:Heap→Prop} {tm:List Value} {k:List Item} {R:Value→Heap→Prop}

end

def nilO:Obj→Obj
  | .cells c e f=>if c.size=0 then .cells #[] 0 (0,0) else .cells c e f
  | o=>o
def nilV (r:Heap):Heap:=r.map nilO
def Empty (r:Heap) (b:Nat):Prop:=∃ e f,r[b]?=some (.cells #[] e f)
section
variable {P:Program} {f:FuncId} {args:Array Value} {w:World} {R:Value→Heap→Prop}
end
end Go.X
namespace Go.X
open Go.Conc Go.RowKit Go.ChangeShapes Go.WideShapes Go.ChangeAt

def vwP (W:World):PHeap:=fun b=>(nilV W.heap)[b]?
theorem zuk {f:Nat→Option Value}: ∀ {l:List Nat} {r:List Value},l.mapM f=some r→r.length=l.length∧ ∀ (j:Nat) (x:Value),r[j]?=some x→ ∃ i,l[j]?=some i∧f i=some x
  | [],r,h=>by simp at h;subst h;simp
  | i::l,r,h=>by
    simp only [List.mapM_cons,Option.bind_eq_bind,Option.bind_eq_some_iff] at h
    obtain ⟨y,hy,ys,hys,e⟩:=h
    obtain rfl:y::ys=r:=by simpa using e
    obtain ⟨h1,h2⟩:=zuk hys
    refine ⟨by simp [h1],fun j x hx=>?_⟩
    cases j with
    | zero=>simp at hx;subst hx;exact ⟨i,rfl,hy⟩
    | succ j=>exact h2 j x (by simpa using hx)

theorem zkj {W:World} {a:Addr} {n:Nat} {cs:List Value} (h:W.cells? 0 a n=some cs):cs.length=n∧ ∀ (j:Nat) (x:Value),cs[j]?=some x→W.cell? (a.add j)=some x:=by
  unfold World.cells? at h
  rw [if_pos (Nat.zero_le _)] at h
  obtain ⟨h1,h2⟩:=zuk h
  refine ⟨by simpa using h1,fun j x hx=>?_⟩
  obtain ⟨i,hi,hf⟩:=h2 j x hx
  obtain ⟨_,rfl⟩:j<n∧j=i:=by simpa [List.getElem?_range'] using List.getElem?_eq_some_iff.1 hi
  exact hf

theorem vfj (p:PHeap) (w:Nat):Sl p none 0 w []:=⟨rfl,by simp,fun h=>absurd h (by omega),fun i e he=>by simp at he⟩

section
variable {H:Type} {enc:TypeId × Value→H} {P:Program} {W:World}
theorem yzk {t:TypeId} {m:Nat} {cs:List Value} {y:DataW H × List MemPlace} (ht:P.underlying t=some (.int .i64)) (h:DataW.trod enc P W 0 (fun _=>true) true m t cs=some y): ∃ n:Int,cs=[.int .i64 n]:=by
  obtain ⟨n,e,_,_⟩:=DataW.trod_int ht h
  exact ⟨n,e⟩
theorem ygw (hl:laidOutB P=true) {W':World} (hB:Below W.heap.size W W'): ∀ {ts:List TypeId} {vs:List Value} {ds:List (DataW H)} {ps:List MemPlace},(∀ t∈ts,P.readableRec t=true∧t<P.types.size)→(∀ x∈ps,x.block<W.heap.size)→
    DataW.TrodAll enc P W 0 (fun _=>true) true ts vs ds ps→DataW.TrodAll enc P W' 0 (fun b=>decide (b<W.heap.size)) true ts vs ds ps
  | [],[],[],_,_,_,h=>h
  | _::_,[],_,_,_,_,h=>by cases h
  | [],_::_,_,_,_,_,h=>by cases h
  | [],[],_::_,_,_,_,h=>by cases h
  | _::_,_::_,[],_,_,_,h=>by cases h
  | t::ts,v::vs,d::ds,ps,hr,hlt,⟨p,q,h1,h2,e⟩=>by
    subst e
    exact ⟨p,q,Below.trod hl (hr t (by simp)).1 (hr t (by simp)).2 h1 hB (fun x hx=>hlt x (by simp [hx])),ygw hl hB (fun t' ht'=>hr t' (by simp [ht'])) (fun x hx=>hlt x (by simp [hx])) h2,rfl⟩

theorem zcq {fn:Func} {s:ChangeSpec} {W':World} {args:Array Value} {ds gs:List (DataW H)} {before:List MemPlace} {fresh handsOn:Bool} {tb:TypeId} (hl:laidOutB P=true) (hvars:s.vars=[])
    (hts: ∀ t∈fn.params.toList,P.readableRec t=true∧t<P.types.size) (hrt:fn.resultTypes=#[tb]) (hub:P.underlying tb=some .bool) (hW:DataW.Whole enc P fn.params.toList s.vars false W args.toList ds gs before)
    (hs:s.fn H (ds++gs)={ results:=[.lit (.bool true)],args:=ds }) (hB:Below W.heap.size W W'):s.post enc P fn false fresh handsOn false W args (.bool true) W':=by
  have hW':=hW
  obtain ⟨p,q,hA,hV,rfl,_,_⟩:=hW
  rw [hvars] at hV
  obtain rfl:q=[]:=by
    cases gs with
    | nil=>exact hV
    | cons _ _=>exact hV.elim
  refine ⟨ds,gs,p++[],[],p,[],hW',?_,?_,?_,hB.frame _,fun h=>by cases h⟩
  · rw [hs,hrt]
    exact ⟨[],[],⟨1,by simp [DataW.trod,hub,Value.cells]⟩,rfl,rfl⟩
  · rw [hs]
    exact ygw hl hB hts (fun x hx=>hW'.lt x (by simp [hx])) hA
  · rw [hs,hvars];rfl
end
end Go.X
namespace Go.X
open Go.Conc Go.RowKit

section
variable {P:Program} {f:FuncId} {args:Array Value} {h:Heap} {w:World} {R:Value→Heap→Prop}

def StopL (P:Program) (f:FuncId) (cs:List Frame) (R:Value→Heap→Prop) (g:Goroutine) (h:Heap):Prop:=
  ∃ fr v,g=G fr cs∧fr.fn=f∧(∀ w,fr.leaving P w (.returned v))∧R v h
def EntersL (P:Program) (f:FuncId) (args:Array Value) (h:Heap) (R:Value→Heap→Prop):Prop:=∀ cs,Reach P .lone (G (Frame.enter P f args .normal) cs) h (StopL P f cs R)

theorem xyq (x:EntersL P f args w.heap R):Calls P f args w fun e w'=>∃ v,e= .returned v∧R v w'.heap∧Calm w w':=by
  intro cs
  obtain ⟨g',w',a,⟨fr,v,rfl,hf,hl,hR⟩,c⟩:=x cs w rfl
  exact ⟨.returned v,w',fr,⟨v,rfl,hR,c⟩,a,hf,hl w'⟩

theorem yak {Φ:Heap→Prop} {tm:List Value} {fn:Func} {c:Code} (hf:P.funcs[f]?=some fn) (hb:fn.body=some c) (ht:args.toList++List.replicate (fn.ntmps-args.size) undef=tm)
    (x: ∀ cs,RS P .lone (G (FL f .none tm [] [.code c]) cs) Φ (StopL P f cs R)) (h0:Φ h):EntersL P f args h R:=by
  intro cs
  have:=x cs h h0
  have e:Frame.enter P f args .normal=FL f .none tm [] [.code c]:=by
    unfold Frame.enter
    simp only [hf,hb,Option.map_some,Option.bind_some,Option.getD_some,FL,F,B,← ht]
    simp [Rd.kind,Rd.round]
  rw [e];exact this

theorem xqv {Φ:Heap→Prop} [Stb Φ] {cs:List Frame} {tm:List Value} {k:List Item} {fn:Func} {t:Nat} {vs:List Value} {v:Value} (hf:P.funcs[f]?=some fn) (hr:fn.results=#[.tmp t]) (e: ∀ h,Φ h→Res P h tm [.tmp t] vs) (hv:packs vs=v)
    (x: ∀ h,Φ h→R v h):RS P .lone (G (FL f .none tm [] (.code .ret::k)) cs) Φ (StopL P f cs R):=
  wfk (hro:=rfl) fun _=>fun h y=>zyw (by
    obtain ⟨v',vs',rfl,h1,h2⟩:=e h y
    obtain rfl:vs'=[]:=h2
    subst hv
    refine ⟨_,v',rfl,rfl,fun w=>⟨rfl,rfl,rfl,fn,hf,?_⟩,x h y⟩
    unfold results
    simp only [hr,FR,B,← h1]
    simp)
end
end Go.X
namespace Go.Proofs.YtalfgojocdonhaaDoor
open Go.X Go.X.Flow Go.Conc Go.RowKit Go.ChangeShapes Go.WideShapes Go.ChangeAt Go.Joins

set_option maxRecDepth 100000

theorem pOwn:ownKnob Tryd.prog.godebug=none:=by kernel_rfl
theorem vaz:laidOutB Tryd.prog=true:=by kernel_rfl
theorem pC3: Tryd.prog.cellsOf 3=1:=by kernel_rfl
theorem pC25: Tryd.prog.cellsOf 25=3:=by kernel_rfl
theorem pC43: Tryd.prog.cellsOf 43=2:=by kernel_rfl

def pW (W:World):PHeap:=fun b=>W.heap[b]?
theorem whj (W:World):Per (pW W) W.heap:=fun _ _ e=>e
theorem vax {W:World} {a:Addr} {v:Value} (h:W.cell? a=some v):pcell (pW W) a=some v:=by
  unfold World.cell? at h
  unfold pcell pW
  cases e:W.heap[a.block]? with
  | none=>rw [e] at h;cases h
  | some o=>
    rw [e] at h
    cases o with
    | cells c t f=>exact h
    | _=>cases h
theorem sl_W {W:World} {a:Addr} {n w:Nat} {E:Nat→List Value} (h: ∀ i,i<n→W.cells? 0 (a.add (i*w)) w=some (E i)):Sl (pW W) (some a) n w ((List.range n).map E):=by
  refine ⟨by simp,fun e he=>?_,fun _=>rfl,fun i e he j x hx=>?_⟩
  · obtain ⟨i,hi,rfl⟩:=List.mem_map.1 he
    exact (zkj (h i (List.mem_range.1 hi))).1
  · rw [List.getElem?_map] at he
    obtain ⟨i',hi',rfl⟩:=Option.map_eq_some_iff.1 he
    obtain ⟨hlt,rfl⟩:i<n∧i=i':=by simpa using List.getElem?_eq_some_iff.1 hi'
    exact vax ((zkj (h i hlt)).2 j x hx)

section
variable {H:Type} {enc:TypeId × Value→H} {W:World}
theorem zuq {fuel:Nat} {t e w:TypeId} {v:Value} {y:DataW H × List MemPlace} {Q:List Value→Prop} (ht: Tryd.prog.underlying t=some (.slice e)) (hw: Tryd.prog.cellsOf e=w)
    (hQ: ∀ m cs y,DataW.trod enc Tryd.prog W 0 (fun _=>true) true m e cs=some y→Q cs) (h:DataW.trod enc Tryd.prog W 0 (fun _=>true) true fuel t [v]=some y):
    ∃ a n c E,v= .slice a n c∧n≤9223372036854775807∧n≤c∧(∀ i,i<n→Q (E i))∧Sl (pW W) a n w ((List.range n).map E):=by
  rcases Go.Deep.open_slice ht h with ⟨e1,_⟩ | ⟨a,len,cap,m,k,D,Pl,e1,_,hl,hcap,hm,_,hall⟩
  · obtain rfl:v= .slice none 0 0:=by simpa using e1
    exact ⟨none,0,0,fun _=>[],rfl,by omega,Nat.le_refl _,fun i hi=>absurd hi (by omega),vfj _ _⟩
  · obtain rfl:v= .slice (some a) len cap:=by simpa using e1
    simp only [if_true] at hm
    subst hw
    obtain ⟨E,hE⟩:=Go.Deep.choose_lt (n:=len) (p:=fun i cs=>W.cells? 0 (a.add (i* Tryd.prog.cellsOf e)) (Tryd.prog.cellsOf e)=some cs∧Q cs) fun i hi=>by
      obtain ⟨cs,h1,h2⟩:=hall i (by omega)
      exact ⟨cs,h1,hQ _ _ _ h2⟩
    exact ⟨_,_,_,E,rfl,by unfold maxLen at hcap;omega,hl,fun i hi=>(hE i hi).2,sl_W fun i hi=>(hE i hi).1⟩
theorem yxk {fuel:Nat} {v:Value} {y:DataW H × List MemPlace} (h:DataW.trod enc Tryd.prog W 0 (fun _=>true) true fuel 22 [v]=some y):
    ∃ a n c xs,v= .slice a n c∧n≤9223372036854775807∧n≤c∧Ints (pW W) a n xs:=by
  obtain ⟨a,n,c,E,rfl,hb,hc,hQ,s⟩:=zuq Tryd.underlying22 pC3 (Q:=fun cs=>∃ n:Int,cs=[.int .i64 n]) (fun m cs y h=>yzk Tryd.underlying3 h) h
  obtain ⟨z,hz⟩:=Go.Deep.choose_lt hQ
  refine ⟨a,n,c,(List.range n).map z,rfl,hb,hc,?_⟩
  have:(List.range n).map E=((List.range n).map z).map fun x=>[Value.int .i64 x]:=by
    rw [List.map_map]
    exact List.map_congr_left fun i hi=>hz i (List.mem_range.1 hi)
  unfold Ints
  rw [← this];exact s
theorem zqv {m:Nat} {cs:List Value} {y:DataW H × List MemPlace} (h:DataW.trod enc Tryd.prog W 0 (fun _=>true) true m 43 cs=some y): ∃ x:FWay,cs=x.cells:=by
  obtain ⟨y0,y1,n,_,hl,h0,h1⟩:=trod_struct2 Tryd.underlying43 h
  rw [pC43] at hl
  obtain ⟨a,ha⟩:=yzk Tryd.underlying3 h0
  obtain ⟨b,hb⟩:=yzk Tryd.underlying3 h1
  match cs,hl with
  | [u,v],_=>
    refine ⟨(a,b),?_⟩
    simp [pC3] at ha hb
    simp [FWay.cells,ha,hb]
theorem zzv {fuel:Nat} {v:Value} {y:DataW H × List MemPlace} (h:DataW.trod enc Tryd.prog W 0 (fun _=>true) true fuel 23 [v]=some y):
    ∃ a n c xs,v= .slice a n c∧n≤9223372036854775807∧n≤c∧Wys (pW W) a n xs:=by
  obtain ⟨a,n,c,E,rfl,hb,hc,hQ,s⟩:=zuq Tryd.underlying23 pC43 (Q:=fun cs=>∃ x:FWay,cs=x.cells) (fun m cs y h=>zqv h) h
  obtain ⟨z,hz⟩:=Go.Deep.choose_lt hQ
  refine ⟨a,n,c,(List.range n).map z,rfl,hb,hc,?_⟩
  have:(List.range n).map E=wcs ((List.range n).map z):=by
    unfold wcs
    rw [List.map_map]
    exact List.map_congr_left fun i hi=>hz i (List.mem_range.1 hi)
  unfold Wys
  rw [← this];exact s
theorem yiz {base:Nat} {v:Value} {d:DataW H} {p:List MemPlace} (hv:Value.okWide Tryd.prog W .any base 25 v) (h:DataW.Trod enc Tryd.prog W 0 (fun _=>true) true 25 v d p):
    ∃ a1 c1 a2 c2 a3 c3 t,v= .agg #[.slice a1 t.nH c1,.slice a2 t.nW c2,.slice a3 t.m c3]∧(t.nH≤9223372036854775807∧t.nW≤9223372036854775807∧t.m≤9223372036854775807)∧t.m≤c3∧TownP (pW W) a1 t.nH a2 t.nW a3 t.m t:=by
  obtain ⟨v0,v1,v2,y0,y1,y2,n,rfl,_,_,h0,h1,h2⟩:=open_agg3 Tryd.underlying25 (by kernel_rfl) pC25 hv h
  obtain ⟨a1,n1,c1,hs,rfl,b1,_,T1⟩:=yxk h0
  obtain ⟨a2,n2,c2,ws,rfl,b2,_,T2⟩:=yxk h1
  obtain ⟨a3,n3,c3,wy,rfl,b3,hc,T3⟩:=zzv h2
  obtain rfl:=T1.len
  obtain rfl:=T2.len
  obtain rfl:=T3.len
  exact ⟨a1,c1,a2,c2,a3,c3,⟨hs,ws,wy⟩,rfl,⟨b1,b2,b3⟩,hc,⟨T1,T2,T3⟩⟩
theorem zux {base:Nat} {v:Value} {d:DataW H} {p:List MemPlace} (hv:Value.okWide Tryd.prog W .any base 3 v) (h:DataW.Trod enc Tryd.prog W 0 (fun _=>true) true 3 v d p): ∃ n:Int,v= .int .i64 n∧(-9223372036854775808≤n∧n≤9223372036854775807):=by
  obtain ⟨n,rfl,_,_,hw⟩:=open_int Tryd.underlying3 hv h
  refine ⟨n,rfl,?_⟩
  simpa [Lit.wf,IntKind.min,IntKind.max,IntKind.signed,IntKind.bits] using hw
theorem wpq {base:Nat} {v:Value} {d:DataW H} {p:List MemPlace} (hv:Value.okWide Tryd.prog W .any base 43 v) (h:DataW.Trod enc Tryd.prog W 0 (fun _=>true) true 43 v d p): ∃ x y:Int,v= .agg #[.int .i64 x,.int .i64 y]:=by
  obtain ⟨cs,rfl,hsz⟩:=okWide_struct Tryd.underlying43 hv
  obtain ⟨fuel,hf⟩:=h
  obtain ⟨x,hx⟩:=zqv hf
  exact ⟨x.1,x.2,by obtain ⟨l⟩:=cs;simp [Value.cells,FWay.cells] at hx ⊢;exact hx⟩
end

theorem g_none : Tryd.prog.globalNamed "steening/buckets.none" = some 0 := by kernel_rfl
theorem vhw : Tryd.prog.globalNamed "math/bits.deBruijn64tab" = some 2 := by kernel_rfl
theorem zqk {W:World} {n:String} {g:Nat} {cs:Array Value} (hg: Tryd.prog.globalNamed n=some g) (h:W.var? Tryd.prog n=some cs): ∃ t z,pW W g=some (.cells cs t z):=by
  unfold World.var? at h
  rw [hg] at h
  simp only [Option.bind_some] at h
  unfold pW
  split at h
  · rename_i c t f e
    obtain rfl:=Option.some.inj h
    exact ⟨t,f,e⟩
  · cases h
theorem yfq {W:World} (h:laidMetH Tryd.prog Rows.bucketsAllRow.laid W):TabP (pW W):=by
  rw [MakeChecks.laidMetH_plain _ _ _ (by kernel_rfl)] at h
  have h2 := laidMet.filter (fun x => x.1 == "math/bits.deBruijn64tab") h
  have e : (Rows.bucketsAllRow.laid.filter fun x => x.1 == "math/bits.deBruijn64tab") = [("math/bits.deBruijn64tab", Lib.tabData .u8 (tab64.map fun n => ((n : Nat) : Int)))] := by kernel_rfl
  rw [e] at h2
  have h3:=Lib.tabIs_of_head (t:=116) (e:=5) (n:=64) vhw (by kernel_rfl) (by kernel_rfl) (by kernel_rfl) (by kernel_rfl) (by kernel_rfl) h2
  obtain ⟨t,z,h4⟩:=zqk vhw h3
  exact ⟨t,z,by rw [h4];simp⟩
theorem ycq {W:World} (h:laidMetH Tryd.prog Rows.bucketsAllRow.laid W):NoneP (pW W):=by
  rw [MakeChecks.laidMetH_plain _ _ _ (by kernel_rfl)] at h
  have h2 := laidMet.filter (fun x => x.1 == "steening/buckets.none") h
  have e : (Rows.bucketsAllRow.laid.filter fun x => x.1 == "steening/buckets.none") = [("steening/buckets.none", .agg [.lit (.int .i64 (-1)), .lit (.int .i64 (-1)), .lit (.int .i64 0)])] := by kernel_rfl
  rw [e] at h2
  obtain ⟨ps,⟨g',t',cs,fuel,p,q,hg',ht',hvar,hd,_,_⟩,_⟩:=h2
  obtain rfl:=Option.some.inj (g_none.symm.trans hg')
  obtain rfl:t'=72:=Option.some.inj (ht'.symm.trans (by kernel_rfl))
  obtain ⟨y0,y1,y2,n,hx,hl,h0,h1,h2⟩:=Go.Deep.trod_struct3 Tryd.underlying72 hd
  have e72: Tryd.prog.cellsOf 72=3:=by kernel_rfl
  rw [e72] at hl
  obtain ⟨a,ha,ea,_⟩:=DataW.trod_int Tryd.underlying3 h0
  obtain ⟨b,hb,eb,_⟩:=DataW.trod_int Tryd.underlying3 h1
  obtain ⟨c,hc,ec,_⟩:=DataW.trod_int Tryd.underlying3 h2
  obtain ⟨l⟩:=cs
  match l,hl with
  | [u,v,w],_=>
    simp only [pC3] at ha hb hc
    simp at ha hb hc
    rw [ea,eb,ec] at hx
    simp at hx
    obtain ⟨t,z,h4⟩:=zqk g_none hvar
    refine ⟨t,z,?_⟩
    rw [h4,ha,hb,hc,← hx.1.1,← hx.1.2.1,← hx.1.2.2]
noncomputable def laidW (os:Os):World:=World.laidAll Tryd.prog os Rows.bucketsAllRow.laid
theorem ytj (os:Os) (args:Array Value):laidMetH Tryd.prog Rows.bucketsAllRow.laid ((laidW os).forCall (fun _ _=>0) ⟨#[],args,[]⟩).memory:=by
  rw [MakeChecks.laidMetH_plain _ _ _ (by kernel_rfl)]
  exact laidMet_laidAll _ (by kernel_rfl) (by kernel_rfl)
theorem zdk {w w':World} (k:Keep w.heap w'.heap) (c:Go.X.Calm w w'):Below w.heap.size w w':=⟨c.os,c.tape,c.output,c.size,fun b hb=>k.keep b hb⟩
end Go.Proofs.YtalfgojocdonhaaDoor
namespace Go.X
open Go.Conc
section
variable {P:Program} {h:Heap} {tm:List Value} {d:Option Tmp} {ty:TypeId} {pos:String} {aft:Array Edge} {gd:Option (Nat × Bool)}
theorem ywq {d:Nat} {t:TypeId} {a b:Bool} {K:Bool→Heap→Prop} (ht:P.underlying t=some .bool) (x:K (a == b) h):wpS P (Op.equalIn (d+1) t (.bool a) (.bool b)) h K:=by
  simp only [Op.equalIn]
  refine xbj (xgx ht ?_)
  exact xbk x
theorem ynw {op:BinOp} {T:TypeId} {x y:Operand} {a b:Bool} {K:Unit→Heap→Prop} (z:K () h):wpS P (eqGuard op T x y (.bool a) (.bool b)) h K:=by
  unfold eqGuard
  cases op <;> first | (rw [if_pos (by rfl)];exact xbk z) | (rw [if_neg (by decide)];exact xbk z)
theorem zww {p q:Prop} [Decidable p] [Decidable q]:(decide p == decide q)=decide (p↔q):=by
  by_cases hp:p <;> by_cases hq:q <;> simp [hp,hq]
theorem zwz {T T':TypeId} {x y:Operand} {p q:Prop} [Decidable p] [Decidable q] (ht:P.underlying T=some .bool) (hx:evl tm x= .bool (decide p)) (hy:evl tm y= .bool (decide q)):
    Exd P tm ⟨d,.binOp .eql T x y T',ty,pos,aft,gd⟩ h (.bool (decide (p↔q))):=by
  refine xqw hx hy (fun K z=>ynw z) ?_
  simp only [binOp,Op.equal,Op.maxDepth]
  refine xbj (ywq ht ?_)
  exact xbk ⟨by rw [zww],rfl⟩
theorem wtq {T T':TypeId} {x y:Operand} {p q:Prop} [Decidable p] [Decidable q] (ht:P.underlying T=some .bool) (hx:evl tm x= .bool (decide p)) (hy:evl tm y= .bool (decide q)):
    Exd P tm ⟨d,.binOp .neq T x y T',ty,pos,aft,gd⟩ h (.bool (!decide (p↔q))):=by
  refine xqw hx hy (fun K z=>ynw z) ?_
  simp only [binOp,Op.equal,Op.maxDepth]
  refine xbj (ywq ht ?_)
  exact xbk ⟨by rw [zww],rfl⟩
end
end Go.X
namespace Go.X.Flow
open Go.X

def shift (t:Tn) (w:Int × Int):Int × Int:=(w.1+(t.nH:Int),w.2+(t.nW:Int))
def join (t u:Tn):Tn:=⟨t.hs++u.hs,t.ws++u.ws,t.wy++u.wy.map (shift t)⟩
theorem ykx (sel:Int × Int→Bool): ∀ {wy wy':List (Int × Int)} {d e:List Int},d.length=wy.length→dr sel (wy++wy') (d++e)=dr sel wy d+dr sel wy' e
  | [],wy',[],e,_=>by simp [dr]
  | [],_,_::_,_,h=>by simp at h
  | _::_,_,[],_,h=>by simp at h
  | w::ws,wy',n::ds,e,h=>by
    simp only [List.cons_append,dr];rw [ykx sel (by simpa using h)];omega
theorem yzx (sel:Int × Int→Bool) (f:Int × Int→Int × Int): ∀ {wy:List (Int × Int)} {d:List Int},dr sel (wy.map f) d=dr (fun w=>sel (f w)) wy d
  | [],_=>by simp [dr]
  | _::_,[]=>by simp [dr]
  | w::ws,n::ds=>by simp only [List.map_cons,dr];rw [yzx sel f]
theorem ykq {sel sel':Int × Int→Bool}: ∀ {wy:List (Int × Int)} {d:List Int},(∀ w∈wy,sel w=sel' w)→dr sel wy d=dr sel' wy d
  | [],_,_=>by simp [dr]
  | _::_,[],_=>by simp [dr]
  | w::ws,n::ds,h=>by
    simp only [dr];rw [h w (List.mem_cons_self ..),ykq fun v hv=>h v (List.mem_cons_of_mem _ hv)]
theorem yvj: ∀ {wy:List (Int × Int)} {d:List Int},dr (fun _=>false) wy d=0
  | [],_=>by simp [dr]
  | _::_,[]=>by simp [dr]
  | w::ws,n::ds=>by simp only [dr];rw [yvj];rfl
def Wok (t:Tn):Prop:=∀ w∈t.wy,(0≤w.1∧w.1<(t.nH:Int))∧0≤w.2∧w.2<(t.nW:Int)
theorem ytk (t u):(join t u).nH=t.nH+u.nH:=by simp [join,Tn.nH]
theorem zcx (t u):(join t u).nW=t.nW+u.nW:=by simp [join,Tn.nW]
theorem yik (t u):(join t u).m=t.m+u.m:=by simp [join,Tn.m]
theorem ylx {a b:List Int} {i:Nat}:(a++b).getD i 0=if i<a.length then a.getD i 0 else b.getD (i-a.length) 0:=by
  rw [List.getD_eq_getElem?_getD,List.getD_eq_getElem?_getD,List.getD_eq_getElem?_getD]
  by_cases c:i<a.length
  · rw [if_pos c,List.getElem?_append_left c]
  · rw [if_neg c,List.getElem?_append_right (by omega)]
theorem yck {t u d e} (T:Wok t) (U:Wok u) (hd:d.length=t.m) (he:e.length=u.m) (h:Nat):draw (join t u) (d++e) h=if h<t.nH then draw t d h else draw u e (h-t.nH):=by
  rw [yaw (by rw [List.length_append,yik,hd,he])]
  show dr _ (t.wy++u.wy.map (shift t)) (d++e)=_
  rw [ykx _ hd,yzx]
  by_cases c:h<t.nH
  · rw [if_pos c,yaw hd,ykq (wy:=u.wy) (sel':=fun _=>false) fun w hw=>by
      have:=U w hw;simp only [shift,beq_eq_false_iff_ne];omega,yvj];omega
  · rw [if_neg c,yaw he,ykq (wy:=t.wy) (sel':=fun _=>false) fun w hw=>by
      have:=T w hw;simp only [beq_eq_false_iff_ne];omega,yvj,ykq (wy:=u.wy) (sel':=fun w=>w.1.toNat == h-t.nH) fun w hw=>by
      have:=U w hw;simp only [shift];rw [Bool.eq_iff_iff,beq_iff_eq,beq_iff_eq];omega];omega
theorem ytw {t u d e} (T:Wok t) (U:Wok u) (hd:d.length=t.m) (he:e.length=u.m) (x:Nat):give (join t u) (d++e) x=if x<t.nW then give t d x else give u e (x-t.nW):=by
  rw [yax (by rw [List.length_append,yik,hd,he])]
  show dr _ (t.wy++u.wy.map (shift t)) (d++e)=_
  rw [ykx _ hd,yzx]
  by_cases c:x<t.nW
  · rw [if_pos c,yax hd,ykq (wy:=u.wy) (sel':=fun _=>false) fun w hw=>by
      have:=U w hw;simp only [shift,beq_eq_false_iff_ne];omega,yvj];omega
  · rw [if_neg c,yax he,ykq (wy:=t.wy) (sel':=fun _=>false) fun w hw=>by
      have:=T w hw;simp only [beq_eq_false_iff_ne];omega,yvj,ykq (wy:=u.wy) (sel':=fun w=>w.2.toNat == x-t.nW) fun w hw=>by
      have:=U w hw;simp only [shift];rw [Bool.eq_iff_iff,beq_iff_eq,beq_iff_eq];omega];omega
theorem zvq {t u d e} (hd:d.length=t.m) (he:e.length=u.m):tot (join t u) (d++e)=tot t d+tot u e:=by
  rw [zev (by rw [List.length_append,yik,hd,he]),zev hd,zev he]
  show dr _ (t.wy++u.wy.map (shift t)) (d++e)=_
  rw [ykx _ hd,yzx]
theorem ytv {t u h}:(join t u).hv h=if h<t.nH then t.hv h else u.hv (h-t.nH):=ylx
theorem znw {t u h}:(join t u).wv h=if h<t.nW then t.wv h else u.wv (h-t.nW):=ylx
theorem wrq {t u d e} (T:Wok t) (U:Wok u) (D:Div t d) (E:Div u e):Div (join t u) (d++e):=by
  refine ⟨by rw [List.length_append,yik,D.len,E.len],fun i hi=>?_,fun h hh=>?_,fun x hx=>?_⟩
  · rw [yik] at hi
    unfold dv;rw [ylx]
    have:=D.len
    split
    · exact D.pos i (by omega)
    · exact E.pos _ (by omega)
  · rw [ytk] at hh;rw [yck T U D.len E.len,ytv]
    split
    · next c=>exact D.hs h c
    · next c=>exact E.hs _ (by omega)
  · rw [zcx] at hx;rw [ytw T U D.len E.len,znw]
    split
    · next c=>exact D.ws x c
    · next c=>exact E.ws _ (by omega)
theorem wax {t u f} (T:Wok t) (U:Wok u) (D:Div (join t u) f): ∃ d e,f=d++e∧Div t d∧Div u e:=by
  have hl:=D.len
  rw [yik] at hl
  obtain ⟨d,e,rfl,hd⟩: ∃ d e,f=d++e∧d.length=t.m:=⟨f.take t.m,f.drop t.m,(List.take_append_drop ..).symm,by rw [List.length_take];omega⟩
  rw [List.length_append] at hl
  have he:e.length=u.m:=by omega
  refine ⟨d,e,rfl,⟨hd,fun i hi=>?_,fun h hh=>?_,fun x hx=>?_⟩,⟨he,fun i hi=>?_,fun h hh=>?_,fun x hx=>?_⟩⟩
  · have:=D.pos i (by rw [yik];omega)
    unfold dv at this;rw [ylx,if_pos (by omega)] at this;exact this
  · have:=D.hs h (by rw [ytk];omega)
    rw [yck T U hd he,ytv,if_pos hh,if_pos hh] at this;exact this
  · have:=D.ws x (by rw [zcx];omega)
    rw [ytw T U hd he,znw,if_pos hx,if_pos hx] at this;exact this
  · have:=D.pos (i+t.m) (by rw [yik];omega)
    unfold dv at this;rw [ylx,if_neg (by omega),show i+t.m-d.length=i by omega] at this;exact this
  · have:=D.hs (h+t.nH) (by rw [ytk];omega)
    rw [yck T U hd he,ytv,if_neg (by omega),if_neg (by omega),show h+t.nH-t.nH=h by omega] at this;exact this
  · have:=D.ws (x+t.nW) (by rw [zcx];omega)
    rw [ytw T U hd he,znw,if_neg (by omega),if_neg (by omega),show x+t.nW-t.nW=x by omega] at this;exact this
theorem yyx {t u d e} (T:Wok t) (U:Wok u) (hd:d.length=t.m) (he:e.length=u.m):lackL (join t u) (d++e)=lackL t d++lackL u e:=by
  unfold lackL
  rw [ytk,List.range_add,List.map_append,List.map_map]
  congr 1
  · exact List.map_congr_left fun h hh=>by
      have:=List.mem_range.1 hh
      unfold lack;rw [yck T U hd he,ytv,if_pos this,if_pos this]
  · exact List.map_congr_left fun h _=>by
      show lack (join t u) (d++e) (t.nH+h)=lack u e h
      unfold lack;rw [yck T U hd he,ytv,if_neg (by omega),if_neg (by omega),show t.nH+h-t.nH=h by omega]
theorem waz {t u d e} (T:Wok t) (U:Wok u) (hd:d.length=t.m) (he:e.length=u.m):lacks (join t u) (d++e)=(lacks u e).foldl put (lacks t d):=by
  have f:=ypv (l:=lacks u e) (o:=lacks t d) (ydz _)
  unfold lacks at f ⊢
  rw [yyx T U hd he]
  refine wek f.1 (f.2.trans ?_)
  exact ((xtj _).append (xtj _)).trans List.perm_append_comm
theorem zuw {t u d e} (T:Wok t) (U:Wok u) (hd:d.length=t.m) (he:e.length=u.m):val (lacks (join t u) (d++e))=val (lacks t d)+val (lacks u e):=by
  rw [lacks,yov (xtj _),yyx T U hd he,zlz,← yov (xtj (lackL t d)),← yov (xtj (lackL u e))];rfl
theorem zex {t d} (O:Ok t) (D:Div t d):val (LK t)≤val (lacks t d):=znj O (xkz O xnv).div (ybx O D)
theorem vbv {t u} (T:Wok t) (U:Wok u) (O:Ok t) (O':Ok u) (OJ:Ok (join t u)):LK (join t u)=(LK u).foldl put (LK t)∧tot (join t u) (fairP (join t u) none0)=tot t (fairP t none0)+tot u (fairP u none0):=by
  have D:=(xkz O xnv).div
  have E:=(xkz O' xnv).div
  have J:=wrq T U D E
  have el:lacks (join t u) (fairP t none0++fairP u none0)=(LK u).foldl put (LK t):=waz T U D.len E.len
  have ev:=zuw T U D.len E.len
  obtain ⟨d,e,hf,D',E'⟩:=wax T U (xkz OJ xnv).div
  have v1:=zex O D'
  have v2:=zex O' E'
  have v3:val (LK (join t u))=val (lacks t d)+val (lacks u e):=by
    have:LK (join t u)=lacks (join t u) (d++e):=by rw [← hf];rfl
    rw [this,zuw T U D'.len E'.len]
  constructor
  · rw [← el]
    rcases xuk (a:=LK (join t u)) (b:=lacks (join t u) (fairP t none0++fairP u none0)) (by rw [wnq,xpw]) with h | h | h
    · exact h
    · have:=yzq OJ (xkz OJ xnv).div (d':=fairP t none0++fairP u none0) h
      have e1:val (lacks t (fairP t none0))=val (LK t):=rfl
      have e2:val (lacks u (fairP u none0))=val (LK u):=rfl
      have e3:val (lacks (join t u) (fairP (join t u) none0))=val (LK (join t u)):=rfl
      omega
    · rw [ybx OJ J] at h;cases h
  · have m1:=(xnq OJ xnv).most OJ J
    rw [zvq D.len E.len] at m1
    have m2:=(xnq O xnv).most O D'
    have m3:=(xnq O' xnv).most O' E'
    have e1:tot (join t u) (fairP (join t u) none0)=tot t d+tot u e:=by rw [hf,zvq D'.len E'.len]
    omega
end Go.X.Flow
namespace Go.X.Flow
open Go.X
def besW (t u:Tn) (k:Nat):List FWay:=t.wy++(u.wy.take k).map (shift t)
theorem wmq {t u:Tn}:besW t u 0=t.wy:=by simp [besW]
theorem vcw {t u:Tn} {k:Nat} (h:k<u.m):besW t u k++[shift t (u.wy.getD k wz)]=besW t u (k+1):=by
  unfold besW;rw [ybk h,List.map_append,← List.append_assoc];rfl
theorem wuq {t u:Tn} {k:Nat} (h:k≤u.m):(besW t u k).length=t.m+k:=by
  unfold besW;rw [List.length_append,List.length_map,List.length_take];show t.m+min k u.m=_;omega
theorem wux {t u:Tn} {k:Nat} (h:k=u.m):besW t u k=(join t u).wy:=by
  subst h;unfold besW join;rw [show u.wy.take u.m=u.wy from List.take_length]
def putK (t u:Tn) (k:Nat):List Int:=((LK u).take k).foldl put (LK t)
theorem wgv {t u:Tn} {k:Nat} (h:k<u.nH):put (putK t u k) ((LK u).getD k 0)=putK t u (k+1):=by
  have hl:k<(LK u).length:=by rw [xpj];exact h
  unfold putK;rw [show (LK u).take (k+1)=(LK u).take k++[(LK u).getD k 0] by rw [List.take_add_one,xmk hl,List.getElem?_eq_getElem hl];rfl,List.foldl_append];rfl
theorem zsv {t u:Tn}: ∀ {k:Nat},k≤u.nH→(putK t u k).length=t.nH+k
  | 0,_=>xpj t
  | k+1,h=>by rw [← wgv (by omega),(ypx _ _).length_eq];show (putK t u k).length+1=_;rw [zsv (by omega)];omega
theorem putK_end {t u:Tn}:putK t u u.nH=(LK u).foldl put (LK t):=by
  unfold putK;rw [List.take_of_length_le (Nat.le_of_eq (xpj u))]
theorem wcq {t:Tn} (h:WOk t):Wok t:=fun w hw=>by
  obtain ⟨i,hi,rfl⟩:=List.mem_iff_getElem.1 hw
  have:=h i hi;rw [xmk hi] at this;omega
structure BesF (t u:Tn):Prop where
  lk:putK t u u.nH=LK (join t u)
  most:mostV (join t u)=mostV t+mostV u
theorem wlw {t u:Tn} (V:Vd t) (U:Vd u) (O:OkT t) (P:OkT u) (J:OkT (join t u)):BesF t u:=by
  have:=vbv (wcq V.wok) (wcq U.wok) O.toOk P.toOk J.toOk
  exact ⟨putK_end.trans this.1.symm,this.2⟩
end Go.X.Flow
namespace Go.X.Flow
open Go.X Go.X.Bf

theorem yxz: ∀ {n:Nat} {l:List Nat},l.Nodup→(∀ x∈l,x<n)→l.length=n→l.Perm (List.range n)
  | 0,l,_,_,h=>by rw [List.length_eq_zero_iff.1 h];exact .refl _
  | n+1,l,d,h,hl=>by
    have m:n∈l:=Classical.byContradiction fun c=>by
      have:=ydv (N:=n) d fun x hx=>by
        have:=h x hx
        by_cases e:x=n
        · exact absurd (e ▸ hx) c
        · omega
      omega
    have ih:=yxz (n:=n) (l:=l.erase n) (d.erase n) (fun x hx=>by
      have ⟨ne,hx'⟩:=d.mem_erase_iff.1 hx
      have:=h x hx';omega) (by rw [List.length_erase_of_mem m];omega)
    rw [List.range_succ]
    exact (List.perm_cons_erase m).trans ((ih.cons n).trans (List.perm_append_singleton n _).symm)
structure Ren (t t':Tn) (σ τ:Nat→Nat):Prop where
  nH:t'.nH=t.nH
  nW:t'.nW=t.nW
  s: ∀ h,h<t.nH→σ h<t.nH
  si: ∀ h k,h<t.nH→k<t.nH→σ h=σ k→h=k
  w: ∀ x,x<t.nW→τ x<t.nW
  wi: ∀ x y,x<t.nW→y<t.nW→τ x=τ y→x=y
  hv: ∀ h,h<t.nH→t'.hv (σ h)=t.hv h
  wv: ∀ x,x<t.nW→t'.wv (τ x)=t.wv x
  wy:t'.wy=t.wy.map fun w=>(((σ w.1.toNat:Nat):Int),((τ w.2.toNat:Nat):Int))
variable {t t':Tn} {σ τ:Nat→Nat} {d:List Int}
theorem Ren.m (r:Ren t t' σ τ):t'.m=t.m:=by unfold Tn.m;rw [r.wy,List.length_map]
theorem Ren.draw (r:Ren t t' σ τ) (T:Wok t) (hd:d.length=t.m) {h} (hh:h<t.nH):Flow.draw t' d (σ h)=Flow.draw t d h:=by
  rw [yaw (by rw [r.m];exact hd),yaw hd,r.wy,yzx]
  exact ykq fun w hw=>by
    have:=T w hw
    rw [Bool.eq_iff_iff,beq_iff_eq,beq_iff_eq]
    simp only [Int.toNat_natCast]
    exact ⟨fun e=>r.si _ _ (by omega) hh e,fun e=>by rw [e]⟩
theorem Ren.give (r:Ren t t' σ τ) (T:Wok t) (hd:d.length=t.m) {x} (hx:x<t.nW):Flow.give t' d (τ x)=Flow.give t d x:=by
  rw [yax (by rw [r.m];exact hd),yax hd,r.wy,yzx]
  exact ykq fun w hw=>by
    have:=T w hw
    rw [Bool.eq_iff_iff,beq_iff_eq,beq_iff_eq]
    simp only [Int.toNat_natCast]
    exact ⟨fun e=>r.wi _ _ (by omega) hx e,fun e=>by rw [e]⟩
theorem ypz {n:Nat} {σ:Nat→Nat} (s: ∀ h,h<n→σ h<n) (i: ∀ h k,h<n→k<n→σ h=σ k→h=k):((List.range n).map σ).Perm (List.range n):=
  yxz (List.pairwise_map.2 ((List.nodup_range (n:=n)).imp_of_mem fun ha hb ne e=>ne (i _ _ (List.mem_range.1 ha) (List.mem_range.1 hb) e)))
    (fun x hx=>by obtain ⟨h,hh,rfl⟩:=List.mem_map.1 hx;exact s h (List.mem_range.1 hh)) (by simp)
theorem Ren.onto (r:Ren t t' σ τ) {h} (hh:h<t.nH): ∃ k,k<t.nH∧σ k=h:=by
  have:=(ypz r.s r.si).mem_iff.2 (List.mem_range.2 hh)
  obtain ⟨k,hk,e⟩:=List.mem_map.1 this
  exact ⟨k,List.mem_range.1 hk,e⟩
theorem Ren.ontoW (r:Ren t t' σ τ) {x} (hx:x<t.nW): ∃ k,k<t.nW∧τ k=x:=by
  have:=(ypz r.w r.wi).mem_iff.2 (List.mem_range.2 hx)
  obtain ⟨k,hk,e⟩:=List.mem_map.1 this
  exact ⟨k,List.mem_range.1 hk,e⟩
theorem Ren.div (r:Ren t t' σ τ) (T:Wok t):Div t' d↔Div t d:=by
  constructor
  · intro D
    have hd:d.length=t.m:=D.len.trans r.m
    exact ⟨hd,fun i hi=>D.pos i (by rw [r.m];exact hi),fun h hh=>by
      have:=D.hs (σ h) (by rw [r.nH];exact r.s h hh);rw [r.draw T hd hh,r.hv h hh] at this;exact this,fun x hx=>by
      have:=D.ws (τ x) (by rw [r.nW];exact r.w x hx);rw [r.give T hd hx,r.wv x hx] at this;exact this⟩
  · intro D
    refine ⟨D.len.trans r.m.symm,fun i hi=>D.pos i (by rw [← r.m];exact hi),fun h hh=>?_,fun x hx=>?_⟩
    · rw [r.nH] at hh
      obtain ⟨k,hk,rfl⟩:=r.onto hh
      rw [r.draw T D.len hk,r.hv k hk];exact D.hs k hk
    · rw [r.nW] at hx
      obtain ⟨k,hk,rfl⟩:=r.ontoW hx
      rw [r.give T D.len hk,r.wv k hk];exact D.ws k hk
theorem Ren.lacks (r:Ren t t' σ τ) (T:Wok t) (hd:d.length=t.m):Flow.lacks t' d=Flow.lacks t d:=by
  have e:lackL t d=((List.range t.nH).map σ).map (lack t' d):=by
    unfold lackL;rw [List.map_map]
    exact List.map_congr_left fun h hh=>by
      have hh:=List.mem_range.1 hh
      show lack t d h=lack t' d (σ h)
      unfold lack;rw [r.draw T hd hh,r.hv h hh]
  refine wek (ydz _) ((xtj _).trans ?_)
  rw [e];unfold lackL;rw [r.nH]
  exact (ypz r.s r.si).map _
theorem Ren.LK (r:Ren t t' σ τ) (T:Wok t) (O:Ok t) (O':Ok t'):LK t'=LK t:=by
  have D:=(xkz O xnv).div
  have D':=(r.div T).1 (xkz O' xnv).div
  have a:=ybx O' ((r.div T).2 D)
  rw [r.lacks T D.len] at a
  have b:=ybx O D'
  rw [← r.lacks T D'.len] at b
  rcases xuk (a:=Flow.LK t') (b:=Flow.LK t) (by rw [wnq,wnq,r.nH]) with h | h | h
  · exact h
  · have b:earlier (Flow.LK t') (Flow.LK t)=false:=b
    rw [b] at h;cases h
  · have a:earlier (Flow.LK t) (Flow.LK t')=false:=a
    rw [a] at h;cases h
end Go.X.Flow
namespace Go.X.Flow
open Go.X
theorem zdz {x y z:FWay} (h:Bf x y) (k:Bf y z):Bf x z:=by unfold Bf at *;omega
theorem vjx {x y:FWay} (n:x≠y) (h: ¬ Bf x y):Bf y x:=by
  obtain ⟨a,b⟩:=x;obtain ⟨c,d⟩:=y
  unfold Bf at *;simp only [ne_eq,Prod.mk.injEq] at n h ⊢;omega
theorem wyq {t:Tn} (V:Vd t):t.wy.Pairwise Bf:=by
  rw [List.pairwise_iff_getElem]
  intro i j hi hj h
  have key: ∀ k,i+1+k<t.wy.length→Bf (t.wy.getD i wz) (t.wy.getD (i+1+k) wz):=fun k=>by
    induction k with
    | zero=>intro h;have:=(V.y (i+1) h).2.2 (by omega);rwa [show (((i+1:Nat):Int)-1).toNat=i by omega] at this
    | succ k ih=>intro h;have:=(V.y (i+1+(k+1)) h).2.2 (by omega);rw [show (((i+1+(k+1):Nat):Int)-1).toNat=i+1+k by omega] at this;exact zdz (ih (by omega)) this
  have:=key (j-i-1) (by omega)
  rwa [show i+1+(j-i-1)=j by omega,xmk hi,xmk hj] at this
theorem zpw {t:Tn} {x:FWay} (P:t.wy.Pairwise Bf) (nx:x ∉ t.wy): ∀ k,k≤t.m→(wkL t x k).Pairwise Bf∧(∀ z∈wkL t x k,z∈t.wy.take k∨(z=x∧wkP t x k=true))∧(wkP t x k=false→ ∀ z∈wkL t x k,Bf z x)∧(wkP t x k=true→ ∃ z∈t.wy.take k,Bf x z)
  | 0,_=>⟨.nil,fun z hz=>(List.not_mem_nil hz).elim,fun _ z hz=>(List.not_mem_nil hz).elim,fun h=>by cases h⟩
  | k+1,h=>by
    obtain ⟨p,q,r,s⟩:=zpw P nx k (by omega)
    have hk:k<t.wy.length:=h
    have e:=ybk hk
    have hy:t.wy.getD k wz∈t.wy:=by rw [xmk hk];exact List.getElem_mem hk
    have bk: ∀ z∈t.wy.take k,Bf z (t.wy.getD k wz):=fun z hz=>by
      have P2:=P.sublist (List.take_sublist (k+1) t.wy)
      rw [e,List.pairwise_append] at P2
      exact P2.2.2 z hz _ (List.mem_singleton.2 rfl)
    rw [e]
    by_cases a:wkP t x k=false∧Bf x (t.wy.getD k wz)
    · have hp:wkP t x (k+1)=true:=by rw [wkP,decide_eq_true a.2,Bool.or_true]
      have ev:wkL t x (k+1)=(wkL t x k++[x])++[t.wy.getD k wz]:=by rw [wkL,if_pos a]
      rw [ev,hp]
      have bx:=r a.1
      refine ⟨?_,?_,(fun h=>by cases h),fun _=>⟨_,List.mem_append_right _ (List.mem_singleton.2 rfl),a.2⟩⟩
      · refine List.pairwise_append.2 ⟨List.pairwise_append.2 ⟨p,List.pairwise_singleton ..,fun z hz w hw=>by rw [List.mem_singleton.1 hw];exact bx z hz⟩,List.pairwise_singleton ..,fun z hz w hw=>?_⟩
        rw [List.mem_singleton.1 hw]
        rcases List.mem_append.1 hz with hz | hz
        · exact zdz (bx z hz) a.2
        · rw [List.mem_singleton.1 hz];exact a.2
      · intro z hz
        rcases List.mem_append.1 hz with hz | hz
        · rcases List.mem_append.1 hz with hz | hz
          · rcases q z hz with h | h
            · exact .inl (List.mem_append_left _ h)
            · exact .inr ⟨h.1,rfl⟩
          · exact .inr ⟨List.mem_singleton.1 hz,rfl⟩
        · exact .inl (List.mem_append_right _ hz)
    · have ev:wkL t x (k+1)=wkL t x k++[t.wy.getD k wz]:=by rw [wkL,if_neg a]
      rw [ev]
      have bz: ∀ z∈wkL t x k,Bf z (t.wy.getD k wz):=fun z hz=>by
        rcases q z hz with h | ⟨rfl,h⟩
        · exact bk z h
        · obtain ⟨w,hw,b⟩:=s h;exact zdz b (bk w hw)
      refine ⟨List.pairwise_append.2 ⟨p,List.pairwise_singleton ..,fun z hz w hw=>by rw [List.mem_singleton.1 hw];exact bz z hz⟩,?_,?_,?_⟩
      · intro z hz
        rcases List.mem_append.1 hz with hz | hz
        · rcases q z hz with h | h
          · exact .inl (List.mem_append_left _ h)
          · exact .inr ⟨h.1,by rw [wkP,h.2,Bool.true_or]⟩
        · exact .inl (List.mem_append_right _ hz)
      · intro hp z hz
        rw [wkP,Bool.or_eq_false_iff] at hp
        rcases List.mem_append.1 hz with hz | hz
        · exact r hp.1 z hz
        · rw [List.mem_singleton.1 hz];exact vjx (fun e=>nx (e ▸ hy)) (of_decide_eq_false hp.2)
      · intro hp
        rw [wkP,Bool.or_eq_true] at hp
        rcases hp with hp | hp
        · obtain ⟨w,hw,b⟩:=s hp;exact ⟨w,List.mem_append_left _ hw,b⟩
        · exact ⟨_,List.mem_append_right _ (List.mem_singleton.2 rfl),of_decide_eq_true hp⟩
theorem zxk {t:Tn} {x:FWay} (P:t.wy.Pairwise Bf) (nx:x ∉ t.wy):(withT t x).wy.Pairwise Bf:=by
  obtain ⟨p,_,r,_⟩:=zpw P nx t.m (Nat.le_refl _)
  show (withW t x).Pairwise Bf
  unfold withW
  by_cases a:wkP t x t.m=true
  · rw [if_pos a];exact p
  · rw [if_neg a];exact List.pairwise_append.2 ⟨p,List.pairwise_singleton ..,fun z hz w hw=>by rw [List.mem_singleton.1 hw];exact r (by simpa using a) z hz⟩
def ordT (z:Tn) (f:FWay→FWay) (t:Tn):Nat→Tn
  | 0=>z
  | k+1=>withT (ordT z f t k) (f (t.wy.getD k wz))
theorem ybw {z f t}: ∀ k,(ordT z f t k).hs=z.hs
  | 0=>rfl
  | k+1=>ybw k
theorem ybv {z f t}: ∀ k,(ordT z f t k).ws=z.ws
  | 0=>rfl
  | k+1=>ybv k
theorem ztw {z f t} (z0:z.wy=[]): ∀ k,(ordT z f t k).m=k
  | 0=>by show z.wy.length=0;rw [z0];rfl
  | k+1=>by rw [ordT,wck,ztw z0 k]
theorem yix {z f} {t:Tn} (z0:z.wy=[]): ∀ k,k≤t.m→(ordT z f t k).wy.Perm ((t.wy.take k).map f)
  | 0,_=>by show z.wy.Perm _;rw [z0];exact .refl _
  | k+1,h=>by
    rw [ybk (show k<t.wy.length from h),List.map_append]
    exact (ydq _ _).trans (((yix z0 k (by omega)).cons _).trans (List.perm_append_comm (l₁:=[f (t.wy.getD k wz)])))
theorem zhj {z f} {t:Tn} (z0:z.wy=[]) (inj: ∀ x∈t.wy,∀ y∈t.wy,f x=f y→x=y) (P:t.wy.Pairwise Bf): ∀ k,k≤t.m→(ordT z f t k).wy.Pairwise Bf
  | 0,_=>by show z.wy.Pairwise Bf;rw [z0];exact .nil
  | k+1,h=>by
    refine zxk (zhj z0 inj P k (by omega)) fun m=>?_
    have hk:k<t.wy.length:=h
    obtain ⟨y,hy,e⟩:=List.mem_map.1 ((yix z0 k (by omega)).mem_iff.1 m)
    have hx:t.wy.getD k wz∈t.wy:=by rw [xmk hk];exact List.getElem_mem hk
    have:=inj y (List.mem_of_mem_take hy) _ hx e
    have P2:=P.sublist (List.take_sublist (k+1) t.wy)
    rw [ybk hk,List.pairwise_append] at P2
    have:=P2.2.2 y hy _ (List.mem_singleton.2 rfl)
    rw [‹y=_›] at this;unfold Bf at this;omega
structure Tur (t z:Tn) (f:FWay→FWay) (σ τ:Nat→Nat):Prop where
  z0:z.wy=[]
  nH:z.nH=t.nH
  nW:z.nW=t.nW
  s: ∀ h,h<t.nH→σ h<t.nH
  si: ∀ h k,h<t.nH→k<t.nH→σ h=σ k→h=k
  w: ∀ x,x<t.nW→τ x<t.nW
  wi: ∀ x y,x<t.nW→y<t.nW→τ x=τ y→x=y
  hv: ∀ h,h<t.nH→z.hv (σ h)=t.hv h
  wv: ∀ x,x<t.nW→z.wv (τ x)=t.wv x
  f: ∀ u∈t.wy,f u=(((σ u.1.toNat:Nat):Int),((τ u.2.toNat:Nat):Int))
variable {t z:Tn} {f:FWay→FWay} {σ τ:Nat→Nat}
def turT (t z:Tn) (f:FWay→FWay):Tn:=⟨z.hs,z.ws,t.wy.map f⟩
theorem Tur.ren (r:Tur t z f σ τ):Ren t (turT t z f) σ τ:=⟨r.nH,r.nW,r.s,r.si,r.w,r.wi,r.hv,r.wv,List.map_congr_left r.f⟩
theorem ygv {t:Tn} (V:Vd t): ∀ u∈t.wy,(0≤u.1∧u.1<(t.nH:Int))∧0≤u.2∧u.2<(t.nW:Int):=fun u hu=>by
  obtain ⟨i,hi,rfl⟩:=List.mem_iff_getElem.1 hu
  have:=V.y i hi;rw [YOk,xmk hi] at this;omega
theorem Tur.inj (r:Tur t z f σ τ) (V:Vd t): ∀ x∈t.wy,∀ y∈t.wy,f x=f y→x=y:=fun x hx y hy e=>by
  rw [r.f x hx,r.f y hy] at e
  have a:=ygv V x hx;have b:=ygv V y hy
  obtain ⟨e1,e2⟩:=Prod.mk.inj e
  have s1:=r.si x.1.toNat y.1.toNat (by omega) (by omega) (by omega)
  have s2:=r.wi x.2.toNat y.2.toNat (by omega) (by omega) (by omega)
  exact Prod.ext (by omega) (by omega)
theorem Tur.vd (r:Tur t z f σ τ) (V:Vd t):Vd (ordT z f t t.m):=by
  have R:=r.ren
  have eH:(ordT z f t t.m).nH=t.nH:=by unfold Tn.nH;rw [ybw];exact r.nH
  have eW:(ordT z f t t.m).nW=t.nW:=by unfold Tn.nW;rw [ybv];exact r.nW
  have P:=zhj r.z0 (r.inj V) (wyq V) t.m (Nat.le_refl _)
  have M:=yix (z:=z) (f:=f) (t:=t) r.z0 t.m (Nat.le_refl _)
  rw [show t.wy.take t.m=t.wy from List.take_length] at M
  refine ⟨by rw [eH];exact V.nh,by rw [eW];exact V.nw,fun h hh=>?_,fun w hw=>?_,fun i hi=>?_⟩
  · obtain ⟨k,hk,rfl⟩:=R.onto (by rw [eH] at hh;exact hh)
    have:=r.hv k hk;unfold Tn.hv at this;rw [ybw,this];exact V.h k hk
  · obtain ⟨k,hk,rfl⟩:=R.ontoW (by rw [eW] at hw;exact hw)
    have:=r.wv k hk;unfold Tn.wv at this;rw [ybv,this];exact V.w k hk
  · have hi:i<(ordT z f t t.m).wy.length:=hi
    obtain ⟨u,hu,e⟩:=List.mem_map.1 (M.mem_iff.1 (List.getElem_mem hi))
    have a:=ygv V u hu
    have s:=r.s u.1.toNat (by omega);have w:=r.w u.2.toNat (by omega)
    rw [r.f u hu] at e
    refine ⟨?_,?_,fun h0=>?_⟩
    · rw [xmk hi,← e,eH];dsimp only;omega
    · rw [xmk hi,← e,eW];dsimp only;omega
    · rw [show (((i:Nat):Int)-1).toNat=i-1 by omega,xmk hi,xmk (by omega)]
      exact List.pairwise_iff_getElem.1 P (i-1) i (by omega) hi (by omega)
theorem Sim.div2 {t t' d} (s:Sim t t') (D:Div t d): ∃ d',Div t' d'∧lacks t' d'=lacks t d∧ ∀ h,draw t' d' h=draw t d h:=by
  obtain ⟨d',h1,h2,h3⟩:=s.sim d D.len fun z hz=>by
    obtain ⟨i,hi,e⟩:=List.mem_iff_getElem.1 hz
    have:=D.pos i (by have:=D.len;omega)
    unfold dv at this;rw [xmk hi,e] at this;exact this
  have e1: ∀ x,draw t' d' x=draw t d x:=fun x=>by rw [yaw h1,yaw D.len,h3]
  have e2: ∀ x,give t' d' x=give t d x:=fun x=>by rw [yax h1,yax D.len,h3]
  have eH:t'.nH=t.nH:=by unfold Tn.nH;rw [s.hs]
  have eW:t'.nW=t.nW:=by unfold Tn.nW;rw [s.ws]
  have ev: ∀ h,t'.hv h=t.hv h:=fun h=>by unfold Tn.hv;rw [s.hs]
  have ew: ∀ h,t'.wv h=t.wv h:=fun h=>by unfold Tn.wv;rw [s.ws]
  refine ⟨d',⟨h1,fun i hi=>?_,fun h hh=>?_,fun x hx=>?_⟩,?_,e1⟩
  · have hl:i<d'.length:=by have e:t'.m=t'.wy.length:=rfl;omega
    unfold dv;rw [xmk hl];exact h2 _ (List.getElem_mem hl)
  · rw [e1,ev];exact D.hs h (by rw [← eH];exact hh)
  · rw [e2,ew];exact D.ws x (by rw [← eW];exact hx)
  · unfold lacks lackL;rw [eH];congr 2;funext h;unfold lack;rw [e1,ev]
theorem wtw {a t:Tn} {h k:Nat} (O:Ok t) (A:Ok a) (hh:h<t.nH) (hk:k<a.nH) (P: ∀ d,Fairest t d→ ∃ d',Fairest a d'∧draw a d' k=draw t d h) (Q: ∀ d,Fairest a d→ ∃ d',Fairest t d'∧draw t d' h=draw a d k):drawV a k (-1)=drawV t h (-1)∧drawV a k 1=drawV t h 1:=by
  have go: ∀ s,s= -1∨s=1→Fairest t (fairP t ⟨h,-1,s⟩)∧Fairest a (fairP a ⟨k,-1,s⟩):=fun s hs=>⟨xkz O (zgq (by omega) (by omega)),xkz A (zgq (by omega) (by omega))⟩
  unfold drawV
  rw [Int.toNat_natCast,Int.toNat_natCast]
  constructor
  · obtain ⟨x,y⟩:=go (-1) (.inl rfl)
    obtain ⟨d,D,e⟩:=P _ x;obtain ⟨d2,D2,e2⟩:=Q _ y
    have:=ziz A hk D;have:=ziz O hh D2;omega
  · obtain ⟨x,y⟩:=go 1 (.inr rfl)
    obtain ⟨d,D,e⟩:=P _ x;obtain ⟨d2,D2,e2⟩:=Q _ y
    have:=zij A hk D;have:=zij O hh D2;omega
theorem wyw {l l':List Nat} (p:l.Perm l') (g:Nat→Int):(l.map g).sum=(l'.map g).sum:=by
  induction p with
  | nil=>rfl
  | cons x _ ih=>simp only [List.map_cons,List.sum_cons,ih]
  | swap x y l=>simp only [List.map_cons,List.sum_cons];omega
  | trans _ _ a b=>exact a.trans b
theorem zax (g:Nat→Int): ∀ n,sm n g=((List.range n).map g).sum
  | 0=>rfl
  | n+1=>by rw [List.range_succ,List.map_append,List.sum_append,← zax g n];simp [sm]
theorem wyv {n:Nat} {τ:Nat→Nat} (w: ∀ x,x<n→τ x<n) (wi: ∀ x y,x<n→y<n→τ x=τ y→x=y) (g:Nat→Int):sm n g=sm n fun x=>g (τ x):=by
  rw [zax,zax,← wyw (ypz w wi) g,List.map_map];rfl
theorem zej {t:Tn} {X:Nat→Bool} {x:Nat}:touch t X x=true↔ ∃ u∈t.wy,u.2.toNat=x∧X u.1.toNat=true:=by
  rw [zek]
  constructor
  · rintro ⟨i,hi,a,b⟩
    have hi:i<t.wy.length:=hi
    unfold Tn.ww at a;unfold Tn.wh at b;rw [xmk hi] at a b
    exact ⟨_,List.getElem_mem hi,a,b⟩
  · rintro ⟨u,hu,a,b⟩
    obtain ⟨i,hi,rfl⟩:=List.mem_iff_getElem.1 hu
    refine ⟨i,hi,?_,?_⟩
    · unfold Tn.ww;rw [xmk hi];exact a
    · unfold Tn.wh;rw [xmk hi];exact b
structure OrdF (t a:Tn) (σ:Nat→Nat):Prop where
  ck:chkB a=0
  nH:a.nH=t.nH
  nW:a.nW=t.nW
  m:a.m=t.m
  lk:LK a=LK t
  dr: ∀ h,h<t.nH→drawV a (σ h:Nat) (-1)=drawV t (h:Nat) (-1)∧drawV a (σ h:Nat) 1=drawV t (h:Nat) 1
  sh:(∀ h,h<t.nH→σ h=h)→shortP a=shortP t∧shortE a=shortE t
theorem zhz (hc:chkB t=0) (r:Tur t z f σ τ):OrdF t (ordT z f t t.m) σ:=by
  obtain ⟨h12,V⟩:=yrx hc
  have O:=xuq hc
  have R:=r.ren
  have VA:=r.vd V
  have em:(ordT z f t t.m).m=t.m:=ztw r.z0 t.m
  have ck:chkB (ordT z f t t.m)=0:=xow (by rw [em];exact h12) VA
  have A:=xuq ck
  have eH:(ordT z f t t.m).nH=t.nH:=by unfold Tn.nH;rw [ybw];exact r.nH
  have eW:(ordT z f t t.m).nW=t.nW:=by unfold Tn.nW;rw [ybv];exact r.nW
  have M:=yix (z:=z) (f:=f) (t:=t) r.z0 t.m (Nat.le_refl _)
  rw [show t.wy.take t.m=t.wy from List.take_length] at M
  have ea:ordT z f t t.m=⟨z.hs,z.ws,(ordT z f t t.m).wy⟩:=by
    have a1:=ybw (z:=z) (f:=f) (t:=t) t.m;have a2:=ybv (z:=z) (f:=f) (t:=t) t.m
    rw [← a1,← a2]
  have s1:Sim (turT t z f) (ordT z f t t.m):=by rw [ea];exact yhj M.symm
  have s2:Sim (ordT z f t t.m) (turT t z f):=by rw [ea];exact yhj M
  have O':Ok (turT t z f):=by
    refine ⟨by rw [R.nH];exact O.nh,by rw [R.nW];exact O.nw,by rw [R.m];exact O.nm,fun h hh=>?_,fun x hx=>?_,fun i hi=>?_⟩
    · obtain ⟨k,hk,rfl⟩:=R.onto (by rw [R.nH] at hh;exact hh)
      rw [R.hv k hk];exact O.h k hk
    · obtain ⟨k,hk,rfl⟩:=R.ontoW (by rw [R.nW] at hx;exact hx)
      rw [R.wv k hk];exact O.w k hk
    · have hi:i<(t.wy.map f).length:=hi
      obtain ⟨u,hu,e⟩:=List.mem_map.1 (List.getElem_mem hi)
      have a:=ygv V u hu
      have s:=r.s u.1.toNat (by omega);have w:=r.w u.2.toNat (by omega)
      rw [r.f u hu] at e
      rw [R.nH,R.nW];unfold Tn.wh Tn.ww
      rw [show (turT t z f).wy=t.wy.map f from rfl,xmk hi,← e];simp only [Int.toNat_natCast];exact ⟨s,w⟩
  have T:=wok_mem' V
  have lk1:=R.LK T O.toOk O'
  have lk:LK (ordT z f t t.m)=LK t:=(s1.same s2 O' A.toOk).trans lk1
  refine ⟨ck,eH,eW,em,lk,fun h hh=>wtw O.toOk A.toOk hh (by rw [eH];exact r.s h hh) (fun d F=>?_) (fun d F=>?_),fun id_=>?_⟩
  · have D':=(R.div T).2 F.div
    obtain ⟨d2,E,el,ed⟩:=s1.div2 D'
    exact ⟨d2,(yux A.toOk E).2 (by rw [el,R.lacks T F.div.len,F.lk O.toOk,lk]),by rw [ed,R.draw T F.div.len hh]⟩
  · obtain ⟨d2,E,el,ed⟩:=s2.div2 F.div
    have D':=(R.div T).1 E
    have hl:d2.length=t.m:=D'.len
    exact ⟨d2,(yux O.toOk D').2 (by rw [← R.lacks T hl,el,F.lk A.toOk,lk]),by rw [← R.draw T hl hh,ed]⟩
  · have ew: ∀ g,wantX (ordT z f t t.m) (setG g)=wantX t (setG g):=fun g=>by
      unfold wantX;rw [eH]
      exact xik fun i hi=>by have:=r.hv i hi;rw [id_ i hi] at this;unfold Tn.hv at *;rw [ybw,this]
    have er: ∀ X,reachX (ordT z f t t.m) X=reachX t X:=fun X=>by
      unfold reachX;rw [eW,wyv r.w r.wi]
      refine xik fun x hx=>?_
      have e1:(ordT z f t t.m).wv (τ x)=t.wv x:=by have:=r.wv x hx;unfold Tn.wv at *;rw [ybv,this]
      have e2:touch (ordT z f t t.m) X (τ x)=touch t X x:=by
        rw [Bool.eq_iff_iff,zej,zej]
        constructor
        · rintro ⟨u,hu,a,b⟩
          obtain ⟨v,hv,e⟩:=List.mem_map.1 (M.mem_iff.1 hu)
          have k:=ygv V v hv
          rw [r.f v hv] at e;subst e
          simp only [Int.toNat_natCast] at a b
          exact ⟨v,hv,r.wi _ _ (by omega) hx a,by rw [id_ _ (by omega)] at b;exact b⟩
        · rintro ⟨v,hv,a,b⟩
          have k:=ygv V v hv
          refine ⟨_,M.mem_iff.2 (List.mem_map.2 ⟨v,hv,rfl⟩),?_,?_⟩
          · rw [r.f v hv,← a];simp only [Int.toNat_natCast]
          · rw [r.f v hv];simp only [Int.toNat_natCast];rw [id_ _ (by omega)];exact b
      rw [e1,e2]
    have es: ∀ g,g<2 ^ t.nH→shortN (ordT z f t t.m) g=shortN t g:=fun g hg=>by
      rw [zfw A (by rw [eH];exact hg),zfw O hg,ew,er]
    have ef: ∀ k,k≤2 ^ t.nH→shortF (ordT z f t t.m) k=shortF t k:=fun k=>by
      induction k with
      | zero=>exact fun _=>rfl
      | succ k ih=>intro h;unfold shortF;rw [ih (by omega),es k (by omega)]
    have ep:shortP (ordT z f t t.m)=shortP t:=by unfold shortP;rw [eH];exact ef _ (Nat.le_refl _)
    exact ⟨ep,by unfold shortE;rw [if_pos ck,if_pos hc,ep]⟩
where wok_mem' {t:Tn} (V:Vd t):Wok t:=fun w hw=>ygv V w hw
def spin (xs:List Int) (s:Nat):Nat→List Int
  | 0=>List.replicate xs.length 0
  | k+1=>(spin xs s k).set ((k+s) % xs.length) (xs.getD k 0)
theorem xuv {xs s}: ∀ k,(spin xs s k).length=xs.length
  | 0=>List.length_replicate ..
  | k+1=>by rw [spin,List.length_set,xuv k]
theorem zmk {n s h k:Nat} (hh:h<n) (hk:k<n) (e:(h+s) % n=(k+s) % n):h=k:=by
  have a:=Nat.div_add_mod (h+s) n;have b:=Nat.div_add_mod (k+s) n
  rw [e] at a
  have c:n*((h+s) / n)+k=n*((k+s) / n)+h:=by omega
  rcases Nat.lt_trichotomy ((h+s) / n) ((k+s) / n) with q | q | q
  · have:=Nat.mul_le_mul_left n (show (h+s) / n+1≤(k+s) / n from q);rw [Nat.mul_add] at this;omega
  · rw [q] at c;omega
  · have:=Nat.mul_le_mul_left n (show (k+s) / n+1≤(h+s) / n from q);rw [Nat.mul_add] at this;omega
theorem zlv {xs:List Int} {s h:Nat}: ∀ {k},h<k→k≤xs.length→(spin xs s k).getD ((h+s) % xs.length) 0=xs.getD h 0
  | k+1,hh,hk=>by
    have hb: ∀ i,(i+s) % xs.length<(spin xs s k).length:=fun i=>by rw [xuv];exact Nat.mod_lt _ (by omega)
    rw [spin,List.getD_eq_getElem?_getD]
    by_cases e:h=k
    · subst e;rw [List.getElem?_set_self (hb h)];rfl
    · rw [List.getElem?_set_ne (fun q=>e (zmk (by omega) (by omega) q.symm)),← List.getD_eq_getElem?_getD];exact zlv (by omega) (by omega)
theorem rotI {x s:Int} {n:Nat} (hx:0≤x) (hs:0≤s):(x+s) % ((n:Nat):Int)=(((x.toNat+s.toNat) % n:Nat):Int):=by
  rw [Int.natCast_emod,Int.natCast_add,Int.toNat_of_nonneg hx,Int.toNat_of_nonneg hs]
theorem zgw {x s:Int} {n:Nat} (hn:0<n):0≤(x+s) % ((n:Nat):Int)∧(x+s) % ((n:Nat):Int)<n:=⟨Int.emod_nonneg _ (by omega),Int.emod_lt_of_pos _ (by omega)⟩
theorem wev {xs:List Int} {s:Int} {n k:Nat} (e:xs.length=n) (hs:0≤s):(spin xs s.toNat k).set ((((k:Nat):Int)+s) % ((n:Nat):Int)).toNat (xs.getD k 0)=spin xs s.toNat (k+1):=by
  rw [rotI (by omega) hs,spin,e];rfl
def ordA (t:Tn) (s:Int) (k:Nat):Tn:=ordT ⟨t.hs,spin t.ws s.toNat t.nW,[]⟩ (fun u=>(u.1,(u.2+s) % ((t.nW:Nat):Int))) t k
def ordB (t:Tn) (s:Int) (k:Nat):Tn:=ordT ⟨spin t.hs s.toNat t.nH,t.ws,[]⟩ (fun u=>((u.1+s) % ((t.nH:Nat):Int),u.2)) t k
theorem vhk {s k}:(ordA t s k).nH=t.nH∧(ordA t s k).nW=t.nW∧(ordA t s k).m=k:=
  ⟨by unfold Tn.nH ordA;rw [ybw],by unfold Tn.nW ordA;rw [ybv];exact xuv _,ztw rfl k⟩
theorem vhj {s k}:(ordB t s k).nH=t.nH∧(ordB t s k).nW=t.nW∧(ordB t s k).m=k:=
  ⟨by unfold Tn.nH ordB;rw [ybw];exact xuv _,by unfold Tn.nW ordB;rw [ybv],ztw rfl k⟩
theorem vaw (hc:chkB t=0) {s:Int} (hs:0≤s):OrdF t (ordA t s t.m) (fun h=>h):=by
  have V:=(yrx hc).2
  exact zhz hc (τ:=fun x=>(x+s.toNat) % t.nW) ⟨rfl,rfl,xuv _,fun h hh=>hh,fun h k _ _ e=>e,fun x hx=>Nat.mod_lt _ (by omega),fun x y hx hy e=>zmk hx hy e,fun h _=>rfl,fun x hx=>zlv hx (Nat.le_refl _),fun u hu=>by
    have:=ygv V u hu
    exact Prod.ext (by dsimp only;omega) (rotI this.2.1 hs)⟩
theorem vav (hc:chkB t=0) {s:Int} (hs:0≤s):OrdF t (ordB t s t.m) (fun h=>(h+s.toNat) % t.nH):=by
  have V:=(yrx hc).2
  exact zhz hc (τ:=fun x=>x) ⟨rfl,xuv _,rfl,fun x hx=>Nat.mod_lt _ (by omega),fun x y hx hy e=>zmk hx hy e,fun h hh=>hh,fun h k _ _ e=>e,fun x hx=>zlv hx (Nat.le_refl _),fun x _=>rfl,fun u hu=>by
    have:=ygv V u hu
    exact Prod.ext (rotI this.1.1 hs) (by dsimp only;omega)⟩
theorem vak {s:Int} (hs:0≤s) (F:OrdF t (ordB t s t.m) (fun h=>(h+s.toNat) % t.nH)) {h:Nat} (hh:h<t.nH):drawV t (h:Nat) (-1)=drawV (ordB t s t.m) ((((h:Nat):Int)+s) % ((t.nH:Nat):Int)) (-1)∧drawV t (h:Nat) 1=drawV (ordB t s t.m) ((((h:Nat):Int)+s) % ((t.nH:Nat):Int)) 1:=by
  rw [rotI (by omega) hs];have:=F.dr h hh;exact ⟨this.1.symm,this.2.symm⟩
end Go.X.Flow
namespace Go.X
open Go Go.ConcN
theorem zjq {T U:TypeId} {p:Nat→Option (Nat × Nat)} {z:Array Value} {i j:Nat} {v w:Value} {es fs:List (List Value)} {X Y:Pcs} {k l:Nat} {F:Value→Value→Array Value} (o:OwnS T k v es X) (o2:OwnS U l w fs Y)
    (hf: ∀ a n c a' n' c',Instr.fill p z [(i,.slice a n c),(j,.slice a' n' c')]=some (F (.slice a n c) (.slice a' n' c'))):Instr.fill p z [(i,v),(j,w)]=some (F v w):=by
  obtain ⟨a,c,e,_⟩:=o.val
  obtain ⟨a',c',e',_⟩:=o2.val
  rw [e,e'];exact hf _ _ _ _ _ _
end Go.X
