/-
  Part of proofs about buckets brought from wells to houses: a lone run, and what it computes. No condition.
-/
import Derived.Test.YtalfgojocdonhaaDoorD2
import Derived.Test.YtalfgojocdonhaaDoorD1
import Derived.Test.YtalfgojocdonhaaDoorD3
import Derived.Test.YtalfgojocdonhaaDoorD4
namespace Go.Proofs.YtalfgojocdonhaaDoor
open Go.X Go.X.Flow Go.Conc
set_option maxRecDepth 10000
set_option synthInstance.maxSize 2000

set_option maxHeartbeats 2000000
theorem c63 (md:Md) (h:Heap):CallsX Tryd.prog md 63 #[] h fun v h'=>∃ w1:Value,∃ w2:Value,∃ w3:Value,∃ w4:Value,∃ w5:Value,∃ w6:Value,∃ w7:Value,∃ w8:Value,∃ w9:Value,∃ X1:Pcs,∃ X2:Pcs,∃ X3:Pcs,∃ X4:Pcs,∃ X5:Pcs,∃ X6:Pcs,∃ X7:Pcs,∃ X8:Pcs,∃ X9:Pcs,v= .tuple #[.agg #[w1,w2,w3],.agg #[w4,w5,w6],.agg #[w7,w8,w9]]∧OwnS 3 1 w1 (ics exB.hs) X1∧OwnS 3 1 w2 (ics exB.ws) X2∧OwnS 43 2 w3 (wcs exB.wy) X3∧OwnS 3 1 w4 (ics exC.hs) X4∧OwnS 3 1 w5 (ics exC.ws) X5∧OwnS 43 2 w6 (wcs exC.wy) X6∧OwnS 3 1 w7 (ics exD.hs) X7∧OwnS 3 1 w8 (ics exD.ws) X8∧OwnS 43 2 w9 (wcs exD.wy) X9∧New h h' ((X1++(X2++(X3++(X4++(X5++(X6++(X7++(X8++(X9++[])))))))))):=by
 refine xcx (Φ:=fun h_=>St h [] (fun _=>none) h_ []) Tryd.func63 rfl (tm:=zq2 (zq8 (zq16 []))) rfl ?_ (St.start h _ (fun _ _ e=>by cases e))
 intro c₀ cs Stop K
 refine fsr ?_
 refine xkx mn tZ25 rfl fun b1=>xcq (L':=[(b1,.cells #[.slice none 0 0,.slice none 0 0,.slice none 0 0] 25 (0,0))]) rfl ?_
 refine xkx mn tZ25 rfl fun b2=>xcq (L':=[(b2,.cells #[.slice none 0 0,.slice none 0 0,.slice none 0 0] 25 (0,0)),(b1,.cells #[.slice none 0 0,.slice none 0 0,.slice none 0 0] 25 (0,0))]) rfl ?_
 refine xkx mn tZ25 rfl fun b3=>xcq (L':=[(b3,.cells #[.slice none 0 0,.slice none 0 0,.slice none 0 0] 25 (0,0)),(b2,.cells #[.slice none 0 0,.slice none 0 0,.slice none 0 0] 25 (0,0)),(b1,.cells #[.slice none 0 0,.slice none 0 0,.slice none 0 0] 25 (0,0))]) rfl ?_
 refine xfj (tm':=_::_::_::_) rfl ?_
 refine ren <| xbq ?_
 refine xcq (L':=([(b3,.cells #[.slice none 0 0,.slice none 0 0,.slice none 0 0] 25 (0,0)),(b2,.cells #[.slice none 0 0,.slice none 0 0,.slice none 0 0] 25 (0,0)),(b1,.cells #[.slice none 0 0,.slice none 0 0,.slice none 0 0] 25 (0,0))]:Pcs)++[]) rfl ?_
 refine xjz ([(b3,.cells #[.slice none 0 0,.slice none 0 0,.slice none 0 0] 25 (0,0)),(b2,.cells #[.slice none 0 0,.slice none 0 0,.slice none 0 0] 25 (0,0)),(b1,.cells #[.slice none 0 0,.slice none 0 0,.slice none 0 0] 25 (0,0))]:Pcs) mn Tryd.underlying22 tS3 tZ3 (Nat.le_of_ble_eq_true rfl) (vs:=[(0,.int .i64 5),(1,.int .i64 4),(2,.int .i64 3)]) rfl rfl (es:=[[.int .i64 5],[.int .i64 4],[.int .i64 3]]) rfl rfl rfl fun v4 X5 o6=>?_
 refine xjz ([(b3,.cells #[.slice none 0 0,.slice none 0 0,.slice none 0 0] 25 (0,0)),(b2,.cells #[.slice none 0 0,.slice none 0 0,.slice none 0 0] 25 (0,0)),(b1,.cells #[.slice none 0 0,.slice none 0 0,.slice none 0 0] 25 (0,0))]:Pcs) mn Tryd.underlying22 tS3 tZ3 (Nat.le_of_ble_eq_true rfl) (vs:=[(0,.int .i64 4),(1,.int .i64 3)]) rfl rfl (es:=[[.int .i64 4],[.int .i64 3]]) rfl rfl rfl fun v7 X8 o9=>?_
 refine rt (xiq tZ43 tP43 (vs:=[(0,.int .i64 0),(1,.int .i64 0)]) rfl (cells:=#[.int .i64 0,.int .i64 0]) rfl) (tm':=zq2 (zq4 _)) rfl <| ro (xiq tZ43 tP43 (vs:=[(0,.int .i64 1),(1,.int .i64 0)]) rfl (cells:=#[.int .i64 1,.int .i64 0]) rfl) <| ro (xiq tZ43 tP43 (vs:=[(0,.int .i64 1),(1,.int .i64 1)]) rfl (cells:=#[.int .i64 1,.int .i64 1]) rfl) <| rt (xiq tZ43 tP43 (vs:=[(0,.int .i64 2),(1,.int .i64 1)]) rfl (cells:=#[.int .i64 2,.int .i64 1]) rfl) (tm':=zq1 (zq8 _)) rfl ?_
 refine xjz ([(b3,.cells #[.slice none 0 0,.slice none 0 0,.slice none 0 0] 25 (0,0)),(b2,.cells #[.slice none 0 0,.slice none 0 0,.slice none 0 0] 25 (0,0)),(b1,.cells #[.slice none 0 0,.slice none 0 0,.slice none 0 0] 25 (0,0))]:Pcs) mn Tryd.underlying23 tS43 tZ43 (Nat.le_of_ble_eq_true rfl) (vs:=[(0,.agg #[.int .i64 0,.int .i64 0]),(1,.agg #[.int .i64 1,.int .i64 0]),(2,.agg #[.int .i64 1,.int .i64 1]),(3,.agg #[.int .i64 2,.int .i64 1])]) rfl rfl (es:=[[.int .i64 0,.int .i64 0],[.int .i64 1,.int .i64 0],[.int .i64 1,.int .i64 1],[.int .i64 2,.int .i64 1]]) rfl rfl rfl fun v10 X11 o12=>?_
 obtain ⟨a13,c14,ev_,_⟩:=o6.val;have ev_:v4= .slice a13 3 c14:=ev_.trans (congrArg (fun q_=>Value.slice a13 q_ c14) (show _=3 from rfl));subst ev_
 obtain ⟨a15,c16,ev_,_⟩:=o9.val;have ev_:v7= .slice a15 2 c16:=ev_.trans (congrArg (fun q_=>Value.slice a15 q_ c16) (show _=2 from rfl));subst ev_
 obtain ⟨a17,c18,ev_,_⟩:=o12.val;have ev_:v10= .slice a17 4 c18:=ev_.trans (congrArg (fun q_=>Value.slice a17 q_ c18) (show _=4 from rfl));subst ev_
 refine ro (xiq tZ25 tP25 (vs:=[(0,(.slice a13 3 c14)),(1,(.slice a15 2 c16)),(2,(.slice a17 4 c18))]) rfl (cells:=#[(.slice a13 3 c14),(.slice a15 2 c16),(.slice a17 4 c18)]) rfl) ?_
 refine xik mn tS25 rfl (v:=.agg #[(.slice a13 3 c14),(.slice a15 2 c16),(.slice a17 4 c18)]) rfl (i:=2) rfl rfl (xfk o6.one.2 (xfk o9.one.2 (xfk o12.one.2 rfl))) (Nat.le_of_ble_eq_true rfl) (cs2:=[(.slice a13 3 c14),(.slice a15 2 c16),(.slice a17 4 c18)]) rfl (xcq (L':=([(b3,.cells #[.slice none 0 0,.slice none 0 0,.slice none 0 0] 25 (0,0)),(b2,.cells #[.slice none 0 0,.slice none 0 0,.slice none 0 0] 25 (0,0)),(b1,.cells #[(.slice a13 3 c14),(.slice a15 2 c16),(.slice a17 4 c18)] 25 (0,0))]:Pcs)++(X11++(X8++(X5++[])))) rfl ?_)
 refine ren <| xbq ?_
 refine xjz ([(b3,.cells #[.slice none 0 0,.slice none 0 0,.slice none 0 0] 25 (0,0)),(b2,.cells #[.slice none 0 0,.slice none 0 0,.slice none 0 0] 25 (0,0)),(b1,.cells #[(.slice a13 3 c14),(.slice a15 2 c16),(.slice a17 4 c18)] 25 (0,0))]:Pcs) mn Tryd.underlying22 tS3 tZ3 (Nat.le_of_ble_eq_true rfl) (vs:=[(0,.int .i64 2),(1,.int .i64 3)]) rfl rfl (es:=[[.int .i64 2],[.int .i64 3]]) rfl rfl rfl fun v19 X20 o21=>?_
 refine xfj (tm':=zq4 (zq8 _)) rfl ?_
 refine xjz ([(b3,.cells #[.slice none 0 0,.slice none 0 0,.slice none 0 0] 25 (0,0)),(b2,.cells #[.slice none 0 0,.slice none 0 0,.slice none 0 0] 25 (0,0)),(b1,.cells #[(.slice a13 3 c14),(.slice a15 2 c16),(.slice a17 4 c18)] 25 (0,0))]:Pcs) mn Tryd.underlying22 tS3 tZ3 (Nat.le_of_ble_eq_true rfl) (vs:=[(0,.int .i64 5),(1,.int .i64 0)]) rfl rfl (es:=[[.int .i64 5],[.int .i64 0]]) rfl rfl rfl fun v22 X23 o24=>?_
 refine ro (xiq tZ43 tP43 (vs:=[(0,.int .i64 0),(1,.int .i64 0)]) rfl (cells:=#[.int .i64 0,.int .i64 0]) rfl) <| rt (xiq tZ43 tP43 (vs:=[(0,.int .i64 1),(1,.int .i64 1)]) rfl (cells:=#[.int .i64 1,.int .i64 1]) rfl) (tm':=zq1 (zq2 (zq4 (zq8 _)))) rfl ?_
 refine xjz ([(b3,.cells #[.slice none 0 0,.slice none 0 0,.slice none 0 0] 25 (0,0)),(b2,.cells #[.slice none 0 0,.slice none 0 0,.slice none 0 0] 25 (0,0)),(b1,.cells #[(.slice a13 3 c14),(.slice a15 2 c16),(.slice a17 4 c18)] 25 (0,0))]:Pcs) mn Tryd.underlying23 tS43 tZ43 (Nat.le_of_ble_eq_true rfl) (vs:=[(0,.agg #[.int .i64 0,.int .i64 0]),(1,.agg #[.int .i64 1,.int .i64 1])]) rfl rfl (es:=[[.int .i64 0,.int .i64 0],[.int .i64 1,.int .i64 1]]) rfl rfl rfl fun v25 X26 o27=>?_
 obtain ⟨a28,c29,ev_,_⟩:=o21.val;have ev_:v19= .slice a28 2 c29:=ev_.trans (congrArg (fun q_=>Value.slice a28 q_ c29) (show _=2 from rfl));subst ev_
 obtain ⟨a30,c31,ev_,_⟩:=o24.val;have ev_:v22= .slice a30 2 c31:=ev_.trans (congrArg (fun q_=>Value.slice a30 q_ c31) (show _=2 from rfl));subst ev_
 obtain ⟨a32,c33,ev_,_⟩:=o27.val;have ev_:v25= .slice a32 2 c33:=ev_.trans (congrArg (fun q_=>Value.slice a32 q_ c33) (show _=2 from rfl));subst ev_
 refine ro (xiq tZ25 tP25 (vs:=[(0,(.slice a28 2 c29)),(1,(.slice a30 2 c31)),(2,(.slice a32 2 c33))]) rfl (cells:=#[(.slice a28 2 c29),(.slice a30 2 c31),(.slice a32 2 c33)]) rfl) ?_
 refine xik mn tS25 rfl (v:=.agg #[(.slice a28 2 c29),(.slice a30 2 c31),(.slice a32 2 c33)]) rfl (i:=1) rfl rfl (xfk o21.one.2 (xfk o24.one.2 (xfk o27.one.2 rfl))) (Nat.le_of_ble_eq_true rfl) (cs2:=[(.slice a28 2 c29),(.slice a30 2 c31),(.slice a32 2 c33)]) rfl (xcq (L':=([(b3,.cells #[.slice none 0 0,.slice none 0 0,.slice none 0 0] 25 (0,0)),(b2,.cells #[(.slice a28 2 c29),(.slice a30 2 c31),(.slice a32 2 c33)] 25 (0,0)),(b1,.cells #[(.slice a13 3 c14),(.slice a15 2 c16),(.slice a17 4 c18)] 25 (0,0))]:Pcs)++(X26++(X23++(X20++(X11++(X8++(X5++[]))))))) rfl ?_)
 refine ren <| xbq ?_
 refine xjz ([(b3,.cells #[.slice none 0 0,.slice none 0 0,.slice none 0 0] 25 (0,0)),(b2,.cells #[(.slice a28 2 c29),(.slice a30 2 c31),(.slice a32 2 c33)] 25 (0,0)),(b1,.cells #[(.slice a13 3 c14),(.slice a15 2 c16),(.slice a17 4 c18)] 25 (0,0))]:Pcs) mn Tryd.underlying22 tS3 tZ3 (Nat.le_of_ble_eq_true rfl) (vs:=[(0,.int .i64 1)]) rfl rfl (es:=[[.int .i64 1]]) rfl rfl rfl fun v34 X35 o36=>?_
 refine xfj (tm':=zq2 (zq8 (zq16 []))) rfl ?_
 refine xjz ([(b3,.cells #[.slice none 0 0,.slice none 0 0,.slice none 0 0] 25 (0,0)),(b2,.cells #[(.slice a28 2 c29),(.slice a30 2 c31),(.slice a32 2 c33)] 25 (0,0)),(b1,.cells #[(.slice a13 3 c14),(.slice a15 2 c16),(.slice a17 4 c18)] 25 (0,0))]:Pcs) mn Tryd.underlying22 tS3 tZ3 (Nat.le_of_ble_eq_true rfl) (vs:=[(0,.int .i64 1),(1,.int .i64 1)]) rfl rfl (es:=[[.int .i64 1],[.int .i64 1]]) rfl rfl rfl fun v37 X38 o39=>?_
 refine ro (xiq tZ43 tP43 (vs:=[(0,.int .i64 0),(1,.int .i64 0)]) rfl (cells:=#[.int .i64 0,.int .i64 0]) rfl) <| rt (xiq tZ43 tP43 (vs:=[(0,.int .i64 0),(1,.int .i64 1)]) rfl (cells:=#[.int .i64 0,.int .i64 1]) rfl) (tm':=zq2 (zq8 (zq16 []))) rfl ?_
 refine xjz ([(b3,.cells #[.slice none 0 0,.slice none 0 0,.slice none 0 0] 25 (0,0)),(b2,.cells #[(.slice a28 2 c29),(.slice a30 2 c31),(.slice a32 2 c33)] 25 (0,0)),(b1,.cells #[(.slice a13 3 c14),(.slice a15 2 c16),(.slice a17 4 c18)] 25 (0,0))]:Pcs) mn Tryd.underlying23 tS43 tZ43 (Nat.le_of_ble_eq_true rfl) (vs:=[(0,.agg #[.int .i64 0,.int .i64 0]),(1,.agg #[.int .i64 0,.int .i64 1])]) rfl rfl (es:=[[.int .i64 0,.int .i64 0],[.int .i64 0,.int .i64 1]]) rfl rfl rfl fun v40 X41 o42=>?_
 obtain ⟨a43,c44,ev_,_⟩:=o36.val;have ev_:v34= .slice a43 1 c44:=ev_.trans (congrArg (fun q_=>Value.slice a43 q_ c44) (show _=1 from rfl));subst ev_
 obtain ⟨a45,c46,ev_,_⟩:=o39.val;have ev_:v37= .slice a45 2 c46:=ev_.trans (congrArg (fun q_=>Value.slice a45 q_ c46) (show _=2 from rfl));subst ev_
 obtain ⟨a47,c48,ev_,_⟩:=o42.val;have ev_:v40= .slice a47 2 c48:=ev_.trans (congrArg (fun q_=>Value.slice a47 q_ c48) (show _=2 from rfl));subst ev_
 refine ro (xiq tZ25 tP25 (vs:=[(0,(.slice a43 1 c44)),(1,(.slice a45 2 c46)),(2,(.slice a47 2 c48))]) rfl (cells:=#[(.slice a43 1 c44),(.slice a45 2 c46),(.slice a47 2 c48)]) rfl) ?_
 refine xik mn tS25 rfl (v:=.agg #[(.slice a43 1 c44),(.slice a45 2 c46),(.slice a47 2 c48)]) rfl (i:=0) rfl rfl (xfk o36.one.2 (xfk o39.one.2 (xfk o42.one.2 rfl))) (Nat.le_of_ble_eq_true rfl) (cs2:=[(.slice a43 1 c44),(.slice a45 2 c46),(.slice a47 2 c48)]) rfl (xcq (L':=([(b3,.cells #[(.slice a43 1 c44),(.slice a45 2 c46),(.slice a47 2 c48)] 25 (0,0)),(b2,.cells #[(.slice a28 2 c29),(.slice a30 2 c31),(.slice a32 2 c33)] 25 (0,0)),(b1,.cells #[(.slice a13 3 c14),(.slice a15 2 c16),(.slice a17 4 c18)] 25 (0,0))]:Pcs)++(X41++(X38++(X35++(X26++(X23++(X20++(X11++(X8++(X5++[])))))))))) rfl ?_)
 refine ren ?_
 refine xxv (xlx (C:=[]) (A:=([(b3,.cells #[(.slice a43 1 c44),(.slice a45 2 c46),(.slice a47 2 c48)] 25 (0,0)),(b2,.cells #[(.slice a28 2 c29),(.slice a30 2 c31),(.slice a32 2 c33)] 25 (0,0)),(b1,.cells #[(.slice a13 3 c14),(.slice a15 2 c16),(.slice a17 4 c18)] 25 (0,0))]:Pcs)) 5 [] [5,6,7,8,9,10,11,12,13] [5,6,7,8,9,10,11,12,13] [0,1,2,3,4] (fun i_=>match i_ with | 5=>X41 | 6=>X38 | 7=>X35 | 8=>X26 | 9=>X23 | 10=>X20 | 11=>X11 | 12=>X8 | 13=>X5 | _=>[]) (fun _=>[]) (fun i_=>match i_ with | 0=>[] | 1=>[] | 2=>[] | 3=>[0] | 4=>[0,1] | _=>[]) (fun i_ val_ pc_ v_ x_=>match i_ with | 0=>v_= .agg #[(.slice a13 3 c14),(.slice a15 2 c16),(.slice a17 4 c18)]∧x_=[] | 1=>v_= .agg #[(.slice a28 2 c29),(.slice a30 2 c31),(.slice a32 2 c33)]∧x_=[] | 2=>v_= .agg #[(.slice a43 1 c44),(.slice a45 2 c46),(.slice a47 2 c48)]∧x_=[] | 3=>v_=undef∧x_=[] | 4=>v_=undef∧x_=[] | _=>True) (fun val49=>[.pointer (some ⟨b1,0,none⟩),.pointer (some ⟨b2,0,none⟩),.pointer (some ⟨b3,0,none⟩),(.slice a13 3 c14),(.slice a15 2 c16),.agg #[.int .i64 0,.int .i64 0],.agg #[.int .i64 1,.int .i64 0],.agg #[.int .i64 1,.int .i64 1],.agg #[.int .i64 2,.int .i64 1],(.slice a17 4 c18),.agg #[(.slice a13 3 c14),(.slice a15 2 c16),(.slice a17 4 c18)],(.slice a28 2 c29),(.slice a30 2 c31),.agg #[.int .i64 0,.int .i64 0],.agg #[.int .i64 1,.int .i64 1],(.slice a32 2 c33),.agg #[(.slice a28 2 c29),(.slice a30 2 c31),(.slice a32 2 c33)],(.slice a43 1 c44),(.slice a45 2 c46),.agg #[.int .i64 0,.int .i64 0],.agg #[.int .i64 0,.int .i64 1],(.slice a47 2 c48),.agg #[(.slice a43 1 c44),(.slice a45 2 c46),(.slice a47 2 c48)],(val49 0),(val49 1),(val49 2)]) xkk (by kernel_rfl) (Nat.le_of_ble_eq_true rfl) (by kernel_rfl) (by kernel_rfl) (by kernel_rfl) (fun _ _=>⟨fun _ _ h=>h.2,⟨fun _ _ h=>h.2,⟨fun _ _ h=>h.2,⟨fun _ _ h=>h.2,⟨fun _ _ h=>h.2,trivial⟩⟩⟩⟩⟩) (fun _=>by kernel_rfl) (by kernel_rfl) ?_ ?_) (fun h_ H_=>St.swap (A:=([(b3,.cells #[(.slice a43 1 c44),(.slice a45 2 c46),(.slice a47 2 c48)] 25 (0,0)),(b2,.cells #[(.slice a28 2 c29),(.slice a30 2 c31),(.slice a32 2 c33)] 25 (0,0)),(b1,.cells #[(.slice a13 3 c14),(.slice a15 2 c16),(.slice a17 4 c18)] 25 (0,0))]:Pcs)) (U:=(X41++(X38++(X35++(X26++(X23++(X20++(X11++(X8++(X5++[])))))))))) H_)
 ·
  refine xaw rfl (xdk ?_) ?_
  ·
   intro val49 pc50 hQ_ hX_
   obtain ⟨q_,hq0_⟩: ∃ q_:Value→Pcs→Prop,q_=(fun v_ x_=>v_= .agg #[(.slice a13 3 c14),(.slice a15 2 c16),(.slice a17 4 c18)]∧x_=[]):=⟨_,rfl⟩
   refine ⟨(zq2 (zq8 (zq16 []))),[],q_,rfl,rfl,(fun _ _ z_=>by subst hq0_;exact z_),?_⟩
   subst hq0_
   exact xdw mn (fun _ h_ H_=>xav H_ tA25 tS25 rfl (i:=2) rfl (vs:=[(.slice a13 3 c14),(.slice a15 2 c16),(.slice a17 4 c18)]) rfl rfl) ⟨rfl,rfl⟩
  refine xaw rfl (xdk ?_) ?_
  ·
   intro val49 pc50 hQ_ hX_
   obtain ⟨q_,hq0_⟩: ∃ q_:Value→Pcs→Prop,q_=(fun v_ x_=>v_= .agg #[(.slice a28 2 c29),(.slice a30 2 c31),(.slice a32 2 c33)]∧x_=[]):=⟨_,rfl⟩
   refine ⟨(zq2 (zq8 (zq16 []))),[],q_,rfl,rfl,(fun _ _ z_=>by subst hq0_;exact z_),?_⟩
   subst hq0_
   exact xdw mn (fun _ h_ H_=>xav H_ tA25 tS25 rfl (i:=1) rfl (vs:=[(.slice a28 2 c29),(.slice a30 2 c31),(.slice a32 2 c33)]) rfl rfl) ⟨rfl,rfl⟩
  refine xaw rfl (xdk ?_) ?_
  ·
   intro val49 pc50 hQ_ hX_
   obtain ⟨q_,hq0_⟩: ∃ q_:Value→Pcs→Prop,q_=(fun v_ x_=>v_= .agg #[(.slice a43 1 c44),(.slice a45 2 c46),(.slice a47 2 c48)]∧x_=[]):=⟨_,rfl⟩
   refine ⟨(zq2 (zq8 (zq16 []))),[],q_,rfl,rfl,(fun _ _ z_=>by subst hq0_;exact z_),?_⟩
   subst hq0_
   exact xdw mn (fun _ h_ H_=>xav H_ tA25 tS25 rfl (i:=0) rfl (vs:=[(.slice a43 1 c44),(.slice a45 2 c46),(.slice a47 2 c48)]) rfl rfl) ⟨rfl,rfl⟩
  refine xaw rfl (xdk ?_) ?_
  ·
   intro val49 pc50 hQ_ hX_
   have e0_:val49 0= .agg #[(.slice a13 3 c14),(.slice a15 2 c16),(.slice a17 4 c18)]:=(hQ_ 0 rfl).1
   obtain ⟨q_,hq0_⟩: ∃ q_:Value→Pcs→Prop,q_=(fun v_ x_=>v_=undef∧x_=[]):=⟨_,rfl⟩
   refine ⟨(zq2 (zq8 (zq16 []))),[],q_,(by rw [e0_]),rfl,(fun _ _ z_=>by subst hq0_;exact z_),?_⟩
   subst hq0_
   exact zrv mn tS25 rfl (v:=.agg #[(.slice a13 3 c14),(.slice a15 2 c16),(.slice a17 4 c18)]) rfl (i:=2) (fun _=>rfl) rfl (xfk o6.one.2 (xfk o9.one.2 (xfk o12.one.2 rfl))) (Nat.le_of_ble_eq_true rfl) rfl ⟨rfl,rfl⟩
  refine xaw rfl (xdk ?_) ?_
  ·
   intro val49 pc50 hQ_ hX_
   have e0_:val49 0= .agg #[(.slice a13 3 c14),(.slice a15 2 c16),(.slice a17 4 c18)]:=(hQ_ 0 rfl).1
   have e1_:val49 1= .agg #[(.slice a28 2 c29),(.slice a30 2 c31),(.slice a32 2 c33)]:=(hQ_ 1 rfl).1
   obtain ⟨q_,hq0_⟩: ∃ q_:Value→Pcs→Prop,q_=(fun v_ x_=>v_=undef∧x_=[]):=⟨_,rfl⟩
   refine ⟨(zq2 (zq8 (zq16 []))),[],q_,(by rw [e0_,e1_]),rfl,(fun _ _ z_=>by subst hq0_;exact z_),?_⟩
   subst hq0_
   exact zrv mn tS25 rfl (v:=.agg #[(.slice a28 2 c29),(.slice a30 2 c31),(.slice a32 2 c33)]) rfl (i:=1) (fun _=>rfl) rfl (xfk o21.one.2 (xfk o24.one.2 (xfk o27.one.2 rfl))) (Nat.le_of_ble_eq_true rfl) rfl ⟨rfl,rfl⟩
  exact xlq rfl
 intro val49 pc50 hQ_ hX_
 have e0_:val49 0= .agg #[(.slice a13 3 c14),(.slice a15 2 c16),(.slice a17 4 c18)]:=(hQ_ 0 (by decide)).1
 have e1_:val49 1= .agg #[(.slice a28 2 c29),(.slice a30 2 c31),(.slice a32 2 c33)]:=(hQ_ 1 (by decide)).1
 have e2_:val49 2= .agg #[(.slice a43 1 c44),(.slice a45 2 c46),(.slice a47 2 c48)]:=(hQ_ 2 (by decide)).1
 have x5_:pc50 5=X41:=hX_ 5 (by decide)
 have x6_:pc50 6=X38:=hX_ 6 (by decide)
 have x7_:pc50 7=X35:=hX_ 7 (by decide)
 have x8_:pc50 8=X26:=hX_ 8 (by decide)
 have x9_:pc50 9=X23:=hX_ 9 (by decide)
 have x10_:pc50 10=X20:=hX_ 10 (by decide)
 have x11_:pc50 11=X11:=hX_ 11 (by decide)
 have x12_:pc50 12=X8:=hX_ 12 (by decide)
 have x13_:pc50 13=X5:=hX_ 13 (by decide)
 clear hQ_ hX_
 refine xww (Φ:=fun h_=>St h [] (fun _=>none) h_ (([(b3,.cells #[(.slice a43 1 c44),(.slice a45 2 c46),(.slice a47 2 c48)] 25 (0,0)),(b2,.cells #[(.slice a28 2 c29),(.slice a30 2 c31),(.slice a32 2 c33)] 25 (0,0)),(b1,.cells #[(.slice a13 3 c14),(.slice a15 2 c16),(.slice a17 4 c18)] 25 (0,0))]:Pcs)++(pc50 5++(pc50 6++(pc50 7++(pc50 8++(pc50 9++(pc50 10++(pc50 11++(pc50 12++(pc50 13++[]))))))))))) ?_ (fun h_ H_=>H_.swap')
 rw [x5_,x6_,x7_,x8_,x9_,x10_,x11_,x12_,x13_]
 refine xfj (tm':=(zq2 (zq8 (zq16 [])))) (by rw [e0_,e1_,e2_]) ?_
 refine xik mn tS25 rfl (v:=.agg #[(.slice a43 1 c44),(.slice a45 2 c46),(.slice a47 2 c48)]) rfl (i:=0) rfl rfl (xfk o36.one.2 (xfk o39.one.2 (xfk o42.one.2 rfl))) (Nat.le_of_ble_eq_true rfl) (cs2:=[(.slice a43 1 c44),(.slice a45 2 c46),(.slice a47 2 c48)]) rfl (xcq (L':=([(b3,.cells #[(.slice a43 1 c44),(.slice a45 2 c46),(.slice a47 2 c48)] 25 (0,0)),(b2,.cells #[(.slice a28 2 c29),(.slice a30 2 c31),(.slice a32 2 c33)] 25 (0,0)),(b1,.cells #[(.slice a13 3 c14),(.slice a15 2 c16),(.slice a17 4 c18)] 25 (0,0))]:Pcs)++(X41++(X38++(X35++(X26++(X23++(X20++(X11++(X8++(X5++[])))))))))) rfl ?_)
 refine xak ?_
 refine xdv Tryd.func63 rfl (vs:=[.agg #[(.slice a13 3 c14),(.slice a15 2 c16),(.slice a17 4 c18)],.agg #[(.slice a28 2 c29),(.slice a30 2 c31),(.slice a32 2 c33)],.agg #[(.slice a43 1 c44),(.slice a45 2 c46),(.slice a47 2 c48)]]) (fun h_ H_=>⟨.agg #[(.slice a13 3 c14),(.slice a15 2 c16),(.slice a17 4 c18)],_,rfl,(xbz (xbv (xnj tA25 tS25 (vs:=[(.slice a13 3 c14),(.slice a15 2 c16),(.slice a17 4 c18)]) rfl (fun j_ v_ e_=>by rw [xnz];exact H_.ocell (i:=2) rfl (by simpa using e_)) ⟨rfl,rfl⟩))),⟨.agg #[(.slice a28 2 c29),(.slice a30 2 c31),(.slice a32 2 c33)],_,rfl,(xbz (xbv (xnj tA25 tS25 (vs:=[(.slice a28 2 c29),(.slice a30 2 c31),(.slice a32 2 c33)]) rfl (fun j_ v_ e_=>by rw [xnz];exact H_.ocell (i:=1) rfl (by simpa using e_)) ⟨rfl,rfl⟩))),⟨.agg #[(.slice a43 1 c44),(.slice a45 2 c46),(.slice a47 2 c48)],_,rfl,(xbz (xbv (xnj tA25 tS25 (vs:=[(.slice a43 1 c44),(.slice a45 2 c46),(.slice a47 2 c48)]) rfl (fun j_ v_ e_=>by rw [xnz];exact H_.ocell (i:=0) rfl (by simpa using e_)) ⟨rfl,rfl⟩))),rfl⟩⟩⟩) (v:=.tuple #[.agg #[(.slice a13 3 c14),(.slice a15 2 c16),(.slice a17 4 c18)],.agg #[(.slice a28 2 c29),(.slice a30 2 c31),(.slice a32 2 c33)],.agg #[(.slice a43 1 c44),(.slice a45 2 c46),(.slice a47 2 c48)]]) rfl ?_
 refine xgv (List.Perm.append_left _ (List.Perm.append_left _ (List.Perm.append_left _ (List.Perm.append_left _ (List.Perm.append_left _ (List.Perm.append_left _ (List.Perm.append_left _ (List.Perm.append_left _ (List.perm_append_comm_assoc _ _ _))))))))) ?_
 refine xgv (List.Perm.append_left _ (List.Perm.append_left _ (List.Perm.append_left _ (List.Perm.append_left _ (List.Perm.append_left _ (List.Perm.append_left _ (List.Perm.append_left _ (List.perm_append_comm_assoc _ _ _)))))))) ?_
 refine xgv (List.Perm.append_left _ (List.Perm.append_left _ (List.Perm.append_left _ (List.Perm.append_left _ (List.Perm.append_left _ (List.Perm.append_left _ (List.perm_append_comm_assoc _ _ _))))))) ?_
 refine xgv (List.Perm.append_left _ (List.Perm.append_left _ (List.Perm.append_left _ (List.Perm.append_left _ (List.Perm.append_left _ (List.perm_append_comm_assoc _ _ _)))))) ?_
 refine xgv (List.Perm.append_left _ (List.Perm.append_left _ (List.Perm.append_left _ (List.Perm.append_left _ (List.perm_append_comm_assoc _ _ _))))) ?_
 refine xgv (List.Perm.append_left _ (List.Perm.append_left _ (List.Perm.append_left _ (List.perm_append_comm_assoc _ _ _)))) ?_
 refine xgv (List.Perm.append_left _ (List.Perm.append_left _ (List.perm_append_comm_assoc _ _ _))) ?_
 refine xgv (List.Perm.append_left _ (List.perm_append_comm_assoc _ _ _)) ?_
 refine xgv (List.Perm.append_left _ (List.Perm.append_left _ (List.Perm.append_left _ (List.Perm.append_left _ (List.Perm.append_left _ (List.Perm.append_left _ (List.Perm.append_left _ (List.Perm.append_left _ (List.perm_append_comm_assoc _ _ _))))))))) ?_
 refine xgv (List.Perm.append_left _ (List.Perm.append_left _ (List.Perm.append_left _ (List.Perm.append_left _ (List.Perm.append_left _ (List.Perm.append_left _ (List.Perm.append_left _ (List.perm_append_comm_assoc _ _ _)))))))) ?_
 refine xgv (List.Perm.append_left _ (List.Perm.append_left _ (List.Perm.append_left _ (List.Perm.append_left _ (List.Perm.append_left _ (List.Perm.append_left _ (List.perm_append_comm_assoc _ _ _))))))) ?_
 refine xgv (List.Perm.append_left _ (List.Perm.append_left _ (List.Perm.append_left _ (List.Perm.append_left _ (List.Perm.append_left _ (List.perm_append_comm_assoc _ _ _)))))) ?_
 refine xgv (List.Perm.append_left _ (List.Perm.append_left _ (List.Perm.append_left _ (List.Perm.append_left _ (List.perm_append_comm_assoc _ _ _))))) ?_
 refine xgv (List.Perm.append_left _ (List.Perm.append_left _ (List.Perm.append_left _ (List.perm_append_comm_assoc _ _ _)))) ?_
 refine xgv (List.Perm.append_left _ (List.Perm.append_left _ (List.perm_append_comm_assoc _ _ _))) ?_
 refine xgv (List.Perm.append_left _ (List.Perm.append_left _ (List.Perm.append_left _ (List.Perm.append_left _ (List.Perm.append_left _ (List.Perm.append_left _ (List.Perm.append_left _ (List.Perm.append_left _ (List.perm_append_comm_assoc _ _ _))))))))) ?_
 refine xgv (List.Perm.append_left _ (List.Perm.append_left _ (List.Perm.append_left _ (List.Perm.append_left _ (List.Perm.append_left _ (List.Perm.append_left _ (List.Perm.append_left _ (List.perm_append_comm_assoc _ _ _)))))))) ?_
 refine xgv (List.Perm.append_left _ (List.Perm.append_left _ (List.Perm.append_left _ (List.Perm.append_left _ (List.Perm.append_left _ (List.Perm.append_left _ (List.perm_append_comm_assoc _ _ _))))))) ?_
 refine xgv (List.Perm.append_left _ (List.Perm.append_left _ (List.Perm.append_left _ (List.Perm.append_left _ (List.Perm.append_left _ (List.perm_append_comm_assoc _ _ _)))))) ?_
 refine xgv (List.Perm.append_left _ (List.Perm.append_left _ (List.Perm.append_left _ (List.Perm.append_left _ (List.perm_append_comm_assoc _ _ _))))) ?_
 refine xgv (List.Perm.append_left _ (List.Perm.append_left _ (List.Perm.append_left _ (List.perm_append_comm_assoc _ _ _)))) ?_
 refine xgv (List.Perm.append_left _ (List.Perm.append_left _ (List.Perm.append_left _ (List.Perm.append_left _ (List.Perm.append_left _ (List.Perm.append_left _ (List.Perm.append_left _ (List.Perm.append_left _ (List.perm_append_comm_assoc _ _ _))))))))) ?_
 refine xgv (List.Perm.append_left _ (List.Perm.append_left _ (List.Perm.append_left _ (List.Perm.append_left _ (List.Perm.append_left _ (List.Perm.append_left _ (List.Perm.append_left _ (List.perm_append_comm_assoc _ _ _)))))))) ?_
 refine xgv (List.Perm.append_left _ (List.Perm.append_left _ (List.Perm.append_left _ (List.Perm.append_left _ (List.Perm.append_left _ (List.Perm.append_left _ (List.perm_append_comm_assoc _ _ _))))))) ?_
 refine xgv (List.Perm.append_left _ (List.Perm.append_left _ (List.Perm.append_left _ (List.Perm.append_left _ (List.Perm.append_left _ (List.perm_append_comm_assoc _ _ _)))))) ?_
 refine xgv (List.Perm.append_left _ (List.Perm.append_left _ (List.Perm.append_left _ (List.Perm.append_left _ (List.perm_append_comm_assoc _ _ _))))) ?_
 refine xgv (List.Perm.append_left _ (List.Perm.append_left _ (List.Perm.append_left _ (List.Perm.append_left _ (List.Perm.append_left _ (List.Perm.append_left _ (List.Perm.append_left _ (List.Perm.append_left _ (List.perm_append_comm_assoc _ _ _))))))))) ?_
 refine xgv (List.Perm.append_left _ (List.Perm.append_left _ (List.Perm.append_left _ (List.Perm.append_left _ (List.Perm.append_left _ (List.Perm.append_left _ (List.Perm.append_left _ (List.perm_append_comm_assoc _ _ _)))))))) ?_
 refine xgv (List.Perm.append_left _ (List.Perm.append_left _ (List.Perm.append_left _ (List.Perm.append_left _ (List.Perm.append_left _ (List.Perm.append_left _ (List.perm_append_comm_assoc _ _ _))))))) ?_
 refine xgv (List.Perm.append_left _ (List.Perm.append_left _ (List.Perm.append_left _ (List.Perm.append_left _ (List.Perm.append_left _ (List.perm_append_comm_assoc _ _ _)))))) ?_
 refine xgv (List.Perm.append_left _ (List.Perm.append_left _ (List.Perm.append_left _ (List.Perm.append_left _ (List.Perm.append_left _ (List.Perm.append_left _ (List.Perm.append_left _ (List.Perm.append_left _ (List.perm_append_comm_assoc _ _ _))))))))) ?_
 refine xgv (List.Perm.append_left _ (List.Perm.append_left _ (List.Perm.append_left _ (List.Perm.append_left _ (List.Perm.append_left _ (List.Perm.append_left _ (List.Perm.append_left _ (List.perm_append_comm_assoc _ _ _)))))))) ?_
 refine xgv (List.Perm.append_left _ (List.Perm.append_left _ (List.Perm.append_left _ (List.Perm.append_left _ (List.Perm.append_left _ (List.Perm.append_left _ (List.perm_append_comm_assoc _ _ _))))))) ?_
 refine xgv (List.Perm.append_left _ (List.Perm.append_left _ (List.Perm.append_left _ (List.Perm.append_left _ (List.Perm.append_left _ (List.Perm.append_left _ (List.Perm.append_left _ (List.Perm.append_left _ (List.perm_append_comm_assoc _ _ _))))))))) ?_
 refine xgv (List.Perm.append_left _ (List.Perm.append_left _ (List.Perm.append_left _ (List.Perm.append_left _ (List.Perm.append_left _ (List.Perm.append_left _ (List.Perm.append_left _ (List.perm_append_comm_assoc _ _ _)))))))) ?_
 refine xgv (List.Perm.append_left _ (List.Perm.append_left _ (List.Perm.append_left _ (List.Perm.append_left _ (List.Perm.append_left _ (List.Perm.append_left _ (List.Perm.append_left _ (List.Perm.append_left _ (List.perm_append_comm_assoc _ _ _))))))))) ?_
 refine xlk (L':=([(b3,.cells #[(.slice a43 1 c44),(.slice a45 2 c46),(.slice a47 2 c48)] 25 (0,0)),(b2,.cells #[(.slice a28 2 c29),(.slice a30 2 c31),(.slice a32 2 c33)] 25 (0,0)),(b1,.cells #[(.slice a13 3 c14),(.slice a15 2 c16),(.slice a17 4 c18)] 25 (0,0))]:Pcs)++(X5++(X8++(X11++(X20++(X23++(X26++(X35++(X38++(X41++[])))))))))) rfl ?_
 exact fun h_ H_=>K _ _ ⟨_,_,_,_,_,_,_,_,_,_,_,_,_,_,_,_,_,_,rfl,o6,o9,o12,o21,o24,o27,o36,o39,o42,by simpa using H_.dropA.new⟩
theorem c16 (md:Md) (h:Heap) (p:PHeap) (hp:Per p h) (N:NoneP p) (Z:TabP p):CallsX Tryd.prog md 16 #[] h fun v h'=>v= .bool true∧Keep h h':=by
 refine xcx (Φ:=fun h_=>St h [] p h_ []) Tryd.func16 rfl (tm:=zq1 (zq2 (zq32 (zq32 (zq32 []))))) rfl ?_ (St.start h _ hp)
 intro c₀ cs Stop K
 have nB1:exB.nH=3:=rfl
 have nB2:exB.nW=2:=rfl
 have nB3:exB.m=4:=rfl
 have nC1:exC.nH=2:=rfl
 have nC2:exC.nW=2:=rfl
 have nC3:exC.m=2:=rfl
 have nD1:exD.nH=1:=rfl
 have nD2:exD.nW=2:=rfl
 have nD3:exD.m=2:=rfl
 have mostB_:mostC exB=7:=by rw [mostC,if_pos yhw,vaj]
 have lkB_:LKc exB=[2,2,1]:=by rw [znx yhw,vkq]
 have shoC_:shortC exC=[1]:=by rw [xyk wkz,wvv]
 have shoE_:shortE exC=0:=yxq wkz (by rw [wvv];decide)
 have nl1_:(LKc exB).length=3:=by rw [lkB_];rfl
 have nl2_:(shortC exC).length=1:=by rw [shoC_];rfl
 have wA_:wayA exC 1 0=0:=by rw [yov (by omega),askB,if_pos wkz];simp;omega
 have wayE_:wayE exC 1 0=0:=zbv wA_ (by decide)
 have wayB__:wayB exC 1 0=true:=by rw [znw wA_ (by decide)];exact decide_eq_true vdk
 have askB_:askB exB (decide (0≤(0:Int)∧(0:Int)≤(exB.nH:Int)-1))=0:=by rw [askB,if_pos yhw];simp;omega
 have askD_:askB exD (decide (0≤(0:Int)∧(0:Int)≤(exD.nW:Int)-1))=0:=by rw [askB,if_pos viq];simp;omega
 have houB1_:houseC exB 0 (-1)=3:=by rw [ycx askB_,vbz]
 have houB2_:houseC exB 0 1=4:=by rw [ycx askB_,vbx]
 have dryD_:dryC exD 0=3:=by rw [ynk askD_,vhv]
 refine fsr <| rt (xax (v:=.bool (false)) rfl) (tm':=_::_) rfl <| ren <| xbq ?_
 refine xcq (L':=([]:Pcs)++[]) rfl ?_
 refine xiw mn (first:=[]) (cap:=[]) rfl rfl fC63 (R:=fun v_ h_=>∃ w1:Value,∃ w4:Value,∃ w7:Value,∃ w10:Value,∃ w13:Value,∃ w16:Value,∃ w19:Value,∃ w22:Value,∃ w25:Value,∃ X2:Pcs,∃ X5:Pcs,∃ X8:Pcs,∃ X11:Pcs,∃ X14:Pcs,∃ X17:Pcs,∃ X20:Pcs,∃ X23:Pcs,∃ X26:Pcs,v_= .tuple #[.agg #[w1,w4,w7],.agg #[w10,w13,w16],.agg #[w19,w22,w25]]∧(OwnS 3 1 w1 (ics exB.hs) X2)∧(OwnS 3 1 w4 (ics exB.ws) X5)∧(OwnS 43 2 w7 (wcs exB.wy) X8)∧(OwnS 3 1 w10 (ics exC.hs) X11)∧(OwnS 3 1 w13 (ics exC.ws) X14)∧(OwnS 43 2 w16 (wcs exC.wy) X17)∧(OwnS 3 1 w19 (ics exD.hs) X20)∧(OwnS 3 1 w22 (ics exD.ws) X23)∧(OwnS 43 2 w25 (wcs exD.wy) X26)∧St h [] p h_ (([]:Pcs)++((X2++(X5++(X8++(X11++(X14++(X17++(X20++(X23++(X26++[])))))))))++[]))) (fun h_ H_=>(c63 md _).mono fun v_ h2_ ⟨w1,w4,w7,w10,w13,w16,w19,w22,w25,X2,X5,X8,X11,X14,X17,X20,X23,X26,e_,o3,o6,o9,o12,o15,o18,o21,o24,o27,N_⟩=>⟨w1,w4,w7,w10,w13,w16,w19,w22,w25,X2,X5,X8,X11,X14,X17,X20,X23,X26,e_,o3,o6,o9,o12,o15,o18,o21,o24,o27,H_.callNA N_⟩) fun v_=>?_
 refine xgz fun w1=>xgz fun w4=>xgz fun w7=>xgz fun w10=>xgz fun w13=>xgz fun w16=>xgz fun w19=>xgz fun w22=>xgz fun w25=>xgz fun X2=>xgz fun X5=>xgz fun X8=>xgz fun X11=>xgz fun X14=>xgz fun X17=>xgz fun X20=>xgz fun X23=>xgz fun X26=>xfq fun ev_=>xfq fun o3=>xfq fun o6=>xfq fun o9=>xfq fun o12=>xfq fun o15=>xfq fun o18=>xfq fun o21=>xfq fun o24=>xfq fun o27=>?_
 have ev_:=ev_.symm;subst ev_
 refine xcq (L':=([]:Pcs)++(X2++(X5++(X8++(X11++(X14++(X17++(X20++(X23++(X26++[])))))))))) (by simp) ?_
 refine ro (xaq (v:=.tuple #[.agg #[w1,w4,w7],.agg #[w10,w13,w16],.agg #[w19,w22,w25]]) rfl) <| rt (xev rfl (v:=.agg #[w1,w4,w7]) rfl) (tm':=zq1 (zq2 (zq16 _))) rfl <| ro (xev rfl (v:=.agg #[w10,w13,w16]) rfl) <| ro (xev rfl (v:=.agg #[w19,w22,w25]) rfl) ?_
 refine xkx mn tZ25 rfl fun b28=>xcq (L':=([(b28,.cells #[.slice none 0 0,.slice none 0 0,.slice none 0 0] 25 (0,0))]:Pcs)++(X2++(X5++(X8++(X11++(X14++(X17++(X20++(X23++(X26++[])))))))))) rfl ?_
 refine xfj (tm':=_::_::_) rfl ?_
 refine xkx mn tZ25 rfl fun b29=>xcq (L':=([(b29,.cells #[.slice none 0 0,.slice none 0 0,.slice none 0 0] 25 (0,0)),(b28,.cells #[.slice none 0 0,.slice none 0 0,.slice none 0 0] 25 (0,0))]:Pcs)++(X2++(X5++(X8++(X11++(X14++(X17++(X20++(X23++(X26++[])))))))))) rfl ?_
 refine xkx mn tZ25 rfl fun b30=>xcq (L':=([(b30,.cells #[.slice none 0 0,.slice none 0 0,.slice none 0 0] 25 (0,0)),(b29,.cells #[.slice none 0 0,.slice none 0 0,.slice none 0 0] 25 (0,0)),(b28,.cells #[.slice none 0 0,.slice none 0 0,.slice none 0 0] 25 (0,0))]:Pcs)++(X2++(X5++(X8++(X11++(X14++(X17++(X20++(X23++(X26++[])))))))))) rfl ?_
 refine xik mn tS25 rfl (v:=.agg #[w1,w4,w7]) rfl (i:=2) rfl rfl (xfk o3.one.2 (xfk o6.one.2 (xfk o9.one.2 rfl))) (Nat.le_of_ble_eq_true rfl) (cs2:=[w1,w4,w7]) rfl (xcq (L':=([(b30,.cells #[.slice none 0 0,.slice none 0 0,.slice none 0 0] 25 (0,0)),(b29,.cells #[.slice none 0 0,.slice none 0 0,.slice none 0 0] 25 (0,0)),(b28,.cells #[w1,w4,w7] 25 (0,0))]:Pcs)++(X2++(X5++(X8++(X11++(X14++(X17++(X20++(X23++(X26++[])))))))))) rfl ?_)
 refine xik mn tS25 rfl (v:=.agg #[w10,w13,w16]) rfl (i:=1) rfl rfl (xfk o12.one.2 (xfk o15.one.2 (xfk o18.one.2 rfl))) (Nat.le_of_ble_eq_true rfl) (cs2:=[w10,w13,w16]) rfl (xcq (L':=([(b30,.cells #[.slice none 0 0,.slice none 0 0,.slice none 0 0] 25 (0,0)),(b29,.cells #[w10,w13,w16] 25 (0,0)),(b28,.cells #[w1,w4,w7] 25 (0,0))]:Pcs)++(X2++(X5++(X8++(X11++(X14++(X17++(X20++(X23++(X26++[])))))))))) rfl ?_)
 refine xik mn tS25 rfl (v:=.agg #[w19,w22,w25]) rfl (i:=0) rfl rfl (xfk o21.one.2 (xfk o24.one.2 (xfk o27.one.2 rfl))) (Nat.le_of_ble_eq_true rfl) (cs2:=[w19,w22,w25]) rfl (xcq (L':=([(b30,.cells #[w19,w22,w25] 25 (0,0)),(b29,.cells #[w10,w13,w16] 25 (0,0)),(b28,.cells #[w1,w4,w7] 25 (0,0))]:Pcs)++(X2++(X5++(X8++(X11++(X14++(X17++(X20++(X23++(X26++[])))))))))) rfl ?_)
 refine ren ?_
 refine xsv (A:=([(b30,.cells #[w19,w22,w25] 25 (0,0)),(b29,.cells #[w10,w13,w16] 25 (0,0)),(b28,.cells #[w1,w4,w7] 25 (0,0))]:Pcs)) o3 ((xcw _).trans rfl) (by decide) fun p31 a32 cp33 le34 ev_ D35 hcD35=>?_
 subst ev_
 refine xsv (A:=([(b30,.cells #[w19,w22,w25] 25 (0,0)),(b29,.cells #[w10,w13,w16] 25 (0,0)),(b28,.cells #[.slice a32 exB.nH cp33,w4,w7] 25 (0,0))]:Pcs)) o6 ((xcw _).trans rfl) (by decide) fun p36 a37 cp38 le39 ev_ D40 hcD40=>?_
 subst ev_
 refine xsv (A:=([(b30,.cells #[w19,w22,w25] 25 (0,0)),(b29,.cells #[w10,w13,w16] 25 (0,0)),(b28,.cells #[.slice a32 exB.nH cp33,.slice a37 exB.nW cp38,w7] 25 (0,0))]:Pcs)) o9 (show (wcs exB.wy).length=exB.m from rfl) (by decide) fun p41 a42 cp43 le44 ev_ D45 hcD45=>?_
 subst ev_
 refine xsv (A:=([(b30,.cells #[w19,w22,w25] 25 (0,0)),(b29,.cells #[w10,w13,w16] 25 (0,0)),(b28,.cells #[.slice a32 exB.nH cp33,.slice a37 exB.nW cp38,.slice a42 exB.m cp43] 25 (0,0))]:Pcs)) o12 ((xcw _).trans rfl) (by decide) fun p46 a47 cp48 le49 ev_ D50 hcD50=>?_
 subst ev_
 refine xsv (A:=([(b30,.cells #[w19,w22,w25] 25 (0,0)),(b29,.cells #[.slice a47 exC.nH cp48,w13,w16] 25 (0,0)),(b28,.cells #[.slice a32 exB.nH cp33,.slice a37 exB.nW cp38,.slice a42 exB.m cp43] 25 (0,0))]:Pcs)) o15 ((xcw _).trans rfl) (by decide) fun p51 a52 cp53 le54 ev_ D55 hcD55=>?_
 subst ev_
 refine xsv (A:=([(b30,.cells #[w19,w22,w25] 25 (0,0)),(b29,.cells #[.slice a47 exC.nH cp48,.slice a52 exC.nW cp53,w16] 25 (0,0)),(b28,.cells #[.slice a32 exB.nH cp33,.slice a37 exB.nW cp38,.slice a42 exB.m cp43] 25 (0,0))]:Pcs)) o18 (show (wcs exC.wy).length=exC.m from rfl) (by decide) fun p56 a57 cp58 le59 ev_ D60 hcD60=>?_
 subst ev_
 refine xsv (A:=([(b30,.cells #[w19,w22,w25] 25 (0,0)),(b29,.cells #[.slice a47 exC.nH cp48,.slice a52 exC.nW cp53,.slice a57 exC.m cp58] 25 (0,0)),(b28,.cells #[.slice a32 exB.nH cp33,.slice a37 exB.nW cp38,.slice a42 exB.m cp43] 25 (0,0))]:Pcs)) o21 ((xcw _).trans rfl) (by decide) fun p61 a62 cp63 le64 ev_ D65 hcD65=>?_
 subst ev_
 refine xsv (A:=([(b30,.cells #[.slice a62 exD.nH cp63,w22,w25] 25 (0,0)),(b29,.cells #[.slice a47 exC.nH cp48,.slice a52 exC.nW cp53,.slice a57 exC.m cp58] 25 (0,0)),(b28,.cells #[.slice a32 exB.nH cp33,.slice a37 exB.nW cp38,.slice a42 exB.m cp43] 25 (0,0))]:Pcs)) o24 ((xcw _).trans rfl) (by decide) fun p66 a67 cp68 le69 ev_ D70 hcD70=>?_
 subst ev_
 refine xsv (A:=([(b30,.cells #[.slice a62 exD.nH cp63,.slice a67 exD.nW cp68,w25] 25 (0,0)),(b29,.cells #[.slice a47 exC.nH cp48,.slice a52 exC.nW cp53,.slice a57 exC.m cp58] 25 (0,0)),(b28,.cells #[.slice a32 exB.nH cp33,.slice a37 exB.nW cp38,.slice a42 exB.m cp43] 25 (0,0))]:Pcs)) o27 (show (wcs exD.wy).length=exD.m from rfl) (by decide) fun p71 a72 cp73 le74 ev_ D75 hcD75=>?_
 subst ev_
 refine xlk (L':=[(b30,.cells #[.slice a62 exD.nH cp63,.slice a67 exD.nW cp68,.slice a72 exD.m cp73] 25 (0,0)),(b29,.cells #[.slice a47 exC.nH cp48,.slice a52 exC.nW cp53,.slice a57 exC.m cp58] 25 (0,0)),(b28,.cells #[.slice a32 exB.nH cp33,.slice a37 exB.nW cp38,.slice a42 exB.m cp43] 25 (0,0))]) rfl ?_
 refine xbq ?_
 refine xbx mn (fun h_ H_=>xav H_ tA25 tS25 rfl (i:=2) rfl (vs:=[.slice a32 exB.nH cp33,.slice a37 exB.nW cp38,.slice a42 exB.m cp43]) rfl rfl) (tm':=zq1 (zq2 (zq4 (zq16 _)))) rfl ?_
 refine xeq mn (first:=[]) (cap:=[]) rfl rfl fC28 (fun h_ H_=>c28 md _ _ H_.pe _ _ _ _ _ _ exB (show TownP _ _ _ _ _ _ _ exB from ⟨(((((((((show Ints _ _ _ exB.hs from D35).mono le39).mono le44).mono le49).mono le54).mono le59).mono le64).mono le69).mono le74),((((((((show Ints _ _ _ exB.ws from D40).mono le44).mono le49).mono le54).mono le59).mono le64).mono le69).mono le74),(((((((show Wys _ _ _ exB.wy from D45).mono le49).mono le54).mono le59).mono le64).mono le69).mono le74)⟩) (by omega) (((((((((N.mono le34).mono le39).mono le44).mono le49).mono le54).mono le59).mono le64).mono le69).mono le74)) rfl ?_
 refine ro (xaq (v:=.tuple #[.int .i64 (mostC exB),.int .i64 (chkB exB)]) rfl) <| rt (xev rfl (v:=.int .i64 (mostC exB)) rfl) (tm':=zq1 (zq8 (zq16 _))) rfl <| ro (xev rfl (v:=.int .i64 (chkB exB)) rfl) <| ro (xax (v:=.int .i64 (mostC exB)) rfl) <| rt (xax (v:=.int .i64 (chkB exB)) rfl) (tm':=zq2 (zq4 _)) rfl <| ren ?_
 refine xbq <| rd (fun h_ H_=>xav H_ tA25 tS25 rfl (i:=2) rfl (vs:=[.slice a32 exB.nH cp33,.slice a37 exB.nW cp38,.slice a42 exB.m cp43]) rfl rfl) ?_
 refine xcq (L':=([(b30,.cells #[.slice a62 exD.nH cp63,.slice a67 exD.nW cp68,.slice a72 exD.m cp73] 25 (0,0)),(b29,.cells #[.slice a47 exC.nH cp48,.slice a52 exC.nW cp53,.slice a57 exC.m cp58] 25 (0,0)),(b28,.cells #[.slice a32 exB.nH cp33,.slice a37 exB.nW cp38,.slice a42 exB.m cp43] 25 (0,0))]:Pcs)++[]) rfl ?_
 refine xiw mn (first:=[]) (cap:=[]) rfl rfl fC43 (R:=fun v_ h_=>∃ w76:Value,∃ X77:Pcs,v_= .tuple #[w76,.int .i64 (chkB exB)]∧(OwnS 3 1 w76 (ics (LKc exB)) X77)∧St h [] p71 h_ (([(b30,.cells #[.slice a62 exD.nH cp63,.slice a67 exD.nW cp68,.slice a72 exD.m cp73] 25 (0,0)),(b29,.cells #[.slice a47 exC.nH cp48,.slice a52 exC.nW cp53,.slice a57 exC.m cp58] 25 (0,0)),(b28,.cells #[.slice a32 exB.nH cp33,.slice a37 exB.nW cp38,.slice a42 exB.m cp43] 25 (0,0))]:Pcs)++(X77++[]))) (fun h_ H_=>(c43 md _ _ H_.pe _ _ _ _ _ _ exB (show TownP _ _ _ _ _ _ _ exB from ⟨(((((((((show Ints _ _ _ exB.hs from D35).mono le39).mono le44).mono le49).mono le54).mono le59).mono le64).mono le69).mono le74),((((((((show Ints _ _ _ exB.ws from D40).mono le44).mono le49).mono le54).mono le59).mono le64).mono le69).mono le74),(((((((show Wys _ _ _ exB.wy from D45).mono le49).mono le54).mono le59).mono le64).mono le69).mono le74)⟩) (by omega) (((((((((N.mono le34).mono le39).mono le44).mono le49).mono le54).mono le59).mono le64).mono le69).mono le74)).mono fun v_ h2_ ⟨w76,X77,e_,o78,N_⟩=>⟨w76,X77,e_,o78,H_.callNA N_⟩) fun v_=>?_
 refine xgz fun w76=>xgz fun X77=>xfq fun ev_=>xfq fun o78=>?_
 have ev_:=ev_.symm;subst ev_
 refine xcq (L':=([(b30,.cells #[.slice a62 exD.nH cp63,.slice a67 exD.nW cp68,.slice a72 exD.m cp73] 25 (0,0)),(b29,.cells #[.slice a47 exC.nH cp48,.slice a52 exC.nW cp53,.slice a57 exC.m cp58] 25 (0,0)),(b28,.cells #[.slice a32 exB.nH cp33,.slice a37 exB.nW cp38,.slice a42 exB.m cp43] 25 (0,0))]:Pcs)++(X77++[])) rfl ?_
 refine rt (xaq (v:=.tuple #[w76,.int .i64 (chkB exB)]) rfl) (tm':=zq1 (zq2 (zq8 (zq16 _)))) rfl <| ro (xev rfl (v:=w76) rfl) <| ro (xev rfl (v:=.int .i64 (chkB exB)) rfl) <| rt (xax (v:=w76) rfl) (tm':=zq1 (zq2 (zq4 _))) rfl <| ro (xax (v:=.int .i64 (chkB exB)) rfl) <| ren ?_
 refine xbq <| rd (fun h_ H_=>xav H_ tA25 tS25 rfl (i:=2) rfl (vs:=[.slice a32 exB.nH cp33,.slice a37 exB.nW cp38,.slice a42 exB.m cp43]) rfl rfl) ?_
 refine xeq mn (first:=[]) (cap:=[]) rfl rfl fC18 (fun h_ H_=>c18 md _ _ H_.pe _ _ _ _ _ _ exB (show TownP _ _ _ _ _ _ _ exB from ⟨(((((((((show Ints _ _ _ exB.hs from D35).mono le39).mono le44).mono le49).mono le54).mono le59).mono le64).mono le69).mono le74),((((((((show Ints _ _ _ exB.ws from D40).mono le44).mono le49).mono le54).mono le59).mono le64).mono le69).mono le74),(((((((show Wys _ _ _ exB.wy from D45).mono le49).mono le54).mono le59).mono le64).mono le69).mono le74)⟩) (by omega) (0) (((((((((N.mono le34).mono le39).mono le44).mono le49).mono le54).mono le59).mono le64).mono le69).mono le74)) (tm':=zq2 (zq32 _)) rfl ?_
 refine ro (xaq (v:=.tuple #[.agg #[.int .i64 (houseC exB (0) (-1)),.int .i64 (houseC exB (0) 1)],.int .i64 (askB exB (decide (0≤0∧0≤(exB.nH:Int)-1)))]) rfl) <| ro (xev rfl (v:=.agg #[.int .i64 (houseC exB (0) (-1)),.int .i64 (houseC exB (0) 1)]) rfl) <| rt (xev rfl (v:=.int .i64 (askB exB (decide (0≤0∧0≤(exB.nH:Int)-1)))) rfl) (tm':=zq4 (zq32 _)) rfl ?_
 refine xkx mn tZ30 rfl fun b79=>xcq (L':=([(b79,.cells #[.int .i64 0,.int .i64 0] 30 (0,0)),(b30,.cells #[.slice a62 exD.nH cp63,.slice a67 exD.nW cp68,.slice a72 exD.m cp73] 25 (0,0)),(b29,.cells #[.slice a47 exC.nH cp48,.slice a52 exC.nW cp53,.slice a57 exC.m cp58] 25 (0,0)),(b28,.cells #[.slice a32 exB.nH cp33,.slice a37 exB.nW cp38,.slice a42 exB.m cp43] 25 (0,0))]:Pcs)++(X77++[])) rfl ?_
 refine xik mn tS30 rfl (v:=.agg #[.int .i64 (houseC exB (0) (-1)),.int .i64 (houseC exB (0) 1)]) rfl (i:=0) rfl rfl rfl (Nat.le_of_ble_eq_true rfl) (cs2:=[.int .i64 (houseC exB (0) (-1)),.int .i64 (houseC exB (0) 1)]) rfl (xcq (L':=([(b79,.cells #[.int .i64 (houseC exB (0) (-1)),.int .i64 (houseC exB (0) 1)] 30 (0,0)),(b30,.cells #[.slice a62 exD.nH cp63,.slice a67 exD.nW cp68,.slice a72 exD.m cp73] 25 (0,0)),(b29,.cells #[.slice a47 exC.nH cp48,.slice a52 exC.nW cp53,.slice a57 exC.m cp58] 25 (0,0)),(b28,.cells #[.slice a32 exB.nH cp33,.slice a37 exB.nW cp38,.slice a42 exB.m cp43] 25 (0,0))]:Pcs)++(X77++[])) rfl ?_)
 refine ro (xax (v:=.int .i64 (askB exB (decide (0≤0∧0≤(exB.nH:Int)-1)))) rfl) <| ren <| xbq ?_
 refine xbx mn (fun h_ H_=>xav H_ tA25 tS25 rfl (i:=2) rfl (vs:=[.slice a47 exC.nH cp48,.slice a52 exC.nW cp53,.slice a57 exC.m cp58]) rfl rfl) (tm':=zq2 (zq4 (zq32 _))) rfl ?_
 refine xiw mn (first:=[]) (cap:=[]) rfl rfl fC25 (R:=fun v_ h_=>∃ w80:Value,∃ X81:Pcs,v_= .tuple #[w80,.int .i64 (shortE exC)]∧(OwnS 3 1 w80 (ics (shortC exC)) X81)∧St h [] p71 h_ (([(b79,.cells #[.int .i64 (houseC exB (0) (-1)),.int .i64 (houseC exB (0) 1)] 30 (0,0)),(b30,.cells #[.slice a62 exD.nH cp63,.slice a67 exD.nW cp68,.slice a72 exD.m cp73] 25 (0,0)),(b29,.cells #[.slice a47 exC.nH cp48,.slice a52 exC.nW cp53,.slice a57 exC.m cp58] 25 (0,0)),(b28,.cells #[.slice a32 exB.nH cp33,.slice a37 exB.nW cp38,.slice a42 exB.m cp43] 25 (0,0))]:Pcs)++(X81++(X77++[])))) (fun h_ H_=>(c25 md _ _ H_.pe _ _ _ _ _ _ exC (show TownP _ _ _ _ _ _ _ exC from ⟨((((((show Ints _ _ _ exC.hs from D50).mono le54).mono le59).mono le64).mono le69).mono le74),(((((show Ints _ _ _ exC.ws from D55).mono le59).mono le64).mono le69).mono le74),((((show Wys _ _ _ exC.wy from D60).mono le64).mono le69).mono le74)⟩) (by omega) (((((((((Z.mono le34).mono le39).mono le44).mono le49).mono le54).mono le59).mono le64).mono le69).mono le74)).mono fun v_ h2_ ⟨w80,X81,e_,o82,N_⟩=>⟨w80,X81,e_,o82,H_.callNA N_⟩) fun v_=>?_
 refine xgz fun w80=>xgz fun X81=>xfq fun ev_=>xfq fun o82=>?_
 have ev_:=ev_.symm;subst ev_
 refine xcq (L':=([(b79,.cells #[.int .i64 (houseC exB (0) (-1)),.int .i64 (houseC exB (0) 1)] 30 (0,0)),(b30,.cells #[.slice a62 exD.nH cp63,.slice a67 exD.nW cp68,.slice a72 exD.m cp73] 25 (0,0)),(b29,.cells #[.slice a47 exC.nH cp48,.slice a52 exC.nW cp53,.slice a57 exC.m cp58] 25 (0,0)),(b28,.cells #[.slice a32 exB.nH cp33,.slice a37 exB.nW cp38,.slice a42 exB.m cp43] 25 (0,0))]:Pcs)++(X81++(X77++[]))) rfl ?_
 refine ro (xaq (v:=.tuple #[w80,.int .i64 (shortE exC)]) rfl) <| rt (xev rfl (v:=w80) rfl) (tm':=zq8 (zq32 _)) rfl <| ro (xev rfl (v:=.int .i64 (shortE exC)) rfl) <| ro (xax (v:=w80) rfl) <| rt (xax (v:=.int .i64 (shortE exC)) rfl) (tm':=zq4 (zq8 _)) rfl <| ren ?_
 refine xbq <| rd (fun h_ H_=>xav H_ tA25 tS25 rfl (i:=2) rfl (vs:=[.slice a47 exC.nH cp48,.slice a52 exC.nW cp53,.slice a57 exC.m cp58]) rfl rfl) ?_
 refine xeq mn (first:=[]) (cap:=[]) rfl rfl fC55 (fun h_ H_=>c55 md _ _ H_.pe _ _ _ _ _ _ exC (show TownP _ _ _ _ _ _ _ exC from ⟨((((((show Ints _ _ _ exC.hs from D50).mono le54).mono le59).mono le64).mono le69).mono le74),(((((show Ints _ _ _ exC.ws from D55).mono le59).mono le64).mono le69).mono le74),((((show Wys _ _ _ exC.wy from D60).mono le64).mono le69).mono le74)⟩) (by omega) (hcD60) (1) (0) (((((((((N.mono le34).mono le39).mono le44).mono le49).mono le54).mono le59).mono le64).mono le69).mono le74)) rfl ?_
 refine rt (xaq (v:=.tuple #[.bool (wayB exC (1) (0)),.int .i64 (wayE exC (1) (0))]) rfl) (tm':=zq2 (zq8 (zq32 _))) rfl <| ro (xev rfl (v:=.bool (wayB exC (1) (0))) rfl) <| ro (xev rfl (v:=.int .i64 (wayE exC (1) (0))) rfl) <| rt (xax (v:=.bool (wayB exC (1) (0))) rfl) (tm':=zq1 (zq4 (zq8 _))) rfl <| ro (xax (v:=.int .i64 (wayE exC (1) (0))) rfl) <| ren ?_
 refine xbq <| rd (fun h_ H_=>xav H_ tA25 tS25 rfl (i:=1) rfl (vs:=[.slice a62 exD.nH cp63,.slice a67 exD.nW cp68,.slice a72 exD.m cp73]) rfl rfl) ?_
 refine xeq mn (first:=[]) (cap:=[]) rfl rfl fC20 (fun h_ H_=>c20 md _ _ H_.pe _ _ _ _ _ _ exD (show TownP _ _ _ _ _ _ _ exD from ⟨(((show Ints _ _ _ exD.hs from D65).mono le69).mono le74),((show Ints _ _ _ exD.ws from D70).mono le74),(show Wys _ _ _ exD.wy from D75)⟩) (by omega) (0) (((((((((N.mono le34).mono le39).mono le44).mono le49).mono le54).mono le59).mono le64).mono le69).mono le74)) (tm':=zq1 (zq16 (zq32 _))) rfl ?_
 refine ro (xaq (v:=.tuple #[.int .i64 (dryC exD (0)),.int .i64 (askB exD (decide (0≤0∧0≤(exD.nW:Int)-1)))]) rfl) <| ro (xev rfl (v:=.int .i64 (dryC exD (0))) rfl) <| rt (xev rfl (v:=.int .i64 (askB exD (decide (0≤0∧0≤(exD.nW:Int)-1)))) rfl) (tm':=zq1 (zq2 (zq16 (zq32 _)))) rfl <| ro (xax (v:=.int .i64 (dryC exD (0))) rfl) <| ro (xax (v:=.int .i64 (askB exD (decide (0≤0∧0≤(exD.nW:Int)-1)))) rfl) <| ren ?_
 refine xbq <| rt (xaq (v:=.int .i64 (chkB exB)) rfl) (tm':=zq4 (zq16 (zq32 _))) rfl <| ro (xkw rfl rfl) <| ro (xaq (v:=.bool (decide (chkB exB=0))) rfl) ?_
 refine xbx (ms rfl rfl (decide_eq_true yhw)) (fun h_ H_=>xaq (v:=.int .i64 (chkB exB)) rfl) (tm':=zq1 (zq2 (zq4 (zq16 (zq32 _))))) rfl ?_
 refine xbx (ms rfl rfl (decide_eq_true yhw)) (fun h_ H_=>xkw rfl rfl) rfl ?_
 refine ro (xdz rfl (decide_eq_true yhw) (v:=.bool (decide (chkB exB=0))) rfl) <| rt (xaq (v:=.bool (decide (chkB exB=0))) rfl) (tm':=zq2 (zq8 (zq16 (zq32 _)))) rfl ?_
 refine xbx (ms rfl rfl (decide_eq_true yhw)) (fun h_ H_=>xaq (v:=.int .i64 (askB exB (decide (0≤0∧0≤(exB.nH:Int)-1)))) rfl) rfl ?_
 refine xbx (ms rfl rfl (decide_eq_true yhw)) (fun h_ H_=>xkw rfl rfl) rfl ?_
 refine rt (xdz rfl (decide_eq_true yhw) (v:=.bool (decide (askB exB (decide (0≤0∧0≤(exB.nH:Int)-1))=0))) rfl) (tm':=zq1 (zq4 (zq8 (zq16 (zq32 _))))) rfl <| ro (xaq (v:=.bool (decide (askB exB (decide (0≤0∧0≤(exB.nH:Int)-1))=0))) rfl) ?_
 refine xbx (ms rfl rfl (decide_eq_true askB_)) (fun h_ H_=>xaq (v:=.int .i64 (shortE exC)) rfl) rfl ?_
 refine xbx (ms rfl rfl (decide_eq_true askB_)) (fun h_ H_=>xkw rfl rfl) (tm':=zq32 (zq32 _)) rfl ?_
 refine ro (xdz rfl (decide_eq_true askB_) (v:=.bool (decide (shortE exC=0))) rfl) <| ro (xaq (v:=.bool (decide (shortE exC=0))) rfl) ?_
 refine xbx (ms rfl rfl (decide_eq_true shoE_)) (fun h_ H_=>xaq (v:=.int .i64 (wayE exC (1) (0))) rfl) (tm':=zq1 (zq2 (zq32 (zq32 (zq32 []))))) rfl ?_
 refine xbx (ms rfl rfl (decide_eq_true shoE_)) (fun h_ H_=>xkw rfl rfl) rfl ?_
 refine ro (xdz rfl (decide_eq_true shoE_) (v:=.bool (decide (wayE exC (1) (0)=0))) rfl) <| rt (xaq (v:=.bool (decide (wayE exC (1) (0)=0))) rfl) (tm':=zq1 (zq2 (zq32 (zq32 (zq32 []))))) rfl ?_
 refine xbx (ms rfl rfl (decide_eq_true wayE_)) (fun h_ H_=>xaq (v:=.int .i64 (askB exD (decide (0≤0∧0≤(exD.nW:Int)-1)))) rfl) rfl ?_
 refine xbx (ms rfl rfl (decide_eq_true wayE_)) (fun h_ H_=>xkw rfl rfl) rfl ?_
 refine rt (xdz rfl (decide_eq_true wayE_) (v:=.bool (decide (askB exD (decide (0≤0∧0≤(exD.nW:Int)-1))=0))) rfl) (tm':=zq1 (zq2 (zq32 (zq32 (zq32 []))))) rfl <| ro (xaq (v:=.bool (decide (askB exD (decide (0≤0∧0≤(exD.nW:Int)-1))=0))) rfl) ?_
 refine xbx (ms rfl rfl (decide_eq_true askD_)) (fun h_ H_=>xaq (v:=.int .i64 (mostC exB)) rfl) rfl ?_
 refine xbx (ms rfl rfl (decide_eq_true askD_)) (fun h_ H_=>xkw rfl rfl) (tm':=zq1 (zq2 (zq32 (zq32 (zq32 []))))) rfl ?_
 refine ro (xdz rfl (decide_eq_true askD_) (v:=.bool (decide (mostC exB=7))) rfl) <| ro (xaq (v:=.bool (decide (mostC exB=7))) rfl) ?_
 refine xbx (ms rfl rfl (decide_eq_true mostB_)) (fun h_ H_=>xaq (v:=w76) rfl) (tm':=zq1 (zq2 (zq32 (zq32 (zq32 []))))) rfl ?_
 refine xjz ([(b79,.cells #[.int .i64 (houseC exB (0) (-1)),.int .i64 (houseC exB (0) 1)] 30 (0,0)),(b30,.cells #[.slice a62 exD.nH cp63,.slice a67 exD.nW cp68,.slice a72 exD.m cp73] 25 (0,0)),(b29,.cells #[.slice a47 exC.nH cp48,.slice a52 exC.nW cp53,.slice a57 exC.m cp58] 25 (0,0)),(b28,.cells #[.slice a32 exB.nH cp33,.slice a37 exB.nW cp38,.slice a42 exB.m cp43] 25 (0,0))]:Pcs) (ms rfl rfl (decide_eq_true mostB_)) Tryd.underlying22 tS3 tZ3 (Nat.le_of_ble_eq_true rfl) (vs:=[(0,.int .i64 2),(1,.int .i64 2),(2,.int .i64 1)]) rfl rfl (es:=[[.int .i64 2],[.int .i64 2],[.int .i64 1]]) rfl rfl rfl fun v83 X84 o85=>?_
 refine xjj (List.Perm.append_left _ (List.Perm.append_left _ (List.perm_append_comm_assoc _ _ _))) ?_
 refine xjj (List.Perm.append_left _ (List.perm_append_comm_assoc _ _ _)) ?_
 refine xcq (L':=([(b79,.cells #[.int .i64 (houseC exB (0) (-1)),.int .i64 (houseC exB (0) 1)] 30 (0,0)),(b30,.cells #[.slice a62 exD.nH cp63,.slice a67 exD.nW cp68,.slice a72 exD.m cp73] 25 (0,0)),(b29,.cells #[.slice a47 exC.nH cp48,.slice a52 exC.nW cp53,.slice a57 exC.m cp58] 25 (0,0)),(b28,.cells #[.slice a32 exB.nH cp33,.slice a37 exB.nW cp38,.slice a42 exB.m cp43] 25 (0,0))]:Pcs)++(X77++(X84++(X81++[])))) rfl ?_
 refine xxq (A:=([(b79,.cells #[.int .i64 (houseC exB (0) (-1)),.int .i64 (houseC exB (0) 1)] 30 (0,0)),(b30,.cells #[.slice a62 exD.nH cp63,.slice a67 exD.nW cp68,.slice a72 exD.m cp73] 25 (0,0)),(b29,.cells #[.slice a47 exC.nH cp48,.slice a52 exC.nW cp53,.slice a57 exC.m cp58] 25 (0,0)),(b28,.cells #[.slice a32 exB.nH cp33,.slice a37 exB.nW cp38,.slice a42 exB.m cp43] 25 (0,0))]:Pcs)) o78 ((xcw _).trans rfl) fun p86 a87 cp88 le89 ev_ D90=>?_
 subst ev_
 refine xxq (A:=([(b79,.cells #[.int .i64 (houseC exB (0) (-1)),.int .i64 (houseC exB (0) 1)] 30 (0,0)),(b30,.cells #[.slice a62 exD.nH cp63,.slice a67 exD.nW cp68,.slice a72 exD.m cp73] 25 (0,0)),(b29,.cells #[.slice a47 exC.nH cp48,.slice a52 exC.nW cp53,.slice a57 exC.m cp58] 25 (0,0)),(b28,.cells #[.slice a32 exB.nH cp33,.slice a37 exB.nW cp38,.slice a42 exB.m cp43] 25 (0,0))]:Pcs)) o85 (show _=3 from rfl) fun p91 a92 cp93 le94 ev_ D95=>?_
 subst ev_
 refine xeq (ms rfl rfl (decide_eq_true mostB_)) (first:=[]) (cap:=[]) rfl rfl fC27 (fun h_ H_=>c27 md _ _ H_.pe _ _ _ _ _ _ _ _ ((show Ints _ _ _ (LKc exB) from D90).mono le94) (show Ints _ _ _ [2,2,1] from D95) (by omega)) rfl ?_
 refine rt (xdz rfl (decide_eq_true mostB_) (v:=.bool (decide ((LKc exB)=[2,2,1]))) rfl) (tm':=zq1 (zq2 (zq32 (zq32 (zq32 []))))) rfl <| ro (xaq (v:=.bool (decide ((LKc exB)=[2,2,1]))) rfl) ?_
 refine xbx (ms rfl rfl (decide_eq_true lkB_)) (fun h_ H_=>xav H_ tA30 tS30 rfl (i:=0) rfl (vs:=[.int .i64 (houseC exB (0) (-1)),.int .i64 (houseC exB (0) 1)]) rfl rfl) rfl ?_
 refine xbx (ms rfl rfl (decide_eq_true lkB_)) (fun h_ H_=>xiq tZ30 tP30 (vs:=[(0,.int .i64 3),(1,.int .i64 4)]) rfl (cells:=#[.int .i64 3,.int .i64 4]) rfl) (tm':=zq1 (zq2 (zq32 (zq32 (zq32 []))))) rfl ?_
 refine xbx (ms rfl rfl (decide_eq_true lkB_)) (fun h_ H_=>yrw gT30 (vej 9998 _ _ _ _) rfl rfl) rfl ?_
 refine ro (xdz rfl (decide_eq_true lkB_) (v:=.bool (decide (houseC exB (0) (-1)=3∧houseC exB (0) 1=4))) rfl) <| rt (xaq (v:=.bool (decide (houseC exB (0) (-1)=3∧houseC exB (0) 1=4))) rfl) (tm':=zq1 (zq2 (zq32 (zq32 (zq32 []))))) rfl ?_
 refine xbx (ms rfl rfl (decide_eq_true ⟨houB1_,houB2_⟩)) (fun h_ H_=>xaq (v:=w80) rfl) rfl ?_
 refine xjz ([(b79,.cells #[.int .i64 (houseC exB (0) (-1)),.int .i64 (houseC exB (0) 1)] 30 (0,0)),(b30,.cells #[.slice a62 exD.nH cp63,.slice a67 exD.nW cp68,.slice a72 exD.m cp73] 25 (0,0)),(b29,.cells #[.slice a47 exC.nH cp48,.slice a52 exC.nW cp53,.slice a57 exC.m cp58] 25 (0,0)),(b28,.cells #[.slice a32 exB.nH cp33,.slice a37 exB.nW cp38,.slice a42 exB.m cp43] 25 (0,0))]:Pcs) (ms rfl rfl (decide_eq_true ⟨houB1_,houB2_⟩)) Tryd.underlying22 tS3 tZ3 (Nat.le_of_ble_eq_true rfl) (vs:=[(0,.int .i64 1)]) rfl rfl (es:=[[.int .i64 1]]) rfl rfl rfl fun v96 X97 o98=>?_
 refine xjj (List.Perm.append_left _ (List.perm_append_comm_assoc _ _ _)) ?_
 refine xcq (L':=([(b79,.cells #[.int .i64 (houseC exB (0) (-1)),.int .i64 (houseC exB (0) 1)] 30 (0,0)),(b30,.cells #[.slice a62 exD.nH cp63,.slice a67 exD.nW cp68,.slice a72 exD.m cp73] 25 (0,0)),(b29,.cells #[.slice a47 exC.nH cp48,.slice a52 exC.nW cp53,.slice a57 exC.m cp58] 25 (0,0)),(b28,.cells #[.slice a32 exB.nH cp33,.slice a37 exB.nW cp38,.slice a42 exB.m cp43] 25 (0,0))]:Pcs)++(X81++(X97++[]))) rfl ?_
 refine xxq (A:=([(b79,.cells #[.int .i64 (houseC exB (0) (-1)),.int .i64 (houseC exB (0) 1)] 30 (0,0)),(b30,.cells #[.slice a62 exD.nH cp63,.slice a67 exD.nW cp68,.slice a72 exD.m cp73] 25 (0,0)),(b29,.cells #[.slice a47 exC.nH cp48,.slice a52 exC.nW cp53,.slice a57 exC.m cp58] 25 (0,0)),(b28,.cells #[.slice a32 exB.nH cp33,.slice a37 exB.nW cp38,.slice a42 exB.m cp43] 25 (0,0))]:Pcs)) o82 ((xcw _).trans rfl) fun p99 a100 cp101 le102 ev_ D103=>?_
 subst ev_
 refine xxq (A:=([(b79,.cells #[.int .i64 (houseC exB (0) (-1)),.int .i64 (houseC exB (0) 1)] 30 (0,0)),(b30,.cells #[.slice a62 exD.nH cp63,.slice a67 exD.nW cp68,.slice a72 exD.m cp73] 25 (0,0)),(b29,.cells #[.slice a47 exC.nH cp48,.slice a52 exC.nW cp53,.slice a57 exC.m cp58] 25 (0,0)),(b28,.cells #[.slice a32 exB.nH cp33,.slice a37 exB.nW cp38,.slice a42 exB.m cp43] 25 (0,0))]:Pcs)) o98 (show _=1 from rfl) fun p104 a105 cp106 le107 ev_ D108=>?_
 subst ev_
 refine xcq (L':=[(b79,.cells #[.int .i64 (houseC exB (0) (-1)),.int .i64 (houseC exB (0) 1)] 30 (0,0)),(b30,.cells #[.slice a62 exD.nH cp63,.slice a67 exD.nW cp68,.slice a72 exD.m cp73] 25 (0,0)),(b29,.cells #[.slice a47 exC.nH cp48,.slice a52 exC.nW cp53,.slice a57 exC.m cp58] 25 (0,0)),(b28,.cells #[.slice a32 exB.nH cp33,.slice a37 exB.nW cp38,.slice a42 exB.m cp43] 25 (0,0))]) rfl ?_
 refine xeq (ms rfl rfl (decide_eq_true ⟨houB1_,houB2_⟩)) (first:=[]) (cap:=[]) rfl rfl fC27 (fun h_ H_=>c27 md _ _ H_.pe _ _ _ _ _ _ _ _ ((show Ints _ _ _ (shortC exC) from D103).mono le107) (show Ints _ _ _ [1] from D108) (by omega)) (tm':=zq1 (zq2 (zq32 (zq32 (zq32 []))))) rfl ?_
 refine ro (xdz rfl (decide_eq_true ⟨houB1_,houB2_⟩) (v:=.bool (decide ((shortC exC)=[1]))) rfl) <| ro (xaq (v:=.bool (decide ((shortC exC)=[1]))) rfl) ?_
 refine xbx (ms rfl rfl (decide_eq_true shoC_)) (fun h_ H_=>xaq (v:=.bool (wayB exC (1) (0))) rfl) (tm':=zq1 (zq2 (zq32 (zq32 (zq32 []))))) rfl ?_
 refine ro (xdz rfl (decide_eq_true shoC_) (v:=.bool (wayB exC (1) (0))) rfl) <| ro (xaq (v:=.bool (wayB exC (1) (0))) rfl) ?_
 refine xbx (ms rfl rfl wayB__) (fun h_ H_=>xaq (v:=.int .i64 (dryC exD (0))) rfl) (tm':=zq1 (zq2 (zq32 (zq32 (zq32 []))))) rfl ?_
 refine xbx (ms rfl rfl wayB__) (fun h_ H_=>xkw rfl rfl) rfl ?_
 refine ro (xdz rfl wayB__ (v:=.bool (decide (dryC exD (0)=3))) rfl) <| rt (xax (v:=.bool (decide (dryC exD (0)=3))) rfl) (tm':=_::_) rfl <| xak ?_
 refine xdv Tryd.func16 rfl (vs:=[.bool (decide (dryC exD (0)=3))]) (fun h_ H_=>⟨.bool (decide (dryC exD (0)=3)),_,rfl,rfl,rfl⟩) (v:=.bool (decide (dryC exD (0)=3))) rfl ?_
 exact fun h_ H_=>K _ _ ⟨congrArg Value.bool (decide_eq_true dryD_),H_.kept⟩
end Go.Proofs.YtalfgojocdonhaaDoor
namespace Go.Proofs.YtalfgojocdonhaaDoor
open Go.X Go.X.Flow Go.Conc
set_option maxRecDepth 10000
set_option synthInstance.maxSize 2000

set_option maxHeartbeats 2000000
theorem cb46 (md:Md) (h:Heap) (p:PHeap) (hp:Per p h) (a1 a2 a3:Option Addr) (c1 c2 c3:Nat) (t:Tn) (_T:TownP p a1 t.nH a2 t.nW a3 t.m t) (hl:t.nH≤9223372036854775807∧t.nW≤9223372036854775807∧t.m≤9223372036854775807):CallsX Tryd.prog md 46 #[.agg #[.slice a1 t.nH c1,.slice a2 t.nW c2,.slice a3 t.m c3]] h fun v h'=>v= .bool (decide (Big t))∧Keep h h':=by
 refine xcx (Φ:=fun h_=>St h [] p h_ []) Tryd.func46 rfl (tm:=zq1 (zq2 (zq16 []))) rfl ?_ (St.start h _ hp)
 intro c₀ cs Stop K
 refine fsr ?_
 refine xij mn (v:=.agg #[.slice a1 t.nH c1,.slice a2 t.nW c2,.slice a3 t.m c3]) rfl fun b1=>xcq (L':=[(b1,.cells #[.slice a1 t.nH c1,.slice a2 t.nW c2,.slice a3 t.m c3] 25 (0,0))]) rfl ?_
 refine ro (xax (v:=.bool (false)) rfl) <| ren <| xbq <| rt (xaz xnx rfl (a':=⟨b1,0,none⟩) rfl) (tm':=zq4 _) rfl <| rd (fun h_ H_=>xaj H_ tA22 rfl (i:=0) rfl (v:=.slice a1 t.nH c1) rfl) <| ro (xfz Tryd.underlying22 rfl) ?_
 refine rt (xkq rfl rfl) (tm':=zq1 (zq2 (zq4 _))) rfl <| ro (xaq (v:=.bool (decide (40<((t.nH:Nat):Int)))) rfl) ?_
 by_cases cc2:40<((t.nH:Nat):Int)
 ·
  refine rp (mo rfl rfl (dtt cc2)) <| xfx (mo rfl rfl (dtt cc2)) (tm':=zq2 (zq8 _)) rfl <| rp (mo rfl rfl (dtt cc2)) <| rp (mo rfl rfl (dtt cc2)) <| rt (xdz rfl (dtt cc2) (v:=.bool (true)) rfl) (tm':=zq1 (zq2 (zq16 []))) rfl <| ro (xaq (v:=.bool (true)) rfl) ?_
  refine rp (mo rfl rfl rfl) <| xfx (mo rfl rfl rfl) (tm':=zq1 (zq2 (zq16 []))) rfl <| rp (mo rfl rfl rfl) <| rp (mo rfl rfl rfl) <| rt (xdz rfl rfl (v:=.bool (true)) rfl) (tm':=zq1 (zq2 (zq16 []))) rfl <| ro (xax (v:=.bool (true)) rfl) ?_
  refine xak ?_
  refine xdv Tryd.func46 rfl (vs:=[.bool (true)]) (fun h_ H_=>⟨.bool (true),_,rfl,rfl,rfl⟩) (v:=.bool (true)) rfl ?_
  exact fun h_ H_=>K _ _ ⟨by congr 1;rw [Bool.eq_iff_iff,decide_eq_true_eq];first | (simp;omega) | (simp [*];done) | (simp [*];omega),H_.kept⟩
 ·
  refine xbx (ms rfl rfl (dff cc2)) (fun h_ H_=>xaz xnk rfl (a':=⟨b1,1,none⟩) rfl) rfl ?_
  refine xbx (ms rfl rfl (dff cc2)) (fun h_ H_=>xaj H_ tA22 rfl (i:=0) rfl (v:=.slice a2 t.nW c2) rfl) (tm':=zq2 (zq8 _)) rfl ?_
  refine xbx (ms rfl rfl (dff cc2)) (fun h_ H_=>xfz Tryd.underlying22 rfl) rfl ?_
  refine xbx (ms rfl rfl (dff cc2)) (fun h_ H_=>xkq rfl rfl) rfl ?_
  refine rt (xej rfl (dff cc2) (v:=.bool (decide (40<((t.nW:Nat):Int)))) rfl) (tm':=zq1 (zq2 (zq16 []))) rfl <| ro (xaq (v:=.bool (decide (40<((t.nW:Nat):Int)))) rfl) ?_
  by_cases cc3:40<((t.nW:Nat):Int)
  ·
   refine rp (mo rfl rfl (dtt cc3)) <| xfx (mo rfl rfl (dtt cc3)) (tm':=zq1 (zq2 (zq16 []))) rfl <| rp (mo rfl rfl (dtt cc3)) <| rp (mo rfl rfl (dtt cc3)) <| rt (xdz rfl (dtt cc3) (v:=.bool (true)) rfl) (tm':=zq1 (zq2 (zq16 []))) rfl <| ro (xax (v:=.bool (true)) rfl) ?_
   refine xak ?_
   refine xdv Tryd.func46 rfl (vs:=[.bool (true)]) (fun h_ H_=>⟨.bool (true),_,rfl,rfl,rfl⟩) (v:=.bool (true)) rfl ?_
   exact fun h_ H_=>K _ _ ⟨by congr 1;rw [Bool.eq_iff_iff,decide_eq_true_eq];first | (simp;omega) | (simp [*];done) | (simp [*];omega),H_.kept⟩
  ·
   refine xbx (ms rfl rfl (dff cc3)) (fun h_ H_=>xaz xhj rfl (a':=⟨b1,2,none⟩) rfl) rfl ?_
   refine xbx (ms rfl rfl (dff cc3)) (fun h_ H_=>xaj H_ tA23 rfl (i:=0) rfl (v:=.slice a3 t.m c3) rfl) (tm':=zq1 (zq2 (zq16 []))) rfl ?_
   refine xbx (ms rfl rfl (dff cc3)) (fun h_ H_=>xfz Tryd.underlying23 rfl) rfl ?_
   refine xbx (ms rfl rfl (dff cc3)) (fun h_ H_=>xkq rfl rfl) rfl ?_
   refine rt (xej rfl (dff cc3) (v:=.bool (decide (40<((t.m:Nat):Int)))) rfl) (tm':=zq1 (zq2 (zq16 []))) rfl <| ro (xax (v:=.bool (decide (40<((t.m:Nat):Int)))) rfl) <| xak ?_
   refine xdv Tryd.func46 rfl (vs:=[.bool (decide (40<((t.m:Nat):Int)))]) (fun h_ H_=>⟨.bool (decide (40<((t.m:Nat):Int))),_,rfl,rfl,rfl⟩) (v:=.bool (decide (40<((t.m:Nat):Int)))) rfl ?_
   exact fun h_ H_=>K _ _ ⟨by congr 1;rw [Bool.eq_iff_iff,decide_eq_true_eq];first | (simp;omega) | (simp [*];done) | (simp [*];omega),H_.kept⟩
theorem c15 (md:Md) (h:Heap) (p:PHeap) (hp:Per p h) (a1 a2 a3:Option Addr) (c1 c2 c3:Nat) (t:Tn) (T:TownP p a1 t.nH a2 t.nW a3 t.m t) (hl:t.nH≤9223372036854775807∧t.nW≤9223372036854775807∧t.m≤9223372036854775807):CallsX Tryd.prog md 15 #[.agg #[.slice a1 t.nH c1,.slice a2 t.nW c2,.slice a3 t.m c3]] h fun v h'=>v= .bool (farB t)∧Keep h h':=by
 refine xcx (Φ:=fun h_=>St h [] p h_ []) Tryd.func15 rfl (tm:=zq1 (zq2 (zq8 (zq32 [])))) rfl ?_ (St.start h _ hp)
 intro c₀ cs Stop K
 refine fsr ?_
 refine xij mn (v:=.agg #[.slice a1 t.nH c1,.slice a2 t.nW c2,.slice a3 t.m c3]) rfl fun b1=>xcq (L':=[(b1,.cells #[.slice a1 t.nH c1,.slice a2 t.nW c2,.slice a3 t.m c3] 25 (0,0))]) rfl ?_
 refine rt (xax (v:=.bool (false)) rfl) (tm':=_::_::_::_) rfl <| ren <| fsr <| rd (fun h_ H_=>xav H_ tA25 tS25 rfl (i:=0) rfl (vs:=[.slice a1 t.nH c1,.slice a2 t.nW c2,.slice a3 t.m c3]) rfl rfl) ?_
 refine xeq mn (first:=[]) (cap:=[]) rfl rfl fC46 (fun h_ H_=>cb46 md _ _ H_.pe _ _ _ _ _ _ t (show TownP _ _ _ _ _ _ _ t from ⟨T.h,T.w,T.y⟩) hl) rfl ?_
 refine xak ?_
 by_cases cc2:Big t
 ·
  refine xdx rfl (dtt cc2) <| fsr <| rt (xax (v:=.bool (true)) rfl) (tm':=_::_::_::_) rfl <| xak ?_
  refine xdv Tryd.func15 rfl (vs:=[.bool (true)]) (fun h_ H_=>⟨.bool (true),_,rfl,rfl,rfl⟩) (v:=.bool (true)) rfl ?_
  exact fun h_ H_=>K _ _ ⟨by rw [ztx ‹_›],H_.kept⟩
 ·
  refine xck rfl (dff cc2) <| xcv <| xez <| xez ?_
  have hn:t.nH≤40∧t.nW≤40∧t.m≤41:=by have z_:=‹¬ Big t›;unfold Big at z_;omega
  refine xbq <| rd (fun h_ H_=>xav H_ tA25 tS25 rfl (i:=0) rfl (vs:=[.slice a1 t.nH c1,.slice a2 t.nW c2,.slice a3 t.m c3]) rfl rfl) ?_
  refine xeq mn (first:=[]) (cap:=[]) rfl rfl fC48 (fun h_ H_=>c48 md _ _ H_.pe _ _ _ _ _ _ _ _ _ t (show TownP _ _ _ _ _ _ _ t from ⟨T.h,T.w,T.y⟩) (by omega)) rfl ?_
  refine rt (xmk rfl rfl) (tm':=zq2 (zq8 _)) rfl <| xak ?_
  by_cases cc3:chkB t≠0
  ·
   refine xdx rfl (dtt cc3) <| fsr <| ro (xax (v:=.bool (false)) rfl) <| xak ?_
   refine xdv Tryd.func15 rfl (vs:=[.bool (false)]) (fun h_ H_=>⟨.bool (false),_,rfl,rfl,rfl⟩) (v:=.bool (false)) rfl ?_
   exact fun h_ H_=>K _ _ ⟨by rw [wrw ‹_› ‹_›],H_.kept⟩
  ·
   refine xck rfl (dff cc3) <| xcv <| xez ?_
   have hc_:chkB t=0:=by omega
   have hO:OkT t:=xuz hc_
   have oM_:=hO.nm
   refine xbq <| ro (xax (v:=.int .i64 1) rfl) <| ren <| fsr <| rt (xax (v:=.int .i64 0) rfl) (tm':=zq1 (zq4 _)) rfl <| xak ?_
   refine xdj ?_
   refine xhk (m₀:=t.m-0) (fun m_ tm_ h_=>∃ (k:Nat) (s:Int),m_=t.m-k∧(∃ y4:Nat→Value,tm_=[.agg #[.slice a1 t.nH c1,.slice a2 t.nW c2,.slice a3 t.m c3],.pointer (some ⟨b1,0,none⟩),(y4 2),.int .i64 (s),.int .i64 (((k:Nat):Int)),.agg #[.slice a1 t.nH c1,.slice a2 t.nW c2,.slice a3 t.m c3],.bool (decide (Big t)),.agg #[.slice a1 t.nH c1,.slice a2 t.nW c2,.slice a3 t.m c3],.int .i64 (chkB t),.bool (decide (chkB t≠0)),(y4 10),(y4 11),(y4 12),(y4 13),(y4 14),(y4 15),(y4 16),(y4 17),(y4 18),(y4 19),(y4 20),(y4 21),(y4 22),(y4 23),(y4 24),(y4 25),(y4 26),(y4 27),(y4 28),(y4 29),(y4 30),(y4 31),(y4 32),(y4 33),(y4 34),(y4 35),(y4 36),(y4 37),(y4 38),(y4 39),(y4 40),(y4 41),(y4 42)])∧(k≤t.m)∧(s=prodK t k)∧(s≤2000)∧St h [] p h_ ([(b1,.cells #[.slice a1 t.nH c1,.slice a2 t.nW c2,.slice a3 t.m c3] 25 (0,0))])) (fun h_ H_=>⟨0,1,rfl,(y_of rfl),Nat.zero_le _,rfl,(by decide),H_⟩) ?_
   intro m_ tm_ IH5
   refine xhq fun k=>xhq fun s=>xcz fun hm_=>xcz fun ht_=>xcz fun hk=>xcz fun hs=>xcz fun h2=>?_
   subst hm_;obtain ⟨y4,ht_⟩:=ht_;subst ht_
   have hy_:=fun z_:k<t.m=>hO.y k z_
   have hp_:1≤s:=by rw [hs];exact yqz hO.toOk k hk
   refine xez <| fsr <| ro (xaq (v:=.int .i64 (((k:Nat):Int))) rfl) <| ro (xaz xhj rfl (a':=⟨b1,2,none⟩) rfl) ?_
   refine xbx mn (fun h_ H_=>xaj H_ tA23 rfl (i:=0) rfl (v:=.slice a3 t.m c3) rfl) (tm':=zq1 (zq4 (zq8 _))) rfl ?_
   refine ro (xfz Tryd.underlying23 rfl) <| ro (xgj rfl rfl) <| xak ?_
   by_cases cc6:((k:Nat):Int)<((t.m:Nat):Int)
   ·
    refine xdx rfl (dtt cc6) <| xcv <| xez <| xdj <| xez ?_
    refine xgx 23 [[],[],[1],[],[3],[],[3,4,5],[3,4,5,6],[3,4,5,6,7],[1,2,3,4,5,6,7,8],[1,2,3,4,5,6,7,8,9],[],[11],[],[13],[],[13,14,15],[13,14,15,16],[13,14,15,16,17],[11,12,13,14,15,16,17,18],[11,12,13,14,15,16,17,18,19],[1,2,3,4,5,6,7,8,9,10,11,12,13,14,15,16,17,18,19,20],[1,2,3,4,5,6,7,8,9,10,11,12,13,14,15,16,17,18,19,20,21],[],[]] xkk (by kernel_rfl) (Nat.le_of_ble_eq_true rfl) ?_
    refine wt (xaq (v:=.int .i64 (s)) rfl) (tm':=zq2 (zq16 _)) rfl <| wo (xaz xnx rfl (a':=⟨b1,0,none⟩) rfl) ?_
    refine xbk mn (fun h_ H_=>xaj H_ tA22 rfl (i:=0) rfl (v:=.slice a1 t.nH c1) rfl) (tm':=zq4 (zq16 _)) rfl ?_
    refine wo (xaz xhj rfl (a':=⟨b1,2,none⟩) rfl) ?_
    refine xbk mn (fun h_ H_=>xaj H_ tA23 rfl (i:=0) rfl (v:=.slice a3 t.m c3) rfl) (tm':=zq2 (zq4 (zq16 _))) rfl ?_
    refine wo (xaq (v:=.int .i64 (((k:Nat):Int))) rfl) ?_
    refine wt (xbw (i:=k) Tryd.underlying23 tS43 (xjq a3 t.m c3 (T.y.ne (by omega))) rfl (by omega)) (tm':=zq8 (zq16 _)) rfl ?_
    refine wo (xaz xoj rfl (a':=(adr a3).add (k*2)) rfl) ?_
    refine xbk mn (fun h_ H_=>xbj H_ tA3 rfl (v:=.int .i64 (((t.wh k:Nat):Int))) (T.y.hoN (by omega) (hO.yp _ (by omega)).1)) (tm':=zq2 (zq8 (zq16 _))) rfl ?_
    refine wo (xbw (i:=(t.wh k)) Tryd.underlying22 tS3 (xjq a1 t.nH c1 (T.h.ne (by omega))) rfl (by omega)) ?_
    refine xbk mn (fun h_ H_=>xbj H_ tA3 rfl (v:=.int .i64 (t.hv (t.wh k))) (T.h.get (by omega))) (tm':=zq4 (zq8 (zq16 _))) rfl ?_
    refine wo (xaz xnk rfl (a':=⟨b1,1,none⟩) rfl) ?_
    refine xbk mn (fun h_ H_=>xaj H_ tA22 rfl (i:=0) rfl (v:=.slice a2 t.nW c2) rfl) (tm':=zq1 (zq2 (zq8 (zq32 [])))) rfl ?_
    refine wo (xaz xhj rfl (a':=⟨b1,2,none⟩) rfl) ?_
    refine xbk mn (fun h_ H_=>xaj H_ tA23 rfl (i:=0) rfl (v:=.slice a3 t.m c3) rfl) (tm':=zq1 (zq2 (zq8 (zq32 [])))) rfl ?_
    refine wo (xaq (v:=.int .i64 (((k:Nat):Int))) rfl) ?_
    refine wt (xbw (i:=k) Tryd.underlying23 tS43 (xjq a3 t.m c3 (T.y.ne (by omega))) rfl (by omega)) (tm':=zq1 (zq2 (zq8 (zq32 [])))) rfl ?_
    refine wo (xaz xqv rfl (a':=((adr a3).add (k*2)).add 1) rfl) ?_
    refine xbk mn (fun h_ H_=>xbj H_ tA3 rfl (v:=.int .i64 (((t.ww k:Nat):Int))) (T.y.weN (by omega) (hO.yp _ (by omega)).2)) (tm':=zq1 (zq2 (zq8 (zq32 [])))) rfl ?_
    refine wo (xbw (i:=(t.ww k)) Tryd.underlying22 tS3 (xjq a2 t.nW c2 (T.w.ne (by omega))) rfl (by omega)) ?_
    refine xbk mn (fun h_ H_=>xbj H_ tA3 rfl (v:=.int .i64 (t.wv (t.ww k))) (T.w.get (by omega))) (tm':=zq1 (zq2 (zq8 (zq32 [])))) rfl ?_
    refine wo (zaj rfl rfl) ?_
    refine wt (xek rfl rfl (wr (by have z1_:=hy_ (by omega);have z2_:=hO.h _ z1_.1;have z3_:=hO.w _ z1_.2;omega))) (tm':=zq1 (zq2 (zq8 (zq32 [])))) rfl ?_
    refine xiz rfl ?_
    refine ro (yrj rfl rfl (wr (by have z1_:=hy_ (by omega);have z2_:=hO.h _ z1_.1;have z3_:=hO.w _ z1_.2;have z4_:0≤min (t.hv (t.wh k)) (t.wv (t.ww k))+1∧min (t.hv (t.wh k)) (t.wv (t.ww k))+1≤10:=(by omega);have z5_:=Int.mul_le_mul (show s≤2000 by omega) z4_.2 z4_.1 (by decide);have z6_:=Int.mul_nonneg (show 0≤s by omega) z4_.1;omega))) ?_
    refine rt (xax (v:=.int .i64 (s*((min (t.hv (t.wh k)) (t.wv (t.ww k)))+1))) rfl) (tm':=zq4 _) rfl <| ren <| xbq <| ro (xaq (v:=.int .i64 (s*((min (t.hv (t.wh k)) (t.wv (t.ww k)))+1))) rfl) <| ro (xkq rfl rfl) <| xak ?_
    by_cases cc7:2000<s*((min (t.hv (t.wh k)) (t.wv (t.ww k)))+1)
    ·
     refine xdx rfl (dtt cc7) <| fsr <| rt (xax (v:=.bool (true)) rfl) (tm':=_::_::_::_) rfl <| xak ?_
     refine xdv Tryd.func15 rfl (vs:=[.bool (true)]) (fun h_ H_=>⟨.bool (true),_,rfl,rfl,rfl⟩) (v:=.bool (true)) rfl ?_
     exact fun h_ H_=>K _ _ ⟨by rw [wrv hO.toOk hc_ (k:=k+1) (by omega) (by rw [prodK,← hs];unfold fac;assumption)],H_.kept⟩
    ·
     refine xck rfl (dff cc7) <| xcv <| xdq <| xbq <| ro (xaq (v:=.int .i64 (((k:Nat):Int))) rfl) ?_
     refine ro (xek rfl rfl (n:=((k+1:Nat):Int)) (wr (by omega))) ?_
     refine rt (xax (v:=.int .i64 (((k+1:Nat):Int))) rfl) (tm':=zq1 (zq4 _)) rfl <| xak ?_
     exact fun h_ H_=>IH5 _ _ (by omega) h_ ⟨k+1,s*((min (t.hv (t.wh k)) (t.wv (t.ww k)))+1),rfl,(y_of rfl),(by omega),(by rw [hs,prodK];rfl),(by omega),H_⟩
   ·
    refine xck rfl (dff cc6) <| xhz rfl <| fsr <| ro (xax (v:=.bool (false)) rfl) <| xak ?_
    refine xdv Tryd.func15 rfl (vs:=[.bool (false)]) (fun h_ H_=>⟨.bool (false),_,rfl,rfl,rfl⟩) (v:=.bool (false)) rfl ?_
    have e_:k=t.m:=by omega
    have z_: ¬ 2000<prodK t t.m:=by rw [← e_,← hs];omega
    exact fun h_ H_=>K _ _ ⟨by rw [wik ‹_› z_],H_.kept⟩
end Go.Proofs.YtalfgojocdonhaaDoor
namespace Go.Proofs.YtalfgojocdonhaaDoor
open Go.X Go.X.Flow Go.Conc

@[simp] theorem wcs_size (xs:List FWay):(wcs xs).length=xs.length:=yiz xs
theorem wxv (xs:List FWay): ∀ u∈(wcs xs).flatten,isOne u=true:=by
  intro u hu
  obtain ⟨l,hl,hu⟩:=List.mem_flatten.1 hu
  obtain ⟨x,_,rfl⟩:=List.mem_map.1 hl
  unfold FWay.cells at hu
  simp only [List.mem_cons,List.not_mem_nil,or_false] at hu
  rcases hu with rfl | rfl <;> rfl
def sameT (t u:Tn):Prop:=t.hs=u.hs∧t.ws=u.ws∧t.wy=u.wy
instance {t u:Tn}:Decidable (sameT t u):=by unfold sameT;exact inferInstance
theorem ybw (t:Tn):sameT t t:=⟨rfl,rfl,rfl⟩
theorem wyk {k:Nat} {t u:Tn} (hs: ∀ i,i<k→t.wy.getD i wz=u.wy.getD i wz) (h:(t.wy.getD k wz).1=(u.wy.getD k wz).1∧(t.wy.getD k wz).2=(u.wy.getD k wz).2): ∀ i,i<k+1→t.wy.getD i wz=u.wy.getD i wz:=fun i hi=>by
  by_cases e:i=k
  · subst e;exact Prod.ext h.1 h.2
  · exact hs i (by omega)
theorem xuw {t u:Tn} (a:t.hs=u.hs) (b:t.ws=u.ws) (c:t.m=u.m) (h: ∀ i,i<t.m→t.wy.getD i wz=u.wy.getD i wz):sameT t u:=by
  refine ⟨a,b,List.ext_getElem c fun i h1 h2=>?_⟩
  have:=h i h1
  rwa [List.getD_eq_getElem?_getD,List.getD_eq_getElem?_getD,List.getElem?_eq_getElem h1,List.getElem?_eq_getElem h2] at this
theorem xzx {t u:Tn} {k:Nat} (h: ¬ ((t.wy.getD k wz).1=(u.wy.getD k wz).1∧(t.wy.getD k wz).2=(u.wy.getD k wz).2)): ¬ sameT t u:=fun z=>h (by rw [z.2.2];exact ⟨rfl,rfl⟩)
end Go.Proofs.YtalfgojocdonhaaDoor
namespace Go.X.Flow
open Go.X
def facM (t:Tn) (i:Nat):Int:=min (t.hv (t.wh i)) (t.wv (t.ww i)+1)+1
def prodM (t:Tn):Nat→Int
  | 0=>1
  | k+1=>prodM t k*facM t k
def exM (t:Tn) (x y:Int):Int:=if (0≤x∧x≤(t.nH:Int)-1)∧(0≤y∧y≤(t.nW:Int)-1) then min (t.hv x.toNat) (t.wv y.toNat)+1 else 1
def moreB (t:Tn) (x y:Int):Bool:=decide (2000<prodM t t.m∨2000<prodM t t.m*exM t x y)
theorem zax {t:Tn} (O:Ok t) {i:Nat} (hi:i<t.m):1≤facM t i∧facM t i≤10:=by
  have h1:=O.y i hi;have h2:=O.h _ h1.1;have h3:=O.w _ h1.2
  unfold facM;omega
theorem yqx {t:Tn} (O:Ok t): ∀ k,k≤t.m→1≤prodM t k
  | 0,_=>by simp [prodM]
  | k+1,h=>by
    have h1:=yqx O k (by omega);have h2:=zax O (show k<t.m by omega)
    have:=Int.mul_le_mul h1 h2.1 (by decide) (by omega)
    rw [prodM];omega
theorem zxz {t:Tn} (O:Ok t) {k:Nat} (hk:k≤t.m):prodM t k≤prodM t t.m:=by
  obtain ⟨j,hj⟩:=Nat.exists_eq_add_of_le hk
  have: ∀ j,k+j≤t.m→prodM t k≤prodM t (k+j):=by
    intro j
    induction j with
    | zero=>intro _;exact Int.le_refl _
    | succ j ih=>
      intro h
      have h1:=ih (by omega);have h2:=zax O (show k+j<t.m by omega);have h3:=yqx O (k+j) (by omega)
      have h4:prodM t (k+(j+1))=prodM t (k+j)*facM t (k+j):=rfl
      have h5:=Int.mul_le_mul (Int.le_refl (prodM t (k+j))) h2.1 (by decide) (by omega)
      rw [h4];omega
  rw [hj];exact this j (by omega)
theorem wpk {t:Tn} (O:Ok t) {x y:Int} {k:Nat} (hk:k≤t.m) (h:2000<prodM t k):moreB t x y=true:=decide_eq_true (.inl (by have:=zxz O hk;omega))
theorem wfw {t:Tn} {x y:Int} (h2: ¬ ((0≤x∧x≤(t.nH:Int)-1)∧(0≤y∧y≤(t.nW:Int)-1))):moreB t x y=decide (2000<prodM t t.m):=by
  unfold moreB exM;rw [if_neg h2,Int.mul_one];congr 1;simp
theorem wpj {t:Tn} {x y:Int} (h:prodM t t.m≤2000) (h2:(0≤x∧x≤(t.nH:Int)-1)∧(0≤y∧y≤(t.nW:Int)-1)):moreB t x y=decide (2000<prodM t t.m*(min (t.hv x.toNat) (t.wv y.toNat)+1)):=by
  unfold moreB exM;rw [if_pos h2];congr 1;rw [eq_iff_iff];constructor
  · rintro (a | a)
    · omega
    · exact a
  · exact .inr

structure DryF (t:Tn) (z:Int):Prop where
  a:1≤dryV t z∧dryV t z≤3
  b: ¬ 0<t.ws.getD z.toNat 0→dryV t z=1
  c:z∈helpsF t t.nW→dryV t z=1
  d:dryV t z=1→giveI t (fairP t none0) (fairP t none0).length z=t.ws.getD z.toNat 0
  e:dryV t z=2→giveI t (fairP t none0) (fairP t none0).length z≠t.ws.getD z.toNat 0
end Go.X.Flow
namespace Go.X.Flow
open Go.X

theorem zjk (f:Nat→Int): ∀ k,sm (k+1) f=f 0+sm k (fun i=>f (i+1))
  | 0=>by simp [sm]
  | k+1=>by rw [sm,zjk f k];simp only [sm];omega
def dr (sel:Int × Int→Bool):List (Int × Int)→List Int→Int
  | w::ws,n::ds=>(if sel w then n else 0)+dr sel ws ds
  | _,_=>0
theorem wnk (sel:Int × Int→Bool): ∀ {wy:List (Int × Int)} {d:List Int},d.length=wy.length→(sm wy.length fun i=>if sel (wy.getD i (0,0)) then d.getD i 0 else 0)=dr sel wy d
  | [],[],_=>rfl
  | [],_::_,h=>by simp at h
  | _::_,[],h=>by simp at h
  | w::ws,n::ds,h=>by
    rw [dr,← wnk sel (wy:=ws) (d:=ds) (by simpa using h),List.length_cons,zjk];rfl
structure Sim (t t':Tn):Prop where
  hs:t'.hs=t.hs
  ws:t'.ws=t.ws
  sim: ∀ d:List Int,d.length=t.wy.length→(∀ z∈d,0≤z)→ ∃ d':List Int,d'.length=t'.wy.length∧(∀ z∈d',0≤z)∧ ∀ sel,dr sel t'.wy d'=dr sel t.wy d
theorem wjk {t d} (h:d.length=t.m) (x:Nat):draw t d x=dr (fun w=>w.1.toNat == x) t.wy d:=by
  rw [← wnk _ h]
  exact xhw fun i _=>by unfold Tn.wh dv;simp only [beq_iff_eq]
theorem whw {t d} (h:d.length=t.m) (x:Nat):give t d x=dr (fun w=>w.2.toNat == x) t.wy d:=by
  rw [← wnk _ h]
  exact xhw fun i _=>by unfold Tn.ww dv;simp only [beq_iff_eq]
theorem wvz {t d} (h:d.length=t.m):tot t d=dr (fun _=>true) t.wy d:=by
  rw [← wnk _ h]
  exact xhw fun i _=>by simp [dv]
theorem Sim.div {t t' d} (s:Sim t t') (D:Div t d): ∃ d',Div t' d'∧lacks t' d'=lacks t d∧tot t' d'=tot t d:=by
  obtain ⟨d',h1,h2,h3⟩:=s.sim d D.len fun z hz=>by
    obtain ⟨i,hi,e⟩:=List.mem_iff_getElem.1 hz
    have:=D.pos i (by have:=D.len;omega)
    unfold dv at this;rw [xpq hi,e] at this;exact this
  have e1: ∀ x,draw t' d' x=draw t d x:=fun x=>by rw [wjk h1,wjk D.len,h3]
  have e2: ∀ x,give t' d' x=give t d x:=fun x=>by rw [whw h1,whw D.len,h3]
  have eH:t'.nH=t.nH:=by unfold Tn.nH;rw [s.hs]
  have eW:t'.nW=t.nW:=by unfold Tn.nW;rw [s.ws]
  have ev: ∀ h,t'.hv h=t.hv h:=fun h=>by unfold Tn.hv;rw [s.hs]
  have ew: ∀ h,t'.wv h=t.wv h:=fun h=>by unfold Tn.wv;rw [s.ws]
  refine ⟨d',⟨h1,fun i hi=>?_,fun h hh=>?_,fun x hx=>?_⟩,?_,by rw [wvz h1,wvz D.len,h3]⟩
  · have hl:i<d'.length:=by have e:t'.m=t'.wy.length:=rfl;omega
    unfold dv;rw [xpq hl];exact h2 _ (List.getElem_mem hl)
  · rw [e1,ev];exact D.hs h (by rw [← eH];exact hh)
  · rw [e2,ew];exact D.ws x (by rw [← eW];exact hx)
  · unfold lacks lackL;rw [eH];congr 2;funext h;unfold lack;rw [e1,ev]
theorem Sim.not_less {t t'} (s:Sim t t') (O:Ok t) (O':Ok t'):earlier (LK t) (LK t')=false:=by
  obtain ⟨d',D',e,_⟩:=s.div (xsz O xvv).div
  have h:=zuj O' D'
  rw [e] at h;exact h
theorem Sim.most {t t'} (s:Sim t t') (O:Ok t) (O':Ok t'):tot t (fairP t none0)≤tot t' (fairP t' none0):=by
  obtain ⟨d',D',_,e⟩:=s.div (xsz O xvv).div
  have h:=Best.most O' (xtv O' xvv) D'
  rw [e] at h;exact h
theorem vjx (t):(LK t).length=t.nH:=xmj t _
theorem Sim.same {t t'} (s:Sim t t') (s':Sim t' t) (O:Ok t) (O':Ok t'):LK t'=LK t:=by
  have a:=s.not_less O O'
  have b:=s'.not_less O' O
  rcases xwv (a:=LK t') (b:=LK t) (by rw [vjx,vjx];unfold Tn.nH;rw [s.hs]) with h | h | h
  · exact h
  · rw [b] at h;cases h
  · rw [a] at h;cases h
theorem vcx {wy wy':List (Int × Int)} (p:wy.Perm wy'): ∀ d:List Int,d.length=wy.length→(∀ z∈d,0≤z)→ ∃ d':List Int,d'.length=wy'.length∧(∀ z∈d',0≤z)∧ ∀ sel,dr sel wy' d'=dr sel wy d:=by
  induction p with
  | nil=>exact fun d h z=>⟨d,h,z,fun _=>rfl⟩
  | cons x _ ih=>
    intro d h z
    cases d with
    | nil=>simp at h
    | cons n r=>
      obtain ⟨r',h1,h2,h3⟩:=ih r (by simpa using h) fun y hy=>z y (List.mem_cons_of_mem _ hy)
      refine ⟨n::r',by simp [h1],fun y hy=>?_,fun sel=>by rw [dr,dr,h3]⟩
      rcases List.mem_cons.1 hy with rfl | hy
      · exact z _ (List.mem_cons_self ..)
      · exact h2 y hy
  | swap x y l=>
    intro d h z
    match d,h with
    | n::k::r,h=>
      refine ⟨k::n::r,by simpa using h,fun u hu=>z u ?_,fun sel=>by simp only [dr];omega⟩
      simp only [List.mem_cons] at hu ⊢
      rcases hu with hu | hu | hu
      · exact .inr (.inl hu)
      · exact .inl hu
      · exact .inr (.inr hu)
  | trans _ _ ih1 ih2=>
    intro d h z
    obtain ⟨d1,a1,a2,a3⟩:=ih1 d h z
    obtain ⟨d2,b1,b2,b3⟩:=ih2 d1 a1 a2
    exact ⟨d2,b1,b2,fun sel=>(b3 sel).trans (a3 sel)⟩
theorem yww {hs ws:List Int} {wy wy':List (Int × Int)} (p:wy.Perm wy'):Sim ⟨hs,ws,wy⟩ ⟨hs,ws,wy'⟩:=⟨rfl,rfl,vcx p⟩
theorem vcz (sel:Int × Int→Bool) (w:Int × Int): ∀ {wy:List (Int × Int)} {d:List Int},dr sel (w::wy) (0::d)=dr sel wy d:=by
  intro wy d;rw [dr];split <;> omega
theorem wnv {hs ws:List Int} {wy:List (Int × Int)} (w:Int × Int):Sim ⟨hs,ws,wy⟩ ⟨hs,ws,w::wy⟩:=
  ⟨rfl,rfl,fun d h z=>⟨0::d,by simp [h],fun y hy=>(List.mem_cons.1 hy).elim (fun e=>by omega) (z y),fun sel=>vcz sel w⟩⟩
end Go.X.Flow
namespace Go.X.Flow
open Go.X

def wkP (t:Tn) (x:FWay):Nat→Bool
  | 0=>false
  | k+1=>wkP t x k || decide (Bf x (t.wy.getD k wz))
def wkL (t:Tn) (x:FWay):Nat→List FWay
  | 0=>[]
  | k+1=>(if wkP t x k=false∧Bf x (t.wy.getD k wz) then wkL t x k++[x] else wkL t x k)++[t.wy.getD k wz]
def withW (t:Tn) (x:FWay):List FWay:=if wkP t x t.m then wkL t x t.m else wkL t x t.m++[x]
def withT (t:Tn) (x:FWay):Tn:=⟨t.hs,t.ws,withW t x⟩
theorem zzw {t x k} {p q:Bool} (hp:p=wkP t x k) (h:q=(p || decide (Bf x (t.wy.getD k wz)))):q=wkP t x (k+1):=by rw [h,hp];rfl
theorem wxk {t x k} {p:Bool} {l:List FWay} (hp:p=wkP t x k) (hl:l=wkL t x k) (h0:p=false) (hb:Bf x (t.wy.getD k wz)):(l++[x])++[t.wy.getD k wz]=wkL t x (k+1):=by
  rw [wkL,if_pos ⟨by rw [← hp];exact h0,hb⟩,hl]
theorem znz {t x k} {p:Bool} {l:List FWay} (hp:p=wkP t x k) (hl:l=wkL t x k) (h0: ¬ (p=false∧Bf x (t.wy.getD k wz))):l++[t.wy.getD k wz]=wkL t x (k+1):=by
  rw [wkL,if_neg (by rw [← hp];exact h0),hl]
theorem waq {t x}: ∀ k,(wkL t x k).length=k+if wkP t x k then 1 else 0
  | 0=>rfl
  | k+1=>by
    have ih:=waq (t:=t) (x:=x) k
    rw [wkL,wkP]
    by_cases a:wkP t x k=false <;> by_cases b:Bf x (t.wy.getD k wz)
    · rw [if_pos ⟨a,b⟩];simp only [List.length_append,ih,a,b];simp
    · rw [if_neg fun z=>b z.2];simp only [List.length_append,ih,a,b];simp
    · rw [if_neg fun z=>a z.1];rw [Bool.not_eq_false] at a;simp only [List.length_append,ih,a,b];simp
    · rw [if_neg fun z=>a z.1];rw [Bool.not_eq_false] at a;simp only [List.length_append,ih,a,b];simp
theorem wbq {xs:List FWay} {k:Nat} (h:k<xs.length):xs.take (k+1)=xs.take k++[xs.getD k wz]:=by
  rw [List.getD_eq_getElem?_getD,List.getElem?_eq_getElem h];exact (List.take_append_getElem h).symm
theorem znj {t x}: ∀ k,k≤t.m→(wkL t x k).Perm (if wkP t x k then x::t.wy.take k else t.wy.take k)
  | 0,_=>by simp [wkL,wkP]
  | k+1,h=>by
    have ih:=znj (t:=t) (x:=x) k (by omega)
    have e:=wbq (xs:=t.wy) (k:=k) (by unfold Tn.m at h;omega)
    rw [wkL,wkP]
    by_cases a:wkP t x k=false <;> by_cases b:Bf x (t.wy.getD k wz)
    · rw [if_pos ⟨a,b⟩,a,decide_eq_true b,Bool.false_or,if_pos rfl,e]
      rw [a,if_neg (by decide)] at ih
      refine ((ih.append_right [x]).append_right _).trans ?_
      rw [List.append_assoc]
      exact (List.perm_append_comm_assoc _ _ _)
    · rw [if_neg fun z=>b z.2,a,decide_eq_false b,Bool.false_or,if_neg (by decide),e]
      rw [a,if_neg (by decide)] at ih
      exact ih.append_right _
    · rw [Bool.not_eq_false] at a
      rw [if_neg (fun z=>absurd z.1 (by rw [a];decide)),a,Bool.true_or,if_pos rfl,e]
      rw [a,if_pos rfl] at ih
      exact ih.append_right _
    · rw [Bool.not_eq_false] at a
      rw [if_neg (fun z=>absurd z.1 (by rw [a];decide)),a,Bool.true_or,if_pos rfl,e]
      rw [a,if_pos rfl] at ih
      exact ih.append_right _
theorem xyx (t:Tn) (x:FWay):(withW t x).Perm (x::t.wy):=by
  have p:=znj (t:=t) (x:=x) t.m (Nat.le_refl _)
  have e:t.wy.take t.m=t.wy:=List.take_length
  rw [e] at p
  unfold withW
  by_cases a:wkP t x t.m=true
  · rw [if_pos a];rwa [if_pos a] at p
  · rw [if_neg a];rw [if_neg a] at p
    exact (p.append_right [x]).trans List.perm_append_comm
theorem wax (t:Tn) (x:FWay):(withW t x).length=t.m+1:=by rw [(xyx t x).length_eq];rfl

structure WithF (t:Tn) (x:FWay):Prop where
  lk:LK (withT t x)=LK (wayM t x)
  most:mostV t≤mostV (withT t x)
  less:earlier (LK t) (LK (withT t x))=false
theorem zvq {t:Tn} (O:Ok t) (x:FWay) (OM:Ok (wayM t x)) (OW:Ok (withT t x)):WithF t x:=by
  have p1:(withW t x).Perm (t.wy++[x]):=(xyx t x).trans (show ([x]++t.wy).Perm (t.wy++[x]) from List.perm_append_comm)
  have s1:Sim (wayM t x) (withT t x):=yww p1.symm
  have s2:Sim (withT t x) (wayM t x):=yww p1
  have s3:Sim t ⟨t.hs,t.ws,x::t.wy⟩:=wnv x
  have s4:Sim ⟨t.hs,t.ws,x::t.wy⟩ (withT t x):=yww (xyx t x).symm
  have s5:Sim t (withT t x):=⟨rfl,rfl,fun d h1 h2=>by
    obtain ⟨d',a,b,c⟩:=s3.3 d h1 h2
    obtain ⟨d'',a',b',c'⟩:=s4.3 d' a b
    exact ⟨d'',a',b',fun sel=>(c' sel).trans (c sel)⟩⟩
  exact ⟨s1.same s2 OM OW,s5.most O OW,s5.not_less O OW⟩
theorem vdj {t:Tn} {x:FWay} (F:WithF t x):(cmpL (LK (wayM t x)) (LK t)<0)↔earlier (LK (withT t x)) (LK t)=true:=by
  rw [F.lk];exact xxj (by rw [xxk,xxk];rfl)
structure PourF (t:Tn) (z:Int):Prop where
  a:mostV t≤mostV (pour t z.toNat)
  b:mostV (pour t z.toNat)≤mostV t+1
  c:earlier (LK t) (LK (pour t z.toNat))=false
  d:earlier (LK (pour t z.toNat)) (LK t)=true↔z∈helpsF t t.nW
theorem wow {t:Tn} {z:Int}:t.ws.set z.toNat (t.ws.getD z.toNat 0+1)=(pour t z.toNat).ws:=rfl
def WayP (t:Tn) (x y:Int):Prop:=¬ ((x,y):FWay)∈t.wy∧cmpL (LK (wayM t (x,y))) (LK t)<0
instance {t:Tn} {x y:Int}:Decidable (WayP t x y):=by unfold WayP;exact inferInstance
def wayV (t:Tn) (x y:Int):Int:=if ((x,y):FWay)∈t.wy then 3 else 0
theorem ziw (t:Tn) (x:FWay):(withT t x).m=t.m+1:=wax t x
end Go.X.Flow
namespace Go.X.Flow
open Go.X

def setG (g h:Nat):Bool:=decide (g / 2 ^ h &&& 1=1)
def gB (a b c d e f:Bool):Nat:=(if a then 1 else 0)+(if b then 2 else 0)+(if c then 4 else 0)+(if d then 8 else 0)+(if e then 16 else 0)+(if f then 32 else 0)
theorem LG_in: ∀ g:Nat,g<64→ ∀ h:Nat,h<6→(setG g h=true↔((h:Nat):Int)∈LG g):=by decide +kernel
theorem wmv: ∀ g:Nat,g<64→(LG g).Pairwise (· < ·):=by decide +kernel

def wantL (t:Tn) (l:List Int) (k:Nat):Int:=sm k fun i=>t.hv (l.getD i 0).toNat
def isB (t:Tn) (l:List Int) (w:Int):Nat→Bool
  | 0=>false
  | k+1=>isB t l w k || (decide ((t.wy.getD k wz).2=w) && decide ((t.wy.getD k wz).1∈l))
def reachL (t:Tn) (l:List Int) (k:Nat):Int:=sm k fun w=>if isB t l ((w:Nat):Int) t.m then t.wv w else 0
def setL (l:List Int) (h:Nat):Bool:=decide (((h:Nat):Int)∈l)
theorem whx {t l w}: ∀ k,isB t l w k=true↔ ∃ i,i<k∧(t.wy.getD i wz).2=w∧(t.wy.getD i wz).1∈l
  | 0=>by simp [isB]
  | k+1=>by
    rw [isB,Bool.or_eq_true,whx k,Bool.and_eq_true,decide_eq_true_eq,decide_eq_true_eq]
    constructor
    · rintro (⟨i,hi,h⟩ | h)
      · exact ⟨i,by omega,h⟩
      · exact ⟨k,by omega,h⟩
    · rintro ⟨i,hi,h⟩
      by_cases e:i=k
      · subst e;exact .inr h
      · exact .inl ⟨i,by omega,h⟩
theorem wgw {t:Tn} (O:OkT t) {l:List Int} {w:Nat}:isB t l ((w:Nat):Int) t.m=touch t (setL l) w:=by
  rw [Bool.eq_iff_iff,whx,yfq]
  constructor
  · rintro ⟨i,hi,h1,h2⟩
    have:=O.yp i hi
    refine ⟨i,hi,?_,?_⟩
    · show (t.wy.getD i wz).2.toNat=w;omega
    · unfold setL;rw [decide_eq_true_eq]
      have e:((t.wh i:Nat):Int)=(t.wy.getD i wz).1:=Int.toNat_of_nonneg this.1
      rw [e];exact h2
  · rintro ⟨i,hi,h1,h2⟩
    have:=O.yp i hi
    refine ⟨i,hi,?_,?_⟩
    · have h1:(t.wy.getD i wz).2.toNat=w:=h1
      omega
    · unfold setL at h2;rw [decide_eq_true_eq] at h2
      have e:((t.wh i:Nat):Int)=(t.wy.getD i wz).1:=Int.toNat_of_nonneg this.1
      rwa [e] at h2
theorem wdk {t:Tn} (O:OkT t) (l:List Int):reachL t l t.nW=reachX t (setL l):=xhw fun w _=>by
  show (if isB t l ((w:Nat):Int) t.m then t.wv w else 0)=t.wv w*inc (touch t (setL l) w)
  rw [wgw O]
  cases touch t (setL l) w <;> simp [inc]
theorem zez {t:Tn} (O:Ok t) {X Y:Nat→Bool} (h: ∀ i,i<t.nH→X i=Y i):reachX t X=reachX t Y:=xhw fun w _=>by
  have:touch t X w=touch t Y w:=by
    rw [Bool.eq_iff_iff,yfq,yfq]
    constructor
    · rintro ⟨i,hi,a,b⟩;exact ⟨i,hi,a,by rw [← h _ (O.y i hi).1];exact b⟩
    · rintro ⟨i,hi,a,b⟩;exact ⟨i,hi,a,by rw [h _ (O.y i hi).1];exact b⟩
  rw [this]
theorem ypq {t:Tn} {X Y:Nat→Bool} (h: ∀ i,i<t.nH→X i=Y i):wantX t X=wantX t Y:=xhw fun i hi=>by
  show t.hv i*inc (X i)=t.hv i*inc (Y i)
  rw [h i hi]
theorem ywq {t:Tn}: ∀ {l:List Int},l.Pairwise (· < ·)→(∀ z∈l,0≤z∧z<(t.nH:Int))→wantL t l l.length=wantX t (setL l)
  | [],_,_=>by
    have:wantX t (setL [])=sm t.nH fun _=>0:=xhw fun i _=>by
      show t.hv i*inc (setL [] i)=0
      have:setL [] i=false:=decide_eq_false List.not_mem_nil
      rw [this];exact Int.mul_zero _
    rw [this,xtk];rfl
  | x::l,h,b=>by
    obtain ⟨h1,h2⟩:=List.pairwise_cons.1 h
    have ih:=ywq (t:=t) h2 fun z hz=>b z (List.mem_cons_of_mem _ hz)
    have e1:wantL t (x::l) (x::l).length=t.hv x.toNat+wantL t l l.length:=by
      unfold wantL
      have:=zjk (fun i=>t.hv ((x::l).getD i 0).toNat) l.length
      exact this
    have hx:=b x List.mem_cons_self
    have e2:wantX t (setL (x::l))=wantX t (setL l)+sm t.nH fun i=>if x.toNat=i then t.hv i else 0:=by
      unfold wantX
      rw [← xyj]
      refine xhw fun i _=>?_
      show t.hv i*inc (setL (x::l) i)=t.hv i*inc (setL l i)+if x.toNat=i then t.hv i else 0
      by_cases e:x.toNat=i
      · have e3:((i:Nat):Int)=x:=by omega
        have n:setL l i=false:=decide_eq_false fun z=>by have:=h1 _ z;omega
        have y:setL (x::l) i=true:=decide_eq_true (by rw [e3];exact List.mem_cons_self)
        rw [n,y,if_pos e];simp [inc]
      · have:setL (x::l) i=setL l i:=by
          unfold setL;congr 1
          rw [List.mem_cons,eq_iff_iff]
          exact ⟨fun z=>z.resolve_left (by omega),.inr⟩
        rw [this,if_neg e,Int.add_zero]
    have e3:(sm t.nH fun i=>if x.toNat=i then t.hv i else 0)=t.hv x.toNat:=zdx (fun i=>t.hv i) (by omega)
    rw [e1,e2,e3,ih];omega

theorem wbk {t:Tn} {g w:Nat}:(0≤idxA (shq g w) t.wy↔touch t (setG g) w=true):=by
  rw [ygz,yfq]
  constructor
  · rintro ⟨x,hx,h⟩
    obtain ⟨i,hi,rfl⟩:=List.mem_iff_getElem.1 hx
    unfold shq at h;rw [decide_eq_true_eq] at h
    have e:t.wy.getD i wz=t.wy[i]:=by rw [List.getD_eq_getElem?_getD,List.getElem?_eq_getElem hi];rfl
    refine ⟨i,hi,?_,?_⟩
    · show (t.wy.getD i wz).2.toNat=w;rw [e];exact h.1
    · unfold setG;rw [decide_eq_true_eq];show g / 2 ^ (t.wy.getD i wz).1.toNat &&& 1=1;rw [e];exact h.2
  · rintro ⟨i,hi,a,b⟩
    have e:t.wy.getD i wz=t.wy[i]:=by rw [List.getD_eq_getElem?_getD,List.getElem?_eq_getElem hi];rfl
    refine ⟨t.wy[i],List.getElem_mem hi,?_⟩
    unfold shq;rw [decide_eq_true_eq,← e]
    unfold setG at b;rw [decide_eq_true_eq] at b
    exact ⟨a,b⟩
theorem wcq {t:Tn} (O:Ok t) {g:Nat} (hg:g<2 ^ t.nH): ∀ h,h<t.nH→setG g h=setL (LG g) h:=fun h hh=>by
  have h64:g<64:=Nat.lt_of_lt_of_le hg (ylq O)
  have h6:=O.nh
  rw [Bool.eq_iff_iff,LG_in g h64 h (by omega)]
  unfold setL;rw [decide_eq_true_eq]
theorem wmw {t:Tn} (O:Ok t) {g:Nat} (hg:g<2 ^ t.nH): ∀ z∈LG g,0≤z∧z<(t.nH:Int):=fun z hz=>by
  have:=List.all_eq_true.1 (wxj t.nH O.nh g hg) z hz
  simpa using this
theorem wbw {t:Tn} (O:OkT t) {g:Nat} (hg:g<2 ^ t.nH):shortN t g=wantX t (setG g)-reachX t (setG g):=by
  have h64:g<64:=Nat.lt_of_lt_of_le hg (ylq O.toOk)
  unfold shortN
  have e1:wantG t g (LG g).length=wantX t (setG g):=by
    rw [ypq (wcq O.toOk hg),← ywq (wmv g h64) (wmw O.toOk hg)];rfl
  have e2:reachG t g t.nW=reachX t (setG g):=xhw fun w _=>by
    show (if 0≤idxA (shq g w) t.wy then t.wv w else 0)=t.wv w*inc (touch t (setG g) w)
    by_cases c:0≤idxA (shq g w) t.wy
    · rw [if_pos c,wbk.1 c];simp [inc]
    · rw [if_neg c,Bool.eq_false_iff.2 fun e=>c (wbk.2 e)];simp [inc]
  rw [e1,e2]
theorem yxw {l b:List Int}:prec l b↔l.length<b.length∨(l.length=b.length∧cmpL l b<0):=by
  unfold prec
  simp only [orI]
  split
  · split <;> omega
  · omega
theorem vcj {x y:Int}:cmpI x y<0↔x<y:=by unfold cmpI;(repeat' split) <;> omega
theorem wkx {x y:Int}:cmpI x y=0↔x=y:=by unfold cmpI;(repeat' split) <;> omega
theorem ylk {x y:Int} {xs ys:List Int}:cmpL (x::xs) (y::ys)<0↔x<y∨(x=y∧cmpL xs ys<0):=by
  rw [cmpL]
  split
  · rename_i h;have:=wkx.1 h;omega
  · rename_i h;rw [vcj]
    have: ¬ x=y:=fun e=>h (wkx.2 e)
    omega
theorem ysv: ∀ l:List Int,¬ cmpL l l<0
  | []=>by simp [cmpL]
  | x::l=>fun h=>by
    rcases ylk.1 h with h | h
    · omega
    · exact ysv l h.2
theorem yvj: ∀ {a b c:List Int},a.length=b.length→b.length=c.length→cmpL a b<0→cmpL b c<0→cmpL a c<0
  | [],[],[],_,_,h,_=>h
  | x::a,y::b,z::c,h1,h2,h,k=>by
    rw [ylk] at h k ⊢
    rcases h with h | h
    · rcases k with k | k <;> omega
    · rcases k with k | k
      · omega
      · exact .inr ⟨by omega,yvj (by simpa using h1) (by simpa using h2) h.2 k.2⟩
theorem xzz (l:List Int): ¬ prec l l:=fun h=>by
  rcases yxw.1 h with h | h
  · omega
  · exact ysv l h.2
theorem ytw {a b c:List Int} (h:prec a b) (k:prec b c):prec a c:=by
  rw [yxw] at h k ⊢
  rcases h with h | h <;> rcases k with k | k
  · omega
  · omega
  · omega
  · exact .inr ⟨by omega,yvj h.1 k.1 h.2 k.2⟩
theorem ydj {t:Tn} (O:Ok t): ∀ k,k≤2 ^ t.nH→(shortF t k=[]∧ ∀ g,g<k→ ¬ 0<shortN t g)∨(∃ g,g<k∧0<shortN t g∧shortF t k=LG g∧ ∀ g',g'<k→0<shortN t g'→ ¬ prec (LG g') (shortF t k))
  | 0,_=>.inl ⟨rfl,fun g hg=>absurd hg (by omega)⟩
  | k+1,hk=>by
    rcases ydj O k (by omega) with ⟨e,h⟩ | ⟨g,hg,hp,e,h⟩
    · by_cases c:0<shortN t k
      · rw [ybk c (.inl e)]
        refine .inr ⟨k,by omega,c,rfl,fun g' hg' hp'=>?_⟩
        have:g'=k:=by
          by_cases q:g'<k
          · exact absurd hp' (h g' q)
          · omega
        subst this;exact xzz _
      · rw [ybv c]
        refine .inl ⟨e,fun g hg=>?_⟩
        by_cases q:g=k
        · subst q;exact c
        · exact h g (by omega)
    · have n0: ¬ shortF t k=[]:=by rw [e];exact yaw O hp
      by_cases c:0<shortN t k
      · by_cases q:prec (LG k) (shortF t k)
        · rw [ybk c (.inr q)]
          refine .inr ⟨k,by omega,c,rfl,fun g' hg' hp'=>?_⟩
          by_cases r:g'=k
          · subst r;exact xzz _
          · exact fun y=>h g' (by omega) hp' (ytw y q)
        · rw [yik n0 q]
          refine .inr ⟨g,by omega,hp,e,fun g' hg' hp'=>?_⟩
          by_cases r:g'=k
          · subst r;exact q
          · exact h g' (by omega) hp'
      · rw [ybv c]
        refine .inr ⟨g,by omega,hp,e,fun g' hg' hp'=>?_⟩
        by_cases r:g'=k
        · subst r;exact absurd hp' c
        · exact h g' (by omega) hp'
structure ShortF (t:Tn):Prop where
  k:shortE t=0∨shortE t=3
  a:shortE t=0↔0<worstV t
  b:shortE t=0→shortP t≠[]
  n: ¬ shortE t=0→shortP t=[]
  r:Rise (shortP t) 0 ((t.nH:Int)-1)
  w:shortE t=0→reachL t (shortP t) t.nW<wantL t (shortP t) (shortP t).length
  sub: ∀ l,Rise l 0 ((t.nH:Int)-1)→(shortE t=0→l.length<(shortP t).length)→ ∀ Y:Nat→Bool,(∀ i,Y i=true→setL l i=true)→wantX t Y≤reachX t Y
def zeroK (t:Tn) (l:List Int) (k:Nat):List Int:=(List.range t.nH).map fun h=>if h<k then (if ((h:Nat):Int)∈l then t.hv h else 0) else t.hv h
theorem wdz {t l w} (h:isB t l ((w:Nat):Int) t.m=true):reachL t l (w+1)=reachL t l w+t.wv w:=by
  show reachL t l w+(if isB t l ((w:Nat):Int) t.m then t.wv w else 0)=_
  rw [if_pos h]
theorem wdj {t l w} (h:isB t l ((w:Nat):Int) t.m=false):reachL t l (w+1)=reachL t l w:=by
  show reachL t l w+(if isB t l ((w:Nat):Int) t.m then t.wv w else 0)=_
  rw [h];simp
theorem whq {t l w k} {b c:Bool} (hb:b=isB t l w k) (h:c=(b || (decide ((t.wy.getD k wz).2=w) && decide ((t.wy.getD k wz).1∈l)))):c=isB t l w (k+1):=by rw [h,hb];rfl
end Go.X.Flow
namespace Go.X.Flow
open Go.X
theorem OkT.wok {t:Tn} (O:OkT t):WOk t:=fun i hi=>by
  have a:=O.y i hi;have b:=O.yp i hi
  have e1:(t.wy.getD i wz).1.toNat=t.wh i:=rfl
  have e2:(t.wy.getD i wz).2.toNat=t.ww i:=rfl
  omega
theorem wjv {t:Tn} {d:List Int} (w:WOk t) (hl:d.length≤t.m) {x:Int} {h:Nat} (hx:x=(h:Int)):drawI t d d.length x=draw t d h:=by
  have key: ∀ k,k+d.length≤t.m→drawI t d d.length x=sm (d.length+k) fun i=>if t.wh i=h then dv d i else 0:=fun k=>by
    induction k with
    | zero=>
      intro _
      refine xhw fun i hi=>?_
      have:=(w i (by omega)).1
      have e:(t.wy.getD i wz).1.toNat=t.wh i:=rfl
      by_cases c:t.wh i=h
      · rw [if_pos (by omega),if_pos c]
      · rw [if_neg (by omega),if_neg c]
    | succ k ih=>intro hk;rw [ih (by omega)];show _=sm (d.length+k+1) _;rw [sm,ysz (by omega)];split <;> omega
  have:=key (t.m-d.length) (by omega)
  rwa [show d.length+(t.m-d.length)=t.m by omega] at this
theorem wiq {t:Tn} {d:List Int} (w:WOk t) (hl:d.length≤t.m) {x:Int} {h:Nat} (hx:x=(h:Int)):giveI t d d.length x=give t d h:=by
  have key: ∀ k,k+d.length≤t.m→giveI t d d.length x=sm (d.length+k) fun i=>if t.ww i=h then dv d i else 0:=fun k=>by
    induction k with
    | zero=>
      intro _
      refine xhw fun i hi=>?_
      have:=(w i (by omega)).2
      have e:(t.wy.getD i wz).2.toNat=t.ww i:=rfl
      by_cases c:t.ww i=h
      · rw [if_pos (by omega),if_pos c]
      · rw [if_neg (by omega),if_neg c]
    | succ k ih=>intro hk;rw [ih (by omega)];show _=sm (d.length+k+1) _;rw [sm,ysz (by omega)];split <;> omega
  have:=key (t.m-d.length) (by omega)
  rwa [show d.length+(t.m-d.length)=t.m by omega] at this
theorem vaz {t:Tn} (O:OkT t) {d:List Int} {k:Nat} (e:d.length=k) (h:k<t.m):
    min (t.hs.getD (t.wy.getD k wz).1.toNat 0-drawI t d d.length (t.wy.getD k wz).1) (t.ws.getD (t.wy.getD k wz).2.toNat 0-giveI t d d.length (t.wy.getD k wz).2)=most t d:=by
  subst e
  have b:=O.yp d.length h
  have e1:(t.wy.getD d.length wz).1.toNat=t.wh d.length:=rfl
  have e2:(t.wy.getD d.length wz).2.toNat=t.ww d.length:=rfl
  rw [wjv O.wok (by omega) (show (t.wy.getD d.length wz).1=((t.wh d.length:Nat):Int) by omega),wiq O.wok (by omega) (show (t.wy.getD d.length wz).2=((t.ww d.length:Nat):Int) by omega)]
  rfl
theorem Pre.small {t:Tn} {d:List Int} (D:Pre t d) (O:Ok t): ∀ i,i<d.length→0≤dv d i∧dv d i≤1000:=fun i hi=>by
  have hm:=D.len
  have h0:=D.pos i (by omega)
  have hy:=(O.y i (by omega)).1
  have h1:(if t.wh i=t.wh i then dv d i else 0)≤draw t d (t.wh i):=zpj (f:=fun j=>if t.wh j=t.wh i then dv d j else 0) (fun j hj=>by split;exact D.pos j hj;exact Int.le_refl _) (by omega)
  rw [if_pos rfl] at h1
  have h2:=D.hs _ hy;have h3:=O.h _ hy
  omega
theorem zrk {t:Tn} {d:List Int} (D:Pre t d) (O:Ok t) (h:d.length<t.m):0≤most t d∧most t d≤9:=by
  have hy:=O.y d.length h
  have h1:=D.hs _ hy.1;have h2:=D.ws _ hy.2;have h3:=O.h _ hy.1
  have g1:0≤draw t d (t.wh d.length):=xsk fun i hi=>by split;exact D.pos i hi;exact Int.le_refl _
  unfold most;omega
def divP (t:Tn) (f:Nat) (d:List Int) (j:Nat):List (List Int):=(List.range j).flatMap fun n:Nat=>divs t f (d++[(n:Int)])
theorem ysj (t f d j):divP t f d (j+1)=divP t f d j++divs t f (d++[((j:Nat):Int)]):=by
  unfold divP;rw [List.range_succ,List.flatMap_append];simp
theorem wjq {t:Tn} (O:Ok t) {k:Nat} (h:k<t.m):1≤(min (t.hv (t.wh k)) (t.wv (t.ww k))+1).toNat:=by
  have hy:=O.y k h;have h3:=O.h _ hy.1;have h4:=O.w _ hy.2;omega
theorem zxx {t:Tn} (O:Ok t) {f k:Nat} (h:k+(f+1)≤t.m):prodW t f (k+1)≤prodW t (f+1) k:=by
  rw [prodW];exact Nat.le_mul_of_pos_left _ (wjq O (by omega))
theorem zew {t:Tn} (O:Ok t): ∀ {k f:Nat},k+f=t.m→prodW t f k≤prodW t t.m 0
  | 0,f,h=>by rw [show f=t.m by omega];exact Nat.le_refl _
  | k+1,f,h=>Nat.le_trans (zxx O (by omega)) (zew O (k:=k) (f:=f+1) (by omega))
theorem zuq {t:Tn} (O:Ok t) {f:Nat} {d:List Int} (D:Pre t d) (h:d.length+(f+1)=t.m): ∀ {k:Nat},k≤(most t d+1).toNat→(divP t f d k).length≤k*prodW t f (d.length+1)
  | 0,_=>by simp [divP]
  | k+1,hk=>by
    rw [ysj,List.length_append,Nat.add_mul,Nat.one_mul]
    have a:=zuq O D h (k:=k) (by omega)
    have b:=ynv O (D.next (by omega) (n:=k) (by omega) (by omega)) (f:=f) (by simp;omega)
    simp only [List.length_append,List.length_cons,List.length_nil,Nat.zero_add] at b
    omega
theorem zbx {t:Tn} (O:Ok t) (hP:prodW t t.m 0≤2000) {f:Nat} {d:List Int} (D:Pre t d) (h:d.length+(f+1)=t.m) {j:Nat} {es es2:List (List Value)} (hj:((j:Nat):Int)≤most t d) (e1:es.length=(divP t f d j).length) (e2:es2.length=(divs t f (d++[((j:Nat):Int)])).length):(es.length+es2.length)*24≤2 ^ 40:=by
  have a:=zuq O D h (k:=j) (by omega)
  have b:=ynv O (D.next (by omega) (n:=j) (by omega) hj) (f:=f) (by simp;omega)
  simp only [List.length_append,List.length_cons,List.length_nil,Nat.zero_add] at b
  have c:=zew O (k:=d.length+1) (f:=f) (by omega)
  have m:=zrk D O (by omega)
  have:j*prodW t f (d.length+1)≤9*prodW t f (d.length+1):=Nat.mul_le_mul_right _ (by omega)
  omega
theorem wvw {t:Tn} (O:Ok t): ∀ {k:Nat},k≤t.m→prodK t k*((prodW t (t.m-k) k:Nat):Int)=((prodW t t.m 0:Nat):Int)
  | 0,_=>by rw [prodK];simp
  | k+1,h=>by
    have ih:=wvw O (k:=k) (by omega)
    rw [show t.m-k=(t.m-(k+1))+1 by omega,prodW,Int.natCast_mul,Int.toNat_of_nonneg (by have:=wjq O (k:=k) (by omega);omega),← Int.mul_assoc] at ih
    exact ih
theorem wdw {t:Tn} (O:Ok t) (h: ¬ 2000<prodK t t.m):prodW t t.m 0≤2000:=by
  have:=wvw O (k:=t.m) (Nat.le_refl _)
  rw [Nat.sub_self,prodW] at this
  omega
theorem wmq {t:Tn} (O:Ok t) (hP:prodW t t.m 0≤2000):(allD t).length≤2000:=Nat.le_trans (ynv O (Pre.nil O) (by simp)) hP
theorem znq {t:Tn} (O:Ok t):0<(allD t).length:=List.length_pos_of_mem (www O)
theorem wmx {t:Tn} (O:Ok t) {i:Nat} (h:i<(allD t).length):Div t ((allD t).getD i []):=(zlx O).1 (by rw [xpq h];exact List.getElem_mem h)
theorem zij {t:Tn} (O:Ok t) {k:Nat} (h:k<(allD t).length): ∀ i,i<t.m→0≤dv ((allD t).getD k []) i∧dv ((allD t).getD k []) i≤1000:=fun i hi=>by
  have D:=wmx O h
  exact Pre.small (d:=(allD t).getD k []) ⟨Nat.le_of_eq D.len,D.pos,D.hs,D.ws⟩ O i (by rw [D.len];exact hi)
theorem zcx {α:Type} {l:List α} {k:Nat} {d:α} (h:k<l.length):l.take (k+1)=l.take k++[l.getD k d]:=by
  rw [List.take_add_one,List.getElem?_eq_getElem h,xpq h];rfl
theorem ykx {t:Tn} {d:List Int}: ∀ {L:List (List Int)} {b:List Int},bestL t (L++[d]) b=if earlier (lacks t d) (bestL t L b)=true then lacks t d else bestL t L b
  | [],b=>rfl
  | e::L,b=>by rw [List.cons_append,bestL,ykx (L:=L)];rfl
def bestK (t:Tn) (k:Nat):List Int:=bestL t ((allD t).take k) (lacks t ((allD t).getD 0 []))
theorem wlq {t:Tn} {k:Nat} (h:k<(allD t).length) (e:earlier (lacks t ((allD t).getD k [])) (bestK t k)=true):lacks t ((allD t).getD k [])=bestK t (k+1):=by
  unfold bestK at *;rw [zcx (d:=[]) h,ykx,if_pos e]
theorem wtj {t:Tn} {k:Nat} (h:k<(allD t).length) (e: ¬ earlier (lacks t ((allD t).getD k [])) (bestK t k)=true):bestK t k=bestK t (k+1):=by
  unfold bestK at *;rw [zcx (d:=[]) h,ykx,if_neg e]
theorem ytq {t:Tn}: ∀ {L:List (List Int)} {b:List Int},b.length=t.nH→(bestL t L b).length=t.nH
  | [],_,h=>h
  | d::L,b,h=>by rw [bestL];split;exact ytq (xmj t d);exact ytq h
theorem wlx (t:Tn) (k:Nat):(bestK t k).length=t.nH:=ytq (xmj _ _)
theorem wlz {t:Tn} (O:Ok t) {k:Nat} (h:k=(allD t).length):bestK t k=LK t:=by
  subst h;unfold bestK;rw [List.take_length];exact wkw O (wmx O (znq O))
def maxK (t:Tn) (k:Nat):Int:=maxT t ((allD t).take k) 0
theorem far_W {t:Tn} (h:farB t=false):chkB t=0→prodW t t.m 0≤2000:=fun e=>wdw (xuz e).toOk fun z=>by
  have:=of_decide_eq_false h;exact this (.inr ⟨e,z⟩)
theorem Div.pre {t:Tn} {d:List Int} (D:Div t d):Pre t d:=⟨Nat.le_of_eq D.len,D.pos,D.hs,D.ws⟩
end Go.X.Flow
namespace Go.X.Flow
open Go.X
def lsts (b:Nat):Nat→Nat→List Int→List (List Int)
  | 0,_,pre=>[pre]
  | f+1,s,pre=>(List.range (b-s)).flatMap fun j=>lsts b f (s+j+1) (pre++[((s+j:Nat):Int)])
def lstP (b f s:Nat) (pre:List Int) (j:Nat):List (List Int):=(List.range j).flatMap fun i=>lsts b f (s+i+1) (pre++[((s+i:Nat):Int)])
theorem ybq (b f s pre j):lstP b f s pre (j+1)=lstP b f s pre j++lsts b f (s+j+1) (pre++[((s+j:Nat):Int)]):=by
  unfold lstP;rw [List.range_succ,List.flatMap_append];simp
theorem zsx (b:Nat): ∀ (f s:Nat) (q pre:List Int),lsts b f s (q++pre)=(lsts b f s pre).map (q++ ·)
  | 0,_,_,_=>rfl
  | f+1,s,q,pre=>by
    rw [lsts,lsts,List.map_flatMap]
    congr 1;funext j
    rw [List.append_assoc,zsx b f]
theorem wqx: ∀ b:Nat,b<7→ ∀ f:Nat,f<7→ ∀ s:Nat,s<8→(lsts b f s []).length≤64:=by decide +kernel
theorem zlz {b f s:Nat} (hb:b≤6) (hf:f≤6) (hs:s≤7) (pre:List Int):(lsts b f s pre).length≤64:=by
  have:=wqx b (by omega) f (by omega) s (by omega)
  have e:=zsx b f s pre []
  rw [List.append_nil] at e
  rw [e,List.length_map];exact this
theorem wgq {b f s:Nat} (hb:b≤6) (hf:f≤6) (pre:List Int): ∀ {j:Nat},s+j≤6→(lstP b f s pre j).length≤j*64
  | 0,_=>by simp [lstP]
  | j+1,h=>by
    rw [ybq,List.length_append]
    have a:=wgq hb hf pre (s:=s) (j:=j) (by omega)
    have c:=zlz hb hf (s:=s+j+1) (by omega) (pre++[((s+j:Nat):Int)])
    omega
theorem ycq {b f s:Nat} (hb:b≤6) (hf:f≤6) {pre:List Int} {j:Nat} {es es2:List (List Value)} (hj:s+j+1≤b) (e1:es.length=(lstP b f s pre j).length) (e2:es2.length=(lsts b f (s+j+1) (pre++[((s+j:Nat):Int)])).length):(es.length+es2.length)*24≤2 ^ 40:=by
  have a:=wgq hb hf pre (s:=s) (j:=j) (by omega)
  have c:=zlz hb hf (s:=s+j+1) (by omega) (pre++[((s+j:Nat):Int)])
  omega
theorem yyw (b:Nat): ∀ (f s:Nat) (pre l:List Int),l∈lsts b f s pre→l.length=pre.length+f
  | 0,_,pre,l,h=>by rw [lsts,List.mem_singleton] at h;subst h;rfl
  | f+1,s,pre,l,h=>by
    rw [lsts] at h
    obtain ⟨j,_,h⟩:=List.mem_flatMap.1 h
    have:=yyw b f _ _ _ h
    simp at this;omega
def AL (n:Nat):List (List Int):=(List.range n).flatMap fun m=>lsts n (m+1) 0 []
theorem vij: ∀ n:Nat,n<7→(AL n).Pairwise prec:=by decide +kernel
theorem vik: ∀ n:Nat,n<7→((AL n).all fun l=>(List.range (2 ^ n)).any fun g=>decide (LG g=l))=true:=by decide +kernel
theorem wxq: ∀ n:Nat,n<7→((List.range (2 ^ n)).all fun g=>decide (g=0) || decide (LG g∈AL n))=true:=by decide +kernel
theorem viw {n m:Nat} (h:m<n) {l:List Int} (hl:l∈lsts n (m+1) 0 []):l∈AL n:=List.mem_flatMap.2 ⟨m,List.mem_range.2 h,hl⟩
theorem viv {n:Nat} (h:n<7) {l:List Int} (hl:l∈AL n): ∃ g,g<2 ^ n∧LG g=l:=by
  obtain ⟨g,hg,e⟩:=List.any_eq_true.1 (List.all_eq_true.1 (vik n h) l hl)
  exact ⟨g,List.mem_range.1 hg,of_decide_eq_true e⟩
theorem viz {n:Nat} (h:n<7) {a b:List Int} (ha:a∈AL n) (hb:b∈AL n):a=b∨prec a b∨prec b a:=by
  obtain ⟨i,hi,rfl⟩:=List.mem_iff_getElem.1 ha
  obtain ⟨j,hj,rfl⟩:=List.mem_iff_getElem.1 hb
  have P:=List.pairwise_iff_getElem.1 (vij n h)
  rcases Nat.lt_trichotomy i j with c | c | c
  · exact .inr (.inl (P i j hi hj c))
  · subst c;exact .inl rfl
  · exact .inr (.inr (P j i hj hi c))
def shL (t:Tn) (l:List Int):Prop:=reachL t l t.nW<wantL t l l.length
theorem yxx {t:Tn} (O:OkT t) {g:Nat} (hg:g<2 ^ t.nH):0<shortN t g↔shL t (LG g):=by
  have h64:g<64:=Nat.lt_of_lt_of_le hg (ylq O.toOk)
  rw [wbw O hg,ypq (wcq O.toOk hg),zez O.toOk (wcq O.toOk hg),← ywq (wmv g h64) (wmw O.toOk hg),← wdk O (LG g)]
  unfold shL;omega
theorem wmk:LG 0=[]:=yuz
theorem zjv {t:Tn} (O:OkT t) {l:List Int} (hl:l∈AL t.nH) (hs:shL t l) (h: ∀ l'∈AL t.nH,prec l' l→ ¬ shL t l'):shortP t=l:=by
  have h6:=O.nh
  obtain ⟨g0,hg0,rfl⟩:=viv (by omega) hl
  rcases ydj O.toOk (2 ^ t.nH) (Nat.le_refl _) with ⟨_,q⟩ | ⟨g,hg,hp,e,q⟩
  · exact absurd ((yxx O hg0).2 hs) (q g0 hg0)
  · have e:shortP t=LG g:=e
    have q: ∀ g',g'<2 ^ t.nH→0<shortN t g'→ ¬ prec (LG g') (shortP t):=q
    have hm:LG g∈AL t.nH:=by
      have:=List.all_eq_true.1 (wxq t.nH (by omega)) g (List.mem_range.2 hg)
      rw [Bool.or_eq_true,decide_eq_true_eq,decide_eq_true_eq] at this
      rcases this with z | z
      · exact absurd (by rw [z];exact wmk) (yaw O.toOk hp)
      · exact z
    rw [e]
    rcases viz (by omega) hm hl with c | c | c
    · exact c
    · exact absurd ((yxx O hg).1 hp) (h _ hm c)
    · exact absurd (by rw [e];exact c) (q g0 hg0 ((yxx O hg0).2 hs))
theorem wbv {t:Tn} (O:OkT t) {k i:Nat} (hk:k<t.nH) (hi:i<(lsts t.nH (k+1) 0 []).length) (hs:shL t ((lsts t.nH (k+1) 0 []).getD i [])) (h1: ∀ m,m<k→ ∀ l∈lsts t.nH (m+1) 0 [],¬ shL t l) (h2: ∀ j,j<i→ ¬ shL t ((lsts t.nH (k+1) 0 []).getD j [])):
    shortP t=(lsts t.nH (k+1) 0 []).getD i []:=by
  have h6:=O.nh
  have hm:(lsts t.nH (k+1) 0 []).getD i []∈lsts t.nH (k+1) 0 []:=by rw [xpq hi];exact List.getElem_mem hi
  have hA:=viw hk hm
  refine zjv O hA hs fun l' hl' hp=>?_
  obtain ⟨m,hmn,hl⟩:=List.mem_flatMap.1 hl'
  have hmn:=List.mem_range.1 hmn
  have e1:=yyw _ _ _ _ _ hl;have e2:=yyw _ _ _ _ _ hm
  simp only [List.length_nil,Nat.zero_add] at e1 e2
  rcases Nat.lt_trichotomy m k with c | c | c
  · exact h1 m c l' hl
  · subst c
    obtain ⟨j,hj,rfl⟩:=List.mem_iff_getElem.1 hl
    have ej:(lsts t.nH (m+1) 0 []).getD j []=(lsts t.nH (m+1) 0 [])[j]:=xpq hj
    rcases Nat.lt_trichotomy j i with d | d | d
    · have:=h2 j d;rwa [ej] at this
    · subst d;rw [← ej] at hp;exact absurd hp (xzz _)
    · exfalso
      have P:(lsts t.nH (m+1) 0 []).Pairwise prec:=by
        have:=vij t.nH (by omega)
        unfold AL at this;rw [List.flatMap_def,List.pairwise_flatten] at this
        exact this.1 _ (List.mem_map.2 ⟨m,List.mem_range.2 hk,rfl⟩)
      have:=List.pairwise_iff_getElem.1 P i j hi hj d
      rw [xpq hi] at hp
      exact xzz _ (ytw hp this)
  · rcases yxw.1 hp with d | d <;> omega
theorem zvw {t:Tn} (O:OkT t) {k:Nat} (hk:k=t.nH) (h1: ∀ m,m<k→ ∀ l∈lsts t.nH (m+1) 0 [],¬ shL t l):shortP t=[]:=by
  subst hk
  have h6:=O.nh
  rcases ydj O.toOk (2 ^ t.nH) (Nat.le_refl _) with ⟨e,_⟩ | ⟨g,hg,hp,e,q⟩
  · exact e
  · exfalso
    have:=List.all_eq_true.1 (wxq t.nH (by omega)) g (List.mem_range.2 hg)
    rw [Bool.or_eq_true,decide_eq_true_eq,decide_eq_true_eq] at this
    rcases this with z | z
    · exact absurd (by rw [z];exact wmk) (yaw O.toOk hp)
    · obtain ⟨m,hm,hl⟩:=List.mem_flatMap.1 z
      exact h1 m (List.mem_range.1 hm) _ hl ((yxx O hg).1 hp)
theorem zwq {t:Tn} {k i:Nat} (h2: ∀ j,j<i→ ¬ shL t ((lsts t.nH (k+1) 0 []).getD j [])) (hi:i=(lsts t.nH (k+1) 0 []).length) (h1: ∀ m,m<k→ ∀ l∈lsts t.nH (m+1) 0 [],¬ shL t l): ∀ m,m<k+1→ ∀ l∈lsts t.nH (m+1) 0 [],¬ shL t l:=fun m hm l hl=>by
  by_cases c:m<k
  · exact h1 m c l hl
  · obtain rfl:m=k:=by omega
    obtain ⟨j,hj,rfl⟩:=List.mem_iff_getElem.1 hl
    have:=h2 j (by omega);rwa [xpq hj] at this
theorem zsz {t:Tn} (O:OkT t) {k i:Nat} (hk:k<t.nH) (hi:i<(lsts t.nH (k+1) 0 []).length):((lsts t.nH (k+1) 0 []).getD i []).length=k+1∧ ∀ j,j<k+1→0≤((lsts t.nH (k+1) 0 []).getD i []).getD j 0∧(((lsts t.nH (k+1) 0 []).getD i []).getD j 0).toNat<t.nH:=by
  have h6:=O.nh
  have hm:(lsts t.nH (k+1) 0 []).getD i []∈lsts t.nH (k+1) 0 []:=by rw [xpq hi];exact List.getElem_mem hi
  have e2:=yyw _ _ _ _ _ hm
  simp only [List.length_nil,Nat.zero_add] at e2
  refine ⟨e2,fun j hj=>?_⟩
  obtain ⟨g,hg,e⟩:=viv (by omega) (viw hk hm)
  have:=wmw O.toOk hg (((lsts t.nH (k+1) 0 []).getD i []).getD j 0) (by rw [e,xpq (show j<((lsts t.nH (k+1) 0 []).getD i []).length by omega)];exact List.getElem_mem _)
  omega
def prL (F:FWay→Nat):List FWay→Nat
  | []=>1
  | x::l=>F x*prL F l
theorem zqz {F:FWay→Nat} {l l':List FWay} (h:l.Perm l'):prL F l=prL F l':=by
  induction h with
  | nil=>rfl
  | cons x _ ih=>rw [prL,prL,ih]
  | swap x y _=>rw [prL,prL,prL,prL,← Nat.mul_assoc,← Nat.mul_assoc,Nat.mul_comm (F y)]
  | trans _ _ a b=>exact a.trans b
theorem weq {F G:FWay→Nat}: ∀ {l:List FWay},(∀ x∈l,F x≤G x)→prL F l≤prL G l
  | [],_=>Nat.le_refl _
  | x::_,h=>Nat.mul_le_mul (h x (List.mem_cons_self ..)) (weq fun y hy=>h y (List.mem_cons_of_mem _ hy))
def facW (t:Tn) (x:FWay):Nat:=(min (t.hv x.1.toNat) (t.wv x.2.toNat)+1).toNat
def facX (t:Tn) (x:FWay):Nat:=(min (t.hv x.1.toNat) (t.wv x.2.toNat+1)+1).toNat
theorem zev {t:Tn}: ∀ (f k:Nat),k+f=t.m→prodW t f k=prL (facW t) (t.wy.drop k)
  | 0,k,h=>by rw [List.drop_of_length_le (by unfold Tn.m at h;omega)];rfl
  | f+1,k,h=>by
    have hk:k<t.wy.length:=by unfold Tn.m at h;omega
    have e:t.wy.getD k (0,0)=t.wy[k]:=by rw [List.getD_eq_getElem?_getD,List.getElem?_eq_getElem hk];rfl
    rw [prodW,zev f (k+1) (by omega),List.drop_eq_getElem_cons hk,prL]
    congr 1
    show (min (t.hv (t.wh k)) (t.wv (t.ww k))+1).toNat=_
    unfold facW Tn.wh Tn.ww;rw [e]
theorem ytv (t:Tn):prodW t t.m 0=prL (facW t) t.wy:=by rw [zev t.m 0 (by omega),List.drop_zero]
theorem zfq {t:Tn} (O:Ok t): ∀ k,k≤t.m→prodM t k=((prL (facX t) (t.wy.take k):Nat):Int)
  | 0,_=>rfl
  | k+1,h=>by
    have hk:k<t.wy.length:=by unfold Tn.m at h;omega
    have e:t.wy.getD k (0,0)=t.wy[k]:=by rw [List.getD_eq_getElem?_getD,List.getElem?_eq_getElem hk];rfl
    rw [prodM,zfq O k (by omega),List.take_succ_eq_append_getElem hk,zqz (l:=t.wy.take k++[t.wy[k]]) List.perm_append_comm]
    show _=(((facX t t.wy[k])*prL (facX t) (t.wy.take k):Nat):Int)
    have p:=(zax O (show k<t.m by omega)).1
    have e2:facM t k=((facX t t.wy[k]:Nat):Int):=by
      unfold facM Tn.wh Tn.ww at *;rw [e] at *;unfold facX;rw [Int.toNat_of_nonneg (by omega)]
    rw [e2,← Int.natCast_mul,Nat.mul_comm]
theorem zfx {t:Tn} (O:Ok t):prodM t t.m=((prL (facX t) t.wy:Nat):Int):=by
  rw [zfq O t.m (Nat.le_refl _),show t.wy.take t.m=t.wy from List.take_of_length_le (Nat.le_refl _)]
theorem wfv {t:Tn} (O:Ok t) {w:Nat} (hw:w<t.nW) (h:prodM t t.m≤2000):prodW (pour t w) (pour t w).m 0≤2000:=by
  rw [zfx O] at h
  rw [ytv]
  have:prL (facW (pour t w)) (pour t w).wy≤prL (facX t) t.wy:=weq fun x _=>by
    have e:(pour t w).wv x.2.toNat≤t.wv x.2.toNat+1:=by
      rw [wex hw];split
      · rename_i c;rw [c];exact Int.le_refl _
      · omega
    unfold facW facX
    have e2:(pour t w).hv x.1.toNat=t.hv x.1.toNat:=rfl
    omega
  omega
theorem wfk {t:Tn} (O:Ok t) {x y:Int} (h:moreB t x y=false) (hx:0≤x∧x≤(t.nH:Int)-1) (hy:0≤y∧y≤(t.nW:Int)-1):prodW (withT t (x,y)) (withT t (x,y)).m 0≤2000:=by
  have h2:=of_decide_eq_false h
  unfold exM at h2;rw [if_pos ⟨hx,hy⟩] at h2
  rw [zfx O] at h2
  rw [ytv]
  have e1:prL (facW (withT t (x,y))) (withT t (x,y)).wy=facW t (x,y)*prL (facW t) t.wy:=(zqz (F:=facW t) (xyx t (x,y)))
  have e2:prL (facW t) t.wy≤prL (facX t) t.wy:=weq fun z _=>by unfold facW facX;omega
  have hh:=O.h x.toNat (by omega);have hw:=O.w y.toNat (by omega)
  have e3:min (t.hv x.toNat) (t.wv y.toNat)+1=((facW t (x,y):Nat):Int):=by unfold facW;exact (Int.toNat_of_nonneg (show 0≤min (t.hv x.toNat) (t.wv y.toNat)+1 by omega)).symm
  rw [e1]
  have e4:facW t (x,y)*prL (facW t) t.wy≤prL (facX t) t.wy*facW t (x,y):=by rw [Nat.mul_comm];exact Nat.mul_le_mul_right _ e2
  have e5:((prL (facX t) t.wy:Nat):Int)*(min (t.hv x.toNat) (t.wv y.toNat)+1)=((prL (facX t) t.wy*facW t (x,y):Nat):Int):=by rw [e3,Int.natCast_mul]
  rw [e5] at h2
  omega
theorem vgv {t:Tn} {x y:Int} (h:moreB t x y=false):prodM t t.m≤2000:=by
  have:=of_decide_eq_false h;omega
theorem vev {t:Tn} {k i:Nat} (h: ∀ j,j<i→ ¬ shL t ((lsts t.nH (k+1) 0 []).getD j [])) (c: ¬ reachL t ((lsts t.nH (k+1) 0 []).getD i []) t.nW<wantL t ((lsts t.nH (k+1) 0 []).getD i []) ((lsts t.nH (k+1) 0 []).getD i []).length): ∀ j,j<i+1→ ¬ shL t ((lsts t.nH (k+1) 0 []).getD j []):=fun j hj=>by
  by_cases e:j=i
  · subst e;exact c
  · exact h j (by omega)
def NoM (t:Tn) (k:Nat):Prop:=∀ m,m<k→ ∀ l∈lsts t.nH (m+1) 0 [],¬ shL t l
def NoI (t:Tn) (k i:Nat):Prop:=∀ j,j<i→ ¬ shL t ((lsts t.nH (k+1) 0 []).getD j [])
end Go.X.Flow
namespace Go.Proofs.YtalfgojocdonhaaDoor
open Go.X Go.X.Flow Go.Conc

theorem ymv (p:PHeap):Ints p none 0 []:=⟨rfl,by simp,fun h=>by omega,fun i e he=>by simp at he⟩
def DivC (f:Nat):Prop:=∀ (md:Md) (h:Heap) (p:PHeap),Per p h→ ∀ (a1 a2 a3:Option Addr) (c1 c2 c3:Nat) (t:Tn),TownP p a1 t.nH a2 t.nW a3 t.m t→(t.nH≤40∧t.nW≤40∧t.m≤41)→OkT t→prodW t t.m 0≤2000→ ∀ (b:Option Addr) (m cb:Nat) (pre:List Int),Ints p b m pre→Pre t pre→m+f=t.m→
  CallsX Tryd.prog md 80 #[.agg #[.slice a1 t.nH c1,.slice a2 t.nW c2,.slice a3 t.m c3],.slice b m cb] h fun v h'=>∃ es X Z,OwnS 22 1 v es X∧Inn p es (divs t f pre) Z∧es.length=(divs t f pre).length∧(∀ u∈es.flatten,isOne u=true)∧New h h' (X++(Z++[]))
theorem vgw {f:Nat} (hrec:DivC f) {md:Md} {h h₀:Heap} {B₀:List Nat} {p:PHeap} {L Xo:Pcs} {v:Value} {pre:List Int} {a1 a2 a3:Option Addr} {c1 c2 c3:Nat} {t:Tn} (o:OwnS 3 1 v (pre.map fun x=>[.int .i64 x]) Xo) (T:TownP p a1 t.nH a2 t.nW a3 t.m t)
    (hn:t.nH≤40∧t.nW≤40∧t.m≤41) (O:OkT t) (hP:prodW t t.m 0≤2000) (D:Pre t pre) (hf:pre.length+f=t.m) (h0:0<pre.length) (s:St h₀ B₀ p h ((Xo++[])++L)):
    CallsX Tryd.prog md 80 #[.agg #[.slice a1 t.nH c1,.slice a2 t.nW c2,.slice a3 t.m c3],v] h fun v' h'=>∃ x,(∃ w es X Z,v'=w∧OwnS 22 1 w es X∧Inn p es (divs t f pre) Z∧es.length=(divs t f pre).length∧(∀ u∈es.flatten,isOne u=true)∧x=X++(Z++[]))∧St h₀ B₀ p h' (x++L):=by
  rw [List.append_nil] at s
  obtain ⟨a',cap,b,ob,rfl,rfl,hp,le,sl⟩:=o.lend (by rw [List.length_map];exact h0) s
  rw [List.length_map] at sl ⊢
  refine (hrec md h _ hp a1 a2 a3 c1 c2 c3 t (T.mono le) hn O hP a' _ cap pre sl D hf).mono fun v' h' ⟨es,X,Z,o',i',l',e',N⟩=>?_
  refine ⟨X++((Z++[(b,ob)])++[]),⟨v',es,X,Z++[(b,ob)],rfl,o',i'.lent le,l',e',rfl⟩,?_⟩
  exact (s.callN N).perm (by simp)
structure DInv (p:PHeap) (t:Tn) (f j:Nat) (pre:List Int) (w:Value) (es:List (List Value)) (X Z:Pcs):Prop where
  hj:((j:Nat):Int)≤most t pre+1
  o:OwnS 22 1 w es X
  i:Inn p es (divP t f pre j) Z
  el:es.length=(divP t f pre j).length
  eo: ∀ u∈es.flatten,isOne u=true
theorem Tab1.const {p:PHeap} {a:Option Addr} {k n:Nat} {A:Nat→Option Addr} {C N:Nat→Nat} {xs:Nat→List Int} (t:Tab1 p a k A C N xs) (h: ∀ i,i<k→N i=n):Tab1 p a k A C (fun _=>n) xs:=
  ⟨t.ne,fun i hi=>by rw [t.cell i hi,h i hi],fun i hi=>by rw [← h i hi];exact t.ints i hi⟩
end Go.Proofs.YtalfgojocdonhaaDoor
namespace Go.Proofs.YtalfgojocdonhaaDoor
open Go.X Go.X.Flow Go.Conc
set_option maxRecDepth 10000
set_option synthInstance.maxSize 2000

set_option maxHeartbeats 2000000
theorem c80s (md:Md) (h:Heap) (p:PHeap) (hp:Per p h) (a1 a2 a3:Option Addr) (c1 c2 c3:Nat) (t:Tn) (T:TownP p a1 t.nH a2 t.nW a3 t.m t) (hn:t.nH≤40∧t.nW≤40∧t.m≤41) (O:OkT t) (hP:prodW t t.m 0≤2000) (b:Option Addr) (m cb:Nat) (pre:List Int) (W:Ints p b m pre) (hD:Pre t pre) (f:Nat) (hf:m+f=t.m) (hrec: ∀ f',f=f'+1→DivC f'):CallsX Tryd.prog md 80 #[.agg #[.slice a1 t.nH c1,.slice a2 t.nW c2,.slice a3 t.m c3],.slice b m cb] h fun v h'=>∃ es X Z,OwnS 22 1 v es X∧Inn p es (divs t f pre) Z∧es.length=(divs t f pre).length∧(∀ u∈es.flatten,isOne u=true)∧New h h' (X++(Z++[])):=by
 refine xcx (Φ:=fun h_=>St h [] p h_ []) Tryd.func80 rfl (tm:=zq32 (zq32 [])) rfl ?_ (St.start h _ hp)
 intro c₀ cs Stop K
 have hm:=W.len
 refine fsr ?_
 refine xij mn (v:=.agg #[.slice a1 t.nH c1,.slice a2 t.nW c2,.slice a3 t.m c3]) rfl fun b1=>xcq (L':=[(b1,.cells #[.slice a1 t.nH c1,.slice a2 t.nW c2,.slice a3 t.m c3] 25 (0,0))]) rfl ?_
 refine ro (xax (v:=.slice none 0 0) rfl) <| ren <| fsr <| rt (xaq (v:=.slice b m cb) rfl) (tm':=zq2 (zq8 _)) rfl <| ro (xfz Tryd.underlying22 rfl) <| ro (xaz xhj rfl (a':=⟨b1,2,none⟩) rfl) ?_
 refine xbx mn (fun h_ H_=>xaj H_ tA23 rfl (i:=0) rfl (v:=.slice a3 t.m c3) rfl) (tm':=zq1 (zq4 (zq8 _))) rfl ?_
 refine ro (xfz Tryd.underlying23 rfl) <| ro (xkw rfl rfl) <| xak ?_
 by_cases cc2:((m:Nat):Int)=((t.m:Nat):Int)
 ·
  refine xdx rfl (dtt cc2) <| fsr <| rt (xaq (v:=.slice b m cb) rfl) (tm':=zq16 _) rfl ?_
  refine xcq (L':=([(b1,.cells #[.slice a1 t.nH c1,.slice a2 t.nW c2,.slice a3 t.m c3] 25 (0,0))]:Pcs)++[]) rfl ?_
  refine xjz ([(b1,.cells #[.slice a1 t.nH c1,.slice a2 t.nW c2,.slice a3 t.m c3] 25 (0,0))]:Pcs) mn Tryd.underlying74 tS22 tZ22 (Nat.le_of_ble_eq_true rfl) (vs:=[(0,.slice b m cb)]) rfl rfl (es:=[[.slice b m cb]]) rfl rfl rfl fun v3 X4 o5=>?_
  refine ro (xax (v:=v3) rfl) <| xak ?_
  refine xdv Tryd.func80 rfl (vs:=[v3]) (fun h_ H_=>⟨v3,_,rfl,rfl,rfl⟩) (v:=v3) rfl ?_
  obtain rfl:f=0:=by omega
  exact fun h_ H_=>K _ _ ⟨_,_,[],o5,Inn.one W,rfl,(by simp [isOne]),by simpa using H_.dropA.new⟩
 ·
  refine xck rfl (dff cc2) <| xcv <| xez ?_
  obtain ⟨f0,rfl⟩: ∃ f0,f=f0+1:=⟨f-1,by omega⟩
  have hw_:=O.wok m (by omega)
  have hme_:=vaz O hm (by omega)
  have hmb_:=zrk hD O.toOk (by omega)
  have hb1_:0≤drawI t pre pre.length (t.wy.getD m wz).1∧drawI t pre pre.length (t.wy.getD m wz).1≤1000*pre.length:=xyz fun i hi=>hD.small O.toOk i hi
  have hb2_:0≤giveI t pre pre.length (t.wy.getD m wz).2∧giveI t pre pre.length (t.wy.getD m wz).2≤1000*pre.length:=xyz fun i hi=>hD.small O.toOk i hi
  have hh_:0≤t.hs.getD (t.wy.getD m wz).1.toNat 0∧t.hs.getD (t.wy.getD m wz).1.toNat 0≤9:=O.h _ hw_.1.2
  have hv_:0≤t.ws.getD (t.wy.getD m wz).2.toNat 0∧t.ws.getD (t.wy.getD m wz).2.toNat 0≤21:=O.w _ hw_.2.2
  refine xbq <| rt (xaz xhj rfl (a':=⟨b1,2,none⟩) rfl) (tm':=zq2 (zq16 _)) rfl <| rd (fun h_ H_=>xaj H_ tA23 rfl (i:=0) rfl (v:=.slice a3 t.m c3) rfl) <| ro (xaq (v:=.slice b m cb) rfl) <| rt (xfz Tryd.underlying22 rfl) (tm':=zq1 (zq4 (zq16 _))) rfl ?_
  refine ro (xbw (i:=m) Tryd.underlying23 tS43 (xjq a3 t.m c3 (T.y.ne (by omega))) rfl (by omega)) ?_
  refine rd (fun h_ H_=>xgw H_ tA43 tS43 rfl (vs:=[.int .i64 ((t.wy.getD m wz).1),.int .i64 ((t.wy.getD m wz).2)]) rfl (T.y.all (by omega))) ?_
  refine xkx mn tZ43 rfl fun b6=>xcq (L':=[(b6,.cells #[.int .i64 0,.int .i64 0] 43 (0,0)),(b1,.cells #[.slice a1 t.nH c1,.slice a2 t.nW c2,.slice a3 t.m c3] 25 (0,0))]) rfl ?_
  refine xfj (tm':=zq2 (zq4 _)) rfl ?_
  refine xik mn tS43 rfl (v:=.agg #[.int .i64 ((t.wy.getD m wz).1),.int .i64 ((t.wy.getD m wz).2)]) rfl (i:=0) rfl rfl rfl (Nat.le_of_ble_eq_true rfl) (cs2:=[.int .i64 ((t.wy.getD m wz).1),.int .i64 ((t.wy.getD m wz).2)]) rfl (xcq (L':=[(b6,.cells #[.int .i64 ((t.wy.getD m wz).1),.int .i64 ((t.wy.getD m wz).2)] 43 (0,0)),(b1,.cells #[.slice a1 t.nH c1,.slice a2 t.nW c2,.slice a3 t.m c3] 25 (0,0))]) rfl ?_)
  refine ren ?_
  refine xgx 24 [[],[0],[],[2],[0,1,2,3],[0,1,2,3,4],[],[],[],[8],[6,7,8,9],[0,1,2,3,4,5],[],[12],[],[14],[12,13,14,15],[12,13,14,15,16],[],[],[],[20],[6,7,8,9,10,18,19,20,21],[6,7,8,9,10,12,13,14,15,16,17,18,19,20,21,22],[],[]] xkk (by kernel_rfl) (Nat.le_of_ble_eq_true rfl) ?_
  refine wo (xaz xnx rfl (a':=⟨b1,0,none⟩) rfl) ?_
  refine xbk mn (fun h_ H_=>xaj H_ tA22 rfl (i:=1) rfl (v:=.slice a1 t.nH c1) rfl) (tm':=zq1 (zq8 (zq16 _))) rfl ?_
  refine wo (xaz xoj rfl (a':=⟨b6,0,none⟩) rfl) ?_
  refine xbk mn (fun h_ H_=>xaj H_ tA3 rfl (i:=0) rfl (v:=.int .i64 ((t.wy.getD m wz).1)) rfl) (tm':=zq1 (zq2 (zq8 (zq16 _)))) rfl ?_
  refine wo (xkz Tryd.underlying22 tS3 (xjq a1 t.nH c1 (T.h.ne (by omega))) rfl (by omega) (by omega) (a':=(adr a1).add (((((t.wy.getD m wz).1)).toNat)*1)) rfl) ?_
  refine xbk mn (fun h_ H_=>xbj H_ tA3 rfl (v:=.int .i64 (t.hs.getD ((((t.wy.getD m wz).1)).toNat) 0)) (T.h.get (by omega))) (tm':=zq1 (zq4 (zq8 (zq16 _)))) rfl ?_
  refine wd (fun h_ H_=>xav H_ tA25 tS25 rfl (i:=1) rfl (vs:=[.slice a1 t.nH c1,.slice a2 t.nW c2,.slice a3 t.m c3]) rfl rfl) <| wt (xaq (v:=.slice b m cb) rfl) (tm':=zq1 (zq2 (zq4 (zq8 (zq16 _))))) rfl <| wo (xaz xoj rfl (a':=⟨b6,0,none⟩) rfl) ?_
  refine xbk mn (fun h_ H_=>xaj H_ tA3 rfl (i:=0) rfl (v:=.int .i64 ((t.wy.getD m wz).1)) rfl) (tm':=zq1 (zq32 _)) rfl ?_
  refine xiv mn (first:=[]) (cap:=[]) rfl rfl fC34 (fun h_ H_=>(c34 md _ _ H_.pe _ _ _ _ _ _ _ _ _ t (show TownP _ _ _ _ _ _ _ t from ⟨T.h,T.w,T.y⟩) (by omega) _ _ _ _ W (by omega) (fun i hi=>hD.small O.toOk i (by omega)) ((t.wy.getD m wz).1)).mono fun v_ h2_ ⟨e_,k_⟩=>⟨e_,H_.call k_⟩) rfl ?_
  refine wt (xkj rfl rfl (wr (by omega))) (tm':=zq1 (zq2 (zq32 _))) rfl ?_
  refine wo (xaz xnk rfl (a':=⟨b1,1,none⟩) rfl) ?_
  refine xbk mn (fun h_ H_=>xaj H_ tA22 rfl (i:=1) rfl (v:=.slice a2 t.nW c2) rfl) (tm':=zq1 (zq4 (zq32 _))) rfl ?_
  refine wo (xaz xqv rfl (a':=⟨b6,1,none⟩) rfl) ?_
  refine xbk mn (fun h_ H_=>xaj H_ tA3 rfl (i:=0) rfl (v:=.int .i64 ((t.wy.getD m wz).2)) rfl) (tm':=zq1 (zq2 (zq4 (zq32 _)))) rfl ?_
  refine wo (xkz Tryd.underlying22 tS3 (xjq a2 t.nW c2 (T.w.ne (by omega))) rfl (by omega) (by omega) (a':=(adr a2).add (((((t.wy.getD m wz).2)).toNat)*1)) rfl) ?_
  refine xbk mn (fun h_ H_=>xbj H_ tA3 rfl (v:=.int .i64 (t.ws.getD ((((t.wy.getD m wz).2)).toNat) 0)) (T.w.get (by omega))) (tm':=zq1 (zq8 (zq32 _))) rfl ?_
  refine wd (fun h_ H_=>xav H_ tA25 tS25 rfl (i:=1) rfl (vs:=[.slice a1 t.nH c1,.slice a2 t.nW c2,.slice a3 t.m c3]) rfl rfl) <| wt (xaq (v:=.slice b m cb) rfl) (tm':=zq32 (zq32 [])) rfl <| wo (xaz xqv rfl (a':=⟨b6,1,none⟩) rfl) ?_
  refine xbk mn (fun h_ H_=>xaj H_ tA3 rfl (i:=0) rfl (v:=.int .i64 ((t.wy.getD m wz).2)) rfl) (tm':=zq32 (zq32 [])) rfl ?_
  refine xiv mn (first:=[]) (cap:=[]) rfl rfl fC62 (fun h_ H_=>(c62 md _ _ H_.pe _ _ _ _ _ _ _ _ _ t (show TownP _ _ _ _ _ _ _ t from ⟨T.h,T.w,T.y⟩) (by omega) _ _ _ _ W (by omega) (fun i hi=>hD.small O.toOk i (by omega)) ((t.wy.getD m wz).2)).mono fun v_ h2_ ⟨e_,k_⟩=>⟨e_,H_.call k_⟩) rfl ?_
  refine wt (xkj rfl rfl (wr (by omega))) (tm':=zq32 (zq32 [])) rfl ?_
  refine xiz rfl ?_
  refine ro (zaj rfl rfl) <| ro (xax (v:=.int .i64 (min ((t.hs.getD ((((t.wy.getD m wz).1)).toNat) 0)-(drawI t pre pre.length ((t.wy.getD m wz).1))) ((t.ws.getD ((((t.wy.getD m wz).2)).toNat) 0)-(giveI t pre pre.length ((t.wy.getD m wz).2))))) rfl) <| ren <| xbq <| rt (xax (v:=.slice none 0 0) rfl) (tm':=zq8 _) rfl <| ren ?_
  refine fsr <| ro (xax (v:=.int .i64 0) rfl) <| xak <| xdj ?_
  refine xhk (m₀:=(most t pre+1).toNat-0) (fun m_ tm_ h_=>∃ (j:Nat) (w:Value) (es:List (List Value)) (X:Pcs) (Z:Pcs),m_=(most t pre+1).toNat-j∧(∃ y7:Nat→Value,tm_=[.agg #[.slice a1 t.nH c1,.slice a2 t.nW c2,.slice a3 t.m c3],.slice b m cb,.pointer (some ⟨b1,0,none⟩),undef,.slice none 0 0,.pointer (some ⟨b6,0,none⟩),.int .i64 (min ((t.hs.getD ((((t.wy.getD m wz).1)).toNat) 0)-(drawI t pre pre.length ((t.wy.getD m wz).1))) ((t.ws.getD ((((t.wy.getD m wz).2)).toNat) 0)-(giveI t pre pre.length ((t.wy.getD m wz).2)))),w,.int .i64 (((j:Nat):Int)),.slice b m cb,.int .i64 (((m:Nat):Int)),.pointer (some ⟨b1,2,none⟩),.slice a3 t.m c3,.int .i64 (((t.m:Nat):Int)),.bool (decide (((m:Nat):Int)=((t.m:Nat):Int))),undef,undef,.pointer (some ⟨b1,2,none⟩),.slice a3 t.m c3,.slice b m cb,.int .i64 (((m:Nat):Int)),.pointer (some ((adr a3).add (m*2))),.agg #[.int .i64 ((t.wy.getD m wz).1),.int .i64 ((t.wy.getD m wz).2)],.pointer (some ⟨b1,0,none⟩),.slice a1 t.nH c1,.pointer (some ⟨b6,0,none⟩),.int .i64 ((t.wy.getD m wz).1),.pointer (some ((adr a1).add (((((t.wy.getD m wz).1)).toNat)*1))),.int .i64 (t.hs.getD ((((t.wy.getD m wz).1)).toNat) 0),.agg #[.slice a1 t.nH c1,.slice a2 t.nW c2,.slice a3 t.m c3],.slice b m cb,.pointer (some ⟨b6,0,none⟩),.int .i64 ((t.wy.getD m wz).1),.int .i64 (drawI t pre pre.length ((t.wy.getD m wz).1)),.int .i64 ((t.hs.getD ((((t.wy.getD m wz).1)).toNat) 0)-(drawI t pre pre.length ((t.wy.getD m wz).1))),.pointer (some ⟨b1,1,none⟩),.slice a2 t.nW c2,.pointer (some ⟨b6,1,none⟩),.int .i64 ((t.wy.getD m wz).2),.pointer (some ((adr a2).add (((((t.wy.getD m wz).2)).toNat)*1))),.int .i64 (t.ws.getD ((((t.wy.getD m wz).2)).toNat) 0),.agg #[.slice a1 t.nH c1,.slice a2 t.nW c2,.slice a3 t.m c3],.slice b m cb,.pointer (some ⟨b6,1,none⟩),.int .i64 ((t.wy.getD m wz).2),.int .i64 (giveI t pre pre.length ((t.wy.getD m wz).2)),.int .i64 ((t.ws.getD ((((t.wy.getD m wz).2)).toNat) 0)-(giveI t pre pre.length ((t.wy.getD m wz).2))),.int .i64 (min ((t.hs.getD ((((t.wy.getD m wz).1)).toNat) 0)-(drawI t pre pre.length ((t.wy.getD m wz).1))) ((t.ws.getD ((((t.wy.getD m wz).2)).toNat) 0)-(giveI t pre pre.length ((t.wy.getD m wz).2)))),(y7 48),(y7 49),(y7 50),(y7 51),(y7 52),(y7 53),(y7 54),(y7 55),(y7 56),(y7 57),(y7 58),(y7 59),(y7 60),(y7 61),(y7 62),undef])∧(DInv p t f0 j pre w es X Z)∧St h [] p h_ (([(b6,.cells #[.int .i64 ((t.wy.getD m wz).1),.int .i64 ((t.wy.getD m wz).2)] 43 (0,0)),(b1,.cells #[.slice a1 t.nH c1,.slice a2 t.nW c2,.slice a3 t.m c3] 25 (0,0))]:Pcs)++(X++(Z++[])))) (fun h_ H_=>⟨0,_,_,[],[],rfl,(y_of rfl),⟨(by omega),OwnS.empty _ _,Inn.nil,rfl,(by simp)⟩,H_⟩) ?_
  intro m_ tm_ IH8
  refine xhq fun j=>xhq fun w=>xhq fun es=>xhq fun X=>xhq fun Z=>xcz fun hm_=>xcz fun ht_=>xcz fun hI=>?_
  subst hm_;obtain ⟨y7,ht_⟩:=ht_;subst ht_
  have hj:=hI.hj;have o:=hI.o;have i_:=hI.i;have el:=hI.el;have eo:=hI.eo
  refine xez <| fsr <| ro (xaq (v:=.int .i64 (((j:Nat):Int))) rfl) <| rt (xaq (v:=.int .i64 (min ((t.hs.getD ((((t.wy.getD m wz).1)).toNat) 0)-(drawI t pre pre.length ((t.wy.getD m wz).1))) ((t.ws.getD ((((t.wy.getD m wz).2)).toNat) 0)-(giveI t pre pre.length ((t.wy.getD m wz).2))))) rfl) (tm':=zq32 (zq32 [])) rfl <| ro (yez rfl rfl) <| xak ?_
  by_cases cc9:((j:Nat):Int)≤min ((t.hs.getD ((((t.wy.getD m wz).1)).toNat) 0)-(drawI t pre pre.length ((t.wy.getD m wz).1))) ((t.ws.getD ((((t.wy.getD m wz).2)).toNat) 0)-(giveI t pre pre.length ((t.wy.getD m wz).2)))
  ·
   refine xdx rfl (dtt cc9) <| xcv <| xez <| xdj ?_
   obtain ⟨Gw12,Ges13,GX14,GZ15,hG8_⟩:=sk4 (fun (v_:Value) (x_:Pcs) (w12:Value) (es13:List (List Value)) (X14:Pcs) (Z15:Pcs)=>v_=w12∧(OwnS 22 1 w12 es13 X14)∧(Inn p es13 (divs t f0 (pre++[((j:Nat):Int)])) Z15)∧(es13.length=(divs t f0 (pre++[((j:Nat):Int)])).length)∧(∀ u∈es13.flatten,isOne u=true)∧x_=(X14++(Z15++[])))
   refine xxv (xlx (C:=[]) (A:=([(b6,.cells #[.int .i64 ((t.wy.getD m wz).1),.int .i64 ((t.wy.getD m wz).2)] 43 (0,0)),(b1,.cells #[.slice a1 t.nH c1,.slice a2 t.nW c2,.slice a3 t.m c3] 25 (0,0))]:Pcs)) 9 [[],[],[],[],[2,3],[],[5],[2,3,4,5,6],[1,2,3,4,5,6,7],[],[]] [9,10] [9,10,8] [0,1,3,5] (fun i_=>match i_ with | 9=>X | 10=>Z | _=>[]) (fun i_=>match i_ with | 4=>[2] | 7=>[4,6] | 8=>[7] | _=>[]) (fun i_=>match i_ with | 0=>[] | 1=>[] | 2=>[] | 3=>[] | 4=>[2,3] | 5=>[] | 6=>[5] | 7=>[4,6] | 8=>[1,7] | _=>[]) (fun i_ val_ pc_ v_ x_=>match i_ with | 0=>v_=w∧x_=[] | 1=>v_= .agg #[.slice a1 t.nH c1,.slice a2 t.nW c2,.slice a3 t.m c3]∧x_=[] | 2=>OwnS 3 1 v_ [] x_ | 3=>v_= .slice b m cb∧x_=[] | 4=>OwnS 3 1 v_ ([]++(pre.map fun x=>[Value.int .i64 x])) x_ | 5=>v_= .int .i64 (((j:Nat):Int))∧x_=[] | 6=>OwnS 3 1 v_ [[.int .i64 (((j:Nat):Int))]] x_ | 7=>OwnS 3 1 v_ (([]++(pre.map fun x=>[Value.int .i64 x]))++[[.int .i64 (((j:Nat):Int))]]) x_ | 8=>∃ w12:Value,∃ es13:List (List Value),∃ X14:Pcs,∃ Z15:Pcs,v_=w12∧(OwnS 22 1 w12 es13 X14)∧(Inn p es13 (divs t f0 (pre++[((j:Nat):Int)])) Z15)∧(es13.length=(divs t f0 (pre++[((j:Nat):Int)])).length)∧(∀ u∈es13.flatten,isOne u=true)∧x_=(X14++(Z15++[])) | _=>True) (fun val10=>[.agg #[.slice a1 t.nH c1,.slice a2 t.nW c2,.slice a3 t.m c3],.slice b m cb,.pointer (some ⟨b1,0,none⟩),undef,.slice none 0 0,.pointer (some ⟨b6,0,none⟩),.int .i64 (min ((t.hs.getD ((((t.wy.getD m wz).1)).toNat) 0)-(drawI t pre pre.length ((t.wy.getD m wz).1))) ((t.ws.getD ((((t.wy.getD m wz).2)).toNat) 0)-(giveI t pre pre.length ((t.wy.getD m wz).2)))),w,.int .i64 (((j:Nat):Int)),.slice b m cb,.int .i64 (((m:Nat):Int)),.pointer (some ⟨b1,2,none⟩),.slice a3 t.m c3,.int .i64 (((t.m:Nat):Int)),.bool (decide (((m:Nat):Int)=((t.m:Nat):Int))),undef,undef,.pointer (some ⟨b1,2,none⟩),.slice a3 t.m c3,.slice b m cb,.int .i64 (((m:Nat):Int)),.pointer (some ((adr a3).add (m*2))),.agg #[.int .i64 ((t.wy.getD m wz).1),.int .i64 ((t.wy.getD m wz).2)],.pointer (some ⟨b1,0,none⟩),.slice a1 t.nH c1,.pointer (some ⟨b6,0,none⟩),.int .i64 ((t.wy.getD m wz).1),.pointer (some ((adr a1).add (((((t.wy.getD m wz).1)).toNat)*1))),.int .i64 (t.hs.getD ((((t.wy.getD m wz).1)).toNat) 0),.agg #[.slice a1 t.nH c1,.slice a2 t.nW c2,.slice a3 t.m c3],.slice b m cb,.pointer (some ⟨b6,0,none⟩),.int .i64 ((t.wy.getD m wz).1),.int .i64 (drawI t pre pre.length ((t.wy.getD m wz).1)),.int .i64 ((t.hs.getD ((((t.wy.getD m wz).1)).toNat) 0)-(drawI t pre pre.length ((t.wy.getD m wz).1))),.pointer (some ⟨b1,1,none⟩),.slice a2 t.nW c2,.pointer (some ⟨b6,1,none⟩),.int .i64 ((t.wy.getD m wz).2),.pointer (some ((adr a2).add (((((t.wy.getD m wz).2)).toNat)*1))),.int .i64 (t.ws.getD ((((t.wy.getD m wz).2)).toNat) 0),.agg #[.slice a1 t.nH c1,.slice a2 t.nW c2,.slice a3 t.m c3],.slice b m cb,.pointer (some ⟨b6,1,none⟩),.int .i64 ((t.wy.getD m wz).2),.int .i64 (giveI t pre pre.length ((t.wy.getD m wz).2)),.int .i64 ((t.ws.getD ((((t.wy.getD m wz).2)).toNat) 0)-(giveI t pre pre.length ((t.wy.getD m wz).2))),.int .i64 (min ((t.hs.getD ((((t.wy.getD m wz).1)).toNat) 0)-(drawI t pre pre.length ((t.wy.getD m wz).1))) ((t.ws.getD ((((t.wy.getD m wz).2)).toNat) 0)-(giveI t pre pre.length ((t.wy.getD m wz).2)))),.int .i64 (((j:Nat):Int)),.int .i64 (min ((t.hs.getD ((((t.wy.getD m wz).1)).toNat) 0)-(drawI t pre pre.length ((t.wy.getD m wz).1))) ((t.ws.getD ((((t.wy.getD m wz).2)).toNat) 0)-(giveI t pre pre.length ((t.wy.getD m wz).2)))),.bool (decide (((j:Nat):Int)≤min ((t.hs.getD ((((t.wy.getD m wz).1)).toNat) 0)-(drawI t pre pre.length ((t.wy.getD m wz).1))) ((t.ws.getD ((((t.wy.getD m wz).2)).toNat) 0)-(giveI t pre pre.length ((t.wy.getD m wz).2))))),(y7 51),(y7 52),(val10 0),(val10 1),(val10 2),(val10 3),(val10 4),(val10 5),(val10 6),(val10 7),(val10 8),(y7 62),undef]) xkk (by kernel_rfl) (Nat.le_of_ble_eq_true rfl) (by kernel_rfl) (by kernel_rfl) (by kernel_rfl) (fun _ _=>⟨fun _ _ h=>h.2,⟨fun _ _ h=>h.2,⟨fun _ _ h=>h.2,⟨fun _ _ h=>h.2,trivial⟩⟩⟩⟩) (fun _=>by kernel_rfl) (by kernel_rfl) ?_ ?_) (fun h_ H_=>St.swap (A:=([(b6,.cells #[.int .i64 ((t.wy.getD m wz).1),.int .i64 ((t.wy.getD m wz).2)] 43 (0,0)),(b1,.cells #[.slice a1 t.nH c1,.slice a2 t.nW c2,.slice a3 t.m c3] 25 (0,0))]:Pcs)) (U:=(X++(Z++[]))) H_)
   ·
    refine xaw rfl (xdk ?_) ?_
    ·
     intro val10 pc11 hQ_ hX_
     obtain ⟨q_,hq0_⟩: ∃ q_:Value→Pcs→Prop,q_=(fun v_ x_=>v_=w∧x_=[]):=⟨_,rfl⟩
     refine ⟨(zq32 (zq32 [])),[],q_,rfl,rfl,(fun _ _ z_=>by subst hq0_;exact z_),?_⟩
     subst hq0_
     exact xdw mn (fun _ h_ H_=>xaq (v:=w) rfl) ⟨rfl,rfl⟩
    refine xaw rfl (xdk ?_) ?_
    ·
     intro val10 pc11 hQ_ hX_
     obtain ⟨q_,hq0_⟩: ∃ q_:Value→Pcs→Prop,q_=(fun v_ x_=>v_= .agg #[.slice a1 t.nH c1,.slice a2 t.nW c2,.slice a3 t.m c3]∧x_=[]):=⟨_,rfl⟩
     refine ⟨(zq32 (zq32 [])),[],q_,rfl,rfl,(fun _ _ z_=>by subst hq0_;exact z_),?_⟩
     subst hq0_
     exact xdw mn (fun _ h_ H_=>xav H_ tA25 tS25 rfl (i:=1) rfl (vs:=[.slice a1 t.nH c1,.slice a2 t.nW c2,.slice a3 t.m c3]) rfl rfl) ⟨rfl,rfl⟩
    refine xaw rfl (xdk ?_) ?_
    ·
     intro val10 pc11 hQ_ hX_
     obtain ⟨q_,hq0_⟩: ∃ q_:Value→Pcs→Prop,q_=(fun v_ x_=>OwnS 3 1 v_ [] x_):=⟨_,rfl⟩
     refine ⟨(zq32 (zq32 [])),[],q_,rfl,rfl,(fun _ _ z_=>by subst hq0_;exact z_),?_⟩
     subst hq0_
     exact xmw mn Tryd.underlying22 tS3 tZ3 (Nat.le_of_ble_eq_true rfl) (vs:=[]) rfl rfl (es:=[]) rfl rfl rfl fun _ _ o_=>o_
    refine xaw rfl (xdk ?_) ?_
    ·
     intro val10 pc11 hQ_ hX_
     obtain ⟨q_,hq0_⟩: ∃ q_:Value→Pcs→Prop,q_=(fun v_ x_=>v_= .slice b m cb∧x_=[]):=⟨_,rfl⟩
     refine ⟨(zq32 (zq32 [])),[],q_,rfl,rfl,(fun _ _ z_=>by subst hq0_;exact z_),?_⟩
     subst hq0_
     exact xdw mn (fun _ h_ H_=>xaq (v:=.slice b m cb) rfl) ⟨rfl,rfl⟩
    refine xaw rfl (xdk ?_) ?_
    ·
     intro val10 pc11 hQ_ hX_
     have q2_:OwnS 3 1 (val10 2) [] (pc11 2):=hQ_ 2 rfl
     have e3_:val10 3= .slice b m cb:=(hQ_ 3 rfl).1
     obtain ⟨q_,hq0_⟩: ∃ q_:Value→Pcs→Prop,q_=(fun v_ x_=>OwnS 3 1 v_ ([]++(pre.map fun x=>[Value.int .i64 x])) x_):=⟨_,rfl⟩
     refine ⟨(zq32 (zq32 [])),((pc11 2)++[]),q_,(by rw [e3_]),rfl,(fun _ _ z_=>by subst hq0_;exact z_),?_⟩
     subst hq0_
     exact xvw mn Tryd.underlying22 tS3 tZ3 rfl tB3 Tryd.underlying22 rfl rfl q2_ W (xrv _) (by first | exact zbx O.toOk hP hD (by omega) (by omega) el ‹_› | (simp;omega)) (by decide) (by decide) fun _ _ o_=>o_
    refine xaw rfl (xdk ?_) ?_
    ·
     intro val10 pc11 hQ_ hX_
     obtain ⟨q_,hq0_⟩: ∃ q_:Value→Pcs→Prop,q_=(fun v_ x_=>v_= .int .i64 (((j:Nat):Int))∧x_=[]):=⟨_,rfl⟩
     refine ⟨(zq32 (zq32 [])),[],q_,rfl,rfl,(fun _ _ z_=>by subst hq0_;exact z_),?_⟩
     subst hq0_
     exact xdw mn (fun _ h_ H_=>xaq (v:=.int .i64 (((j:Nat):Int))) rfl) ⟨rfl,rfl⟩
    refine xaw rfl (xdk ?_) ?_
    ·
     intro val10 pc11 hQ_ hX_
     have e5_:val10 5= .int .i64 (((j:Nat):Int)):=(hQ_ 5 rfl).1
     obtain ⟨q_,hq0_⟩: ∃ q_:Value→Pcs→Prop,q_=(fun v_ x_=>OwnS 3 1 v_ [[.int .i64 (((j:Nat):Int))]] x_):=⟨_,rfl⟩
     refine ⟨(zq32 (zq32 [])),[],q_,(by rw [e5_]),rfl,(fun _ _ z_=>by subst hq0_;exact z_),?_⟩
     subst hq0_
     exact xmw mn Tryd.underlying22 tS3 tZ3 (Nat.le_of_ble_eq_true rfl) (vs:=[(0,.int .i64 (((j:Nat):Int)))]) rfl rfl (es:=[[.int .i64 (((j:Nat):Int))]]) rfl rfl rfl fun _ _ o_=>o_
    refine xaw rfl (xdk ?_) ?_
    ·
     intro val10 pc11 hQ_ hX_
     have q4_:OwnS 3 1 (val10 4) ([]++(pre.map fun x=>[Value.int .i64 x])) (pc11 4):=hQ_ 4 rfl
     have q6_:OwnS 3 1 (val10 6) [[.int .i64 (((j:Nat):Int))]] (pc11 6):=hQ_ 6 rfl
     obtain ⟨q_,hq0_⟩: ∃ q_:Value→Pcs→Prop,q_=(fun v_ x_=>OwnS 3 1 v_ (([]++(pre.map fun x=>[Value.int .i64 x]))++[[.int .i64 (((j:Nat):Int))]]) x_):=⟨_,rfl⟩
     refine ⟨(zq32 (zq32 [])),((pc11 4)++((pc11 6)++[])),q_,rfl,rfl,(fun _ _ z_=>by subst hq0_;exact z_),?_⟩
     subst hq0_
     exact yjx mn Tryd.underlying22 tS3 tZ3 rfl tB3 Tryd.underlying22 rfl rfl q4_ q6_ (xtx rfl) (by first | exact zbx O.toOk hP hD (by omega) (by omega) el ‹_› | (simp;omega)) (by decide) fun _ _ o_=>o_
    refine xaw rfl (xdk ?_) ?_
    ·
     intro val10 pc11 hQ_ hX_
     have e1_:val10 1= .agg #[.slice a1 t.nH c1,.slice a2 t.nW c2,.slice a3 t.m c3]:=(hQ_ 1 rfl).1
     have q7_:OwnS 3 1 (val10 7) (([]++(pre.map fun x=>[Value.int .i64 x]))++[[.int .i64 (((j:Nat):Int))]]) (pc11 7):=hQ_ 7 rfl
     obtain ⟨q_,hq0_⟩: ∃ q_:Value→Pcs→Prop,q_=(fun v_ x_=>∃ w12:Value,∃ es13:List (List Value),∃ X14:Pcs,∃ Z15:Pcs,v_=w12∧(OwnS 22 1 w12 es13 X14)∧(Inn p es13 (divs t f0 (pre++[((j:Nat):Int)])) Z15)∧(es13.length=(divs t f0 (pre++[((j:Nat):Int)])).length)∧(∀ u∈es13.flatten,isOne u=true)∧x_=(X14++(Z15++[]))):=⟨_,rfl⟩
     refine ⟨(zq32 (zq32 [])),((pc11 7)++[]),q_,(by rw [e1_]),rfl,(fun _ _ z_=>by subst hq0_;exact z_),?_⟩
     subst hq0_
     exact xok mn (first:=[]) (cap:=[]) rfl rfl fC80 (fun _ h_ H_=>vgw (hrec _ rfl) (pre:=pre++[((j:Nat):Int)]) (q7_.as (by simp)) (show TownP _ _ _ _ _ _ _ t from ⟨T.h,T.w,T.y⟩) hn O hP (hD.next (by omega) (by omega) (by omega)) (by simp;omega) (by simp) H_)
    exact xlq rfl
   intro val10 pc11 hQ_ hX_
   have e0_:val10 0=w:=(hQ_ 0 (by decide)).1
   have e1_:val10 1= .agg #[.slice a1 t.nH c1,.slice a2 t.nW c2,.slice a3 t.m c3]:=(hQ_ 1 (by decide)).1
   have e3_:val10 3= .slice b m cb:=(hQ_ 3 (by decide)).1
   have e5_:val10 5= .int .i64 (((j:Nat):Int)):=(hQ_ 5 (by decide)).1
   obtain ⟨e8_,o16,i17,el18,eo19,x8_⟩:=hG8_ _ _ (hQ_ 8 (by decide))
   have x9_:pc11 9=X:=hX_ 9 (by decide)
   have x10_:pc11 10=Z:=hX_ 10 (by decide)
   clear hQ_ hX_
   generalize Gw12 (val10 8) (pc11 8)=w12 at*
   generalize Ges13 (val10 8) (pc11 8)=es13 at*
   generalize GX14 (val10 8) (pc11 8)=X14 at*
   generalize GZ15 (val10 8) (pc11 8)=Z15 at*
   refine xww (Φ:=fun h_=>St h [] p h_ (([(b6,.cells #[.int .i64 ((t.wy.getD m wz).1),.int .i64 ((t.wy.getD m wz).2)] 43 (0,0)),(b1,.cells #[.slice a1 t.nH c1,.slice a2 t.nW c2,.slice a3 t.m c3] 25 (0,0))]:Pcs)++(pc11 9++(pc11 10++(pc11 8++[]))))) ?_ (fun h_ H_=>H_.swap')
   rw [x9_,x10_,x8_]
   refine xcq (L':=([(b6,.cells #[.int .i64 ((t.wy.getD m wz).1),.int .i64 ((t.wy.getD m wz).2)] 43 (0,0)),(b1,.cells #[.slice a1 t.nH c1,.slice a2 t.nW c2,.slice a3 t.m c3] 25 (0,0))]:Pcs)++(X++(Z++(X14++(Z15++[]))))) (by simp) ?_
   refine xfj (tm':=(zq32 (zq32 []))) (by rw [e0_,e1_,e3_,e5_,e8_]) ?_
   refine xjj (List.Perm.append_left _ (List.Perm.append_left _ (List.perm_append_comm_assoc _ _ _))) ?_
   refine xcq (L':=([(b6,.cells #[.int .i64 ((t.wy.getD m wz).1),.int .i64 ((t.wy.getD m wz).2)] 43 (0,0)),(b1,.cells #[.slice a1 t.nH c1,.slice a2 t.nW c2,.slice a3 t.m c3] 25 (0,0))]:Pcs)++(X++(X14++(Z++(Z15++[]))))) rfl ?_
   refine xmv ([(b6,.cells #[.int .i64 ((t.wy.getD m wz).1),.int .i64 ((t.wy.getD m wz).2)] 43 (0,0)),(b1,.cells #[.slice a1 t.nH c1,.slice a2 t.nW c2,.slice a3 t.m c3] 25 (0,0))]:Pcs) X X14 mn Tryd.underlying74 tS22 tZ22 rfl tB22 Tryd.underlying74 rfl rfl o o16 eo19 (by first | exact zbx O.toOk hP hD (by omega) (by omega) el ‹_› | (simp;omega)) (by decide) fun v26 X27 o28=>?_
   refine ro (xax (v:=v26) rfl) <| xak <| xdq <| xbq <| rt (xaq (v:=.int .i64 (((j:Nat):Int))) rfl) (tm':=zq32 (zq32 [])) rfl ?_
   refine ro (xek rfl rfl (n:=((j+1:Nat):Int)) (wr (by omega))) ?_
   refine ro (xax (v:=.int .i64 (((j+1:Nat):Int))) rfl) <| xak ?_
   refine xlk (L':=([(b6,.cells #[.int .i64 ((t.wy.getD m wz).1),.int .i64 ((t.wy.getD m wz).2)] 43 (0,0)),(b1,.cells #[.slice a1 t.nH c1,.slice a2 t.nW c2,.slice a3 t.m c3] 25 (0,0))]:Pcs)++(X27++((Z++Z15)++[]))) (by simp) ?_
   exact fun h_ H_=>IH8 _ _ (by omega) h_ ⟨j+1,v26,_,X27,(Z++Z15),rfl,(y_of rfl),⟨(by omega),o28,((i_.app i17).as (by rw [ysj]) rfl),(by rw [List.length_append,el,el18,ysj,List.length_append]),(yyk eo eo19)⟩,H_⟩
  ·
   refine xck rfl (dff cc9) <| xhz rfl <| fsr <| rt (xaq (v:=w) rfl) (tm':=zq32 (zq32 [])) rfl <| ro (xax (v:=w) rfl) <| xak ?_
   refine xdv Tryd.func80 rfl (vs:=[w]) (fun h_ H_=>⟨w,_,rfl,rfl,rfl⟩) (v:=w) rfl ?_
   have hjj:j=(most t pre+1).toNat:=by omega
   subst hjj
   exact fun h_ H_=>K _ _ ⟨_,_,_,o,i_,el,eo,by simpa using H_.dropA.new⟩
theorem wjw: ∀ f,DivC f
 | 0=>fun md h p hp a1 a2 a3 c1 c2 c3 t T hn O hP b m cb pre W D hf=>c80s md h p hp a1 a2 a3 c1 c2 c3 t T hn O hP b m cb pre W D 0 hf fun f' e=>by omega
 | f+1=>fun md h p hp a1 a2 a3 c1 c2 c3 t T hn O hP b m cb pre W D hf=>c80s md h p hp a1 a2 a3 c1 c2 c3 t T hn O hP b m cb pre W D (f+1) hf fun f' e=>by
  obtain rfl:f=f':=by omega
  exact wjw f
theorem c80w (md:Md) (h:Heap) (p:PHeap) (hp:Per p h) (a1 a2 a3:Option Addr) (c1 c2 c3:Nat) (t:Tn) (T:TownP p a1 t.nH a2 t.nW a3 t.m t) (hn:t.nH≤40∧t.nW≤40∧t.m≤41) (O:OkT t) (hP:prodW t t.m 0≤2000):CallsX Tryd.prog md 80 #[.agg #[.slice a1 t.nH c1,.slice a2 t.nW c2,.slice a3 t.m c3],.slice none 0 0] h fun v h'=>∃ w es X Z,v=w∧OwnS 22 1 w es X∧Inn p es (allD t) Z∧es.length=(allD t).length∧New h h' (X++(Z++[])):=
 (wjw _ md h p hp a1 a2 a3 c1 c2 c3 t T hn O hP none 0 0 [] (ymv p) (Pre.nil O.toOk) (by omega)).mono fun v h' ⟨es,X,Z,o,i,el,_,N⟩=>⟨v,es,X,Z,rfl,o,i,el,N⟩
end Go.Proofs.YtalfgojocdonhaaDoor
namespace Go.Proofs.YtalfgojocdonhaaDoor
open Go.X Go.X.Flow Go.Conc
set_option maxRecDepth 10000
set_option synthInstance.maxSize 2000

set_option maxHeartbeats 2000000
theorem c82 (md:Md) (h:Heap) (p:PHeap) (hp:Per p h) (a1 a2 a3:Option Addr) (c1 c2 c3:Nat) (t:Tn) (T:TownP p a1 t.nH a2 t.nW a3 t.m t) (hn:t.nH≤40∧t.nW≤40∧t.m≤41) (O:OkT t) (hP:prodW t t.m 0≤2000):CallsX Tryd.prog md 82 #[.agg #[.slice a1 t.nH c1,.slice a2 t.nW c2,.slice a3 t.m c3]] h fun v h'=>∃ w X,v=w∧OwnS 3 1 w (ics (LK t)) X∧New h h' X:=by
 refine xcx (Φ:=fun h_=>St h [] p h_ []) Tryd.func82 rfl (tm:=zq1 (zq2 (zq4 (zq8 (zq16 []))))) rfl ?_ (St.start h _ hp)
 intro c₀ cs Stop K
 have hap_:=znq O.toOk
 have hal_:=wmq O.toOk hP
 refine fsr ?_
 refine xij mn (v:=.agg #[.slice a1 t.nH c1,.slice a2 t.nW c2,.slice a3 t.m c3]) rfl fun b1=>xcq (L':=[(b1,.cells #[.slice a1 t.nH c1,.slice a2 t.nW c2,.slice a3 t.m c3] 25 (0,0))]) rfl ?_
 refine ro (xax (v:=.slice none 0 0) rfl) <| ren <| xbq ?_
 refine xbx mn (fun h_ H_=>xav H_ tA25 tS25 rfl (i:=0) rfl (vs:=[.slice a1 t.nH c1,.slice a2 t.nW c2,.slice a3 t.m c3]) rfl rfl) (tm':=zq8 _) rfl ?_
 refine xcq (L':=([(b1,.cells #[.slice a1 t.nH c1,.slice a2 t.nW c2,.slice a3 t.m c3] 25 (0,0))]:Pcs)++[]) rfl ?_
 refine xiw mn (first:=[]) (cap:=[]) rfl rfl fC80 (R:=fun v_ h_=>∃ w2:Value,∃ es3:List (List Value),∃ X4:Pcs,∃ Z5:Pcs,v_=w2∧(OwnS 22 1 w2 es3 X4)∧(Inn p es3 (allD t) Z5)∧(es3.length=(allD t).length)∧St h [] p h_ (([(b1,.cells #[.slice a1 t.nH c1,.slice a2 t.nW c2,.slice a3 t.m c3] 25 (0,0))]:Pcs)++((X4++(Z5++[]))++[]))) (fun h_ H_=>(c80w md _ _ H_.pe _ _ _ _ _ _ t (show TownP _ _ _ _ _ _ _ t from ⟨T.h,T.w,T.y⟩) (by omega) O hP).mono fun v_ h2_ ⟨w2,es3,X4,Z5,e_,o6,i7,el8,N_⟩=>⟨w2,es3,X4,Z5,e_,o6,i7,el8,H_.callNA N_⟩) fun v_=>?_
 refine xgz fun w2=>xgz fun es3=>xgz fun X4=>xgz fun Z5=>xfq fun ev_=>xfq fun o6=>xfq fun i7=>xfq fun el8=>?_
 have ev_:=ev_.symm;subst ev_
 refine xcq (L':=([(b1,.cells #[.slice a1 t.nH c1,.slice a2 t.nW c2,.slice a3 t.m c3] 25 (0,0))]:Pcs)++(X4++(Z5++[]))) (by simp) ?_
 refine ro (xax (v:=w2) rfl) <| ren ?_
 refine xgv (List.Perm.append_left _ (List.perm_append_comm_assoc _ _ _)) ?_
 refine xlk (L':=([(b1,.cells #[.slice a1 t.nH c1,.slice a2 t.nW c2,.slice a3 t.m c3] 25 (0,0))]:Pcs)++(Z5++(X4++[]))) rfl ?_
 refine yfj (A:=([(b1,.cells #[.slice a1 t.nH c1,.slice a2 t.nW c2,.slice a3 t.m c3] 25 (0,0))]:Pcs)) (Z:=Z5) fun p9 le10 hz11=>?_
 refine xqx (A:=([(b1,.cells #[.slice a1 t.nH c1,.slice a2 t.nW c2,.slice a3 t.m c3] 25 (0,0))]:Pcs)) o6 el8 fun p15 a16 cp17 le18 ev_ D19=>?_
 subst ev_
 refine xlk (L':=[(b1,.cells #[.slice a1 t.nH c1,.slice a2 t.nW c2,.slice a3 t.m c3] 25 (0,0))]) rfl ?_
 obtain ⟨A13,C14,T_⟩:=(i7 _ (le10.trans le18) (fun x_ hx_=>le18 _ _ (hz11 x_ hx_))).tab D19
 have T12:=Tab1.const (n:=t.m) T_ (fun i_ hi_=>(wmx O.toOk hi_).len);clear T_
 refine xgx 4 [[],[],[1],[1,2],[],[]] xkk (by kernel_rfl) (Nat.le_of_ble_eq_true rfl) ?_
 refine xbk mn (fun h_ H_=>xav H_ tA25 tS25 rfl (i:=0) rfl (vs:=[.slice a1 t.nH c1,.slice a2 t.nW c2,.slice a3 t.m c3]) rfl rfl) (tm':=zq2 (zq8 _)) rfl ?_
 refine wo (xaq (v:=.slice a16 ((allD t).length) cp17) rfl) ?_
 refine wt (xbw (i:=0) Tryd.underlying74 tS22 (xjq a16 ((allD t).length) cp17 (T12.ne (by omega))) rfl (by omega)) (tm':=zq4 (zq8 _)) rfl ?_
 refine wd (fun h_ H_=>xbj H_ tA22 rfl (v:=.slice (A13 0) t.m (C14 0)) (T12.cell _ (by omega))) ?_
 refine xiz rfl ?_
 refine xcq (L':=([(b1,.cells #[.slice a1 t.nH c1,.slice a2 t.nW c2,.slice a3 t.m c3] 25 (0,0))]:Pcs)++[]) rfl ?_
 refine xiw mn (first:=[]) (cap:=[]) rfl rfl fC45 (R:=fun v_ h_=>∃ w20:Value,∃ X21:Pcs,v_=w20∧(OwnS 3 1 w20 (ics (lacks t ((allD t).getD 0 []))) X21)∧St h [] p15 h_ (([(b1,.cells #[.slice a1 t.nH c1,.slice a2 t.nW c2,.slice a3 t.m c3] 25 (0,0))]:Pcs)++(X21++[]))) (fun h_ H_=>(c45 md _ _ H_.pe _ _ _ _ _ _ _ _ _ t (show TownP _ _ _ _ _ _ _ t from ⟨((T.h.mono le10).mono le18),((T.w.mono le10).mono le18),((T.y.mono le10).mono le18)⟩) (by omega) _ _ _ _ (T12.ints _ (by omega)) rfl (zij O.toOk (by omega)) O.wok (fun i hi=>by have z_:=O.h i hi;unfold Tn.hv at z_;omega)).mono fun v_ h2_ ⟨w20,X21,e_,o22,N_⟩=>⟨w20,X21,e_,o22,H_.callNA N_⟩) fun v_=>?_
 refine xgz fun w20=>xgz fun X21=>xfq fun ev_=>xfq fun o22=>?_
 have ev_:=ev_.symm;subst ev_
 refine xcq (L':=([(b1,.cells #[.slice a1 t.nH c1,.slice a2 t.nW c2,.slice a3 t.m c3] 25 (0,0))]:Pcs)++(X21++[])) rfl ?_
 refine ro (xax (v:=w20) rfl) <| ren <| fsr <| rt (xax (v:=.int .i64 0) rfl) (tm':=zq2 (zq4 _)) rfl <| xak <| xdj ?_
 refine xhk (m₀:=(allD t).length-0) (fun m_ tm_ h_=>∃ (k:Nat) (w_:Value) (X1_:Pcs),m_=(allD t).length-k∧(∃ y23:Nat→Value,tm_=[.agg #[.slice a1 t.nH c1,.slice a2 t.nW c2,.slice a3 t.m c3],.pointer (some ⟨b1,0,none⟩),.slice none 0 0,.slice a16 ((allD t).length) cp17,w_,.int .i64 (((k:Nat):Int)),(y23 6),.agg #[.slice a1 t.nH c1,.slice a2 t.nW c2,.slice a3 t.m c3],.slice a16 ((allD t).length) cp17,.agg #[.slice a1 t.nH c1,.slice a2 t.nW c2,.slice a3 t.m c3],.slice a16 ((allD t).length) cp17,.pointer (some ((adr a16).add (0*1))),.slice (A13 0) t.m (C14 0),w20,(y23 14),(y23 15),(y23 16),(y23 17),(y23 18),(y23 19),(y23 20),(y23 21),(y23 22),(y23 23),(y23 24),(y23 25),(y23 26),(y23 27),(y23 28),(y23 29),undef])∧(k≤(allD t).length)∧(OwnS 3 1 w_ (ics (bestK t k)) X1_)∧St h [] p15 h_ (([(b1,.cells #[.slice a1 t.nH c1,.slice a2 t.nW c2,.slice a3 t.m c3] 25 (0,0))]:Pcs)++(X1_++[]))) (fun h_ H_=>⟨0,w20,X21,rfl,(y_of rfl),Nat.zero_le _,o22,H_⟩) ?_
 intro m_ tm_ IH24
 refine xhq fun k=>xhq fun w_=>xhq fun X1_=>xcz fun hm_=>xcz fun ht_=>xcz fun hk=>xcz fun o1_=>?_
 subst hm_;obtain ⟨y23,ht_⟩:=ht_;subst ht_
 refine xez <| fsr <| ro (xaq (v:=.int .i64 (((k:Nat):Int))) rfl) <| ro (xaq (v:=.slice a16 ((allD t).length) cp17) rfl) <| rt (xfz Tryd.underlying74 rfl) (tm':=zq1 (zq16 _)) rfl <| ro (xgj rfl rfl) ?_
 refine xak ?_
 by_cases cc25:((k:Nat):Int)<(((allD t).length:Nat):Int)
 ·
  refine xdx rfl (dtt cc25) <| xcv <| xez <| xdj <| xez ?_
  refine xgx 5 [[],[],[],[1,2],[1,2,3],[],[]] xkk (by kernel_rfl) (Nat.le_of_ble_eq_true rfl) ?_
  refine wd (fun h_ H_=>xav H_ tA25 tS25 rfl (i:=0) rfl (vs:=[.slice a1 t.nH c1,.slice a2 t.nW c2,.slice a3 t.m c3]) rfl rfl) <| wt (xaq (v:=.slice a16 ((allD t).length) cp17) rfl) (tm':=zq1 (zq2 (zq4 (zq8 (zq16 []))))) rfl <| wo (xaq (v:=.int .i64 (((k:Nat):Int))) rfl) ?_
  refine wt (xbw (i:=k) Tryd.underlying74 tS22 (xjq a16 ((allD t).length) cp17 (T12.ne (by omega))) rfl (by omega)) (tm':=zq1 (zq2 (zq4 (zq8 (zq16 []))))) rfl ?_
  refine wd (fun h_ H_=>xbj H_ tA22 rfl (v:=.slice (A13 k) t.m (C14 k)) (T12.cell _ (by omega))) ?_
  refine xiz rfl ?_
  refine xiw mn (first:=[]) (cap:=[]) rfl rfl fC45 (R:=fun v_ h_=>∃ w26:Value,∃ X27:Pcs,v_=w26∧(OwnS 3 1 w26 (ics (lacks t ((allD t).getD k []))) X27)∧St h [] p15 h_ (([(b1,.cells #[.slice a1 t.nH c1,.slice a2 t.nW c2,.slice a3 t.m c3] 25 (0,0))]:Pcs)++(X27++(X1_++[])))) (fun h_ H_=>(c45 md _ _ H_.pe _ _ _ _ _ _ _ _ _ t (show TownP _ _ _ _ _ _ _ t from ⟨((T.h.mono le10).mono le18),((T.w.mono le10).mono le18),((T.y.mono le10).mono le18)⟩) (by omega) _ _ _ _ (T12.ints _ (by omega)) rfl (zij O.toOk (by omega)) O.wok (fun i hi=>by have z_:=O.h i hi;unfold Tn.hv at z_;omega)).mono fun v_ h2_ ⟨w26,X27,e_,o28,N_⟩=>⟨w26,X27,e_,o28,H_.callNA N_⟩) fun v_=>?_
  refine xgz fun w26=>xgz fun X27=>xfq fun ev_=>xfq fun o28=>?_
  have ev_:=ev_.symm;subst ev_
  refine xcq (L':=([(b1,.cells #[.slice a1 t.nH c1,.slice a2 t.nW c2,.slice a3 t.m c3] 25 (0,0))]:Pcs)++(X27++(X1_++[]))) rfl ?_
  refine ro (xax (v:=w26) rfl) <| ren <| xbq <| rt (xaq (v:=w26) rfl) (tm':=zq1 (zq2 (zq4 (zq8 (zq16 []))))) rfl <| ro (xaq (v:=w_) rfl) ?_
  refine xeq mn (first:=[]) (cap:=[]) rfl rfl fC59 (fun h_ H_=>show CallsX Tryd.prog md 59 #[w26,w_] h_ (fun v_ h2_=>v_= .bool (decide (earlier (lacks t ((allD t).getD k [])) (bestK t k)=true))∧Keep h_ h2_) from zyq (n:=t.nH) (n':=t.nH) o28 ((xcw _).trans (xmj _ _)) o1_ ((xcw _).trans (wlx _ _)) H_ (fun x_ h_=>by simp at h_ ⊢;rcases h_ with h_ | h_ <;> simp [h_]) fun p_ a_ c_ a2_ c2_ hp_ le_ hv_ hv2_ D_ D2_=>by rw [hv_,hv2_];exact zaw md hp_ (show Ints _ _ _ (lacks t ((allD t).getD k [])) from D_) (show Ints _ _ _ (bestK t k) from D2_) (by omega)) rfl ?_
  refine xak ?_
  by_cases cc29:earlier (lacks t ((allD t).getD k [])) (bestK t k)=true
  ·
   refine xdx rfl (dtt cc29) <| xbq <| rt (xaq (v:=w26) rfl) (tm':=zq1 (zq2 (zq4 (zq8 (zq16 []))))) rfl <| ro (xax (v:=w26) rfl) <| xak <| xdq ?_
   refine xbq <| ro (xaq (v:=.int .i64 (((k:Nat):Int))) rfl) ?_
   refine rt (xek rfl rfl (n:=((k+1:Nat):Int)) (wr (by omega))) (tm':=zq4 (zq16 _)) rfl ?_
   refine ro (xax (v:=.int .i64 (((k+1:Nat):Int))) rfl) <| xak ?_
   refine xgv (List.Perm.append_left _ (List.perm_append_comm_assoc _ _ _)) ?_
   refine xlk (L':=([(b1,.cells #[.slice a1 t.nH c1,.slice a2 t.nW c2,.slice a3 t.m c3] 25 (0,0))]:Pcs)++(X1_++(X27++[]))) rfl ?_
   exact fun h_ H_=>IH24 _ _ (by omega) h_ ⟨k+1,w26,X27,rfl,(y_of rfl),(by omega),(o28.as (congrArg ics (wlq (by omega) (by assumption)))),H_.dropX⟩
  ·
   refine xck rfl (dff cc29) <| xcv <| xdq <| xbq <| ro (xaq (v:=.int .i64 (((k:Nat):Int))) rfl) ?_
   refine rt (xek rfl rfl (n:=((k+1:Nat):Int)) (wr (by omega))) (tm':=zq4 (zq16 _)) rfl ?_
   refine ro (xax (v:=.int .i64 (((k+1:Nat):Int))) rfl) <| xak ?_
   exact fun h_ H_=>IH24 _ _ (by omega) h_ ⟨k+1,w_,X1_,rfl,(y_of rfl),(by omega),(o1_.as (congrArg ics (wtj (by omega) (by assumption)))),H_.dropX⟩
 ·
  refine xck rfl (dff cc25) <| xhz rfl <| fsr <| ro (xaq (v:=w_) rfl) <| rt (xax (v:=w_) rfl) (tm':=_::_::_::_) rfl <| xak ?_
  refine xdv Tryd.func82 rfl (vs:=[w_]) (fun h_ H_=>⟨w_,_,rfl,rfl,rfl⟩) (v:=w_) rfl ?_
  have kE_:k=(allD t).length:=by omega
  exact fun h_ H_=>K _ _ ⟨_,_,rfl,o1_.as (congrArg ics (wlz O.toOk kE_)),by simpa using H_.dropA.new⟩
theorem c44 (md:Md) (h:Heap) (p:PHeap) (hp:Per p h) (a1 a2 a3:Option Addr) (c1 c2 c3:Nat) (t:Tn) (T:TownP p a1 t.nH a2 t.nW a3 t.m t) (hn:t.nH≤40∧t.nW≤40∧t.m≤41) (hc0:chkB t=0→prodW t t.m 0≤2000):CallsX Tryd.prog md 44 #[.agg #[.slice a1 t.nH c1,.slice a2 t.nW c2,.slice a3 t.m c3]] h fun v h'=>∃ w X,v= .tuple #[w,.int .i64 (chkB t)]∧OwnS 3 1 w (ics (LKc t)) X∧New h h' X:=by
 refine xcx (Φ:=fun h_=>St h [] p h_ []) Tryd.func44 rfl (tm:=zq4 (zq8 [])) rfl ?_ (St.start h _ hp)
 intro c₀ cs Stop K
 refine fsr ?_
 refine xij mn (v:=.agg #[.slice a1 t.nH c1,.slice a2 t.nW c2,.slice a3 t.m c3]) rfl fun b1=>xcq (L':=[(b1,.cells #[.slice a1 t.nH c1,.slice a2 t.nW c2,.slice a3 t.m c3] 25 (0,0))]) rfl ?_
 refine rt (xax (v:=.slice none 0 0) rfl) (tm':=_::_::_::_) rfl <| ro (xax (v:=.int .i64 0) rfl) <| ren <| fsr <| rd (fun h_ H_=>xav H_ tA25 tS25 rfl (i:=0) rfl (vs:=[.slice a1 t.nH c1,.slice a2 t.nW c2,.slice a3 t.m c3]) rfl rfl) ?_
 refine xeq mn (first:=[]) (cap:=[]) rfl rfl fC48 (fun h_ H_=>c48 md _ _ H_.pe _ _ _ _ _ _ _ _ _ t (show TownP _ _ _ _ _ _ _ t from ⟨T.h,T.w,T.y⟩) (by omega)) (tm':=zq1 (zq2 (zq4 _))) rfl ?_
 refine ro (xax (v:=.int .i64 (chkB t)) rfl) <| ren <| xbq <| ro (xaq (v:=.int .i64 (chkB t)) rfl) <| rt (xmk rfl rfl) (tm':=zq4 (zq8 [])) rfl <| xak ?_
 by_cases cc2:chkB t≠0
 ·
  refine xdx rfl (dtt cc2) <| fsr <| ro (xaq (v:=.int .i64 (chkB t)) rfl) <| ro (xax (v:=.slice none 0 0) rfl) <| rt (xax (v:=.int .i64 (chkB t)) rfl) (tm':=zq4 _) rfl <| xak ?_
  refine xdv Tryd.func44 rfl (vs:=[.slice none 0 0,.int .i64 (chkB t)]) (fun h_ H_=>⟨.slice none 0 0,_,rfl,rfl,⟨.int .i64 (chkB t),_,rfl,rfl,rfl⟩⟩) (v:=.tuple #[.slice none 0 0,.int .i64 (chkB t)]) rfl ?_
  exact fun h_ H_=>K _ _ ⟨_,[],rfl,by rw [wxz ‹_›];exact OwnS.empty _ _,(H_.sub (List.nil_sublist _)).new⟩
 ·
  refine xck rfl (dff cc2) <| xcv <| xez ?_
  have e0_:chkB t=0:=by omega
  have O:=xuz e0_
  have hP:=hc0 e0_
  have hap_:=znq O.toOk
  have hal_:=wmq O.toOk hP
  refine xbq <| rd (fun h_ H_=>xav H_ tA25 tS25 rfl (i:=0) rfl (vs:=[.slice a1 t.nH c1,.slice a2 t.nW c2,.slice a3 t.m c3]) rfl rfl) ?_
  refine xcq (L':=([(b1,.cells #[.slice a1 t.nH c1,.slice a2 t.nW c2,.slice a3 t.m c3] 25 (0,0))]:Pcs)++[]) rfl ?_
  refine xiw mn (first:=[]) (cap:=[]) rfl rfl fC82 (R:=fun v_ h_=>∃ w3:Value,∃ X4:Pcs,v_=w3∧(OwnS 3 1 w3 (ics (LK t)) X4)∧St h [] p h_ (([(b1,.cells #[.slice a1 t.nH c1,.slice a2 t.nW c2,.slice a3 t.m c3] 25 (0,0))]:Pcs)++(X4++[]))) (fun h_ H_=>(c82 md _ _ H_.pe _ _ _ _ _ _ t (show TownP _ _ _ _ _ _ _ t from ⟨T.h,T.w,T.y⟩) (by omega) O hP).mono fun v_ h2_ ⟨w3,X4,e_,o5,N_⟩=>⟨w3,X4,e_,o5,H_.callNA N_⟩) fun v_=>?_
  refine xgz fun w3=>xgz fun X4=>xfq fun ev_=>xfq fun o5=>?_
  have ev_:=ev_.symm;subst ev_
  refine xcq (L':=([(b1,.cells #[.slice a1 t.nH c1,.slice a2 t.nW c2,.slice a3 t.m c3] 25 (0,0))]:Pcs)++(X4++[])) rfl ?_
  refine rt (xax (v:=w3) rfl) (tm':=_::_::_::_) rfl <| ro (xax (v:=.int .i64 0) rfl) <| xak ?_
  refine xdv Tryd.func44 rfl (vs:=[w3,.int .i64 0]) (fun h_ H_=>⟨w3,_,rfl,rfl,⟨.int .i64 0,_,rfl,rfl,rfl⟩⟩) (v:=.tuple #[w3,.int .i64 0]) rfl ?_
  exact fun h_ H_=>K _ _ ⟨_,_,by rw [e0_],o5.as (by rw [znx e0_]),by simpa using H_.dropA.new⟩
end Go.Proofs.YtalfgojocdonhaaDoor
namespace Go.X.Flow
open Go.X
theorem yok {t:Tn} {x:FWay} (O:OkT t) (h:t.m≤12) (h1:0≤x.1∧x.1.toNat<t.nH) (h2:0≤x.2∧x.2.toNat<t.nW):OkT (withT t x):=by
  have key: ∀ i,i<(withT t x).m→(0≤((withT t x).wy.getD i wz).1∧((withT t x).wy.getD i wz).1.toNat<t.nH)∧0≤((withT t x).wy.getD i wz).2∧((withT t x).wy.getD i wz).2.toNat<t.nW:=fun i hi=>by
    have hi':i<(withW t x).length:=hi
    have e:(withT t x).wy.getD i wz=(withW t x)[i]:=by show (withW t x).getD i wz=_;rw [List.getD_eq_getElem?_getD,List.getElem?_eq_getElem hi'];rfl
    have hm:(withW t x)[i]∈x::t.wy:=(xyx t x).mem_iff.1 (List.getElem_mem hi')
    rw [e]
    rcases List.mem_cons.1 hm with q | q
    · rw [q];exact ⟨h1,h2⟩
    · obtain ⟨j,hj,q⟩:=List.mem_iff_getElem.1 q
      have a:=O.y j hj;have b:=O.yp j hj
      have e2:t.wy.getD j wz=t.wy[j]:=by rw [List.getD_eq_getElem?_getD,List.getElem?_eq_getElem hj];rfl
      have e3:t.wh j=(t.wy.getD j wz).1.toNat:=rfl
      have e4:t.ww j=(t.wy.getD j wz).2.toNat:=rfl
      rw [e3,e4,e2,q] at a;rw [e2,q] at b
      exact ⟨⟨b.1,a.1⟩,b.2,a.2⟩
  exact { nh:=O.nh,nw:=O.nw,nm:=by rw [ziw];omega,h:=O.h,w:=O.w,y:=fun i hi=>⟨(key i hi).1.2,(key i hi).2.2⟩,yp:=fun i hi=>⟨(key i hi).1.1,(key i hi).2.1⟩ }
theorem vbj {t:Tn} {k:Nat} (h:earlier (LK (pour t k)) (LK t)=true):cmpL (LK (pour t k)) (LK t)<0:=(xxj (by rw [xxk,xxk];rfl)).2 h
theorem vbk {t:Tn} {k:Nat} (h: ¬ earlier (LK (pour t k)) (LK t)=true): ¬ cmpL (LK (pour t k)) (LK t)<0:=fun c=>h ((xxj (by rw [xxk,xxk];rfl)).1 c)
theorem wuv {t:Tn} {x y:Int} (O:OkT t) (h:t.m≤12) (ha:wayA t x y=0) (hm: ¬ ((x,y):FWay)∈t.wy):wayB t x y=decide (earlier (LK (withT t (x,y))) (LK t)=true):=by
  obtain ⟨_,hx,hy⟩:=yow ha
  rw [znw ha hm,decide_eq_decide]
  exact vdj (zvq O.toOk (x,y) (yvk O h (by omega) (by omega)).toOk (yok O h (by omega) (by omega)).toOk)
end Go.X.Flow
namespace Go.Proofs.YtalfgojocdonhaaDoor
open Go.X Go.X.Flow Go.Conc

theorem wgx {md:Md} {h h₀:Heap} {B₀:List Nat} {p:PHeap} {L Q X1 X2 X3:Pcs} {w1 w2 w3:Value} {U:Tn} (o1:OwnS 3 1 w1 (ics U.hs) X1) (o2:OwnS 3 1 w2 (ics U.ws) X2) (o3:OwnS 43 2 w3 (wcs U.wy) X3) (hQ: ∀ x,(x∈X1∨x∈X2∨x∈X3)→x∈Q)
    (hn:U.nH≤40∧U.nW≤40∧U.m≤41) (O:OkT U) (hP:prodW U U.m 0≤2000) (s:St h₀ B₀ p h (Q++L)):
    CallsX Tryd.prog md 82 #[.agg #[w1,w2,w3]] h fun v' h'=>∃ x,(∃ w X,v'=w∧OwnS 3 1 w (ics (LK U)) X∧x=X++[])∧St h₀ B₀ p h' (x++L):=by
  refine zsk s (Z:=X1++(X2++X3)) (fun x hx=>List.mem_append_left _ (hQ x (by simpa using hx))) fun p' hp _ hz=>?_
  obtain ⟨a1,c1,rfl,s1⟩:=o1.inP (p:=p') fun x hx=>hz x (by simp [hx])
  obtain ⟨a2,c2,rfl,s2⟩:=o2.inP (p:=p') fun x hx=>hz x (by simp [hx])
  obtain ⟨a3,c3,rfl,s3⟩:=o3.inP (p:=p') fun x hx=>hz x (by simp [hx])
  rw [show (ics U.hs).length=U.nH from xcw _] at s1 ⊢
  rw [show (ics U.ws).length=U.nW from xcw _] at s2 ⊢
  rw [show (wcs U.wy).length=U.m from wcs_size _] at s3 ⊢
  refine (c82 md h p' hp a1 a2 a3 c1 c2 c3 U ⟨s1,s2,s3⟩ hn O hP).mono fun v' h' ⟨w,X,e,o,N⟩=>⟨X++[],⟨w,X,e,o,rfl⟩,?_⟩
  rw [List.append_nil]
  exact (s.callN N).sub (List.Sublist.append_left (List.sublist_append_right Q L) X)
end Go.Proofs.YtalfgojocdonhaaDoor
namespace Go.Proofs.YtalfgojocdonhaaDoor
open Go.X Go.X.Flow Go.Conc
set_option maxRecDepth 10000
set_option synthInstance.maxSize 2000

set_option maxHeartbeats 2000000
theorem c17 (md:Md) (h:Heap) (p:PHeap) (hp:Per p h) (a1 a2 a3:Option Addr) (c1 c2 c3:Nat) (t:Tn) (T:TownP p a1 t.nH a2 t.nW a3 t.m t) (hn:t.nH≤40∧t.nW≤40∧t.m≤41):CallsX Tryd.prog md 17 #[.agg #[.slice a1 t.nH c1,.slice a2 t.nW c2,.slice a3 t.m c3]] h fun v h'=>∃ w1 w2 w3 X1 X2 X3,v= .agg #[w1,w2,w3]∧OwnS 3 1 w1 (ics t.hs) X1∧OwnS 3 1 w2 (ics t.ws) X2∧OwnS 43 2 w3 (wcs t.wy) X3∧New h h' (X3++(X1++(X2++[]))):=by
 refine xcx (Φ:=fun h_=>St h [] p h_ []) Tryd.func17 rfl (tm:=zq16 []) rfl ?_ (St.start h _ hp)
 intro c₀ cs Stop K
 have eH:=T.nH
 have eW:=T.nW
 have eM:=T.m
 refine fsr ?_
 refine xij mn (v:=.agg #[.slice a1 t.nH c1,.slice a2 t.nW c2,.slice a3 t.m c3]) rfl fun b1=>xcq (L':=[(b1,.cells #[.slice a1 t.nH c1,.slice a2 t.nW c2,.slice a3 t.m c3] 25 (0,0))]) rfl ?_
 refine xkx mn tZ25 rfl fun b2=>xcq (L':=[(b2,.cells #[.slice none 0 0,.slice none 0 0,.slice none 0 0] 25 (0,0)),(b1,.cells #[.slice a1 t.nH c1,.slice a2 t.nW c2,.slice a3 t.m c3] 25 (0,0))]) rfl ?_
 refine ren ?_
 refine xxv (xlx (C:=[]) (A:=([(b2,.cells #[.slice none 0 0,.slice none 0 0,.slice none 0 0] 25 (0,0)),(b1,.cells #[.slice a1 t.nH c1,.slice a2 t.nW c2,.slice a3 t.m c3] 25 (0,0))]:Pcs)) 11 [[],[],[1],[0,1,2],[],[],[5],[0,1,2,3,4,5,6],[],[],[9],[0,1,2,4,5,6,8,9,10],[],[]] [] [3,7,8] [1,2,5,6,9,10] (fun _=>[]) (fun i_=>match i_ with | 3=>[0] | 7=>[4] | _=>[]) (fun i_=>match i_ with | 0=>[] | 1=>[] | 2=>[1] | 3=>[0,2] | 4=>[] | 5=>[] | 6=>[5] | 7=>[3,4,6] | 8=>[] | 9=>[] | 10=>[9] | _=>[]) (fun i_ val_ pc_ v_ x_=>match i_ with | 0=>OwnS 3 1 v_ [] x_ | 1=>v_= .pointer (some ⟨b1,0,none⟩)∧x_=[] | 2=>v_= .slice a1 t.nH c1∧x_=[] | 3=>OwnS 3 1 v_ ([]++(t.hs.map fun x=>[Value.int .i64 x])) x_ | 4=>OwnS 3 1 v_ [] x_ | 5=>v_= .pointer (some ⟨b1,1,none⟩)∧x_=[] | 6=>v_= .slice a2 t.nW c2∧x_=[] | 7=>OwnS 3 1 v_ ([]++(t.ws.map fun x=>[Value.int .i64 x])) x_ | 8=>OwnS 43 2 v_ [] x_ | 9=>v_= .pointer (some ⟨b1,2,none⟩)∧x_=[] | 10=>v_= .slice a3 t.m c3∧x_=[] | _=>True) (fun val3=>[.agg #[.slice a1 t.nH c1,.slice a2 t.nW c2,.slice a3 t.m c3],.pointer (some ⟨b1,0,none⟩),.pointer (some ⟨b2,0,none⟩),(val3 0),(val3 1),(val3 2),(val3 3),(val3 4),(val3 5),(val3 6),(val3 7),(val3 8),(val3 9),(val3 10),undef,undef]) xkk (by kernel_rfl) (Nat.le_of_ble_eq_true rfl) (by kernel_rfl) (by kernel_rfl) (by kernel_rfl) (fun _ _=>⟨fun _ _ h=>h.2,⟨fun _ _ h=>h.2,⟨fun _ _ h=>h.2,⟨fun _ _ h=>h.2,⟨fun _ _ h=>h.2,⟨fun _ _ h=>h.2,trivial⟩⟩⟩⟩⟩⟩) (fun _=>by kernel_rfl) (by kernel_rfl) ?_ ?_) (fun h_ H_=>St.swap (A:=([(b2,.cells #[.slice none 0 0,.slice none 0 0,.slice none 0 0] 25 (0,0)),(b1,.cells #[.slice a1 t.nH c1,.slice a2 t.nW c2,.slice a3 t.m c3] 25 (0,0))]:Pcs)) (U:=[]) H_)
 ·
  refine xaw rfl (xdk ?_) ?_
  ·
   intro val3 pc4 hQ_ hX_
   obtain ⟨q_,hq0_⟩: ∃ q_:Value→Pcs→Prop,q_=(fun v_ x_=>OwnS 3 1 v_ [] x_):=⟨_,rfl⟩
   refine ⟨(zq16 []),[],q_,rfl,rfl,(fun _ _ z_=>by subst hq0_;exact z_),?_⟩
   subst hq0_
   exact xmw mn Tryd.underlying22 tS3 tZ3 (Nat.le_of_ble_eq_true rfl) (vs:=[]) rfl rfl (es:=[]) rfl rfl rfl fun _ _ o_=>o_
  refine xaw rfl (xdk ?_) ?_
  ·
   intro val3 pc4 hQ_ hX_
   obtain ⟨q_,hq0_⟩: ∃ q_:Value→Pcs→Prop,q_=(fun v_ x_=>v_= .pointer (some ⟨b1,0,none⟩)∧x_=[]):=⟨_,rfl⟩
   refine ⟨(zq16 []),[],q_,rfl,rfl,(fun _ _ z_=>by subst hq0_;exact z_),?_⟩
   subst hq0_
   exact xdw mn (fun _ h_ H_=>xaz xnx rfl (a':=⟨b1,0,none⟩) rfl) ⟨rfl,rfl⟩
  refine xaw rfl (xdk ?_) ?_
  ·
   intro val3 pc4 hQ_ hX_
   have e1_:val3 1= .pointer (some ⟨b1,0,none⟩):=(hQ_ 1 rfl).1
   obtain ⟨q_,hq0_⟩: ∃ q_:Value→Pcs→Prop,q_=(fun v_ x_=>v_= .slice a1 t.nH c1∧x_=[]):=⟨_,rfl⟩
   refine ⟨(zq16 []),[],q_,(by rw [e1_]),rfl,(fun _ _ z_=>by subst hq0_;exact z_),?_⟩
   subst hq0_
   exact xdw mn (fun _ h_ H_=>xaj H_ tA22 rfl (i:=1) rfl (v:=.slice a1 t.nH c1) rfl) ⟨rfl,rfl⟩
  refine xaw rfl (xdk ?_) ?_
  ·
   intro val3 pc4 hQ_ hX_
   have q0_:OwnS 3 1 (val3 0) [] (pc4 0):=hQ_ 0 rfl
   have e2_:val3 2= .slice a1 t.nH c1:=(hQ_ 2 rfl).1
   obtain ⟨q_,hq0_⟩: ∃ q_:Value→Pcs→Prop,q_=(fun v_ x_=>OwnS 3 1 v_ ([]++(t.hs.map fun x=>[Value.int .i64 x])) x_):=⟨_,rfl⟩
   refine ⟨(zq16 []),((pc4 0)++[]),q_,(by rw [e2_]),rfl,(fun _ _ z_=>by subst hq0_;exact z_),?_⟩
   subst hq0_
   exact xvw mn Tryd.underlying22 tS3 tZ3 rfl tB3 Tryd.underlying22 rfl rfl q0_ T.h (xrv _) (by simp only [List.length_nil];omega) (by decide) (by decide) fun _ _ o_=>o_
  refine xaw rfl (xdk ?_) ?_
  ·
   intro val3 pc4 hQ_ hX_
   obtain ⟨q_,hq0_⟩: ∃ q_:Value→Pcs→Prop,q_=(fun v_ x_=>OwnS 3 1 v_ [] x_):=⟨_,rfl⟩
   refine ⟨(zq16 []),[],q_,rfl,rfl,(fun _ _ z_=>by subst hq0_;exact z_),?_⟩
   subst hq0_
   exact xmw mn Tryd.underlying22 tS3 tZ3 (Nat.le_of_ble_eq_true rfl) (vs:=[]) rfl rfl (es:=[]) rfl rfl rfl fun _ _ o_=>o_
  refine xaw rfl (xdk ?_) ?_
  ·
   intro val3 pc4 hQ_ hX_
   obtain ⟨q_,hq0_⟩: ∃ q_:Value→Pcs→Prop,q_=(fun v_ x_=>v_= .pointer (some ⟨b1,1,none⟩)∧x_=[]):=⟨_,rfl⟩
   refine ⟨(zq16 []),[],q_,rfl,rfl,(fun _ _ z_=>by subst hq0_;exact z_),?_⟩
   subst hq0_
   exact xdw mn (fun _ h_ H_=>xaz xnk rfl (a':=⟨b1,1,none⟩) rfl) ⟨rfl,rfl⟩
  refine xaw rfl (xdk ?_) ?_
  ·
   intro val3 pc4 hQ_ hX_
   have e5_:val3 5= .pointer (some ⟨b1,1,none⟩):=(hQ_ 5 rfl).1
   obtain ⟨q_,hq0_⟩: ∃ q_:Value→Pcs→Prop,q_=(fun v_ x_=>v_= .slice a2 t.nW c2∧x_=[]):=⟨_,rfl⟩
   refine ⟨(zq16 []),[],q_,(by rw [e5_]),rfl,(fun _ _ z_=>by subst hq0_;exact z_),?_⟩
   subst hq0_
   exact xdw mn (fun _ h_ H_=>xaj H_ tA22 rfl (i:=1) rfl (v:=.slice a2 t.nW c2) rfl) ⟨rfl,rfl⟩
  refine xaw rfl (xdk ?_) ?_
  ·
   intro val3 pc4 hQ_ hX_
   have q3_:OwnS 3 1 (val3 3) ([]++(t.hs.map fun x=>[Value.int .i64 x])) (pc4 3):=hQ_ 3 rfl
   have q4_:OwnS 3 1 (val3 4) [] (pc4 4):=hQ_ 4 rfl
   have e6_:val3 6= .slice a2 t.nW c2:=(hQ_ 6 rfl).1
   obtain ⟨q_,hq0_⟩: ∃ q_:Value→Pcs→Prop,q_=(fun v_ x_=>OwnS 3 1 v_ ([]++(t.ws.map fun x=>[Value.int .i64 x])) x_):=⟨_,rfl⟩
   refine ⟨(zq16 []),((pc4 4)++[]),q_,(by rw [e6_]),rfl,(fun _ _ z_=>by subst hq0_;exact z_),?_⟩
   subst hq0_
   exact xvw mn Tryd.underlying22 tS3 tZ3 rfl tB3 Tryd.underlying22 rfl rfl q4_ T.w (xrv _) (by simp only [List.length_nil];omega) (by decide) (by decide) fun _ _ o_=>o_
  refine xaw rfl (xdk ?_) ?_
  ·
   intro val3 pc4 hQ_ hX_
   obtain ⟨q_,hq0_⟩: ∃ q_:Value→Pcs→Prop,q_=(fun v_ x_=>OwnS 43 2 v_ [] x_):=⟨_,rfl⟩
   refine ⟨(zq16 []),[],q_,rfl,rfl,(fun _ _ z_=>by subst hq0_;exact z_),?_⟩
   subst hq0_
   exact xmw mn Tryd.underlying23 tS43 tZ43 (Nat.le_of_ble_eq_true rfl) (vs:=[]) rfl rfl (es:=[]) rfl rfl rfl fun _ _ o_=>o_
  refine xaw rfl (xdk ?_) ?_
  ·
   intro val3 pc4 hQ_ hX_
   obtain ⟨q_,hq0_⟩: ∃ q_:Value→Pcs→Prop,q_=(fun v_ x_=>v_= .pointer (some ⟨b1,2,none⟩)∧x_=[]):=⟨_,rfl⟩
   refine ⟨(zq16 []),[],q_,rfl,rfl,(fun _ _ z_=>by subst hq0_;exact z_),?_⟩
   subst hq0_
   exact xdw mn (fun _ h_ H_=>xaz xhj rfl (a':=⟨b1,2,none⟩) rfl) ⟨rfl,rfl⟩
  refine xaw rfl (xdk ?_) ?_
  ·
   intro val3 pc4 hQ_ hX_
   have e9_:val3 9= .pointer (some ⟨b1,2,none⟩):=(hQ_ 9 rfl).1
   obtain ⟨q_,hq0_⟩: ∃ q_:Value→Pcs→Prop,q_=(fun v_ x_=>v_= .slice a3 t.m c3∧x_=[]):=⟨_,rfl⟩
   refine ⟨(zq16 []),[],q_,(by rw [e9_]),rfl,(fun _ _ z_=>by subst hq0_;exact z_),?_⟩
   subst hq0_
   exact xdw mn (fun _ h_ H_=>xaj H_ tA23 rfl (i:=1) rfl (v:=.slice a3 t.m c3) rfl) ⟨rfl,rfl⟩
  exact xlq rfl
 intro val3 pc4 hQ_ hX_
 have e1_:val3 1= .pointer (some ⟨b1,0,none⟩):=(hQ_ 1 (by decide)).1
 have e2_:val3 2= .slice a1 t.nH c1:=(hQ_ 2 (by decide)).1
 have q3_:OwnS 3 1 (val3 3) ([]++(t.hs.map fun x=>[Value.int .i64 x])) (pc4 3):=hQ_ 3 (by decide)
 have e5_:val3 5= .pointer (some ⟨b1,1,none⟩):=(hQ_ 5 (by decide)).1
 have e6_:val3 6= .slice a2 t.nW c2:=(hQ_ 6 (by decide)).1
 have q7_:OwnS 3 1 (val3 7) ([]++(t.ws.map fun x=>[Value.int .i64 x])) (pc4 7):=hQ_ 7 (by decide)
 have q8_:OwnS 43 2 (val3 8) [] (pc4 8):=hQ_ 8 (by decide)
 have e9_:val3 9= .pointer (some ⟨b1,2,none⟩):=(hQ_ 9 (by decide)).1
 have e10_:val3 10= .slice a3 t.m c3:=(hQ_ 10 (by decide)).1
 clear hQ_ hX_
 refine xww (Φ:=fun h_=>St h [] p h_ (([(b2,.cells #[.slice none 0 0,.slice none 0 0,.slice none 0 0] 25 (0,0)),(b1,.cells #[.slice a1 t.nH c1,.slice a2 t.nW c2,.slice a3 t.m c3] 25 (0,0))]:Pcs)++(pc4 3++(pc4 7++(pc4 8++[]))))) ?_ (fun h_ H_=>H_.swap')
 refine xfj (tm':=(zq16 [])) (by rw [e1_,e2_,e5_,e6_,e9_,e10_]) ?_
 have o8:=q3_
 have o10:=q7_
 have o11:=q8_
 refine xjj (List.Perm.append_left _ (List.Perm.append_left _ (List.perm_append_comm_assoc _ _ _))) ?_
 refine xjj (List.Perm.append_left _ (List.perm_append_comm_assoc _ _ _)) ?_
 refine xcq (L':=([(b2,.cells #[.slice none 0 0,.slice none 0 0,.slice none 0 0] 25 (0,0)),(b1,.cells #[.slice a1 t.nH c1,.slice a2 t.nW c2,.slice a3 t.m c3] 25 (0,0))]:Pcs)++((pc4 8)++((pc4 3)++((pc4 7)++[])))) rfl ?_
 refine xvq ([(b2,.cells #[.slice none 0 0,.slice none 0 0,.slice none 0 0] 25 (0,0)),(b1,.cells #[.slice a1 t.nH c1,.slice a2 t.nW c2,.slice a3 t.m c3] 25 (0,0))]:Pcs) (pc4 8) mn Tryd.underlying23 tS43 tZ43 rfl tB43 Tryd.underlying23 rfl rfl o11 T.y (wxv _) (by simp only [List.length_nil];omega) (by decide) (by decide) fun v12 X13 o14=>?_
 refine xfj (tm':=zq16 []) rfl ?_
 generalize val3 3=w15 at*
 obtain ⟨a16,c17,ev_,_⟩:=o8.val;have ev_:w15= .slice a16 ((([]++(t.hs.map fun x=>[Value.int .i64 x])):List (List Value)).length) c17:=ev_;subst ev_
 generalize val3 7=w18 at*
 obtain ⟨a19,c20,ev_,_⟩:=o10.val;have ev_:w18= .slice a19 ((([]++(t.ws.map fun x=>[Value.int .i64 x])):List (List Value)).length) c20:=ev_;subst ev_
 obtain ⟨a21,c22,ev_,_⟩:=o14.val;have ev_:v12= .slice a21 t.m c22:=ev_.trans (congrArg (fun q_=>Value.slice a21 q_ c22) (by have h_:=T.y.len;simpa using h_));subst ev_
 refine ro (xiq tZ25 tP25 (vs:=[(0,(.slice a16 ((([]++(t.hs.map fun x=>[Value.int .i64 x])):List (List Value)).length) c17)),(1,(.slice a19 ((([]++(t.ws.map fun x=>[Value.int .i64 x])):List (List Value)).length) c20)),(2,(.slice a21 t.m c22))]) rfl (cells:=#[(.slice a16 ((([]++(t.hs.map fun x=>[Value.int .i64 x])):List (List Value)).length) c17),(.slice a19 ((([]++(t.ws.map fun x=>[Value.int .i64 x])):List (List Value)).length) c20),(.slice a21 t.m c22)]) rfl) ?_
 refine xik mn tS25 rfl (v:=.agg #[(.slice a16 ((([]++(t.hs.map fun x=>[Value.int .i64 x])):List (List Value)).length) c17),(.slice a19 ((([]++(t.ws.map fun x=>[Value.int .i64 x])):List (List Value)).length) c20),(.slice a21 t.m c22)]) rfl (i:=0) rfl rfl (xfk o8.one.2 (xfk o10.one.2 (xfk o14.one.2 rfl))) (Nat.le_of_ble_eq_true rfl) (cs2:=[(.slice a16 ((([]++(t.hs.map fun x=>[Value.int .i64 x])):List (List Value)).length) c17),(.slice a19 ((([]++(t.ws.map fun x=>[Value.int .i64 x])):List (List Value)).length) c20),(.slice a21 t.m c22)]) rfl (xcq (L':=([(b2,.cells #[(.slice a16 ((([]++(t.hs.map fun x=>[Value.int .i64 x])):List (List Value)).length) c17),(.slice a19 ((([]++(t.ws.map fun x=>[Value.int .i64 x])):List (List Value)).length) c20),(.slice a21 t.m c22)] 25 (0,0)),(b1,.cells #[.slice a1 t.nH c1,.slice a2 t.nW c2,.slice a3 t.m c3] 25 (0,0))]:Pcs)++(X13++((pc4 3)++((pc4 7)++[])))) rfl ?_)
 refine xak ?_
 refine xdv Tryd.func17 rfl (vs:=[.agg #[(.slice a16 ((([]++(t.hs.map fun x=>[Value.int .i64 x])):List (List Value)).length) c17),(.slice a19 ((([]++(t.ws.map fun x=>[Value.int .i64 x])):List (List Value)).length) c20),(.slice a21 t.m c22)]]) (fun h_ H_=>⟨.agg #[(.slice a16 ((([]++(t.hs.map fun x=>[Value.int .i64 x])):List (List Value)).length) c17),(.slice a19 ((([]++(t.ws.map fun x=>[Value.int .i64 x])):List (List Value)).length) c20),(.slice a21 t.m c22)],_,rfl,(xbz (xbv (xnj tA25 tS25 (vs:=[(.slice a16 ((([]++(t.hs.map fun x=>[Value.int .i64 x])):List (List Value)).length) c17),(.slice a19 ((([]++(t.ws.map fun x=>[Value.int .i64 x])):List (List Value)).length) c20),(.slice a21 t.m c22)]) rfl (fun j_ v_ e_=>by rw [xnz];exact H_.ocell (i:=0) rfl (by simpa using e_)) ⟨rfl,rfl⟩))),rfl⟩) (v:=.agg #[(.slice a16 ((([]++(t.hs.map fun x=>[Value.int .i64 x])):List (List Value)).length) c17),(.slice a19 ((([]++(t.ws.map fun x=>[Value.int .i64 x])):List (List Value)).length) c20),(.slice a21 t.m c22)]) rfl ?_
 exact fun h_ H_=>K _ _ ⟨_,_,_,_,_,_,rfl,o8,o10,o14,by simpa using (H_.dropA).new⟩
theorem c22 (md:Md) (h:Heap) (p:PHeap) (hp:Per p h) (a1 a2 a3:Option Addr) (c1 c2 c3:Nat) (t:Tn) (T:TownP p a1 t.nH a2 t.nW a3 t.m t) (hn:t.nH≤40∧t.nW≤40∧t.m≤41)(a1' a2' a3':Option Addr) (c1' c2' c3':Nat) (u:Tn) (U:TownP p a1' u.nH a2' u.nW a3' u.m u) (hn':u.nH≤40∧u.nW≤40∧u.m≤41):CallsX Tryd.prog md 22 #[.agg #[.slice a1 t.nH c1,.slice a2 t.nW c2,.slice a3 t.m c3],.agg #[.slice a1' u.nH c1',.slice a2' u.nW c2',.slice a3' u.m c3']] h fun v h'=>v= .bool (decide (sameT t u))∧Keep h h':=by
 refine xcx (Φ:=fun h_=>St h [] p h_ []) Tryd.func22 rfl (tm:=zq1 (zq2 (zq4 (zq8 (zq32 []))))) rfl ?_ (St.start h _ hp)
 intro c₀ cs Stop K
 refine fsr ?_
 refine xij mn (v:=.agg #[.slice a1 t.nH c1,.slice a2 t.nW c2,.slice a3 t.m c3]) rfl fun b1=>xcq (L':=[(b1,.cells #[.slice a1 t.nH c1,.slice a2 t.nW c2,.slice a3 t.m c3] 25 (0,0))]) rfl ?_
 refine xij mn (v:=.agg #[.slice a1' u.nH c1',.slice a2' u.nW c2',.slice a3' u.m c3']) rfl fun b2=>xcq (L':=[(b2,.cells #[.slice a1' u.nH c1',.slice a2' u.nW c2',.slice a3' u.m c3'] 25 (0,0)),(b1,.cells #[.slice a1 t.nH c1,.slice a2 t.nW c2,.slice a3 t.m c3] 25 (0,0))]) rfl ?_
 refine xfj (tm':=zq4 _) rfl ?_
 refine ro (xax (v:=.bool (false)) rfl) <| ren <| fsr <| ro (xaz xnx rfl (a':=⟨b1,0,none⟩) rfl) ?_
 refine xbx mn (fun h_ H_=>xaj H_ tA22 rfl (i:=1) rfl (v:=.slice a1 t.nH c1) rfl) (tm':=zq8 _) rfl ?_
 refine ro (xaz xnx rfl (a':=⟨b2,0,none⟩) rfl) <| rd (fun h_ H_=>xaj H_ tA22 rfl (i:=0) rfl (v:=.slice a1' u.nH c1') rfl) ?_
 refine xeq mn (first:=[]) (cap:=[]) rfl rfl fC27 (fun h_ H_=>c27 md _ _ H_.pe _ _ _ _ _ _ _ _ T.h U.h (by omega)) (tm':=zq1 (zq2 (zq8 _))) rfl ?_
 refine ro (xjw rfl) <| ro (xaq (v:=.bool (!(decide (t.hs=u.hs)))) rfl) ?_
 by_cases cc3:t.hs=u.hs
 ·
  refine xbx (ms rfl rfl (xfw (dtt cc3))) (fun h_ H_=>xaz xnk rfl (a':=⟨b1,1,none⟩) rfl) (tm':=zq2 (zq4 (zq8 _))) rfl ?_
  refine xbx (ms rfl rfl (xfw (dtt cc3))) (fun h_ H_=>xaj H_ tA22 rfl (i:=1) rfl (v:=.slice a2 t.nW c2) rfl) rfl ?_
  refine xbx (ms rfl rfl (xfw (dtt cc3))) (fun h_ H_=>xaz xnk rfl (a':=⟨b2,1,none⟩) rfl) rfl ?_
  refine xbx (ms rfl rfl (xfw (dtt cc3))) (fun h_ H_=>xaj H_ tA22 rfl (i:=0) rfl (v:=.slice a2' u.nW c2') rfl) (tm':=zq1 (zq16 _)) rfl ?_
  refine xeq (ms rfl rfl (xfw (dtt cc3))) (first:=[]) (cap:=[]) rfl rfl fC27 (fun h_ H_=>c27 md _ _ H_.pe _ _ _ _ _ _ _ _ T.w U.w (by omega)) rfl ?_
  refine xbx (ms rfl rfl (xfw (dtt cc3))) (fun h_ H_=>xjw rfl) rfl ?_
  refine rt (xej rfl (xfw (dtt cc3)) (v:=.bool (!(decide (t.ws=u.ws)))) rfl) (tm':=zq4 (zq16 _)) rfl <| ro (xaq (v:=.bool (!(decide (t.ws=u.ws)))) rfl) ?_
  by_cases cc4:t.ws=u.ws
  ·
   refine xbx (ms rfl rfl (xfw (dtt cc4))) (fun h_ H_=>xaz xhj rfl (a':=⟨b1,2,none⟩) rfl) rfl ?_
   refine xbx (ms rfl rfl (xfw (dtt cc4))) (fun h_ H_=>xaj H_ tA23 rfl (i:=1) rfl (v:=.slice a3 t.m c3) rfl) (tm':=zq1 (zq2 (zq4 (zq16 _)))) rfl ?_
   refine xbx (ms rfl rfl (xfw (dtt cc4))) (fun h_ H_=>xfz Tryd.underlying23 rfl) rfl ?_
   refine xbx (ms rfl rfl (xfw (dtt cc4))) (fun h_ H_=>xaz xhj rfl (a':=⟨b2,2,none⟩) rfl) rfl ?_
   refine xbx (ms rfl rfl (xfw (dtt cc4))) (fun h_ H_=>xaj H_ tA23 rfl (i:=0) rfl (v:=.slice a3' u.m c3') rfl) (tm':=zq2 (zq8 (zq16 _))) rfl ?_
   refine xbx (ms rfl rfl (xfw (dtt cc4))) (fun h_ H_=>xfz Tryd.underlying23 rfl) rfl ?_
   refine xbx (ms rfl rfl (xfw (dtt cc4))) (fun h_ H_=>xmk rfl rfl) rfl ?_
   refine rt (xej rfl (xfw (dtt cc4)) (v:=.bool (decide (((t.m:Nat):Int)≠((u.m:Nat):Int)))) rfl) (tm':=zq1 (zq4 (zq8 (zq16 _)))) rfl <| xak ?_
   by_cases cc5:((t.m:Nat):Int)≠((u.m:Nat):Int)
   ·
    refine xdx rfl (dtt cc5) <| fsr <| ro (xax (v:=.bool (false)) rfl) <| xak ?_
    refine xdv Tryd.func22 rfl (vs:=[.bool (false)]) (fun h_ H_=>⟨.bool (false),_,rfl,rfl,rfl⟩) (v:=.bool (false)) rfl ?_
    exact fun h_ H_=>K _ _ ⟨by first | (rw [decide_eq_true (p:=sameT t u) (xuw ‹_› ‹_› (by omega) (fun i hi=>hs i (by omega)))]) | (rw [decide_eq_false (p:=sameT t u) (fun z_=>absurd z_.1 ‹_›)]) | (rw [decide_eq_false (p:=sameT t u) (fun z_=>absurd z_.2.1 ‹_›)]) | (rw [decide_eq_false (p:=sameT t u) (fun z_=>by have z2_:=congrArg List.length z_.2.2;unfold Tn.m at *;omega)]) | (rw [decide_eq_false (p:=sameT t u) (xzx (k:=k) ‹_›)]),H_.kept⟩
   ·
    refine xck rfl (dff cc5) <| xcv <| xez <| fsr <| ro (xax (v:=.int .i64 0) rfl) <| xak ?_
    refine xdj ?_
    refine xhk (m₀:=t.m-0) (fun m_ tm_ h_=>∃ (k:Nat),m_=t.m-k∧(∃ y6:Nat→Value,tm_=[.agg #[.slice a1 t.nH c1,.slice a2 t.nW c2,.slice a3 t.m c3],.agg #[.slice a1' u.nH c1',.slice a2' u.nW c2',.slice a3' u.m c3'],.pointer (some ⟨b1,0,none⟩),.pointer (some ⟨b2,0,none⟩),(y6 4),.int .i64 (((k:Nat):Int)),.pointer (some ⟨b1,0,none⟩),.slice a1 t.nH c1,.pointer (some ⟨b2,0,none⟩),.slice a1' u.nH c1',.bool (decide (t.hs=u.hs)),.bool (!(decide (t.hs=u.hs))),.bool (!(decide (t.hs=u.hs))),.pointer (some ⟨b1,1,none⟩),.slice a2 t.nW c2,.pointer (some ⟨b2,1,none⟩),.slice a2' u.nW c2',.bool (decide (t.ws=u.ws)),.bool (!(decide (t.ws=u.ws))),.bool (!(decide (t.ws=u.ws))),.bool (!(decide (t.ws=u.ws))),.pointer (some ⟨b1,2,none⟩),.slice a3 t.m c3,.int .i64 (((t.m:Nat):Int)),.pointer (some ⟨b2,2,none⟩),.slice a3' u.m c3',.int .i64 (((u.m:Nat):Int)),.bool (decide (((t.m:Nat):Int)≠((u.m:Nat):Int))),.bool (decide (((t.m:Nat):Int)≠((u.m:Nat):Int))),(y6 29),(y6 30),(y6 31),(y6 32),(y6 33),(y6 34),(y6 35),(y6 36),(y6 37),(y6 38),(y6 39),(y6 40),(y6 41),(y6 42),(y6 43),(y6 44),(y6 45),(y6 46)])∧(k≤t.m)∧(∀ i,i<k→t.wy.getD i wz=u.wy.getD i wz)∧St h [] p h_ ([(b2,.cells #[.slice a1' u.nH c1',.slice a2' u.nW c2',.slice a3' u.m c3'] 25 (0,0)),(b1,.cells #[.slice a1 t.nH c1,.slice a2 t.nW c2,.slice a3 t.m c3] 25 (0,0))])) (fun h_ H_=>⟨0,rfl,(y_of rfl),Nat.zero_le _,(fun i hi=>absurd hi (Nat.not_lt_zero i)),H_⟩) ?_
    intro m_ tm_ IH7
    refine xhq fun k=>xcz fun hm_=>xcz fun ht_=>xcz fun hk=>xcz fun hs=>?_
    subst hm_;obtain ⟨y6,ht_⟩:=ht_;subst ht_
    refine xez <| fsr <| rt (xaq (v:=.int .i64 (((k:Nat):Int))) rfl) (tm':=zq2 (zq4 (zq8 (zq16 _)))) rfl <| ro (xaz xhj rfl (a':=⟨b1,2,none⟩) rfl) <| rd (fun h_ H_=>xaj H_ tA23 rfl (i:=1) rfl (v:=.slice a3 t.m c3) rfl) <| rt (xfz Tryd.underlying23 rfl) (tm':=zq1 (zq2 (zq4 (zq8 (zq32 []))))) rfl ?_
    refine ro (xgj rfl rfl) <| xak ?_
    by_cases cc8:((k:Nat):Int)<((t.m:Nat):Int)
    ·
     refine xdx rfl (dtt cc8) <| xcv <| xez <| xdj <| xez ?_
     refine xgx 10 [[],[0],[],[0,1,2],[0,1,2,3],[],[5],[],[5,6,7],[5,6,7,8],[]] xkk (by kernel_rfl) (Nat.le_of_ble_eq_true rfl) ?_
     refine wt (xaz xhj rfl (a':=⟨b1,2,none⟩) rfl) (tm':=zq1 (zq2 (zq4 (zq8 (zq32 []))))) rfl <| wd (fun h_ H_=>xaj H_ tA23 rfl (i:=1) rfl (v:=.slice a3 t.m c3) rfl) <| wt (xaq (v:=.int .i64 (((k:Nat):Int))) rfl) (tm':=zq1 (zq2 (zq4 (zq8 (zq32 []))))) rfl ?_
     refine wo (xbw (i:=k) Tryd.underlying23 tS43 (xjq a3 t.m c3 (T.y.ne (by omega))) rfl (by omega)) ?_
     refine xbk mn (fun h_ H_=>xgw H_ tA43 tS43 rfl (vs:=[.int .i64 ((t.wy.getD k wz).1),.int .i64 ((t.wy.getD k wz).2)]) rfl (T.y.all (by omega))) (tm':=zq1 (zq2 (zq4 (zq8 (zq32 []))))) rfl ?_
     refine wo (xaz xhj rfl (a':=⟨b2,2,none⟩) rfl) ?_
     refine xbk mn (fun h_ H_=>xaj H_ tA23 rfl (i:=0) rfl (v:=.slice a3' u.m c3') rfl) (tm':=zq1 (zq2 (zq4 (zq8 (zq32 []))))) rfl ?_
     refine wo (xaq (v:=.int .i64 (((k:Nat):Int))) rfl) ?_
     refine wt (xbw (i:=k) Tryd.underlying23 tS43 (xjq a3' u.m c3' (U.y.ne (by omega))) rfl (by omega)) (tm':=zq1 (zq2 (zq4 (zq8 (zq32 []))))) rfl ?_
     refine wd (fun h_ H_=>xgw H_ tA43 tS43 rfl (vs:=[.int .i64 ((u.wy.getD k wz).1),.int .i64 ((u.wy.getD k wz).2)]) rfl (U.y.all (by omega))) ?_
     refine xiz rfl ?_
     refine rt (zzx gT43 (wxw 9998 _ _ _ _) rfl rfl) (tm':=zq1 (zq2 (zq4 (zq8 (zq32 []))))) rfl <| xak ?_
     by_cases cc9:(t.wy.getD k wz).1=(u.wy.getD k wz).1∧(t.wy.getD k wz).2=(u.wy.getD k wz).2
     ·
      refine xck rfl (xfw (dtt cc9)) <| xcv <| xdq <| xbq <| ro (xaq (v:=.int .i64 (((k:Nat):Int))) rfl) ?_
      refine ro (xek rfl rfl (n:=((k+1:Nat):Int)) (wr (by omega))) ?_
      refine rt (xax (v:=.int .i64 (((k+1:Nat):Int))) rfl) (tm':=zq2 (zq4 _)) rfl <| xak ?_
      exact fun h_ H_=>IH7 _ _ (by omega) h_ ⟨k+1,rfl,(y_of rfl),(by omega),(wyk hs ‹_›),H_⟩
     ·
      refine xdx rfl (xmz (dff cc9)) <| fsr <| ro (xax (v:=.bool (false)) rfl) <| xak ?_
      refine xdv Tryd.func22 rfl (vs:=[.bool (false)]) (fun h_ H_=>⟨.bool (false),_,rfl,rfl,rfl⟩) (v:=.bool (false)) rfl ?_
      exact fun h_ H_=>K _ _ ⟨by first | (rw [decide_eq_true (p:=sameT t u) (xuw ‹_› ‹_› (by omega) (fun i hi=>hs i (by omega)))]) | (rw [decide_eq_false (p:=sameT t u) (fun z_=>absurd z_.1 ‹_›)]) | (rw [decide_eq_false (p:=sameT t u) (fun z_=>absurd z_.2.1 ‹_›)]) | (rw [decide_eq_false (p:=sameT t u) (fun z_=>by have z2_:=congrArg List.length z_.2.2;unfold Tn.m at *;omega)]) | (rw [decide_eq_false (p:=sameT t u) (xzx (k:=k) ‹_›)]),H_.kept⟩
    ·
     refine xck rfl (dff cc8) <| xhz rfl <| fsr <| ro (xax (v:=.bool (true)) rfl) <| xak ?_
     refine xdv Tryd.func22 rfl (vs:=[.bool (true)]) (fun h_ H_=>⟨.bool (true),_,rfl,rfl,rfl⟩) (v:=.bool (true)) rfl ?_
     exact fun h_ H_=>K _ _ ⟨by first | (rw [decide_eq_true (p:=sameT t u) (xuw ‹_› ‹_› (by omega) (fun i hi=>hs i (by omega)))]) | (rw [decide_eq_false (p:=sameT t u) (fun z_=>absurd z_.1 ‹_›)]) | (rw [decide_eq_false (p:=sameT t u) (fun z_=>absurd z_.2.1 ‹_›)]) | (rw [decide_eq_false (p:=sameT t u) (fun z_=>by have z2_:=congrArg List.length z_.2.2;unfold Tn.m at *;omega)]) | (rw [decide_eq_false (p:=sameT t u) (xzx (k:=k) ‹_›)]),H_.kept⟩
  ·
   refine xfx (mo rfl rfl (xmz (dff cc4))) (tm':=zq2 (zq4 (zq16 _))) rfl <| rp (mo rfl rfl (xmz (dff cc4))) <| rp (mo rfl rfl (xmz (dff cc4))) <| xfx (mo rfl rfl (xmz (dff cc4))) (tm':=zq1 (zq8 (zq16 _))) rfl <| rp (mo rfl rfl (xmz (dff cc4))) <| rp (mo rfl rfl (xmz (dff cc4))) ?_
   refine xfx (mo rfl rfl (xmz (dff cc4))) (tm':=zq4 (zq8 (zq16 _))) rfl <| ro (xdz rfl (xmz (dff cc4)) (v:=.bool (true)) rfl) <| xak <| xdx rfl rfl <| fsr <| ro (xax (v:=.bool (false)) rfl) ?_
   refine xak ?_
   refine xdv Tryd.func22 rfl (vs:=[.bool (false)]) (fun h_ H_=>⟨.bool (false),_,rfl,rfl,rfl⟩) (v:=.bool (false)) rfl ?_
   exact fun h_ H_=>K _ _ ⟨by first | (rw [decide_eq_true (p:=sameT t u) (xuw ‹_› ‹_› (by omega) (fun i hi=>hs i (by omega)))]) | (rw [decide_eq_false (p:=sameT t u) (fun z_=>absurd z_.1 ‹_›)]) | (rw [decide_eq_false (p:=sameT t u) (fun z_=>absurd z_.2.1 ‹_›)]) | (rw [decide_eq_false (p:=sameT t u) (fun z_=>by have z2_:=congrArg List.length z_.2.2;unfold Tn.m at *;omega)]) | (rw [decide_eq_false (p:=sameT t u) (xzx (k:=k) ‹_›)]),H_.kept⟩
 ·
  refine xfx (mo rfl rfl (xmz (dff cc3))) (tm':=zq2 (zq4 (zq8 _))) rfl <| rp (mo rfl rfl (xmz (dff cc3))) <| rp (mo rfl rfl (xmz (dff cc3))) <| xfx (mo rfl rfl (xmz (dff cc3))) (tm':=zq1 (zq16 _)) rfl <| rp (mo rfl rfl (xmz (dff cc3))) <| rp (mo rfl rfl (xmz (dff cc3))) ?_
  refine rt (xdz rfl (xmz (dff cc3)) (v:=.bool (true)) rfl) (tm':=zq4 (zq16 _)) rfl <| ro (xaq (v:=.bool (true)) rfl) <| rp (mo rfl rfl rfl) <| xfx (mo rfl rfl rfl) (tm':=zq1 (zq2 (zq4 (zq16 _)))) rfl <| rp (mo rfl rfl rfl) <| rp (mo rfl rfl rfl) ?_
  refine xfx (mo rfl rfl rfl) (tm':=zq2 (zq8 (zq16 _))) rfl <| rp (mo rfl rfl rfl) <| rp (mo rfl rfl rfl) <| rt (xdz rfl rfl (v:=.bool (true)) rfl) (tm':=zq1 (zq4 (zq8 (zq16 _)))) rfl <| xak <| xdx rfl rfl ?_
  refine fsr <| ro (xax (v:=.bool (false)) rfl) <| xak ?_
  refine xdv Tryd.func22 rfl (vs:=[.bool (false)]) (fun h_ H_=>⟨.bool (false),_,rfl,rfl,rfl⟩) (v:=.bool (false)) rfl ?_
  exact fun h_ H_=>K _ _ ⟨by first | (rw [decide_eq_true (p:=sameT t u) (xuw ‹_› ‹_› (by omega) (fun i hi=>hs i (by omega)))]) | (rw [decide_eq_false (p:=sameT t u) (fun z_=>absurd z_.1 ‹_›)]) | (rw [decide_eq_false (p:=sameT t u) (fun z_=>absurd z_.2.1 ‹_›)]) | (rw [decide_eq_false (p:=sameT t u) (fun z_=>by have z2_:=congrArg List.length z_.2.2;unfold Tn.m at *;omega)]) | (rw [decide_eq_false (p:=sameT t u) (xzx (k:=k) ‹_›)]),H_.kept⟩
end Go.Proofs.YtalfgojocdonhaaDoor
namespace Go.Proofs.YtalfgojocdonhaaDoor
open Go.X Go.X.Flow Go.Conc
set_option maxRecDepth 10000
set_option synthInstance.maxSize 2000

set_option maxHeartbeats 2000000
theorem c51 (md:Md) (h:Heap) (p:PHeap) (hp:Per p h) (a1 a2 a3:Option Addr) (c1 c2 c3:Nat) (t:Tn) (T:TownP p a1 t.nH a2 t.nW a3 t.m t) (hn:t.nH≤40∧t.nW≤40∧t.m≤41) (O:OkT t) (x y:Int):CallsX Tryd.prog md 51 #[.agg #[.slice a1 t.nH c1,.slice a2 t.nW c2,.slice a3 t.m c3],.int .i64 (x),.int .i64 (y)] h fun v h'=>v= .bool (moreB t x y)∧Keep h h':=by
 refine xcx (Φ:=fun h_=>St h [] p h_ []) Tryd.func51 rfl (tm:=zq1 (zq2 (zq32 (zq32 [])))) rfl ?_ (St.start h _ hp)
 intro c₀ cs Stop K
 have hO:=O
 have oM_:=hO.nm
 refine fsr ?_
 refine xij mn (v:=.agg #[.slice a1 t.nH c1,.slice a2 t.nW c2,.slice a3 t.m c3]) rfl fun b1=>xcq (L':=[(b1,.cells #[.slice a1 t.nH c1,.slice a2 t.nW c2,.slice a3 t.m c3] 25 (0,0))]) rfl ?_
 refine ro (xax (v:=.bool (false)) rfl) <| ren <| xbq <| rt (xax (v:=.int .i64 1) rfl) (tm':=zq8 _) rfl <| ren <| fsr ?_
 refine ro (xax (v:=.int .i64 0) rfl) <| xak <| xdj ?_
 refine xhk (m₀:=t.m-0) (fun m_ tm_ h_=>∃ (k:Nat) (s:Int),m_=t.m-k∧(∃ y2:Nat→Value,tm_=(.agg #[.slice a1 t.nH c1,.slice a2 t.nW c2,.slice a3 t.m c3]::.int .i64 (x)::.int .i64 (y)::.pointer (some ⟨b1,0,none⟩)::undef::undef::(y2 6)::.int .i64 (s)::.int .i64 (((k:Nat):Int))::(y2 9)::(y2 10)::(y2 11)::(y2 12)::(y2 13)::(y2 14)::(y2 15)::(y2 16)::(y2 17)::(y2 18)::(y2 19)::(y2 20)::(y2 21)::(y2 22)::(y2 23)::(y2 24)::(y2 25)::(y2 26)::(y2 27)::(y2 28)::(y2 29)::(y2 30)::(y2 31)::(y2 32)::(y2 33)::(y2 34)::(y2 35)::(y2 36)::(y2 37)::(y2 38)::(y2 39)::(y2 40)::(y2 41)::(y2 42)::zu8 (zu16 [])))∧(k≤t.m)∧(s=prodM t k)∧(s≤2000)∧St h [] p h_ ([(b1,.cells #[.slice a1 t.nH c1,.slice a2 t.nW c2,.slice a3 t.m c3] 25 (0,0))])) (fun h_ H_=>⟨0,1,rfl,(y_of rfl),Nat.zero_le _,rfl,(by decide),H_⟩) ?_
 intro m_ tm_ IH3
 refine xhq fun k=>xhq fun s=>xcz fun hm_=>xcz fun ht_=>xcz fun hk=>xcz fun hs=>xcz fun h2=>?_
 subst hm_;obtain ⟨y2,ht_⟩:=ht_;subst ht_
 have hy_:=fun z_:k<t.m=>hO.y k z_
 have hp_:1≤s:=by rw [hs];exact yqx hO.toOk k hk
 refine xez <| fsr <| ro (xaq (v:=.int .i64 (((k:Nat):Int))) rfl) <| rt (xaz xhj rfl (a':=⟨b1,2,none⟩) rfl) (tm':=zq1 (zq2 (zq8 _))) rfl <| rd (fun h_ H_=>xaj H_ tA23 rfl (i:=0) rfl (v:=.slice a3 t.m c3) rfl) <| ro (xfz Tryd.underlying23 rfl) ?_
 refine rt (xgj rfl rfl) (tm':=zq2 (zq4 (zq8 _))) rfl <| xak ?_
 by_cases cc4:((k:Nat):Int)<((t.m:Nat):Int)
 ·
  refine xdx rfl (dtt cc4) <| xcv <| xez <| xdj <| xez ?_
  refine xgx 24 [[],[],[1],[],[3],[],[3,4,5],[3,4,5,6],[3,4,5,6,7],[1,2,3,4,5,6,7,8],[1,2,3,4,5,6,7,8,9],[],[11],[],[13],[],[13,14,15],[13,14,15,16],[13,14,15,16,17],[11,12,13,14,15,16,17,18],[11,12,13,14,15,16,17,18,19],[11,12,13,14,15,16,17,18,19,20],[1,2,3,4,5,6,7,8,9,10,11,12,13,14,15,16,17,18,19,20,21],[1,2,3,4,5,6,7,8,9,10,11,12,13,14,15,16,17,18,19,20,21,22],[],[]] xkk (by kernel_rfl) (Nat.le_of_ble_eq_true rfl) ?_
  refine wt (xaq (v:=.int .i64 (s)) rfl) (tm':=zq1 (zq16 _)) rfl <| wo (xaz xnx rfl (a':=⟨b1,0,none⟩) rfl) ?_
  refine xbk mn (fun h_ H_=>xaj H_ tA22 rfl (i:=0) rfl (v:=.slice a1 t.nH c1) rfl) (tm':=zq1 (zq2 (zq16 _))) rfl ?_
  refine wo (xaz xhj rfl (a':=⟨b1,2,none⟩) rfl) ?_
  refine xbk mn (fun h_ H_=>xaj H_ tA23 rfl (i:=0) rfl (v:=.slice a3 t.m c3) rfl) (tm':=zq1 (zq4 (zq16 _))) rfl ?_
  refine wo (xaq (v:=.int .i64 (((k:Nat):Int))) rfl) ?_
  refine wt (xbw (i:=k) Tryd.underlying23 tS43 (xjq a3 t.m c3 (T.y.ne (by omega))) rfl (by omega)) (tm':=zq1 (zq2 (zq4 (zq16 _)))) rfl ?_
  refine wo (xaz xoj rfl (a':=(adr a3).add (k*2)) rfl) ?_
  refine xbk mn (fun h_ H_=>xbj H_ tA3 rfl (v:=.int .i64 (((t.wh k:Nat):Int))) (T.y.hoN (by omega) (hO.yp _ (by omega)).1)) (tm':=zq1 (zq8 (zq16 _))) rfl ?_
  refine wo (xbw (i:=(t.wh k)) Tryd.underlying22 tS3 (xjq a1 t.nH c1 (T.h.ne (by omega))) rfl (by omega)) ?_
  refine xbk mn (fun h_ H_=>xbj H_ tA3 rfl (v:=.int .i64 (t.hv (t.wh k))) (T.h.get (by omega))) (tm':=zq1 (zq2 (zq8 (zq16 _)))) rfl ?_
  refine wo (xaz xnk rfl (a':=⟨b1,1,none⟩) rfl) ?_
  refine xbk mn (fun h_ H_=>xaj H_ tA22 rfl (i:=0) rfl (v:=.slice a2 t.nW c2) rfl) (tm':=zq1 (zq4 (zq8 (zq16 _)))) rfl ?_
  refine wo (xaz xhj rfl (a':=⟨b1,2,none⟩) rfl) ?_
  refine xbk mn (fun h_ H_=>xaj H_ tA23 rfl (i:=0) rfl (v:=.slice a3 t.m c3) rfl) (tm':=zq1 (zq2 (zq4 (zq8 (zq16 _))))) rfl ?_
  refine wo (xaq (v:=.int .i64 (((k:Nat):Int))) rfl) ?_
  refine wt (xbw (i:=k) Tryd.underlying23 tS43 (xjq a3 t.m c3 (T.y.ne (by omega))) rfl (by omega)) (tm':=zq1 (zq32 _)) rfl ?_
  refine wo (xaz xqv rfl (a':=((adr a3).add (k*2)).add 1) rfl) ?_
  refine xbk mn (fun h_ H_=>xbj H_ tA3 rfl (v:=.int .i64 (((t.ww k:Nat):Int))) (T.y.weN (by omega) (hO.yp _ (by omega)).2)) (tm':=zq1 (zq2 (zq32 _))) rfl ?_
  refine wo (xbw (i:=(t.ww k)) Tryd.underlying22 tS3 (xjq a2 t.nW c2 (T.w.ne (by omega))) rfl (by omega)) ?_
  refine xbk mn (fun h_ H_=>xbj H_ tA3 rfl (v:=.int .i64 (t.wv (t.ww k))) (T.w.get (by omega))) (tm':=zq1 (zq4 (zq32 _))) rfl ?_
  refine wo (xek rfl rfl (wr (by have z1_:=hy_ (by omega);have z2_:=hO.h _ z1_.1;have z3_:=hO.w _ z1_.2;omega))) ?_
  refine wt (zaj rfl rfl) (tm':=zq1 (zq2 (zq4 (zq32 _)))) rfl ?_
  refine wo (xek rfl rfl (wr (by have z1_:=hy_ (by omega);have z2_:=hO.h _ z1_.1;have z3_:=hO.w _ z1_.2;omega))) ?_
  refine xiz rfl ?_
  refine ro (yrj rfl rfl (wr (by have z1_:=hy_ (by omega);have z2_:=hO.h _ z1_.1;have z3_:=hO.w _ z1_.2;have z4_:0≤min (t.hv (t.wh k)) (t.wv (t.ww k)+1)+1∧min (t.hv (t.wh k)) (t.wv (t.ww k)+1)+1≤10:=(by omega);have z5_:=Int.mul_le_mul (show s≤2000 by omega) z4_.2 z4_.1 (by decide);have z6_:=Int.mul_nonneg (show 0≤s by omega) z4_.1;omega))) ?_
  refine ro (xax (v:=.int .i64 (s*((min (t.hv (t.wh k)) ((t.wv (t.ww k))+1))+1))) rfl) <| ren <| xbq <| rt (xaq (v:=.int .i64 (s*((min (t.hv (t.wh k)) ((t.wv (t.ww k))+1))+1))) rfl) (tm':=zq2 (zq8 (zq32 _))) rfl <| ro (xkq rfl rfl) <| xak ?_
  by_cases cc5:2000<s*((min (t.hv (t.wh k)) ((t.wv (t.ww k))+1))+1)
  ·
   refine xdx rfl (dtt cc5) <| fsr <| ro (xax (v:=.bool (true)) rfl) <| xak ?_
   refine xdv Tryd.func51 rfl (vs:=[.bool (true)]) (fun h_ H_=>⟨.bool (true),_,rfl,rfl,rfl⟩) (v:=.bool (true)) rfl ?_
   exact fun h_ H_=>K _ _ ⟨by rw [wpk hO.toOk (k:=k+1) (by omega) (by rw [prodM,← hs];unfold facM;assumption)],H_.kept⟩
  ·
   refine xck rfl (dff cc5) <| xcv <| xdq <| xbq <| rt (xaq (v:=.int .i64 (((k:Nat):Int))) rfl) (tm':=zq1 (zq2 (zq4 (zq8 _)))) rfl ?_
   refine ro (xek rfl rfl (n:=((k+1:Nat):Int)) (wr (by omega))) ?_
   refine ro (xax (v:=.int .i64 (((k+1:Nat):Int))) rfl) <| xak ?_
   exact fun h_ H_=>IH3 _ _ (by omega) h_ ⟨k+1,s*((min (t.hv (t.wh k)) ((t.wv (t.ww k))+1))+1),rfl,(y_of rfl),(by omega),(by rw [hs,prodM];rfl),(by omega),H_⟩
 ·
  refine xck rfl (dff cc4) <| xhz rfl <| xez <| fsr ?_
  refine xbx mn (fun h_ H_=>xav H_ tA25 tS25 rfl (i:=0) rfl (vs:=[.slice a1 t.nH c1,.slice a2 t.nW c2,.slice a3 t.m c3]) rfl rfl) (tm':=zq4 (zq8 (zq32 _))) rfl ?_
  refine ro (xaq (v:=.int .i64 (x)) rfl) ?_
  refine xeq mn (first:=[]) (cap:=[]) rfl rfl fC33 (fun h_ H_=>c33 md _ _ H_.pe _ _ _ _ _ _ _ _ _ t (show TownP _ _ _ _ _ _ _ t from ⟨T.h,T.w,T.y⟩) (by omega) (x)) rfl ?_
  refine rt (xaq (v:=.bool (decide (0≤x∧x≤(t.nH:Int)-1))) rfl) (tm':=zq1 (zq2 (zq32 (zq32 [])))) rfl ?_
  by_cases cc6:0≤x∧x≤(t.nH:Int)-1
  ·
   refine xbx (ms rfl rfl (dtt cc6)) (fun h_ H_=>xav H_ tA25 tS25 rfl (i:=0) rfl (vs:=[.slice a1 t.nH c1,.slice a2 t.nW c2,.slice a3 t.m c3]) rfl rfl) rfl ?_
   refine xbx (ms rfl rfl (dtt cc6)) (fun h_ H_=>xaq (v:=.int .i64 (y)) rfl) rfl ?_
   refine xeq (ms rfl rfl (dtt cc6)) (first:=[]) (cap:=[]) rfl rfl fC57 (fun h_ H_=>c57 md _ _ H_.pe _ _ _ _ _ _ _ _ _ t (show TownP _ _ _ _ _ _ _ t from ⟨T.h,T.w,T.y⟩) (by omega) (y)) (tm':=zq1 (zq2 (zq32 (zq32 [])))) rfl ?_
   refine ro (xdz rfl (dtt cc6) (v:=.bool (decide (0≤y∧y≤(t.nW:Int)-1))) rfl) <| xak ?_
   by_cases cc7:0≤y∧y≤(t.nW:Int)-1
   ·
    refine xdx rfl (dtt cc7) ?_
    refine xgx 13 [[],[],[1],[],[1,2,3],[1,2,3,4],[],[6],[],[6,7,8],[6,7,8,9],[1,2,3,4,5,6,7,8,9,10],[1,2,3,4,5,6,7,8,9,10,11],[],[]] xkk (by kernel_rfl) (Nat.le_of_ble_eq_true rfl) ?_
    refine wt (xaq (v:=.int .i64 (s)) rfl) (tm':=zq1 (zq2 (zq32 (zq32 [])))) rfl <| wo (xaz xnx rfl (a':=⟨b1,0,none⟩) rfl) ?_
    refine xbk mn (fun h_ H_=>xaj H_ tA22 rfl (i:=0) rfl (v:=.slice a1 t.nH c1) rfl) (tm':=zq1 (zq2 (zq32 (zq32 [])))) rfl ?_
    refine wo (xaq (v:=.int .i64 (x)) rfl) ?_
    refine wt (xkz Tryd.underlying22 tS3 (xjq a1 t.nH c1 (T.h.ne (by omega))) rfl (by omega) (by omega) (a':=(adr a1).add (((x).toNat)*1)) rfl) (tm':=zq1 (zq2 (zq32 (zq32 [])))) rfl ?_
    refine wd (fun h_ H_=>xbj H_ tA3 rfl (v:=.int .i64 (t.hs.getD ((x).toNat) 0)) (T.h.get (by omega))) ?_
    refine wt (xaz xnk rfl (a':=⟨b1,1,none⟩) rfl) (tm':=zq1 (zq2 (zq32 (zq32 [])))) rfl <| wd (fun h_ H_=>xaj H_ tA22 rfl (i:=0) rfl (v:=.slice a2 t.nW c2) rfl) <| wt (xaq (v:=.int .i64 (y)) rfl) (tm':=zq1 (zq2 (zq32 (zq32 [])))) rfl ?_
    refine wo (xkz Tryd.underlying22 tS3 (xjq a2 t.nW c2 (T.w.ne (by omega))) rfl (by omega) (by omega) (a':=(adr a2).add (((y).toNat)*1)) rfl) ?_
    refine xbk mn (fun h_ H_=>xbj H_ tA3 rfl (v:=.int .i64 (t.ws.getD ((y).toNat) 0)) (T.w.get (by omega))) (tm':=zq1 (zq2 (zq32 (zq32 [])))) rfl ?_
    refine wo (zaj rfl rfl) ?_
    refine wt (xek rfl rfl (wr (by have z2_:0≤t.hs.getD x.toNat 0∧t.hs.getD x.toNat 0≤9:=hO.h _ (by omega);have z3_:0≤t.ws.getD y.toNat 0∧t.ws.getD y.toNat 0≤21:=hO.w _ (by omega);omega))) (tm':=zq1 (zq2 (zq32 (zq32 [])))) rfl ?_
    refine xiz rfl ?_
    refine rt (yrj rfl rfl (wr (by have z2_:0≤t.hs.getD x.toNat 0∧t.hs.getD x.toNat 0≤9:=hO.h _ (by omega);have z3_:0≤t.ws.getD y.toNat 0∧t.ws.getD y.toNat 0≤21:=hO.w _ (by omega);have z4_:0≤min (t.hs.getD x.toNat 0) (t.ws.getD y.toNat 0)+1∧min (t.hs.getD x.toNat 0) (t.ws.getD y.toNat 0)+1≤10:=(by omega);have z5_:=Int.mul_le_mul (show s≤2000 by omega) z4_.2 z4_.1 (by decide);have z6_:=Int.mul_nonneg (show 0≤s by omega) z4_.1;omega))) (tm':=zq1 (zq2 (zq32 (zq32 [])))) rfl ?_
    refine ro (xax (v:=.int .i64 (s*((min (t.hs.getD ((x).toNat) 0) (t.ws.getD ((y).toNat) 0))+1))) rfl) <| ren <| xbq <| ro (xaq (v:=.int .i64 (s*((min (t.hs.getD ((x).toNat) 0) (t.ws.getD ((y).toNat) 0))+1))) rfl) <| rt (xkq rfl rfl) (tm':=zq1 (zq2 (zq32 (zq32 [])))) rfl <| ro (xax (v:=.bool (decide (2000<s*((min (t.hs.getD ((x).toNat) 0) (t.ws.getD ((y).toNat) 0))+1)))) rfl) ?_
    refine xak ?_
    refine xdv Tryd.func51 rfl (vs:=[.bool (decide (2000<s*((min (t.hs.getD ((x).toNat) 0) (t.ws.getD ((y).toNat) 0))+1)))]) (fun h_ H_=>⟨.bool (decide (2000<s*((min (t.hs.getD ((x).toNat) 0) (t.ws.getD ((y).toNat) 0))+1))),_,rfl,rfl,rfl⟩) (v:=.bool (decide (2000<s*((min (t.hs.getD ((x).toNat) 0) (t.ws.getD ((y).toNat) 0))+1)))) rfl ?_
    have e_:k=t.m:=by omega
    exact fun h_ H_=>K _ _ ⟨by rw [wpj (by rw [← e_,← hs];exact h2) ⟨by assumption,by assumption⟩,← e_,← hs];rfl,H_.kept⟩
   ·
    refine xck rfl (dff cc7) <| xcv <| fsr <| ro (xaq (v:=.int .i64 (s)) rfl) <| rt (xkq rfl rfl) (tm':=zq1 (zq2 (zq32 (zq32 [])))) rfl <| ro (xax (v:=.bool (decide (2000<s))) rfl) ?_
    refine xak ?_
    refine xdv Tryd.func51 rfl (vs:=[.bool (decide (2000<s))]) (fun h_ H_=>⟨.bool (decide (2000<s)),_,rfl,rfl,rfl⟩) (v:=.bool (decide (2000<s))) rfl ?_
    have e_:k=t.m:=by omega
    exact fun h_ H_=>K _ _ ⟨by rw [wfw (fun z_=>by first | exact absurd z_.1 ‹_› | exact absurd z_.2 ‹_›),← e_,← hs],H_.kept⟩
  ·
   refine rp (mo rfl rfl (dff cc6)) <| xfx (mo rfl rfl (dff cc6)) (tm':=zq1 (zq2 (zq32 (zq32 [])))) rfl <| rp (mo rfl rfl (dff cc6)) <| ro (xej rfl (dff cc6) (v:=.bool (false)) rfl) <| xak <| xck rfl rfl ?_
   refine xcv <| fsr <| rt (xaq (v:=.int .i64 (s)) rfl) (tm':=zq1 (zq2 (zq32 (zq32 [])))) rfl <| ro (xkq rfl rfl) <| ro (xax (v:=.bool (decide (2000<s))) rfl) <| xak ?_
   refine xdv Tryd.func51 rfl (vs:=[.bool (decide (2000<s))]) (fun h_ H_=>⟨.bool (decide (2000<s)),_,rfl,rfl,rfl⟩) (v:=.bool (decide (2000<s))) rfl ?_
   have e_:k=t.m:=by omega
   exact fun h_ H_=>K _ _ ⟨by rw [wfw (fun z_=>by first | exact absurd z_.1 ‹_› | exact absurd z_.2 ‹_›),← e_,← hs],H_.kept⟩
end Go.Proofs.YtalfgojocdonhaaDoor
namespace Go.Proofs.YtalfgojocdonhaaDoor
open Go.X Go.X.Flow Go.Conc

def From (pre:List Int) (s:Nat):Prop:=(pre=[]∧s=0)∨(0<pre.length∧pre.getD (pre.length-1) 0+1=((s:Nat):Int))
theorem From.next (pre:List Int) (s:Nat):From (pre++[((s:Nat):Int)]) (s+1):=.inr ⟨by simp,by simp⟩
theorem From.some {pre:List Int} {s m:Nat} (h:From pre s) (hm:pre.length=m) (h0:0<m):pre.getD (((m:Int)-1).toNat) 0+1=((s:Nat):Int):=by
  rcases h with ⟨e,_⟩ | ⟨_,e⟩
  · subst e;simp at hm;omega
  · rw [show ((m:Int)-1).toNat=pre.length-1 by omega];exact e
theorem From.zero {pre:List Int} {s m:Nat} (h:From pre s) (hm:pre.length=m) (h0: ¬ 0<m):s=0:=by
  rcases h with ⟨_,e⟩ | ⟨e,_⟩ <;> omega
def ListC (f:Nat):Prop:=∀ (md:Md) (h:Heap) (p:PHeap),Per p h→ ∀ (b:Option Addr) (m cb:Nat) (pre:List Int),Ints p b m pre→ ∀ (n s:Nat),From pre s→s≤n→n≤6→m+f≤6→
  CallsX Tryd.prog md 92 #[.slice b m cb,.int .i64 (((m+f:Nat):Nat):Int),.int .i64 ((n:Nat):Int)] h fun v h'=>∃ es X Z,OwnS 22 1 v es X∧Inn p es (lsts n f s pre) Z∧es.length=(lsts n f s pre).length∧(∀ u∈es.flatten,isOne u=true)∧New h h' (X++(Z++[]))
theorem wwj {f:Nat} (hrec:ListC f) {md:Md} {h h₀:Heap} {B₀:List Nat} {p:PHeap} {L Xo:Pcs} {v:Value} {pre:List Int} {M n s:Nat} (o:OwnS 3 1 v (pre.map fun x=>[.int .i64 x]) Xo)
    (hF:From pre s) (hs:s≤n) (hn:n≤6) (hf:pre.length+f≤6) (hM:M=pre.length+f) (h0:0<pre.length) (st:St h₀ B₀ p h ((Xo++[])++L)):
    CallsX Tryd.prog md 92 #[v,.int .i64 ((M:Nat):Int),.int .i64 ((n:Nat):Int)] h fun v' h'=>∃ x,(∃ w es X Z,v'=w∧OwnS 22 1 w es X∧Inn p es (lsts n f s pre) Z∧es.length=(lsts n f s pre).length∧(∀ u∈es.flatten,isOne u=true)∧x=X++(Z++[]))∧St h₀ B₀ p h' (x++L):=by
  rw [List.append_nil] at st
  obtain ⟨a',cap,b,ob,rfl,rfl,hp,le,sl⟩:=o.lend (by rw [List.length_map];exact h0) st
  rw [List.length_map] at sl ⊢
  subst hM
  refine (hrec md h _ hp a' _ cap pre sl n s hF hs hn hf).mono fun v' h' ⟨es,X,Z,o',i',l',e',N⟩=>?_
  refine ⟨X++((Z++[(b,ob)])++[]),⟨v',es,X,Z++[(b,ob)],rfl,o',i'.lent le,l',e',rfl⟩,?_⟩
  exact (st.callN N).perm (by simp)
structure LInv (p:PHeap) (n f s j:Nat) (pre:List Int) (w:Value) (es:List (List Value)) (X Z:Pcs):Prop where
  hj:s+j≤n
  o:OwnS 22 1 w es X
  i:Inn p es (lstP n f s pre j) Z
  el:es.length=(lstP n f s pre j).length
  eo: ∀ u∈es.flatten,isOne u=true
end Go.Proofs.YtalfgojocdonhaaDoor
namespace Go.Proofs.YtalfgojocdonhaaDoor
open Go.X Go.X.Flow Go.Conc
set_option maxRecDepth 10000
set_option synthInstance.maxSize 2000

set_option maxHeartbeats 2000000
theorem c92s (md:Md) (h:Heap) (p:PHeap) (hp:Per p h)  (b:Option Addr) (m cb:Nat) (pre:List Int) (W:Ints p b m pre) (n s:Nat) (hF:From pre s) (hsn:s≤n) (hn6:n≤6) (f M:Nat) (hM:M=m+f) (hf:m+f≤6) (hrec: ∀ f',f=f'+1→ListC f'):CallsX Tryd.prog md 92 #[.slice b m cb,.int .i64 (((M:Nat):Int)),.int .i64 (((n:Nat):Int))] h fun v h'=>∃ es X Z,OwnS 22 1 v es X∧Inn p es (lsts n f s pre) Z∧es.length=(lsts n f s pre).length∧(∀ u∈es.flatten,isOne u=true)∧New h h' (X++(Z++[])):=by
 refine xcx (Φ:=fun h_=>St h [] p h_ []) Tryd.func92 rfl (tm:=zq4 (zq8 (zq32 []))) rfl ?_ (St.start h _ hp)
 intro c₀ cs Stop K
 have hm:=W.len
 refine fsr <| ro (xax (v:=.slice none 0 0) rfl) <| ren <| fsr <| ro (xaq (v:=.slice b m cb) rfl) <| rt (xfz Tryd.underlying22 rfl) (tm':=zq4 (zq8 _)) rfl ?_
 refine ro (xaq (v:=.int .i64 (((M:Nat):Int))) rfl) <| ro (xkw rfl rfl) <| xak ?_
 by_cases cc1:((m:Nat):Int)=((M:Nat):Int)
 ·
  refine xdx rfl (dtt cc1) <| fsr <| rt (xaq (v:=.slice b m cb) rfl) (tm':=zq1 (zq2 (zq4 (zq8 _)))) rfl ?_
  refine xcq (L':=([]:Pcs)++[]) rfl ?_
  refine xjz ([]:Pcs) mn Tryd.underlying74 tS22 tZ22 (Nat.le_of_ble_eq_true rfl) (vs:=[(0,.slice b m cb)]) rfl rfl (es:=[[.slice b m cb]]) rfl rfl rfl fun v2 X3 o4=>?_
  refine ro (xax (v:=v2) rfl) <| xak ?_
  refine xdv Tryd.func92 rfl (vs:=[v2]) (fun h_ H_=>⟨v2,_,rfl,rfl,rfl⟩) (v:=v2) rfl ?_
  obtain rfl:f=0:=by omega
  exact fun h_ H_=>K _ _ ⟨_,_,[],o4,Inn.one W,rfl,(by simp [isOne]),by simpa using H_.dropA.new⟩
 ·
  refine xck rfl (dff cc1) <| xcv <| xez ?_
  obtain ⟨f0,rfl⟩: ∃ f0,f=f0+1:=⟨f-1,by omega⟩
  refine xbq <| rt (xax (v:=.int .i64 0) rfl) (tm':=zq8 _) rfl <| ren <| fsr <| ro (xaq (v:=.slice b m cb) rfl) <| ro (xfz Tryd.underlying22 rfl) ?_
  refine rt (xkq rfl rfl) (tm':=zq1 (zq2 (zq16 _))) rfl <| xak ?_
  by_cases cc5:0<((m:Nat):Int)
  ·
   refine xdx rfl (dtt cc5) <| xbq <| ro (xaq (v:=.slice b m cb) rfl) <| ro (xaq (v:=.slice b m cb) rfl) <| rt (xfz Tryd.underlying22 rfl) (tm':=zq2 (zq4 (zq16 _))) rfl ?_
   refine ro (xkj rfl rfl (wr (by have z_:=hF.some hm (by omega);omega))) ?_
   refine ro (xkz Tryd.underlying22 tS3 (xjq b m cb (W.ne (by omega))) rfl (by omega) (by omega) (a':=(adr b).add ((((((m:Nat):Int)-1)).toNat)*1)) rfl) ?_
   refine xbx mn (fun h_ H_=>xbj H_ tA3 rfl (v:=.int .i64 (pre.getD (((((m:Nat):Int)-1)).toNat) 0)) (W.get (by omega))) (tm':=zq1 (zq8 (zq16 _))) rfl ?_
   refine ro (xek rfl rfl (wr (by have z_:=hF.some hm (by omega);omega))) ?_
   refine ro (xax (v:=.int .i64 ((pre.getD (((((m:Nat):Int)-1)).toNat) 0)+1)) rfl) <| ren <| xbq <| rt (xax (v:=.slice none 0 0) rfl) (tm':=zq1 (zq8 _)) rfl <| ren <| fsr ?_
   refine ro (xaq (v:=.int .i64 ((pre.getD (((((m:Nat):Int)-1)).toNat) 0)+1)) rfl) <| ro (xax (v:=.int .i64 ((pre.getD (((((m:Nat):Int)-1)).toNat) 0)+1)) rfl) <| xak <| xdj ?_
   refine xhk (m₀:=n-s-0) (fun m_ tm_ h_=>∃ (j:Nat) (z:Int) (w:Value) (es:List (List Value)) (X:Pcs) (Z:Pcs),m_=n-s-j∧(∃ y6:Nat→Value,tm_=[.slice b m cb,.int .i64 (((M:Nat):Int)),.int .i64 (((n:Nat):Int)),undef,undef,undef,.slice none 0 0,.int .i64 ((pre.getD (((((m:Nat):Int)-1)).toNat) 0)+1),w,.int .i64 (z),.slice b m cb,.int .i64 (((m:Nat):Int)),.int .i64 (((M:Nat):Int)),.bool (decide (((m:Nat):Int)=((M:Nat):Int))),undef,undef,.slice b m cb,.int .i64 (((m:Nat):Int)),.bool (decide (0<((m:Nat):Int))),.slice b m cb,.slice b m cb,.int .i64 (((m:Nat):Int)),.int .i64 (((m:Nat):Int)-1),.pointer (some ((adr b).add ((((((m:Nat):Int)-1)).toNat)*1))),.int .i64 (pre.getD (((((m:Nat):Int)-1)).toNat) 0),.int .i64 ((pre.getD (((((m:Nat):Int)-1)).toNat) 0)+1),.int .i64 ((pre.getD (((((m:Nat):Int)-1)).toNat) 0)+1),(y6 27),(y6 28),(y6 29),(y6 30),(y6 31),(y6 32),(y6 33),(y6 34),(y6 35),(y6 36),(y6 37),(y6 38),(y6 39),(y6 40),(y6 41),(y6 42),undef])∧(z=((s+j:Nat):Int))∧(LInv p n f0 s j pre w es X Z)∧St h [] p h_ (([]:Pcs)++(X++(Z++[])))) (fun h_ H_=>⟨0,(pre.getD (((((m:Nat):Int)-1)).toNat) 0)+1,_,_,[],[],rfl,(y_of rfl),(by first | (have z_:=hF.some hm (by omega);omega) | (have z_:=hF.zero hm (by omega);omega)),⟨(by omega),OwnS.empty _ _,Inn.nil,rfl,(by simp)⟩,H_⟩) ?_
   intro m_ tm_ IH7
   refine xhq fun j=>xhq fun z=>xhq fun w=>xhq fun es=>xhq fun X=>xhq fun Z=>xcz fun hm_=>xcz fun ht_=>xcz fun hz=>xcz fun hI=>?_
   subst hm_;obtain ⟨y6,ht_⟩:=ht_;subst ht_
   have hj:=hI.hj;have o:=hI.o;have i_:=hI.i;have el:=hI.el;have eo:=hI.eo
   refine xez <| fsr <| rt (xaq (v:=.int .i64 (z)) rfl) (tm':=zq4 (zq8 (zq16 _))) rfl <| ro (xaq (v:=.int .i64 (((n:Nat):Int))) rfl) <| ro (xgj rfl rfl) <| xak ?_
   by_cases cc8:z<((n:Nat):Int)
   ·
    refine xdx rfl (dtt cc8) <| xcv <| xez <| xdj <| xbq <| rt (xaq (v:=w) rfl) (tm':=zq4 (zq8 (zq32 []))) rfl ?_
    refine xjz ([]:Pcs) mn Tryd.underlying22 tS3 tZ3 (Nat.le_of_ble_eq_true rfl) (vs:=[]) rfl rfl (es:=[]) rfl rfl rfl fun v9 X10 o11=>?_
    refine ro (xaq (v:=.slice b m cb) rfl) ?_
    refine xvq ([]:Pcs) X10 mn Tryd.underlying22 tS3 tZ3 rfl tB3 Tryd.underlying22 rfl rfl o11 W (xrv _) (by first | exact ycq (by omega) (by omega) (by omega) el ‹_› | (simp;omega)) (by decide) (by decide) fun v12 X13 o14=>?_
    refine xfj (tm':=zq4 (zq8 (zq32 []))) rfl ?_
    refine ro (xaq (v:=.int .i64 (z)) rfl) ?_
    refine xjz ([]:Pcs) mn Tryd.underlying22 tS3 tZ3 (Nat.le_of_ble_eq_true rfl) (vs:=[(0,.int .i64 (z))]) rfl rfl (es:=[[.int .i64 (z)]]) rfl rfl rfl fun v15 X16 o17=>?_
    refine xjj (List.Perm.append_left _ (List.perm_append_comm_assoc _ _ _)) ?_
    refine xcq (L':=([]:Pcs)++(X13++(X16++(X++(Z++[]))))) rfl ?_
    refine xmv ([]:Pcs) X13 X16 mn Tryd.underlying22 tS3 tZ3 rfl tB3 Tryd.underlying22 rfl rfl o14 o17 (xtx rfl) (by first | exact ycq (by omega) (by omega) (by omega) el ‹_› | (simp;omega)) (by decide) fun v18 X19 o20=>?_
    refine xfj (tm':=zq4 (zq8 (zq32 []))) rfl ?_
    refine ro (xaq (v:=.int .i64 (((M:Nat):Int))) rfl) <| ro (xaq (v:=.int .i64 (((n:Nat):Int))) rfl) ?_
    refine xiw mn (first:=[]) (cap:=[]) rfl rfl fC92 (R:=fun v_ h_=>∃ w21:Value,∃ es22:List (List Value),∃ X23:Pcs,∃ Z24:Pcs,v_=w21∧(OwnS 22 1 w21 es22 X23)∧(Inn p es22 (lsts n f0 (s+j+1) (pre++[((s+j:Nat):Int)])) Z24)∧(es22.length=(lsts n f0 (s+j+1) (pre++[((s+j:Nat):Int)])).length)∧(∀ u∈es22.flatten,isOne u=true)∧St h [] p h_ (([]:Pcs)++((X23++(Z24++[]))++(X++(Z++[]))))) (fun h_ H_=>have H_:St h [] p h_ ((X19++[])++(([]:Pcs)++(X++(Z++[])))):=H_.perm (by rw [List.append_nil X19];exact List.perm_append_comm_assoc _ _ _);(wwj (hrec _ rfl) (pre:=(pre++[((s+j:Nat):Int)])) (o20.as (by rw [hz];simp)) (From.next pre (s+j)) (by omega) hn6 (by simp;omega) (by simp;omega) (by simp) H_).mono fun v_ h2_ ⟨x_,⟨w21,es22,X23,Z24,e_,o25,i26,el27,eo28,ex_⟩,N_⟩=>⟨w21,es22,X23,Z24,e_,o25,i26,el27,eo28,(ex_ ▸ N_).perm (List.perm_append_comm_assoc _ _ _)⟩) fun v_=>?_
    refine xgz fun w21=>xgz fun es22=>xgz fun X23=>xgz fun Z24=>xfq fun ev_=>xfq fun o25=>xfq fun i26=>xfq fun el27=>xfq fun eo28=>?_
    have ev_:=ev_.symm;subst ev_
    refine xcq (L':=([]:Pcs)++(X23++(Z24++(X++(Z++[]))))) (by simp) ?_
    refine xfj (tm':=zq4 (zq8 (zq32 []))) rfl ?_
    refine xjj (List.Perm.append_left _ (List.Perm.append_left _ (List.perm_append_comm_assoc _ _ _))) ?_
    refine xjj (List.Perm.append_left _ (List.perm_append_comm_assoc _ _ _)) ?_
    refine xcq (L':=([]:Pcs)++(X++(X23++(Z24++(Z++[]))))) rfl ?_
    refine xmv ([]:Pcs) X X23 mn Tryd.underlying74 tS22 tZ22 rfl tB22 Tryd.underlying74 rfl rfl o o25 eo28 (by first | exact ycq (by omega) (by omega) (by omega) el ‹_› | (simp;omega)) (by decide) fun v29 X30 o31=>?_
    refine ro (xax (v:=v29) rfl) <| xak <| xdq <| xbq <| rt (xaq (v:=.int .i64 (z)) rfl) (tm':=zq4 (zq8 (zq32 []))) rfl ?_
    refine ro (xek rfl rfl (wr (by omega))) ?_
    refine ro (xax (v:=.int .i64 (z+1)) rfl) <| xak ?_
    refine xgv (List.Perm.append_left _ (List.Perm.append_left _ (List.perm_append_comm_assoc _ _ _))) ?_
    refine xlk (L':=([]:Pcs)++(X30++(Z++(Z24++[])))) rfl ?_
    refine xlk (L':=([]:Pcs)++(X30++((Z++Z24)++[]))) (by simp) ?_
    exact fun h_ H_=>IH7 _ _ (by omega) h_ ⟨j+1,z+1,v29,_,X30,(Z++Z24),rfl,(y_of rfl),(by omega),⟨(by omega),o31,((i_.app i26).as (by rw [ybq]) rfl),(by rw [List.length_append,el,el27,ybq,List.length_append]),(yyk eo eo28)⟩,H_⟩
   ·
    refine xck rfl (dff cc8) <| xhz rfl <| fsr <| rt (xaq (v:=w) rfl) (tm':=zq4 (zq8 (zq32 []))) rfl <| ro (xax (v:=w) rfl) <| xak ?_
    refine xdv Tryd.func92 rfl (vs:=[w]) (fun h_ H_=>⟨w,_,rfl,rfl,rfl⟩) (v:=w) rfl ?_
    have hjj:j=n-s:=by omega
    subst hjj
    exact fun h_ H_=>K _ _ ⟨_,_,_,o,i_,el,eo,by simpa using H_.dropA.new⟩
  ·
   refine xck rfl (dff cc5) <| xcv <| fsr <| ro (xax (v:=.slice none 0 0) rfl) <| ren <| fsr ?_
   refine rt (xaq (v:=.int .i64 0) rfl) (tm':=zq1 (zq2 (zq8 (zq16 _)))) rfl <| ro (xax (v:=.int .i64 0) rfl) <| xak <| xdj ?_
   refine xhk (m₀:=n-s-0) (fun m_ tm_ h_=>∃ (j:Nat) (z:Int) (w:Value) (es:List (List Value)) (X:Pcs) (Z:Pcs),m_=n-s-j∧(∃ y32:Nat→Value,tm_=[.slice b m cb,.int .i64 (((M:Nat):Int)),.int .i64 (((n:Nat):Int)),undef,undef,undef,.slice none 0 0,.int .i64 0,w,.int .i64 (z),.slice b m cb,.int .i64 (((m:Nat):Int)),.int .i64 (((M:Nat):Int)),.bool (decide (((m:Nat):Int)=((M:Nat):Int))),undef,undef,.slice b m cb,.int .i64 (((m:Nat):Int)),.bool (decide (0<((m:Nat):Int))),undef,undef,undef,undef,undef,undef,undef,.int .i64 0,(y32 27),(y32 28),(y32 29),(y32 30),(y32 31),(y32 32),(y32 33),(y32 34),(y32 35),(y32 36),(y32 37),(y32 38),(y32 39),(y32 40),(y32 41),(y32 42),undef])∧(z=((s+j:Nat):Int))∧(LInv p n f0 s j pre w es X Z)∧St h [] p h_ (([]:Pcs)++(X++(Z++[])))) (fun h_ H_=>⟨0,0,_,_,[],[],rfl,(y_of rfl),(by first | (have z_:=hF.some hm (by omega);omega) | (have z_:=hF.zero hm (by omega);omega)),⟨(by omega),OwnS.empty _ _,Inn.nil,rfl,(by simp)⟩,H_⟩) ?_
   intro m_ tm_ IH33
   refine xhq fun j=>xhq fun z=>xhq fun w=>xhq fun es=>xhq fun X=>xhq fun Z=>xcz fun hm_=>xcz fun ht_=>xcz fun hz=>xcz fun hI=>?_
   subst hm_;obtain ⟨y32,ht_⟩:=ht_;subst ht_
   have hj:=hI.hj;have o:=hI.o;have i_:=hI.i;have el:=hI.el;have eo:=hI.eo
   refine xez <| fsr <| ro (xaq (v:=.int .i64 (z)) rfl) <| rt (xaq (v:=.int .i64 (((n:Nat):Int))) rfl) (tm':=zq1 (zq4 (zq8 (zq16 _)))) rfl <| ro (xgj rfl rfl) <| xak ?_
   by_cases cc34:z<((n:Nat):Int)
   ·
    refine xdx rfl (dtt cc34) <| xcv <| xez <| xdj <| xbq <| ro (xaq (v:=w) rfl) ?_
    refine xjz ([]:Pcs) mn Tryd.underlying22 tS3 tZ3 (Nat.le_of_ble_eq_true rfl) (vs:=[]) rfl rfl (es:=[]) rfl rfl rfl fun v35 X36 o37=>?_
    refine xfj (tm':=zq4 (zq8 (zq32 []))) rfl ?_
    refine ro (xaq (v:=.slice b m cb) rfl) ?_
    refine xvq ([]:Pcs) X36 mn Tryd.underlying22 tS3 tZ3 rfl tB3 Tryd.underlying22 rfl rfl o37 W (xrv _) (by first | exact ycq (by omega) (by omega) (by omega) el ‹_› | (simp;omega)) (by decide) (by decide) fun v38 X39 o40=>?_
    refine rt (xaq (v:=.int .i64 (z)) rfl) (tm':=zq4 (zq8 (zq32 []))) rfl ?_
    refine xjz ([]:Pcs) mn Tryd.underlying22 tS3 tZ3 (Nat.le_of_ble_eq_true rfl) (vs:=[(0,.int .i64 (z))]) rfl rfl (es:=[[.int .i64 (z)]]) rfl rfl rfl fun v41 X42 o43=>?_
    refine xjj (List.Perm.append_left _ (List.perm_append_comm_assoc _ _ _)) ?_
    refine xcq (L':=([]:Pcs)++(X39++(X42++(X++(Z++[]))))) rfl ?_
    refine xmv ([]:Pcs) X39 X42 mn Tryd.underlying22 tS3 tZ3 rfl tB3 Tryd.underlying22 rfl rfl o40 o43 (xtx rfl) (by first | exact ycq (by omega) (by omega) (by omega) el ‹_› | (simp;omega)) (by decide) fun v44 X45 o46=>?_
    refine rt (xaq (v:=.int .i64 (((M:Nat):Int))) rfl) (tm':=zq4 (zq8 (zq32 []))) rfl <| ro (xaq (v:=.int .i64 (((n:Nat):Int))) rfl) ?_
    refine xiw mn (first:=[]) (cap:=[]) rfl rfl fC92 (R:=fun v_ h_=>∃ w47:Value,∃ es48:List (List Value),∃ X49:Pcs,∃ Z50:Pcs,v_=w47∧(OwnS 22 1 w47 es48 X49)∧(Inn p es48 (lsts n f0 (s+j+1) (pre++[((s+j:Nat):Int)])) Z50)∧(es48.length=(lsts n f0 (s+j+1) (pre++[((s+j:Nat):Int)])).length)∧(∀ u∈es48.flatten,isOne u=true)∧St h [] p h_ (([]:Pcs)++((X49++(Z50++[]))++(X++(Z++[]))))) (fun h_ H_=>have H_:St h [] p h_ ((X45++[])++(([]:Pcs)++(X++(Z++[])))):=H_.perm (by rw [List.append_nil X45];exact List.perm_append_comm_assoc _ _ _);(wwj (hrec _ rfl) (pre:=(pre++[((s+j:Nat):Int)])) (o46.as (by rw [hz];simp)) (From.next pre (s+j)) (by omega) hn6 (by simp;omega) (by simp;omega) (by simp) H_).mono fun v_ h2_ ⟨x_,⟨w47,es48,X49,Z50,e_,o51,i52,el53,eo54,ex_⟩,N_⟩=>⟨w47,es48,X49,Z50,e_,o51,i52,el53,eo54,(ex_ ▸ N_).perm (List.perm_append_comm_assoc _ _ _)⟩) fun v_=>?_
    refine xgz fun w47=>xgz fun es48=>xgz fun X49=>xgz fun Z50=>xfq fun ev_=>xfq fun o51=>xfq fun i52=>xfq fun el53=>xfq fun eo54=>?_
    have ev_:=ev_.symm;subst ev_
    refine xcq (L':=([]:Pcs)++(X49++(Z50++(X++(Z++[]))))) (by simp) ?_
    refine xjj (List.Perm.append_left _ (List.Perm.append_left _ (List.perm_append_comm_assoc _ _ _))) ?_
    refine xjj (List.Perm.append_left _ (List.perm_append_comm_assoc _ _ _)) ?_
    refine xcq (L':=([]:Pcs)++(X++(X49++(Z50++(Z++[]))))) rfl ?_
    refine xmv ([]:Pcs) X X49 mn Tryd.underlying74 tS22 tZ22 rfl tB22 Tryd.underlying74 rfl rfl o o51 eo54 (by first | exact ycq (by omega) (by omega) (by omega) el ‹_› | (simp;omega)) (by decide) fun v55 X56 o57=>?_
    refine xfj (tm':=zq4 (zq8 (zq32 []))) rfl ?_
    refine ro (xax (v:=v55) rfl) <| xak <| xdq <| xbq <| ro (xaq (v:=.int .i64 (z)) rfl) ?_
    refine rt (xek rfl rfl (wr (by omega))) (tm':=zq4 (zq8 (zq32 []))) rfl ?_
    refine ro (xax (v:=.int .i64 (z+1)) rfl) <| xak ?_
    refine xgv (List.Perm.append_left _ (List.Perm.append_left _ (List.perm_append_comm_assoc _ _ _))) ?_
    refine xlk (L':=([]:Pcs)++(X56++(Z++(Z50++[])))) rfl ?_
    refine xlk (L':=([]:Pcs)++(X56++((Z++Z50)++[]))) (by simp) ?_
    exact fun h_ H_=>IH33 _ _ (by omega) h_ ⟨j+1,z+1,v55,_,X56,(Z++Z50),rfl,(y_of rfl),(by omega),⟨(by omega),o57,((i_.app i52).as (by rw [ybq]) rfl),(by rw [List.length_append,el,el53,ybq,List.length_append]),(yyk eo eo54)⟩,H_⟩
   ·
    refine xck rfl (dff cc34) <| xhz rfl <| fsr <| ro (xaq (v:=w) rfl) <| rt (xax (v:=w) rfl) (tm':=zq1 (zq2 (zq4 _))) rfl <| xak ?_
    refine xdv Tryd.func92 rfl (vs:=[w]) (fun h_ H_=>⟨w,_,rfl,rfl,rfl⟩) (v:=w) rfl ?_
    have hjj:j=n-s:=by omega
    subst hjj
    exact fun h_ H_=>K _ _ ⟨_,_,_,o,i_,el,eo,by simpa using H_.dropA.new⟩
theorem zsj: ∀ f,ListC f
 | 0=>fun md h p hp b m cb pre W n s hF hs hn hf=>c92s md h p hp b m cb pre W n s hF hs hn 0 _ rfl hf fun f' e=>by omega
 | f+1=>fun md h p hp b m cb pre W n s hF hs hn hf=>c92s md h p hp b m cb pre W n s hF hs hn (f+1) _ rfl hf fun f' e=>by
  obtain rfl:f=f':=by omega
  exact zsj f
theorem c92w (md:Md) (h:Heap) (p:PHeap) (hp:Per p h) (k n:Nat) (hk:k<6) (hn:n≤6):CallsX Tryd.prog md 92 #[.slice none 0 0,.int .i64 ((k+1:Nat):Int),.int .i64 ((n:Nat):Int)] h fun v h'=>∃ w es X Z,v=w∧OwnS 22 1 w es X∧Inn p es (lsts n (k+1) 0 []) Z∧es.length=(lsts n (k+1) 0 []).length∧New h h' (X++(Z++[])):=by
 have:=zsj (k+1) md h p hp none 0 0 [] (ymv p) n 0 (.inl ⟨rfl,rfl⟩) (Nat.zero_le _) hn (by omega)
 rw [Nat.zero_add] at this
 exact this.mono fun v h' ⟨es,X,Z,o,i,el,_,N⟩=>⟨v,es,X,Z,rfl,o,i,el,N⟩
end Go.Proofs.YtalfgojocdonhaaDoor
namespace Go.X
open Go.Conc
structure Fresh (h₀:Heap) (B₀:List Nat) (p:PHeap) (Z:Pcs):Prop where
  own: ∀ x∈Z,p x.1=none∧(h₀.size≤x.1∨x.1∈B₀)
  nod:(Z.map (·.1)).Nodup
theorem wox {P:Program} {md:Md} {g:Goroutine} {Stop:Goroutine→Heap→Prop} {h₀:Heap} {B₀:List Nat} {A C Z:Pcs} {p:PHeap}
    (nx: ∀ p',PLe p p'→(∀ x∈Z,p' x.1=some x.2)→Fresh h₀ B₀ p Z→RS P md g (fun h=>St h₀ B₀ p' h (A++C)) Stop):RS P md g (fun h=>St h₀ B₀ p h (A++(Z++C))) Stop:=fun h s=>by
  have s1:St h₀ B₀ p h Z:=s.sub ((List.sublist_append_left Z C).trans (List.sublist_append_right A _))
  exact yfj (fun p' le hz=>nx p' le hz ⟨fun x hx=>(s1.own x hx).2,s1.nod⟩) h s
theorem St.unlast {h₀ h:Heap} {B₀:List Nat} {p p':PHeap} {L Z:Pcs} (s:St h₀ B₀ p' h L) (le:PLe p p') (hz: ∀ x∈Z,p' x.1=some x.2) (f:Fresh h₀ B₀ p Z):St h₀ B₀ p h (L++Z):=by
  refine ⟨s.keep,s.size,fun b o x=>s.per b o (le b o x),fun x hx=>?_,?_⟩
  · rcases List.mem_append.1 hx with hx | hx
    · obtain ⟨a,b,c⟩:=s.own x hx
      refine ⟨a,?_,c⟩
      cases e:p x.1 with
      | none=>rfl
      | some y=>rw [le _ _ e] at b;cases b
    · exact ⟨s.per _ _ (hz x hx),f.own x hx⟩
  · rw [List.map_append,List.nodup_append]
    refine ⟨s.nod,f.nod,fun a ha b hb e=>?_⟩
    obtain ⟨x,hx,rfl⟩:=List.mem_map.1 ha
    obtain ⟨y,hy,rfl⟩:=List.mem_map.1 hb
    have h1:=(s.own x hx).2.1
    have h2:=hz y hy
    rw [e,h2] at h1;cases h1
section
variable {p:PHeap} {es:List (List Value)} {xss:List (List Int)} {Z:Pcs} {A:Nat→Option Addr} {C:Nat→Nat} {n:Nat}
theorem Refs.tab2 {a:Option Addr} {m:Nat} (r:Refs p es xss) (s:Sl p a m 1 es): ∃ A C,(∀ i,i<xss.length→es[i]?=some [.slice (A i) (xss.getD i []).length (C i)])∧Tab1 p a xss.length A C (fun i=>(xss.getD i []).length) (fun i=>xss.getD i []):=by
  obtain ⟨hl,r⟩:=r
  have hn:m=xss.length:=by rw [← hl];exact s.len.symm
  have key: ∀ i:Nat,∃ y:Option Addr × Nat,i<xss.length→es[i]?=some [.slice y.1 (xss.getD i []).length y.2]∧Ints p y.1 (xss.getD i []).length (xss.getD i []):=fun i=>by
    by_cases h:i<xss.length
    · obtain ⟨a,c,h1,h2⟩:=r i h
      exact ⟨(a,c),fun _=>⟨h1,h2⟩⟩
    · exact ⟨(none,0),fun x=>absurd x h⟩
  obtain ⟨F,hF⟩:=Classical.axiomOfChoice key
  exact ⟨fun i=>(F i).1,fun i=>(F i).2,fun i hi=>(hF i hi).1,fun h=>s.ne (by omega),fun i hi=>s.get i _ (hF i hi).1 0 _ rfl,fun i hi=>(hF i hi).2⟩
theorem Inn.pick (x:Inn p es xss Z) (hA: ∀ i,i<xss.length→es[i]?=some [.slice (A i) (xss.getD i []).length (C i)]) (hn: ∀ i,i<xss.length→(xss.getD i []).length=n) {l:List Nat} (hi: ∀ i∈l,i<xss.length):
    Inn p (l.map fun i=>[Value.slice (A i) n (C i)]) (l.map fun i=>xss.getD i []) Z:=fun p' le hz=>by
  obtain ⟨_,r⟩:=x p' le hz
  refine ⟨by simp,fun j hj=>?_⟩
  rw [List.length_map] at hj
  have hl:=hi l[j] (List.getElem_mem hj)
  obtain ⟨a,c,e1,e2⟩:=r l[j] hl
  rw [hA _ hl] at e1
  have e:=Option.some.inj e1
  simp only [List.cons.injEq,Value.slice.injEq,and_true,true_and] at e
  obtain ⟨rfl,rfl⟩:=e
  have ej:(l.map fun i=>xss.getD i []).getD j []=xss.getD l[j] []:=by rw [List.getD_eq_getElem?_getD,List.getElem?_map,List.getElem?_eq_getElem hj];rfl
  rw [ej]
  exact ⟨_,_,by rw [List.getElem?_map,List.getElem?_eq_getElem hj,Option.map_some,hn _ hl],e2⟩
end
end Go.X
namespace Go.Proofs.YtalfgojocdonhaaDoor
open Go.X Go.X.Flow Go.Conc
set_option maxRecDepth 10000
set_option synthInstance.maxSize 2000

set_option maxHeartbeats 2000000
theorem c39 (md:Md) (h:Heap) (p:PHeap) (hp:Per p h) (a1 a2 a3:Option Addr) (c1 c2 c3:Nat) (t:Tn) (T:TownP p a1 t.nH a2 t.nW a3 t.m t) (hn:t.nH≤40∧t.nW≤40∧t.m≤41) (b:Option Addr) (m cb:Nat) (l:List Int) (D:Ints p b m l) (hm:m≤40) (O:OkT t) (hl: ∀ i,i<m→0≤l.getD i 0∧(l.getD i 0).toNat<t.nH):CallsX Tryd.prog md 39 #[.agg #[.slice a1 t.nH c1,.slice a2 t.nW c2,.slice a3 t.m c3],.slice b m cb] h fun v h'=>v= .int .i64 (wantL t l l.length)∧Keep h h':=by
 refine xcx (Φ:=fun h_=>St h [] p h_ []) Tryd.func39 rfl (tm:=zq8 (zq16 [])) rfl ?_ (St.start h _ hp)
 intro c₀ cs Stop K
 refine fsr ?_
 refine xij mn (v:=.agg #[.slice a1 t.nH c1,.slice a2 t.nW c2,.slice a3 t.m c3]) rfl fun b1=>xcq (L':=[(b1,.cells #[.slice a1 t.nH c1,.slice a2 t.nW c2,.slice a3 t.m c3] 25 (0,0))]) rfl ?_
 refine ro (xax (v:=.int .i64 0) rfl) <| ren <| xbq <| rt (xax (v:=.int .i64 0) rfl) (tm':=zq2 (zq4 _)) rfl <| ren <| fsr ?_
 refine ro (xax (v:=.int .i64 0) rfl) <| xak <| xdj ?_
 refine xhk (m₀:=m-0) (fun m_ tm_ h_=>∃ (k:Nat) (s:Int),m_=m-k∧(∃ y2:Nat→Value,tm_=[.agg #[.slice a1 t.nH c1,.slice a2 t.nW c2,.slice a3 t.m c3],.slice b m cb,.pointer (some ⟨b1,0,none⟩),undef,.int .i64 0,.int .i64 (s),.int .i64 (((k:Nat):Int)),(y2 7),(y2 8),(y2 9),(y2 10),(y2 11),(y2 12),(y2 13),(y2 14),(y2 15),(y2 16),(y2 17),(y2 18),(y2 19),(y2 20),(y2 21),(y2 22),undef])∧(k≤m)∧(s=wantL t l k)∧(0≤s∧s≤9*k)∧St h [] p h_ ([(b1,.cells #[.slice a1 t.nH c1,.slice a2 t.nW c2,.slice a3 t.m c3] 25 (0,0))])) (fun h_ H_=>⟨0,0,rfl,(y_of rfl),Nat.zero_le _,rfl,(by decide),H_⟩) ?_
 intro m_ tm_ IH3
 refine xhq fun k=>xhq fun s=>xcz fun hm_=>xcz fun ht_=>xcz fun hk=>xcz fun hs=>xcz fun h2=>?_
 subst hm_;obtain ⟨y2,ht_⟩:=ht_;subst ht_
 have hl_:=fun z_:k<m=>hl k z_
 have h9_: ∀ z_:k<m,0≤t.hs.getD (l.getD k 0).toNat 0∧t.hs.getD (l.getD k 0).toNat 0≤9:=fun z_=>O.h _ (hl k z_).2
 refine xez <| fsr <| ro (xaq (v:=.int .i64 (((k:Nat):Int))) rfl) <| rt (xaq (v:=.slice b m cb) rfl) (tm':=zq1 (zq8 _)) rfl <| ro (xfz Tryd.underlying22 rfl) <| ro (xgj rfl rfl) ?_
 refine xak ?_
 by_cases cc4:((k:Nat):Int)<((m:Nat):Int)
 ·
  refine xdx rfl (dtt cc4) <| xcv <| xez <| xdj ?_
  refine xgx 9 [[],[],[1],[],[],[3,4],[3,4,5],[1,2,3,4,5,6],[1,2,3,4,5,6,7],[],[]] xkk (by kernel_rfl) (Nat.le_of_ble_eq_true rfl) ?_
  refine wo (xaq (v:=.int .i64 (s)) rfl) <| wt (xaz xnx rfl (a':=⟨b1,0,none⟩) rfl) (tm':=zq1 (zq2 (zq4 (zq8 _)))) rfl <| wd (fun h_ H_=>xaj H_ tA22 rfl (i:=0) rfl (v:=.slice a1 t.nH c1) rfl) <| wt (xaq (v:=.slice b m cb) rfl) (tm':=zq8 (zq16 [])) rfl <| wo (xaq (v:=.int .i64 (((k:Nat):Int))) rfl) ?_
  refine wt (xbw (i:=k) Tryd.underlying22 tS3 (xjq b m cb (D.ne (by omega))) rfl (by omega)) (tm':=zq8 (zq16 [])) rfl ?_
  refine wd (fun h_ H_=>xbj H_ tA3 rfl (v:=.int .i64 (l.getD k 0)) (D.get (by omega))) ?_
  refine wt (xkz Tryd.underlying22 tS3 (xjq a1 t.nH c1 (T.h.ne (by omega))) rfl (by omega) (by omega) (a':=(adr a1).add ((((l.getD k 0)).toNat)*1)) rfl) (tm':=zq8 (zq16 [])) rfl ?_
  refine wd (fun h_ H_=>xbj H_ tA3 rfl (v:=.int .i64 (t.hs.getD (((l.getD k 0)).toNat) 0)) (T.h.get (by omega))) ?_
  refine xiz rfl ?_
  refine rt (xek rfl rfl (wr (by have z_:=h9_ (by omega);omega))) (tm':=zq8 (zq16 [])) rfl ?_
  refine ro (xax (v:=.int .i64 (s+(t.hs.getD (((l.getD k 0)).toNat) 0))) rfl) <| xak <| xdq <| xbq <| ro (xaq (v:=.int .i64 (((k:Nat):Int))) rfl) ?_
  refine rt (xek rfl rfl (n:=((k+1:Nat):Int)) (wr (by omega))) (tm':=zq1 (zq4 (zq8 _))) rfl ?_
  refine ro (xax (v:=.int .i64 (((k+1:Nat):Int))) rfl) <| xak ?_
  exact fun h_ H_=>IH3 _ _ (by omega) h_ ⟨k+1,s+(t.hs.getD (((l.getD k 0)).toNat) 0),rfl,(y_of rfl),(by omega),(by rw [hs];rfl),(by have z_:=h9_ (by omega);omega),H_⟩
 ·
  refine xck rfl (dff cc4) <| xhz rfl <| fsr <| ro (xaq (v:=.int .i64 (s)) rfl) <| rt (xax (v:=.int .i64 (s)) rfl) (tm':=zq1 (zq4 _)) rfl <| xak ?_
  refine xdv Tryd.func39 rfl (vs:=[.int .i64 (s)]) (fun h_ H_=>⟨.int .i64 (s),_,rfl,rfl,rfl⟩) (v:=.int .i64 (s)) rfl ?_
  have e_:k=l.length:=by have z_:=D.len;omega
  exact fun h_ H_=>K _ _ ⟨by rw [hs,e_],H_.kept⟩
theorem c40 (md:Md) (h:Heap) (p:PHeap) (hp:Per p h) (a1 a2 a3:Option Addr) (c1 c2 c3:Nat) (t:Tn) (T:TownP p a1 t.nH a2 t.nW a3 t.m t) (hn:t.nH≤40∧t.nW≤40∧t.m≤41) (b:Option Addr) (m cb:Nat) (l:List Int) (D:Ints p b m l) (hm:m≤40) (O:OkT t):CallsX Tryd.prog md 40 #[.agg #[.slice a1 t.nH c1,.slice a2 t.nW c2,.slice a3 t.m c3],.slice b m cb] h fun v h'=>v= .int .i64 (reachL t l t.nW)∧Keep h h':=by
 refine xcx (Φ:=fun h_=>St h [] p h_ []) Tryd.func40 rfl (tm:=zq1 (zq4 (zq16 (zq32 [])))) rfl ?_ (St.start h _ hp)
 intro c₀ cs Stop K
 have oW_:=O.nw
 have oM_:=O.nm
 refine fsr ?_
 refine xij mn (v:=.agg #[.slice a1 t.nH c1,.slice a2 t.nW c2,.slice a3 t.m c3]) rfl fun b1=>xcq (L':=[(b1,.cells #[.slice a1 t.nH c1,.slice a2 t.nW c2,.slice a3 t.m c3] 25 (0,0))]) rfl ?_
 refine ro (xax (v:=.int .i64 0) rfl) <| ren <| xbq <| rt (xax (v:=.int .i64 0) rfl) (tm':=zq2 (zq4 _)) rfl <| ren <| fsr ?_
 refine ro (xax (v:=.int .i64 0) rfl) <| xak <| xdj ?_
 refine xhk (m₀:=t.nW-0) (fun m_ tm_ h_=>∃ (w:Nat) (s:Int),m_=t.nW-w∧(∃ y2:Nat→Value,tm_=[.agg #[.slice a1 t.nH c1,.slice a2 t.nW c2,.slice a3 t.m c3],.slice b m cb,.pointer (some ⟨b1,0,none⟩),undef,.int .i64 0,.int .i64 (s),.int .i64 (((w:Nat):Int)),(y2 7),(y2 8),(y2 9),(y2 10),(y2 11),(y2 12),(y2 13),(y2 14),(y2 15),(y2 16),(y2 17),(y2 18),(y2 19),(y2 20),(y2 21),(y2 22),(y2 23),(y2 24),(y2 25),(y2 26),(y2 27),(y2 28),(y2 29),(y2 30),(y2 31),(y2 32),(y2 33),(y2 34),(y2 35),(y2 36),(y2 37),(y2 38),(y2 39),(y2 40),(y2 41),(y2 42),(y2 43),(y2 44),(y2 45),(y2 46),(y2 47),(y2 48),(y2 49),(y2 50),(y2 51),undef])∧(w≤t.nW)∧(s=reachL t l w)∧(0≤s∧s≤21*w)∧St h [] p h_ ([(b1,.cells #[.slice a1 t.nH c1,.slice a2 t.nW c2,.slice a3 t.m c3] 25 (0,0))])) (fun h_ H_=>⟨0,0,rfl,(y_of rfl),Nat.zero_le _,rfl,(by decide),H_⟩) ?_
 intro m_ tm_ IH3
 refine xhq fun w=>xhq fun s=>xcz fun hm_=>xcz fun ht_=>xcz fun hw=>xcz fun hs=>xcz fun h2=>?_
 subst hm_;obtain ⟨y2,ht_⟩:=ht_;subst ht_
 have h9_: ∀ z_:w<t.nW,0≤t.ws.getD w 0∧t.ws.getD w 0≤21:=fun z_=>O.w w z_
 refine xez <| fsr <| ro (xaq (v:=.int .i64 (((w:Nat):Int))) rfl) <| rt (xaz xnk rfl (a':=⟨b1,1,none⟩) rfl) (tm':=zq1 (zq2 (zq8 _))) rfl <| rd (fun h_ H_=>xaj H_ tA22 rfl (i:=0) rfl (v:=.slice a2 t.nW c2) rfl) <| ro (xfz Tryd.underlying22 rfl) ?_
 refine rt (xgj rfl rfl) (tm':=zq2 (zq4 (zq8 _))) rfl <| xak ?_
 by_cases cc4:((w:Nat):Int)<((t.nW:Nat):Int)
 ·
  refine xdx rfl (dtt cc4) <| xcv <| xez <| xdj <| fsr <| ro (xax (v:=.bool (false)) rfl) ?_
  refine ren <| fsr <| ro (xax (v:=.int .i64 0) rfl) <| xak <| xdj ?_
  refine xhk (m₀:=t.m-0) (fun m_ tm_ h_=>∃ (k:Nat) (b_:Bool),m_=t.m-k∧(∃ y5:Nat→Value,tm_=[.agg #[.slice a1 t.nH c1,.slice a2 t.nW c2,.slice a3 t.m c3],.slice b m cb,.pointer (some ⟨b1,0,none⟩),undef,.int .i64 0,.int .i64 (s),.int .i64 (((w:Nat):Int)),.bool (b_),.int .i64 (((k:Nat):Int)),.int .i64 (((w:Nat):Int)),.pointer (some ⟨b1,1,none⟩),.slice a2 t.nW c2,.int .i64 (((t.nW:Nat):Int)),.bool (decide (((w:Nat):Int)<((t.nW:Nat):Int))),(y2 14),(y2 15),(y5 16),(y5 17),(y5 18),(y5 19),(y5 20),(y5 21),(y5 22),(y5 23),(y5 24),(y5 25),(y5 26),(y5 27),(y5 28),(y5 29),(y5 30),(y5 31),(y5 32),(y5 33),(y5 34),(y5 35),(y5 36),(y5 37),(y5 38),(y5 39),(y5 40),(y5 41),(y5 42),(y5 43),(y2 44),(y2 45),(y2 46),(y2 47),(y2 48),(y2 49),(y2 50),(y2 51),undef])∧(k≤t.m)∧(b_=isB t l ((w:Nat):Int) k)∧St h [] p h_ ([(b1,.cells #[.slice a1 t.nH c1,.slice a2 t.nW c2,.slice a3 t.m c3] 25 (0,0))])) (fun h_ H_=>⟨0,false,rfl,(y_of rfl),Nat.zero_le _,rfl,H_⟩) ?_
  intro m_ tm_ IH6
  refine xhq fun k=>xhq fun b_=>xcz fun hm_=>xcz fun ht_=>xcz fun hk=>xcz fun hb=>?_
  subst hm_;obtain ⟨y5,ht_⟩:=ht_;subst ht_
  refine xez <| fsr <| rt (xaq (v:=.int .i64 (((k:Nat):Int))) rfl) (tm':=zq1 (zq16 _)) rfl <| ro (xaz xhj rfl (a':=⟨b1,2,none⟩) rfl) <| rd (fun h_ H_=>xaj H_ tA23 rfl (i:=0) rfl (v:=.slice a3 t.m c3) rfl) <| rt (xfz Tryd.underlying23 rfl) (tm':=zq4 (zq16 _)) rfl ?_
  refine ro (xgj rfl rfl) <| xak ?_
  by_cases cc7:((k:Nat):Int)<((t.m:Nat):Int)
  ·
   refine xdx rfl (dtt cc7) <| xcv <| xez <| xdj <| xbq <| ro (xaq (v:=.bool (b_)) rfl) ?_
   refine rt (xaq (v:=.bool (b_)) rfl) (tm':=zq1 (zq8 (zq16 _))) rfl ?_
   rcases ybj (b_) with cc8 | cc8
   ·
    refine rp (mo rfl rfl cc8) <| rp (mo rfl rfl cc8) <| xfx (mo rfl rfl cc8) (tm':=zq4 (zq8 (zq16 _))) rfl <| rp (mo rfl rfl cc8) <| rp (mo rfl rfl cc8) <| xfx (mo rfl rfl cc8) (tm':=zq1 (zq2 (zq4 (zq8 (zq16 _))))) rfl ?_
    refine rp (mo rfl rfl cc8) <| rp (mo rfl rfl cc8) <| xfx (mo rfl rfl cc8) (tm':=zq2 (zq32 _)) rfl <| rp (xew rfl rfl) <| rp (xew rfl rfl) <| xfx (xew rfl rfl) (tm':=zq1 (zq4 (zq16 (zq32 [])))) rfl ?_
    refine rp (xew rfl rfl) <| rp (xew rfl rfl) <| xfx (xew rfl rfl) (tm':=zq1 (zq4 (zq16 (zq32 [])))) rfl <| rp (xew rfl rfl) <| rp (xew rfl rfl) <| xfx (mo rfl rfl cc8) (tm':=zq1 (zq4 (zq16 (zq32 [])))) rfl ?_
    refine ro (xdz rfl cc8 (v:=.bool (true)) rfl) <| ro (xax (v:=.bool (true)) rfl) <| xak <| xdq <| xbq <| rt (xaq (v:=.int .i64 (((k:Nat):Int))) rfl) (tm':=zq2 (zq4 (zq16 _))) rfl ?_
    refine ro (xek rfl rfl (n:=((k+1:Nat):Int)) (wr (by omega))) ?_
    refine ro (xax (v:=.int .i64 (((k+1:Nat):Int))) rfl) <| xak ?_
    exact fun h_ H_=>IH6 _ _ (by omega) h_ ⟨k+1,true,rfl,(y_of rfl),(by omega),(whq hb (by first | (rw [show b_=true by assumption];rfl) | (rw [show b_=false by assumption,decide_eq_true (show (t.wy.getD k wz).2=((w:Nat):Int) by assumption)];rfl) | (rw [show b_=false by assumption,decide_eq_false (show ¬ (t.wy.getD k wz).2=((w:Nat):Int) by assumption)];rfl))),H_⟩
   ·
    refine xbx (ms rfl rfl cc8) (fun h_ H_=>xaz xhj rfl (a':=⟨b1,2,none⟩) rfl) (tm':=zq2 (zq8 (zq16 _))) rfl ?_
    refine xbx (ms rfl rfl cc8) (fun h_ H_=>xaj H_ tA23 rfl (i:=0) rfl (v:=.slice a3 t.m c3) rfl) rfl ?_
    refine xbx (ms rfl rfl cc8) (fun h_ H_=>xaq (v:=.int .i64 (((k:Nat):Int))) rfl) rfl ?_
    refine xbx (ms rfl rfl cc8) (fun h_ H_=>xbw (i:=k) Tryd.underlying23 tS43 (xjq a3 t.m c3 (T.y.ne (by omega))) rfl (by omega)) (tm':=zq1 (zq4 (zq8 (zq16 _)))) rfl ?_
    refine xbx (ms rfl rfl cc8) (fun h_ H_=>xaz xqv rfl (a':=((adr a3).add (k*2)).add 1) rfl) rfl ?_
    refine xbx (ms rfl rfl cc8) (fun h_ H_=>xbj H_ tA3 rfl (v:=.int .i64 ((t.wy.getD k wz).2)) (T.y.we (by omega))) rfl ?_
    refine xbx (ms rfl rfl cc8) (fun h_ H_=>xaq (v:=.int .i64 (((w:Nat):Int))) rfl) (tm':=zq32 _) rfl ?_
    refine xbx (ms rfl rfl cc8) (fun h_ H_=>xkw rfl rfl) rfl ?_
    refine xbx (ms rfl rfl cc8) (fun h_ H_=>xaq (v:=.bool (decide ((t.wy.getD k wz).2=((w:Nat):Int)))) rfl) rfl ?_
    by_cases cc9:(t.wy.getD k wz).2=((w:Nat):Int)
    ·
     refine xbx (ms rfl rfl (dtt cc9)) (fun h_ H_=>xaq (v:=.slice b m cb) rfl) (tm':=zq1 (zq2 (zq32 _))) rfl ?_
     refine xbx (ms rfl rfl (dtt cc9)) (fun h_ H_=>xaz xhj rfl (a':=⟨b1,2,none⟩) rfl) rfl ?_
     refine xbx (ms rfl rfl (dtt cc9)) (fun h_ H_=>xaj H_ tA23 rfl (i:=0) rfl (v:=.slice a3 t.m c3) rfl) rfl ?_
     refine xbx (ms rfl rfl (dtt cc9)) (fun h_ H_=>xaq (v:=.int .i64 (((k:Nat):Int))) rfl) (tm':=zq1 (zq4 (zq16 (zq32 [])))) rfl ?_
     refine xbx (ms rfl rfl (dtt cc9)) (fun h_ H_=>xbw (i:=k) Tryd.underlying23 tS43 (xjq a3 t.m c3 (T.y.ne (by omega))) rfl (by omega)) rfl ?_
     refine xbx (ms rfl rfl (dtt cc9)) (fun h_ H_=>xaz xoj rfl (a':=(adr a3).add (k*2)) rfl) rfl ?_
     refine xbx (ms rfl rfl (dtt cc9)) (fun h_ H_=>xbj H_ tA3 rfl (v:=.int .i64 ((t.wy.getD k wz).1)) (T.y.ho (by omega))) (tm':=zq1 (zq4 (zq16 (zq32 [])))) rfl ?_
     refine xeq (ms rfl rfl (dtt cc9)) (first:=[]) (cap:=[]) rfl rfl fC35 (fun h_ H_=>c35 md _ _ H_.pe _ _ _ _ D (by omega) ((t.wy.getD k wz).1)) rfl ?_
     refine xbx (ms rfl rfl cc8) (fun h_ H_=>xdz rfl (dtt cc9) (v:=.bool (decide ((t.wy.getD k wz).1∈l))) rfl) rfl ?_
     refine rt (xej rfl cc8 (v:=.bool (decide ((t.wy.getD k wz).1∈l))) rfl) (tm':=zq1 (zq4 (zq16 (zq32 [])))) rfl <| ro (xax (v:=.bool (decide ((t.wy.getD k wz).1∈l))) rfl) <| xak <| xdq <| xbq <| ro (xaq (v:=.int .i64 (((k:Nat):Int))) rfl) ?_
     refine rt (xek rfl rfl (n:=((k+1:Nat):Int)) (wr (by omega))) (tm':=zq1 (zq2 (zq4 (zq16 _)))) rfl ?_
     refine ro (xax (v:=.int .i64 (((k+1:Nat):Int))) rfl) <| xak ?_
     exact fun h_ H_=>IH6 _ _ (by omega) h_ ⟨k+1,decide ((t.wy.getD k wz).1∈l),rfl,(y_of rfl),(by omega),(whq hb (by first | (rw [show b_=true by assumption];rfl) | (rw [show b_=false by assumption,decide_eq_true (show (t.wy.getD k wz).2=((w:Nat):Int) by assumption)];rfl) | (rw [show b_=false by assumption,decide_eq_false (show ¬ (t.wy.getD k wz).2=((w:Nat):Int) by assumption)];rfl))),H_⟩
    ·
     refine rp (mo rfl rfl (dff cc9)) <| xfx (mo rfl rfl (dff cc9)) (tm':=zq1 (zq4 (zq16 (zq32 [])))) rfl <| rp (mo rfl rfl (dff cc9)) <| rp (mo rfl rfl (dff cc9)) <| xfx (mo rfl rfl (dff cc9)) (tm':=zq1 (zq4 (zq16 (zq32 [])))) rfl <| rp (mo rfl rfl (dff cc9)) ?_
     refine rp (mo rfl rfl (dff cc9)) <| xfx (mo rfl rfl (dff cc9)) (tm':=zq1 (zq4 (zq16 (zq32 [])))) rfl ?_
     refine xbx (ms rfl rfl cc8) (fun h_ H_=>xej rfl (dff cc9) (v:=.bool (false)) rfl) rfl ?_
     refine ro (xej rfl cc8 (v:=.bool (false)) rfl) <| rt (xax (v:=.bool (false)) rfl) (tm':=zq8 _) rfl <| xak <| xdq <| xbq <| ro (xaq (v:=.int .i64 (((k:Nat):Int))) rfl) ?_
     refine ro (xek rfl rfl (n:=((k+1:Nat):Int)) (wr (by omega))) ?_
     refine rt (xax (v:=.int .i64 (((k+1:Nat):Int))) rfl) (tm':=zq1 (zq8 _)) rfl <| xak ?_
     exact fun h_ H_=>IH6 _ _ (by omega) h_ ⟨k+1,false,rfl,(y_of rfl),(by omega),(whq hb (by first | (rw [show b_=true by assumption];rfl) | (rw [show b_=false by assumption,decide_eq_true (show (t.wy.getD k wz).2=((w:Nat):Int) by assumption)];rfl) | (rw [show b_=false by assumption,decide_eq_false (show ¬ (t.wy.getD k wz).2=((w:Nat):Int) by assumption)];rfl))),H_⟩
  ·
   refine xck rfl (dff cc7) <| xhz rfl <| xez ?_
   have kM_:k=t.m:=by omega
   refine xbq <| ro (xaq (v:=.bool (b_)) rfl) <| xak ?_
   rcases ybj (b_) with cc10 | cc10
   ·
    refine xdx rfl cc10 <| xbq <| ro (xaq (v:=.int .i64 (s)) rfl) <| rt (xaz xnk rfl (a':=⟨b1,1,none⟩) rfl) (tm':=zq1 (zq4 (zq16 (zq32 [])))) rfl <| rd (fun h_ H_=>xaj H_ tA22 rfl (i:=0) rfl (v:=.slice a2 t.nW c2) rfl) <| ro (xaq (v:=.int .i64 (((w:Nat):Int))) rfl) ?_
    refine rt (xbw (i:=w) Tryd.underlying22 tS3 (xjq a2 t.nW c2 (T.w.ne (by omega))) rfl (by omega)) (tm':=zq1 (zq4 (zq16 (zq32 [])))) rfl ?_
    refine rd (fun h_ H_=>xbj H_ tA3 rfl (v:=.int .i64 (t.ws.getD w 0)) (T.w.get (by omega))) ?_
    refine ro (xek rfl rfl (wr (by have z_:=h9_ (by omega);omega))) ?_
    refine rt (xax (v:=.int .i64 (s+(t.ws.getD w 0))) rfl) (tm':=zq2 (zq4 _)) rfl <| xak <| xdq <| xbq <| ro (xaq (v:=.int .i64 (((w:Nat):Int))) rfl) ?_
    refine ro (xek rfl rfl (n:=((w+1:Nat):Int)) (wr (by omega))) ?_
    refine rt (xax (v:=.int .i64 (((w+1:Nat):Int))) rfl) (tm':=zq1 (zq2 (zq4 _))) rfl <| xak ?_
    exact fun h_ H_=>IH3 _ _ (by omega) h_ ⟨w+1,s+(t.ws.getD w 0),rfl,(y_of rfl),(by omega),(by first | (rw [wdz (by rw [← kM_,← hb];assumption),hs];rfl) | (rw [wdj (by rw [← kM_,← hb];assumption),hs])),(by have z_:=h9_ (by omega);omega),H_⟩
   ·
    refine xck rfl cc10 <| xcv <| xdq <| xbq <| ro (xaq (v:=.int .i64 (((w:Nat):Int))) rfl) ?_
    refine ro (xek rfl rfl (n:=((w+1:Nat):Int)) (wr (by omega))) ?_
    refine rt (xax (v:=.int .i64 (((w+1:Nat):Int))) rfl) (tm':=zq1 (zq2 (zq4 _))) rfl <| xak ?_
    exact fun h_ H_=>IH3 _ _ (by omega) h_ ⟨w+1,s,rfl,(y_of rfl),(by omega),(by first | (rw [wdz (by rw [← kM_,← hb];assumption),hs];rfl) | (rw [wdj (by rw [← kM_,← hb];assumption),hs])),(by have z_:=h9_ (by omega);omega),H_⟩
 ·
  refine xck rfl (dff cc4) <| xhz rfl <| fsr <| ro (xaq (v:=.int .i64 (s)) rfl) <| ro (xax (v:=.int .i64 (s)) rfl) <| xak ?_
  refine xdv Tryd.func40 rfl (vs:=[.int .i64 (s)]) (fun h_ H_=>⟨.int .i64 (s),_,rfl,rfl,rfl⟩) (v:=.int .i64 (s)) rfl ?_
  have e_:w=t.nW:=by omega
  exact fun h_ H_=>K _ _ ⟨by rw [hs,e_],H_.kept⟩
end Go.Proofs.YtalfgojocdonhaaDoor
namespace Go.Proofs.YtalfgojocdonhaaDoor
open Go.X Go.X.Flow Go.Conc
set_option maxRecDepth 10000
set_option synthInstance.maxSize 2000

set_option maxHeartbeats 2000000
theorem c52 (md:Md) (h:Heap) (p:PHeap) (hp:Per p h) (a1 a2 a3:Option Addr) (c1 c2 c3:Nat) (t:Tn) (T:TownP p a1 t.nH a2 t.nW a3 t.m t) (hn:t.nH≤40∧t.nW≤40∧t.m≤41):CallsX Tryd.prog md 52 #[.agg #[.slice a1 t.nH c1,.slice a2 t.nW c2,.slice a3 t.m c3]] h fun v h'=>∃ w Z,v= .tuple #[w,.int .i64 (shortE t)]∧Inn p [[w]] [shortC t] Z∧New h h' Z:=by
 refine xcx (Φ:=fun h_=>St h [] p h_ []) Tryd.func52 rfl (tm:=zq16 (zq32 [])) rfl ?_ (St.start h _ hp)
 intro c₀ cs Stop K
 refine fsr ?_
 refine xij mn (v:=.agg #[.slice a1 t.nH c1,.slice a2 t.nW c2,.slice a3 t.m c3]) rfl fun b1=>xcq (L':=[(b1,.cells #[.slice a1 t.nH c1,.slice a2 t.nW c2,.slice a3 t.m c3] 25 (0,0))]) rfl ?_
 refine ro (xax (v:=.slice none 0 0) rfl) <| rt (xax (v:=.int .i64 0) rfl) (tm':=zq4 _) rfl <| ren <| fsr <| rd (fun h_ H_=>xav H_ tA25 tS25 rfl (i:=0) rfl (vs:=[.slice a1 t.nH c1,.slice a2 t.nW c2,.slice a3 t.m c3]) rfl rfl) ?_
 refine xeq mn (first:=[]) (cap:=[]) rfl rfl fC48 (fun h_ H_=>c48 md _ _ H_.pe _ _ _ _ _ _ _ _ _ t (show TownP _ _ _ _ _ _ _ t from ⟨T.h,T.w,T.y⟩) (by omega)) rfl ?_
 refine rt (xax (v:=.int .i64 (chkB t)) rfl) (tm':=zq1 (zq4 _)) rfl <| ren <| xbq <| ro (xaq (v:=.int .i64 (chkB t)) rfl) <| ro (xmk rfl rfl) <| xak ?_
 by_cases cc2:chkB t≠0
 ·
  refine xdx rfl (dtt cc2) <| fsr <| rt (xaq (v:=.int .i64 (chkB t)) rfl) (tm':=zq1 (zq4 (zq8 _))) rfl <| ro (xax (v:=.slice none 0 0) rfl) <| ro (xax (v:=.int .i64 (chkB t)) rfl) <| xak ?_
  refine xdv Tryd.func52 rfl (vs:=[.slice none 0 0,.int .i64 (chkB t)]) (fun h_ H_=>⟨.slice none 0 0,_,rfl,rfl,⟨.int .i64 (chkB t),_,rfl,rfl,rfl⟩⟩) (v:=.tuple #[.slice none 0 0,.int .i64 (chkB t)]) rfl ?_
  exact fun h_ H_=>K _ _ ⟨_,[],by rw [zdz ‹_›],by rw [zdj ‹_›];exact Inn.one (ymv p),(H_.sub (List.nil_sublist _)).new⟩
 ·
  refine xck rfl (dff cc2) <| xcv <| xez <| xez ?_
  have e0_:chkB t=0:=by omega
  have O:=xuz e0_
  have oH_:=O.nh
  refine xbq <| rt (xax (v:=.int .i64 1) rfl) (tm':=zq2 (zq4 _)) rfl <| xak <| xdj ?_
  refine xhk (m₀:=t.nH-0) (fun m_ tm_ h_=>∃ (k:Nat),m_=t.nH-k∧(∃ y3:Nat→Value,tm_=[.agg #[.slice a1 t.nH c1,.slice a2 t.nW c2,.slice a3 t.m c3],.pointer (some ⟨b1,0,none⟩),(y3 2),(y3 3),.int .i64 (chkB t),.int .i64 (((k+1:Nat):Int)),(y3 6),(y3 7),.agg #[.slice a1 t.nH c1,.slice a2 t.nW c2,.slice a3 t.m c3],.int .i64 (chkB t),.int .i64 (chkB t),.bool (decide (chkB t≠0)),undef,(y3 13),(y3 14),(y3 15),(y3 16),(y3 17),(y3 18),(y3 19),(y3 20),(y3 21),(y3 22),(y3 23),(y3 24),(y3 25),(y3 26),(y3 27),(y3 28),(y3 29),(y3 30),(y3 31),(y3 32),(y3 33),(y3 34),(y3 35),(y3 36),(y3 37),(y3 38),(y3 39),(y3 40),(y3 41),(y3 42),(y3 43),(y3 44),(y3 45),(y3 46),(y3 47)])∧(k≤t.nH)∧(NoM t k)∧St h [] p h_ ([(b1,.cells #[.slice a1 t.nH c1,.slice a2 t.nW c2,.slice a3 t.m c3] 25 (0,0))])) (fun h_ H_=>⟨0,rfl,(y_of rfl),Nat.zero_le _,(fun m hm=>absurd hm (Nat.not_lt_zero m)),H_⟩) ?_
  intro m_ tm_ IH4
  refine xhq fun k=>xcz fun hm_=>xcz fun ht_=>xcz fun hk=>xcz fun h1=>?_
  subst hm_;obtain ⟨y3,ht_⟩:=ht_;subst ht_
  refine xez <| fsr <| ro (xaq (v:=.int .i64 (((k+1:Nat):Int))) rfl) <| ro (xaz xnx rfl (a':=⟨b1,0,none⟩) rfl) ?_
  refine xbx mn (fun h_ H_=>xaj H_ tA22 rfl (i:=0) rfl (v:=.slice a1 t.nH c1) rfl) (tm':=zq16 _) rfl ?_
  refine ro (xfz Tryd.underlying22 rfl) <| ro (yez rfl rfl) <| xak ?_
  by_cases cc5:((k+1:Nat):Int)≤((t.nH:Nat):Int)
  ·
   refine xdx rfl (dtt cc5) <| xcv <| xez <| xdj <| fsr <| rt (xaq (v:=.int .i64 (((k+1:Nat):Int))) rfl) (tm':=zq1 (zq4 (zq16 _))) rfl ?_
   refine ro (xaz xnx rfl (a':=⟨b1,0,none⟩) rfl) <| rd (fun h_ H_=>xaj H_ tA22 rfl (i:=0) rfl (v:=.slice a1 t.nH c1) rfl) <| rt (xfz Tryd.underlying22 rfl) (tm':=zq8 (zq16 _)) rfl ?_
   refine xcq (L':=([(b1,.cells #[.slice a1 t.nH c1,.slice a2 t.nW c2,.slice a3 t.m c3] 25 (0,0))]:Pcs)++[]) rfl ?_
   refine xiw mn (first:=[]) (cap:=[]) rfl rfl fC92 (R:=fun v_ h_=>∃ w6:Value,∃ es7:List (List Value),∃ X8:Pcs,∃ Z9:Pcs,v_=w6∧(OwnS 22 1 w6 es7 X8)∧(Inn p es7 (lsts t.nH (k+1) 0 []) Z9)∧(es7.length=(lsts t.nH (k+1) 0 []).length)∧St h [] p h_ (([(b1,.cells #[.slice a1 t.nH c1,.slice a2 t.nW c2,.slice a3 t.m c3] 25 (0,0))]:Pcs)++((X8++(Z9++[]))++[]))) (fun h_ H_=>(c92w md _ _ H_.pe k _ (by omega) O.nh).mono fun v_ h2_ ⟨w6,es7,X8,Z9,e_,o10,i11,el12,N_⟩=>⟨w6,es7,X8,Z9,e_,o10,i11,el12,H_.callNA N_⟩) fun v_=>?_
   refine xgz fun w6=>xgz fun es7=>xgz fun X8=>xgz fun Z9=>xfq fun ev_=>xfq fun o10=>xfq fun i11=>xfq fun el12=>?_
   have ev_:=ev_.symm;subst ev_
   refine xcq (L':=([(b1,.cells #[.slice a1 t.nH c1,.slice a2 t.nW c2,.slice a3 t.m c3] 25 (0,0))]:Pcs)++(X8++(Z9++[]))) (by simp) ?_
   refine ro (xax (v:=w6) rfl) <| ren ?_
   refine xgv (List.Perm.append_left _ (List.perm_append_comm_assoc _ _ _)) ?_
   refine xlk (L':=([(b1,.cells #[.slice a1 t.nH c1,.slice a2 t.nW c2,.slice a3 t.m c3] 25 (0,0))]:Pcs)++(Z9++(X8++[]))) rfl ?_
   refine wox (A:=([(b1,.cells #[.slice a1 t.nH c1,.slice a2 t.nW c2,.slice a3 t.m c3] 25 (0,0))]:Pcs)) (Z:=Z9) fun p13 le14 hz15 fr16=>?_
   refine xqx (A:=([(b1,.cells #[.slice a1 t.nH c1,.slice a2 t.nW c2,.slice a3 t.m c3] 25 (0,0))]:Pcs)) o10 el12 fun p21 a22 cp23 le24 ev_ D25=>?_
   subst ev_
   refine xlk (L':=[(b1,.cells #[.slice a1 t.nH c1,.slice a2 t.nW c2,.slice a3 t.m c3] 25 (0,0))]) rfl ?_
   obtain ⟨A18,C19,hA20,T_⟩:=(i11 _ (le14.trans le24) (fun x_ hx_=>le24 _ _ (hz15 x_ hx_))).tab2 D25
   have T17:=Tab1.const (n:=k+1) T_ (fun i_ hi_=>(zsz O (by omega) hi_).1);clear T_
   refine xbq <| rt (xax (v:=.int .i64 0) rfl) (tm':=zq8 _) rfl <| xak <| xdj ?_
   refine xhk (m₀:=(lsts t.nH (k+1) 0 []).length-0) (fun m_ tm_ h_=>∃ (i:Nat),m_=(lsts t.nH (k+1) 0 []).length-i∧(∃ y26:Nat→Value,tm_=[.agg #[.slice a1 t.nH c1,.slice a2 t.nW c2,.slice a3 t.m c3],.pointer (some ⟨b1,0,none⟩),(y26 2),(y26 3),.int .i64 (chkB t),.int .i64 (((k+1:Nat):Int)),.slice a22 ((lsts t.nH (k+1) 0 []).length) cp23,.int .i64 (((i:Nat):Int)),.agg #[.slice a1 t.nH c1,.slice a2 t.nW c2,.slice a3 t.m c3],.int .i64 (chkB t),.int .i64 (chkB t),.bool (decide (chkB t≠0)),undef,.int .i64 (((k+1:Nat):Int)),.pointer (some ⟨b1,0,none⟩),.slice a1 t.nH c1,.int .i64 (((t.nH:Nat):Int)),.bool (decide (((k+1:Nat):Int)≤((t.nH:Nat):Int))),(y3 18),(y3 19),.int .i64 (((k+1:Nat):Int)),.pointer (some ⟨b1,0,none⟩),.slice a1 t.nH c1,.int .i64 (((t.nH:Nat):Int)),.slice a22 ((lsts t.nH (k+1) 0 []).length) cp23,(y26 25),(y26 26),(y26 27),(y26 28),(y26 29),(y26 30),(y26 31),(y26 32),(y26 33),(y26 34),(y26 35),(y26 36),(y26 37),(y26 38),(y26 39),(y26 40),(y26 41),(y26 42),(y26 43),(y26 44),(y26 45),(y26 46),(y26 47)])∧(i≤(lsts t.nH (k+1) 0 []).length)∧(NoI t k i)∧St h [] p21 h_ ([(b1,.cells #[.slice a1 t.nH c1,.slice a2 t.nW c2,.slice a3 t.m c3] 25 (0,0))])) (fun h_ H_=>⟨0,rfl,(y_of rfl),Nat.zero_le _,(fun m hm=>absurd hm (Nat.not_lt_zero m)),H_⟩) ?_
   intro m_ tm_ IH27
   refine xhq fun i=>xcz fun hm_=>xcz fun ht_=>xcz fun hi=>xcz fun h2=>?_
   subst hm_;obtain ⟨y26,ht_⟩:=ht_;subst ht_
   have h64_:=zlz (f:=k+1) (s:=0) O.nh (by omega) (by omega) []
   refine xez <| fsr <| ro (xaq (v:=.int .i64 (((i:Nat):Int))) rfl) <| ro (xaq (v:=.slice a22 ((lsts t.nH (k+1) 0 []).length) cp23) rfl) <| rt (xfz Tryd.underlying74 rfl) (tm':=zq4 (zq8 (zq16 _))) rfl <| ro (xgj rfl rfl) ?_
   refine xak ?_
   by_cases cc28:((i:Nat):Int)<(((lsts t.nH (k+1) 0 []).length:Nat):Int)
   ·
    refine xdx rfl (dtt cc28) <| xcv <| xez <| xdj <| xez ?_
    refine xgx 11 [[],[],[],[1,2],[1,2,3],[0,1,2,3,4],[],[],[],[7,8],[7,8,9],[0,1,2,3,4,6,7,8,9,10],[]] xkk (by kernel_rfl) (Nat.le_of_ble_eq_true rfl) ?_
    refine wd (fun h_ H_=>xav H_ tA25 tS25 rfl (i:=0) rfl (vs:=[.slice a1 t.nH c1,.slice a2 t.nW c2,.slice a3 t.m c3]) rfl rfl) <| wt (xaq (v:=.slice a22 ((lsts t.nH (k+1) 0 []).length) cp23) rfl) (tm':=zq16 (zq32 [])) rfl <| wo (xaq (v:=.int .i64 (((i:Nat):Int))) rfl) ?_
    refine wt (xbw (i:=i) Tryd.underlying74 tS22 (xjq a22 ((lsts t.nH (k+1) 0 []).length) cp23 (T17.ne (by omega))) rfl (by omega)) (tm':=zq16 (zq32 [])) rfl ?_
    refine wd (fun h_ H_=>xbj H_ tA22 rfl (v:=.slice (A18 i) (k+1) (C19 i)) (T17.cell _ (by omega))) ?_
    refine xiv mn (first:=[]) (cap:=[]) rfl rfl fC39 (fun h_ H_=>(c39 md _ _ H_.pe _ _ _ _ _ _ t (show TownP _ _ _ _ _ _ _ t from ⟨((T.h.mono le14).mono le24),((T.w.mono le14).mono le24),((T.y.mono le14).mono le24)⟩) (by omega) _ _ _ _ (T17.ints _ (by omega)) (by omega) O (zsz O (by omega) (by omega)).2).mono fun v_ h2_ ⟨e_,k_⟩=>⟨e_,H_.call k_⟩) (tm':=zq16 (zq32 [])) rfl ?_
    refine wd (fun h_ H_=>xav H_ tA25 tS25 rfl (i:=0) rfl (vs:=[.slice a1 t.nH c1,.slice a2 t.nW c2,.slice a3 t.m c3]) rfl rfl) <| wt (xaq (v:=.slice a22 ((lsts t.nH (k+1) 0 []).length) cp23) rfl) (tm':=zq16 (zq32 [])) rfl <| wo (xaq (v:=.int .i64 (((i:Nat):Int))) rfl) ?_
    refine wt (xbw (i:=i) Tryd.underlying74 tS22 (xjq a22 ((lsts t.nH (k+1) 0 []).length) cp23 (T17.ne (by omega))) rfl (by omega)) (tm':=zq16 (zq32 [])) rfl ?_
    refine wd (fun h_ H_=>xbj H_ tA22 rfl (v:=.slice (A18 i) (k+1) (C19 i)) (T17.cell _ (by omega))) ?_
    refine xiz rfl ?_
    refine xeq mn (first:=[]) (cap:=[]) rfl rfl fC40 (fun h_ H_=>c40 md _ _ H_.pe _ _ _ _ _ _ t (show TownP _ _ _ _ _ _ _ t from ⟨((T.h.mono le14).mono le24),((T.w.mono le14).mono le24),((T.y.mono le14).mono le24)⟩) (by omega) _ _ _ _ (T17.ints _ (by omega)) (by omega) O) rfl ?_
    refine ro (xkq rfl rfl) <| xak ?_
    by_cases cc29:reachL t ((lsts t.nH (k+1) 0 []).getD i []) t.nW<wantL t ((lsts t.nH (k+1) 0 []).getD i []) ((lsts t.nH (k+1) 0 []).getD i []).length
    ·
     refine xdx rfl (dtt cc29) <| fsr <| rt (xaq (v:=.slice a22 ((lsts t.nH (k+1) 0 []).length) cp23) rfl) (tm':=zq16 (zq32 [])) rfl <| ro (xaq (v:=.int .i64 (((i:Nat):Int))) rfl) ?_
     refine ro (xbw (i:=i) Tryd.underlying74 tS22 (xjq a22 ((lsts t.nH (k+1) 0 []).length) cp23 (T17.ne (by omega))) rfl (by omega)) ?_
     refine xbx mn (fun h_ H_=>xbj H_ tA22 rfl (v:=.slice (A18 i) (k+1) (C19 i)) (T17.cell _ (by omega))) (tm':=zq16 (zq32 [])) rfl ?_
     refine ro (xax (v:=.slice (A18 i) (k+1) (C19 i)) rfl) <| ro (xax (v:=.int .i64 0) rfl) <| xak ?_
     refine xdv Tryd.func52 rfl (vs:=[.slice (A18 i) (k+1) (C19 i),.int .i64 0]) (fun h_ H_=>⟨.slice (A18 i) (k+1) (C19 i),_,rfl,rfl,⟨.int .i64 0,_,rfl,rfl,rfl⟩⟩) (v:=.tuple #[.slice (A18 i) (k+1) (C19 i),.int .i64 0]) rfl ?_
     have sh_:=wbv O (by omega) (by omega) (by assumption) h1 h2
     have ln_:=(zsz O (k:=k) (i:=i) (by omega) (by omega)).1
     have pk_:=Inn.pick (n:=k+1) i11 hA20 (fun i_ hi_=>(zsz O (by omega) hi_).1) (l:=[i]) (fun i_ hi_=>by rw [List.mem_singleton] at hi_;omega)
     exact fun h_ H_=>K _ _ ⟨_,Z9,by rw [yxq e0_ (fun z_=>by rw [← sh_,z_] at ln_;exact absurd ln_ (by simp))],pk_.as (by rw [xyk e0_,sh_];rfl) rfl,by simpa using (St.unlast (L:=[]) (H_.sub (List.nil_sublist _)) (le14.trans le24) (fun x_ hx_=>le24 _ _ (hz15 x_ hx_)) fr16).new⟩
    ·
     refine xck rfl (dff cc29) <| xcv <| xdq <| xbq <| rt (xaq (v:=.int .i64 (((i:Nat):Int))) rfl) (tm':=zq2 (zq4 (zq8 (zq16 _)))) rfl ?_
     refine ro (xek rfl rfl (n:=((i+1:Nat):Int)) (wr (by omega))) ?_
     refine ro (xax (v:=.int .i64 (((i+1:Nat):Int))) rfl) <| xak ?_
     exact fun h_ H_=>IH27 _ _ (by omega) h_ ⟨i+1,rfl,(y_of rfl),(by omega),(vev h2 (by assumption)),H_⟩
   ·
    refine xck rfl (dff cc28) <| xhz rfl <| xdq <| xbq <| rt (xaq (v:=.int .i64 (((k+1:Nat):Int))) rfl) (tm':=zq1 (zq2 (zq16 _))) rfl ?_
    refine ro (xek rfl rfl (n:=(((k+1)+1:Nat):Int)) (wr (by omega))) ?_
    refine ro (xax (v:=.int .i64 ((((k+1)+1:Nat):Int))) rfl) <| xak ?_
    exact fun h_ H_=>IH4 _ _ (by omega) h_ ⟨k+1,rfl,(y_of rfl),(by omega),(zwq h2 (by omega) h1),(H_.forget (le14.trans le24))⟩
  ·
   refine xck rfl (dff cc5) <| xhz rfl <| fsr <| rt (xax (v:=.slice none 0 0) rfl) (tm':=_::_::_::_) rfl <| ro (xax (v:=.int .i64 3) rfl) <| xak ?_
   refine xdv Tryd.func52 rfl (vs:=[.slice none 0 0,.int .i64 3]) (fun h_ H_=>⟨.slice none 0 0,_,rfl,rfl,⟨.int .i64 3,_,rfl,rfl,rfl⟩⟩) (v:=.tuple #[.slice none 0 0,.int .i64 3]) rfl ?_
   have sn_:=zvw O (k:=k) (by omega) h1
   exact fun h_ H_=>K _ _ ⟨_,[],by rw [zpk e0_ sn_],by rw [xyk e0_,sn_];exact Inn.one (ymv p),(H_.sub (List.nil_sublist _)).new⟩
end Go.Proofs.YtalfgojocdonhaaDoor
