/-
  TopKept, for every input: the law returns true and leaves its arguments as they were. The row, and the tied card.
-/
import Derived.Test.YtphalmjpbnffcaaGreatDoorD1
import Derived.Test.YtphalmjpbnffcaaGreatDoorD2
import Derived.Test.YtphalmjpbnffcaaGreatDoorD4
import Derived.Test.YtphalmjpbnffcaaGreatDoorCards
import Derived.Test.YtphalmjpbnffcaaGreatDoorTie
namespace Go.Proofs.YtphalmjpbnffcaaGreatDoor
open Go.X Go.X.Kn Go.X.Cent Go.Conc
set_option maxRecDepth 10000
set_option synthInstance.maxSize 2000

set_option maxHeartbeats 2000000
theorem e3 (h:Heap) (p:PHeap) (hp:Per p h) (htab:Tab h) (a:Option Addr) (ca:Nat) (A:Nat→Option Addr) (C:Nat→Nat) (b:Option Addr) (cb:Nat) (k:Bk) (B:BookP p a k.cords.length A C b k.top.length k) (hl:k.cords.length≤9223372036854775807∧k.top.length≤9223372036854775807) (e1:Option Addr) (n1 ce:Nat) (ns:List Int) (S:Ints p e1 n1 ns) (hl1:n1≤9223372036854775807) (x y:Int) (hx: -9223372036854775808≤x∧x≤9223372036854775807) (hy: -9223372036854775808≤y∧y≤9223372036854775807):EntersL Tryz.prog 3 #[.agg #[.int .i64 (k.base),.int .i64 (k.places),.slice a k.cords.length ca,.slice b k.top.length cb],.slice e1 n1 ce,.agg #[.int .i64 (x),.int .i64 (y)]] h fun v h'=>v= .bool true∧Keep h h':=by
 refine yqz (Φ:=fun h_=>St h [] p h_ []) Tryz.func3 rfl (tm:=zq1 (zq4 (zq8 (zq16 (zq32 (zq32 (zq32 (zq32 (zq32 (zq32 (zq32 []))))))))))) rfl ?_ (St.start h _ hp)
 intro cs
 have hS:=S.len
 refine fsr ?_
 refine xnv mn (v:=.agg #[.int .i64 (k.base),.int .i64 (k.places),.slice a k.cords.length ca,.slice b k.top.length cb]) rfl fun b1=>xdx (L':=[(b1,.cells #[.int .i64 (k.base),.int .i64 (k.places),.slice a k.cords.length ca,.slice b k.top.length cb] 25 (0,0))]) rfl ?_
 refine xnv mn (v:=.agg #[.int .i64 (x),.int .i64 (y)]) rfl fun b2=>xdx (L':=[(b2,.cells #[.int .i64 (x),.int .i64 (y)] 28 (0,0)),(b1,.cells #[.int .i64 (k.base),.int .i64 (k.places),.slice a k.cords.length ca,.slice b k.top.length cb] 25 (0,0))]) rfl ?_
 refine rt (xax (v:=.bool (false)) rfl) (tm':=zq1 (zq2 (zq4 _))) rfl <| ren <| fsr <| rd (fun h_ H_=>xeq H_ tA25 tS25 rfl (i:=1) rfl (vs:=[.int .i64 (k.base),.int .i64 (k.places),.slice a k.cords.length ca,.slice b k.top.length cb]) rfl rfl) ?_
 refine xdx (L':=([(b2,.cells #[.int .i64 (x),.int .i64 (y)] 28 (0,0)),(b1,.cells #[.int .i64 (k.base),.int .i64 (k.places),.slice a k.cords.length ca,.slice b k.top.length cb] 25 (0,0))]:Pcs)++[]) rfl ?_
 refine xhx mn (first:=[]) (cap:=[]) rfl rfl fC5 (R:=fun v_ h_=>∃ x3:Bool,v_= .bool (x3)∧(x3=false→ ¬ bigK k)∧St h [] p h_ (([(b2,.cells #[.int .i64 (x),.int .i64 (y)] 28 (0,0)),(b1,.cells #[.int .i64 (k.base),.int .i64 (k.places),.slice a k.cords.length ca,.slice b k.top.length cb] 25 (0,0))]:Pcs)++([]++[]))) (fun h_ H_=>(c5 .lone _ _ H_.pe _ _ _ _ _ _ k (show BookP _ _ _ _ _ _ _ k from ⟨B.t,B.u⟩) hl).mono fun v_ h2_ ⟨x3,e_,fx4,N_⟩=>⟨x3,e_,fx4,H_.callNA N_⟩) fun v_=>?_
 refine xgj fun x3=>xez fun ev_=>xez fun fx4=>?_
 have ev_:=ev_.symm;subst ev_
 refine xdx (L':=[(b2,.cells #[.int .i64 (x),.int .i64 (y)] 28 (0,0)),(b1,.cells #[.int .i64 (k.base),.int .i64 (k.places),.slice a k.cords.length ca,.slice b k.top.length cb] 25 (0,0))]) (by simp) ?_
 refine rt (xaz (v:=.bool (x3)) rfl) (tm':=zq32 _) rfl ?_
 rcases xxx (x3) with cc5 | cc5
 ·
  refine rp (mo rfl rfl cc5) <| rp (mo rfl rfl cc5) <| xdk (mo rfl rfl cc5) (tm':=zq1 (zq2 (zq32 _))) rfl <| ro (xdz rfl cc5 (v:=.bool (true)) rfl) <| ro (xaz (v:=.bool (true)) rfl) <| xdk (mo rfl rfl rfl) (tm':=zq2 (zq4 (zq32 _))) rfl ?_
  refine rp (mo rfl rfl rfl) <| rp (mo rfl rfl rfl) <| rt (xdz rfl rfl (v:=.bool (true)) rfl) (tm':=zq1 (zq8 (zq32 _))) rfl <| xav <| xbv rfl rfl <| fsr ?_
  refine xdj mn (first:=[]) (cap:=[]) rfl rfl fC7 (fun h_ H_=>c7 _ (htab.keep H_.kept)) rfl ?_
  refine ro (xax (v:=.bool (true)) rfl) <| xav ?_
  refine xvz Tryz.func3 rfl (vs:=[.bool (true)]) (fun h_ H_=>⟨.bool (true),_,rfl,rfl,rfl⟩) (v:=.bool (true)) rfl ?_
  exact fun h_ H_=>⟨rfl,H_.kept⟩
 ·
  have hbig_: ¬ bigK k:=fx4 cc5
  have hn:=wkw hbig_
  refine xaj (ms rfl rfl cc5) (fun h_ H_=>xeq H_ tA25 tS25 rfl (i:=1) rfl (vs:=[.int .i64 (k.base),.int .i64 (k.places),.slice a k.cords.length ca,.slice b k.top.length cb]) rfl rfl) (tm':=zq1 (zq32 _)) rfl ?_
  refine xdj (ms rfl rfl cc5) (first:=[]) (cap:=[]) rfl rfl fC6 (fun h_ H_=>c6 .lone _ _ H_.pe _ _ _ _ _ _ k (show BookP _ _ _ _ _ _ _ k from ⟨B.t,B.u⟩) hn) rfl ?_
  refine xaj (ms rfl rfl cc5) (fun h_ H_=>xix rfl rfl) rfl ?_
  refine rt (xdw rfl cc5 (v:=.bool (decide (chkK k≠0))) rfl) (tm':=zq4 (zq32 _)) rfl <| ro (xaz (v:=.bool (decide (chkK k≠0))) rfl) ?_
  by_cases cc6:chkK k≠0
  ·
   refine rp (mo rfl rfl (dtt cc6)) <| xdk (mo rfl rfl (dtt cc6)) (tm':=zq1 (zq2 (zq4 (zq32 _)))) rfl <| rp (mo rfl rfl (dtt cc6)) <| ro (xdz rfl (dtt cc6) (v:=.bool (true)) rfl) <| xav <| xbv rfl rfl ?_
   refine fsr ?_
   refine xdj mn (first:=[]) (cap:=[]) rfl rfl fC7 (fun h_ H_=>c7 _ (htab.keep H_.kept)) (tm':=zq2 (zq8 (zq32 _))) rfl ?_
   refine ro (xax (v:=.bool (true)) rfl) <| xav ?_
   refine xvz Tryz.func3 rfl (vs:=[.bool (true)]) (fun h_ H_=>⟨.bool (true),_,rfl,rfl,rfl⟩) (v:=.bool (true)) rfl ?_
   exact fun h_ H_=>⟨rfl,H_.kept⟩
  ·
   have hk:bookB k:=zax (by omega)
   have hb:=hk.1
   have hp4_:=hk.2.1
   have hpw_:=ylz hb (j:=k.places.toNat) (by omega)
   refine xaj (ms rfl rfl (dff cc6)) (fun h_ H_=>xaz (v:=.slice e1 n1 ce) rfl) rfl ?_
   refine xaj (ms rfl rfl (dff cc6)) (fun h_ H_=>xfv Tryz.underlying26 rfl) (tm':=zq1 (zq2 (zq4 (zq32 _)))) rfl ?_
   refine xaj (ms rfl rfl (dff cc6)) (fun h_ H_=>xmw rfl rfl) rfl ?_
   refine ro (xdw rfl (dff cc6) (v:=.bool (decide (8<((n1:Nat):Int)))) rfl) <| xav ?_
   by_cases cc7:8<((n1:Nat):Int)
   ·
    refine xbv rfl (dtt cc7) <| fsr ?_
    refine xdj mn (first:=[]) (cap:=[]) rfl rfl fC7 (fun h_ H_=>c7 _ (htab.keep H_.kept)) (tm':=zq2 (zq8 (zq32 _))) rfl ?_
    refine ro (xax (v:=.bool (true)) rfl) <| xav ?_
    refine xvz Tryz.func3 rfl (vs:=[.bool (true)]) (fun h_ H_=>⟨.bool (true),_,rfl,rfl,rfl⟩) (v:=.bool (true)) rfl ?_
    exact fun h_ H_=>⟨rfl,H_.kept⟩
   ·
    refine xcx rfl (dff cc7) <| xcj <| fsr <| ro (xax (v:=.slice none 0 0) rfl) <| ren <| fsr ?_
    refine rt (xax (v:=.int .i64 0) rfl) (tm':=zq1 (zq8 _)) rfl <| xav <| xcw ?_
    refine xhw (m₀:=n1-0) (fun m_ tm_ h_=>∃ (i:Nat) (w_:Value) (X1_:Pcs),m_=n1-i∧(∃ y8:Nat→Value,tm_=(.agg #[.int .i64 (k.base),.int .i64 (k.places),.slice a k.cords.length ca,.slice b k.top.length cb]::.slice e1 n1 ce::.agg #[.int .i64 (x),.int .i64 (y)]::.pointer (some ⟨b1,0,none⟩)::undef::.pointer (some ⟨b2,0,none⟩)::(y8 6)::w_::.int .i64 (((i:Nat):Int))::(y8 9)::(y8 10)::(y8 11)::(y8 12)::zu16 (.agg #[.int .i64 (k.base),.int .i64 (k.places),.slice a k.cords.length ca,.slice b k.top.length cb]::.bool (x3)::.bool (x3)::.agg #[.int .i64 (k.base),.int .i64 (k.places),.slice a k.cords.length ca,.slice b k.top.length cb]::.int .i64 (chkK k)::.bool (decide (chkK k≠0))::.bool (decide (chkK k≠0))::.bool (decide (chkK k≠0))::.slice e1 n1 ce::.int .i64 (((n1:Nat):Int))::.bool (decide (8<((n1:Nat):Int)))::.bool (decide (8<((n1:Nat):Int)))::undef::(y8 42)::(y8 43)::(y8 44)::(y8 45)::(y8 46)::(y8 47)::(y8 48)::(y8 49)::(y8 50)::(y8 51)::(y8 52)::(y8 53)::(y8 54)::(y8 55)::(y8 56)::(y8 57)::(y8 58)::(y8 59)::(y8 60)::(y8 61)::(y8 62)::(y8 63)::(y8 64)::(y8 65)::(y8 66)::(y8 67)::(y8 68)::(y8 69)::(y8 70)::(y8 71)::(y8 72)::(y8 73)::(y8 74)::(y8 75)::(y8 76)::(y8 77)::(y8 78)::(y8 79)::(y8 80)::(y8 81)::(y8 82)::(y8 83)::(y8 84)::(y8 85)::(y8 86)::(y8 87)::(y8 88)::(y8 89)::(y8 90)::(y8 91)::undef::zu16 (zu16 (zu16 (zu16 (zu16 (zu16 (zu16 (zu16 (zu16 (zu16 []))))))))))))∧(i≤n1)∧(InR k ns i)∧(OwnS 9 1 w_ (scs (nts k (ns.take i))) X1_)∧St h [] p h_ (([(b2,.cells #[.int .i64 (x),.int .i64 (y)] 28 (0,0)),(b1,.cells #[.int .i64 (k.base),.int .i64 (k.places),.slice a k.cords.length ca,.slice b k.top.length cb] 25 (0,0))]:Pcs)++(X1_++[]))) (fun h_ H_=>⟨0,(.slice none 0 0),[],rfl,(y_of rfl),Nat.zero_le _,(wlw k ns),(OwnS.empty _ _),H_⟩) ?_
    intro m_ tm_ IH9
    refine xhv fun i=>xhv fun w_=>xhv fun X1_=>xcq fun hm_=>xcq fun ht_=>xcq fun hi=>xcq fun hin=>xcq fun o1_=>?_
    subst hm_;obtain ⟨y8,ht_⟩:=ht_;subst ht_
    refine xaw <| fsr <| ro (xaz (v:=.int .i64 (((i:Nat):Int))) rfl) <| ro (xaz (v:=.slice e1 n1 ce) rfl) <| rt (xfv Tryz.underlying26 rfl) (tm':=zq1 (zq4 (zq8 (zq32 _)))) rfl <| ro (xgz rfl rfl) ?_
    refine xav ?_
    by_cases cc10:((i:Nat):Int)<((n1:Nat):Int)
    ·
     refine xbv rfl (dtt cc10) <| xcj <| xaw <| xcw <| xaw <| xaw ?_
     refine xiw 7 [[],[],[0,1],[0,1,2],[],[4],[4],[0,1,2,3,4,5,6],[]] mixed (by kernel_rfl) (Nat.le_of_ble_eq_true rfl) ?_
     refine wo (xaz (v:=.slice e1 n1 ce) rfl) <| wt (xaz (v:=.int .i64 (((i:Nat):Int))) rfl) (tm':=zq2 (zq16 (zq32 _))) rfl ?_
     refine wo (xbw (i:=i) Tryz.underlying26 tS3 (xmz e1 n1 ce (S.ne (by omega))) rfl (by omega)) ?_
     refine xej mn (fun h_ H_=>xcz H_ tA3 rfl (v:=.int .i64 (ns.getD i 0)) (S.get (by omega))) (tm':=zq4 (zq16 (zq32 _))) rfl ?_
     refine wd (fun h_ H_=>xeq H_ tA25 tS25 rfl (i:=1) rfl (vs:=[.int .i64 (k.base),.int .i64 (k.places),.slice a k.cords.length ca,.slice b k.top.length cb]) rfl rfl) ?_
     refine xpq mn (first:=[]) (cap:=[]) rfl rfl fC9 (fun h_ H_=>(c9 .lone _ _ H_.pe _ _ _ _ _ _ k (show BookP _ _ _ _ _ _ _ k from ⟨B.t,B.u⟩) hk).mono fun v_ h2_ ⟨e_,k_⟩=>⟨e_,H_.call k_⟩) (tm':=zq2 (zq4 (zq16 (zq32 _)))) rfl ?_
     refine wo (xlq rfl rfl (wr (by omega))) ?_
     refine xmk rfl ?_
     refine xdj mn (first:=[]) (cap:=[]) rfl rfl fC8 (fun h_ H_=>c8 .lone _ (ns.getD i 0) (0) ((k.base ^ k.places.toNat)-1)) (tm':=zq8 (zq16 (zq32 _))) rfl ?_
     refine ro (xgw rfl) <| xav ?_
     by_cases cc11:0≤ns.getD i 0∧ns.getD i 0≤(k.base ^ k.places.toNat)-1
     ·
      refine xcx rfl (xfz (dtt cc11)) <| xcj <| xaw ?_
      obtain ⟨Gw17,GX18,hG5_⟩:=sk2 (fun (v_:Value) (x_:Pcs) (w17:Value) (X18:Pcs)=>v_= .tuple #[w17,.int .i64 0]∧(OwnS 3 1 w17 (ics (digs k.base k.places.toNat (ns.getD i 0))) X18)∧x_=(X18++[]))
      refine zlk (yaj (C:=[]) (A:=([(b2,.cells #[.int .i64 (x),.int .i64 (y)] 28 (0,0)),(b1,.cells #[.int .i64 (k.base),.int .i64 (k.places),.slice a k.cords.length ca,.slice b k.top.length cb] 25 (0,0))]:Pcs)) 10 [[],[],[],[],[],[],[5],[],[],[],[]] [10] [10,5] [0,1,2,3,4,6,7,8,9] (fun i_=>match i_ with | 10=>X1_ | _=>[]) (fun _=>[]) (fun i_=>match i_ with | 0=>[] | 1=>[] | 2=>[] | 3=>[1,2] | 4=>[3] | 5=>[0,4] | 6=>[5] | 7=>[5,6] | 8=>[5,6] | 9=>[0,1,2,3,4,5,6,7] | _=>[]) (fun i_ val_ pc_ v_ x_=>match i_ with | 0=>v_= .agg #[.int .i64 (k.base),.int .i64 (k.places),.slice a k.cords.length ca,.slice b k.top.length cb]∧x_=[] | 1=>v_= .slice e1 n1 ce∧x_=[] | 2=>v_= .int .i64 (((i:Nat):Int))∧x_=[] | 3=>v_= .pointer (some ((adr e1).add (i*1)))∧x_=[] | 4=>v_= .int .i64 (ns.getD i 0)∧x_=[] | 5=>∃ w17:Value,∃ X18:Pcs,v_= .tuple #[w17,.int .i64 0]∧(OwnS 3 1 w17 (ics (digs k.base k.places.toNat (ns.getD i 0))) X18)∧x_=(X18++[]) | 6=>v_= .tuple #[(Gw17 (val_ 5) (pc_ 5)),.int .i64 0]∧x_=[] | 7=>v_=(Gw17 (val_ 5) (pc_ 5))∧x_=[] | 8=>v_= .int .i64 0∧x_=[] | 9=>v_=(Gw17 (val_ 5) (pc_ 5))∧x_=[] | _=>True) (fun val15=>(.agg #[.int .i64 (k.base),.int .i64 (k.places),.slice a k.cords.length ca,.slice b k.top.length cb]::.slice e1 n1 ce::.agg #[.int .i64 (x),.int .i64 (y)]::.pointer (some ⟨b1,0,none⟩)::undef::.pointer (some ⟨b2,0,none⟩)::(y8 6)::w_::.int .i64 (((i:Nat):Int))::(val15 9)::(y8 10)::(y8 11)::(y8 12)::zu16 (.agg #[.int .i64 (k.base),.int .i64 (k.places),.slice a k.cords.length ca,.slice b k.top.length cb]::.bool (x3)::.bool (x3)::.agg #[.int .i64 (k.base),.int .i64 (k.places),.slice a k.cords.length ca,.slice b k.top.length cb]::.int .i64 (chkK k)::.bool (decide (chkK k≠0))::.bool (decide (chkK k≠0))::.bool (decide (chkK k≠0))::.slice e1 n1 ce::.int .i64 (((n1:Nat):Int))::.bool (decide (8<((n1:Nat):Int)))::.bool (decide (8<((n1:Nat):Int)))::undef::.int .i64 (((i:Nat):Int))::.slice e1 n1 ce::.int .i64 (((n1:Nat):Int))::.bool (decide (((i:Nat):Int)<((n1:Nat):Int)))::(y8 46)::(y8 47)::.slice e1 n1 ce::.int .i64 (((i:Nat):Int))::.pointer (some ((adr e1).add (i*1)))::.int .i64 (ns.getD i 0)::.agg #[.int .i64 (k.base),.int .i64 (k.places),.slice a k.cords.length ca,.slice b k.top.length cb]::.int .i64 (k.base ^ k.places.toNat)::.int .i64 ((k.base ^ k.places.toNat)-1)::.bool (decide (0≤ns.getD i 0∧ns.getD i 0≤(k.base ^ k.places.toNat)-1))::.bool (!(decide (0≤ns.getD i 0∧ns.getD i 0≤(k.base ^ k.places.toNat)-1)))::(y8 57)::(val15 6)::(val15 0)::(val15 1)::(val15 2)::(val15 3)::(val15 4)::(val15 5)::(val15 7)::(val15 8)::(y8 67)::(y8 68)::(y8 69)::(y8 70)::(y8 71)::(y8 72)::(y8 73)::(y8 74)::(y8 75)::(y8 76)::(y8 77)::(y8 78)::(y8 79)::(y8 80)::(y8 81)::(y8 82)::(y8 83)::(y8 84)::(y8 85)::(y8 86)::(y8 87)::(y8 88)::(y8 89)::(y8 90)::(y8 91)::undef::zu16 (zu16 (zu16 (zu16 (zu16 (zu16 (zu16 (zu16 (zu16 (zu16 [])))))))))))) mixed (by kernel_rfl) (Nat.le_of_ble_eq_true rfl) (by kernel_rfl) (by kernel_rfl) (by kernel_rfl) (fun _ _=>⟨fun _ _ h=>h.2,⟨fun _ _ h=>h.2,⟨fun _ _ h=>h.2,⟨fun _ _ h=>h.2,⟨fun _ _ h=>h.2,⟨fun _ _ h=>h.2,⟨fun _ _ h=>h.2,⟨fun _ _ h=>h.2,⟨fun _ _ h=>h.2,trivial⟩⟩⟩⟩⟩⟩⟩⟩⟩) (fun _=>by kernel_rfl) (by kernel_rfl) ?_ ?_) (fun h_ H_=>St.swap (A:=([(b2,.cells #[.int .i64 (x),.int .i64 (y)] 28 (0,0)),(b1,.cells #[.int .i64 (k.base),.int .i64 (k.places),.slice a k.cords.length ca,.slice b k.top.length cb] 25 (0,0))]:Pcs)) (U:=(X1_++[])) H_)
      ·
       refine xex rfl (xij ?_) ?_
       ·
        intro val15 pc16 hQ_ hX_
        obtain ⟨q_,hq0_⟩: ∃ q_:Value→Pcs→Prop,q_=(fun v_ x_=>v_= .agg #[.int .i64 (k.base),.int .i64 (k.places),.slice a k.cords.length ca,.slice b k.top.length cb]∧x_=[]):=⟨_,rfl⟩
        refine ⟨(zq1 (zq4 (zq8 (zq16 (zq32 (zq32 (zq32 (zq32 (zq32 (zq32 (zq32 []))))))))))),[],q_,rfl,rfl,(fun _ _ z_=>by subst hq0_;exact z_),?_⟩
        subst hq0_
        exact xiq mn (fun _ h_ H_=>xeq H_ tA25 tS25 rfl (i:=1) rfl (vs:=[.int .i64 (k.base),.int .i64 (k.places),.slice a k.cords.length ca,.slice b k.top.length cb]) rfl rfl) ⟨rfl,rfl⟩
       refine xex rfl (xij ?_) ?_
       ·
        intro val15 pc16 hQ_ hX_
        obtain ⟨q_,hq0_⟩: ∃ q_:Value→Pcs→Prop,q_=(fun v_ x_=>v_= .slice e1 n1 ce∧x_=[]):=⟨_,rfl⟩
        refine ⟨(zq1 (zq4 (zq8 (zq16 (zq32 (zq32 (zq32 (zq32 (zq32 (zq32 (zq32 []))))))))))),[],q_,rfl,rfl,(fun _ _ z_=>by subst hq0_;exact z_),?_⟩
        subst hq0_
        exact xiq mn (fun _ h_ H_=>xaz (v:=.slice e1 n1 ce) rfl) ⟨rfl,rfl⟩
       refine xex rfl (xij ?_) ?_
       ·
        intro val15 pc16 hQ_ hX_
        obtain ⟨q_,hq0_⟩: ∃ q_:Value→Pcs→Prop,q_=(fun v_ x_=>v_= .int .i64 (((i:Nat):Int))∧x_=[]):=⟨_,rfl⟩
        refine ⟨(zq1 (zq4 (zq8 (zq16 (zq32 (zq32 (zq32 (zq32 (zq32 (zq32 (zq32 []))))))))))),[],q_,rfl,rfl,(fun _ _ z_=>by subst hq0_;exact z_),?_⟩
        subst hq0_
        exact xiq mn (fun _ h_ H_=>xaz (v:=.int .i64 (((i:Nat):Int))) rfl) ⟨rfl,rfl⟩
       refine xex rfl (xij ?_) ?_
       ·
        intro val15 pc16 hQ_ hX_
        have e1_:val15 1= .slice e1 n1 ce:=(hQ_ 1 rfl).1
        have e2_:val15 2= .int .i64 (((i:Nat):Int)):=(hQ_ 2 rfl).1
        obtain ⟨q_,hq0_⟩: ∃ q_:Value→Pcs→Prop,q_=(fun v_ x_=>v_= .pointer (some ((adr e1).add (i*1)))∧x_=[]):=⟨_,rfl⟩
        refine ⟨(zq1 (zq4 (zq8 (zq16 (zq32 (zq32 (zq32 (zq32 (zq32 (zq32 (zq32 []))))))))))),[],q_,(by rw [e1_,e2_]),rfl,(fun _ _ z_=>by subst hq0_;exact z_),?_⟩
        subst hq0_
        exact xiq mn (fun _ h_ H_=>xbw (i:=i) Tryz.underlying26 tS3 (xmz e1 n1 ce (S.ne (by omega))) rfl (by omega)) ⟨rfl,rfl⟩
       refine xex rfl (xij ?_) ?_
       ·
        intro val15 pc16 hQ_ hX_
        have e3_:val15 3= .pointer (some ((adr e1).add (i*1))):=(hQ_ 3 rfl).1
        obtain ⟨q_,hq0_⟩: ∃ q_:Value→Pcs→Prop,q_=(fun v_ x_=>v_= .int .i64 (ns.getD i 0)∧x_=[]):=⟨_,rfl⟩
        refine ⟨(zq1 (zq4 (zq8 (zq16 (zq32 (zq32 (zq32 (zq32 (zq32 (zq32 (zq32 []))))))))))),[],q_,(by rw [e3_]),rfl,(fun _ _ z_=>by subst hq0_;exact z_),?_⟩
        subst hq0_
        exact xiq mn (fun _ h_ H_=>xcz H_ tA3 rfl (v:=.int .i64 (ns.getD i 0)) (S.get (by omega))) ⟨rfl,rfl⟩
       refine xex rfl (xij ?_) ?_
       ·
        intro val15 pc16 hQ_ hX_
        have e0_:val15 0= .agg #[.int .i64 (k.base),.int .i64 (k.places),.slice a k.cords.length ca,.slice b k.top.length cb]:=(hQ_ 0 rfl).1
        have e4_:val15 4= .int .i64 (ns.getD i 0):=(hQ_ 4 rfl).1
        obtain ⟨q_,hq0_⟩: ∃ q_:Value→Pcs→Prop,q_=(fun v_ x_=>∃ w17:Value,∃ X18:Pcs,v_= .tuple #[w17,.int .i64 0]∧(OwnS 3 1 w17 (ics (digs k.base k.places.toNat (ns.getD i 0))) X18)∧x_=(X18++[])):=⟨_,rfl⟩
        refine ⟨(zq1 (zq4 (zq8 (zq16 (zq32 (zq32 (zq32 (zq32 (zq32 (zq32 (zq32 []))))))))))),[],q_,(by rw [e0_,e4_]),rfl,(fun _ _ z_=>by subst hq0_;exact z_),?_⟩
        subst hq0_
        exact zcv mn (first:=[]) (cap:=[]) rfl rfl fC10 (fun _ h_ H_=>(c10 .lone _ _ H_.pe _ _ _ _ _ _ k (show BookP _ _ _ _ _ _ _ k from ⟨B.t,B.u⟩) hn hk (ns.getD i 0) (by omega) (by omega)).mono fun v_ h2_ ⟨w17,X18,e_,o19,N_⟩=>⟨_,⟨w17,X18,e_,o19,rfl⟩,H_.callN (show New _ _ (X18++[]) by rw [List.append_nil];exact N_)⟩)
       refine xex rfl (xij ?_) ?_
       ·
        intro val15 pc16 hQ_ hX_
        obtain ⟨e5_,o19,x5_⟩:=hG5_ _ _ (hQ_ 5 rfl)
        generalize hg_w17:Gw17 (val15 5) (pc16 5)=w17 at*
        generalize hg_X18:GX18 (val15 5) (pc16 5)=X18 at*
        obtain ⟨q_,hq0_⟩: ∃ q_:Value→Pcs→Prop,q_=(fun v_ x_=>v_= .tuple #[w17,.int .i64 0]∧x_=[]):=⟨_,rfl⟩
        refine ⟨(zq1 (zq4 (zq8 (zq16 (zq32 (zq32 (zq32 (zq32 (zq32 (zq32 (zq32 []))))))))))),[],q_,(by rw [e5_]),rfl,(fun _ _ z_=>by subst hq0_ hg_w17 hg_X18;exact z_),?_⟩
        subst hq0_
        exact xiq mn (fun _ h_ H_=>xaz (v:=.tuple #[w17,.int .i64 0]) rfl) ⟨rfl,rfl⟩
       refine xex rfl (xij ?_) ?_
       ·
        intro val15 pc16 hQ_ hX_
        obtain ⟨e5_,o19,x5_⟩:=hG5_ _ _ (hQ_ 5 rfl)
        have e6_:val15 6= .tuple #[(Gw17 (val15 5) (pc16 5)),.int .i64 0]:=(hQ_ 6 rfl).1
        generalize hg_w17:Gw17 (val15 5) (pc16 5)=w17 at*
        generalize hg_X18:GX18 (val15 5) (pc16 5)=X18 at*
        obtain ⟨q_,hq0_⟩: ∃ q_:Value→Pcs→Prop,q_=(fun v_ x_=>v_=w17∧x_=[]):=⟨_,rfl⟩
        refine ⟨(zq1 (zq4 (zq8 (zq16 (zq32 (zq32 (zq32 (zq32 (zq32 (zq32 (zq32 []))))))))))),[],q_,(by rw [e5_,e6_]),rfl,(fun _ _ z_=>by subst hq0_ hg_w17 hg_X18;exact z_),?_⟩
        subst hq0_
        exact xiq mn (fun _ h_ H_=>xdv rfl (v:=w17) rfl) ⟨rfl,rfl⟩
       refine xex rfl (xij ?_) ?_
       ·
        intro val15 pc16 hQ_ hX_
        obtain ⟨e5_,o19,x5_⟩:=hG5_ _ _ (hQ_ 5 rfl)
        have e6_:val15 6= .tuple #[(Gw17 (val15 5) (pc16 5)),.int .i64 0]:=(hQ_ 6 rfl).1
        generalize hg_w17:Gw17 (val15 5) (pc16 5)=w17 at*
        generalize hg_X18:GX18 (val15 5) (pc16 5)=X18 at*
        obtain ⟨q_,hq0_⟩: ∃ q_:Value→Pcs→Prop,q_=(fun v_ x_=>v_= .int .i64 0∧x_=[]):=⟨_,rfl⟩
        refine ⟨(zq1 (zq4 (zq8 (zq16 (zq32 (zq32 (zq32 (zq32 (zq32 (zq32 (zq32 []))))))))))),[],q_,(by rw [e5_,e6_]),rfl,(fun _ _ z_=>by subst hq0_ hg_w17 hg_X18;exact z_),?_⟩
        subst hq0_
        exact xiq mn (fun _ h_ H_=>xdv rfl (v:=.int .i64 0) rfl) ⟨rfl,rfl⟩
       refine xex rfl (xij ?_) ?_
       ·
        intro val15 pc16 hQ_ hX_
        have e0_:val15 0= .agg #[.int .i64 (k.base),.int .i64 (k.places),.slice a k.cords.length ca,.slice b k.top.length cb]:=(hQ_ 0 rfl).1
        have e1_:val15 1= .slice e1 n1 ce:=(hQ_ 1 rfl).1
        have e2_:val15 2= .int .i64 (((i:Nat):Int)):=(hQ_ 2 rfl).1
        have e3_:val15 3= .pointer (some ((adr e1).add (i*1))):=(hQ_ 3 rfl).1
        have e4_:val15 4= .int .i64 (ns.getD i 0):=(hQ_ 4 rfl).1
        obtain ⟨e5_,o19,x5_⟩:=hG5_ _ _ (hQ_ 5 rfl)
        have e6_:val15 6= .tuple #[(Gw17 (val15 5) (pc16 5)),.int .i64 0]:=(hQ_ 6 rfl).1
        have e7_:val15 7=(Gw17 (val15 5) (pc16 5)):=(hQ_ 7 rfl).1
        generalize hg_w17:Gw17 (val15 5) (pc16 5)=w17 at*
        generalize hg_X18:GX18 (val15 5) (pc16 5)=X18 at*
        obtain ⟨q_,hq0_⟩: ∃ q_:Value→Pcs→Prop,q_=(fun v_ x_=>v_=w17∧x_=[]):=⟨_,rfl⟩
        refine ⟨(zq1 (zq4 (zq8 (zq16 (zq32 (zq32 (zq32 (zq32 (zq32 (zq32 (zq32 []))))))))))),[],q_,(by rw [e0_,e1_,e2_,e3_,e4_,e5_,e6_,e7_]),rfl,(fun _ _ z_=>by subst hq0_ hg_w17 hg_X18;exact z_),?_⟩
        subst hq0_
        exact xiq mn (fun _ h_ H_=>xax (v:=w17) rfl) ⟨rfl,rfl⟩
       exact yax rfl
      intro val15 pc16 hQ_ hX_
      have e0_:val15 0= .agg #[.int .i64 (k.base),.int .i64 (k.places),.slice a k.cords.length ca,.slice b k.top.length cb]:=(hQ_ 0 (by decide)).1
      have e1_:val15 1= .slice e1 n1 ce:=(hQ_ 1 (by decide)).1
      have e2_:val15 2= .int .i64 (((i:Nat):Int)):=(hQ_ 2 (by decide)).1
      have e3_:val15 3= .pointer (some ((adr e1).add (i*1))):=(hQ_ 3 (by decide)).1
      have e4_:val15 4= .int .i64 (ns.getD i 0):=(hQ_ 4 (by decide)).1
      obtain ⟨e5_,o19,x5_⟩:=hG5_ _ _ (hQ_ 5 (by decide))
      have e6_:val15 6= .tuple #[(Gw17 (val15 5) (pc16 5)),.int .i64 0]:=(hQ_ 6 (by decide)).1
      have e7_:val15 7=(Gw17 (val15 5) (pc16 5)):=(hQ_ 7 (by decide)).1
      have e8_:val15 8= .int .i64 0:=(hQ_ 8 (by decide)).1
      have e9_:val15 9=(Gw17 (val15 5) (pc16 5)):=(hQ_ 9 (by decide)).1
      have x10_:pc16 10=X1_:=hX_ 10 (by decide)
      clear hQ_ hX_
      generalize Gw17 (val15 5) (pc16 5)=w17 at*
      generalize GX18 (val15 5) (pc16 5)=X18 at*
      refine zmz (Φ:=fun h_=>St h [] p h_ (([(b2,.cells #[.int .i64 (x),.int .i64 (y)] 28 (0,0)),(b1,.cells #[.int .i64 (k.base),.int .i64 (k.places),.slice a k.cords.length ca,.slice b k.top.length cb] 25 (0,0))]:Pcs)++(pc16 10++(pc16 5++[])))) ?_ (fun h_ H_=>H_.swap')
      rw [x10_,x5_]
      refine xdx (L':=([(b2,.cells #[.int .i64 (x),.int .i64 (y)] 28 (0,0)),(b1,.cells #[.int .i64 (k.base),.int .i64 (k.places),.slice a k.cords.length ca,.slice b k.top.length cb] 25 (0,0))]:Pcs)++(X1_++(X18++[]))) (by simp) ?_
      refine xew (tm':=(zq1 (zq4 (zq8 (zq16 (zq32 (zq32 (zq32 (zq32 (zq32 (zq32 (zq32 [])))))))))))) (by rw [e0_,e1_,e2_,e3_,e4_,e5_,e6_,e7_,e8_,e9_]) ?_
      refine ro (xax (v:=.int .i64 0) rfl) <| ren <| xaw ?_
      refine xhq (List.Perm.append_left _ (List.perm_append_comm_assoc _ _ _)) ?_
      refine xjv (L':=([(b2,.cells #[.int .i64 (x),.int .i64 (y)] 28 (0,0)),(b1,.cells #[.int .i64 (k.base),.int .i64 (k.places),.slice a k.cords.length ca,.slice b k.top.length cb] 25 (0,0))]:Pcs)++(X18++(X1_++[]))) rfl ?_
      refine xqv (A:=([(b2,.cells #[.int .i64 (x),.int .i64 (y)] 28 (0,0)),(b1,.cells #[.int .i64 (k.base),.int .i64 (k.places),.slice a k.cords.length ca,.slice b k.top.length cb] 25 (0,0))]:Pcs)) o19 ((xoj _).trans (xik _ _ _)) fun p22 a23 cp24 le25 ev_ D26=>?_
      subst ev_
      refine xak <| ro (xaz (v:=.int .i64 0) rfl) <| rt (xix rfl rfl) (tm':=zq1 (zq4 (zq32 (zq32 _)))) rfl <| ro (xaz (v:=.bool (decide ((0:Int)≠0))) rfl) ?_
      refine xaj (ms rfl rfl (decide_eq_false (fun z_=>z_ rfl))) (fun h_ H_=>xeq H_ tA25 tS25 rfl (i:=1) rfl (vs:=[.int .i64 (k.base),.int .i64 (k.places),.slice a k.cords.length ca,.slice b k.top.length cb]) rfl rfl) rfl ?_
      refine xaj (ms rfl rfl (decide_eq_false (fun z_=>z_ rfl))) (fun h_ H_=>xaz (v:=.slice a23 k.places.toNat cp24) rfl) (tm':=zq8 (zq32 (zq32 _))) rfl ?_
      refine xdj (ms rfl rfl (decide_eq_false (fun z_=>z_ rfl))) (first:=[]) (cap:=[]) rfl rfl fC11 (fun h_ H_=>c11 .lone _ _ H_.pe _ _ _ _ _ _ k (show BookP _ _ _ _ _ _ _ k from ⟨(B.t.mono le25),(B.u.mono le25)⟩) _ _ _ _ (show Ints _ _ _ (digs k.base k.places.toNat (ns.getD i 0)) from D26) (by omega) hb) rfl ?_
      refine xaj (ms rfl rfl (decide_eq_false (fun z_=>z_ rfl))) (fun h_ H_=>xgw rfl) rfl ?_
      refine rt (xdw rfl (decide_eq_false (fun z_=>z_ rfl)) (v:=.bool (!(decide (digK k (digs k.base k.places.toNat (ns.getD i 0)))))) rfl) (tm':=zq1 (zq2 (zq8 (zq32 (zq32 _))))) rfl <| xav <| xcx rfl (xfz (decide_eq_true (ykq hk _))) <| xcj <| fsr <| ro (xax (v:=sv ([]:List UInt8)) rfl) ?_
      refine ren <| fsr <| ro (xax (v:=.int .i64 0) rfl) <| xav <| xcw ?_
      refine xhw (m₀:=k.places.toNat-0) (fun m_ tm_ h_=>∃ (j:Nat) (t_:By),m_=k.places.toNat-j∧(∃ y27:Nat→Value,tm_=(.agg #[.int .i64 (k.base),.int .i64 (k.places),.slice a k.cords.length ca,.slice b k.top.length cb]::.slice e1 n1 ce::.agg #[.int .i64 (x),.int .i64 (y)]::.pointer (some ⟨b1,0,none⟩)::undef::.pointer (some ⟨b2,0,none⟩)::(y8 6)::w_::.int .i64 (((i:Nat):Int))::.slice a23 k.places.toNat cp24::.int .i64 0::sv t_::.int .i64 (((j:Nat):Int))::zu16 (.agg #[.int .i64 (k.base),.int .i64 (k.places),.slice a k.cords.length ca,.slice b k.top.length cb]::.bool (x3)::.bool (x3)::.agg #[.int .i64 (k.base),.int .i64 (k.places),.slice a k.cords.length ca,.slice b k.top.length cb]::.int .i64 (chkK k)::.bool (decide (chkK k≠0))::.bool (decide (chkK k≠0))::.bool (decide (chkK k≠0))::.slice e1 n1 ce::.int .i64 (((n1:Nat):Int))::.bool (decide (8<((n1:Nat):Int)))::.bool (decide (8<((n1:Nat):Int)))::undef::.int .i64 (((i:Nat):Int))::.slice e1 n1 ce::.int .i64 (((n1:Nat):Int))::.bool (decide (((i:Nat):Int)<((n1:Nat):Int)))::(y8 46)::(y8 47)::.slice e1 n1 ce::.int .i64 (((i:Nat):Int))::.pointer (some ((adr e1).add (i*1)))::.int .i64 (ns.getD i 0)::.agg #[.int .i64 (k.base),.int .i64 (k.places),.slice a k.cords.length ca,.slice b k.top.length cb]::.int .i64 (k.base ^ k.places.toNat)::.int .i64 ((k.base ^ k.places.toNat)-1)::.bool (decide (0≤ns.getD i 0∧ns.getD i 0≤(k.base ^ k.places.toNat)-1))::.bool (!(decide (0≤ns.getD i 0∧ns.getD i 0≤(k.base ^ k.places.toNat)-1)))::(y8 57)::.tuple #[.slice a23 k.places.toNat cp24,.int .i64 0]::.agg #[.int .i64 (k.base),.int .i64 (k.places),.slice a k.cords.length ca,.slice b k.top.length cb]::.slice e1 n1 ce::.int .i64 (((i:Nat):Int))::.pointer (some ((adr e1).add (i*1)))::.int .i64 (ns.getD i 0)::.tuple #[.slice a23 k.places.toNat cp24,.int .i64 0]::.slice a23 k.places.toNat cp24::.int .i64 0::.int .i64 0::.bool (decide ((0:Int)≠0))::.bool (decide ((0:Int)≠0))::.agg #[.int .i64 (k.base),.int .i64 (k.places),.slice a k.cords.length ca,.slice b k.top.length cb]::.slice a23 k.places.toNat cp24::.bool (decide (digK k (digs k.base k.places.toNat (ns.getD i 0))))::.bool (!(decide (digK k (digs k.base k.places.toNat (ns.getD i 0)))))::.bool (!(decide (digK k (digs k.base k.places.toNat (ns.getD i 0)))))::(y27 75)::(y27 76)::(y27 77)::(y27 78)::(y27 79)::(y27 80)::(y27 81)::(y27 82)::(y27 83)::(y27 84)::(y27 85)::(y27 86)::(y27 87)::(y8 88)::(y8 89)::(y8 90)::(y8 91)::undef::zu16 (zu16 (zu16 (zu16 (zu16 (zu16 (zu16 (zu16 (zu16 (zu16 []))))))))))))∧(j≤k.places.toNat)∧(t_=tx ((digs k.base k.places.toNat (ns.getD i 0)).take j))∧St h [] p22 h_ (([(b2,.cells #[.int .i64 (x),.int .i64 (y)] 28 (0,0)),(b1,.cells #[.int .i64 (k.base),.int .i64 (k.places),.slice a k.cords.length ca,.slice b k.top.length cb] 25 (0,0))]:Pcs)++(X1_++[]))) (fun h_ H_=>⟨0,[],rfl,(y_of rfl),Nat.zero_le _,(by rw [List.take_zero];rfl),H_⟩) ?_
      intro m_ tm_ IH28
      refine xhv fun j=>xhv fun t_=>xcq fun hm_=>xcq fun ht_=>xcq fun hj=>xcq fun htt_=>?_
      subst hm_;obtain ⟨y27,ht_⟩:=ht_;subst ht_
      have htl_:t_.length=j:=by rw [htt_,waz,List.length_take,xik];omega
      refine xaw <| fsr <| rt (xaz (v:=.int .i64 (((j:Nat):Int))) rfl) (tm':=zq4 (zq8 (zq32 (zq32 _)))) rfl <| ro (xaz (v:=.slice a23 k.places.toNat cp24) rfl) <| ro (xfv Tryz.underlying26 rfl) <| rt (xgz rfl rfl) (tm':=zq1 (zq2 (zq4 (zq8 (zq32 (zq32 _)))))) rfl ?_
      refine xav ?_
      by_cases cc29:((j:Nat):Int)<((k.places.toNat:Nat):Int)
      ·
       refine xbv rfl (dtt cc29) <| xcj <| xaw <| xcw <| xak <| ro (xaz (v:=sv t_) rfl) ?_
       refine ro (xaz (v:=.slice a23 k.places.toNat cp24) rfl) <| rt (xaz (v:=.int .i64 (((j:Nat):Int))) rfl) (tm':=zq4 (zq16 (zq32 (zq32 _)))) rfl ?_
       refine ro (xbw (i:=j) Tryz.underlying26 tS3 (xmz a23 k.places.toNat cp24 ((show Ints _ _ _ (digs k.base k.places.toNat (ns.getD i 0)) from D26).ne (by omega))) rfl (by omega)) ?_
       refine rd (fun h_ H_=>xcz H_ tA3 rfl (v:=.int .i64 ((digs k.base k.places.toNat (ns.getD i 0)).getD j 0)) ((show Ints _ _ _ (digs k.base k.places.toNat (ns.getD i 0)) from D26).get (by omega))) ?_
       refine xdj mn (first:=[]) (cap:=[]) rfl rfl fC12 (fun h_ H_=>c12 .lone _ ((digs k.base k.places.toNat (ns.getD i 0)).getD j 0) (zsj hk (by omega))) (tm':=zq1 (zq2 (zq4 (zq16 (zq32 (zq32 _)))))) rfl ?_
       refine ro (xtj (l:=t_) (m:=[mk ((digs k.base k.places.toNat (ns.getD i 0)).getD j 0)]) rfl rfl (by simp only [List.length_singleton];omega)) ?_
       refine ro (xax (v:=sv (t_++([mk ((digs k.base k.places.toNat (ns.getD i 0)).getD j 0)]))) rfl) <| xav <| xdq <| xak <| rt (xaz (v:=.int .i64 (((j:Nat):Int))) rfl) (tm':=zq16 (zq32 (zq32 _))) rfl ?_
       refine ro (xfj rfl rfl (n:=((j+1:Nat):Int)) (wr (by omega))) ?_
       refine ro (xax (v:=.int .i64 (((j+1:Nat):Int))) rfl) <| xav ?_
       exact fun h_ H_=>IH28 _ _ (by omega) h_ ⟨j+1,t_++([mk ((digs k.base k.places.toNat (ns.getD i 0)).getD j 0)]),rfl,(y_of rfl),(by omega),(by rw [htt_];exact wcx (by rw [xik];omega)),H_⟩
      ·
       refine xcx rfl (dff cc29) <| xhz rfl ?_
       have ej_:t_=tx (digs k.base k.places.toNat (ns.getD i 0)):=by rw [htt_,List.take_of_length_le (by rw [xik];omega)]
       refine xak <| rt (xaz (v:=w_) rfl) (tm':=zq1 (zq8 (zq16 (zq32 (zq32 _))))) rfl <| ro (xaz (v:=sv t_) rfl) ?_
       refine xfq ([(b2,.cells #[.int .i64 (x),.int .i64 (y)] 28 (0,0)),(b1,.cells #[.int .i64 (k.base),.int .i64 (k.places),.slice a k.cords.length ca,.slice b k.top.length cb] 25 (0,0))]:Pcs) mn Tryz.underlying33 tS9 tZ9 (Nat.le_of_ble_eq_true rfl) (vs:=[(0,sv t_)]) rfl rfl (es:=[[sv t_]]) rfl rfl rfl fun v30 X31 o32=>?_
       have o33:OwnS 9 1 v30 (scs ([t_]:List By)) X31:=o32
       refine xjw (List.Perm.append_left _ (List.perm_append_comm_assoc _ _ _)) ?_
       refine xdx (L':=([(b2,.cells #[.int .i64 (x),.int .i64 (y)] 28 (0,0)),(b1,.cells #[.int .i64 (k.base),.int .i64 (k.places),.slice a k.cords.length ca,.slice b k.top.length cb] 25 (0,0))]:Pcs)++(X1_++(X31++[]))) rfl ?_
       refine xkq ([(b2,.cells #[.int .i64 (x),.int .i64 (y)] 28 (0,0)),(b1,.cells #[.int .i64 (k.base),.int .i64 (k.places),.slice a k.cords.length ca,.slice b k.top.length cb] 25 (0,0))]:Pcs) X1_ X31 mn Tryz.underlying33 tS9 tZ9 rfl tB9 Tryz.underlying33 rfl rfl o1_ o33 (yew _) (by first | (rw [xek,yyv,List.length_take];show (_+1)*_≤_;omega) | (rw [xek];show (_+1)*_≤_;omega)) (by decide) fun v34 X35 o36=>?_
       have o37:OwnS 9 1 v34 (scs ((nts k (ns.take i))++([t_]:List By))) X35:=o36.as (ylx _ _)
       refine xew (tm':=zq4 (zq8 (zq16 (zq32 (zq32 _))))) rfl ?_
       refine ro (xax (v:=v34) rfl) <| xav <| xdq <| xak <| ro (xaz (v:=.int .i64 (((i:Nat):Int))) rfl) ?_
       refine rt (xfj rfl rfl (n:=((i+1:Nat):Int)) (wr (by omega))) (tm':=zq16 (zq32 _)) rfl ?_
       refine ro (xax (v:=.int .i64 (((i+1:Nat):Int))) rfl) <| xav ?_
       exact fun h_ H_=>IH9 _ _ (by omega) h_ ⟨i+1,v34,X35,rfl,(y_of rfl),(by omega),(wkx hin (by assumption)),(o37.as (congrArg scs (by rw [← zxz (show i<ns.length by omega),nt,← ej_]))),(H_.forget le25)⟩
     ·
      refine xbv rfl (xgx (dff cc11)) <| fsr ?_
      refine xdj mn (first:=[]) (cap:=[]) rfl rfl fC7 (fun h_ H_=>c7 _ (htab.keep H_.kept)) rfl ?_
      refine rt (xax (v:=.bool (true)) rfl) (tm':=zq1 (zq2 (zq4 _))) rfl <| xav ?_
      refine xvz Tryz.func3 rfl (vs:=[.bool (true)]) (fun h_ H_=>⟨.bool (true),_,rfl,rfl,rfl⟩) (v:=.bool (true)) rfl ?_
      exact fun h_ H_=>⟨rfl,H_.kept⟩
    ·
     refine xcx rfl (dff cc10) <| xhz rfl <| xaw ?_
     have ei_:i=n1:=by omega
     rw [ei_] at hin
     have hnz:=whx hin
     obtain ⟨TS,hTS⟩: ∃ TS,TS=nts k ns:=⟨_,rfl⟩
     have oT_:OwnS 9 1 w_ (scs TS) X1_:=o1_.as (congrArg scs (by rw [hTS,List.take_of_length_le (by omega)]))
     have hTl:TS.length=n1:=by rw [hTS,yyv];omega
     have hchk:chkT TS=0:=by rw [hTS];exact zok hk (by omega)
     have hchk2:chkT (TS++TS)=0:=by rw [hTS,wgx];exact zok hk (by rw [List.length_append];omega)
     have htx_:=(xpv hchk).2
     have htl: ∀ i,i<TS.length→(TS.getD i []).length≤2 ^ 60:=fun i hi=>by have z_:=(htx_ _ (xlk (d:=[]) hi)).1;omega
     have htl1: ∀ i,i<n1→(TS.getD i []).length≤2 ^ 60:=fun i hi=>htl i (by omega)
     have htx2_:=(xpv hchk2).2
     have htl2: ∀ i,i<(TS++TS).length→((TS++TS).getD i []).length≤2 ^ 60:=fun i hi=>by have z_:=(htx2_ _ (xlk (d:=[]) hi)).1;omega
     have hwl:=zrq hchk
     have hp1_:=yix TS
     have hp2_:=yix (TS++TS)
     have hp3_:=yhq hchk2
     have hTT_:(TS++TS).length=n1+n1:=by rw [List.length_append,hTl]
     refine xqv (A:=([(b2,.cells #[.int .i64 (x),.int .i64 (y)] 28 (0,0)),(b1,.cells #[.int .i64 (k.base),.int .i64 (k.places),.slice a k.cords.length ca,.slice b k.top.length cb] 25 (0,0))]:Pcs)) oT_ ((xek _).trans hTl) fun p38 a39 cp40 le41 ev_ D42=>?_
     subst ev_
     refine xjv (L':=[(b2,.cells #[.int .i64 (x),.int .i64 (y)] 28 (0,0)),(b1,.cells #[.int .i64 (k.base),.int .i64 (k.places),.slice a k.cords.length ca,.slice b k.top.length cb] 25 (0,0))]) rfl ?_
     refine xak ?_
     refine xdx (L':=([(b2,.cells #[.int .i64 (x),.int .i64 (y)] 28 (0,0)),(b1,.cells #[.int .i64 (k.base),.int .i64 (k.places),.slice a k.cords.length ca,.slice b k.top.length cb] 25 (0,0))]:Pcs)++[]) rfl ?_
     refine xfq ([(b2,.cells #[.int .i64 (x),.int .i64 (y)] 28 (0,0)),(b1,.cells #[.int .i64 (k.base),.int .i64 (k.places),.slice a k.cords.length ca,.slice b k.top.length cb] 25 (0,0))]:Pcs) mn Tryz.underlying33 tS9 tZ9 (Nat.le_of_ble_eq_true rfl) (vs:=[]) rfl rfl (es:=[]) rfl rfl rfl fun v43 X44 o45=>?_
     have o46:OwnS 9 1 v43 (scs ([]:List By)) X44:=o45
     refine ro (xaz (v:=.slice a39 n1 cp40) rfl) ?_
     refine ybw ([(b2,.cells #[.int .i64 (x),.int .i64 (y)] 28 (0,0)),(b1,.cells #[.int .i64 (k.base),.int .i64 (k.places),.slice a k.cords.length ca,.slice b k.top.length cb] 25 (0,0))]:Pcs) X44 mn Tryz.underlying33 tS9 tZ9 rfl tB9 Tryz.underlying33 rfl rfl o46 (show Strs _ _ _ TS from D42) (yew _) (by show (0+_)*_≤_;omega) (by decide) (by decide) fun v47 X48 o49=>?_
     have o50:OwnS 9 1 v47 (scs TS) X48:=o49.as rfl
     refine xew (tm':=zq32 (zq32 (zq32 _))) rfl ?_
     refine xsv (A:=([(b2,.cells #[.int .i64 (x),.int .i64 (y)] 28 (0,0)),(b1,.cells #[.int .i64 (k.base),.int .i64 (k.places),.slice a k.cords.length ca,.slice b k.top.length cb] 25 (0,0))]:Pcs)) o50 (xek _) fun p51 a52 cp53 le54 ev_ D55=>?_
     subst ev_
     refine xdx (L':=[(b2,.cells #[.int .i64 (x),.int .i64 (y)] 28 (0,0)),(b1,.cells #[.int .i64 (k.base),.int .i64 (k.places),.slice a k.cords.length ca,.slice b k.top.length cb] 25 (0,0))]) rfl ?_
     refine xdj mn (first:=[]) (cap:=[]) rfl rfl fC13 (fun h_ H_=>c13 _ _ H_.pe (htab.keep H_.kept) a52 TS.length _ TS (show Strs _ _ _ TS from D55) (by omega) (by first | exact htl | exact htl1 | exact htl2)) rfl ?_
     refine ro (xaz (v:=.tuple #[sv ((writeB TS).1),.int .i64 ((writeB TS).2)]) rfl) <| rt (xdv rfl (v:=sv ((writeB TS).1)) rfl) (tm':=zq2 (zq32 (zq32 (zq32 _)))) rfl <| ro (xdv rfl (v:=.int .i64 ((writeB TS).2)) rfl) <| ro (xax (v:=sv ((writeB TS).1)) rfl) <| rt (xax (v:=.int .i64 ((writeB TS).2)) rfl) (tm':=zq1 (zq2 (zq4 (zq8 _)))) rfl <| ren ?_
     refine xak <| ro (xaz (v:=sv ((writeB TS).1)) rfl) ?_
     refine xdx (L':=([(b2,.cells #[.int .i64 (x),.int .i64 (y)] 28 (0,0)),(b1,.cells #[.int .i64 (k.base),.int .i64 (k.places),.slice a k.cords.length ca,.slice b k.top.length cb] 25 (0,0))]:Pcs)++[]) rfl ?_
     refine xhx mn (first:=[]) (cap:=[]) rfl rfl fC14 (R:=fun v_ h_=>∃ w56:Value,∃ X57:Pcs,v_= .tuple #[w56,.int .i64 ((readB ((writeB TS).1)).1)]∧(OwnS 9 1 w56 (scs ((readB ((writeB TS).1)).2)) X57)∧St h [] p51 h_ (([(b2,.cells #[.int .i64 (x),.int .i64 (y)] 28 (0,0)),(b1,.cells #[.int .i64 (k.base),.int .i64 (k.places),.slice a k.cords.length ca,.slice b k.top.length cb] 25 (0,0))]:Pcs)++(X57++[]))) (fun h_ H_=>(c14 _ (htab.keep H_.kept) ((writeB TS).1) (by first | omega | (rw [List.length_set];omega))).mono fun v_ h2_ ⟨w56,X57,e_,o58,N_⟩=>⟨w56,X57,e_,o58,H_.callNA N_⟩) fun v_=>?_
     refine xgj fun w56=>xgj fun X57=>xez fun ev_=>xez fun o58=>?_
     have ev_:=ev_.symm;subst ev_
     refine xdx (L':=([(b2,.cells #[.int .i64 (x),.int .i64 (y)] 28 (0,0)),(b1,.cells #[.int .i64 (k.base),.int .i64 (k.places),.slice a k.cords.length ca,.slice b k.top.length cb] 25 (0,0))]:Pcs)++(X57++[])) rfl ?_
     refine rt (xaz (v:=.tuple #[w56,.int .i64 ((readB ((writeB TS).1)).1)]) rfl) (tm':=zq4 (zq32 (zq32 (zq32 _)))) rfl <| ro (xdv rfl (v:=w56) rfl) <| ro (xdv rfl (v:=.int .i64 ((readB ((writeB TS).1)).1)) rfl) <| rt (xax (v:=w56) rfl) (tm':=zq16 _) rfl <| ro (xax (v:=.int .i64 ((readB ((writeB TS).1)).1)) rfl) <| ren ?_
     refine xaw ?_
     have oR_:OwnS 9 1 w56 (scs TS) X57:=o58.as (congrArg scs (by rw [xox hchk]))
     refine xqv (A:=([(b2,.cells #[.int .i64 (x),.int .i64 (y)] 28 (0,0)),(b1,.cells #[.int .i64 (k.base),.int .i64 (k.places),.slice a k.cords.length ca,.slice b k.top.length cb] 25 (0,0))]:Pcs)) oR_ ((xek _).trans hTl) fun p59 a60 cp61 le62 ev_ D63=>?_
     subst ev_
     refine xjv (L':=[(b2,.cells #[.int .i64 (x),.int .i64 (y)] 28 (0,0)),(b1,.cells #[.int .i64 (k.base),.int .i64 (k.places),.slice a k.cords.length ca,.slice b k.top.length cb] 25 (0,0))]) rfl ?_
     refine xak <| ro (xaz (v:=.int .i64 ((writeB TS).2)) rfl) <| rt (xix rfl rfl) (tm':=zq2 (zq8 (zq32 (zq32 (zq32 _))))) rfl <| ro (xaz (v:=.bool (decide ((writeB TS).2≠0))) rfl) ?_
     refine xaj (ms rfl rfl (decide_eq_false (fun z_=>z_ (by rw [xpw hchk])))) (fun h_ H_=>xaz (v:=.int .i64 ((readB ((writeB TS).1)).1)) rfl) rfl ?_
     refine xaj (ms rfl rfl (decide_eq_false (fun z_=>z_ (by rw [xpw hchk])))) (fun h_ H_=>xix rfl rfl) (tm':=zq1 (zq4 (zq8 (zq32 (zq32 (zq32 _)))))) rfl ?_
     refine ro (xdw rfl (decide_eq_false (fun z_=>z_ (by rw [xpw hchk]))) (v:=.bool (decide ((readB ((writeB TS).1)).1≠0))) rfl) ?_
     refine ro (xaz (v:=.bool (decide ((readB ((writeB TS).1)).1≠0))) rfl) ?_
     refine xaj (ms rfl rfl (decide_eq_false (fun z_=>z_ (by rw [xox hchk])))) (fun h_ H_=>xaz (v:=.slice a60 n1 cp61) rfl) (tm':=zq16 (zq32 (zq32 (zq32 _)))) rfl ?_
     refine xaj (ms rfl rfl (decide_eq_false (fun z_=>z_ (by rw [xox hchk])))) (fun h_ H_=>xfv Tryz.underlying33 rfl) rfl ?_
     refine xaj (ms rfl rfl (decide_eq_false (fun z_=>z_ (by rw [xox hchk])))) (fun h_ H_=>xaz (v:=.slice e1 n1 ce) rfl) rfl ?_
     refine xaj (ms rfl rfl (decide_eq_false (fun z_=>z_ (by rw [xox hchk])))) (fun h_ H_=>xfv Tryz.underlying26 rfl) (tm':=zq1 (zq2 (zq16 (zq32 (zq32 (zq32 _)))))) rfl ?_
     refine xaj (ms rfl rfl (decide_eq_false (fun z_=>z_ (by rw [xox hchk])))) (fun h_ H_=>xix rfl rfl) rfl ?_
     refine ro (xdw rfl (decide_eq_false (fun z_=>z_ (by rw [xox hchk]))) (v:=.bool (decide (((n1:Nat):Int)≠((n1:Nat):Int)))) rfl) ?_
     refine rt (xaz (v:=.bool (decide (((n1:Nat):Int)≠((n1:Nat):Int)))) rfl) (tm':=zq2 (zq4 (zq16 (zq32 (zq32 (zq32 _)))))) rfl ?_
     refine xaj (ms rfl rfl (decide_eq_false (by omega))) (fun h_ H_=>xaz (v:=sv ((writeB TS).1)) rfl) rfl ?_
     refine xaj (ms rfl rfl (decide_eq_false (by omega))) (fun h_ H_=>xjx (l:=(writeB TS).1) Tryz.underlying9 rfl) rfl ?_
     refine xaj (ms rfl rfl (decide_eq_false (by omega))) (fun h_ H_=>xmw rfl rfl) (tm':=zq1 (zq8 (zq16 (zq32 (zq32 (zq32 _)))))) rfl ?_
     refine ro (xdw rfl (decide_eq_false (by omega)) (v:=.bool (decide (1400<((((writeB TS).1).length:Nat):Int)))) rfl) ?_
     refine xav ?_
     refine xcx rfl (decide_eq_false (by omega)) ?_
     refine xcj <| xaw <| fsr <| ro (xax (v:=.int .i64 0) rfl) <| xav <| xcw ?_
     refine xhw (m₀:=n1-0) (fun m_ tm_ h_=>∃ (q:Nat),m_=n1-q∧(∃ y64:Nat→Value,tm_=(.agg #[.int .i64 (k.base),.int .i64 (k.places),.slice a k.cords.length ca,.slice b k.top.length cb]::.slice e1 n1 ce::.agg #[.int .i64 (x),.int .i64 (y)]::.pointer (some ⟨b1,0,none⟩)::undef::.pointer (some ⟨b2,0,none⟩)::(y64 6)::.slice a39 n1 cp40::.int .i64 (((i:Nat):Int))::(y8 9)::(y8 10)::(y8 11)::(y8 12)::sv ((writeB TS).1)::.int .i64 ((writeB TS).2)::.slice a60 n1 cp61::.int .i64 ((readB ((writeB TS).1)).1)::.int .i64 (((q:Nat):Int))::(y64 18)::(y64 19)::(y64 20)::(y64 21)::undef::undef::undef::zu4 (.agg #[.int .i64 (k.base),.int .i64 (k.places),.slice a k.cords.length ca,.slice b k.top.length cb]::.bool (x3)::.bool (x3)::.agg #[.int .i64 (k.base),.int .i64 (k.places),.slice a k.cords.length ca,.slice b k.top.length cb]::.int .i64 (chkK k)::.bool (decide (chkK k≠0))::.bool (decide (chkK k≠0))::.bool (decide (chkK k≠0))::.slice e1 n1 ce::.int .i64 (((n1:Nat):Int))::.bool (decide (8<((n1:Nat):Int)))::.bool (decide (8<((n1:Nat):Int)))::undef::.int .i64 (((i:Nat):Int))::.slice e1 n1 ce::.int .i64 (((n1:Nat):Int))::.bool (decide (((i:Nat):Int)<((n1:Nat):Int)))::(y8 46)::(y8 47)::(y8 48)::(y8 49)::(y8 50)::(y8 51)::(y8 52)::(y8 53)::(y8 54)::(y8 55)::(y8 56)::(y8 57)::(y8 58)::(y8 59)::(y8 60)::(y8 61)::(y8 62)::(y8 63)::(y8 64)::(y8 65)::(y8 66)::(y8 67)::(y8 68)::(y8 69)::(y8 70)::(y8 71)::(y8 72)::(y8 73)::(y8 74)::(y8 75)::(y8 76)::(y8 77)::(y8 78)::(y8 79)::(y8 80)::(y8 81)::(y8 82)::(y8 83)::(y8 84)::(y8 85)::(y8 86)::(y8 87)::(y8 88)::(y8 89)::(y8 90)::(y8 91)::.tuple #[sv ((writeB TS).1),.int .i64 ((writeB TS).2)]::v43::.slice a39 n1 cp40::.slice a52 TS.length cp53::.tuple #[sv ((writeB TS).1),.int .i64 ((writeB TS).2)]::sv ((writeB TS).1)::.int .i64 ((writeB TS).2)::.tuple #[.slice a60 n1 cp61,.int .i64 ((readB ((writeB TS).1)).1)]::sv ((writeB TS).1)::.tuple #[.slice a60 n1 cp61,.int .i64 ((readB ((writeB TS).1)).1)]::.slice a60 n1 cp61::.int .i64 ((readB ((writeB TS).1)).1)::.int .i64 ((writeB TS).2)::.bool (decide ((writeB TS).2≠0))::.bool (decide ((writeB TS).2≠0))::.int .i64 ((readB ((writeB TS).1)).1)::.bool (decide ((readB ((writeB TS).1)).1≠0))::.bool (decide ((readB ((writeB TS).1)).1≠0))::.bool (decide ((readB ((writeB TS).1)).1≠0))::.slice a60 n1 cp61::.int .i64 (((n1:Nat):Int))::.slice e1 n1 ce::.int .i64 (((n1:Nat):Int))::.bool (decide (((n1:Nat):Int)≠((n1:Nat):Int)))::.bool (decide (((n1:Nat):Int)≠((n1:Nat):Int)))::.bool (decide (((n1:Nat):Int)≠((n1:Nat):Int)))::sv ((writeB TS).1)::.int .i64 (((((writeB TS).1).length:Nat):Int))::.bool (decide (1400<((((writeB TS).1).length:Nat):Int)))::.bool (decide (1400<((((writeB TS).1).length:Nat):Int)))::(y64 122)::(y64 123)::(y64 124)::(y64 125)::(y64 126)::(y64 127)::(y64 128)::(y64 129)::(y64 130)::(y64 131)::(y64 132)::(y64 133)::(y64 134)::(y64 135)::(y64 136)::(y64 137)::(y64 138)::(y64 139)::(y64 140)::(y64 141)::(y64 142)::(y64 143)::(y64 144)::(y64 145)::(y64 146)::(y64 147)::(y64 148)::(y64 149)::(y64 150)::(y64 151)::(y64 152)::(y64 153)::(y64 154)::(y64 155)::(y64 156)::(y64 157)::(y64 158)::(y64 159)::(y64 160)::(y64 161)::(y64 162)::(y64 163)::(y64 164)::(y64 165)::(y64 166)::(y64 167)::(y64 168)::(y64 169)::(y64 170)::(y64 171)::undef::zu16 (zu16 (zu16 (zu16 (zu16 [])))))))∧(q≤n1)∧St h [] p59 h_ ([(b2,.cells #[.int .i64 (x),.int .i64 (y)] 28 (0,0)),(b1,.cells #[.int .i64 (k.base),.int .i64 (k.places),.slice a k.cords.length ca,.slice b k.top.length cb] 25 (0,0))])) (fun h_ H_=>⟨0,rfl,(y_of rfl),Nat.zero_le _,H_⟩) ?_
     intro m_ tm_ IH65
     refine xhv fun q=>xcq fun hm_=>xcq fun ht_=>xcq fun hq=>?_
     subst hm_;obtain ⟨y64,ht_⟩:=ht_;subst ht_
     have hTq_:q<n1→TS.getD q []=nt k (ns.getD q 0):=fun z_=>by rw [hTS];exact wjw (by omega)
     have hTql_:q<n1→(TS.getD q []).length=k.places.toNat:=fun z_=>by rw [hTq_ z_,wbx]
     refine xaw <| fsr <| rt (xaz (v:=.int .i64 (((q:Nat):Int))) rfl) (tm':=zq1 (zq2 (zq8 (zq16 (zq32 (zq32 (zq32 _))))))) rfl <| ro (xaz (v:=.slice a60 n1 cp61) rfl) <| ro (xfv Tryz.underlying33 rfl) <| rt (xgz rfl rfl) (tm':=zq2 (zq4 (zq8 (zq16 (zq32 (zq32 (zq32 _))))))) rfl ?_
     refine xav ?_
     by_cases cc66:((q:Nat):Int)<((n1:Nat):Int)
     ·
      refine xbv rfl (dtt cc66) <| xcj <| xaw <| xcw <| xaw <| xaw ?_
      refine xiw 7 [[],[],[0,1],[0,1,2],[0,1,2,3],[],[5],[]] mixed (by kernel_rfl) (Nat.le_of_ble_eq_true rfl) ?_
      refine wt (xaz (v:=.slice a60 n1 cp61) rfl) (tm':=zq1 (zq32 (zq32 (zq32 (zq32 _))))) rfl <| wo (xaz (v:=.int .i64 (((q:Nat):Int))) rfl) ?_
      refine wt (xbw (i:=q) Tryz.underlying33 tS9 (xmz a60 n1 cp61 ((show Strs _ _ _ TS from D63).ne (by omega))) rfl (by omega)) (tm':=zq1 (zq2 (zq32 (zq32 (zq32 (zq32 _)))))) rfl ?_
      refine wd (fun h_ H_=>xcz H_ tA9 rfl (v:=sv (TS.getD q [])) ((show Strs _ _ _ TS from D63).get (by omega))) ?_
      refine wt (xjx (l:=TS.getD q []) Tryz.underlying9 rfl) (tm':=zq1 (zq4 (zq32 (zq32 (zq32 (zq32 _)))))) rfl <| wo (xbz xww rfl (a':=⟨b1,1,none⟩) rfl) ?_
      refine xej mn (fun h_ H_=>xbj H_ tA3 rfl (i:=1) rfl (v:=.int .i64 (k.places)) rfl) (tm':=zq1 (zq2 (zq4 (zq32 (zq32 (zq32 (zq32 _))))))) rfl ?_
      refine xmk rfl ?_
      refine ro (xix rfl rfl) <| xav ?_
      refine xcx rfl (decide_eq_false (by omega)) ?_
      refine xcj <| fsr <| rt (xax (v:=.slice none 0 0) rfl) (tm':=zq1 (zq2 (zq16 _))) rfl <| ren <| fsr <| ro (xax (v:=.int .i64 0) rfl) ?_
      refine xav <| xcw ?_
      refine xhw (m₀:=k.places.toNat-0) (fun m_ tm_ h_=>∃ (j:Nat) (w6_:Value) (X6_:Pcs),m_=k.places.toNat-j∧(∃ y67:Nat→Value,tm_=(.agg #[.int .i64 (k.base),.int .i64 (k.places),.slice a k.cords.length ca,.slice b k.top.length cb]::.slice e1 n1 ce::.agg #[.int .i64 (x),.int .i64 (y)]::.pointer (some ⟨b1,0,none⟩)::undef::.pointer (some ⟨b2,0,none⟩)::(y64 6)::.slice a39 n1 cp40::.int .i64 (((i:Nat):Int))::(y8 9)::(y8 10)::(y8 11)::(y8 12)::sv ((writeB TS).1)::.int .i64 ((writeB TS).2)::.slice a60 n1 cp61::.int .i64 ((readB ((writeB TS).1)).1)::.int .i64 (((q:Nat):Int))::w6_::.int .i64 (((j:Nat):Int))::(y64 20)::(y64 21)::undef::undef::undef::zu4 (.agg #[.int .i64 (k.base),.int .i64 (k.places),.slice a k.cords.length ca,.slice b k.top.length cb]::.bool (x3)::.bool (x3)::.agg #[.int .i64 (k.base),.int .i64 (k.places),.slice a k.cords.length ca,.slice b k.top.length cb]::.int .i64 (chkK k)::.bool (decide (chkK k≠0))::.bool (decide (chkK k≠0))::.bool (decide (chkK k≠0))::.slice e1 n1 ce::.int .i64 (((n1:Nat):Int))::.bool (decide (8<((n1:Nat):Int)))::.bool (decide (8<((n1:Nat):Int)))::undef::.int .i64 (((i:Nat):Int))::.slice e1 n1 ce::.int .i64 (((n1:Nat):Int))::.bool (decide (((i:Nat):Int)<((n1:Nat):Int)))::(y8 46)::(y8 47)::(y8 48)::(y8 49)::(y8 50)::(y8 51)::(y8 52)::(y8 53)::(y8 54)::(y8 55)::(y8 56)::(y8 57)::(y8 58)::(y8 59)::(y8 60)::(y8 61)::(y8 62)::(y8 63)::(y8 64)::(y8 65)::(y8 66)::(y8 67)::(y8 68)::(y8 69)::(y8 70)::(y8 71)::(y8 72)::(y8 73)::(y8 74)::(y8 75)::(y8 76)::(y8 77)::(y8 78)::(y8 79)::(y8 80)::(y8 81)::(y8 82)::(y8 83)::(y8 84)::(y8 85)::(y8 86)::(y8 87)::(y8 88)::(y8 89)::(y8 90)::(y8 91)::.tuple #[sv ((writeB TS).1),.int .i64 ((writeB TS).2)]::v43::.slice a39 n1 cp40::.slice a52 TS.length cp53::.tuple #[sv ((writeB TS).1),.int .i64 ((writeB TS).2)]::sv ((writeB TS).1)::.int .i64 ((writeB TS).2)::.tuple #[.slice a60 n1 cp61,.int .i64 ((readB ((writeB TS).1)).1)]::sv ((writeB TS).1)::.tuple #[.slice a60 n1 cp61,.int .i64 ((readB ((writeB TS).1)).1)]::.slice a60 n1 cp61::.int .i64 ((readB ((writeB TS).1)).1)::.int .i64 ((writeB TS).2)::.bool (decide ((writeB TS).2≠0))::.bool (decide ((writeB TS).2≠0))::.int .i64 ((readB ((writeB TS).1)).1)::.bool (decide ((readB ((writeB TS).1)).1≠0))::.bool (decide ((readB ((writeB TS).1)).1≠0))::.bool (decide ((readB ((writeB TS).1)).1≠0))::.slice a60 n1 cp61::.int .i64 (((n1:Nat):Int))::.slice e1 n1 ce::.int .i64 (((n1:Nat):Int))::.bool (decide (((n1:Nat):Int)≠((n1:Nat):Int)))::.bool (decide (((n1:Nat):Int)≠((n1:Nat):Int)))::.bool (decide (((n1:Nat):Int)≠((n1:Nat):Int)))::sv ((writeB TS).1)::.int .i64 (((((writeB TS).1).length:Nat):Int))::.bool (decide (1400<((((writeB TS).1).length:Nat):Int)))::.bool (decide (1400<((((writeB TS).1).length:Nat):Int)))::.int .i64 (((q:Nat):Int))::.slice a60 n1 cp61::.int .i64 (((n1:Nat):Int))::.bool (decide (((q:Nat):Int)<((n1:Nat):Int)))::(y64 126)::(y64 127)::.slice a60 n1 cp61::.int .i64 (((q:Nat):Int))::.pointer (some ((adr a60).add (q*1)))::sv (TS.getD q [])::.int .i64 ((((TS.getD q []).length:Nat):Int))::.pointer (some ⟨b1,1,none⟩)::.int .i64 (k.places)::.bool (decide ((((TS.getD q []).length:Nat):Int)≠k.places))::(y67 136)::(y67 137)::(y67 138)::(y67 139)::(y67 140)::(y67 141)::(y67 142)::(y67 143)::(y67 144)::(y67 145)::(y67 146)::(y67 147)::(y67 148)::(y67 149)::(y67 150)::(y67 151)::(y67 152)::(y67 153)::(y67 154)::(y67 155)::(y64 156)::(y64 157)::(y64 158)::(y64 159)::(y64 160)::(y64 161)::(y64 162)::(y64 163)::(y64 164)::(y64 165)::(y64 166)::(y64 167)::(y64 168)::(y64 169)::(y64 170)::(y64 171)::undef::zu16 (zu16 (zu16 (zu16 (zu16 [])))))))∧(j≤k.places.toNat)∧(OwnS 3 1 w6_ (ics ((digs k.base k.places.toNat (ns.getD q 0)).take j)) X6_)∧St h [] p59 h_ (([(b2,.cells #[.int .i64 (x),.int .i64 (y)] 28 (0,0)),(b1,.cells #[.int .i64 (k.base),.int .i64 (k.places),.slice a k.cords.length ca,.slice b k.top.length cb] 25 (0,0))]:Pcs)++(X6_++[]))) (fun h_ H_=>⟨0,(.slice none 0 0),[],rfl,(y_of rfl),Nat.zero_le _,(OwnS.empty _ _),H_⟩) ?_
      intro m_ tm_ IH68
      refine xhv fun j=>xhv fun w6_=>xhv fun X6_=>xcq fun hm_=>xcq fun ht_=>xcq fun hj=>xcq fun o6_=>?_
      subst hm_;obtain ⟨y67,ht_⟩:=ht_;subst ht_
      refine xaw <| fsr <| ro (xaz (v:=.int .i64 (((j:Nat):Int))) rfl) <| rt (xaz (v:=.slice a60 n1 cp61) rfl) (tm':=zq2 (zq8 (zq32 (zq32 (zq32 (zq32 _)))))) rfl <| ro (xaz (v:=.int .i64 (((q:Nat):Int))) rfl) ?_
      refine ro (xbw (i:=q) Tryz.underlying33 tS9 (xmz a60 n1 cp61 ((show Strs _ _ _ TS from D63).ne (by omega))) rfl (by omega)) ?_
      refine xaj mn (fun h_ H_=>xcz H_ tA9 rfl (v:=sv (TS.getD q [])) ((show Strs _ _ _ TS from D63).get (by omega))) (tm':=zq1 (zq4 (zq8 (zq32 (zq32 (zq32 (zq32 _))))))) rfl ?_
      refine ro (xjx (l:=TS.getD q []) Tryz.underlying9 rfl) <| ro (xgz rfl rfl) <| xav ?_
      by_cases cc69:((j:Nat):Int)<(((TS.getD q []).length:Nat):Int)
      ·
       refine xbv rfl (dtt cc69) <| xcj <| xaw <| xcw <| xak <| rt (xaz (v:=w6_) rfl) (tm':=zq2 (zq16 (zq32 (zq32 (zq32 (zq32 _)))))) rfl ?_
       refine ro (xaz (v:=.slice a60 n1 cp61) rfl) <| ro (xaz (v:=.int .i64 (((q:Nat):Int))) rfl) ?_
       refine rt (xbw (i:=q) Tryz.underlying33 tS9 (xmz a60 n1 cp61 ((show Strs _ _ _ TS from D63).ne (by omega))) rfl (by omega)) (tm':=zq1 (zq4 (zq16 (zq32 (zq32 (zq32 (zq32 _))))))) rfl ?_
       refine rd (fun h_ H_=>xcz H_ tA9 rfl (v:=sv (TS.getD q [])) ((show Strs _ _ _ TS from D63).get (by omega))) ?_
       refine ro (xaz (v:=.int .i64 (((j:Nat):Int))) rfl) ?_
       refine rt (xlv (l:=TS.getD q []) (i:=j) Tryz.underlying9 rfl rfl (by omega)) (tm':=zq8 (zq16 (zq32 (zq32 (zq32 (zq32 _)))))) rfl ?_
       refine ro (xmq ⟨_,Tryz.underlying5⟩ Tryz.underlying3 rfl (n:=((((TS.getD q []).getD j 0).toNat:Nat):Int)) (wrB _)) ?_
       refine ro (xlq rfl rfl (wr (by have z_:=ycw ((TS.getD q []).getD j 0);omega))) ?_
       refine xfq ([(b2,.cells #[.int .i64 (x),.int .i64 (y)] 28 (0,0)),(b1,.cells #[.int .i64 (k.base),.int .i64 (k.places),.slice a k.cords.length ca,.slice b k.top.length cb] 25 (0,0))]:Pcs) mn Tryz.underlying26 tS3 tZ3 (Nat.le_of_ble_eq_true rfl) (vs:=[(0,.int .i64 (((((TS.getD q []).getD j 0).toNat:Nat):Int)-48))]) rfl rfl (es:=[[.int .i64 (((((TS.getD q []).getD j 0).toNat:Nat):Int)-48)]]) rfl rfl rfl fun v70 X71 o72=>?_
       refine xew (tm':=zq1 (zq2 (zq8 (zq16 (zq32 (zq32 (zq32 (zq32 _)))))))) rfl ?_
       refine xjw (List.Perm.append_left _ (List.perm_append_comm_assoc _ _ _)) ?_
       refine xdx (L':=([(b2,.cells #[.int .i64 (x),.int .i64 (y)] 28 (0,0)),(b1,.cells #[.int .i64 (k.base),.int .i64 (k.places),.slice a k.cords.length ca,.slice b k.top.length cb] 25 (0,0))]:Pcs)++(X6_++(X71++[]))) rfl ?_
       refine xkq ([(b2,.cells #[.int .i64 (x),.int .i64 (y)] 28 (0,0)),(b1,.cells #[.int .i64 (k.base),.int .i64 (k.places),.slice a k.cords.length ca,.slice b k.top.length cb] 25 (0,0))]:Pcs) X6_ X71 mn Tryz.underlying26 tS3 tZ3 rfl tB3 Tryz.underlying26 rfl rfl o6_ o72 (xrj rfl) (by rw [xoj,List.length_take,xik];show (_+1)*_≤_;omega) (by decide) fun v73 X74 o75=>?_
       refine ro (xax (v:=v73) rfl) <| xav <| xdq <| xak <| rt (xaz (v:=.int .i64 (((j:Nat):Int))) rfl) (tm':=zq16 (zq32 (zq32 (zq32 (zq32 _))))) rfl ?_
       refine ro (xfj rfl rfl (n:=((j+1:Nat):Int)) (wr (by omega))) ?_
       refine ro (xax (v:=.int .i64 (((j+1:Nat):Int))) rfl) <| xav ?_
       exact fun h_ H_=>IH68 _ _ (by omega) h_ ⟨j+1,v73,X74,rfl,(y_of rfl),(by omega),(o75.as ((zyq _ _).trans (congrArg ics (by rw [hTq_ (by omega),wfq hk (by omega)];exact zuj (by rw [xik];omega))))),H_⟩
      ·
       refine xcx rfl (dff cc69) <| xhz rfl <| xaw ?_
       have oD_:OwnS 3 1 w6_ (ics (digs k.base k.places.toNat (ns.getD q 0))) X6_:=o6_.as (congrArg ics (List.take_of_length_le (by rw [xik];omega)))
       refine xak ?_
       refine xaj mn (fun h_ H_=>xeq H_ tA25 tS25 rfl (i:=1) rfl (vs:=[.int .i64 (k.base),.int .i64 (k.places),.slice a k.cords.length ca,.slice b k.top.length cb]) rfl rfl) (tm':=zq2 (zq4 (zq8 (zq16 (zq32 (zq32 (zq32 (zq32 _)))))))) rfl ?_
       refine ro (xaz (v:=w6_) rfl) ?_
       refine xsv (A:=([(b2,.cells #[.int .i64 (x),.int .i64 (y)] 28 (0,0)),(b1,.cells #[.int .i64 (k.base),.int .i64 (k.places),.slice a k.cords.length ca,.slice b k.top.length cb] 25 (0,0))]:Pcs)) oD_ ((xoj _).trans (xik _ _ _)) fun p76 a77 cp78 le79 ev_ D80=>?_
       subst ev_
       refine xdx (L':=[(b2,.cells #[.int .i64 (x),.int .i64 (y)] 28 (0,0)),(b1,.cells #[.int .i64 (k.base),.int .i64 (k.places),.slice a k.cords.length ca,.slice b k.top.length cb] 25 (0,0))]) rfl ?_
       refine xdj mn (first:=[]) (cap:=[]) rfl rfl fC15 (fun h_ H_=>c15 .lone _ _ H_.pe _ _ _ _ _ _ k (show BookP _ _ _ _ _ _ _ k from ⟨((((B.t.mono le41).mono le54).mono le62).mono le79),((((B.u.mono le41).mono le54).mono le62).mono le79)⟩) hn hb _ _ _ _ (show Ints _ _ _ (digs k.base k.places.toNat (ns.getD q 0)) from D80) (by omega)) rfl ?_
       refine rt (xaz (v:=.tuple #[.int .i64 (rdK k (digs k.base k.places.toNat (ns.getD q 0))),.int .i64 (askK k (decide (digK k (digs k.base k.places.toNat (ns.getD q 0)))))]) rfl) (tm':=zq1 (zq4 (zq8 (zq16 (zq32 (zq32 (zq32 (zq32 _)))))))) rfl <| ro (xdv rfl (v:=.int .i64 (rdK k (digs k.base k.places.toNat (ns.getD q 0)))) rfl) <| ro (xdv rfl (v:=.int .i64 (askK k (decide (digK k (digs k.base k.places.toNat (ns.getD q 0)))))) rfl) <| rt (xax (v:=.int .i64 (rdK k (digs k.base k.places.toNat (ns.getD q 0)))) rfl) (tm':=zq1 (zq4 (zq16 _))) rfl <| ro (xax (v:=.int .i64 (askK k (decide (digK k (digs k.base k.places.toNat (ns.getD q 0)))))) rfl) <| ren ?_
       refine xak <| ro (xaz (v:=.int .i64 (askK k (decide (digK k (digs k.base k.places.toNat (ns.getD q 0)))))) rfl) <| rt (xix rfl rfl) (tm':=zq4 (zq32 (zq32 (zq32 (zq32 (zq32 _)))))) rfl <| ro (xaz (v:=.bool (decide (askK k (decide (digK k (digs k.base k.places.toNat (ns.getD q 0))))≠0))) rfl) ?_
       refine xaj (ms rfl rfl (decide_eq_false (fun z_=>z_ (xvq hk (hnz q (by omega)).1 (hnz q (by omega)).2).2))) (fun h_ H_=>xaz (v:=.int .i64 (rdK k (digs k.base k.places.toNat (ns.getD q 0)))) rfl) rfl ?_
       refine xaj (ms rfl rfl (decide_eq_false (fun z_=>z_ (xvq hk (hnz q (by omega)).1 (hnz q (by omega)).2).2))) (fun h_ H_=>xaz (v:=.slice e1 n1 ce) rfl) (tm':=zq1 (zq2 (zq4 (zq32 (zq32 (zq32 (zq32 (zq32 _)))))))) rfl ?_
       refine xaj (ms rfl rfl (decide_eq_false (fun z_=>z_ (xvq hk (hnz q (by omega)).1 (hnz q (by omega)).2).2))) (fun h_ H_=>xaz (v:=.int .i64 (((q:Nat):Int))) rfl) rfl ?_
       refine xaj (ms rfl rfl (decide_eq_false (fun z_=>z_ (xvq hk (hnz q (by omega)).1 (hnz q (by omega)).2).2))) (fun h_ H_=>xbw (i:=q) Tryz.underlying26 tS3 (xmz e1 n1 ce (((((S.mono le41).mono le54).mono le62).mono le79).ne (by omega))) rfl (by omega)) rfl ?_
       refine xaj (ms rfl rfl (decide_eq_false (fun z_=>z_ (xvq hk (hnz q (by omega)).1 (hnz q (by omega)).2).2))) (fun h_ H_=>xcz H_ tA3 rfl (v:=.int .i64 (ns.getD q 0)) (((((S.mono le41).mono le54).mono le62).mono le79).get (by omega))) (tm':=zq1 (zq4 (zq8 (zq16 (zq32 (zq32 (zq32 (zq32 (zq32 (zq32 (zq32 []))))))))))) rfl ?_
       refine xaj (ms rfl rfl (decide_eq_false (fun z_=>z_ (xvq hk (hnz q (by omega)).1 (hnz q (by omega)).2).2))) (fun h_ H_=>xix rfl rfl) rfl ?_
       refine ro (xdw rfl (decide_eq_false (fun z_=>z_ (xvq hk (hnz q (by omega)).1 (hnz q (by omega)).2).2)) (v:=.bool (decide (rdK k (digs k.base k.places.toNat (ns.getD q 0))≠ns.getD q 0))) rfl) ?_
       refine xav ?_
       refine xcx rfl (decide_eq_false (fun z_=>z_ (xvq hk (hnz q (by omega)).1 (hnz q (by omega)).2).1)) ?_
       refine xcj <| xdq <| xak <| rt (xaz (v:=.int .i64 (((q:Nat):Int))) rfl) (tm':=zq1 (zq2 (zq4 (zq8 (zq16 (zq32 (zq32 (zq32 _)))))))) rfl ?_
       refine ro (xfj rfl rfl (n:=((q+1:Nat):Int)) (wr (by omega))) ?_
       refine ro (xax (v:=.int .i64 (((q+1:Nat):Int))) rfl) <| xav ?_
       exact fun h_ H_=>IH65 _ _ (by omega) h_ ⟨q+1,rfl,(y_of rfl),(by omega),(H_.forget le79)⟩
     ·
      refine xcx rfl (dff cc66) <| xhz rfl <| fsr <| rt (xaz (v:=.slice a39 n1 cp40) rfl) (tm':=zq1 (zq4 (zq8 (zq16 (zq32 (zq32 (zq32 (zq32 (zq32 (zq32 (zq32 []))))))))))) rfl ?_
      refine xdx (L':=([(b2,.cells #[.int .i64 (x),.int .i64 (y)] 28 (0,0)),(b1,.cells #[.int .i64 (k.base),.int .i64 (k.places),.slice a k.cords.length ca,.slice b k.top.length cb] 25 (0,0))]:Pcs)++[]) rfl ?_
      refine xhx mn (first:=[]) (cap:=[]) rfl rfl fC16 (R:=fun v_ h_=>∃ w81:Value,∃ X82:Pcs,v_= .tuple #[w81,.int .i64 (chkT TS)]∧(OwnS 9 1 w81 (scs (pcB TS)) X82)∧St h [] p59 h_ (([(b2,.cells #[.int .i64 (x),.int .i64 (y)] 28 (0,0)),(b1,.cells #[.int .i64 (k.base),.int .i64 (k.places),.slice a k.cords.length ca,.slice b k.top.length cb] 25 (0,0))]:Pcs)++(X82++[]))) (fun h_ H_=>(c16 _ _ H_.pe a39 n1 _ TS (((show Strs _ _ _ TS from D42).mono le54).mono le62) (by omega) (by first | exact htl | exact htl1 | exact htl2)).mono fun v_ h2_ ⟨w81,X82,e_,o83,N_⟩=>⟨w81,X82,e_,o83,H_.callNA N_⟩) fun v_=>?_
      refine xgj fun w81=>xgj fun X82=>xez fun ev_=>xez fun o83=>?_
      have ev_:=ev_.symm;subst ev_
      refine xdx (L':=([(b2,.cells #[.int .i64 (x),.int .i64 (y)] 28 (0,0)),(b1,.cells #[.int .i64 (k.base),.int .i64 (k.places),.slice a k.cords.length ca,.slice b k.top.length cb] 25 (0,0))]:Pcs)++(X82++[])) rfl ?_
      refine ro (xaz (v:=.tuple #[w81,.int .i64 (chkT TS)]) rfl) <| rt (xdv rfl (v:=w81) rfl) (tm':=zq1 (zq4 (zq8 (zq16 (zq32 (zq32 (zq32 (zq32 (zq32 (zq32 (zq32 []))))))))))) rfl <| ro (xdv rfl (v:=.int .i64 (chkT TS)) rfl) <| ro (xax (v:=w81) rfl) <| rt (xax (v:=.int .i64 (chkT TS)) rfl) (tm':=zq8 (zq16 _)) rfl <| ren ?_
      refine xak ?_
      refine xfq ([(b2,.cells #[.int .i64 (x),.int .i64 (y)] 28 (0,0)),(b1,.cells #[.int .i64 (k.base),.int .i64 (k.places),.slice a k.cords.length ca,.slice b k.top.length cb] 25 (0,0))]:Pcs) mn Tryz.underlying33 tS9 tZ9 (Nat.le_of_ble_eq_true rfl) (vs:=[]) rfl rfl (es:=[]) rfl rfl rfl fun v84 X85 o86=>?_
      have o87:OwnS 9 1 v84 (scs ([]:List By)) X85:=o86
      refine ro (xaz (v:=.slice a39 n1 cp40) rfl) ?_
      refine ybw ([(b2,.cells #[.int .i64 (x),.int .i64 (y)] 28 (0,0)),(b1,.cells #[.int .i64 (k.base),.int .i64 (k.places),.slice a k.cords.length ca,.slice b k.top.length cb] 25 (0,0))]:Pcs) X85 mn Tryz.underlying33 tS9 tZ9 rfl tB9 Tryz.underlying33 rfl rfl o87 (((show Strs _ _ _ TS from D42).mono le54).mono le62) (yew _) (by first | (rw [xek];omega) | (show (0+_)*_≤_;omega)) (by decide) (by decide) fun v88 X89 o90=>?_
      have o91:OwnS 9 1 v88 (scs TS) X89:=o90.as rfl
      refine xew (tm':=zq1 (zq4 (zq8 (zq16 (zq32 (zq32 (zq32 (zq32 (zq32 (zq32 (zq32 []))))))))))) rfl ?_
      refine ro (xaz (v:=.slice a39 n1 cp40) rfl) ?_
      refine ybw ([(b2,.cells #[.int .i64 (x),.int .i64 (y)] 28 (0,0)),(b1,.cells #[.int .i64 (k.base),.int .i64 (k.places),.slice a k.cords.length ca,.slice b k.top.length cb] 25 (0,0))]:Pcs) X89 mn Tryz.underlying33 tS9 tZ9 rfl tB9 Tryz.underlying33 rfl rfl o91 (((show Strs _ _ _ TS from D42).mono le54).mono le62) (yew _) (by first | (rw [xek];omega) | (show (0+_)*_≤_;omega)) (by decide) (by decide) fun v92 X93 o94=>?_
      have o95:OwnS 9 1 v92 (scs (TS++TS)) X93:=o94.as (ylx _ _)
      refine xsv (A:=([(b2,.cells #[.int .i64 (x),.int .i64 (y)] 28 (0,0)),(b1,.cells #[.int .i64 (k.base),.int .i64 (k.places),.slice a k.cords.length ca,.slice b k.top.length cb] 25 (0,0))]:Pcs)) o95 (xek _) fun p96 a97 cp98 le99 ev_ D100=>?_
      subst ev_
      refine xhx mn (first:=[]) (cap:=[]) rfl rfl fC16 (R:=fun v_ h_=>∃ w101:Value,∃ X102:Pcs,v_= .tuple #[w101,.int .i64 (chkT (TS++TS))]∧(OwnS 9 1 w101 (scs (pcB (TS++TS))) X102)∧St h [] p96 h_ (([(b2,.cells #[.int .i64 (x),.int .i64 (y)] 28 (0,0)),(b1,.cells #[.int .i64 (k.base),.int .i64 (k.places),.slice a k.cords.length ca,.slice b k.top.length cb] 25 (0,0))]:Pcs)++(X102++(X82++[])))) (fun h_ H_=>(c16 _ _ H_.pe a97 ((TS++TS).length) _ (TS++TS) (show Strs _ _ _ (TS++TS) from D100) (by omega) (by first | exact htl | exact htl1 | exact htl2)).mono fun v_ h2_ ⟨w101,X102,e_,o103,N_⟩=>⟨w101,X102,e_,o103,H_.callNA N_⟩) fun v_=>?_
      refine xgj fun w101=>xgj fun X102=>xez fun ev_=>xez fun o103=>?_
      have ev_:=ev_.symm;subst ev_
      refine xdx (L':=([(b2,.cells #[.int .i64 (x),.int .i64 (y)] 28 (0,0)),(b1,.cells #[.int .i64 (k.base),.int .i64 (k.places),.slice a k.cords.length ca,.slice b k.top.length cb] 25 (0,0))]:Pcs)++(X102++(X82++[]))) rfl ?_
      refine xew (tm':=zq1 (zq4 (zq8 (zq16 (zq32 (zq32 (zq32 (zq32 (zq32 (zq32 (zq32 []))))))))))) rfl ?_
      refine ro (xaz (v:=.tuple #[w101,.int .i64 (chkT (TS++TS))]) rfl) <| ro (xdv rfl (v:=w101) rfl) <| rt (xdv rfl (v:=.int .i64 (chkT (TS++TS))) rfl) (tm':=zq1 (zq4 (zq8 (zq16 (zq32 (zq32 (zq32 (zq32 (zq32 (zq32 (zq32 []))))))))))) rfl <| ro (xax (v:=w101) rfl) <| ro (xax (v:=.int .i64 (chkT (TS++TS))) rfl) <| ren ?_
      refine fsr <| rt (xaz (v:=.int .i64 (chkT TS)) rfl) (tm':=zq1 (zq4 (zq8 (zq16 (zq32 (zq32 (zq32 (zq32 (zq32 (zq32 (zq32 []))))))))))) rfl <| ro (xix rfl rfl) <| ro (xaz (v:=.bool (decide (chkT TS≠0))) rfl) ?_
      refine xaj (ms rfl rfl (decide_eq_false (fun z_=>z_ hchk))) (fun h_ H_=>xaz (v:=.int .i64 (chkT (TS++TS))) rfl) (tm':=zq1 (zq4 (zq8 (zq16 (zq32 (zq32 (zq32 (zq32 (zq32 (zq32 (zq32 []))))))))))) rfl ?_
      refine xaj (ms rfl rfl (decide_eq_false (fun z_=>z_ hchk))) (fun h_ H_=>xix rfl rfl) rfl ?_
      refine ro (xdw rfl (decide_eq_false (fun z_=>z_ hchk)) (v:=.bool (decide (chkT (TS++TS)≠0))) rfl) <| rt (xaz (v:=.bool (decide (chkT (TS++TS)≠0))) rfl) (tm':=zq1 (zq4 (zq8 (zq16 (zq32 (zq32 (zq32 (zq32 (zq32 (zq32 (zq32 []))))))))))) rfl ?_
      refine xaj (ms rfl rfl (decide_eq_false (fun z_=>z_ hchk2))) (fun h_ H_=>xaz (v:=w81) rfl) rfl ?_
      refine xaj (ms rfl rfl (decide_eq_false (fun z_=>z_ hchk2))) (fun h_ H_=>xrq o83 (xek _) Tryz.underlying33 rfl) rfl ?_
      refine xaj (ms rfl rfl (decide_eq_false (fun z_=>z_ hchk2))) (fun h_ H_=>xmw rfl rfl) (tm':=zq1 (zq4 (zq8 (zq16 (zq32 (zq32 (zq32 (zq32 (zq32 (zq32 (zq32 []))))))))))) rfl ?_
      refine ro (xdw rfl (decide_eq_false (fun z_=>z_ hchk2)) (v:=.bool (decide (1000<(((pcB TS).length:Nat):Int)))) rfl) <| ro (xaz (v:=.bool (decide (1000<(((pcB TS).length:Nat):Int)))) rfl) ?_
      refine xaj (ms rfl rfl (decide_eq_false (by omega))) (fun h_ H_=>xaz (v:=w101) rfl) (tm':=zq1 (zq4 (zq8 (zq16 (zq32 (zq32 (zq32 (zq32 (zq32 (zq32 (zq32 []))))))))))) rfl ?_
      refine xaj (ms rfl rfl (decide_eq_false (by omega))) (fun h_ H_=>xrq o103 (xek _) Tryz.underlying33 rfl) rfl ?_
      refine xaj (ms rfl rfl (decide_eq_false (by omega))) (fun h_ H_=>xaz (v:=w81) rfl) rfl ?_
      refine xaj (ms rfl rfl (decide_eq_false (by omega))) (fun h_ H_=>xrq o83 (xek _) Tryz.underlying33 rfl) (tm':=zq1 (zq4 (zq8 (zq16 (zq32 (zq32 (zq32 (zq32 (zq32 (zq32 (zq32 []))))))))))) rfl ?_
      refine xaj (ms rfl rfl (decide_eq_false (by omega))) (fun h_ H_=>xgz rfl rfl) rfl ?_
      refine ro (xdw rfl (decide_eq_false (by omega)) (v:=.bool (decide ((((pcB (TS++TS)).length:Nat):Int)<(((pcB TS).length:Nat):Int)))) rfl) ?_
      refine xav ?_
      refine xcx rfl (decide_eq_false (by omega)) ?_
      refine xcj <| xaw <| xaw ?_
      by_cases cc104:0≤x∧x≤((((writeB TS).1).length:Nat):Int)-1
      ·
       by_cases cc105:0≤y∧y≤255
       ·
        refine xiw 21 [[],[0],[],[2],[2,3],[0,1,2,3,4],[0,1,2,3,4],[0,1,2,3,4,5,6],[0,1,2,3,4,5,6],[0,1,2,3,4,5,6,8],[0,1,2,3,4,5,6,8,9],[0,1,2,3,4,5,6,8,9],[0,1,2,3,4,5,6,7,8,9,11],[0,1,2,3,4,5,6,7,8,9,10,11,12],[],[],[15],[14,15,16],[14,15,16,17],[0,1,2,3,4,5,6,7,8,9,10,11,12],[0,1,2,3,4,5,6,7,8,9,10,11,12,19],[0,1,2,3,4,5,6,7,8,9,10,11,12,14,15,16,17,18,19,20],[]] mixed (by kernel_rfl) (Nat.le_of_ble_eq_true rfl) ?_
        refine wo (xbz ysj rfl (a':=⟨b2,0,none⟩) rfl) ?_
        refine xej mn (fun h_ H_=>xbj H_ tA3 rfl (i:=0) rfl (v:=.int .i64 (x)) rfl) (tm':=zq1 (zq4 (zq8 (zq16 (zq32 (zq32 (zq32 (zq32 (zq32 (zq32 (zq32 []))))))))))) rfl ?_
        refine wo (xaz (v:=sv ((writeB TS).1)) rfl) <| wt (xjx (l:=(writeB TS).1) Tryz.underlying9 rfl) (tm':=zq1 (zq4 (zq8 (zq16 (zq32 (zq32 (zq32 (zq32 (zq32 (zq32 (zq32 []))))))))))) rfl ?_
        refine wo (xlq rfl rfl (wr (by omega))) ?_
        refine xpq mn (first:=[]) (cap:=[]) rfl rfl fC8 (fun h_ H_=>(c8 .lone _ (x) (0) (((((writeB TS).1).length:Nat):Int)-1)).mono fun v_ h2_ ⟨e_,k_⟩=>⟨e_,H_.call k_⟩) (tm':=zq1 (zq4 (zq8 (zq16 (zq32 (zq32 (zq32 (zq32 (zq32 (zq32 (zq32 []))))))))))) rfl ?_
        refine wo (xgw rfl) <| wt (xaz (v:=.bool (!(decide (0≤x∧x≤((((writeB TS).1).length:Nat):Int)-1)))) rfl) (tm':=zq1 (zq4 (zq8 (zq16 (zq32 (zq32 (zq32 (zq32 (zq32 (zq32 (zq32 []))))))))))) rfl ?_
        refine xej (ms rfl rfl (xfz (dtt cc104))) (fun h_ H_=>xbz zak rfl (a':=⟨b2,1,none⟩) rfl) rfl ?_
        refine xej (ms rfl rfl (xfz (dtt cc104))) (fun h_ H_=>xbj H_ tA3 rfl (i:=0) rfl (v:=.int .i64 (y)) rfl) (tm':=zq1 (zq4 (zq8 (zq16 (zq32 (zq32 (zq32 (zq32 (zq32 (zq32 (zq32 []))))))))))) rfl ?_
        refine xpq (ms rfl rfl (xfz (dtt cc104))) (first:=[]) (cap:=[]) rfl rfl fC8 (fun h_ H_=>(c8 .lone _ (y) (0) (255)).mono fun v_ h2_ ⟨e_,k_⟩=>⟨e_,H_.call k_⟩) rfl ?_
        refine xej (ms rfl rfl (xfz (dtt cc104))) (fun h_ H_=>xgw rfl) (tm':=zq1 (zq4 (zq8 (zq16 (zq32 (zq32 (zq32 (zq32 (zq32 (zq32 (zq32 []))))))))))) rfl ?_
        refine wo (xdw rfl (xfz (dtt cc104)) (v:=.bool (!(decide (0≤y∧y≤255)))) rfl) <| wt (xaz (v:=.bool (!(decide (0≤y∧y≤255)))) rfl) (tm':=zq1 (zq4 (zq8 (zq16 (zq32 (zq32 (zq32 (zq32 (zq32 (zq32 (zq32 []))))))))))) rfl ?_
        refine xej (ms rfl rfl (xfz (dtt cc105))) (fun h_ H_=>xaz (v:=sv ((writeB TS).1)) rfl) rfl ?_
        refine xej (ms rfl rfl (xfz (dtt cc105))) (fun h_ H_=>xbz ysj rfl (a':=⟨b2,0,none⟩) rfl) (tm':=zq1 (zq4 (zq8 (zq16 (zq32 (zq32 (zq32 (zq32 (zq32 (zq32 (zq32 []))))))))))) rfl ?_
        refine xej (ms rfl rfl (xfz (dtt cc105))) (fun h_ H_=>xbj H_ tA3 rfl (i:=0) rfl (v:=.int .i64 (x)) rfl) rfl ?_
        refine xej (ms rfl rfl (xfz (dtt cc105))) (fun h_ H_=>yck (l:=(writeB TS).1) (i:=x) Tryz.underlying9 rfl rfl (by omega) (by omega)) (tm':=zq1 (zq4 (zq8 (zq16 (zq32 (zq32 (zq32 (zq32 (zq32 (zq32 (zq32 []))))))))))) rfl ?_
        refine xej (ms rfl rfl (xfz (dtt cc105))) (fun h_ H_=>xmq ⟨_,Tryz.underlying5⟩ Tryz.underlying3 rfl (n:=(((((writeB TS).1).getD (x).toNat 0).toNat:Nat):Int)) (wrB _)) rfl ?_
        refine xej (ms rfl rfl (xfz (dtt cc105))) (fun h_ H_=>xbz zak rfl (a':=⟨b2,1,none⟩) rfl) (tm':=zq1 (zq4 (zq8 (zq16 (zq32 (zq32 (zq32 (zq32 (zq32 (zq32 (zq32 []))))))))))) rfl ?_
        refine xej (ms rfl rfl (xfz (dtt cc105))) (fun h_ H_=>xbj H_ tA3 rfl (i:=0) rfl (v:=.int .i64 (y)) rfl) rfl ?_
        refine xmk rfl ?_
        refine xaj (ms rfl rfl (xfz (dtt cc105))) (fun h_ H_=>xtz rfl rfl) rfl ?_
        refine ro (xdw rfl (xfz (dtt cc105)) (v:=.bool (decide ((((((writeB TS).1).getD (x).toNat 0).toNat:Nat):Int)=y))) rfl) <| xav ?_
        by_cases cc106:(((((writeB TS).1).getD (x).toNat 0).toNat:Nat):Int)=y
        ·
         refine xbv rfl (dtt cc106) <| fsr ?_
         refine xdj mn (first:=[]) (cap:=[]) rfl rfl fC7 (fun h_ H_=>c7 _ (htab.keep H_.kept)) (tm':=zq1 (zq4 (zq8 (zq16 (zq32 (zq32 (zq32 (zq32 (zq32 (zq32 (zq32 []))))))))))) rfl ?_
         refine ro (xax (v:=.bool (true)) rfl) <| xav ?_
         refine xvz Tryz.func3 rfl (vs:=[.bool (true)]) (fun h_ H_=>⟨.bool (true),_,rfl,rfl,rfl⟩) (v:=.bool (true)) rfl ?_
         exact fun h_ H_=>⟨rfl,H_.kept⟩
        ·
         refine xcx rfl (dff cc106) <| xcj <| fsr <| ro (xaz (v:=sv ((writeB TS).1)) rfl) ?_
         refine zmx ([(b2,.cells #[.int .i64 (x),.int .i64 (y)] 28 (0,0)),(b1,.cells #[.int .i64 (k.base),.int .i64 (k.places),.slice a k.cords.length ca,.slice b k.top.length cb] 25 (0,0))]:Pcs) mn Tryz.underlying9 Tryz.underlying47 Tryz.underlying5 (l:=(writeB TS).1) rfl fun v107 X108 o109=>?_
         refine xew (tm':=zq1 (zq4 (zq8 (zq16 (zq32 (zq32 (zq32 (zq32 (zq32 (zq32 (zq32 []))))))))))) rfl ?_
         refine ro (xax (v:=v107) rfl) <| ren <| xak <| ro (xaz (v:=v107) rfl) <| rt (xbz ysj rfl (a':=⟨b2,0,none⟩) rfl) (tm':=zq1 (zq4 (zq8 (zq16 (zq32 (zq32 (zq32 (zq32 (zq32 (zq32 (zq32 []))))))))))) rfl <| rd (fun h_ H_=>xbj H_ tA3 rfl (i:=0) rfl (v:=.int .i64 (x)) rfl) ?_
         refine ro (xbz zak rfl (a':=⟨b2,1,none⟩) rfl) ?_
         refine xaj mn (fun h_ H_=>xbj H_ tA3 rfl (i:=0) rfl (v:=.int .i64 (y)) rfl) (tm':=zq1 (zq4 (zq8 (zq16 (zq32 (zq32 (zq32 (zq32 (zq32 (zq32 (zq32 []))))))))))) rfl ?_
         refine ro (xmq ⟨_,Tryz.underlying3⟩ Tryz.underlying5 rfl (n:=y) (wr8 (by omega))) ?_
         refine ro (zik o109 Tryz.underlying47 tS5 rfl rfl (by omega) (by first | omega | (rw [List.length_set];omega))) ?_
         refine zlw (A:=([(b2,.cells #[.int .i64 (x),.int .i64 (y)] 28 (0,0)),(b1,.cells #[.int .i64 (k.base),.int .i64 (k.places),.slice a k.cords.length ca,.slice b k.top.length cb] 25 (0,0))]:Pcs)) (i:=(x).toNat) (c:=(UInt8.ofNat (y).toNat)) o109 mn tS5 rfl rfl (yaz (by omega) (by omega)).symm (by first | omega | (rw [List.length_set];omega)) fun X110 o111=>?_
         refine ren ?_
         have hbad_:(readB ((writeB TS).1.set x.toNat (UInt8.ofNat y.toNat))).1≠0:=zzw hchk (by omega) (wjq (by omega) (wgv (by omega) ‹¬ ((((writeB TS).1.getD x.toNat 0).toNat:Nat):Int)=y›))
         refine xak <| rt (xaz (v:=v107) rfl) (tm':=zq1 (zq4 (zq8 (zq16 (zq32 (zq32 (zq32 (zq32 (zq32 (zq32 (zq32 []))))))))))) rfl ?_
         refine rd (fun h_ H_=>zyw o111 H_ (fun x_ h_=>by simp [h_]) Tryz.underlying47 Tryz.underlying9 Tryz.underlying5 rfl) ?_
         refine xhx mn (first:=[]) (cap:=[]) rfl rfl fC14 (R:=fun v_ h_=>∃ w112:Value,∃ X113:Pcs,v_= .tuple #[w112,.int .i64 ((readB (((writeB TS).1).set ((x).toNat) (UInt8.ofNat (y).toNat))).1)]∧(OwnS 9 1 w112 (scs ((readB (((writeB TS).1).set ((x).toNat) (UInt8.ofNat (y).toNat))).2)) X113)∧St h [] p96 h_ (([(b2,.cells #[.int .i64 (x),.int .i64 (y)] 28 (0,0)),(b1,.cells #[.int .i64 (k.base),.int .i64 (k.places),.slice a k.cords.length ca,.slice b k.top.length cb] 25 (0,0))]:Pcs)++(X113++(X110++(X102++(X82++[])))))) (fun h_ H_=>(c14 _ (htab.keep H_.kept) (((writeB TS).1).set ((x).toNat) (UInt8.ofNat (y).toNat)) (by first | omega | (rw [List.length_set];omega))).mono fun v_ h2_ ⟨w112,X113,e_,o114,N_⟩=>⟨w112,X113,e_,o114,H_.callNA N_⟩) fun v_=>?_
         refine xgj fun w112=>xgj fun X113=>xez fun ev_=>xez fun o114=>?_
         have ev_:=ev_.symm;subst ev_
         refine xdx (L':=([(b2,.cells #[.int .i64 (x),.int .i64 (y)] 28 (0,0)),(b1,.cells #[.int .i64 (k.base),.int .i64 (k.places),.slice a k.cords.length ca,.slice b k.top.length cb] 25 (0,0))]:Pcs)++(X113++(X110++(X102++(X82++[]))))) rfl ?_
         refine rt (xaz (v:=.tuple #[w112,.int .i64 ((readB (((writeB TS).1).set ((x).toNat) (UInt8.ofNat (y).toNat))).1)]) rfl) (tm':=zq1 (zq4 (zq8 (zq16 (zq32 (zq32 (zq32 (zq32 (zq32 (zq32 (zq32 []))))))))))) rfl <| ro (xdv rfl (v:=w112) rfl) <| ro (xdv rfl (v:=.int .i64 ((readB (((writeB TS).1).set ((x).toNat) (UInt8.ofNat (y).toNat))).1)) rfl) <| rt (xax (v:=w112) rfl) (tm':=zq4 (zq8 (zq16 _))) rfl <| ro (xax (v:=.int .i64 ((readB (((writeB TS).1).set ((x).toNat) (UInt8.ofNat (y).toNat))).1)) rfl) <| ren ?_
         refine xak <| ro (xaz (v:=.int .i64 ((readB (((writeB TS).1).set ((x).toNat) (UInt8.ofNat (y).toNat))).1)) rfl) <| rt (xix rfl rfl) (tm':=zq1 (zq4 (zq8 (zq16 (zq32 (zq32 (zq32 (zq32 (zq32 (zq32 (zq32 []))))))))))) rfl <| ro (xaz (v:=.bool (decide ((readB (((writeB TS).1).set ((x).toNat) (UInt8.ofNat (y).toNat))).1≠0))) rfl) ?_
         refine xaj (ms rfl rfl (decide_eq_true hbad_)) (fun h_ H_=>xaz (v:=w112) rfl) rfl ?_
         refine xaj (ms rfl rfl (decide_eq_true hbad_)) (fun h_ H_=>xrq o114 (xek _) Tryz.underlying33 rfl) (tm':=zq1 (zq4 (zq8 (zq16 (zq32 (zq32 (zq32 (zq32 (zq32 (zq32 (zq32 []))))))))))) rfl ?_
         refine xaj (ms rfl rfl (decide_eq_true hbad_)) (fun h_ H_=>xtz rfl rfl) rfl ?_
         refine ro (xdz rfl (decide_eq_true hbad_) (v:=.bool (decide (((((readB (((writeB TS).1).set ((x).toNat) (UInt8.ofNat (y).toNat))).2).length:Nat):Int)=0))) rfl) <| rt (xaz (v:=.bool (decide (((((readB (((writeB TS).1).set ((x).toNat) (UInt8.ofNat (y).toNat))).2).length:Nat):Int)=0))) rfl) (tm':=zq1 (zq4 (zq8 (zq16 (zq32 (zq32 (zq32 (zq32 (zq32 (zq32 (zq32 []))))))))))) rfl ?_
         refine xdj (ms rfl rfl (decide_eq_true (yvw hbad_))) (first:=[]) (cap:=[]) rfl rfl fC7 (fun h_ H_=>c7 _ (htab.keep H_.kept)) rfl ?_
         refine ro (xdz rfl (decide_eq_true (yvw hbad_)) (v:=.bool (true)) rfl) <| rt (xax (v:=.bool (true)) rfl) (tm':=zq1 (zq2 (zq4 _))) rfl <| xav ?_
         refine xvz Tryz.func3 rfl (vs:=[.bool (true)]) (fun h_ H_=>⟨.bool (true),_,rfl,rfl,rfl⟩) (v:=.bool (true)) rfl ?_
         exact fun h_ H_=>⟨rfl,H_.kept⟩
       ·
        refine xiw 21 [[],[0],[],[2],[2,3],[0,1,2,3,4],[0,1,2,3,4],[0,1,2,3,4,5,6],[0,1,2,3,4,5,6],[0,1,2,3,4,5,6,8],[0,1,2,3,4,5,6,8,9],[0,1,2,3,4,5,6,8,9],[0,1,2,3,4,5,6,7,8,9,11],[0,1,2,3,4,5,6,7,8,9,10,11,12],[],[],[15],[14,15,16],[14,15,16,17],[0,1,2,3,4,5,6,7,8,9,10,11,12],[0,1,2,3,4,5,6,7,8,9,10,11,12,19],[0,1,2,3,4,5,6,7,8,9,10,11,12,14,15,16,17,18,19,20],[]] mixed (by kernel_rfl) (Nat.le_of_ble_eq_true rfl) ?_
        refine wo (xbz ysj rfl (a':=⟨b2,0,none⟩) rfl) ?_
        refine xej mn (fun h_ H_=>xbj H_ tA3 rfl (i:=0) rfl (v:=.int .i64 (x)) rfl) (tm':=zq1 (zq4 (zq8 (zq16 (zq32 (zq32 (zq32 (zq32 (zq32 (zq32 (zq32 []))))))))))) rfl ?_
        refine wo (xaz (v:=sv ((writeB TS).1)) rfl) <| wt (xjx (l:=(writeB TS).1) Tryz.underlying9 rfl) (tm':=zq1 (zq4 (zq8 (zq16 (zq32 (zq32 (zq32 (zq32 (zq32 (zq32 (zq32 []))))))))))) rfl ?_
        refine wo (xlq rfl rfl (wr (by omega))) ?_
        refine xpq mn (first:=[]) (cap:=[]) rfl rfl fC8 (fun h_ H_=>(c8 .lone _ (x) (0) (((((writeB TS).1).length:Nat):Int)-1)).mono fun v_ h2_ ⟨e_,k_⟩=>⟨e_,H_.call k_⟩) (tm':=zq1 (zq4 (zq8 (zq16 (zq32 (zq32 (zq32 (zq32 (zq32 (zq32 (zq32 []))))))))))) rfl ?_
        refine wo (xgw rfl) <| wt (xaz (v:=.bool (!(decide (0≤x∧x≤((((writeB TS).1).length:Nat):Int)-1)))) rfl) (tm':=zq1 (zq4 (zq8 (zq16 (zq32 (zq32 (zq32 (zq32 (zq32 (zq32 (zq32 []))))))))))) rfl ?_
        refine xej (ms rfl rfl (xfz (dtt cc104))) (fun h_ H_=>xbz zak rfl (a':=⟨b2,1,none⟩) rfl) rfl ?_
        refine xej (ms rfl rfl (xfz (dtt cc104))) (fun h_ H_=>xbj H_ tA3 rfl (i:=0) rfl (v:=.int .i64 (y)) rfl) (tm':=zq1 (zq4 (zq8 (zq16 (zq32 (zq32 (zq32 (zq32 (zq32 (zq32 (zq32 []))))))))))) rfl ?_
        refine xpq (ms rfl rfl (xfz (dtt cc104))) (first:=[]) (cap:=[]) rfl rfl fC8 (fun h_ H_=>(c8 .lone _ (y) (0) (255)).mono fun v_ h2_ ⟨e_,k_⟩=>⟨e_,H_.call k_⟩) rfl ?_
        refine xej (ms rfl rfl (xfz (dtt cc104))) (fun h_ H_=>xgw rfl) (tm':=zq1 (zq4 (zq8 (zq16 (zq32 (zq32 (zq32 (zq32 (zq32 (zq32 (zq32 []))))))))))) rfl ?_
        refine wo (xdw rfl (xfz (dtt cc104)) (v:=.bool (!(decide (0≤y∧y≤255)))) rfl) <| wt (xaz (v:=.bool (!(decide (0≤y∧y≤255)))) rfl) (tm':=zq1 (zq4 (zq8 (zq16 (zq32 (zq32 (zq32 (zq32 (zq32 (zq32 (zq32 []))))))))))) rfl <| wp (mo rfl rfl (xgx (dff cc105))) <| xkv (mo rfl rfl (xgx (dff cc105))) (tm':=zq1 (zq4 (zq8 (zq16 (zq32 (zq32 (zq32 (zq32 (zq32 (zq32 (zq32 []))))))))))) rfl <| wp (mo rfl rfl (xgx (dff cc105))) <| xkv (mo rfl rfl (xgx (dff cc105))) (tm':=zq1 (zq4 (zq8 (zq16 (zq32 (zq32 (zq32 (zq32 (zq32 (zq32 (zq32 []))))))))))) rfl ?_
        refine wp (mo rfl rfl (xgx (dff cc105))) <| xkv (mo rfl rfl (xgx (dff cc105))) (tm':=zq1 (zq4 (zq8 (zq16 (zq32 (zq32 (zq32 (zq32 (zq32 (zq32 (zq32 []))))))))))) rfl <| wp (mo rfl rfl (xgx (dff cc105))) ?_
        refine xmk rfl ?_
        refine rp (mo rfl rfl (xgx (dff cc105))) <| ro (xdz rfl (xgx (dff cc105)) (v:=.bool (true)) rfl) <| xav <| xbv rfl rfl <| fsr ?_
        refine xdj mn (first:=[]) (cap:=[]) rfl rfl fC7 (fun h_ H_=>c7 _ (htab.keep H_.kept)) (tm':=zq1 (zq4 (zq8 (zq16 (zq32 (zq32 (zq32 (zq32 (zq32 (zq32 (zq32 []))))))))))) rfl ?_
        refine ro (xax (v:=.bool (true)) rfl) <| xav ?_
        refine xvz Tryz.func3 rfl (vs:=[.bool (true)]) (fun h_ H_=>⟨.bool (true),_,rfl,rfl,rfl⟩) (v:=.bool (true)) rfl ?_
        exact fun h_ H_=>⟨rfl,H_.kept⟩
      ·
       refine xiw 21 [[],[0],[],[2],[2,3],[0,1,2,3,4],[0,1,2,3,4],[0,1,2,3,4,5,6],[0,1,2,3,4,5,6],[0,1,2,3,4,5,6,8],[0,1,2,3,4,5,6,8,9],[0,1,2,3,4,5,6,8,9],[0,1,2,3,4,5,6,7,8,9,11],[0,1,2,3,4,5,6,7,8,9,10,11,12],[],[],[15],[14,15,16],[14,15,16,17],[0,1,2,3,4,5,6,7,8,9,10,11,12],[0,1,2,3,4,5,6,7,8,9,10,11,12,19],[0,1,2,3,4,5,6,7,8,9,10,11,12,14,15,16,17,18,19,20],[]] mixed (by kernel_rfl) (Nat.le_of_ble_eq_true rfl) ?_
       refine wt (xbz ysj rfl (a':=⟨b2,0,none⟩) rfl) (tm':=zq1 (zq4 (zq8 (zq16 (zq32 (zq32 (zq32 (zq32 (zq32 (zq32 (zq32 []))))))))))) rfl <| wd (fun h_ H_=>xbj H_ tA3 rfl (i:=0) rfl (v:=.int .i64 (x)) rfl) <| wt (xaz (v:=sv ((writeB TS).1)) rfl) (tm':=zq1 (zq4 (zq8 (zq16 (zq32 (zq32 (zq32 (zq32 (zq32 (zq32 (zq32 []))))))))))) rfl <| wo (xjx (l:=(writeB TS).1) Tryz.underlying9 rfl) ?_
       refine wt (xlq rfl rfl (wr (by omega))) (tm':=zq1 (zq4 (zq8 (zq16 (zq32 (zq32 (zq32 (zq32 (zq32 (zq32 (zq32 []))))))))))) rfl ?_
       refine xpq mn (first:=[]) (cap:=[]) rfl rfl fC8 (fun h_ H_=>(c8 .lone _ (x) (0) (((((writeB TS).1).length:Nat):Int)-1)).mono fun v_ h2_ ⟨e_,k_⟩=>⟨e_,H_.call k_⟩) rfl ?_
       refine wt (xgw rfl) (tm':=zq1 (zq4 (zq8 (zq16 (zq32 (zq32 (zq32 (zq32 (zq32 (zq32 (zq32 []))))))))))) rfl <| wo (xaz (v:=.bool (!(decide (0≤x∧x≤((((writeB TS).1).length:Nat):Int)-1)))) rfl) <| xkv (mo rfl rfl (xgx (dff cc104))) (tm':=zq1 (zq4 (zq8 (zq16 (zq32 (zq32 (zq32 (zq32 (zq32 (zq32 (zq32 []))))))))))) rfl <| wp (mo rfl rfl (xgx (dff cc104))) <| xkv (mo rfl rfl (xgx (dff cc104))) (tm':=zq1 (zq4 (zq8 (zq16 (zq32 (zq32 (zq32 (zq32 (zq32 (zq32 (zq32 []))))))))))) rfl <| wp (mo rfl rfl (xgx (dff cc104))) ?_
       refine wt (xdz rfl (xgx (dff cc104)) (v:=.bool (true)) rfl) (tm':=zq1 (zq4 (zq8 (zq16 (zq32 (zq32 (zq32 (zq32 (zq32 (zq32 (zq32 []))))))))))) rfl <| wo (xaz (v:=.bool (true)) rfl) <| xkv (mo rfl rfl rfl) (tm':=zq1 (zq4 (zq8 (zq16 (zq32 (zq32 (zq32 (zq32 (zq32 (zq32 (zq32 []))))))))))) rfl <| wp (mo rfl rfl rfl) <| xkv (mo rfl rfl rfl) (tm':=zq1 (zq4 (zq8 (zq16 (zq32 (zq32 (zq32 (zq32 (zq32 (zq32 (zq32 []))))))))))) rfl <| wp (mo rfl rfl rfl) ?_
       refine xkv (mo rfl rfl rfl) (tm':=zq1 (zq4 (zq8 (zq16 (zq32 (zq32 (zq32 (zq32 (zq32 (zq32 (zq32 []))))))))))) rfl <| wp (mo rfl rfl rfl) <| xkv (mo rfl rfl rfl) (tm':=zq1 (zq4 (zq8 (zq16 (zq32 (zq32 (zq32 (zq32 (zq32 (zq32 (zq32 []))))))))))) rfl ?_
       refine xmk rfl ?_
       refine rp (mo rfl rfl rfl) <| rt (xdz rfl rfl (v:=.bool (true)) rfl) (tm':=zq1 (zq4 (zq8 (zq16 (zq32 (zq32 (zq32 (zq32 (zq32 (zq32 (zq32 []))))))))))) rfl <| xav <| xbv rfl rfl <| fsr ?_
       refine xdj mn (first:=[]) (cap:=[]) rfl rfl fC7 (fun h_ H_=>c7 _ (htab.keep H_.kept)) rfl ?_
       refine ro (xax (v:=.bool (true)) rfl) <| xav ?_
       refine xvz Tryz.func3 rfl (vs:=[.bool (true)]) (fun h_ H_=>⟨.bool (true),_,rfl,rfl,rfl⟩) (v:=.bool (true)) rfl ?_
       exact fun h_ H_=>⟨rfl,H_.kept⟩
end Go.Proofs.YtphalmjpbnffcaaGreatDoor
namespace Go.Proofs.YtphalmjpbnffcaaGreatDoor
open Go.X Go.X.Kn Go.X.Cent Go.Conc Go.RowKit Go.ChangeShapes Go.WideShapes Go.ChangeAt Go.Joins
set_option maxRecDepth 100000

theorem whq (os:Os) (started:os.Started) (H:Type) (enc:TypeId × Value→H):
    ReturnsInHanded {} Tryz.checked os 3 .any (fun w args=>(Rows.topKeptSpec.pre enc Tryz.prog Tryz.f3 Rows.topKeptRow.domain false w args∧laidMetH Tryz.prog Rows.topKeptRow.laid w)∧sizedMet enc Tryz.prog Tryz.f3 (OpenSpec.ofChange Rows.topKeptSpec) false w args) (Rows.topKeptSpec.post enc Tryz.prog Tryz.f3 false true false false):=by
  refine returnsInHanded_of_change_and (C:=Tryz.checked) (X:=fun w _=>laidMetH Tryz.prog Rows.topKeptRow.laid w) (fun _ _ _ hh h=>h.of_heap hh) pOwn started (by kernel_rfl) Tryz.func3
    (ChangeSpec.witness_shaped (enc:=enc) (C:=Tryz.checked) (os:=os) (X:=fun w _=>laidMetH Tryz.prog Rows.topKeptRow.laid w) false (laidW os) #[.agg #[.int .i64 0,.int .i64 0,.slice none 0 0,.slice none 0 0],.slice none 0 0,.agg #[.int .i64 0,.int .i64 0]] 8 (World.laidAll_os _ _ _)
      (World.shaped_of_ZipB (by kernel_rfl) (by kernel_rfl)) (by kernel_rfl) (by kernel_rfl) (by kernel_rfl) (zpj os _)) ?_
  intro W base args ds gs before hval0 hW _ _ hL _
  have hval: ∀ (j:Nat) t v,Tryz.f3.params[j]?=some t→args[j]?=some v→Value.okWide Tryz.prog W .any base t v:=hval0
  have hW2:=hW
  obtain ⟨p,q,hA0,hV,rfl,_,_⟩:=hW2
  have hA:DataW.TrodAll enc Tryz.prog W 0 (fun _=>true) true Tryz.f3.params.toList args.toList ds p:=hA0
  rw [Tryz.params3] at hA hval
  obtain ⟨v0,v1,v2,d0,d1,d2,p0,p1,p2,rfl,rfl,_,h0,h1,h2⟩:=trodAll_three hA
  obtain ⟨rfl,rfl⟩:=trodVars_none hV
  obtain ⟨a,ca,A,C,b,cb,k,rfl,hl,B⟩:=zoj (hval 0 25 v0 rfl rfl) h0
  obtain ⟨e1,n1,ce,ns,rfl,hl1,S⟩:=zoz (hval 1 26 v1 rfl rfl) h1
  obtain ⟨x,y,rfl,hx,hy⟩:=zhw (hval 2 28 v2 rfl rfl) h2
  refine (ykz (e3 W.heap (pW W) (wjv W) (yxq hL) a ca A C b cb k B hl e1 n1 ce ns S hl1 x y hx hy)).mono fun e W2 ⟨v,he,⟨hv,hk_⟩,cl⟩=>⟨v,he,?_⟩
  subst hv
  exact zxw wlv rfl (fun t ht=>by rw [Tryz.params3] at ht;revert t;decide +kernel) rfl Tryz.underlying4 hW rfl (waq hk_ cl)

theorem topKeptRowHolds:Rows.TopKeptSaid:=
  OpenClaim.holds_of_wide 3 Tryz.f3 rfl rfl rfl rfl rfl rfl rfl ⟨rfl,rfl,rfl,rfl,rfl⟩ rfl rfl rfl rfl rfl (by kernel_rfl) Tryz.func3 (by kernel_rfl)
    (of_decide_eq_true (by kernel_rfl)) (by unfold Func.isWrapper;first | (rw [if_pos (by decide +kernel)];kernel_rfl) | (rw [if_neg (by decide +kernel)];exact ⟨rfl,rfl⟩))
    (fun os started H enc _=>whq os started H enc)

theorem topKeptHolds:Rows.TopKeptCardSaid:=
  Claim7.holds_tied_plain_at .later [] [.data, .data, .data, .data, .pinned] true (true, "f82cd22c945b694a24787d0422c3a62aaddf7f2684070c509961c2220b6bfd7b") false topKeptRowHolds (fun _ h => by cases h) (by kernel_rfl) (fun _ h => by cases h) topKept_row_tie rfl ⟨rfl, rfl⟩ (by kernel_rfl) rfl
    (fun f fn hf hfn=>by
      obtain rfl : f = 3 := Option.some.inj ((show Tryz.prog.funcNamed "steening/steeningtop.TopKept" = some 3 by kernel_rfl).symm.trans hf) |>.symm
      obtain rfl:fn= Tryz.f3:=(Option.some.inj (Tryz.func3.symm.trans hfn)).symm
      exact ⟨by kernel_rfl,fun j t ht=>by
        rw [Tryz.params3] at ht
        have hm:t∈[25,26,28]:=by simpa using Array.mem_of_getElem? ht
        have hall:([25,26,28].all fun u=>!Tryz.prog.wantsStandIn u)=true:=by kernel_rfl
        exact (show Tryz.prog.wantsStandIn t=false by simpa using List.all_eq_true.1 hall t hm)⟩)
    (by kernel_rfl)

#print axioms topKeptHolds
end Go.Proofs.YtphalmjpbnffcaaGreatDoor
