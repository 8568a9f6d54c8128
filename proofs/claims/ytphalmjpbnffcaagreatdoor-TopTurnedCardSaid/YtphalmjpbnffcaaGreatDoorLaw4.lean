/-
  TopTurned, for every input: the law returns true and leaves its arguments as they were. The row, and the tied card.
-/
import Derived.Test.YtphalmjpbnffcaaGreatDoorD1
import Derived.Test.YtphalmjpbnffcaaGreatDoorD2
import Derived.Test.YtphalmjpbnffcaaGreatDoorD5
import Derived.Test.YtphalmjpbnffcaaGreatDoorCards
import Derived.Test.YtphalmjpbnffcaaGreatDoorTie
namespace Go.Proofs.YtphalmjpbnffcaaGreatDoor
open Go.X Go.X.Kn Go.X.Cent Go.X.Hr Go.Conc
set_option maxRecDepth 10000
set_option synthInstance.maxSize 2000

set_option maxHeartbeats 2000000
theorem c4a (h:Heap) (p:PHeap) (hp:Per p h) (htab:Tab h) (a:Option Addr) (ca:Nat) (b:Option Addr) (cb:Nat) (r:Rst) (R:RstP p a r.room.length b r.sts.length r) (hl:r.room.length≤9223372036854775807∧r.sts.length≤9223372036854775807) (hne:0≤(bestF r.sts r.room).2):EntersL Tryz.prog 4 #[.agg #[.slice a r.room.length ca,.slice b r.sts.length cb]] h fun v h'=>v= .bool true∧Keep h h':=by
 refine ydj (Φ:=fun h_=>St h [] p h_ []) Tryz.func4 rfl (tm:=zq1 (zq2 (zq16 (zq32 (zq32 (zq32 (zq32 (zq32 (zq32 []))))))))) rfl ?_ (St.start h _ hp)
 intro cs
 refine fsr ?_
 refine xjq mn (v:=.agg #[.slice a r.room.length ca,.slice b r.sts.length cb]) rfl fun b1=>xcz (L':=[(b1,.cells #[.slice a r.room.length ca,.slice b r.sts.length cb] 51 (0,0))]) rfl ?_
 refine ro (xaq (v:=.bool (false)) rfl) <| ren <| fsr ?_
 refine xaj mn (fun h_ H_=>xbk H_ tA51 tS51 rfl (i:=0) rfl (vs:=[.slice a r.room.length ca,.slice b r.sts.length cb]) rfl rfl) (tm':=zq1 (zq4 (zq8 (zq16 _)))) rfl ?_
 refine xcz (L':=([(b1,.cells #[.slice a r.room.length ca,.slice b r.sts.length cb] 51 (0,0))]:Pcs)++[]) rfl ?_
 refine xgv mn (first:=[]) (cap:=[]) rfl rfl fC17 (R:=fun v_ h_=>∃ x2:Bool,v_= .bool (x2)∧(x2=false→r.room.length≤40∧r.sts.length≤40)∧St h [] p h_ (([(b1,.cells #[.slice a r.room.length ca,.slice b r.sts.length cb] 51 (0,0))]:Pcs)++([]++[]))) (fun h_ H_=>((show CallsX _ .lone 17 _ _ (fun v h'=>∃ x:Bool,v= .bool x∧(x=false→r.room.length≤40∧r.sts.length≤40)∧New h_ h' []) from (c17 .lone _ _ H_.pe _ _ _ _ _ (show RstP _ _ _ _ _ r from ⟨R.r,R.s⟩) hl).mono fun v h' ⟨⟨x,e,z⟩,k⟩=>⟨x,e,z,⟨k,nofun,.nil⟩⟩)).mono fun v_ h2_ ⟨x2,e_,fx3,N_⟩=>⟨x2,e_,fx3,H_.callNA N_⟩) fun v_=>?_
 refine xgx fun x2=>xez fun ev_=>xez fun fx3=>?_
 have ev_:=ev_.symm;subst ev_
 refine xcz (L':=[(b1,.cells #[.slice a r.room.length ca,.slice b r.sts.length cb] 51 (0,0))]) (by simp) ?_
 refine ro (xax (v:=.bool (x2)) rfl) ?_
 rcases xtx (x2) with cc4 | cc4
 ·
  refine xck (mo rfl rfl cc4) (tm':=zq32 _) rfl <| rp (mo rfl rfl cc4) <| rp (mo rfl rfl cc4) <| rt (xbw rfl cc4 (v:=.bool (true)) rfl) (tm':=zq1 (zq2 (zq32 _))) rfl <| xak <| xcx rfl rfl ?_
  refine fsr ?_
  refine xcw mn (first:=[]) (cap:=[]) rfl rfl fC19 (fun h_ H_=>c19 _ (htab.keep H_.kept)) rfl ?_
  refine ro (xaq (v:=.bool (true)) rfl) <| xak ?_
  refine yfx Tryz.func4 rfl (vs:=[.bool (true)]) (fun h_ H_=>⟨.bool (true),_,rfl,rfl,rfl⟩) (v:=.bool (true)) rfl ?_
  exact fun h_ H_=>⟨rfl,H_.kept⟩
 ·
  have hn:=fx3 cc4
  refine xaj (ms rfl rfl cc4) (fun h_ H_=>xbk H_ tA51 tS51 rfl (i:=0) rfl (vs:=[.slice a r.room.length ca,.slice b r.sts.length cb]) rfl rfl) (tm':=zq32 _) rfl ?_
  refine xcw (ms rfl rfl cc4) (first:=[]) (cap:=[]) rfl rfl fC18 (fun h_ H_=>c18 .lone _ _ H_.pe _ _ _ _ r (show RstP _ _ _ _ _ r from ⟨R.r,R.s⟩) hn) rfl ?_
  refine xaj (ms rfl rfl cc4) (fun h_ H_=>xgw rfl rfl) rfl ?_
  refine rt (xdq rfl cc4 (v:=.bool (decide (chkH r≠0))) rfl) (tm':=zq1 (zq2 (zq32 _))) rfl <| xak ?_
  by_cases cc5:chkH r≠0
  ·
   refine xcx rfl (dtt cc5) <| fsr ?_
   refine xcw mn (first:=[]) (cap:=[]) rfl rfl fC19 (fun h_ H_=>c19 _ (htab.keep H_.kept)) rfl ?_
   refine ro (xaq (v:=.bool (true)) rfl) <| xak ?_
   refine yfx Tryz.func4 rfl (vs:=[.bool (true)]) (fun h_ H_=>⟨.bool (true),_,rfl,rfl,rfl⟩) (v:=.bool (true)) rfl ?_
   exact fun h_ H_=>⟨rfl,H_.kept⟩
  ·
   have hB:rosB r:=yvv (by omega)
   have hs6_:=hB.2.2.1
   have hd_:=wdj hB hne
   have hgood_:=ziv hB hne
   have hcost_:=zjq hB hne
   have hmin_:=wlv hB hne
   refine xcv rfl (dff cc5) <| xdz <| fsr ?_
   refine xaj mn (fun h_ H_=>xbk H_ tA51 tS51 rfl (i:=0) rfl (vs:=[.slice a r.room.length ca,.slice b r.sts.length cb]) rfl rfl) (tm':=zq2 (zq4 (zq32 _))) rfl ?_
   refine xcz (L':=([(b1,.cells #[.slice a r.room.length ca,.slice b r.sts.length cb] 51 (0,0))]:Pcs)++[]) rfl ?_
   refine xgv mn (first:=[]) (cap:=[]) rfl rfl fC20 (R:=fun v_ h_=>∃ w6:Value,∃ X7:Pcs,v_= .tuple #[w6,.int .i64 0]∧(OwnS 3 1 w6 (ics (rosF r.sts r.room)) X7)∧St h [] p h_ (([(b1,.cells #[.slice a r.room.length ca,.slice b r.sts.length cb] 51 (0,0))]:Pcs)++(X7++[]))) (fun h_ H_=>(c20a .lone _ _ H_.pe _ _ _ _ _ (show RstP _ _ _ _ _ r from ⟨R.r,R.s⟩) hn hB hne).mono fun v_ h2_ ⟨w6,X7,e_,o8,N_⟩=>⟨w6,X7,e_,o8,H_.callNA N_⟩) fun v_=>?_
   refine xgx fun w6=>xgx fun X7=>xez fun ev_=>xez fun o8=>?_
   have ev_:=ev_.symm;subst ev_
   refine xcz (L':=([(b1,.cells #[.slice a r.room.length ca,.slice b r.sts.length cb] 51 (0,0))]:Pcs)++(X7++[])) rfl ?_
   refine ro (xax (v:=.tuple #[w6,.int .i64 0]) rfl) <| rt (xdw rfl (v:=w6) rfl) (tm':=zq8 (zq32 _)) rfl <| ro (xdw rfl (v:=.int .i64 0) rfl) <| ro (xaq (v:=w6) rfl) <| rt (xaq (v:=.int .i64 0) rfl) (tm':=zq1 (zq4 _)) rfl <| ren ?_
   refine xav <| rd (fun h_ H_=>xbk H_ tA51 tS51 rfl (i:=0) rfl (vs:=[.slice a r.room.length ca,.slice b r.sts.length cb]) rfl rfl) ?_
   refine xcw mn (first:=[]) (cap:=[]) rfl rfl fC21 (fun h_ H_=>c21a .lone _ _ H_.pe _ _ _ _ _ (show RstP _ _ _ _ _ r from ⟨R.r,R.s⟩) hn hB hne) rfl ?_
   refine rt (xax (v:=.tuple #[.int .i64 ((bestF r.sts r.room).1),.int .i64 0]) rfl) (tm':=zq2 (zq8 (zq32 _))) rfl <| ro (xdw rfl (v:=.int .i64 ((bestF r.sts r.room).1)) rfl) <| ro (xdw rfl (v:=.int .i64 0) rfl) <| rt (xaq (v:=.int .i64 ((bestF r.sts r.room).1)) rfl) (tm':=zq2 (zq4 _)) rfl <| ro (xaq (v:=.int .i64 0) rfl) <| ren ?_
   refine xbj ?_
   obtain ⟨l,hl_⟩: ∃ l,l=rosF r.sts r.room:=⟨_,rfl⟩
   have oL_:OwnS 3 1 w6 (ics l) X7:=o8.as (congrArg ics hl_.symm)
   have hd:DigL l:=hl_.symm ▸ hd_
   have hgood:goodP r l:=hl_.symm ▸ hgood_
   have hcost:costK r l r.sts.length=(bestF r.sts r.room).1:=hl_.symm ▸ hcost_
   have hmin: ∀ l2:List Int,goodP r l2→costK r l r.sts.length≤costK r l2 r.sts.length:=hl_.symm ▸ hmin_
   have hll:l.length=r.sts.length:=by rw [hl_];exact xpj _ _
   have hchk:=yhv hd
   have hrl:=xyw l
   have hwl:=zbj hchk
   have hr_: ∀ {i:Nat},i<r.sts.length→(0≤(i:Int)∧(i:Int)≤9)∧0≤l.getD i 0∧l.getD i 0≤9:=fun h=>hd.row (by omega)
   have htxt_:=(xtv hchk).2
   have htl: ∀ i,i<(rows l).length→((rows l).getD i []).length≤2 ^ 60:=fun i hi=>by have z_:=(htxt_ _ (xmw (d:=[]) (i:=i) (by omega))).1;omega
   refine xtj (A:=([(b1,.cells #[.slice a r.room.length ca,.slice b r.sts.length cb] 51 (0,0))]:Pcs)) oL_ ((xhj _).trans hll) fun p9 a10 cp11 le12 ev_ D13=>?_
   subst ev_
   refine xrq (L':=[(b1,.cells #[.slice a r.room.length ca,.slice b r.sts.length cb] 51 (0,0))]) rfl ?_
   refine xav <| ro (xax (v:=.int .i64 0) rfl) <| rt (xax (v:=.int .i64 0) rfl) (tm':=zq16 (zq32 _)) rfl <| ro (xgw rfl rfl) <| ro (xax (v:=.bool (decide ((0:Int)≠0))) rfl) ?_
   refine xaj (ms rfl rfl (by decide)) (fun h_ H_=>xax (v:=.int .i64 0) rfl) (tm':=zq1 (zq2 (zq16 (zq32 _)))) rfl ?_
   refine xaj (ms rfl rfl (by decide)) (fun h_ H_=>xgw rfl rfl) rfl ?_
   refine xaj (ms rfl rfl (by decide)) (fun h_ H_=>xax (v:=.bool (decide ((0:Int)≠0))) rfl) rfl ?_
   refine xck (mo rfl rfl (by decide)) (tm':=zq2 (zq4 (zq16 (zq32 _)))) rfl ?_
   refine rp (mo rfl rfl (by decide)) ?_
   refine xaj (ms rfl rfl (by decide)) (fun h_ H_=>xdq rfl (by decide) (v:=.bool (false)) rfl) rfl ?_
   refine rt (xdq rfl (by decide) (v:=.bool (false)) rfl) (tm':=zq1 (zq8 (zq16 (zq32 _)))) rfl ?_
   refine ro (xax (v:=.bool (false)) rfl) ?_
   refine xaj (ms rfl rfl rfl) (fun h_ H_=>xax (v:=.int .i64 0) rfl) rfl ?_
   refine xaj (ms rfl rfl rfl) (fun h_ H_=>xmj rfl rfl) (tm':=zq4 (zq8 (zq16 (zq32 _)))) rfl ?_
   refine xaj (ms rfl rfl rfl) (fun h_ H_=>xax (v:=.bool (decide ((0:Int)=0))) rfl) rfl ?_
   refine xaj (ms rfl rfl (by decide)) (fun h_ H_=>xbk H_ tA51 tS51 rfl (i:=0) rfl (vs:=[.slice a r.room.length ca,.slice b r.sts.length cb]) rfl rfl) rfl ?_
   refine xaj (ms rfl rfl (by decide)) (fun h_ H_=>xax (v:=.slice a10 r.sts.length cp11) rfl) (tm':=zq1 (zq2 (zq4 (zq8 (zq16 (zq32 _)))))) rfl ?_
   refine xcw (ms rfl rfl (by decide)) (first:=[]) (cap:=[]) rfl rfl fC22 (fun h_ H_=>c22 .lone _ _ H_.pe _ _ _ _ r (show RstP _ _ _ _ _ r from ⟨(R.r.mono le12),(R.s.mono le12)⟩) hn _ _ _ _ (show Ints _ _ _ l from D13) (by omega) hB) rfl ?_
   refine xaj (ms rfl rfl (by decide)) (fun h_ H_=>xfw rfl) rfl ?_
   refine xaj (ms rfl rfl rfl) (fun h_ H_=>xbw rfl (by decide) (v:=.bool (!(decide (goodP r l)))) rfl) (tm':=zq2 (zq32 (zq32 _))) rfl ?_
   refine ro (xdq rfl rfl (v:=.bool (!(decide (goodP r l)))) rfl) <| xak <| xcv rfl (xej (decide_eq_true hgood)) <| xdz <| xbj <| fsr ?_
   refine ro (xax (v:=.int .i64 0) rfl) <| rt (xgw rfl rfl) (tm':=zq1 (zq4 (zq32 (zq32 _)))) rfl <| xak ?_
   refine xcv rfl (by decide) ?_
   refine xdz <| fsr <| ro (xaq (v:=.slice none 0 0) rfl) <| ren <| xav <| ro (xaq (v:=sv ([61,48,48,48,48]:List UInt8)) rfl) ?_
   refine ren <| fsr <| rt (xaq (v:=.int .i64 0) rfl) (tm':=zq2 (zq8 _)) rfl <| xak <| xeq ?_
   refine xhk (m₀:=r.sts.length-0) (fun m_ tm_ h_=>∃ (i:Nat) (w_:Value) (X1_:Pcs) (fl_:By),m_=r.sts.length-i∧(∃ y14:Nat→Value,tm_=(.agg #[.slice a r.room.length ca,.slice b r.sts.length cb]::.pointer (some ⟨b1,0,none⟩)::(y14 2)::.slice a10 r.sts.length cp11::.int .i64 0::.int .i64 ((bestF r.sts r.room).1)::.int .i64 0::w_::sv fl_::.int .i64 (((i:Nat):Int))::(y14 10)::(y14 11)::(y14 12)::undef::undef::undef::zu4 (zu8 (.agg #[.slice a r.room.length ca,.slice b r.sts.length cb]::.bool (x2)::.bool (x2)::.agg #[.slice a r.room.length ca,.slice b r.sts.length cb]::.int .i64 (chkH r)::.bool (decide (chkH r≠0))::.bool (decide (chkH r≠0))::undef::.tuple #[.slice a10 r.sts.length cp11,.int .i64 0]::.agg #[.slice a r.room.length ca,.slice b r.sts.length cb]::.tuple #[.slice a10 r.sts.length cp11,.int .i64 0]::.slice a10 r.sts.length cp11::.int .i64 0::.tuple #[.int .i64 ((bestF r.sts r.room).1),.int .i64 0]::.agg #[.slice a r.room.length ca,.slice b r.sts.length cb]::.tuple #[.int .i64 ((bestF r.sts r.room).1),.int .i64 0]::.int .i64 ((bestF r.sts r.room).1)::.int .i64 0::.int .i64 0::.int .i64 0::.bool (decide ((0:Int)≠0))::.bool (decide ((0:Int)≠0))::.int .i64 0::.bool (decide ((0:Int)≠0))::.bool (decide ((0:Int)≠0))::undef::undef::.bool (false)::.bool (false)::.bool (false)::.int .i64 0::.bool (decide ((0:Int)=0))::.bool (decide ((0:Int)=0))::.agg #[.slice a r.room.length ca,.slice b r.sts.length cb]::.slice a10 r.sts.length cp11::.bool (decide (goodP r l))::.bool (!(decide (goodP r l)))::.bool (!(decide (goodP r l)))::.bool (!(decide (goodP r l)))::.int .i64 0::.bool (decide ((0:Int)≠0))::undef::(y14 70)::(y14 71)::(y14 72)::(y14 73)::(y14 74)::(y14 75)::(y14 76)::(y14 77)::(y14 78)::(y14 79)::(y14 80)::(y14 81)::(y14 82)::(y14 83)::(y14 84)::(y14 85)::(y14 86)::(y14 87)::(y14 88)::(y14 89)::(y14 90)::(y14 91)::(y14 92)::(y14 93)::(y14 94)::(y14 95)::(y14 96)::(y14 97)::(y14 98)::(y14 99)::(y14 100)::(y14 101)::(y14 102)::zu4 (zu8 (zu16 (zu16 (zu16 (zu16 (zu16 (zu16 [])))))))))))∧(i≤r.sts.length)∧(OwnS 9 1 w_ (scs ((rows l).take i)) X1_)∧(fl_=fileB ((rows l).take i))∧St h [] p9 h_ (([(b1,.cells #[.slice a r.room.length ca,.slice b r.sts.length cb] 51 (0,0))]:Pcs)++(X1_++[]))) (fun h_ H_=>⟨0,(.slice none 0 0),[],([61,48,48,48,48]:List UInt8),rfl,(y_of rfl),Nat.zero_le _,(OwnS.empty _ _),(by rw [List.take_zero];exact file_nil.symm),H_⟩) ?_
   intro m_ tm_ IH15
   refine xhq fun i=>xhq fun w_=>xhq fun X1_=>xhq fun fl_=>xdj fun hm_=>xdj fun ht_=>xdj fun hi=>xdj fun o1_=>xdj fun hfl_=>?_
   subst hm_;obtain ⟨y14,ht_⟩:=ht_;subst ht_
   have hf_:fl_.length≤1379:=by rw [hfl_];exact ypv hd i
   have hf2_:=ypv hd (i+1)
   refine xbj <| fsr <| ro (xax (v:=.int .i64 (((i:Nat):Int))) rfl) <| ro (xax (v:=.slice a10 r.sts.length cp11) rfl) <| rt (xfj Tryz.underlying26 rfl) (tm':=zq1 (zq8 (zq32 (zq32 _)))) rfl <| ro (xfk rfl rfl) ?_
   refine xak ?_
   by_cases cc16:((i:Nat):Int)<((r.sts.length:Nat):Int)
   ·
    refine xcx rfl (dtt cc16) <| xdz <| xbj <| xeq <| xbj ?_
    refine xhw 8 [[],[0],[],[],[],[3,4],[3,4,5],[0,1,3,4,5,6],[],[]] mixed (by kernel_rfl) (Nat.le_of_ble_eq_true rfl) ?_
    refine wt (xax (v:=.int .i64 (((i:Nat):Int))) rfl) (tm':=zq1 (zq4 (zq8 (zq32 (zq32 _))))) rfl ?_
    refine xox mn (first:=[]) (cap:=[]) rfl rfl fC12 (fun h_ H_=>(c12 .lone _ (((i:Nat):Int)) (by first | exact (hr_ (by omega)).1 | exact (hr_ (by omega)).2)).mono fun v_ h2_ ⟨e_,k_⟩=>⟨e_,H_.call k_⟩) rfl ?_
    refine wt (xsq (l:=[mk (((i:Nat):Int))]) (m:=([32]:List UInt8)) rfl rfl (by first | (simp only [List.length_singleton];omega) | (simp only [List.length_append,List.length_singleton];omega))) (tm':=zq1 (zq2 (zq4 (zq8 (zq32 (zq32 _)))))) rfl ?_
    refine wo (xax (v:=.slice a10 r.sts.length cp11) rfl) <| wt (xax (v:=.int .i64 (((i:Nat):Int))) rfl) (tm':=zq1 (zq16 (zq32 (zq32 _)))) rfl ?_
    refine wo (xdx (i:=i) Tryz.underlying26 tS3 (xlx a10 r.sts.length cp11 ((show Ints _ _ _ l from D13).ne (by omega))) rfl (by omega)) ?_
    refine xfq mn (fun h_ H_=>xdk H_ tA3 rfl (v:=.int .i64 (l.getD i 0)) ((show Ints _ _ _ l from D13).get (by omega))) (tm':=zq1 (zq2 (zq16 (zq32 (zq32 _))))) rfl ?_
    refine xox mn (first:=[]) (cap:=[]) rfl rfl fC12 (fun h_ H_=>(c12 .lone _ (l.getD i 0) (by first | exact (hr_ (by omega)).1 | exact (hr_ (by omega)).2)).mono fun v_ h2_ ⟨e_,k_⟩=>⟨e_,H_.call k_⟩) rfl ?_
    refine xlq rfl ?_
    refine ro (xsq (l:=([mk (((i:Nat):Int))])++([32]:List UInt8)) (m:=[mk (l.getD i 0)]) rfl rfl (by first | (simp only [List.length_singleton];omega) | (simp only [List.length_append,List.length_singleton];omega))) ?_
    refine ro (xaq (v:=sv ((([mk (((i:Nat):Int))])++([32]:List UInt8))++([mk (l.getD i 0)]))) rfl) <| ren <| xav <| rt (xax (v:=w_) rfl) (tm':=zq2 (zq4 (zq16 (zq32 (zq32 _))))) rfl <| ro (xax (v:=sv ((([mk (((i:Nat):Int))])++([32]:List UInt8))++([mk (l.getD i 0)]))) rfl) ?_
    refine xhv ([(b1,.cells #[.slice a r.room.length ca,.slice b r.sts.length cb] 51 (0,0))]:Pcs) mn Tryz.underlying33 tS9 tZ9 (Nat.le_of_ble_eq_true rfl) (vs:=[(0,sv ((([mk (((i:Nat):Int))])++([32]:List UInt8))++([mk (l.getD i 0)])))]) rfl rfl (es:=[[sv ((([mk (((i:Nat):Int))])++([32]:List UInt8))++([mk (l.getD i 0)]))]]) rfl rfl rfl fun v17 X18 o19=>?_
    have o20:OwnS 9 1 v17 (scs ([(([mk (((i:Nat):Int))])++([32]:List UInt8))++([mk (l.getD i 0)])]:List By)) X18:=o19
    refine xjw (List.Perm.append_left _ (List.perm_append_comm_assoc _ _ _)) ?_
    refine xcz (L':=([(b1,.cells #[.slice a r.room.length ca,.slice b r.sts.length cb] 51 (0,0))]:Pcs)++(X1_++(X18++[]))) rfl ?_
    refine xkw ([(b1,.cells #[.slice a r.room.length ca,.slice b r.sts.length cb] 51 (0,0))]:Pcs) X1_ X18 mn Tryz.underlying33 tS9 tZ9 rfl tB9 Tryz.underlying33 rfl rfl o1_ o20 (ziz _) (by rw [xgq,List.length_take];show (_+1)*_≤_;omega) (by decide) fun v21 X22 o23=>?_
    have o24:OwnS 9 1 v21 (scs (((rows l).take i)++([(([mk (((i:Nat):Int))])++([32]:List UInt8))++([mk (l.getD i 0)])]:List By))) X22:=o23.as (ypk _ _)
    refine xfz (tm':=zq1 (zq8 (zq16 (zq32 (zq32 _))))) rfl ?_
    refine ro (xaq (v:=v21) rfl) <| ren <| xav <| ro (xax (v:=sv fl_) rfl) <| rt (xax (v:=sv ((([mk (((i:Nat):Int))])++([32]:List UInt8))++([mk (l.getD i 0)]))) rfl) (tm':=zq4 (zq8 (zq16 (zq32 (zq32 _))))) rfl ?_
    refine xcw mn (first:=[]) (cap:=[]) rfl rfl fC23 (fun h_ H_=>(show CallsX _ .lone 23 _ _ (fun v h'=>v= .tuple #[sv (fileB ((rows l).take (i+1))),.int .i64 0]∧Keep h_ h') from (c23 _ (htab.keep H_.kept) (fl_) ((([mk (((i:Nat):Int))])++([32]:List UInt8))++([mk (l.getD i 0)])) (by omega) (show 3≤_ from by decide)).mono fun v h' ⟨e_,k_⟩=>⟨by rw [e_,hfl_,wcw hd (i:=i) (by omega) (t:=(([mk (((i:Nat):Int))])++([32]:List UInt8))++([mk (l.getD i 0)])) rfl],k_⟩)) rfl ?_
    refine ro (xax (v:=.tuple #[sv (fileB ((rows l).take (i+1))),.int .i64 0]) rfl) <| rt (xdw rfl (v:=sv (fileB ((rows l).take (i+1)))) rfl) (tm':=zq2 (zq4 (zq8 (zq16 (zq32 (zq32 _)))))) rfl <| ro (xdw rfl (v:=.int .i64 0) rfl) <| ro (xaq (v:=sv (fileB ((rows l).take (i+1)))) rfl) <| rt (xaq (v:=.int .i64 0) rfl) (tm':=zq1 (zq4 (zq8 _))) rfl <| ren ?_
    refine fsr <| ro (xax (v:=.int .i64 0) rfl) <| ro (xgw rfl rfl) <| rt (xax (v:=.bool (decide ((0:Int)≠0))) rfl) (tm':=zq2 (zq32 (zq32 (zq32 _)))) rfl ?_
    refine xaj (ms rfl rfl (by decide)) (fun h_ H_=>xax (v:=sv (fileB ((rows l).take (i+1)))) rfl) rfl ?_
    refine xaj (ms rfl rfl (by decide)) (fun h_ H_=>xkz (l:=fileB ((rows l).take (i+1))) Tryz.underlying9 rfl) rfl ?_
    refine xaj (ms rfl rfl (by decide)) (fun h_ H_=>xjx rfl rfl) (tm':=zq1 (zq4 (zq32 (zq32 (zq32 _))))) rfl ?_
    refine ro (xdq rfl (by decide) (v:=.bool (decide (1400<(((fileB ((rows l).take (i+1))).length:Nat):Int)))) rfl) ?_
    refine xak ?_
    refine xcv rfl (decide_eq_false (by omega)) ?_
    refine xdz <| xav <| ro (xax (v:=sv (fileB ((rows l).take (i+1)))) rfl) <| rt (xaq (v:=sv (fileB ((rows l).take (i+1)))) rfl) (tm':=zq1 (zq8 _)) rfl <| xak <| xex ?_
    refine xav <| ro (xax (v:=.int .i64 (((i:Nat):Int))) rfl) ?_
    refine ro (xev rfl rfl (n:=((i+1:Nat):Int)) (wr (by omega))) ?_
    refine rt (xaq (v:=.int .i64 (((i+1:Nat):Int))) rfl) (tm':=zq2 (zq8 _)) rfl <| xak ?_
    exact fun h_ H_=>IH15 _ _ (by omega) h_ ⟨i+1,v21,X22,fileB ((rows l).take (i+1)),rfl,(y_of rfl),(by omega),(o24.as (congrArg scs (ztw (by omega)))),rfl,H_⟩
   ·
    refine xcv rfl (dff cc16) <| xgk rfl <| xbj ?_
    have oT_:OwnS 9 1 w_ (scs (rows l)) X1_:=o1_.as (congrArg scs (List.take_of_length_le (by omega)))
    refine xtj (A:=([(b1,.cells #[.slice a r.room.length ca,.slice b r.sts.length cb] 51 (0,0))]:Pcs)) oT_ ((xgq _).trans (hrl.trans hll)) fun p25 a26 cp27 le28 ev_ D29=>?_
    subst ev_
    refine xrq (L':=[(b1,.cells #[.slice a r.room.length ca,.slice b r.sts.length cb] 51 (0,0))]) rfl ?_
    refine xav ?_
    refine xcz (L':=([(b1,.cells #[.slice a r.room.length ca,.slice b r.sts.length cb] 51 (0,0))]:Pcs)++[]) rfl ?_
    refine xhv ([(b1,.cells #[.slice a r.room.length ca,.slice b r.sts.length cb] 51 (0,0))]:Pcs) mn Tryz.underlying33 tS9 tZ9 (Nat.le_of_ble_eq_true rfl) (vs:=[]) rfl rfl (es:=[]) rfl rfl rfl fun v30 X31 o32=>?_
    have o33:OwnS 9 1 v30 (scs ([]:List By)) X31:=o32
    refine ro (xax (v:=.slice a26 r.sts.length cp27) rfl) ?_
    refine yew ([(b1,.cells #[.slice a r.room.length ca,.slice b r.sts.length cb] 51 (0,0))]:Pcs) X31 mn Tryz.underlying33 tS9 tZ9 rfl tB9 Tryz.underlying33 rfl rfl o33 (show Strs _ _ _ (rows l) from D29) (ziz _) (by first | (rw [xgq];simp only [List.length_nil];omega) | (simp only [List.length_nil];omega)) (by decide) (by decide) fun v34 X35 o36=>?_
    have o37:OwnS 9 1 v34 (scs (rows l)) X35:=o36.as rfl
    refine xfz (tm':=zq1 (zq2 (zq8 (zq32 (zq32 (zq32 _)))))) rfl ?_
    refine yhw (A:=([(b1,.cells #[.slice a r.room.length ca,.slice b r.sts.length cb] 51 (0,0))]:Pcs)) o37 (xgq _) fun p38 a39 cp40 le41 ev_ D42=>?_
    subst ev_
    refine xcz (L':=[(b1,.cells #[.slice a r.room.length ca,.slice b r.sts.length cb] 51 (0,0))]) rfl ?_
    refine xcw mn (first:=[]) (cap:=[]) rfl rfl fC13 (fun h_ H_=>(show CallsX _ .lone 13 _ _ (fun v h'=>v= .tuple #[sv (writeB (rows l)).1,.int .i64 0]∧Keep h_ h') from (c13 _ _ H_.pe (htab.keep H_.kept) _ _ _ (rows l) (show Strs _ _ _ (rows l) from D42) (by omega) htl).mono fun v h' ⟨e_,k_⟩=>⟨by rw [e_,xsx hchk],k_⟩)) rfl ?_
    refine ro (xax (v:=.tuple #[sv ((writeB (rows l)).1),.int .i64 0]) rfl) <| rt (xdw rfl (v:=sv ((writeB (rows l)).1)) rfl) (tm':=zq1 (zq4 (zq8 (zq32 (zq32 (zq32 _)))))) rfl <| ro (xdw rfl (v:=.int .i64 0) rfl) <| ro (xaq (v:=sv ((writeB (rows l)).1)) rfl) <| rt (xaq (v:=.int .i64 0) rfl) (tm':=zq1 (zq2 (zq4 (zq8 _)))) rfl <| ren ?_
    refine xav <| ro (xax (v:=sv fl_) rfl) ?_
    refine xcz (L':=([(b1,.cells #[.slice a r.room.length ca,.slice b r.sts.length cb] 51 (0,0))]:Pcs)++[]) rfl ?_
    refine xgv mn (first:=[]) (cap:=[]) rfl rfl fC14 (R:=fun v_ h_=>∃ w43:Value,∃ X44:Pcs,v_= .tuple #[w43,.int .i64 0]∧(OwnS 9 1 w43 (scs (rows l)) X44)∧St h [] p38 h_ (([(b1,.cells #[.slice a r.room.length ca,.slice b r.sts.length cb] 51 (0,0))]:Pcs)++(X44++[]))) (fun h_ H_=>((show CallsX _ .lone 14 _ _ (fun v h'=>∃ w X,v= .tuple #[w,.int .i64 0]∧OwnS 9 1 w (scs (rows l)) X∧New h_ h' X) from (c14 _ (htab.keep H_.kept) (fl_) (by omega)).mono fun v h' ⟨w,X,e_,o_,n_⟩=>have z_:=(congrArg readB (hfl_.trans (xsv hd (by omega)))).trans (zpk hchk);⟨w,X,by rw [e_,z_],o_.as (by rw [z_]),n_⟩)).mono fun v_ h2_ ⟨w43,X44,e_,o45,N_⟩=>⟨w43,X44,e_,o45,H_.callNA N_⟩) fun v_=>?_
    refine xgx fun w43=>xgx fun X44=>xez fun ev_=>xez fun o45=>?_
    have ev_:=ev_.symm;subst ev_
    refine xcz (L':=([(b1,.cells #[.slice a r.room.length ca,.slice b r.sts.length cb] 51 (0,0))]:Pcs)++(X44++[])) rfl ?_
    refine rt (xax (v:=.tuple #[w43,.int .i64 0]) rfl) (tm':=zq1 (zq2 (zq4 (zq8 (zq32 (zq32 (zq32 _))))))) rfl <| ro (xdw rfl (v:=w43) rfl) <| ro (xdw rfl (v:=.int .i64 0) rfl) <| rt (xaq (v:=w43) rfl) (tm':=zq16 _) rfl <| ro (xaq (v:=.int .i64 0) rfl) <| ren ?_
    refine xbj ?_
    refine xtj (A:=([(b1,.cells #[.slice a r.room.length ca,.slice b r.sts.length cb] 51 (0,0))]:Pcs)) o45 ((xgq _).trans (hrl.trans hll)) fun p46 a47 cp48 le49 ev_ D50=>?_
    subst ev_
    refine xrq (L':=[(b1,.cells #[.slice a r.room.length ca,.slice b r.sts.length cb] 51 (0,0))]) rfl ?_
    refine xav <| ro (xax (v:=.int .i64 0) rfl) <| rt (xgw rfl rfl) (tm':=zq1 (zq4 (zq16 (zq32 (zq32 (zq32 _)))))) rfl <| ro (xax (v:=.bool (decide ((0:Int)≠0))) rfl) ?_
    refine xaj (ms rfl rfl (by decide)) (fun h_ H_=>xax (v:=.int .i64 0) rfl) rfl ?_
    refine xaj (ms rfl rfl (by decide)) (fun h_ H_=>xgw rfl rfl) (tm':=zq8 (zq16 (zq32 (zq32 (zq32 _))))) rfl ?_
    refine ro (xdq rfl (by decide) (v:=.bool (decide ((0:Int)≠0))) rfl) ?_
    refine ro (xax (v:=.bool (decide ((0:Int)≠0))) rfl) ?_
    refine xaj (ms rfl rfl (by decide)) (fun h_ H_=>xax (v:=sv ((writeB (rows l)).1)) rfl) (tm':=zq1 (zq2 (zq8 (zq16 (zq32 (zq32 (zq32 _))))))) rfl ?_
    refine xaj (ms rfl rfl (by decide)) (fun h_ H_=>xax (v:=sv fl_) rfl) rfl ?_
    refine xaj (ms rfl rfl (by decide)) (fun h_ H_=>xzj (l:=(writeB (rows l)).1) (m:=fl_) rfl rfl) rfl ?_
    refine rt (xdq rfl (by decide) (v:=.bool (!decide ((writeB (rows l)).1=fl_))) rfl) (tm':=zq2 (zq4 (zq8 (zq16 (zq32 (zq32 (zq32 _))))))) rfl ?_
    refine ro (xax (v:=.bool (!decide ((writeB (rows l)).1=fl_))) rfl) ?_
    refine xaj (ms rfl rfl (xej (decide_eq_true (hfl_.trans (xsv hd (by omega))).symm))) (fun h_ H_=>xax (v:=.slice a47 r.sts.length cp48) rfl) rfl ?_
    refine xaj (ms rfl rfl (xej (decide_eq_true (hfl_.trans (xsv hd (by omega))).symm))) (fun h_ H_=>xfj Tryz.underlying33 rfl) (tm':=zq1 (zq32 (zq32 (zq32 (zq32 _))))) rfl ?_
    refine xaj (ms rfl rfl (xej (decide_eq_true (hfl_.trans (xsv hd (by omega))).symm))) (fun h_ H_=>xax (v:=.slice a10 r.sts.length cp11) rfl) rfl ?_
    refine xaj (ms rfl rfl (xej (decide_eq_true (hfl_.trans (xsv hd (by omega))).symm))) (fun h_ H_=>xfj Tryz.underlying26 rfl) rfl ?_
    refine xaj (ms rfl rfl (xej (decide_eq_true (hfl_.trans (xsv hd (by omega))).symm))) (fun h_ H_=>xgw rfl rfl) (tm':=zq4 (zq32 (zq32 (zq32 (zq32 _))))) rfl ?_
    refine ro (xdq rfl (xej (decide_eq_true (hfl_.trans (xsv hd (by omega))).symm)) (v:=.bool (decide (((r.sts.length:Nat):Int)≠((r.sts.length:Nat):Int)))) rfl) ?_
    refine xak ?_
    refine xcv rfl (decide_eq_false (by omega)) ?_
    refine xdz <| fsr <| ro (xaq (v:=.slice none 0 0) rfl) <| ren <| fsr <| rt (xaq (v:=.int .i64 0) rfl) (tm':=zq1 (zq2 (zq16 _))) rfl ?_
    refine xak <| xeq ?_
    refine xhk (m₀:=r.sts.length-0) (fun m_ tm_ h_=>∃ (q:Nat) (w6_:Value) (X6_:Pcs),m_=r.sts.length-q∧(∃ y51:Nat→Value,tm_=(.agg #[.slice a r.room.length ca,.slice b r.sts.length cb]::.pointer (some ⟨b1,0,none⟩)::(y51 2)::.slice a10 r.sts.length cp11::.int .i64 0::.int .i64 ((bestF r.sts r.room).1)::.int .i64 0::.slice a26 r.sts.length cp27::sv fl_::.int .i64 (((i:Nat):Int))::(y14 10)::(y14 11)::(y14 12)::sv ((writeB (rows l)).1)::.int .i64 0::.slice a47 r.sts.length cp48::.int .i64 0::w6_::.int .i64 (((q:Nat):Int))::(y51 19)::(y51 20)::(y51 21)::(y51 22)::(y51 23)::zu4 (.agg #[.slice a r.room.length ca,.slice b r.sts.length cb]::.bool (x2)::.bool (x2)::.agg #[.slice a r.room.length ca,.slice b r.sts.length cb]::.int .i64 (chkH r)::.bool (decide (chkH r≠0))::.bool (decide (chkH r≠0))::undef::.tuple #[.slice a10 r.sts.length cp11,.int .i64 0]::.agg #[.slice a r.room.length ca,.slice b r.sts.length cb]::.tuple #[.slice a10 r.sts.length cp11,.int .i64 0]::.slice a10 r.sts.length cp11::.int .i64 0::.tuple #[.int .i64 ((bestF r.sts r.room).1),.int .i64 0]::.agg #[.slice a r.room.length ca,.slice b r.sts.length cb]::.tuple #[.int .i64 ((bestF r.sts r.room).1),.int .i64 0]::.int .i64 ((bestF r.sts r.room).1)::.int .i64 0::.int .i64 0::.int .i64 0::.bool (decide ((0:Int)≠0))::.bool (decide ((0:Int)≠0))::.int .i64 0::.bool (decide ((0:Int)≠0))::.bool (decide ((0:Int)≠0))::undef::undef::.bool (false)::.bool (false)::.bool (false)::.int .i64 0::.bool (decide ((0:Int)=0))::.bool (decide ((0:Int)=0))::.agg #[.slice a r.room.length ca,.slice b r.sts.length cb]::.slice a10 r.sts.length cp11::.bool (decide (goodP r l))::.bool (!(decide (goodP r l)))::.bool (!(decide (goodP r l)))::.bool (!(decide (goodP r l)))::.int .i64 0::.bool (decide ((0:Int)≠0))::undef::.int .i64 (((i:Nat):Int))::.slice a10 r.sts.length cp11::.int .i64 (((r.sts.length:Nat):Int))::.bool (decide (((i:Nat):Int)<((r.sts.length:Nat):Int)))::(y14 74)::(y14 75)::(y14 76)::(y14 77)::(y14 78)::(y14 79)::(y14 80)::(y14 81)::(y14 82)::(y14 83)::(y14 84)::(y14 85)::(y14 86)::(y14 87)::(y14 88)::(y14 89)::(y14 90)::(y14 91)::(y14 92)::(y14 93)::(y14 94)::(y14 95)::(y14 96)::(y14 97)::(y14 98)::(y14 99)::(y14 100)::(y14 101)::(y14 102)::.tuple #[sv ((writeB (rows l)).1),.int .i64 0]::v30::.slice a26 r.sts.length cp27::.slice a39 ((rows l).length) cp40::.tuple #[sv ((writeB (rows l)).1),.int .i64 0]::sv ((writeB (rows l)).1)::.int .i64 0::.tuple #[.slice a47 r.sts.length cp48,.int .i64 0]::sv fl_::.tuple #[.slice a47 r.sts.length cp48,.int .i64 0]::.slice a47 r.sts.length cp48::.int .i64 0::.int .i64 0::.bool (decide ((0:Int)≠0))::.bool (decide ((0:Int)≠0))::.int .i64 0::.bool (decide ((0:Int)≠0))::.bool (decide ((0:Int)≠0))::.bool (decide ((0:Int)≠0))::sv ((writeB (rows l)).1)::sv fl_::.bool (!decide ((writeB (rows l)).1=fl_))::.bool (!decide ((writeB (rows l)).1=fl_))::.bool (!decide ((writeB (rows l)).1=fl_))::.slice a47 r.sts.length cp48::.int .i64 (((r.sts.length:Nat):Int))::.slice a10 r.sts.length cp11::.int .i64 (((r.sts.length:Nat):Int))::.bool (decide (((r.sts.length:Nat):Int)≠((r.sts.length:Nat):Int)))::.bool (decide (((r.sts.length:Nat):Int)≠((r.sts.length:Nat):Int)))::(y51 133)::(y51 134)::(y51 135)::(y51 136)::(y51 137)::(y51 138)::(y51 139)::(y51 140)::(y51 141)::(y51 142)::(y51 143)::(y51 144)::(y51 145)::(y51 146)::(y51 147)::(y51 148)::(y51 149)::(y51 150)::(y51 151)::(y51 152)::(y51 153)::(y51 154)::(y51 155)::(y51 156)::(y51 157)::(y51 158)::(y51 159)::(y51 160)::(y51 161)::(y51 162)::(y51 163)::(y51 164)::(y51 165)::(y51 166)::(y51 167)::(y51 168)::(y51 169)::(y51 170)::(y51 171)::(y51 172)::(y51 173)::(y51 174)::(y51 175)::undef::undef::undef::zu16 (zu16 []))))∧(q≤r.sts.length)∧(OwnS 3 1 w6_ (ics (l.take q)) X6_)∧St h [] p46 h_ (([(b1,.cells #[.slice a r.room.length ca,.slice b r.sts.length cb] 51 (0,0))]:Pcs)++(X6_++[]))) (fun h_ H_=>⟨0,(.slice none 0 0),[],rfl,(y_of rfl),Nat.zero_le _,(OwnS.empty _ _),H_⟩) ?_
    intro m_ tm_ IH52
    refine xhq fun q=>xhq fun w6_=>xhq fun X6_=>xdj fun hm_=>xdj fun ht_=>xdj fun hq=>xdj fun o6_=>?_
    subst hm_;obtain ⟨y51,ht_⟩:=ht_;subst ht_
    have hTq_:q<r.sts.length→(rows l).getD q []=rowT l q:=fun z_=>zej (by omega)
    refine xbj <| fsr <| ro (xax (v:=.int .i64 (((q:Nat):Int))) rfl) <| ro (xax (v:=.slice a47 r.sts.length cp48) rfl) <| rt (xfj Tryz.underlying33 rfl) (tm':=zq8 (zq32 (zq32 (zq32 (zq32 _))))) rfl <| ro (xfk rfl rfl) ?_
    refine xak ?_
    by_cases cc53:((q:Nat):Int)<((r.sts.length:Nat):Int)
    ·
     refine xcx rfl (dtt cc53) <| xdz <| xbj <| xeq <| fsr <| ro (xax (v:=.slice a47 r.sts.length cp48) rfl) ?_
     refine rt (xax (v:=.int .i64 (((q:Nat):Int))) rfl) (tm':=zq1 (zq2 (zq16 (zq32 (zq32 (zq32 (zq32 (zq32 (zq32 []))))))))) rfl ?_
     refine ro (xdx (i:=q) Tryz.underlying33 tS9 (xlx a47 r.sts.length cp48 ((show Strs _ _ _ (rows l) from D50).ne (by omega))) rfl (by omega)) ?_
     refine rd (fun h_ H_=>xdk H_ tA9 rfl (v:=sv ((rows l).getD q [])) ((show Strs _ _ _ (rows l) from D50).get (by omega))) ?_
     refine xgv mn (first:=[]) (cap:=[]) rfl rfl fC24 (R:=fun v_ h_=>∃ w54:Value,∃ X55:Pcs,v_=w54∧(OwnS 9 1 w54 (scs ([[mk ((q:Nat):Int)],[mk (l.getD q 0)]]:List By)) X55)∧St h [] p46 h_ (([(b1,.cells #[.slice a r.room.length ca,.slice b r.sts.length cb] 51 (0,0))]:Pcs)++(X55++(X6_++[])))) (fun h_ H_=>((show CallsX _ .lone 24 _ _ (fun v h'=>∃ w X,v=w∧OwnS 9 1 w (scs ([[mk ((q:Nat):Int)],[mk (l.getD q 0)]]:List By)) X∧New h_ h' X) from (c24 .lone _ ((rows l).getD q []) (by rw [hTq_ (by omega)];show 3≤_;decide)).mono fun v h' ⟨w,X,e,o,n⟩=>⟨w,X,e,o.as (by rw [hTq_ (by omega)];exact congrArg scs (zuq hd (by omega))),n⟩)).mono fun v_ h2_ ⟨w54,X55,e_,o56,N_⟩=>⟨w54,X55,e_,o56,H_.callNA N_⟩) fun v_=>?_
     refine xgx fun w54=>xgx fun X55=>xez fun ev_=>xez fun o56=>?_
     have ev_:=ev_.symm;subst ev_
     refine xcz (L':=([(b1,.cells #[.slice a r.room.length ca,.slice b r.sts.length cb] 51 (0,0))]:Pcs)++(X55++(X6_++[]))) rfl ?_
     refine xfz (tm':=zq1 (zq2 (zq16 (zq32 (zq32 (zq32 (zq32 (zq32 (zq32 []))))))))) rfl ?_
     refine ro (xaq (v:=w54) rfl) <| ren <| xbj ?_
     refine xtj (A:=([(b1,.cells #[.slice a r.room.length ca,.slice b r.sts.length cb] 51 (0,0))]:Pcs)) o56 ((xgq _).trans rfl) fun p57 a58 cp59 le60 ev_ D61=>?_
     subst ev_
     refine xav <| ro (xax (v:=.slice a58 2 cp59) rfl) <| rt (xfj Tryz.underlying33 rfl) (tm':=zq1 (zq2 (zq16 (zq32 (zq32 (zq32 (zq32 (zq32 (zq32 []))))))))) rfl <| ro (xgw rfl rfl) <| xak ?_
     refine xcv rfl (by decide) ?_
     refine xdz <| fsr <| ro (xax (v:=.slice a58 2 cp59) rfl) ?_
     refine rt (xdx (i:=0) Tryz.underlying33 tS9 (xlx a58 2 cp59 ((show Strs _ _ 2 ([[mk ((q:Nat):Int)],[mk (l.getD q 0)]]:List By) from D61).ne (by omega))) rfl (by omega)) (tm':=zq1 (zq2 (zq16 (zq32 (zq32 (zq32 (zq32 (zq32 (zq32 []))))))))) rfl ?_
     refine rd (fun h_ H_=>xdk H_ tA9 rfl (v:=sv (([[mk ((q:Nat):Int)],[mk (l.getD q 0)]]:List By).getD 0 [])) ((show Strs _ _ 2 ([[mk ((q:Nat):Int)],[mk (l.getD q 0)]]:List By) from D61).get (by omega))) ?_
     refine xcw mn (first:=[]) (cap:=[]) rfl rfl fC25 (fun h_ H_=>c25 .lone _ (([[mk ((q:Nat):Int)],[mk (l.getD q 0)]]:List By).getD 0 []) ((q:Nat):Int) (hr_ (by omega)).1 rfl) rfl ?_
     refine rt (xax (v:=.tuple #[.int .i64 (((q:Nat):Int)),.bool (true)]) rfl) (tm':=zq1 (zq2 (zq16 (zq32 (zq32 (zq32 (zq32 (zq32 (zq32 []))))))))) rfl <| ro (xdw rfl (v:=.int .i64 (((q:Nat):Int))) rfl) <| ro (xdw rfl (v:=.bool (true)) rfl) <| rt (xaq (v:=.int .i64 (((q:Nat):Int))) rfl) (tm':=zq1 (zq4 (zq16 _))) rfl <| ro (xaq (v:=.bool (true)) rfl) <| ren ?_
     refine xav <| ro (xax (v:=.slice a58 2 cp59) rfl) ?_
     refine rt (xdx (i:=1) Tryz.underlying33 tS9 (xlx a58 2 cp59 ((show Strs _ _ 2 ([[mk ((q:Nat):Int)],[mk (l.getD q 0)]]:List By) from D61).ne (by omega))) rfl (by omega)) (tm':=zq1 (zq2 (zq16 (zq32 (zq32 (zq32 (zq32 (zq32 (zq32 []))))))))) rfl ?_
     refine rd (fun h_ H_=>xdk H_ tA9 rfl (v:=sv (([[mk ((q:Nat):Int)],[mk (l.getD q 0)]]:List By).getD 1 [])) ((show Strs _ _ 2 ([[mk ((q:Nat):Int)],[mk (l.getD q 0)]]:List By) from D61).get (by omega))) ?_
     refine xcw mn (first:=[]) (cap:=[]) rfl rfl fC25 (fun h_ H_=>c25 .lone _ (([[mk ((q:Nat):Int)],[mk (l.getD q 0)]]:List By).getD 1 []) (l.getD q 0) (hr_ (by omega)).2 rfl) rfl ?_
     refine rt (xax (v:=.tuple #[.int .i64 (l.getD q 0),.bool (true)]) rfl) (tm':=zq1 (zq2 (zq16 (zq32 (zq32 (zq32 (zq32 (zq32 (zq32 []))))))))) rfl <| ro (xdw rfl (v:=.int .i64 (l.getD q 0)) rfl) <| ro (xdw rfl (v:=.bool (true)) rfl) <| rt (xaq (v:=.int .i64 (l.getD q 0)) rfl) (tm':=zq1 (zq2 (zq4 (zq16 _)))) rfl <| ro (xaq (v:=.bool (true)) rfl) <| ren ?_
     refine fsr <| ro (xax (v:=.bool (true)) rfl) <| rt (xfw rfl) (tm':=zq1 (zq2 (zq16 (zq32 (zq32 (zq32 (zq32 (zq32 (zq32 []))))))))) rfl <| ro (xax (v:=.bool (!true)) rfl) ?_
     refine xaj (ms rfl rfl (xej rfl)) (fun h_ H_=>xax (v:=.bool (true)) rfl) rfl ?_
     refine xaj (ms rfl rfl (xej rfl)) (fun h_ H_=>xfw rfl) (tm':=zq1 (zq2 (zq16 (zq32 (zq32 (zq32 (zq32 (zq32 (zq32 []))))))))) rfl ?_
     refine ro (xdq rfl (xej rfl) (v:=.bool (!true)) rfl) <| ro (xax (v:=.bool (!true)) rfl) ?_
     refine xaj (ms rfl rfl (xej rfl)) (fun h_ H_=>xax (v:=.int .i64 (((q:Nat):Int))) rfl) (tm':=zq1 (zq2 (zq16 (zq32 (zq32 (zq32 (zq32 (zq32 (zq32 []))))))))) rfl ?_
     refine xaj (ms rfl rfl (xej rfl)) (fun h_ H_=>xax (v:=.int .i64 (((q:Nat):Int))) rfl) rfl ?_
     refine xaj (ms rfl rfl (xej rfl)) (fun h_ H_=>xgw rfl rfl) rfl ?_
     refine rt (xdq rfl (xej rfl) (v:=.bool (decide (((q:Nat):Int)≠((q:Nat):Int)))) rfl) (tm':=zq1 (zq2 (zq16 (zq32 (zq32 (zq32 (zq32 (zq32 (zq32 []))))))))) rfl <| xak <| xcv rfl (decide_eq_false (fun z_=>z_ rfl)) <| xdz <| xav <| ro (xax (v:=w6_) rfl) ?_
     refine ro (xax (v:=.int .i64 (l.getD q 0)) rfl) ?_
     refine xhv ([(b1,.cells #[.slice a r.room.length ca,.slice b r.sts.length cb] 51 (0,0))]:Pcs) mn Tryz.underlying26 tS3 tZ3 (Nat.le_of_ble_eq_true rfl) (vs:=[(0,.int .i64 (l.getD q 0))]) rfl rfl (es:=[[.int .i64 (l.getD q 0)]]) rfl rfl rfl fun v62 X63 o64=>?_
     refine xfz (tm':=zq1 (zq2 (zq16 (zq32 (zq32 (zq32 (zq32 (zq32 (zq32 []))))))))) rfl ?_
     refine xjw (List.Perm.append_left _ (List.perm_append_comm_assoc _ _ _)) ?_
     refine xcz (L':=([(b1,.cells #[.slice a r.room.length ca,.slice b r.sts.length cb] 51 (0,0))]:Pcs)++(X6_++(X63++[]))) rfl ?_
     refine xkw ([(b1,.cells #[.slice a r.room.length ca,.slice b r.sts.length cb] 51 (0,0))]:Pcs) X6_ X63 mn Tryz.underlying26 tS3 tZ3 rfl tB3 Tryz.underlying26 rfl rfl o6_ o64 (xrk rfl) (by rw [xhj,List.length_take];show (_+1)*_≤_;omega) (by decide) fun v65 X66 o67=>?_
     refine ro (xaq (v:=v65) rfl) <| xak <| xex <| xav <| rt (xax (v:=.int .i64 (((q:Nat):Int))) rfl) (tm':=zq2 (zq8 (zq32 (zq32 (zq32 (zq32 _)))))) rfl ?_
     refine ro (xev rfl rfl (n:=((q+1:Nat):Int)) (wr (by omega))) ?_
     refine ro (xaq (v:=.int .i64 (((q+1:Nat):Int))) rfl) <| xak ?_
     exact fun h_ H_=>IH52 _ _ (by omega) h_ ⟨q+1,v65,X66,rfl,(y_of rfl),(by omega),(o67.as ((zkj _ _).trans (congrArg ics (wbv (by omega))))),(H_.forget le60)⟩
    ·
     refine xcv rfl (dff cc53) <| xgk rfl <| xbj ?_
     have oA_:OwnS 3 1 w6_ (ics l) X6_:=o6_.as (congrArg ics (List.take_of_length_le (by omega)))
     refine xtj (A:=([(b1,.cells #[.slice a r.room.length ca,.slice b r.sts.length cb] 51 (0,0))]:Pcs)) oA_ ((xhj _).trans hll) fun p68 a69 cp70 le71 ev_ D72=>?_
     subst ev_
     refine xrq (L':=[(b1,.cells #[.slice a r.room.length ca,.slice b r.sts.length cb] 51 (0,0))]) rfl ?_
     refine yoj (xqq (C:=[]) (A:=([(b1,.cells #[.slice a r.room.length ca,.slice b r.sts.length cb] 51 (0,0))]:Pcs)) 9 [] [] [] [0,2,4,5,6,7,8] (fun _=>[]) (fun i_=>match i_ with | 3=>[1] | 4=>[3] | _=>[]) (fun i_=>match i_ with | 0=>[] | 1=>[] | 2=>[] | 3=>[1,2] | 4=>[0,3] | 5=>[4] | 6=>[5] | 7=>[5] | 8=>[0,1,2,3,4,5,6] | _=>[]) (fun i_ val_ pc_ v_ x_=>match i_ with | 0=>v_= .agg #[.slice a r.room.length ca,.slice b r.sts.length cb]∧x_=[] | 1=>OwnS 3 1 v_ [] x_ | 2=>v_= .slice a69 r.sts.length cp70∧x_=[] | 3=>OwnS 3 1 v_ ([]++(l.map fun x=>[Value.int .i64 x])) x_ | 4=>v_= .tuple #[.int .i64 (costK r l r.sts.length),.int .i64 0]∧x_=[] | 5=>v_= .tuple #[.int .i64 (costK r l r.sts.length),.int .i64 0]∧x_=[] | 6=>v_= .int .i64 (costK r l r.sts.length)∧x_=[] | 7=>v_= .int .i64 0∧x_=[] | 8=>v_= .int .i64 (costK r l r.sts.length)∧x_=[] | _=>True) (fun val73=>(.agg #[.slice a r.room.length ca,.slice b r.sts.length cb]::.pointer (some ⟨b1,0,none⟩)::(y51 2)::.slice a10 r.sts.length cp11::.int .i64 0::.int .i64 ((bestF r.sts r.room).1)::.int .i64 0::.slice a26 r.sts.length cp27::sv fl_::.int .i64 (((i:Nat):Int))::(y14 10)::(y14 11)::(y14 12)::sv ((writeB (rows l)).1)::.int .i64 0::.slice a47 r.sts.length cp48::.int .i64 0::.slice a69 r.sts.length cp70::.int .i64 (((q:Nat):Int))::(y51 19)::(y51 20)::(y51 21)::(y51 22)::(y51 23)::(val73 8)::undef::undef::undef::.agg #[.slice a r.room.length ca,.slice b r.sts.length cb]::.bool (x2)::.bool (x2)::.agg #[.slice a r.room.length ca,.slice b r.sts.length cb]::.int .i64 (chkH r)::.bool (decide (chkH r≠0))::.bool (decide (chkH r≠0))::undef::.tuple #[.slice a10 r.sts.length cp11,.int .i64 0]::.agg #[.slice a r.room.length ca,.slice b r.sts.length cb]::.tuple #[.slice a10 r.sts.length cp11,.int .i64 0]::.slice a10 r.sts.length cp11::.int .i64 0::.tuple #[.int .i64 ((bestF r.sts r.room).1),.int .i64 0]::.agg #[.slice a r.room.length ca,.slice b r.sts.length cb]::.tuple #[.int .i64 ((bestF r.sts r.room).1),.int .i64 0]::.int .i64 ((bestF r.sts r.room).1)::.int .i64 0::.int .i64 0::.int .i64 0::.bool (decide ((0:Int)≠0))::.bool (decide ((0:Int)≠0))::.int .i64 0::.bool (decide ((0:Int)≠0))::.bool (decide ((0:Int)≠0))::undef::undef::.bool (false)::.bool (false)::.bool (false)::.int .i64 0::.bool (decide ((0:Int)=0))::.bool (decide ((0:Int)=0))::.agg #[.slice a r.room.length ca,.slice b r.sts.length cb]::.slice a10 r.sts.length cp11::.bool (decide (goodP r l))::.bool (!(decide (goodP r l)))::.bool (!(decide (goodP r l)))::.bool (!(decide (goodP r l)))::.int .i64 0::.bool (decide ((0:Int)≠0))::undef::.int .i64 (((i:Nat):Int))::.slice a10 r.sts.length cp11::.int .i64 (((r.sts.length:Nat):Int))::.bool (decide (((i:Nat):Int)<((r.sts.length:Nat):Int)))::(y14 74)::(y14 75)::(y14 76)::(y14 77)::(y14 78)::(y14 79)::(y14 80)::(y14 81)::(y14 82)::(y14 83)::(y14 84)::(y14 85)::(y14 86)::(y14 87)::(y14 88)::(y14 89)::(y14 90)::(y14 91)::(y14 92)::(y14 93)::(y14 94)::(y14 95)::(y14 96)::(y14 97)::(y14 98)::(y14 99)::(y14 100)::(y14 101)::(y14 102)::.tuple #[sv ((writeB (rows l)).1),.int .i64 0]::v30::.slice a26 r.sts.length cp27::.slice a39 ((rows l).length) cp40::.tuple #[sv ((writeB (rows l)).1),.int .i64 0]::sv ((writeB (rows l)).1)::.int .i64 0::.tuple #[.slice a47 r.sts.length cp48,.int .i64 0]::sv fl_::.tuple #[.slice a47 r.sts.length cp48,.int .i64 0]::.slice a47 r.sts.length cp48::.int .i64 0::.int .i64 0::.bool (decide ((0:Int)≠0))::.bool (decide ((0:Int)≠0))::.int .i64 0::.bool (decide ((0:Int)≠0))::.bool (decide ((0:Int)≠0))::.bool (decide ((0:Int)≠0))::sv ((writeB (rows l)).1)::sv fl_::.bool (!decide ((writeB (rows l)).1=fl_))::.bool (!decide ((writeB (rows l)).1=fl_))::.bool (!decide ((writeB (rows l)).1=fl_))::.slice a47 r.sts.length cp48::.int .i64 (((r.sts.length:Nat):Int))::.slice a10 r.sts.length cp11::.int .i64 (((r.sts.length:Nat):Int))::.bool (decide (((r.sts.length:Nat):Int)≠((r.sts.length:Nat):Int)))::.bool (decide (((r.sts.length:Nat):Int)≠((r.sts.length:Nat):Int)))::.int .i64 (((q:Nat):Int))::.slice a47 r.sts.length cp48::.int .i64 (((r.sts.length:Nat):Int))::.bool (decide (((q:Nat):Int)<((r.sts.length:Nat):Int)))::(y51 137)::(y51 138)::(y51 139)::(y51 140)::(y51 141)::(y51 142)::(y51 143)::(y51 144)::(y51 145)::(y51 146)::(y51 147)::(y51 148)::(y51 149)::(y51 150)::(y51 151)::(y51 152)::(y51 153)::(y51 154)::(y51 155)::(y51 156)::(y51 157)::(y51 158)::(y51 159)::(y51 160)::(y51 161)::(y51 162)::(y51 163)::(y51 164)::(y51 165)::(y51 166)::(y51 167)::(y51 168)::(y51 169)::(y51 170)::(y51 171)::(y51 172)::(y51 173)::(y51 174)::(y51 175)::(val73 5)::(val73 0)::(val73 1)::(val73 2)::(val73 3)::(val73 4)::(val73 6)::(val73 7)::undef::undef::undef::zu8 (zu16 []))) mixed (by kernel_rfl) (Nat.le_of_ble_eq_true rfl) (by kernel_rfl) (by kernel_rfl) (by kernel_rfl) (fun _ _=>⟨fun _ _ h=>h.2,⟨fun _ _ h=>h.2,⟨fun _ _ h=>h.2,⟨fun _ _ h=>h.2,⟨fun _ _ h=>h.2,⟨fun _ _ h=>h.2,⟨fun _ _ h=>h.2,trivial⟩⟩⟩⟩⟩⟩⟩) (fun _=>by kernel_rfl) (by kernel_rfl) ?_ ?_) (fun h_ H_=>St.swap (A:=([(b1,.cells #[.slice a r.room.length ca,.slice b r.sts.length cb] 51 (0,0))]:Pcs)) (U:=[]) H_)
     ·
      refine xcq rfl (xew ?_) ?_
      ·
       intro val73 pc74 hQ_ hX_
       obtain ⟨q_,hq0_⟩: ∃ q_:Value→Pcs→Prop,q_=(fun v_ x_=>v_= .agg #[.slice a r.room.length ca,.slice b r.sts.length cb]∧x_=[]):=⟨_,rfl⟩
       refine ⟨(zq1 (zq2 (zq16 (zq32 (zq32 (zq32 (zq32 (zq32 (zq32 []))))))))),[],q_,rfl,rfl,(fun _ _ z_=>by subst hq0_;exact z_),?_⟩
       subst hq0_
       exact xfx mn (fun _ h_ H_=>xbk H_ tA51 tS51 rfl (i:=0) rfl (vs:=[.slice a r.room.length ca,.slice b r.sts.length cb]) rfl rfl) ⟨rfl,rfl⟩
      refine xcq rfl (xew ?_) ?_
      ·
       intro val73 pc74 hQ_ hX_
       obtain ⟨q_,hq0_⟩: ∃ q_:Value→Pcs→Prop,q_=(fun v_ x_=>OwnS 3 1 v_ [] x_):=⟨_,rfl⟩
       refine ⟨(zq1 (zq2 (zq16 (zq32 (zq32 (zq32 (zq32 (zq32 (zq32 []))))))))),[],q_,rfl,rfl,(fun _ _ z_=>by subst hq0_;exact z_),?_⟩
       subst hq0_
       exact xsz mn Tryz.underlying26 tS3 tZ3 (Nat.le_of_ble_eq_true rfl) (vs:=[]) rfl rfl (es:=[]) rfl rfl rfl fun _ _ o_=>o_
      refine xcq rfl (xew ?_) ?_
      ·
       intro val73 pc74 hQ_ hX_
       obtain ⟨q_,hq0_⟩: ∃ q_:Value→Pcs→Prop,q_=(fun v_ x_=>v_= .slice a69 r.sts.length cp70∧x_=[]):=⟨_,rfl⟩
       refine ⟨(zq1 (zq2 (zq16 (zq32 (zq32 (zq32 (zq32 (zq32 (zq32 []))))))))),[],q_,rfl,rfl,(fun _ _ z_=>by subst hq0_;exact z_),?_⟩
       subst hq0_
       exact xfx mn (fun _ h_ H_=>xax (v:=.slice a69 r.sts.length cp70) rfl) ⟨rfl,rfl⟩
      refine xcq rfl (xew ?_) ?_
      ·
       intro val73 pc74 hQ_ hX_
       have q1_:OwnS 3 1 (val73 1) [] (pc74 1):=hQ_ 1 rfl
       have e2_:val73 2= .slice a69 r.sts.length cp70:=(hQ_ 2 rfl).1
       obtain ⟨q_,hq0_⟩: ∃ q_:Value→Pcs→Prop,q_=(fun v_ x_=>OwnS 3 1 v_ ([]++(l.map fun x=>[Value.int .i64 x])) x_):=⟨_,rfl⟩
       refine ⟨(zq1 (zq2 (zq16 (zq32 (zq32 (zq32 (zq32 (zq32 (zq32 []))))))))),((pc74 1)++[]),q_,(by rw [e2_]),rfl,(fun _ _ z_=>by subst hq0_;exact z_),?_⟩
       subst hq0_
       exact ybk mn Tryz.underlying26 tS3 tZ3 rfl tB3 Tryz.underlying26 rfl rfl q1_ (show Ints _ _ _ l from D72) (xyj _) (by show (0+_)*_≤_;omega) (by decide) (by decide) fun _ _ o_=>o_
      refine xcq rfl (xew ?_) ?_
      ·
       intro val73 pc74 hQ_ hX_
       have e0_:val73 0= .agg #[.slice a r.room.length ca,.slice b r.sts.length cb]:=(hQ_ 0 rfl).1
       have q3_:OwnS 3 1 (val73 3) ([]++(l.map fun x=>[Value.int .i64 x])) (pc74 3):=hQ_ 3 rfl
       obtain ⟨q_,hq0_⟩: ∃ q_:Value→Pcs→Prop,q_=(fun v_ x_=>v_= .tuple #[.int .i64 (costK r l r.sts.length),.int .i64 0]∧x_=[]):=⟨_,rfl⟩
       refine ⟨(zq1 (zq2 (zq16 (zq32 (zq32 (zq32 (zq32 (zq32 (zq32 []))))))))),((pc74 3)++[]),q_,(by rw [e0_]),rfl,(fun _ _ z_=>by subst hq0_;exact z_),?_⟩
       subst hq0_
       exact yix mn (first:=[]) (cap:=[]) rfl rfl fC26 (fun _ h_ H_=>(show CallsX _ .lone 26 #[.agg #[.slice a r.room.length ca,.slice b r.sts.length cb],(val73 3)] h_ (fun v_ h2_=>v_= .tuple #[.int .i64 (costK r l r.sts.length),.int .i64 0]∧Keep h_ h2_) from yfq (n:=r.sts.length) (show OwnS 3 1 (val73 3) (ics l) _ from q3_) ((xhj _).trans hll) H_ (fun x_ h_=>by simp [h_]) fun p_ a_ c_ hp_ le_ hv_ D_=>by rw [hv_];exact c26 .lone _ _ hp_ _ _ _ _ r (show RstP _ _ _ _ _ r from ⟨(((((R.r.mono le12).mono le28).mono le41).mono le49).mono le71).mono le_,(((((R.s.mono le12).mono le28).mono le41).mono le49).mono le71).mono le_⟩) hn _ _ _ l (show Ints _ _ _ l from D_) (by omega) hB hgood).mono fun v_ h2_ ⟨e_,k_⟩=>⟨[],⟨e_,rfl⟩,(H_.call k_).sub (List.sublist_append_right _ _)⟩)
      refine xcq rfl (xew ?_) ?_
      ·
       intro val73 pc74 hQ_ hX_
       have e4_:val73 4= .tuple #[.int .i64 (costK r l r.sts.length),.int .i64 0]:=(hQ_ 4 rfl).1
       obtain ⟨q_,hq0_⟩: ∃ q_:Value→Pcs→Prop,q_=(fun v_ x_=>v_= .tuple #[.int .i64 (costK r l r.sts.length),.int .i64 0]∧x_=[]):=⟨_,rfl⟩
       refine ⟨(zq1 (zq2 (zq16 (zq32 (zq32 (zq32 (zq32 (zq32 (zq32 []))))))))),[],q_,(by rw [e4_]),rfl,(fun _ _ z_=>by subst hq0_;exact z_),?_⟩
       subst hq0_
       exact xfx mn (fun _ h_ H_=>xax (v:=.tuple #[.int .i64 (costK r l r.sts.length),.int .i64 0]) rfl) ⟨rfl,rfl⟩
      refine xcq rfl (xew ?_) ?_
      ·
       intro val73 pc74 hQ_ hX_
       have e5_:val73 5= .tuple #[.int .i64 (costK r l r.sts.length),.int .i64 0]:=(hQ_ 5 rfl).1
       obtain ⟨q_,hq0_⟩: ∃ q_:Value→Pcs→Prop,q_=(fun v_ x_=>v_= .int .i64 (costK r l r.sts.length)∧x_=[]):=⟨_,rfl⟩
       refine ⟨(zq1 (zq2 (zq16 (zq32 (zq32 (zq32 (zq32 (zq32 (zq32 []))))))))),[],q_,(by rw [e5_]),rfl,(fun _ _ z_=>by subst hq0_;exact z_),?_⟩
       subst hq0_
       exact xfx mn (fun _ h_ H_=>xdw rfl (v:=.int .i64 (costK r l r.sts.length)) rfl) ⟨rfl,rfl⟩
      refine xcq rfl (xew ?_) ?_
      ·
       intro val73 pc74 hQ_ hX_
       have e5_:val73 5= .tuple #[.int .i64 (costK r l r.sts.length),.int .i64 0]:=(hQ_ 5 rfl).1
       obtain ⟨q_,hq0_⟩: ∃ q_:Value→Pcs→Prop,q_=(fun v_ x_=>v_= .int .i64 0∧x_=[]):=⟨_,rfl⟩
       refine ⟨(zq1 (zq2 (zq16 (zq32 (zq32 (zq32 (zq32 (zq32 (zq32 []))))))))),[],q_,(by rw [e5_]),rfl,(fun _ _ z_=>by subst hq0_;exact z_),?_⟩
       subst hq0_
       exact xfx mn (fun _ h_ H_=>xdw rfl (v:=.int .i64 0) rfl) ⟨rfl,rfl⟩
      refine xcq rfl (xew ?_) ?_
      ·
       intro val73 pc74 hQ_ hX_
       have e0_:val73 0= .agg #[.slice a r.room.length ca,.slice b r.sts.length cb]:=(hQ_ 0 rfl).1
       have q1_:OwnS 3 1 (val73 1) [] (pc74 1):=hQ_ 1 rfl
       have e2_:val73 2= .slice a69 r.sts.length cp70:=(hQ_ 2 rfl).1
       have q3_:OwnS 3 1 (val73 3) ([]++(l.map fun x=>[Value.int .i64 x])) (pc74 3):=hQ_ 3 rfl
       have e4_:val73 4= .tuple #[.int .i64 (costK r l r.sts.length),.int .i64 0]:=(hQ_ 4 rfl).1
       have e5_:val73 5= .tuple #[.int .i64 (costK r l r.sts.length),.int .i64 0]:=(hQ_ 5 rfl).1
       have e6_:val73 6= .int .i64 (costK r l r.sts.length):=(hQ_ 6 rfl).1
       obtain ⟨q_,hq0_⟩: ∃ q_:Value→Pcs→Prop,q_=(fun v_ x_=>v_= .int .i64 (costK r l r.sts.length)∧x_=[]):=⟨_,rfl⟩
       refine ⟨(zq1 (zq2 (zq16 (zq32 (zq32 (zq32 (zq32 (zq32 (zq32 []))))))))),[],q_,(by rw [e0_,e2_,e4_,e5_,e6_]),rfl,(fun _ _ z_=>by subst hq0_;exact z_),?_⟩
       subst hq0_
       exact xfx mn (fun _ h_ H_=>xaq (v:=.int .i64 (costK r l r.sts.length)) rfl) ⟨rfl,rfl⟩
      exact xpk rfl
     intro val73 pc74 hQ_ hX_
     have e0_:val73 0= .agg #[.slice a r.room.length ca,.slice b r.sts.length cb]:=(hQ_ 0 (by decide)).1
     have e2_:val73 2= .slice a69 r.sts.length cp70:=(hQ_ 2 (by decide)).1
     have e4_:val73 4= .tuple #[.int .i64 (costK r l r.sts.length),.int .i64 0]:=(hQ_ 4 (by decide)).1
     have e5_:val73 5= .tuple #[.int .i64 (costK r l r.sts.length),.int .i64 0]:=(hQ_ 5 (by decide)).1
     have e6_:val73 6= .int .i64 (costK r l r.sts.length):=(hQ_ 6 (by decide)).1
     have e7_:val73 7= .int .i64 0:=(hQ_ 7 (by decide)).1
     have e8_:val73 8= .int .i64 (costK r l r.sts.length):=(hQ_ 8 (by decide)).1
     clear hQ_ hX_
     refine yok (Φ:=fun h_=>St h [] p68 h_ (([(b1,.cells #[.slice a r.room.length ca,.slice b r.sts.length cb] 51 (0,0))]:Pcs)++[])) ?_ (fun h_ H_=>H_.swap')
     refine xfz (tm':=(zq1 (zq2 (zq16 (zq32 (zq32 (zq32 (zq32 (zq32 (zq32 [])))))))))) (by rw [e0_,e2_,e4_,e5_,e6_,e7_,e8_]) ?_
     refine ro (xaq (v:=.int .i64 0) rfl) <| ren ?_
     obtain ⟨Gb81,hG8_⟩:=sk1 (fun (v_:Value) (x_:Pcs) (b81:Nat)=>v_= .pointer (some ⟨b81,0,none⟩)∧x_=(([(b81,.cells #[.int .i64 0,.int .i64 0] 63 (0,0))]:Pcs)++[]))
     refine yoj (xqq (C:=[]) (A:=([(b1,.cells #[.slice a r.room.length ca,.slice b r.sts.length cb] 51 (0,0))]:Pcs)) 10 [] [] [9] [0,2,4,5,6,7] (fun _=>[]) (fun i_=>match i_ with | 3=>[1] | 4=>[3] | 9=>[8] | _=>[]) (fun i_=>match i_ with | 0=>[] | 1=>[] | 2=>[] | 3=>[1,2] | 4=>[0,3] | 5=>[4] | 6=>[5] | 7=>[5] | 8=>[] | 9=>[0,1,2,3,4,5,6,8] | _=>[]) (fun i_ val_ pc_ v_ x_=>match i_ with | 0=>v_= .agg #[.slice a r.room.length ca,.slice b r.sts.length cb]∧x_=[] | 1=>OwnS 3 1 v_ [] x_ | 2=>v_= .slice a69 r.sts.length cp70∧x_=[] | 3=>OwnS 3 1 v_ ([]++(l.map fun x=>[Value.int .i64 x])) x_ | 4=>v_= .tuple #[.agg #[.int .i64 0,.int .i64 0],.int .i64 3]∧x_=[] | 5=>v_= .tuple #[.agg #[.int .i64 0,.int .i64 0],.int .i64 3]∧x_=[] | 6=>v_= .agg #[.int .i64 0,.int .i64 0]∧x_=[] | 7=>v_= .int .i64 3∧x_=[] | 8=>∃ b81:Nat,v_= .pointer (some ⟨b81,0,none⟩)∧x_=(([(b81,.cells #[.int .i64 0,.int .i64 0] 63 (0,0))]:Pcs)++[]) | 9=>v_=undef∧x_=[((Gb81 (val_ 8) (pc_ 8)),.cells #[.int .i64 0,.int .i64 0] 63 (0,0))] | _=>True) (fun val79=>(.agg #[.slice a r.room.length ca,.slice b r.sts.length cb]::.pointer (some ⟨b1,0,none⟩)::(y51 2)::.slice a10 r.sts.length cp11::.int .i64 0::.int .i64 ((bestF r.sts r.room).1)::.int .i64 0::.slice a26 r.sts.length cp27::sv fl_::.int .i64 (((i:Nat):Int))::(y14 10)::(y14 11)::(y14 12)::sv ((writeB (rows l)).1)::.int .i64 0::.slice a47 r.sts.length cp48::.int .i64 0::.slice a69 r.sts.length cp70::.int .i64 (((q:Nat):Int))::(y51 19)::(y51 20)::(y51 21)::(y51 22)::(y51 23)::.int .i64 (costK r l r.sts.length)::.int .i64 0::(val79 8)::undef::.agg #[.slice a r.room.length ca,.slice b r.sts.length cb]::.bool (x2)::.bool (x2)::.agg #[.slice a r.room.length ca,.slice b r.sts.length cb]::.int .i64 (chkH r)::.bool (decide (chkH r≠0))::.bool (decide (chkH r≠0))::undef::.tuple #[.slice a10 r.sts.length cp11,.int .i64 0]::.agg #[.slice a r.room.length ca,.slice b r.sts.length cb]::.tuple #[.slice a10 r.sts.length cp11,.int .i64 0]::.slice a10 r.sts.length cp11::.int .i64 0::.tuple #[.int .i64 ((bestF r.sts r.room).1),.int .i64 0]::.agg #[.slice a r.room.length ca,.slice b r.sts.length cb]::.tuple #[.int .i64 ((bestF r.sts r.room).1),.int .i64 0]::.int .i64 ((bestF r.sts r.room).1)::.int .i64 0::.int .i64 0::.int .i64 0::.bool (decide ((0:Int)≠0))::.bool (decide ((0:Int)≠0))::.int .i64 0::.bool (decide ((0:Int)≠0))::.bool (decide ((0:Int)≠0))::undef::undef::.bool (false)::.bool (false)::.bool (false)::.int .i64 0::.bool (decide ((0:Int)=0))::.bool (decide ((0:Int)=0))::.agg #[.slice a r.room.length ca,.slice b r.sts.length cb]::.slice a10 r.sts.length cp11::.bool (decide (goodP r l))::.bool (!(decide (goodP r l)))::.bool (!(decide (goodP r l)))::.bool (!(decide (goodP r l)))::.int .i64 0::.bool (decide ((0:Int)≠0))::undef::.int .i64 (((i:Nat):Int))::.slice a10 r.sts.length cp11::.int .i64 (((r.sts.length:Nat):Int))::.bool (decide (((i:Nat):Int)<((r.sts.length:Nat):Int)))::(y14 74)::(y14 75)::(y14 76)::(y14 77)::(y14 78)::(y14 79)::(y14 80)::(y14 81)::(y14 82)::(y14 83)::(y14 84)::(y14 85)::(y14 86)::(y14 87)::(y14 88)::(y14 89)::(y14 90)::(y14 91)::(y14 92)::(y14 93)::(y14 94)::(y14 95)::(y14 96)::(y14 97)::(y14 98)::(y14 99)::(y14 100)::(y14 101)::(y14 102)::.tuple #[sv ((writeB (rows l)).1),.int .i64 0]::v30::.slice a26 r.sts.length cp27::.slice a39 ((rows l).length) cp40::.tuple #[sv ((writeB (rows l)).1),.int .i64 0]::sv ((writeB (rows l)).1)::.int .i64 0::.tuple #[.slice a47 r.sts.length cp48,.int .i64 0]::sv fl_::.tuple #[.slice a47 r.sts.length cp48,.int .i64 0]::.slice a47 r.sts.length cp48::.int .i64 0::.int .i64 0::.bool (decide ((0:Int)≠0))::.bool (decide ((0:Int)≠0))::.int .i64 0::.bool (decide ((0:Int)≠0))::.bool (decide ((0:Int)≠0))::.bool (decide ((0:Int)≠0))::sv ((writeB (rows l)).1)::sv fl_::.bool (!decide ((writeB (rows l)).1=fl_))::.bool (!decide ((writeB (rows l)).1=fl_))::.bool (!decide ((writeB (rows l)).1=fl_))::.slice a47 r.sts.length cp48::.int .i64 (((r.sts.length:Nat):Int))::.slice a10 r.sts.length cp11::.int .i64 (((r.sts.length:Nat):Int))::.bool (decide (((r.sts.length:Nat):Int)≠((r.sts.length:Nat):Int)))::.bool (decide (((r.sts.length:Nat):Int)≠((r.sts.length:Nat):Int)))::.int .i64 (((q:Nat):Int))::.slice a47 r.sts.length cp48::.int .i64 (((r.sts.length:Nat):Int))::.bool (decide (((q:Nat):Int)<((r.sts.length:Nat):Int)))::(y51 137)::(y51 138)::(y51 139)::(y51 140)::(y51 141)::(y51 142)::(y51 143)::(y51 144)::(y51 145)::(y51 146)::(y51 147)::(y51 148)::(y51 149)::(y51 150)::(y51 151)::(y51 152)::(y51 153)::(y51 154)::(y51 155)::(y51 156)::(y51 157)::(y51 158)::(y51 159)::(y51 160)::(y51 161)::(y51 162)::(y51 163)::(y51 164)::(y51 165)::(y51 166)::(y51 167)::(y51 168)::(y51 169)::(y51 170)::(y51 171)::(y51 172)::(y51 173)::(y51 174)::(y51 175)::.tuple #[.int .i64 (costK r l r.sts.length),.int .i64 0]::.agg #[.slice a r.room.length ca,.slice b r.sts.length cb]::(val73 1)::.slice a69 r.sts.length cp70::(val73 3)::.tuple #[.int .i64 (costK r l r.sts.length),.int .i64 0]::.int .i64 (costK r l r.sts.length)::.int .i64 0::(val79 5)::(val79 0)::(val79 1)::(val79 2)::(val79 3)::(val79 4)::(val79 6)::(val79 7)::undef::undef::undef::zu16 [])) mixed (by kernel_rfl) (Nat.le_of_ble_eq_true rfl) (by kernel_rfl) (by kernel_rfl) (by kernel_rfl) (fun _ _=>⟨fun _ _ h=>h.2,⟨fun _ _ h=>h.2,⟨fun _ _ h=>h.2,⟨fun _ _ h=>h.2,⟨fun _ _ h=>h.2,⟨fun _ _ h=>h.2,trivial⟩⟩⟩⟩⟩⟩) (fun _=>by kernel_rfl) (by kernel_rfl) ?_ ?_) (fun h_ H_=>St.swap (A:=([(b1,.cells #[.slice a r.room.length ca,.slice b r.sts.length cb] 51 (0,0))]:Pcs)) (U:=[]) H_)
     ·
      refine xcq rfl (xew ?_) ?_
      ·
       intro val79 pc80 hQ_ hX_
       obtain ⟨q_,hq0_⟩: ∃ q_:Value→Pcs→Prop,q_=(fun v_ x_=>v_= .agg #[.slice a r.room.length ca,.slice b r.sts.length cb]∧x_=[]):=⟨_,rfl⟩
       refine ⟨(zq1 (zq2 (zq16 (zq32 (zq32 (zq32 (zq32 (zq32 (zq32 []))))))))),[],q_,rfl,rfl,(fun _ _ z_=>by subst hq0_;exact z_),?_⟩
       subst hq0_
       exact xfx mn (fun _ h_ H_=>xbk H_ tA51 tS51 rfl (i:=0) rfl (vs:=[.slice a r.room.length ca,.slice b r.sts.length cb]) rfl rfl) ⟨rfl,rfl⟩
      refine xcq rfl (xew ?_) ?_
      ·
       intro val79 pc80 hQ_ hX_
       obtain ⟨q_,hq0_⟩: ∃ q_:Value→Pcs→Prop,q_=(fun v_ x_=>OwnS 3 1 v_ [] x_):=⟨_,rfl⟩
       refine ⟨(zq1 (zq2 (zq16 (zq32 (zq32 (zq32 (zq32 (zq32 (zq32 []))))))))),[],q_,rfl,rfl,(fun _ _ z_=>by subst hq0_;exact z_),?_⟩
       subst hq0_
       exact xsz mn Tryz.underlying26 tS3 tZ3 (Nat.le_of_ble_eq_true rfl) (vs:=[]) rfl rfl (es:=[]) rfl rfl rfl fun _ _ o_=>o_
      refine xcq rfl (xew ?_) ?_
      ·
       intro val79 pc80 hQ_ hX_
       obtain ⟨q_,hq0_⟩: ∃ q_:Value→Pcs→Prop,q_=(fun v_ x_=>v_= .slice a69 r.sts.length cp70∧x_=[]):=⟨_,rfl⟩
       refine ⟨(zq1 (zq2 (zq16 (zq32 (zq32 (zq32 (zq32 (zq32 (zq32 []))))))))),[],q_,rfl,rfl,(fun _ _ z_=>by subst hq0_;exact z_),?_⟩
       subst hq0_
       exact xfx mn (fun _ h_ H_=>xax (v:=.slice a69 r.sts.length cp70) rfl) ⟨rfl,rfl⟩
      refine xcq rfl (xew ?_) ?_
      ·
       intro val79 pc80 hQ_ hX_
       have q1_:OwnS 3 1 (val79 1) [] (pc80 1):=hQ_ 1 rfl
       have e2_:val79 2= .slice a69 r.sts.length cp70:=(hQ_ 2 rfl).1
       obtain ⟨q_,hq0_⟩: ∃ q_:Value→Pcs→Prop,q_=(fun v_ x_=>OwnS 3 1 v_ ([]++(l.map fun x=>[Value.int .i64 x])) x_):=⟨_,rfl⟩
       refine ⟨(zq1 (zq2 (zq16 (zq32 (zq32 (zq32 (zq32 (zq32 (zq32 []))))))))),((pc80 1)++[]),q_,(by rw [e2_]),rfl,(fun _ _ z_=>by subst hq0_;exact z_),?_⟩
       subst hq0_
       exact ybk mn Tryz.underlying26 tS3 tZ3 rfl tB3 Tryz.underlying26 rfl rfl q1_ (show Ints _ _ _ l from D72) (xyj _) (by show (0+_)*_≤_;omega) (by decide) (by decide) fun _ _ o_=>o_
      refine xcq rfl (xew ?_) ?_
      ·
       intro val79 pc80 hQ_ hX_
       have e0_:val79 0= .agg #[.slice a r.room.length ca,.slice b r.sts.length cb]:=(hQ_ 0 rfl).1
       have q3_:OwnS 3 1 (val79 3) ([]++(l.map fun x=>[Value.int .i64 x])) (pc80 3):=hQ_ 3 rfl
       obtain ⟨q_,hq0_⟩: ∃ q_:Value→Pcs→Prop,q_=(fun v_ x_=>v_= .tuple #[.agg #[.int .i64 0,.int .i64 0],.int .i64 3]∧x_=[]):=⟨_,rfl⟩
       refine ⟨(zq1 (zq2 (zq16 (zq32 (zq32 (zq32 (zq32 (zq32 (zq32 []))))))))),((pc80 3)++[]),q_,(by rw [e0_]),rfl,(fun _ _ z_=>by subst hq0_;exact z_),?_⟩
       subst hq0_
       exact yix mn (first:=[]) (cap:=[]) rfl rfl fC27 (fun _ h_ H_=>(show CallsX _ .lone 27 #[.agg #[.slice a r.room.length ca,.slice b r.sts.length cb],(val79 3)] h_ (fun v_ h2_=>v_= .tuple #[.agg #[.int .i64 0,.int .i64 0],.int .i64 3]∧Keep h_ h2_) from yfq (n:=r.sts.length) (show OwnS 3 1 (val79 3) (ics l) _ from q3_) ((xhj _).trans hll) H_ (fun x_ h_=>by simp [h_]) fun p_ a_ c_ hp_ le_ hv_ D_=>by rw [hv_];exact c27 .lone _ _ hp_ _ _ _ _ r (show RstP _ _ _ _ _ r from ⟨(((((R.r.mono le12).mono le28).mono le41).mono le49).mono le71).mono le_,(((((R.s.mono le12).mono le28).mono le41).mono le49).mono le71).mono le_⟩) hn _ _ _ l (show Ints _ _ _ l from D_) (by omega) hB hgood hmin).mono fun v_ h2_ ⟨e_,k_⟩=>⟨[],⟨e_,rfl⟩,(H_.call k_).sub (List.sublist_append_right _ _)⟩)
      refine xcq rfl (xew ?_) ?_
      ·
       intro val79 pc80 hQ_ hX_
       have e4_:val79 4= .tuple #[.agg #[.int .i64 0,.int .i64 0],.int .i64 3]:=(hQ_ 4 rfl).1
       obtain ⟨q_,hq0_⟩: ∃ q_:Value→Pcs→Prop,q_=(fun v_ x_=>v_= .tuple #[.agg #[.int .i64 0,.int .i64 0],.int .i64 3]∧x_=[]):=⟨_,rfl⟩
       refine ⟨(zq1 (zq2 (zq16 (zq32 (zq32 (zq32 (zq32 (zq32 (zq32 []))))))))),[],q_,(by rw [e4_]),rfl,(fun _ _ z_=>by subst hq0_;exact z_),?_⟩
       subst hq0_
       exact xfx mn (fun _ h_ H_=>xax (v:=.tuple #[.agg #[.int .i64 0,.int .i64 0],.int .i64 3]) rfl) ⟨rfl,rfl⟩
      refine xcq rfl (xew ?_) ?_
      ·
       intro val79 pc80 hQ_ hX_
       have e5_:val79 5= .tuple #[.agg #[.int .i64 0,.int .i64 0],.int .i64 3]:=(hQ_ 5 rfl).1
       obtain ⟨q_,hq0_⟩: ∃ q_:Value→Pcs→Prop,q_=(fun v_ x_=>v_= .agg #[.int .i64 0,.int .i64 0]∧x_=[]):=⟨_,rfl⟩
       refine ⟨(zq1 (zq2 (zq16 (zq32 (zq32 (zq32 (zq32 (zq32 (zq32 []))))))))),[],q_,(by rw [e5_]),rfl,(fun _ _ z_=>by subst hq0_;exact z_),?_⟩
       subst hq0_
       exact xfx mn (fun _ h_ H_=>xdw rfl (v:=.agg #[.int .i64 0,.int .i64 0]) rfl) ⟨rfl,rfl⟩
      refine xcq rfl (xew ?_) ?_
      ·
       intro val79 pc80 hQ_ hX_
       have e5_:val79 5= .tuple #[.agg #[.int .i64 0,.int .i64 0],.int .i64 3]:=(hQ_ 5 rfl).1
       obtain ⟨q_,hq0_⟩: ∃ q_:Value→Pcs→Prop,q_=(fun v_ x_=>v_= .int .i64 3∧x_=[]):=⟨_,rfl⟩
       refine ⟨(zq1 (zq2 (zq16 (zq32 (zq32 (zq32 (zq32 (zq32 (zq32 []))))))))),[],q_,(by rw [e5_]),rfl,(fun _ _ z_=>by subst hq0_;exact z_),?_⟩
       subst hq0_
       exact xfx mn (fun _ h_ H_=>xdw rfl (v:=.int .i64 3) rfl) ⟨rfl,rfl⟩
      refine xcq rfl (xew ?_) ?_
      ·
       intro val79 pc80 hQ_ hX_
       obtain ⟨q_,hq0_⟩: ∃ q_:Value→Pcs→Prop,q_=(fun v_ x_=>∃ b81:Nat,v_= .pointer (some ⟨b81,0,none⟩)∧x_=(([(b81,.cells #[.int .i64 0,.int .i64 0] 63 (0,0))]:Pcs)++[])):=⟨_,rfl⟩
       refine ⟨(zq1 (zq2 (zq16 (zq32 (zq32 (zq32 (zq32 (zq32 (zq32 []))))))))),[],q_,rfl,rfl,(fun _ _ z_=>by subst hq0_;exact z_),?_⟩
       subst hq0_
       exact ydx mn tZ63 rfl fun b_=>⟨b_,rfl,rfl⟩
      refine xcq rfl (xew ?_) ?_
      ·
       intro val79 pc80 hQ_ hX_
       have e0_:val79 0= .agg #[.slice a r.room.length ca,.slice b r.sts.length cb]:=(hQ_ 0 rfl).1
       have q1_:OwnS 3 1 (val79 1) [] (pc80 1):=hQ_ 1 rfl
       have e2_:val79 2= .slice a69 r.sts.length cp70:=(hQ_ 2 rfl).1
       have q3_:OwnS 3 1 (val79 3) ([]++(l.map fun x=>[Value.int .i64 x])) (pc80 3):=hQ_ 3 rfl
       have e4_:val79 4= .tuple #[.agg #[.int .i64 0,.int .i64 0],.int .i64 3]:=(hQ_ 4 rfl).1
       have e5_:val79 5= .tuple #[.agg #[.int .i64 0,.int .i64 0],.int .i64 3]:=(hQ_ 5 rfl).1
       have e6_:val79 6= .agg #[.int .i64 0,.int .i64 0]:=(hQ_ 6 rfl).1
       obtain ⟨e8_,x8_⟩:=hG8_ _ _ (hQ_ 8 rfl)
       generalize hg_b81:Gb81 (val79 8) (pc80 8)=b81 at*
       obtain ⟨q_,hq0_⟩: ∃ q_:Value→Pcs→Prop,q_=(fun v_ x_=>v_=undef∧x_=[(b81,.cells #[.int .i64 0,.int .i64 0] 63 (0,0))]):=⟨_,rfl⟩
       refine ⟨(zq1 (zq2 (zq16 (zq32 (zq32 (zq32 (zq32 (zq32 (zq32 []))))))))),((([(b81,.cells #[.int .i64 0,.int .i64 0] 63 (0,0))]:Pcs)++[])++[]),q_,(by rw [e0_,e2_,e4_,e5_,e6_,e8_]),(by rw [← x8_];rfl),(fun _ _ z_=>by subst hq0_ hg_b81;exact z_),?_⟩
       subst hq0_
       exact zwq mn tS63 rfl (v:=.agg #[.int .i64 0,.int .i64 0]) rfl rfl rfl (Nat.le_of_ble_eq_true rfl) (cs2:=[.int .i64 0,.int .i64 0]) rfl ⟨rfl,rfl⟩
      exact xpk rfl
     intro val79 pc80 hQ_ hX_
     have e0_:val79 0= .agg #[.slice a r.room.length ca,.slice b r.sts.length cb]:=(hQ_ 0 (by decide)).1
     have e2_:val79 2= .slice a69 r.sts.length cp70:=(hQ_ 2 (by decide)).1
     have e4_:val79 4= .tuple #[.agg #[.int .i64 0,.int .i64 0],.int .i64 3]:=(hQ_ 4 (by decide)).1
     have e5_:val79 5= .tuple #[.agg #[.int .i64 0,.int .i64 0],.int .i64 3]:=(hQ_ 5 (by decide)).1
     have e6_:val79 6= .agg #[.int .i64 0,.int .i64 0]:=(hQ_ 6 (by decide)).1
     have e7_:val79 7= .int .i64 3:=(hQ_ 7 (by decide)).1
     obtain ⟨e8_,x8_⟩:=hG8_ _ _ (hQ_ 8 (by decide))
     have x9_:pc80 9=[((Gb81 (val79 8) (pc80 8)),.cells #[.int .i64 0,.int .i64 0] 63 (0,0))]:=(hQ_ 9 (by decide)).2
     clear hQ_ hX_
     generalize Gb81 (val79 8) (pc80 8)=b81 at*
     refine yok (Φ:=fun h_=>St h [] p68 h_ (([(b1,.cells #[.slice a r.room.length ca,.slice b r.sts.length cb] 51 (0,0))]:Pcs)++(pc80 9++[]))) ?_ (fun h_ H_=>H_.swap')
     rw [x9_]
     refine xfz (tm':=(zq1 (zq2 (zq16 (zq32 (zq32 (zq32 (zq32 (zq32 (zq32 [])))))))))) (by rw [e0_,e2_,e4_,e5_,e6_,e7_,e8_]) ?_
     refine xcz (L':=([(b1,.cells #[.slice a r.room.length ca,.slice b r.sts.length cb] 51 (0,0))]:Pcs)++(([(b81,.cells #[.int .i64 0,.int .i64 0] 63 (0,0))]:Pcs)++[])) rfl ?_
     refine xjw (List.perm_append_comm_assoc ([(b1,.cells #[.slice a r.room.length ca,.slice b r.sts.length cb] 51 (0,0))]:Pcs) ([(b81,.cells #[.int .i64 0,.int .i64 0] 63 (0,0))]:Pcs) _) ?_
     refine xcz (L':=[(b81,.cells #[.int .i64 0,.int .i64 0] 63 (0,0)),(b1,.cells #[.slice a r.room.length ca,.slice b r.sts.length cb] 51 (0,0))]) rfl ?_
     refine rt (xaq (v:=.int .i64 3) rfl) (tm':=zq4 (zq8 (zq16 _))) rfl <| ren <| xav <| ro (xax (v:=.slice a69 r.sts.length cp70) rfl) <| ro (xax (v:=.slice a10 r.sts.length cp11) rfl) ?_
     refine xcw mn (first:=[]) (cap:=[]) rfl rfl fC28 (fun h_ H_=>c28 .lone _ _ H_.pe _ _ _ _ _ _ _ _ (show Ints _ _ _ l from D72) (((((show Ints _ _ _ l from D13).mono le28).mono le41).mono le49).mono le71) (by omega)) (tm':=zq1 (zq2 (zq16 (zq32 (zq32 (zq32 (zq32 (zq32 (zq32 []))))))))) rfl ?_
     refine ro (xax (v:=.bool (decide (l=l))) rfl) ?_
     refine xaj (ms rfl rfl (decide_eq_true rfl)) (fun h_ H_=>xax (v:=.int .i64 0) rfl) rfl ?_
     refine xaj (ms rfl rfl (decide_eq_true rfl)) (fun h_ H_=>xmj rfl rfl) (tm':=zq1 (zq2 (zq16 (zq32 (zq32 (zq32 (zq32 (zq32 (zq32 []))))))))) rfl ?_
     refine ro (xbw rfl (decide_eq_true rfl) (v:=.bool (decide ((0:Int)=0))) rfl) <| ro (xax (v:=.bool (decide ((0:Int)=0))) rfl) ?_
     refine xaj (ms rfl rfl (by decide)) (fun h_ H_=>xax (v:=.int .i64 (costK r l r.sts.length)) rfl) (tm':=zq1 (zq2 (zq16 (zq32 (zq32 (zq32 (zq32 (zq32 (zq32 []))))))))) rfl ?_
     refine xaj (ms rfl rfl (by decide)) (fun h_ H_=>xax (v:=.int .i64 ((bestF r.sts r.room).1)) rfl) rfl ?_
     refine xaj (ms rfl rfl (by decide)) (fun h_ H_=>xmj rfl rfl) rfl ?_
     refine rt (xbw rfl (by decide) (v:=.bool (decide (costK r l r.sts.length=(bestF r.sts r.room).1))) rfl) (tm':=zq1 (zq2 (zq16 (zq32 (zq32 (zq32 (zq32 (zq32 (zq32 []))))))))) rfl ?_
     refine ro (xax (v:=.bool (decide (costK r l r.sts.length=(bestF r.sts r.room).1))) rfl) ?_
     refine xaj (ms rfl rfl (decide_eq_true hcost)) (fun h_ H_=>xax (v:=.int .i64 3) rfl) rfl ?_
     refine xaj (ms rfl rfl (decide_eq_true hcost)) (fun h_ H_=>xmj rfl rfl) (tm':=zq1 (zq2 (zq16 (zq32 (zq32 (zq32 (zq32 (zq32 (zq32 []))))))))) rfl ?_
     refine ro (xbw rfl (decide_eq_true hcost) (v:=.bool (decide ((3:Int)=3))) rfl) <| ro (xax (v:=.bool (decide ((3:Int)=3))) rfl) ?_
     refine xcw (ms rfl rfl (by decide)) (first:=[]) (cap:=[]) rfl rfl fC19 (fun h_ H_=>c19 _ (htab.keep H_.kept)) (tm':=zq1 (zq2 (zq16 (zq32 (zq32 (zq32 (zq32 (zq32 (zq32 []))))))))) rfl ?_
     refine ro (xbw rfl (by decide) (v:=.bool (true)) rfl) ?_
     refine ro (xaq (v:=.bool (true)) rfl) <| xak ?_
     refine yfx Tryz.func4 rfl (vs:=[.bool (true)]) (fun h_ H_=>⟨.bool (true),_,rfl,rfl,rfl⟩) (v:=.bool (true)) rfl ?_
     exact fun h_ H_=>⟨rfl,H_.kept⟩
theorem c4b (h:Heap) (p:PHeap) (hp:Per p h) (htab:Tab h) (a:Option Addr) (ca:Nat) (b:Option Addr) (cb:Nat) (r:Rst) (R:RstP p a r.room.length b r.sts.length r) (hl:r.room.length≤9223372036854775807∧r.sts.length≤9223372036854775807) (hne: ¬ 0≤(bestF r.sts r.room).2):EntersL Tryz.prog 4 #[.agg #[.slice a r.room.length ca,.slice b r.sts.length cb]] h fun v h'=>v= .bool true∧Keep h h':=by
 refine ydj (Φ:=fun h_=>St h [] p h_ []) Tryz.func4 rfl (tm:=zq1 (zq2 (zq16 (zq32 (zq32 (zq32 (zq32 (zq32 (zq32 []))))))))) rfl ?_ (St.start h _ hp)
 intro cs
 refine fsr ?_
 refine xjq mn (v:=.agg #[.slice a r.room.length ca,.slice b r.sts.length cb]) rfl fun b1=>xcz (L':=[(b1,.cells #[.slice a r.room.length ca,.slice b r.sts.length cb] 51 (0,0))]) rfl ?_
 refine xfz (tm':=_::_::_) rfl ?_
 refine ro (xaq (v:=.bool (false)) rfl) <| ren <| fsr <| rd (fun h_ H_=>xbk H_ tA51 tS51 rfl (i:=0) rfl (vs:=[.slice a r.room.length ca,.slice b r.sts.length cb]) rfl rfl) ?_
 refine xcz (L':=([(b1,.cells #[.slice a r.room.length ca,.slice b r.sts.length cb] 51 (0,0))]:Pcs)++[]) rfl ?_
 refine xgv mn (first:=[]) (cap:=[]) rfl rfl fC17 (R:=fun v_ h_=>∃ x2:Bool,v_= .bool (x2)∧(x2=false→r.room.length≤40∧r.sts.length≤40)∧St h [] p h_ (([(b1,.cells #[.slice a r.room.length ca,.slice b r.sts.length cb] 51 (0,0))]:Pcs)++([]++[]))) (fun h_ H_=>((show CallsX _ .lone 17 _ _ (fun v h'=>∃ x:Bool,v= .bool x∧(x=false→r.room.length≤40∧r.sts.length≤40)∧New h_ h' []) from (c17 .lone _ _ H_.pe _ _ _ _ _ (show RstP _ _ _ _ _ r from ⟨R.r,R.s⟩) hl).mono fun v h' ⟨⟨x,e,z⟩,k⟩=>⟨x,e,z,⟨k,nofun,.nil⟩⟩)).mono fun v_ h2_ ⟨x2,e_,fx3,N_⟩=>⟨x2,e_,fx3,H_.callNA N_⟩) fun v_=>?_
 refine xgx fun x2=>xez fun ev_=>xez fun fx3=>?_
 have ev_:=ev_.symm;subst ev_
 refine xcz (L':=[(b1,.cells #[.slice a r.room.length ca,.slice b r.sts.length cb] 51 (0,0))]) (by simp) ?_
 refine xfz (tm':=zq2 (zq4 (zq8 (zq16 _)))) rfl ?_
 refine ro (xax (v:=.bool (x2)) rfl) ?_
 rcases xtx (x2) with cc4 | cc4
 ·
  refine rp (mo rfl rfl cc4) <| xck (mo rfl rfl cc4) (tm':=zq1 (zq32 _)) rfl <| rp (mo rfl rfl cc4) <| ro (xbw rfl cc4 (v:=.bool (true)) rfl) <| xak <| xcx rfl rfl ?_
  refine fsr ?_
  refine xcw mn (first:=[]) (cap:=[]) rfl rfl fC19 (fun h_ H_=>c19 _ (htab.keep H_.kept)) (tm':=zq4 (zq32 _)) rfl ?_
  refine ro (xaq (v:=.bool (true)) rfl) <| xak ?_
  refine yfx Tryz.func4 rfl (vs:=[.bool (true)]) (fun h_ H_=>⟨.bool (true),_,rfl,rfl,rfl⟩) (v:=.bool (true)) rfl ?_
  exact fun h_ H_=>⟨rfl,H_.kept⟩
 ·
  have hn:=fx3 cc4
  refine xaj (ms rfl rfl cc4) (fun h_ H_=>xbk H_ tA51 tS51 rfl (i:=0) rfl (vs:=[.slice a r.room.length ca,.slice b r.sts.length cb]) rfl rfl) rfl ?_
  refine xcw (ms rfl rfl cc4) (first:=[]) (cap:=[]) rfl rfl fC18 (fun h_ H_=>c18 .lone _ _ H_.pe _ _ _ _ r (show RstP _ _ _ _ _ r from ⟨R.r,R.s⟩) hn) (tm':=zq1 (zq32 _)) rfl ?_
  refine xaj (ms rfl rfl cc4) (fun h_ H_=>xgw rfl rfl) rfl ?_
  refine ro (xdq rfl cc4 (v:=.bool (decide (chkH r≠0))) rfl) <| xak ?_
  by_cases cc5:chkH r≠0
  ·
   refine xcx rfl (dtt cc5) <| fsr ?_
   refine xcw mn (first:=[]) (cap:=[]) rfl rfl fC19 (fun h_ H_=>c19 _ (htab.keep H_.kept)) (tm':=zq4 (zq32 _)) rfl ?_
   refine ro (xaq (v:=.bool (true)) rfl) <| xak ?_
   refine yfx Tryz.func4 rfl (vs:=[.bool (true)]) (fun h_ H_=>⟨.bool (true),_,rfl,rfl,rfl⟩) (v:=.bool (true)) rfl ?_
   exact fun h_ H_=>⟨rfl,H_.kept⟩
  ·
   have hB:rosB r:=yvv (by omega)
   have hs6_:=hB.2.2.1
   refine xcv rfl (dff cc5) <| xdz <| fsr <| rd (fun h_ H_=>xbk H_ tA51 tS51 rfl (i:=0) rfl (vs:=[.slice a r.room.length ca,.slice b r.sts.length cb]) rfl rfl) ?_
   refine xcw mn (first:=[]) (cap:=[]) rfl rfl fC20 (fun h_ H_=>c20b .lone _ _ H_.pe _ _ _ _ _ (show RstP _ _ _ _ _ r from ⟨R.r,R.s⟩) hn hB hne) (tm':=zq1 (zq2 (zq4 (zq32 _)))) rfl ?_
   refine ro (xax (v:=.tuple #[.slice none 0 0,.int .i64 3]) rfl) <| ro (xdw rfl (v:=.slice none 0 0) rfl) <| rt (xdw rfl (v:=.int .i64 3) rfl) (tm':=zq1 (zq8 (zq32 _))) rfl <| ro (xaq (v:=.slice none 0 0) rfl) <| ro (xaq (v:=.int .i64 3) rfl) <| ren ?_
   refine xav ?_
   refine xaj mn (fun h_ H_=>xbk H_ tA51 tS51 rfl (i:=0) rfl (vs:=[.slice a r.room.length ca,.slice b r.sts.length cb]) rfl rfl) (tm':=zq1 (zq2 (zq8 (zq32 _)))) rfl ?_
   refine xcw mn (first:=[]) (cap:=[]) rfl rfl fC21 (fun h_ H_=>c21b .lone _ _ H_.pe _ _ _ _ _ (show RstP _ _ _ _ _ r from ⟨R.r,R.s⟩) hn hB hne) rfl ?_
   refine ro (xax (v:=.tuple #[.int .i64 0,.int .i64 3]) rfl) <| rt (xdw rfl (v:=.int .i64 0) rfl) (tm':=zq1 (zq4 (zq8 (zq32 _)))) rfl <| ro (xdw rfl (v:=.int .i64 3) rfl) <| ro (xaq (v:=.int .i64 0) rfl) <| rt (xaq (v:=.int .i64 3) rfl) (tm':=zq1 (zq2 (zq4 _))) rfl <| ren ?_
   refine fsr <| ro (xax (v:=.int .i64 3) rfl) <| ro (xax (v:=.int .i64 3) rfl) <| rt (xgw rfl rfl) (tm':=zq1 (zq16 (zq32 _))) rfl <| ro (xax (v:=.bool (decide ((3:Int)≠3))) rfl) ?_
   refine xaj (ms rfl rfl (by decide)) (fun h_ H_=>xax (v:=.int .i64 3) rfl) rfl ?_
   refine xaj (ms rfl rfl (by decide)) (fun h_ H_=>xgw rfl rfl) (tm':=zq4 (zq16 (zq32 _))) rfl ?_
   refine xaj (ms rfl rfl (by decide)) (fun h_ H_=>xax (v:=.bool (decide ((3:Int)≠0))) rfl) rfl ?_
   refine xaj (ms rfl rfl (by decide)) (fun h_ H_=>xax (v:=.int .i64 3) rfl) rfl ?_
   refine xaj (ms rfl rfl (by decide)) (fun h_ H_=>xgw rfl rfl) (tm':=zq1 (zq2 (zq4 (zq16 (zq32 _))))) rfl ?_
   refine xaj (ms rfl rfl (by decide)) (fun h_ H_=>xbw rfl (by decide) (v:=.bool (decide ((3:Int)≠3))) rfl) rfl ?_
   refine ro (xdq rfl (by decide) (v:=.bool (decide ((3:Int)≠3))) rfl) ?_
   refine rt (xax (v:=.bool (decide ((3:Int)≠3))) rfl) (tm':=zq2 (zq8 (zq16 (zq32 _)))) rfl ?_
   refine xaj (ms rfl rfl (by decide)) (fun h_ H_=>xax (v:=.int .i64 3) rfl) rfl ?_
   refine xaj (ms rfl rfl (by decide)) (fun h_ H_=>xmj rfl rfl) rfl ?_
   refine xaj (ms rfl rfl (by decide)) (fun h_ H_=>xax (v:=.bool (decide ((3:Int)=0))) rfl) (tm':=zq1 (zq4 (zq8 (zq16 (zq32 _))))) rfl ?_
   refine rp (mo rfl rfl (by decide)) ?_
   refine rp (mo rfl rfl (by decide)) ?_
   refine xck (mo rfl rfl (by decide)) (tm':=zq32 (zq32 _)) rfl ?_
   refine rp (mo rfl rfl (by decide)) ?_
   refine xaj (ms rfl rfl (by decide)) (fun h_ H_=>xdq rfl (by decide) (v:=.bool (false)) rfl) rfl ?_
   refine rt (xdq rfl (by decide) (v:=.bool (false)) rfl) (tm':=zq1 (zq2 (zq32 (zq32 _)))) rfl ?_
   refine xak <| xcv rfl rfl <| xdz <| xbj <| fsr <| ro (xax (v:=.int .i64 3) rfl) ?_
   refine ro (xgw rfl rfl) <| xak ?_
   refine xcx rfl (by decide) ?_
   refine fsr ?_
   refine xcw mn (first:=[]) (cap:=[]) rfl rfl fC19 (fun h_ H_=>c19 _ (htab.keep H_.kept)) (tm':=zq2 (zq4 (zq32 (zq32 _)))) rfl ?_
   refine ro (xaq (v:=.bool (true)) rfl) <| xak ?_
   refine yfx Tryz.func4 rfl (vs:=[.bool (true)]) (fun h_ H_=>⟨.bool (true),_,rfl,rfl,rfl⟩) (v:=.bool (true)) rfl ?_
   exact fun h_ H_=>⟨rfl,H_.kept⟩
theorem e4 (h:Heap) (p:PHeap) (hp:Per p h) (htab:Tab h) (a:Option Addr) (ca:Nat) (b:Option Addr) (cb:Nat) (r:Rst) (R:RstP p a r.room.length b r.sts.length r) (hl:r.room.length≤9223372036854775807∧r.sts.length≤9223372036854775807):EntersL Tryz.prog 4 #[.agg #[.slice a r.room.length ca,.slice b r.sts.length cb]] h fun v h'=>v= .bool true∧Keep h h':=by
 by_cases hne:0≤(bestF r.sts r.room).2
 ·
  exact c4a h p hp htab a ca b cb r R hl hne
 ·
  exact c4b h p hp htab a ca b cb r R hl hne
end Go.Proofs.YtphalmjpbnffcaaGreatDoor
namespace Go.Proofs.YtphalmjpbnffcaaGreatDoor
open Go.X Go.X.Kn Go.X.Cent Go.Conc Go.RowKit Go.ChangeShapes Go.WideShapes Go.ChangeAt Go.Joins
set_option maxRecDepth 100000

theorem wnj (os:Os) (started:os.Started) (H:Type) (enc:TypeId × Value→H):
    ReturnsInHanded {} Tryz.checked os 4 .any (fun w args=>(Rows.topTurnedSpec.pre enc Tryz.prog Tryz.f4 Rows.topTurnedRow.domain false w args∧laidMetH Tryz.prog Rows.topTurnedRow.laid w)∧sizedMet enc Tryz.prog Tryz.f4 (OpenSpec.ofChange Rows.topTurnedSpec) false w args) (Rows.topTurnedSpec.post enc Tryz.prog Tryz.f4 false true false false):=by
  refine returnsInHanded_of_change_and (C:=Tryz.checked) (X:=fun w _=>laidMetH Tryz.prog Rows.topTurnedRow.laid w) (fun _ _ _ hh h=>h.of_heap hh) pOwn started (by kernel_rfl) Tryz.func4
    (ChangeSpec.witness_shaped (enc:=enc) (C:=Tryz.checked) (os:=os) (X:=fun w _=>laidMetH Tryz.prog Rows.topTurnedRow.laid w) false (laidW os) #[.agg #[.slice none 0 0,.slice none 0 0]] 8 (World.laidAll_os _ _ _)
      (World.shaped_of_ZipB (by kernel_rfl) (by kernel_rfl)) (by kernel_rfl) (by kernel_rfl) (by kernel_rfl) (zww os _)) ?_
  intro W base args ds gs before hval0 hW _ _ hL _
  have hval: ∀ (j:Nat) t v,Tryz.f4.params[j]?=some t→args[j]?=some v→Value.okWide Tryz.prog W .any base t v:=hval0
  have hW2:=hW
  obtain ⟨p,q,hA0,hV,rfl,_,_⟩:=hW2
  have hA:DataW.TrodAll enc Tryz.prog W 0 (fun _=>true) true Tryz.f4.params.toList args.toList ds p:=hA0
  rw [Tryz.params4] at hA hval
  obtain ⟨v0,d0,rfl,rfl,h0⟩:=trodAll_one hA
  obtain ⟨rfl,rfl⟩:=trodVars_none hV
  obtain ⟨a,ca,b,cb,r,rfl,hl,B⟩:=zfv (hval 0 51 v0 rfl rfl) h0
  refine (ynv (e4 W.heap (pW W) (wrj W) (zdj hL) a ca b cb r B hl)).mono fun e W2 ⟨v,he,⟨hv,hk_⟩,cl⟩=>⟨v,he,?_⟩
  subst hv
  exact wfk wtk rfl (fun t ht=>by rw [Tryz.params4] at ht;revert t;decide +kernel) rfl Tryz.underlying4 hW rfl (whw hk_ cl)

theorem topTurnedRowHolds:Rows.TopTurnedSaid:=
  OpenClaim.holds_of_wide 4 Tryz.f4 rfl rfl rfl rfl rfl rfl rfl ⟨rfl,rfl,rfl,rfl,rfl⟩ rfl rfl rfl rfl rfl (by kernel_rfl) Tryz.func4 (by kernel_rfl)
    (of_decide_eq_true (by kernel_rfl)) (by unfold Func.isWrapper;first | (rw [if_pos (by decide +kernel)];kernel_rfl) | (rw [if_neg (by decide +kernel)];exact ⟨rfl,rfl⟩))
    (fun os started H enc _=>wnj os started H enc)

theorem topTurnedHolds:Rows.TopTurnedCardSaid:=
  Claim7.holds_tied_plain_at .later [] [.data, .data, .data, .data, .pinned] true (true, "f82cd22c945b694a24787d0422c3a62aaddf7f2684070c509961c2220b6bfd7b") false topTurnedRowHolds (fun _ h => by cases h) (by kernel_rfl) (fun _ h => by cases h) topTurned_row_tie rfl ⟨rfl, rfl⟩ (by kernel_rfl) rfl
    (fun f fn hf hfn=>by
      obtain rfl : f = 4 := Option.some.inj ((show Tryz.prog.funcNamed "steening/steeningtop.TopTurned" = some 4 by kernel_rfl).symm.trans hf) |>.symm
      obtain rfl:fn= Tryz.f4:=(Option.some.inj (Tryz.func4.symm.trans hfn)).symm
      exact ⟨by kernel_rfl,fun j t ht=>by
        rw [Tryz.params4] at ht
        have hm:t∈[51]:=by simpa using Array.mem_of_getElem? ht
        have hall:([51].all fun u=>!Tryz.prog.wantsStandIn u)=true:=by kernel_rfl
        exact (show Tryz.prog.wantsStandIn t=false by simpa using List.all_eq_true.1 hall t hm)⟩)
    (by kernel_rfl)

#print axioms topTurnedHolds
end Go.Proofs.YtphalmjpbnffcaaGreatDoor
