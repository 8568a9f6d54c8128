/-
  Part of proofs about cords and rosters in a file: a lone run, and what it computes. No condition.
-/
import Derived.Test.YtphalmjpbnffcaaGreatDoorD1
import Derived.Test.YtphalmjpbnffcaaGreatDoorD2
import Derived.Test.YtphalmjpbnffcaaGreatDoorD3
namespace Go.Proofs.YtphalmjpbnffcaaGreatDoor
open Go.X Go.X.Cent Go.Conc
set_option maxRecDepth 10000
set_option synthInstance.maxSize 2000
set_option synthInstance.maxHeartbeats 400000

set_option maxHeartbeats 1000000
theorem c14 (h:Heap) (ht:Tab h) (s:By) (hs:s.length≤2 ^ 60):CallsX Tryz.prog .lone 14 #[sv s] h fun v h'=>∃ w X,v= .tuple #[w,.int .i64 (readB s).1]∧OwnS 9 1 w (scs (readB s).2) X∧New h h' X:=by
  refine xbk (Φ:=fun h_=>St h [] (fun _=>none) h_ []) Tryz.func14 rfl (tm:=[_,_,_,_,_,_,_,_,_,_,_,_,_,_,_,_,_,_,_,_,_,_,_,_,_,_,_,_,_,_,_,_,_,_,_,_,_,_,_,_,_,_,_,_,_,_,_,_,_,_,_,_,_,_,_,_,_,_,_,_,_,_,_,_,_,_,_,_]) rfl ?_ (St.start h _ (fun _ _ e=>by cases e))
  intro c₀ cs Stop K
  refine xaw ?_
  refine xak ?_
  refine xaj (xaq rfl) (fun h_ H_=>xax (v:=.slice none 0 0) rfl) rfl ?_
  refine xaj (xaq rfl) (fun h_ H_=>xax (v:=.int .i64 0) rfl) rfl ?_
  refine xav ?_
  refine xaw ?_
  refine xak ?_
  refine xaj (xaq rfl) (fun h_ H_=>xaz (v:=sv s) rfl) (tm':=_::_::_::_::_::_::_::_::_::_::_::_::_) rfl ?_
  refine xdx (L':=([]:Pcs)++[]) rfl ?_
  refine xhx (xaq rfl) (first:=[]) (cap:=[]) rfl rfl fC39 (R:=fun v_ h_=>∃ w1:Value,∃ X2:Pcs,v_= .tuple #[w1,.bool ((formB s).isSome)]∧(OwnS 112 2 w1 (pies ((formB s).getD [])) X2)∧St h [] (fun _=>none) h_ (([]:Pcs)++(X2++[]))) (fun h_ H_=>(c39 _ s (by omega)).mono fun v_ h2_ ⟨w1,X2,e_,o3,N_⟩=>⟨w1,X2,e_,o3,H_.callNA N_⟩) fun v_=>?_
  refine xgj fun w1=>xgj fun X2=>xez fun ev_=>xez fun o3=>?_
  have ev_:=ev_.symm;subst ev_
  refine xdx (L':=([]:Pcs)++(X2++[])) rfl ?_
  refine xaj (xaq rfl) (fun h_ H_=>xaz (v:=.tuple #[w1,.bool ((formB s).isSome)]) rfl) rfl ?_
  refine xaj (xaq rfl) (fun h_ H_=>xdv rfl (v:=w1) rfl) (tm':=_::_::_::_::_::_::_::_::_::_::_::_::_::_::_) rfl ?_
  refine xaj (xaq rfl) (fun h_ H_=>xdv rfl (v:=.bool ((formB s).isSome)) rfl) rfl ?_
  refine xaj (xaq rfl) (fun h_ H_=>xax (v:=w1) rfl) rfl ?_
  refine xaj (xaq rfl) (fun h_ H_=>xax (v:=.bool ((formB s).isSome)) rfl) (tm':=_::_::_::_::_::_::_) rfl ?_
  refine xav ?_
  refine xaw ?_
  refine xaw ?_
  refine xak ?_
  refine xaj (xaq rfl) (fun h_ H_=>xaz (v:=.bool ((formB s).isSome)) rfl) rfl ?_
  refine xaj (xaq rfl) (fun h_ H_=>xgw rfl) rfl ?_
  refine xav ?_
  rcases xxx ((formB s).isSome) with cc4 | cc4
  · refine xcx rfl (xfz cc4) ?_
    refine xcj ?_
    refine xaw ?_
    refine xaw ?_
    obtain ⟨l,hl⟩:=Option.isSome_iff_exists.1 ‹(formB s).isSome=true›
    have h5:=yvq hl
    have e5:(((s.length:Nat):Int)-5).toNat=s.length-5:=by omega
    have hx:(formB s).getD []=l:=by rw [hl];rfl
    have hfo:=zqq s
    refine xak ?_
    refine xaj (xaq rfl) (fun h_ H_=>xaz (v:=sv s) rfl) (tm':=_::_::_::_::_::_::_::_::_::_::_::_::_::_::_::_::_::_::_) rfl ?_
    refine xaj (xaq rfl) (fun h_ H_=>xaz (v:=sv s) rfl) rfl ?_
    refine xaj (xaq rfl) (fun h_ H_=>xjx (l:=s) Tryz.underlying9 rfl) rfl ?_
    refine xaj (xaq rfl) (fun h_ H_=>xlq rfl rfl (wr (by omega))) (tm':=_::_::_::_::_::_::_::_::_::_::_::_::_::_::_::_::_::_::_::_::_::_) rfl ?_
    refine xaj (xaq rfl) (fun h_ H_=>xrw (l:=s) (r:=((((s.length:Nat):Int)-5)).toNat) Tryz.underlying9 rfl (.some _ rfl (by omega)) (by omega)) rfl ?_
    refine xdj (xaq rfl) (first:=[]) (cap:=[]) rfl rfl fC40 (fun h_ H_=>c40 _ (ht.keep H_.kept) (s.take (((((s.length:Nat):Int)-5)).toNat)) (by rw [List.length_take];omega)) rfl ?_
    refine xaj (xaq rfl) (fun h_ H_=>xaz (v:=sv s) rfl) (tm':=_::_::_::_::_::_::_::_::_::_::_::_::_::_::_::_::_::_::_::_::_::_::_::_::_) rfl ?_
    refine xaj (xaq rfl) (fun h_ H_=>xwq (l:=sealB (s.take (((((s.length:Nat):Int)-5)).toNat))) (m:=s) rfl rfl) rfl ?_
    refine xav ?_
    by_cases cc5:sealB (s.take (((((s.length:Nat):Int)-5)).toNat))=s
    · refine xcx rfl (xfz (decide_eq_true cc5)) ?_
      refine xcj ?_
      refine xaw ?_
      refine xak ?_
      refine xaj (xaq rfl) (fun h_ H_=>xaz (v:=w1) rfl) rfl ?_
      refine xhx (xaq rfl) (first:=[]) (cap:=[]) rfl rfl fC41 (R:=fun v_ h_=>∃ w6:Value,∃ X7:Pcs,v_= .tuple #[sv (((rdTo [] ((formB s).getD [])).getD []).flatten),w6,.bool ((rdTo [] ((formB s).getD [])).isSome)]∧(OwnS 9 1 w6 (scs ((rdTo [] ((formB s).getD [])).getD [])) X7)∧St h [] (fun _=>none) h_ (([]:Pcs)++(X7++(X2++[])))) (fun h_ H_=>(c41o .lone o3 H_ (fun x_ h_=>by simp [h_]) (by omega) (zyj s)).mono fun v_ h2_ ⟨w6,X7,e_,o8,N_⟩=>⟨w6,X7,e_,o8,H_.callNA N_⟩) fun v_=>?_
      refine xgj fun w6=>xgj fun X7=>xez fun ev_=>xez fun o8=>?_
      have ev_:=ev_.symm;subst ev_
      refine xdx (L':=([]:Pcs)++(X7++(X2++[]))) rfl ?_
      refine xew (tm':=_::_::_::_::_::_::_::_::_::_::_::_::_::_::_::_::_::_::_::_::_::_::_::_::_::_::_::_::_) rfl ?_
      refine xaj (xaq rfl) (fun h_ H_=>xaz (v:=.tuple #[sv (((rdTo [] ((formB s).getD [])).getD []).flatten),w6,.bool ((rdTo [] ((formB s).getD [])).isSome)]) rfl) rfl ?_
      refine xaj (xaq rfl) (fun h_ H_=>xdv rfl (v:=sv (((rdTo [] ((formB s).getD [])).getD []).flatten)) rfl) rfl ?_
      refine xaj (xaq rfl) (fun h_ H_=>xdv rfl (v:=w6) rfl) (tm':=_::_::_::_::_::_::_::_::_::_::_::_::_::_::_::_::_::_::_::_::_::_::_::_::_::_::_::_::_::_::_) rfl ?_
      refine xaj (xaq rfl) (fun h_ H_=>xdv rfl (v:=.bool ((rdTo [] ((formB s).getD [])).isSome)) rfl) rfl ?_
      refine xaj (xaq rfl) (fun h_ H_=>xax (v:=sv (((rdTo [] ((formB s).getD [])).getD []).flatten)) rfl) rfl ?_
      refine xaj (xaq rfl) (fun h_ H_=>xax (v:=w6) rfl) (tm':=_::_::_::_::_::_::_::_::_) rfl ?_
      refine xaj (xaq rfl) (fun h_ H_=>xax (v:=.bool ((rdTo [] ((formB s).getD [])).isSome)) rfl) rfl ?_
      refine xav ?_
      refine xaw ?_
      refine xaw ?_
      refine xak ?_
      refine xaj (xaq rfl) (fun h_ H_=>xaz (v:=.bool ((rdTo [] ((formB s).getD [])).isSome)) rfl) rfl ?_
      refine xaj (xaq rfl) (fun h_ H_=>xgw rfl) (tm':=_::_::_::_::_::_::_::_::_::_::_::_::_::_::_::_::_::_::_::_::_::_::_::_::_::_::_::_::_::_::_::_::_::_) rfl ?_
      refine xav ?_
      rcases xxx ((rdTo [] ((formB s).getD [])).isSome) with cc9 | cc9
      · refine xcx rfl (xfz cc9) ?_
        refine xcj ?_
        refine xaw ?_
        obtain ⟨e,he⟩:=Option.isSome_iff_exists.1 ‹(rdTo [] ((formB s).getD [])).isSome=true›
        have hfl:=wfx he (by omega)
        rw [hx] at he
        have hAL:((rdTo [] ((formB s).getD [])).getD []).flatten=e.flatten:=by rw [hx,he];rfl
        have hfl2:((rdTo [] ((formB s).getD [])).getD []).flatten.length≤1000000:=by rw [hAL];exact hfl
        have hcl:=zew (((rdTo [] ((formB s).getD [])).getD []).flatten)
        refine xak ?_
        refine xaj (xaq rfl) (fun h_ H_=>xaz (v:=sv (((rdTo [] ((formB s).getD [])).getD []).flatten)) rfl) rfl ?_
        refine xfq ([]:Pcs) (xaq rfl) Tryz.underlying47 tS5 tZ5 (Nat.le_of_ble_eq_true rfl) (vs:=[(0,.int .u8 10)]) rfl rfl (es:=[[.int .u8 10]]) rfl rfl rfl fun v10 X11 o12=>?_
        refine xaj (xaq rfl) (fun h_ H_=>xvw (A:=([]:Pcs)) (o12.as (show _=bcs [10] from rfl)) H_ Tryz.underlying47 Tryz.underlying9 Tryz.underlying5 rfl) (tm':=_::_::_::_::_::_::_::_::_::_::_::_::_::_::_::_::_::_::_::_::_::_::_::_::_::_::_::_::_::_::_::_::_::_::_::_::_) rfl ?_
        refine xhx (xaq rfl) (first:=[]) (cap:=[]) rfl rfl fC42 (R:=fun v_ h_=>∃ w13:Value,∃ X14:Pcs,v_=w13∧(OwnS 9 1 w13 (scs (cutAfter 10 (((rdTo [] ((formB s).getD [])).getD []).flatten))) X14)∧St h [] (fun _=>none) h_ (([]:Pcs)++(X14++(X11++(X7++(X2++[])))))) (fun h_ H_=>(c42 _ (((rdTo [] ((formB s).getD [])).getD []).flatten) 10 (by omega)).mono fun v_ h2_ ⟨w13,X14,e_,o15,N_⟩=>⟨w13,X14,e_,o15,H_.callNA N_⟩) fun v_=>?_
        refine xgj fun w13=>xgj fun X14=>xez fun ev_=>xez fun o15=>?_
        have ev_:=ev_.symm;subst ev_
        refine xdx (L':=([]:Pcs)++(X14++(X11++(X7++(X2++[]))))) rfl ?_
        refine xaj (xaq rfl) (fun h_ H_=>xax (v:=w13) rfl) rfl ?_
        refine xav ?_
        refine xaw ?_
        refine xak ?_
        refine xaj (xaq rfl) (fun h_ H_=>xaz (v:=w13) rfl) (tm':=_::_::_::_::_::_::_::_::_::_::_::_::_::_::_::_::_::_::_::_::_::_::_::_::_::_::_::_::_::_::_::_::_::_::_::_::_::_::_) rfl ?_
        refine xaj (xaq rfl) (fun h_ H_=>xaz (v:=w13) rfl) rfl ?_
        refine xaj (xaq rfl) (fun h_ H_=>xrq o15 (xek _) Tryz.underlying33 rfl) rfl ?_
        refine xaj (xaq rfl) (fun h_ H_=>xlq rfl rfl (wr (by omega))) (tm':=_::_::_::_::_::_::_::_::_::_::_::_::_::_::_::_::_::_::_::_::_::_::_::_::_::_::_::_::_::_::_::_::_::_::_::_::_::_::_::_::_::_) rfl ?_
        refine xaj (xaq rfl) (fun h_ H_=>zrx (by decide) o15 (xek _) Tryz.underlying33 tS9 rfl (.some _ rfl (by omega)) (by omega)) rfl ?_
        refine xaj (xaq rfl) (fun h_ H_=>xax (v:=(tkV w13 ((((((cutAfter 10 (((rdTo [] ((formB s).getD [])).getD []).flatten)).length:Nat):Int)-1)).toNat))) rfl) rfl ?_
        refine xav ?_
        refine xaw ?_
        refine xaw ?_
        refine xhq (List.Perm.append_left _ (List.perm_append_comm_assoc _ _ _)) ?_
        refine xhq (List.Perm.append_left _ (List.Perm.append_left _ (List.perm_append_comm_assoc _ _ _))) ?_
        refine xhq (List.Perm.append_left _ (List.Perm.append_left _ (List.Perm.append_left _ (List.perm_append_comm_assoc _ _ _)))) ?_
        refine xjv (L':=([]:Pcs)++(X11++(X7++(X2++(X14++[]))))) rfl ?_
        refine zlk (Φ:=fun h_=>St h [] (fun _=>none) h_ (([]:Pcs)++(X14++[]))) ?_ (fun h_ H_=>St.dropX (A:=([]:Pcs)) (St.dropX (A:=([]:Pcs)) (St.dropX (A:=([]:Pcs)) H_)))
        refine xjv (L':=([]:Pcs)++(X14++[])) rfl ?_
        obtain ⟨TS,hTS⟩: ∃ TS,TS=(cutAfter 10 (((rdTo [] ((formB s).getD [])).getD []).flatten)).take ((((((cutAfter 10 (((rdTo [] ((formB s).getD [])).getD []).flatten)).length:Nat):Int)-1)).toNat):=⟨_,rfl⟩
        have oT:OwnS 9 1 (tkV w13 ((((((cutAfter 10 (((rdTo [] ((formB s).getD [])).getD []).flatten)).length:Nat):Int)-1)).toNat)) (scs TS) X14:=(OwnS.take o15 (k:=(((((cutAfter 10 (((rdTo [] ((formB s).getD [])).getD []).flatten)).length:Nat):Int)-1)).toNat) (by rw [(xek _)];omega)).as (by rw [hTS,zbq])
        have hT2:TS.map trim1=linesB e.flatten:=by rw [hTS,hAL,linesB];congr 2;rw [← hAL];omega
        have hTl: ∀ t∈TS,t.length≤1000000:=fun t z=>Nat.le_trans (xvk (List.mem_of_mem_take (hTS ▸ z))) hfl2
        have hTn:TS.length≤1000001:=by rw [hTS,List.length_take];omega
        clear hTS
        refine xak ?_
        refine xaj (xaq rfl) (fun h_ H_=>xaz (v:=(tkV w13 ((((((cutAfter 10 (((rdTo [] ((formB s).getD [])).getD []).flatten)).length:Nat):Int)-1)).toNat))) rfl) (tm':=_::_::_::_::_::_::_::_::_::_::_::_::_::_::_::_::_::_::_::_::_::_::_::_::_::_::_::_::_::_::_::_::_::_::_::_::_::_::_::_::_::_::_::_) rfl ?_
        refine xaj (xaq rfl) (fun h_ H_=>xrq oT (xek _) Tryz.underlying33 rfl) rfl ?_
        refine xaj (xaq rfl) (fun h_ H_=>xaz (v:=.int .i64 0) rfl) rfl ?_
        refine xav ?_
        refine xcw ?_
        refine xhw (m₀:=TS.length-0) (fun m_ tm_ h_=>∃ (k:Nat) (X1:Pcs),m_=TS.length-k∧(∃ y16:Nat→Value,tm_=[sv s,undef,.slice none 0 0,.int .i64 0,w1,.bool ((rdTo [] ((formB s).getD [])).isSome),sv (((rdTo [] ((formB s).getD [])).getD []).flatten),w6,(tkV w13 ((((((cutAfter 10 (((rdTo [] ((formB s).getD [])).getD []).flatten)).length:Nat):Int)-1)).toNat)),(y16 9),.tuple #[w1,.bool ((formB s).isSome)],sv s,.tuple #[w1,.bool ((formB s).isSome)],w1,.bool ((formB s).isSome),.bool ((formB s).isSome),.bool (!((formB s).isSome)),sv s,sv s,.int .i64 (((s.length:Nat):Int)),.int .i64 (((s.length:Nat):Int)-5),sv (s.take (((((s.length:Nat):Int)-5)).toNat)),sv (sealB (s.take (((((s.length:Nat):Int)-5)).toNat))),sv s,.bool (!decide (sealB (s.take (((((s.length:Nat):Int)-5)).toNat))=s)),.tuple #[sv (((rdTo [] ((formB s).getD [])).getD []).flatten),w6,.bool ((rdTo [] ((formB s).getD [])).isSome)],w1,.tuple #[sv (((rdTo [] ((formB s).getD [])).getD []).flatten),w6,.bool ((rdTo [] ((formB s).getD [])).isSome)],sv (((rdTo [] ((formB s).getD [])).getD []).flatten),w6,.bool ((rdTo [] ((formB s).getD [])).isSome),.bool ((rdTo [] ((formB s).getD [])).isSome),.bool (!((rdTo [] ((formB s).getD [])).isSome)),sv (((rdTo [] ((formB s).getD [])).getD []).flatten),v10,sv ([10]),w13,w13,w13,.int .i64 ((((cutAfter 10 (((rdTo [] ((formB s).getD [])).getD []).flatten)).length:Nat):Int)),.int .i64 ((((cutAfter 10 (((rdTo [] ((formB s).getD [])).getD []).flatten)).length:Nat):Int)-1),(tkV w13 ((((((cutAfter 10 (((rdTo [] ((formB s).getD [])).getD []).flatten)).length:Nat):Int)-1)).toNat)),(tkV w13 ((((((cutAfter 10 (((rdTo [] ((formB s).getD [])).getD []).flatten)).length:Nat):Int)-1)).toNat)),.int .i64 (((TS.length:Nat):Int)),.int .i64 (((k:Nat):Int)),(y16 45),(y16 46),(y16 47),(y16 48),(y16 49),(y16 50),(y16 51),(y16 52),(y16 53),(y16 54),(y16 55),(y16 56),(y16 57),undef,undef,undef,undef,undef,undef,undef,undef,undef,undef])∧(k≤TS.length)∧(OwnS 9 1 (tkV w13 ((((((cutAfter 10 (((rdTo [] ((formB s).getD [])).getD []).flatten)).length:Nat):Int)-1)).toNat)) (scs (trimTo k TS)) X1)∧St h [] (fun _=>none) h_ (([]:Pcs)++(X1++[]))) (fun h_ H_=>⟨0,X14,rfl,(y_of rfl),Nat.zero_le _,(oT.as (by rw [yww])),H_⟩) ?_
        intro m_ tm_ IH17
        refine xhv fun k=>xhv fun X1=>xcq fun hm_=>xcq fun ht_=>xcq fun hk=>xcq fun o1=>?_
        subst hm_;obtain ⟨y16,ht_⟩:=ht_;subst ht_
        refine xaw ?_
        refine xak ?_
        refine xaj (xaq rfl) (fun h_ H_=>xgz rfl rfl) (tm':=[_,_,_,_,_,_,_,_,_,_,_,_,_,_,_,_,_,_,_,_,_,_,_,_,_,_,_,_,_,_,_,_,_,_,_,_,_,_,_,_,_,_,_,_,_,_,_,_,_,_,_,_,_,_,_,_,_,_,_,_,_,_,_,_,_,_,_,_]) rfl ?_
        refine xav ?_
        refine xaw ?_
        by_cases cc18:((k:Nat):Int)<((TS.length:Nat):Int)
        · refine xbv rfl (decide_eq_true cc18) ?_
          refine xcj ?_
          refine xaw ?_
          refine xcw ?_
          refine xaw ?_
          refine xak ?_
          refine xaj (xaq rfl) (fun h_ H_=>xaz (v:=.int .i64 (((k:Nat):Int))) rfl) rfl ?_
          refine xaj (xaq rfl) (fun h_ H_=>xax (v:=.int .i64 (((k:Nat):Int))) rfl) rfl ?_
          refine xav ?_
          refine zlk (yaj (C:=[]) (A:=(([]:Pcs)++X1)) 9 [] [] [] [0,1,2,3,4,5,7,8] (fun _=>[]) (fun i_=>match i_ with | 7=>[6] | _=>[]) (fun i_=>match i_ with | 0=>[] | 1=>[] | 2=>[] | 3=>[] | 4=>[2,3] | 5=>[4] | 6=>[] | 7=>[6] | 8=>[5,7] | _=>[]) (fun i_ val_ pc_ v_ x_=>match i_ with | 0=>v_=(tkV w13 ((((((cutAfter 10 (((rdTo [] ((formB s).getD [])).getD []).flatten)).length:Nat):Int)-1)).toNat))∧x_=[] | 1=>v_= .int .i64 (((k:Nat):Int))∧x_=[] | 2=>v_=(tkV w13 ((((((cutAfter 10 (((rdTo [] ((formB s).getD [])).getD []).flatten)).length:Nat):Int)-1)).toNat))∧x_=[] | 3=>v_= .int .i64 (((k:Nat):Int))∧x_=[] | 4=>v_= .pointer (some ((adrV (tkV w13 ((((((cutAfter 10 (((rdTo [] ((formB s).getD [])).getD []).flatten)).length:Nat):Int)-1)).toNat))).add (k*1)))∧x_=[] | 5=>v_=sv (TS.getD k [])∧x_=[] | 6=>OwnS 5 1 v_ [[.int .u8 10]] x_ | 7=>v_=sv ([10])∧x_=[] | 8=>v_=sv (Lib.trimSuffix (TS.getD k []) ([10]))∧x_=[] | _=>True) (fun val19=>[sv s,undef,.slice none 0 0,.int .i64 0,w1,.bool ((rdTo [] ((formB s).getD [])).isSome),sv (((rdTo [] ((formB s).getD [])).getD []).flatten),w6,(tkV w13 ((((((cutAfter 10 (((rdTo [] ((formB s).getD [])).getD []).flatten)).length:Nat):Int)-1)).toNat)),.int .i64 (((k:Nat):Int)),.tuple #[w1,.bool ((formB s).isSome)],sv s,.tuple #[w1,.bool ((formB s).isSome)],w1,.bool ((formB s).isSome),.bool ((formB s).isSome),.bool (!((formB s).isSome)),sv s,sv s,.int .i64 (((s.length:Nat):Int)),.int .i64 (((s.length:Nat):Int)-5),sv (s.take (((((s.length:Nat):Int)-5)).toNat)),sv (sealB (s.take (((((s.length:Nat):Int)-5)).toNat))),sv s,.bool (!decide (sealB (s.take (((((s.length:Nat):Int)-5)).toNat))=s)),.tuple #[sv (((rdTo [] ((formB s).getD [])).getD []).flatten),w6,.bool ((rdTo [] ((formB s).getD [])).isSome)],w1,.tuple #[sv (((rdTo [] ((formB s).getD [])).getD []).flatten),w6,.bool ((rdTo [] ((formB s).getD [])).isSome)],sv (((rdTo [] ((formB s).getD [])).getD []).flatten),w6,.bool ((rdTo [] ((formB s).getD [])).isSome),.bool ((rdTo [] ((formB s).getD [])).isSome),.bool (!((rdTo [] ((formB s).getD [])).isSome)),sv (((rdTo [] ((formB s).getD [])).getD []).flatten),v10,sv ([10]),w13,w13,w13,.int .i64 ((((cutAfter 10 (((rdTo [] ((formB s).getD [])).getD []).flatten)).length:Nat):Int)),.int .i64 ((((cutAfter 10 (((rdTo [] ((formB s).getD [])).getD []).flatten)).length:Nat):Int)-1),(tkV w13 ((((((cutAfter 10 (((rdTo [] ((formB s).getD [])).getD []).flatten)).length:Nat):Int)-1)).toNat)),(tkV w13 ((((((cutAfter 10 (((rdTo [] ((formB s).getD [])).getD []).flatten)).length:Nat):Int)-1)).toNat)),.int .i64 (((TS.length:Nat):Int)),.int .i64 (((k:Nat):Int)),.bool (decide (((k:Nat):Int)<((TS.length:Nat):Int))),.int .i64 (((k:Nat):Int)),(val19 0),(val19 1),(val19 2),(val19 3),(val19 4),(val19 5),(val19 6),(val19 7),(val19 8),(y16 56),(y16 57),undef,undef,undef,undef,undef,undef,undef,undef,undef,undef]) mixed (by kernel_rfl) (Nat.le_of_ble_eq_true rfl) (by kernel_rfl) (by kernel_rfl) (by kernel_rfl) (fun _ _=>⟨fun _ _ h=>h.2,⟨fun _ _ h=>h.2,⟨fun _ _ h=>h.2,⟨fun _ _ h=>h.2,⟨fun _ _ h=>h.2,⟨fun _ _ h=>h.2,⟨fun _ _ h=>h.2,⟨fun _ _ h=>h.2,trivial⟩⟩⟩⟩⟩⟩⟩⟩) (fun _=>by kernel_rfl) (by kernel_rfl) ?_ ?_) (fun h_ H_=>St.swap (A:=(([]:Pcs)++X1)) (U:=[]) H_.assoc)
          · refine xex rfl (xij ?_) ?_
            · intro val19 pc20 hQ_ hX_
              obtain ⟨q_,hq0_⟩: ∃ q_:Value→Pcs→Prop,q_=(fun v_ x_=>v_=(tkV w13 ((((((cutAfter 10 (((rdTo [] ((formB s).getD [])).getD []).flatten)).length:Nat):Int)-1)).toNat))∧x_=[]):=⟨_,rfl⟩
              refine ⟨[sv s,undef,.slice none 0 0,.int .i64 0,w1,.bool ((rdTo [] ((formB s).getD [])).isSome),sv (((rdTo [] ((formB s).getD [])).getD []).flatten),w6,(tkV w13 ((((((cutAfter 10 (((rdTo [] ((formB s).getD [])).getD []).flatten)).length:Nat):Int)-1)).toNat)),.int .i64 (((k:Nat):Int)),.tuple #[w1,.bool ((formB s).isSome)],sv s,.tuple #[w1,.bool ((formB s).isSome)],w1,.bool ((formB s).isSome),.bool ((formB s).isSome),.bool (!((formB s).isSome)),sv s,sv s,.int .i64 (((s.length:Nat):Int)),.int .i64 (((s.length:Nat):Int)-5),sv (s.take (((((s.length:Nat):Int)-5)).toNat)),sv (sealB (s.take (((((s.length:Nat):Int)-5)).toNat))),sv s,.bool (!decide (sealB (s.take (((((s.length:Nat):Int)-5)).toNat))=s)),.tuple #[sv (((rdTo [] ((formB s).getD [])).getD []).flatten),w6,.bool ((rdTo [] ((formB s).getD [])).isSome)],w1,.tuple #[sv (((rdTo [] ((formB s).getD [])).getD []).flatten),w6,.bool ((rdTo [] ((formB s).getD [])).isSome)],sv (((rdTo [] ((formB s).getD [])).getD []).flatten),w6,.bool ((rdTo [] ((formB s).getD [])).isSome),.bool ((rdTo [] ((formB s).getD [])).isSome),.bool (!((rdTo [] ((formB s).getD [])).isSome)),sv (((rdTo [] ((formB s).getD [])).getD []).flatten),v10,sv ([10]),w13,w13,w13,.int .i64 ((((cutAfter 10 (((rdTo [] ((formB s).getD [])).getD []).flatten)).length:Nat):Int)),.int .i64 ((((cutAfter 10 (((rdTo [] ((formB s).getD [])).getD []).flatten)).length:Nat):Int)-1),(tkV w13 ((((((cutAfter 10 (((rdTo [] ((formB s).getD [])).getD []).flatten)).length:Nat):Int)-1)).toNat)),(tkV w13 ((((((cutAfter 10 (((rdTo [] ((formB s).getD [])).getD []).flatten)).length:Nat):Int)-1)).toNat)),.int .i64 (((TS.length:Nat):Int)),.int .i64 (((k:Nat):Int)),.bool (decide (((k:Nat):Int)<((TS.length:Nat):Int))),.int .i64 (((k:Nat):Int)),(val19 0),(val19 1),(val19 2),(val19 3),(val19 4),(val19 5),(val19 6),(val19 7),(val19 8),(y16 56),(y16 57),undef,undef,undef,undef,undef,undef,undef,undef,undef,undef],[],q_,rfl,rfl,(fun _ _ z_=>by subst hq0_;exact z_),?_⟩
              subst hq0_
              exact xiq (xaq rfl) (fun _ h_ H_=>xaz (v:=(tkV w13 ((((((cutAfter 10 (((rdTo [] ((formB s).getD [])).getD []).flatten)).length:Nat):Int)-1)).toNat))) rfl) ⟨rfl,rfl⟩
            refine xex rfl (xij ?_) ?_
            · intro val19 pc20 hQ_ hX_
              obtain ⟨q_,hq0_⟩: ∃ q_:Value→Pcs→Prop,q_=(fun v_ x_=>v_= .int .i64 (((k:Nat):Int))∧x_=[]):=⟨_,rfl⟩
              refine ⟨[sv s,undef,.slice none 0 0,.int .i64 0,w1,.bool ((rdTo [] ((formB s).getD [])).isSome),sv (((rdTo [] ((formB s).getD [])).getD []).flatten),w6,(tkV w13 ((((((cutAfter 10 (((rdTo [] ((formB s).getD [])).getD []).flatten)).length:Nat):Int)-1)).toNat)),.int .i64 (((k:Nat):Int)),.tuple #[w1,.bool ((formB s).isSome)],sv s,.tuple #[w1,.bool ((formB s).isSome)],w1,.bool ((formB s).isSome),.bool ((formB s).isSome),.bool (!((formB s).isSome)),sv s,sv s,.int .i64 (((s.length:Nat):Int)),.int .i64 (((s.length:Nat):Int)-5),sv (s.take (((((s.length:Nat):Int)-5)).toNat)),sv (sealB (s.take (((((s.length:Nat):Int)-5)).toNat))),sv s,.bool (!decide (sealB (s.take (((((s.length:Nat):Int)-5)).toNat))=s)),.tuple #[sv (((rdTo [] ((formB s).getD [])).getD []).flatten),w6,.bool ((rdTo [] ((formB s).getD [])).isSome)],w1,.tuple #[sv (((rdTo [] ((formB s).getD [])).getD []).flatten),w6,.bool ((rdTo [] ((formB s).getD [])).isSome)],sv (((rdTo [] ((formB s).getD [])).getD []).flatten),w6,.bool ((rdTo [] ((formB s).getD [])).isSome),.bool ((rdTo [] ((formB s).getD [])).isSome),.bool (!((rdTo [] ((formB s).getD [])).isSome)),sv (((rdTo [] ((formB s).getD [])).getD []).flatten),v10,sv ([10]),w13,w13,w13,.int .i64 ((((cutAfter 10 (((rdTo [] ((formB s).getD [])).getD []).flatten)).length:Nat):Int)),.int .i64 ((((cutAfter 10 (((rdTo [] ((formB s).getD [])).getD []).flatten)).length:Nat):Int)-1),(tkV w13 ((((((cutAfter 10 (((rdTo [] ((formB s).getD [])).getD []).flatten)).length:Nat):Int)-1)).toNat)),(tkV w13 ((((((cutAfter 10 (((rdTo [] ((formB s).getD [])).getD []).flatten)).length:Nat):Int)-1)).toNat)),.int .i64 (((TS.length:Nat):Int)),.int .i64 (((k:Nat):Int)),.bool (decide (((k:Nat):Int)<((TS.length:Nat):Int))),.int .i64 (((k:Nat):Int)),(val19 0),(val19 1),(val19 2),(val19 3),(val19 4),(val19 5),(val19 6),(val19 7),(val19 8),(y16 56),(y16 57),undef,undef,undef,undef,undef,undef,undef,undef,undef,undef],[],q_,rfl,rfl,(fun _ _ z_=>by subst hq0_;exact z_),?_⟩
              subst hq0_
              exact xiq (xaq rfl) (fun _ h_ H_=>xaz (v:=.int .i64 (((k:Nat):Int))) rfl) ⟨rfl,rfl⟩
            refine xex rfl (xij ?_) ?_
            · intro val19 pc20 hQ_ hX_
              obtain ⟨q_,hq0_⟩: ∃ q_:Value→Pcs→Prop,q_=(fun v_ x_=>v_=(tkV w13 ((((((cutAfter 10 (((rdTo [] ((formB s).getD [])).getD []).flatten)).length:Nat):Int)-1)).toNat))∧x_=[]):=⟨_,rfl⟩
              refine ⟨[sv s,undef,.slice none 0 0,.int .i64 0,w1,.bool ((rdTo [] ((formB s).getD [])).isSome),sv (((rdTo [] ((formB s).getD [])).getD []).flatten),w6,(tkV w13 ((((((cutAfter 10 (((rdTo [] ((formB s).getD [])).getD []).flatten)).length:Nat):Int)-1)).toNat)),.int .i64 (((k:Nat):Int)),.tuple #[w1,.bool ((formB s).isSome)],sv s,.tuple #[w1,.bool ((formB s).isSome)],w1,.bool ((formB s).isSome),.bool ((formB s).isSome),.bool (!((formB s).isSome)),sv s,sv s,.int .i64 (((s.length:Nat):Int)),.int .i64 (((s.length:Nat):Int)-5),sv (s.take (((((s.length:Nat):Int)-5)).toNat)),sv (sealB (s.take (((((s.length:Nat):Int)-5)).toNat))),sv s,.bool (!decide (sealB (s.take (((((s.length:Nat):Int)-5)).toNat))=s)),.tuple #[sv (((rdTo [] ((formB s).getD [])).getD []).flatten),w6,.bool ((rdTo [] ((formB s).getD [])).isSome)],w1,.tuple #[sv (((rdTo [] ((formB s).getD [])).getD []).flatten),w6,.bool ((rdTo [] ((formB s).getD [])).isSome)],sv (((rdTo [] ((formB s).getD [])).getD []).flatten),w6,.bool ((rdTo [] ((formB s).getD [])).isSome),.bool ((rdTo [] ((formB s).getD [])).isSome),.bool (!((rdTo [] ((formB s).getD [])).isSome)),sv (((rdTo [] ((formB s).getD [])).getD []).flatten),v10,sv ([10]),w13,w13,w13,.int .i64 ((((cutAfter 10 (((rdTo [] ((formB s).getD [])).getD []).flatten)).length:Nat):Int)),.int .i64 ((((cutAfter 10 (((rdTo [] ((formB s).getD [])).getD []).flatten)).length:Nat):Int)-1),(tkV w13 ((((((cutAfter 10 (((rdTo [] ((formB s).getD [])).getD []).flatten)).length:Nat):Int)-1)).toNat)),(tkV w13 ((((((cutAfter 10 (((rdTo [] ((formB s).getD [])).getD []).flatten)).length:Nat):Int)-1)).toNat)),.int .i64 (((TS.length:Nat):Int)),.int .i64 (((k:Nat):Int)),.bool (decide (((k:Nat):Int)<((TS.length:Nat):Int))),.int .i64 (((k:Nat):Int)),(val19 0),(val19 1),(val19 2),(val19 3),(val19 4),(val19 5),(val19 6),(val19 7),(val19 8),(y16 56),(y16 57),undef,undef,undef,undef,undef,undef,undef,undef,undef,undef],[],q_,rfl,rfl,(fun _ _ z_=>by subst hq0_;exact z_),?_⟩
              subst hq0_
              exact xiq (xaq rfl) (fun _ h_ H_=>xaz (v:=(tkV w13 ((((((cutAfter 10 (((rdTo [] ((formB s).getD [])).getD []).flatten)).length:Nat):Int)-1)).toNat))) rfl) ⟨rfl,rfl⟩
            refine xex rfl (xij ?_) ?_
            · intro val19 pc20 hQ_ hX_
              obtain ⟨q_,hq0_⟩: ∃ q_:Value→Pcs→Prop,q_=(fun v_ x_=>v_= .int .i64 (((k:Nat):Int))∧x_=[]):=⟨_,rfl⟩
              refine ⟨[sv s,undef,.slice none 0 0,.int .i64 0,w1,.bool ((rdTo [] ((formB s).getD [])).isSome),sv (((rdTo [] ((formB s).getD [])).getD []).flatten),w6,(tkV w13 ((((((cutAfter 10 (((rdTo [] ((formB s).getD [])).getD []).flatten)).length:Nat):Int)-1)).toNat)),.int .i64 (((k:Nat):Int)),.tuple #[w1,.bool ((formB s).isSome)],sv s,.tuple #[w1,.bool ((formB s).isSome)],w1,.bool ((formB s).isSome),.bool ((formB s).isSome),.bool (!((formB s).isSome)),sv s,sv s,.int .i64 (((s.length:Nat):Int)),.int .i64 (((s.length:Nat):Int)-5),sv (s.take (((((s.length:Nat):Int)-5)).toNat)),sv (sealB (s.take (((((s.length:Nat):Int)-5)).toNat))),sv s,.bool (!decide (sealB (s.take (((((s.length:Nat):Int)-5)).toNat))=s)),.tuple #[sv (((rdTo [] ((formB s).getD [])).getD []).flatten),w6,.bool ((rdTo [] ((formB s).getD [])).isSome)],w1,.tuple #[sv (((rdTo [] ((formB s).getD [])).getD []).flatten),w6,.bool ((rdTo [] ((formB s).getD [])).isSome)],sv (((rdTo [] ((formB s).getD [])).getD []).flatten),w6,.bool ((rdTo [] ((formB s).getD [])).isSome),.bool ((rdTo [] ((formB s).getD [])).isSome),.bool (!((rdTo [] ((formB s).getD [])).isSome)),sv (((rdTo [] ((formB s).getD [])).getD []).flatten),v10,sv ([10]),w13,w13,w13,.int .i64 ((((cutAfter 10 (((rdTo [] ((formB s).getD [])).getD []).flatten)).length:Nat):Int)),.int .i64 ((((cutAfter 10 (((rdTo [] ((formB s).getD [])).getD []).flatten)).length:Nat):Int)-1),(tkV w13 ((((((cutAfter 10 (((rdTo [] ((formB s).getD [])).getD []).flatten)).length:Nat):Int)-1)).toNat)),(tkV w13 ((((((cutAfter 10 (((rdTo [] ((formB s).getD [])).getD []).flatten)).length:Nat):Int)-1)).toNat)),.int .i64 (((TS.length:Nat):Int)),.int .i64 (((k:Nat):Int)),.bool (decide (((k:Nat):Int)<((TS.length:Nat):Int))),.int .i64 (((k:Nat):Int)),(val19 0),(val19 1),(val19 2),(val19 3),(val19 4),(val19 5),(val19 6),(val19 7),(val19 8),(y16 56),(y16 57),undef,undef,undef,undef,undef,undef,undef,undef,undef,undef],[],q_,rfl,rfl,(fun _ _ z_=>by subst hq0_;exact z_),?_⟩
              subst hq0_
              exact xiq (xaq rfl) (fun _ h_ H_=>xaz (v:=.int .i64 (((k:Nat):Int))) rfl) ⟨rfl,rfl⟩
            refine xex rfl (xij ?_) ?_
            · intro val19 pc20 hQ_ hX_
              have e2_:val19 2=(tkV w13 ((((((cutAfter 10 (((rdTo [] ((formB s).getD [])).getD []).flatten)).length:Nat):Int)-1)).toNat)):=(hQ_ 2 rfl).1
              have e3_:val19 3= .int .i64 (((k:Nat):Int)):=(hQ_ 3 rfl).1
              obtain ⟨q_,hq0_⟩: ∃ q_:Value→Pcs→Prop,q_=(fun v_ x_=>v_= .pointer (some ((adrV (tkV w13 ((((((cutAfter 10 (((rdTo [] ((formB s).getD [])).getD []).flatten)).length:Nat):Int)-1)).toNat))).add (k*1)))∧x_=[]):=⟨_,rfl⟩
              refine ⟨[sv s,undef,.slice none 0 0,.int .i64 0,w1,.bool ((rdTo [] ((formB s).getD [])).isSome),sv (((rdTo [] ((formB s).getD [])).getD []).flatten),w6,(tkV w13 ((((((cutAfter 10 (((rdTo [] ((formB s).getD [])).getD []).flatten)).length:Nat):Int)-1)).toNat)),.int .i64 (((k:Nat):Int)),.tuple #[w1,.bool ((formB s).isSome)],sv s,.tuple #[w1,.bool ((formB s).isSome)],w1,.bool ((formB s).isSome),.bool ((formB s).isSome),.bool (!((formB s).isSome)),sv s,sv s,.int .i64 (((s.length:Nat):Int)),.int .i64 (((s.length:Nat):Int)-5),sv (s.take (((((s.length:Nat):Int)-5)).toNat)),sv (sealB (s.take (((((s.length:Nat):Int)-5)).toNat))),sv s,.bool (!decide (sealB (s.take (((((s.length:Nat):Int)-5)).toNat))=s)),.tuple #[sv (((rdTo [] ((formB s).getD [])).getD []).flatten),w6,.bool ((rdTo [] ((formB s).getD [])).isSome)],w1,.tuple #[sv (((rdTo [] ((formB s).getD [])).getD []).flatten),w6,.bool ((rdTo [] ((formB s).getD [])).isSome)],sv (((rdTo [] ((formB s).getD [])).getD []).flatten),w6,.bool ((rdTo [] ((formB s).getD [])).isSome),.bool ((rdTo [] ((formB s).getD [])).isSome),.bool (!((rdTo [] ((formB s).getD [])).isSome)),sv (((rdTo [] ((formB s).getD [])).getD []).flatten),v10,sv ([10]),w13,w13,w13,.int .i64 ((((cutAfter 10 (((rdTo [] ((formB s).getD [])).getD []).flatten)).length:Nat):Int)),.int .i64 ((((cutAfter 10 (((rdTo [] ((formB s).getD [])).getD []).flatten)).length:Nat):Int)-1),(tkV w13 ((((((cutAfter 10 (((rdTo [] ((formB s).getD [])).getD []).flatten)).length:Nat):Int)-1)).toNat)),(tkV w13 ((((((cutAfter 10 (((rdTo [] ((formB s).getD [])).getD []).flatten)).length:Nat):Int)-1)).toNat)),.int .i64 (((TS.length:Nat):Int)),.int .i64 (((k:Nat):Int)),.bool (decide (((k:Nat):Int)<((TS.length:Nat):Int))),.int .i64 (((k:Nat):Int)),(val19 0),(val19 1),(tkV w13 ((((((cutAfter 10 (((rdTo [] ((formB s).getD [])).getD []).flatten)).length:Nat):Int)-1)).toNat)),.int .i64 (((k:Nat):Int)),(val19 4),(val19 5),(val19 6),(val19 7),(val19 8),(y16 56),(y16 57),undef,undef,undef,undef,undef,undef,undef,undef,undef,undef],[],q_,(by simp only [e2_,e3_]),rfl,(fun _ _ z_=>by subst hq0_;exact z_),?_⟩
              subst hq0_
              exact xiq (xaq rfl) (fun _ h_ H_=>xwx o1 Tryz.underlying33 tS9 rfl rfl (by rw [((xek _).trans (ybz _ _))];omega)) ⟨rfl,rfl⟩
            refine xex rfl (xij ?_) ?_
            · intro val19 pc20 hQ_ hX_
              have e4_:val19 4= .pointer (some ((adrV (tkV w13 ((((((cutAfter 10 (((rdTo [] ((formB s).getD [])).getD []).flatten)).length:Nat):Int)-1)).toNat))).add (k*1))):=(hQ_ 4 rfl).1
              obtain ⟨q_,hq0_⟩: ∃ q_:Value→Pcs→Prop,q_=(fun v_ x_=>v_=sv (TS.getD k [])∧x_=[]):=⟨_,rfl⟩
              refine ⟨[sv s,undef,.slice none 0 0,.int .i64 0,w1,.bool ((rdTo [] ((formB s).getD [])).isSome),sv (((rdTo [] ((formB s).getD [])).getD []).flatten),w6,(tkV w13 ((((((cutAfter 10 (((rdTo [] ((formB s).getD [])).getD []).flatten)).length:Nat):Int)-1)).toNat)),.int .i64 (((k:Nat):Int)),.tuple #[w1,.bool ((formB s).isSome)],sv s,.tuple #[w1,.bool ((formB s).isSome)],w1,.bool ((formB s).isSome),.bool ((formB s).isSome),.bool (!((formB s).isSome)),sv s,sv s,.int .i64 (((s.length:Nat):Int)),.int .i64 (((s.length:Nat):Int)-5),sv (s.take (((((s.length:Nat):Int)-5)).toNat)),sv (sealB (s.take (((((s.length:Nat):Int)-5)).toNat))),sv s,.bool (!decide (sealB (s.take (((((s.length:Nat):Int)-5)).toNat))=s)),.tuple #[sv (((rdTo [] ((formB s).getD [])).getD []).flatten),w6,.bool ((rdTo [] ((formB s).getD [])).isSome)],w1,.tuple #[sv (((rdTo [] ((formB s).getD [])).getD []).flatten),w6,.bool ((rdTo [] ((formB s).getD [])).isSome)],sv (((rdTo [] ((formB s).getD [])).getD []).flatten),w6,.bool ((rdTo [] ((formB s).getD [])).isSome),.bool ((rdTo [] ((formB s).getD [])).isSome),.bool (!((rdTo [] ((formB s).getD [])).isSome)),sv (((rdTo [] ((formB s).getD [])).getD []).flatten),v10,sv ([10]),w13,w13,w13,.int .i64 ((((cutAfter 10 (((rdTo [] ((formB s).getD [])).getD []).flatten)).length:Nat):Int)),.int .i64 ((((cutAfter 10 (((rdTo [] ((formB s).getD [])).getD []).flatten)).length:Nat):Int)-1),(tkV w13 ((((((cutAfter 10 (((rdTo [] ((formB s).getD [])).getD []).flatten)).length:Nat):Int)-1)).toNat)),(tkV w13 ((((((cutAfter 10 (((rdTo [] ((formB s).getD [])).getD []).flatten)).length:Nat):Int)-1)).toNat)),.int .i64 (((TS.length:Nat):Int)),.int .i64 (((k:Nat):Int)),.bool (decide (((k:Nat):Int)<((TS.length:Nat):Int))),.int .i64 (((k:Nat):Int)),(val19 0),(val19 1),(val19 2),(val19 3),.pointer (some ((adrV (tkV w13 ((((((cutAfter 10 (((rdTo [] ((formB s).getD [])).getD []).flatten)).length:Nat):Int)-1)).toNat))).add (k*1))),(val19 5),(val19 6),(val19 7),(val19 8),(y16 56),(y16 57),undef,undef,undef,undef,undef,undef,undef,undef,undef,undef],[],q_,(by simp only [e4_]),rfl,(fun _ _ z_=>by subst hq0_;exact z_),?_⟩
              subst hq0_
              exact xiq (xaq rfl) (fun _ h_ H_=>zrk (i:=k) (j:=0) (e:=[sv (TS.getD k [])]) o1 H_ (fun x_ h_=>by simp [h_]) tA9 rfl rfl (zkw (by omega)) (u:=sv (TS.getD k [])) rfl) ⟨rfl,rfl⟩
            refine xex rfl (xij ?_) ?_
            · intro val19 pc20 hQ_ hX_
              obtain ⟨q_,hq0_⟩: ∃ q_:Value→Pcs→Prop,q_=(fun v_ x_=>OwnS 5 1 v_ [[.int .u8 10]] x_):=⟨_,rfl⟩
              refine ⟨[sv s,undef,.slice none 0 0,.int .i64 0,w1,.bool ((rdTo [] ((formB s).getD [])).isSome),sv (((rdTo [] ((formB s).getD [])).getD []).flatten),w6,(tkV w13 ((((((cutAfter 10 (((rdTo [] ((formB s).getD [])).getD []).flatten)).length:Nat):Int)-1)).toNat)),.int .i64 (((k:Nat):Int)),.tuple #[w1,.bool ((formB s).isSome)],sv s,.tuple #[w1,.bool ((formB s).isSome)],w1,.bool ((formB s).isSome),.bool ((formB s).isSome),.bool (!((formB s).isSome)),sv s,sv s,.int .i64 (((s.length:Nat):Int)),.int .i64 (((s.length:Nat):Int)-5),sv (s.take (((((s.length:Nat):Int)-5)).toNat)),sv (sealB (s.take (((((s.length:Nat):Int)-5)).toNat))),sv s,.bool (!decide (sealB (s.take (((((s.length:Nat):Int)-5)).toNat))=s)),.tuple #[sv (((rdTo [] ((formB s).getD [])).getD []).flatten),w6,.bool ((rdTo [] ((formB s).getD [])).isSome)],w1,.tuple #[sv (((rdTo [] ((formB s).getD [])).getD []).flatten),w6,.bool ((rdTo [] ((formB s).getD [])).isSome)],sv (((rdTo [] ((formB s).getD [])).getD []).flatten),w6,.bool ((rdTo [] ((formB s).getD [])).isSome),.bool ((rdTo [] ((formB s).getD [])).isSome),.bool (!((rdTo [] ((formB s).getD [])).isSome)),sv (((rdTo [] ((formB s).getD [])).getD []).flatten),v10,sv ([10]),w13,w13,w13,.int .i64 ((((cutAfter 10 (((rdTo [] ((formB s).getD [])).getD []).flatten)).length:Nat):Int)),.int .i64 ((((cutAfter 10 (((rdTo [] ((formB s).getD [])).getD []).flatten)).length:Nat):Int)-1),(tkV w13 ((((((cutAfter 10 (((rdTo [] ((formB s).getD [])).getD []).flatten)).length:Nat):Int)-1)).toNat)),(tkV w13 ((((((cutAfter 10 (((rdTo [] ((formB s).getD [])).getD []).flatten)).length:Nat):Int)-1)).toNat)),.int .i64 (((TS.length:Nat):Int)),.int .i64 (((k:Nat):Int)),.bool (decide (((k:Nat):Int)<((TS.length:Nat):Int))),.int .i64 (((k:Nat):Int)),(val19 0),(val19 1),(val19 2),(val19 3),(val19 4),(val19 5),(val19 6),(val19 7),(val19 8),(y16 56),(y16 57),undef,undef,undef,undef,undef,undef,undef,undef,undef,undef],[],q_,rfl,rfl,(fun _ _ z_=>by subst hq0_;exact z_),?_⟩
              subst hq0_
              exact zix (xaq rfl) Tryz.underlying47 tS5 tZ5 (Nat.le_of_ble_eq_true rfl) (vs:=[(0,.int .u8 10)]) rfl rfl (es:=[[.int .u8 10]]) rfl rfl rfl fun _ _ o_=>o_
            refine xex rfl (xij ?_) ?_
            · intro val19 pc20 hQ_ hX_
              have q6_:OwnS 5 1 (val19 6) [[.int .u8 10]] (pc20 6):=hQ_ 6 rfl
              obtain ⟨q_,hq0_⟩: ∃ q_:Value→Pcs→Prop,q_=(fun v_ x_=>v_=sv ([10])∧x_=[]):=⟨_,rfl⟩
              refine ⟨[sv s,undef,.slice none 0 0,.int .i64 0,w1,.bool ((rdTo [] ((formB s).getD [])).isSome),sv (((rdTo [] ((formB s).getD [])).getD []).flatten),w6,(tkV w13 ((((((cutAfter 10 (((rdTo [] ((formB s).getD [])).getD []).flatten)).length:Nat):Int)-1)).toNat)),.int .i64 (((k:Nat):Int)),.tuple #[w1,.bool ((formB s).isSome)],sv s,.tuple #[w1,.bool ((formB s).isSome)],w1,.bool ((formB s).isSome),.bool ((formB s).isSome),.bool (!((formB s).isSome)),sv s,sv s,.int .i64 (((s.length:Nat):Int)),.int .i64 (((s.length:Nat):Int)-5),sv (s.take (((((s.length:Nat):Int)-5)).toNat)),sv (sealB (s.take (((((s.length:Nat):Int)-5)).toNat))),sv s,.bool (!decide (sealB (s.take (((((s.length:Nat):Int)-5)).toNat))=s)),.tuple #[sv (((rdTo [] ((formB s).getD [])).getD []).flatten),w6,.bool ((rdTo [] ((formB s).getD [])).isSome)],w1,.tuple #[sv (((rdTo [] ((formB s).getD [])).getD []).flatten),w6,.bool ((rdTo [] ((formB s).getD [])).isSome)],sv (((rdTo [] ((formB s).getD [])).getD []).flatten),w6,.bool ((rdTo [] ((formB s).getD [])).isSome),.bool ((rdTo [] ((formB s).getD [])).isSome),.bool (!((rdTo [] ((formB s).getD [])).isSome)),sv (((rdTo [] ((formB s).getD [])).getD []).flatten),v10,sv ([10]),w13,w13,w13,.int .i64 ((((cutAfter 10 (((rdTo [] ((formB s).getD [])).getD []).flatten)).length:Nat):Int)),.int .i64 ((((cutAfter 10 (((rdTo [] ((formB s).getD [])).getD []).flatten)).length:Nat):Int)-1),(tkV w13 ((((((cutAfter 10 (((rdTo [] ((formB s).getD [])).getD []).flatten)).length:Nat):Int)-1)).toNat)),(tkV w13 ((((((cutAfter 10 (((rdTo [] ((formB s).getD [])).getD []).flatten)).length:Nat):Int)-1)).toNat)),.int .i64 (((TS.length:Nat):Int)),.int .i64 (((k:Nat):Int)),.bool (decide (((k:Nat):Int)<((TS.length:Nat):Int))),.int .i64 (((k:Nat):Int)),(val19 0),(val19 1),(val19 2),(val19 3),(val19 4),(val19 5),(val19 6),(val19 7),(val19 8),(y16 56),(y16 57),undef,undef,undef,undef,undef,undef,undef,undef,undef,undef],((pc20 6)++[]),q_,rfl,rfl,(fun _ _ z_=>by subst hq0_;exact z_),?_⟩
              subst hq0_
              exact wgk (xaq rfl) (fun _ h_ H_=>xvw (A:=([]:Pcs)) (q6_.as (show _=bcs [10] from rfl)) (St.one1 H_) Tryz.underlying47 Tryz.underlying9 Tryz.underlying5 rfl) ⟨rfl,rfl⟩
            refine xex rfl (xij ?_) ?_
            · intro val19 pc20 hQ_ hX_
              have e5_:val19 5=sv (TS.getD k []):=(hQ_ 5 rfl).1
              have e7_:val19 7=sv ([10]):=(hQ_ 7 rfl).1
              obtain ⟨q_,hq0_⟩: ∃ q_:Value→Pcs→Prop,q_=(fun v_ x_=>v_=sv (Lib.trimSuffix (TS.getD k []) ([10]))∧x_=[]):=⟨_,rfl⟩
              refine ⟨[sv s,undef,.slice none 0 0,.int .i64 0,w1,.bool ((rdTo [] ((formB s).getD [])).isSome),sv (((rdTo [] ((formB s).getD [])).getD []).flatten),w6,(tkV w13 ((((((cutAfter 10 (((rdTo [] ((formB s).getD [])).getD []).flatten)).length:Nat):Int)-1)).toNat)),.int .i64 (((k:Nat):Int)),.tuple #[w1,.bool ((formB s).isSome)],sv s,.tuple #[w1,.bool ((formB s).isSome)],w1,.bool ((formB s).isSome),.bool ((formB s).isSome),.bool (!((formB s).isSome)),sv s,sv s,.int .i64 (((s.length:Nat):Int)),.int .i64 (((s.length:Nat):Int)-5),sv (s.take (((((s.length:Nat):Int)-5)).toNat)),sv (sealB (s.take (((((s.length:Nat):Int)-5)).toNat))),sv s,.bool (!decide (sealB (s.take (((((s.length:Nat):Int)-5)).toNat))=s)),.tuple #[sv (((rdTo [] ((formB s).getD [])).getD []).flatten),w6,.bool ((rdTo [] ((formB s).getD [])).isSome)],w1,.tuple #[sv (((rdTo [] ((formB s).getD [])).getD []).flatten),w6,.bool ((rdTo [] ((formB s).getD [])).isSome)],sv (((rdTo [] ((formB s).getD [])).getD []).flatten),w6,.bool ((rdTo [] ((formB s).getD [])).isSome),.bool ((rdTo [] ((formB s).getD [])).isSome),.bool (!((rdTo [] ((formB s).getD [])).isSome)),sv (((rdTo [] ((formB s).getD [])).getD []).flatten),v10,sv ([10]),w13,w13,w13,.int .i64 ((((cutAfter 10 (((rdTo [] ((formB s).getD [])).getD []).flatten)).length:Nat):Int)),.int .i64 ((((cutAfter 10 (((rdTo [] ((formB s).getD [])).getD []).flatten)).length:Nat):Int)-1),(tkV w13 ((((((cutAfter 10 (((rdTo [] ((formB s).getD [])).getD []).flatten)).length:Nat):Int)-1)).toNat)),(tkV w13 ((((((cutAfter 10 (((rdTo [] ((formB s).getD [])).getD []).flatten)).length:Nat):Int)-1)).toNat)),.int .i64 (((TS.length:Nat):Int)),.int .i64 (((k:Nat):Int)),.bool (decide (((k:Nat):Int)<((TS.length:Nat):Int))),.int .i64 (((k:Nat):Int)),(val19 0),(val19 1),(val19 2),(val19 3),(val19 4),sv (TS.getD k []),(val19 6),sv ([10]),(val19 8),(y16 56),(y16 57),undef,undef,undef,undef,undef,undef,undef,undef,undef,undef],[],q_,(by simp only [e5_,e7_]),rfl,(fun _ _ z_=>by subst hq0_;exact z_),?_⟩
              subst hq0_
              exact zcv (xaq rfl) (first:=[]) (cap:=[]) rfl rfl fC43 (fun _ h_ H_=>(c43 _ (TS.getD k []) ([10]) (by have z_:=hTl _ (gmem (d:=[]) (show k<TS.length by omega));omega)).mono fun v_ h2_ ⟨e_,k_⟩=>⟨[],⟨e_,rfl⟩,H_.call k_⟩)
            exact yax rfl
          intro val19 pc20 hQ_ hX_
          have e0_:val19 0=(tkV w13 ((((((cutAfter 10 (((rdTo [] ((formB s).getD [])).getD []).flatten)).length:Nat):Int)-1)).toNat)):=(hQ_ 0 (by decide)).1
          have e1_:val19 1= .int .i64 (((k:Nat):Int)):=(hQ_ 1 (by decide)).1
          have e2_:val19 2=(tkV w13 ((((((cutAfter 10 (((rdTo [] ((formB s).getD [])).getD []).flatten)).length:Nat):Int)-1)).toNat)):=(hQ_ 2 (by decide)).1
          have e3_:val19 3= .int .i64 (((k:Nat):Int)):=(hQ_ 3 (by decide)).1
          have e4_:val19 4= .pointer (some ((adrV (tkV w13 ((((((cutAfter 10 (((rdTo [] ((formB s).getD [])).getD []).flatten)).length:Nat):Int)-1)).toNat))).add (k*1))):=(hQ_ 4 (by decide)).1
          have e5_:val19 5=sv (TS.getD k []):=(hQ_ 5 (by decide)).1
          have e7_:val19 7=sv ([10]):=(hQ_ 7 (by decide)).1
          have e8_:val19 8=sv (Lib.trimSuffix (TS.getD k []) ([10])):=(hQ_ 8 (by decide)).1
          clear hQ_ hX_
          refine zmz (Φ:=fun h_=>St h [] (fun _=>none) h_ (([]:Pcs)++(X1++([])))) ?_ (fun h_ H_=>(St.swap' (A:=(([]:Pcs)++X1)) H_).assoc')
          refine xew (tm':=[sv s,undef,.slice none 0 0,.int .i64 0,w1,.bool ((rdTo [] ((formB s).getD [])).isSome),sv (((rdTo [] ((formB s).getD [])).getD []).flatten),w6,(tkV w13 ((((((cutAfter 10 (((rdTo [] ((formB s).getD [])).getD []).flatten)).length:Nat):Int)-1)).toNat)),.int .i64 (((k:Nat):Int)),.tuple #[w1,.bool ((formB s).isSome)],sv s,.tuple #[w1,.bool ((formB s).isSome)],w1,.bool ((formB s).isSome),.bool ((formB s).isSome),.bool (!((formB s).isSome)),sv s,sv s,.int .i64 (((s.length:Nat):Int)),.int .i64 (((s.length:Nat):Int)-5),sv (s.take (((((s.length:Nat):Int)-5)).toNat)),sv (sealB (s.take (((((s.length:Nat):Int)-5)).toNat))),sv s,.bool (!decide (sealB (s.take (((((s.length:Nat):Int)-5)).toNat))=s)),.tuple #[sv (((rdTo [] ((formB s).getD [])).getD []).flatten),w6,.bool ((rdTo [] ((formB s).getD [])).isSome)],w1,.tuple #[sv (((rdTo [] ((formB s).getD [])).getD []).flatten),w6,.bool ((rdTo [] ((formB s).getD [])).isSome)],sv (((rdTo [] ((formB s).getD [])).getD []).flatten),w6,.bool ((rdTo [] ((formB s).getD [])).isSome),.bool ((rdTo [] ((formB s).getD [])).isSome),.bool (!((rdTo [] ((formB s).getD [])).isSome)),sv (((rdTo [] ((formB s).getD [])).getD []).flatten),v10,sv ([10]),w13,w13,w13,.int .i64 ((((cutAfter 10 (((rdTo [] ((formB s).getD [])).getD []).flatten)).length:Nat):Int)),.int .i64 ((((cutAfter 10 (((rdTo [] ((formB s).getD [])).getD []).flatten)).length:Nat):Int)-1),(tkV w13 ((((((cutAfter 10 (((rdTo [] ((formB s).getD [])).getD []).flatten)).length:Nat):Int)-1)).toNat)),(tkV w13 ((((((cutAfter 10 (((rdTo [] ((formB s).getD [])).getD []).flatten)).length:Nat):Int)-1)).toNat)),.int .i64 (((TS.length:Nat):Int)),.int .i64 (((k:Nat):Int)),.bool (decide (((k:Nat):Int)<((TS.length:Nat):Int))),.int .i64 (((k:Nat):Int)),(tkV w13 ((((((cutAfter 10 (((rdTo [] ((formB s).getD [])).getD []).flatten)).length:Nat):Int)-1)).toNat)),.int .i64 (((k:Nat):Int)),(tkV w13 ((((((cutAfter 10 (((rdTo [] ((formB s).getD [])).getD []).flatten)).length:Nat):Int)-1)).toNat)),.int .i64 (((k:Nat):Int)),.pointer (some ((adrV (tkV w13 ((((((cutAfter 10 (((rdTo [] ((formB s).getD [])).getD []).flatten)).length:Nat):Int)-1)).toNat))).add (k*1))),sv (TS.getD k []),(val19 6),sv ([10]),sv (Lib.trimSuffix (TS.getD k []) ([10])),(y16 56),(y16 57),undef,undef,undef,undef,undef,undef,undef,undef,undef,undef]) (by simp only [e0_,e1_,e2_,e3_,e4_,e5_,e7_,e8_]) ?_
          refine xaj (xaq rfl) (fun h_ H_=>xwx o1 Tryz.underlying33 tS9 rfl rfl (by rw [((xek _).trans (ybz _ _))];omega)) (tm':=[_,_,_,_,_,_,_,_,_,_,_,_,_,_,_,_,_,_,_,_,_,_,_,_,_,_,_,_,_,_,_,_,_,_,_,_,_,_,_,_,_,_,_,_,_,_,_,_,_,_,_,_,_,_,_,_,_,_,_,_,_,_,_,_,_,_,_,_]) rfl ?_
          refine zlv (A:=([]:Pcs)) (i:=k) (j:=0) (e:=[sv (TS.getD k [])]) (u:=sv (Lib.trimSuffix (TS.getD k []) ([10]))) o1 (xaq rfl) tS9 rfl rfl rfl ⟨rfl,rfl⟩ (zkw (by omega)) (Nat.succ_le_iff.1 (Nat.le_of_ble_eq_true rfl)) fun X24 o25=>?_
          refine xav ?_
          refine xdq ?_
          refine xak ?_
          refine xaj (xaq rfl) (fun h_ H_=>xfj rfl rfl (n:=((k+1:Nat):Int)) (wr (by omega))) rfl ?_
          refine xaj (xaq rfl) (fun h_ H_=>xaz (v:=.int .i64 (((k+1:Nat):Int))) rfl) rfl ?_
          refine xav ?_
          exact fun h_ H_=>IH17 _ _ (by omega) h_ ⟨k+1,X24,rfl,(y_of rfl),(by omega),(o25.as (zgj (by omega))),H_⟩
        · refine xcx rfl (decide_eq_false cc18) ?_
          refine xhz rfl ?_
          refine xaw ?_
          refine xaw ?_
          have oL:OwnS 9 1 (tkV w13 ((((((cutAfter 10 (((rdTo [] ((formB s).getD [])).getD []).flatten)).length:Nat):Int)-1)).toNat)) (scs (linesB e.flatten)) X1:=o1.as (by rw [zgk (by omega),hT2])
          have hLn:(linesB e.flatten).length≤1000000:=Nat.le_trans (yzq _) hfl
          refine xak ?_
          refine xaj (xaq rfl) (fun h_ H_=>xaz (v:=(tkV w13 ((((((cutAfter 10 (((rdTo [] ((formB s).getD [])).getD []).flatten)).length:Nat):Int)-1)).toNat))) rfl) (tm':=[_,_,_,_,_,_,_,_,_,_,_,_,_,_,_,_,_,_,_,_,_,_,_,_,_,_,_,_,_,_,_,_,_,_,_,_,_,_,_,_,_,_,_,_,_,_,_,_,_,_,_,_,_,_,_,_,_,_,_,_,_,_,_,_,_,_,_,_]) rfl ?_
          refine xdj (xaq rfl) (first:=[]) (cap:=[]) rfl rfl fC37 (fun h_ H_=>yzx (n:=(linesB e.flatten).length) oL (xek _) H_ (fun x_ h_=>by simp [h_]) fun p_ a_ c_ hp_ _ hv_ D_=>by rw [hv_];exact c37 _ _ hp_ a_ _ c_ _ D_ (by omega) (fun i_ hi_=>Nat.le_trans (zpz (gmem hi_)) (by omega))) rfl ?_
          refine xaj (xaq rfl) (fun h_ H_=>xix rfl rfl) rfl ?_
          refine xaj (xaq rfl) (fun h_ H_=>xaz (v:=.bool (decide (chkT (linesB e.flatten)≠0))) rfl) (tm':=[_,_,_,_,_,_,_,_,_,_,_,_,_,_,_,_,_,_,_,_,_,_,_,_,_,_,_,_,_,_,_,_,_,_,_,_,_,_,_,_,_,_,_,_,_,_,_,_,_,_,_,_,_,_,_,_,_,_,_,_,_,_,_,_,_,_,_,_]) rfl ?_
          by_cases cc26:chkT (linesB e.flatten)≠0
          · refine xdk (xfk rfl rfl (decide_eq_true cc26)) rfl ?_
            refine xdk (xfk rfl rfl (decide_eq_true cc26)) rfl ?_
            refine xdk (xfk rfl rfl (decide_eq_true cc26)) (tm':=[_,_,_,_,_,_,_,_,_,_,_,_,_,_,_,_,_,_,_,_,_,_,_,_,_,_,_,_,_,_,_,_,_,_,_,_,_,_,_,_,_,_,_,_,_,_,_,_,_,_,_,_,_,_,_,_,_,_,_,_,_,_,_,_,_,_,_,_]) rfl ?_
            refine xdk (xfk rfl rfl (decide_eq_true cc26)) rfl ?_
            refine xaj (xaq rfl) (fun h_ H_=>xdz rfl (decide_eq_true cc26) (v:=.bool (true)) rfl) rfl ?_
            refine xav ?_
            refine xbv rfl rfl ?_
            refine xaw ?_
            refine xak ?_
            refine xaj (xaq rfl) (fun h_ H_=>xax (v:=.slice none 0 0) rfl) (tm':=_::_::_::_) rfl ?_
            refine xaj (xaq rfl) (fun h_ H_=>xax (v:=.int .i64 142) rfl) rfl ?_
            refine xav ?_
            refine xck Tryz.func14 rfl (vs:=[.slice none 0 0,.int .i64 142]) (fun h_ H_=>⟨.slice none 0 0,_,rfl,rfl,⟨.int .i64 142,_,rfl,rfl,rfl⟩⟩) (v:=.tuple #[.slice none 0 0,.int .i64 142]) rfl ?_
            have hN:readB s=(142,[]):=by simp only [readB,hl];rw [if_neg (by rw [← e5];exact fun z=>z ‹_›),he];simp only [];rw [if_pos (by first | exact .inl ‹_› | exact .inr ‹_›)]
            exact fun h_ H_=>K _ _ ⟨.slice none 0 0,[],by rw [hN],by rw [hN];exact OwnS.empty _ _,(H_.sub (List.nil_sublist _)).new⟩
          · refine xaj (xfw rfl rfl (decide_eq_false cc26)) (fun h_ H_=>xaz (v:=(tkV w13 ((((((cutAfter 10 (((rdTo [] ((formB s).getD [])).getD []).flatten)).length:Nat):Int)-1)).toNat))) rfl) rfl ?_
            refine xdj (xfw rfl rfl (decide_eq_false cc26)) (first:=[]) (cap:=[]) rfl rfl fC38 (fun h_ H_=>yzx (n:=(linesB e.flatten).length) oL (xek _) H_ (fun x_ h_=>by simp [h_]) fun p_ a_ c_ hp_ _ hv_ D_=>by rw [hv_];exact c38 _ _ hp_ (ht.keep H_.kept) a_ _ c_ _ D_ (by have g_:=xpv (Decidable.not_not.1 ‹¬ chkT (linesB e.flatten)≠0›);exact (g_.1)) (by have g_:=xpv (Decidable.not_not.1 ‹¬ chkT (linesB e.flatten)≠0›);exact (fun t z=>(g_.2 t z).1))) (tm':=[_,_,_,_,_,_,_,_,_,_,_,_,_,_,_,_,_,_,_,_,_,_,_,_,_,_,_,_,_,_,_,_,_,_,_,_,_,_,_,_,_,_,_,_,_,_,_,_,_,_,_,_,_,_,_,_,_,_,_,_,_,_,_,_,_,_,_,_]) rfl ?_
            refine xaj (xfw rfl rfl (decide_eq_false cc26)) (fun h_ H_=>xaz (v:=sv s) rfl) rfl ?_
            refine xaj (xfw rfl rfl (decide_eq_false cc26)) (fun h_ H_=>xwq (l:=fileB (linesB e.flatten)) (m:=s) rfl rfl) rfl ?_
            refine xaj (xaq rfl) (fun h_ H_=>xdw rfl (decide_eq_false cc26) (v:=.bool (!decide (fileB (linesB e.flatten)=s))) rfl) (tm':=[_,_,_,_,_,_,_,_,_,_,_,_,_,_,_,_,_,_,_,_,_,_,_,_,_,_,_,_,_,_,_,_,_,_,_,_,_,_,_,_,_,_,_,_,_,_,_,_,_,_,_,_,_,_,_,_,_,_,_,_,_,_,_,_,_,_,_,_]) rfl ?_
            refine xav ?_
            by_cases cc27:fileB (linesB e.flatten)=s
            · refine xcx rfl (xfz (decide_eq_true cc27)) ?_
              refine xcj ?_
              refine xaw ?_
              refine xak ?_
              refine xaj (xaq rfl) (fun h_ H_=>xaz (v:=(tkV w13 ((((((cutAfter 10 (((rdTo [] ((formB s).getD [])).getD []).flatten)).length:Nat):Int)-1)).toNat))) rfl) rfl ?_
              refine xaj (xaq rfl) (fun h_ H_=>xax (v:=(tkV w13 ((((((cutAfter 10 (((rdTo [] ((formB s).getD [])).getD []).flatten)).length:Nat):Int)-1)).toNat))) rfl) rfl ?_
              refine xaj (xaq rfl) (fun h_ H_=>xax (v:=.int .i64 0) rfl) (tm':=_::_::_::_::_) rfl ?_
              refine xav ?_
              refine xck Tryz.func14 rfl (vs:=[(tkV w13 ((((((cutAfter 10 (((rdTo [] ((formB s).getD [])).getD []).flatten)).length:Nat):Int)-1)).toNat)),.int .i64 0]) (fun h_ H_=>⟨(tkV w13 ((((((cutAfter 10 (((rdTo [] ((formB s).getD [])).getD []).flatten)).length:Nat):Int)-1)).toNat)),_,rfl,rfl,⟨.int .i64 0,_,rfl,rfl,rfl⟩⟩) (v:=.tuple #[(tkV w13 ((((((cutAfter 10 (((rdTo [] ((formB s).getD [])).getD []).flatten)).length:Nat):Int)-1)).toNat)),.int .i64 0]) rfl ?_
              have hN:readB s=(0,linesB e.flatten):=by simp only [readB,hl];rw [if_neg (by rw [← e5];exact fun z=>z ‹_›),he];simp only [];rw [if_neg (fun z=>z.elim (fun y=>‹¬ chkT (linesB e.flatten)≠0› y) (fun y=>y ‹_›))]
              exact fun h_ H_=>K _ _ ⟨_,_,by rw [hN],by rw [hN];exact oL,by simpa using H_.new⟩
            · refine xbv rfl (xgx (decide_eq_false cc27)) ?_
              refine xaw ?_
              refine xak ?_
              refine xaj (xaq rfl) (fun h_ H_=>xax (v:=.slice none 0 0) rfl) rfl ?_
              refine xaj (xaq rfl) (fun h_ H_=>xax (v:=.int .i64 142) rfl) rfl ?_
              refine xav ?_
              refine xck Tryz.func14 rfl (vs:=[.slice none 0 0,.int .i64 142]) (fun h_ H_=>⟨.slice none 0 0,_,rfl,rfl,⟨.int .i64 142,_,rfl,rfl,rfl⟩⟩) (v:=.tuple #[.slice none 0 0,.int .i64 142]) rfl ?_
              have hN:readB s=(142,[]):=by simp only [readB,hl];rw [if_neg (by rw [← e5];exact fun z=>z ‹_›),he];simp only [];rw [if_pos (by first | exact .inl ‹_› | exact .inr ‹_›)]
              exact fun h_ H_=>K _ _ ⟨.slice none 0 0,[],by rw [hN],by rw [hN];exact OwnS.empty _ _,(H_.sub (List.nil_sublist _)).new⟩
      · refine xbv rfl (xgx cc9) ?_
        refine xaw ?_
        refine xak ?_
        refine xaj (xaq rfl) (fun h_ H_=>xax (v:=.slice none 0 0) rfl) (tm':=_::_::_::_) rfl ?_
        refine xaj (xaq rfl) (fun h_ H_=>xax (v:=.int .i64 142) rfl) rfl ?_
        refine xav ?_
        refine xck Tryz.func14 rfl (vs:=[.slice none 0 0,.int .i64 142]) (fun h_ H_=>⟨.slice none 0 0,_,rfl,rfl,⟨.int .i64 142,_,rfl,rfl,rfl⟩⟩) (v:=.tuple #[.slice none 0 0,.int .i64 142]) rfl ?_
        have hR:rdTo [] l=none:=by rw [← hx];exact Option.isNone_iff_eq_none.1 (by rw [← Option.not_isSome,‹(rdTo [] ((formB s).getD [])).isSome=false›];rfl)
        have hN:readB s=(142,[]):=by simp only [readB,hl];rw [if_neg (by rw [← e5];exact fun z=>z ‹_›),hR]
        exact fun h_ H_=>K _ _ ⟨.slice none 0 0,[],by rw [hN],by rw [hN];exact OwnS.empty _ _,(H_.sub (List.nil_sublist _)).new⟩
    · refine xbv rfl (xgx (decide_eq_false cc5)) ?_
      refine xaw ?_
      refine xak ?_
      refine xaj (xaq rfl) (fun h_ H_=>xax (v:=.slice none 0 0) rfl) rfl ?_
      refine xaj (xaq rfl) (fun h_ H_=>xax (v:=.int .i64 141) rfl) (tm':=_::_::_::_::_) rfl ?_
      refine xav ?_
      refine xck Tryz.func14 rfl (vs:=[.slice none 0 0,.int .i64 141]) (fun h_ H_=>⟨.slice none 0 0,_,rfl,rfl,⟨.int .i64 141,_,rfl,rfl,rfl⟩⟩) (v:=.tuple #[.slice none 0 0,.int .i64 141]) rfl ?_
      have hN:readB s=(141,[]):=by simp only [readB,hl];rw [if_pos (by rw [← e5];assumption)]
      exact fun h_ H_=>K _ _ ⟨.slice none 0 0,[],by rw [hN],by rw [hN];exact OwnS.empty _ _,(H_.sub (List.nil_sublist _)).new⟩
  · refine xbv rfl (xgx cc4) ?_
    refine xaw ?_
    refine xak ?_
    refine xaj (xaq rfl) (fun h_ H_=>xax (v:=.slice none 0 0) rfl) rfl ?_
    refine xaj (xaq rfl) (fun h_ H_=>xax (v:=.int .i64 140) rfl) rfl ?_
    refine xav ?_
    refine xck Tryz.func14 rfl (vs:=[.slice none 0 0,.int .i64 140]) (fun h_ H_=>⟨.slice none 0 0,_,rfl,rfl,⟨.int .i64 140,_,rfl,rfl,rfl⟩⟩) (v:=.tuple #[.slice none 0 0,.int .i64 140]) rfl ?_
    have hN:readB s=(140,[]):=by simp only [readB,zqx ‹_›]
    exact fun h_ H_=>K _ _ ⟨.slice none 0 0,[],by rw [hN],by rw [hN];exact OwnS.empty _ _,(H_.sub (List.nil_sublist _)).new⟩
end Go.Proofs.YtphalmjpbnffcaaGreatDoor
namespace Go.Proofs.YtphalmjpbnffcaaGreatDoor
open Go.X Go.X.Cent Go.Conc
set_option maxRecDepth 10000
set_option synthInstance.maxSize 2000
set_option synthInstance.maxHeartbeats 400000

set_option maxHeartbeats 1000000
theorem c13 (h:Heap) (p:PHeap) (hp:Per p h) (htab:Tab h) (a:Option Addr) (n c:Nat) (ts:List By) (T:Strs p a n ts) (hn:n≤2 ^ 60) (ht: ∀ i,i<n→(ts.getD i []).length≤2 ^ 60):CallsX Tryz.prog .lone 13 #[.slice a n c] h fun v h'=>v= .tuple #[sv (writeB ts).1,.int .i64 (writeB ts).2]∧Keep h h':=by
  refine xbk (Φ:=fun h_=>St h [] p h_ []) Tryz.func13 rfl (tm:=[_,_,_,_,_,_,_,_,_,_,_,_]) rfl ?_ (St.start h _ hp)
  intro c₀ cs Stop K
  refine xaw ?_
  refine xak ?_
  refine xaj (xaq rfl) (fun h_ H_=>xax (v:=sv ([]:List UInt8)) rfl) rfl ?_
  refine xaj (xaq rfl) (fun h_ H_=>xax (v:=.int .i64 0) rfl) rfl ?_
  refine xav ?_
  refine xaw ?_
  refine xaw ?_
  refine xak ?_
  refine xaj (xaq rfl) (fun h_ H_=>xaz (v:=.slice a n c) rfl) (tm':=_::_::_::_::_::_::_) rfl ?_
  refine xdj (xaq rfl) (first:=[]) (cap:=[]) rfl rfl fC37 (fun h_ H_=>c37 _ _ (fun b_ o_ e_=>H_.per b_ o_ e_) a n _ _ T (by omega) (fun i_ h_=>ht i_ h_)) rfl ?_
  refine xaj (xaq rfl) (fun h_ H_=>xax (v:=.int .i64 (chkT ts)) rfl) rfl ?_
  refine xav ?_
  refine xaw ?_
  refine xak ?_
  refine xaj (xaq rfl) (fun h_ H_=>xaz (v:=.int .i64 (chkT ts)) rfl) (tm':=_::_::_::_::_::_::_::_::_) rfl ?_
  refine xaj (xaq rfl) (fun h_ H_=>xix rfl rfl) rfl ?_
  refine xav ?_
  by_cases cc1:chkT ts≠0
  · refine xbv rfl (decide_eq_true cc1) ?_
    refine xaw ?_
    refine xak ?_
    refine xaj (xaq rfl) (fun h_ H_=>xaz (v:=.int .i64 (chkT ts)) rfl) rfl ?_
    refine xaj (xaq rfl) (fun h_ H_=>xax (v:=sv ([]:List UInt8)) rfl) (tm':=_::_::_::_) rfl ?_
    refine xaj (xaq rfl) (fun h_ H_=>xax (v:=.int .i64 (chkT ts)) rfl) rfl ?_
    refine xav ?_
    refine xck Tryz.func13 rfl (vs:=[sv ([]:List UInt8),.int .i64 (chkT ts)]) (fun h_ H_=>⟨sv ([]:List UInt8),_,rfl,rfl,⟨.int .i64 (chkT ts),_,rfl,rfl,rfl⟩⟩) (v:=.tuple #[sv ([]:List UInt8),.int .i64 (chkT ts)]) rfl ?_
    exact fun h_ H_=>K _ _ ⟨by rw [writeB,if_pos ‹_›],H_.kept⟩
  · refine xcx rfl (decide_eq_false cc1) ?_
    refine xcj ?_
    refine xaw ?_
    obtain ⟨hw40,hw200,hw820,hts20,hen,hem⟩:=yov ‹¬ chkT ts≠0›
    have hl:=T.len
    refine xak ?_
    refine xaj (xaq rfl) (fun h_ H_=>xaz (v:=.slice a n c) rfl) rfl ?_
    refine xdj (xaq rfl) (first:=[]) (cap:=[]) rfl rfl fC38 (fun h_ H_=>c38 _ _ (fun b_ o_ e_=>H_.per b_ o_ e_) (htab.keep H_.kept) a n _ _ T (by omega) hw40) (tm':=[_,_,_,_,_,_,_,_,_,_,_,_]) rfl ?_
    refine xaj (xaq rfl) (fun h_ H_=>xax (v:=sv (fileB ts)) rfl) rfl ?_
    refine xaj (xaq rfl) (fun h_ H_=>xax (v:=.int .i64 0) rfl) rfl ?_
    refine xav ?_
    refine xck Tryz.func13 rfl (vs:=[sv (fileB ts),.int .i64 0]) (fun h_ H_=>⟨sv (fileB ts),_,rfl,rfl,⟨.int .i64 0,_,rfl,rfl,rfl⟩⟩) (v:=.tuple #[sv (fileB ts),.int .i64 0]) rfl ?_
    exact fun h_ H_=>K _ _ ⟨by rw [writeB,if_neg ‹_›],H_.kept⟩
theorem c16 (h:Heap) (p:PHeap) (hp:Per p h) (a:Option Addr) (n c:Nat) (ts:List By) (T:Strs p a n ts) (hn:n≤2 ^ 60) (ht: ∀ i,i<n→(ts.getD i []).length≤2 ^ 60):CallsX Tryz.prog .lone 16 #[.slice a n c] h fun v h'=>∃ w X,v= .tuple #[w,.int .i64 (chkT ts)]∧OwnS 9 1 w (scs (pcB ts)) X∧New h h' X:=by
  refine xbk (Φ:=fun h_=>St h [] p h_ []) Tryz.func16 rfl (tm:=[_,_,_,_,_,_,_,_,_,_,_,_,_,_,_,_,_,_,_,_,_,_,_,_]) rfl ?_ (St.start h _ hp)
  intro c₀ cs Stop K
  refine xaw ?_
  refine xak ?_
  refine xaj (xaq rfl) (fun h_ H_=>xax (v:=.slice none 0 0) rfl) (tm':=_::_::_::_) rfl ?_
  refine xaj (xaq rfl) (fun h_ H_=>xax (v:=.int .i64 0) rfl) rfl ?_
  refine xav ?_
  refine xaw ?_
  refine xak ?_
  refine xaj (xaq rfl) (fun h_ H_=>xaz (v:=.slice a n c) rfl) rfl ?_
  refine xdx (L':=([]:Pcs)++[]) rfl ?_
  refine xhx (xaq rfl) (first:=[]) (cap:=[]) rfl rfl fC46 (R:=fun v_ h_=>∃ w1:Value,∃ X2:Pcs,v_= .tuple #[w1,.int .i64 (chkT ts)]∧(chkT ts=0→OwnS 112 2 w1 (pies (encS [[]] (wholeB ts))) X2)∧(chkT ts≠0→w1= .slice none 0 0∧X2=[])∧St h [] p h_ (([]:Pcs)++(X2++[]))) (fun h_ H_=>(c46 _ _ (fun b_ o_ e_=>H_.per b_ o_ e_) a n _ ts T (by omega) (fun i_ h_=>ht i_ h_)).mono fun v_ h2_ ⟨w1,X2,e_,F3,F4,N_⟩=>⟨w1,X2,e_,F3,F4,H_.callNA N_⟩) fun v_=>?_
  refine xgj fun w1=>xgj fun X2=>xez fun ev_=>xez fun F3=>xez fun F4=>?_
  have ev_:=ev_.symm;subst ev_
  refine xdx (L':=([]:Pcs)++(X2++[])) rfl ?_
  refine xew (tm':=_::_::_::_::_::_::_::_::_::_::_::_::_) rfl ?_
  refine xaj (xaq rfl) (fun h_ H_=>xaz (v:=.tuple #[w1,.int .i64 (chkT ts)]) rfl) rfl ?_
  refine xaj (xaq rfl) (fun h_ H_=>xdv rfl (v:=w1) rfl) rfl ?_
  refine xaj (xaq rfl) (fun h_ H_=>xdv rfl (v:=.int .i64 (chkT ts)) rfl) (tm':=_::_::_::_::_::_::_::_::_::_::_::_::_::_::_) rfl ?_
  refine xaj (xaq rfl) (fun h_ H_=>xax (v:=w1) rfl) rfl ?_
  refine xaj (xaq rfl) (fun h_ H_=>xax (v:=.int .i64 (chkT ts)) rfl) rfl ?_
  refine xav ?_
  refine xaw ?_
  refine xaw ?_
  refine xak ?_
  refine xaj (xaq rfl) (fun h_ H_=>xaz (v:=.int .i64 (chkT ts)) rfl) (tm':=_::_::_::_::_::_::_::_::_::_::_::_::_::_::_::_) rfl ?_
  refine xaj (xaq rfl) (fun h_ H_=>xix rfl rfl) rfl ?_
  refine xav ?_
  by_cases cc5:chkT ts≠0
  · refine xbv rfl (decide_eq_true cc5) ?_
    refine xaw ?_
    refine xak ?_
    refine xaj (xaq rfl) (fun h_ H_=>xaz (v:=.int .i64 (chkT ts)) rfl) rfl ?_
    refine xaj (xaq rfl) (fun h_ H_=>xax (v:=.slice none 0 0) rfl) (tm':=_::_::_::_) rfl ?_
    refine xaj (xaq rfl) (fun h_ H_=>xax (v:=.int .i64 (chkT ts)) rfl) rfl ?_
    refine xav ?_
    refine xck Tryz.func16 rfl (vs:=[.slice none 0 0,.int .i64 (chkT ts)]) (fun h_ H_=>⟨.slice none 0 0,_,rfl,rfl,⟨.int .i64 (chkT ts),_,rfl,rfl,rfl⟩⟩) (v:=.tuple #[.slice none 0 0,.int .i64 (chkT ts)]) rfl ?_
    exact fun h_ H_=>K _ _ ⟨.slice none 0 0,[],rfl,by rw [pcB,if_pos ‹_›];exact OwnS.empty _ _,(H_.sub (List.nil_sublist _)).new⟩
  · refine xcx rfl (decide_eq_false cc5) ?_
    refine xcj ?_
    refine xaw ?_
    obtain ⟨hw40,hw200,hw820,hts20,hen,hem⟩:=yov ‹¬ chkT ts≠0›
    have hl:=T.len
    have oK:=F3 (Decidable.not_not.1 ‹_›)
    refine xqv (A:=([]:Pcs)) oK (xoz _) fun p6 a7 cp8 le9 ev_ D10=>?_
    subst ev_
    refine xjv (L':=[]) rfl ?_
    refine xak ?_
    refine xaj (xaq rfl) (fun h_ H_=>xaz (v:=.slice a7 ((encS [[]] (wholeB ts)).length) cp8) rfl) rfl ?_
    refine xdx (L':=([]:Pcs)++[]) rfl ?_
    refine xhx (xaq rfl) (first:=[]) (cap:=[]) rfl rfl fC41 (R:=fun v_ h_=>∃ w11:Value,∃ X12:Pcs,v_= .tuple #[sv (((rdTo [] (encS [[]] (wholeB ts))).getD []).flatten),w11,.bool ((rdTo [] (encS [[]] (wholeB ts))).isSome)]∧(OwnS 9 1 w11 (scs ((rdTo [] (encS [[]] (wholeB ts))).getD [])) X12)∧St h [] p6 h_ (([]:Pcs)++(X12++[]))) (fun h_ H_=>(c41 .lone _ _ (fun b_ o_ e_=>H_.per b_ o_ e_) a7 ((encS [[]] (wholeB ts)).length) _ _ (show Pies _ _ _ (encS [[]] (wholeB ts)) from D10) (by omega) hem).mono fun v_ h2_ ⟨w11,X12,e_,o13,N_⟩=>⟨w11,X12,e_,o13,H_.callNA N_⟩) fun v_=>?_
    refine xgj fun w11=>xgj fun X12=>xez fun ev_=>xez fun o13=>?_
    have ev_:=ev_.symm;subst ev_
    refine xdx (L':=([]:Pcs)++(X12++[])) rfl ?_
    refine xew (tm':=[_,_,_,_,_,_,_,_,_,_,_,_,_,_,_,_,_,_,_,_,_,_,_,_]) rfl ?_
    refine xaj (xaq rfl) (fun h_ H_=>xaz (v:=.tuple #[sv (((rdTo [] (encS [[]] (wholeB ts))).getD []).flatten),w11,.bool ((rdTo [] (encS [[]] (wholeB ts))).isSome)]) rfl) rfl ?_
    refine xaj (xaq rfl) (fun h_ H_=>xdv rfl (v:=sv (((rdTo [] (encS [[]] (wholeB ts))).getD []).flatten)) rfl) rfl ?_
    refine xaj (xaq rfl) (fun h_ H_=>xdv rfl (v:=w11) rfl) (tm':=[_,_,_,_,_,_,_,_,_,_,_,_,_,_,_,_,_,_,_,_,_,_,_,_]) rfl ?_
    refine xaj (xaq rfl) (fun h_ H_=>xdv rfl (v:=.bool ((rdTo [] (encS [[]] (wholeB ts))).isSome)) rfl) rfl ?_
    refine xaj (xaq rfl) (fun h_ H_=>xax (v:=sv (((rdTo [] (encS [[]] (wholeB ts))).getD []).flatten)) rfl) rfl ?_
    refine xaj (xaq rfl) (fun h_ H_=>xax (v:=w11) rfl) (tm':=_::_::_::_::_::_::_::_::_) rfl ?_
    refine xaj (xaq rfl) (fun h_ H_=>xax (v:=.bool ((rdTo [] (encS [[]] (wholeB ts))).isSome)) rfl) rfl ?_
    refine xav ?_
    refine xaw ?_
    refine xak ?_
    refine xaj (xaq rfl) (fun h_ H_=>xaz (v:=w11) rfl) rfl ?_
    refine xaj (xaq rfl) (fun h_ H_=>xax (v:=w11) rfl) (tm':=_::_::_::_) rfl ?_
    refine xaj (xaq rfl) (fun h_ H_=>xax (v:=.int .i64 0) rfl) rfl ?_
    refine xav ?_
    refine xck Tryz.func16 rfl (vs:=[w11,.int .i64 0]) (fun h_ H_=>⟨w11,_,rfl,rfl,⟨.int .i64 0,_,rfl,rfl,rfl⟩⟩) (v:=.tuple #[w11,.int .i64 0]) rfl ?_
    have hk0:chkT ts=0:=Decidable.not_not.1 ‹_›
    exact fun h_ H_=>K _ _ ⟨_,_,by rw [hk0],by rw [pcB,if_neg ‹_›];exact o13,by simpa using H_.new⟩
end Go.Proofs.YtphalmjpbnffcaaGreatDoor
namespace Go.Proofs.YtphalmjpbnffcaaGreatDoor
open Go.X Go.X.Kn Go.X.Cent Go.Conc
set_option maxRecDepth 10000
set_option synthInstance.maxSize 2000

set_option maxHeartbeats 2000000
theorem c7 (h:Heap) (htab:Tab h):CallsX Tryz.prog .lone 7 #[] h fun v h'=>v= .bool true∧Keep h h':=by
 refine xbk (Φ:=fun h_=>St h [] (fun _=>none) h_ []) Tryz.func7 rfl (tm:=zq4 (zq32 [])) rfl ?_ (St.start h _ (fun _ _ e=>by cases e))
 intro c₀ cs Stop K
 refine fsr <| ro (xax (v:=.bool (false)) rfl) <| ren <| xak ?_
 refine xdx (L':=([]:Pcs)++[]) rfl ?_
 refine xhx mn (first:=[]) (cap:=[]) rfl rfl fC32 (R:=fun v_ h_=>∃ w1:Value,∃ w2:Value,∃ w3:Value,∃ w4:Value,∃ w5:Value,∃ w6:Value,∃ e7:List (List Value),∃ e8:List (List Value),∃ X9:Pcs,∃ X10:Pcs,∃ X11:Pcs,∃ X12:Pcs,∃ X13:Pcs,∃ X14:Pcs,∃ X15:Pcs,∃ X16:Pcs,v_= .tuple #[.agg #[.int .i64 10,.int .i64 2,w3,w4],.agg #[.int .i64 10,.int .i64 1,w5,w6]]∧(OwnS 68 2 w1 (spcs [(1,1),(2,3)]) X9)∧(OwnS 68 2 w2 (spcs [(0,1),(5,5)]) X10)∧(OwnS 23 1 w3 [[w1],[w2]] X11)∧(OwnS 68 2 w4 (spcs [(2,2),(7,8)]) X12)∧(OwnS 23 1 w5 e7 X15)∧(OwnS 68 2 w6 e8 X16)∧St h [] (fun _=>none) h_ (([]:Pcs)++((X16++(X15++(X14++(X13++(X12++(X11++(X10++(X9++[]))))))))++[]))) (fun h_ H_=>(c32 .lone _).mono fun v_ h2_ ⟨w1,w2,w3,w4,w5,w6,e7,e8,X9,X10,X11,X12,X13,X14,X15,X16,e_,o17,o18,o19,o20,o21,o22,N_⟩=>⟨w1,w2,w3,w4,w5,w6,e7,e8,X9,X10,X11,X12,X13,X14,X15,X16,e_,o17,o18,o19,o20,o21,o22,H_.callNA N_⟩) fun v_=>?_
 refine xgj fun w1=>xgj fun w2=>xgj fun w3=>xgj fun w4=>xgj fun w5=>xgj fun w6=>xgj fun e7=>xgj fun e8=>xgj fun X9=>xgj fun X10=>xgj fun X11=>xgj fun X12=>xgj fun X13=>xgj fun X14=>xgj fun X15=>xgj fun X16=>xez fun ev_=>xez fun o17=>xez fun o18=>xez fun o19=>xez fun o20=>xez fun o21=>xez fun o22=>?_
 have ev_:=ev_.symm;subst ev_
 refine xdx (L':=([]:Pcs)++(X16++(X15++(X14++(X13++(X12++(X11++(X10++(X9++[]))))))))) (by simp) ?_
 refine rt (xaz (v:=.tuple #[.agg #[.int .i64 10,.int .i64 2,w3,w4],.agg #[.int .i64 10,.int .i64 1,w5,w6]]) rfl) (tm':=zq8 _) rfl <| ro (xdv rfl (v:=.agg #[.int .i64 10,.int .i64 2,w3,w4]) rfl) <| ro (xdv rfl (v:=.agg #[.int .i64 10,.int .i64 1,w5,w6]) rfl) ?_
 refine xmj mn tZ25 rfl fun b23=>xdx (L':=([(b23,.cells #[.int .i64 0,.int .i64 0,.slice none 0 0,.slice none 0 0] 25 (0,0))]:Pcs)++(X16++(X15++(X14++(X13++(X12++(X11++(X10++(X9++[]))))))))) rfl ?_
 refine xew (tm':=_::_::_) rfl ?_
 refine xmj mn tZ25 rfl fun b24=>xdx (L':=([(b24,.cells #[.int .i64 0,.int .i64 0,.slice none 0 0,.slice none 0 0] 25 (0,0)),(b23,.cells #[.int .i64 0,.int .i64 0,.slice none 0 0,.slice none 0 0] 25 (0,0))]:Pcs)++(X16++(X15++(X14++(X13++(X12++(X11++(X10++(X9++[]))))))))) rfl ?_
 refine xjq mn tS25 rfl (v:=.agg #[.int .i64 10,.int .i64 2,w3,w4]) rfl (i:=1) rfl rfl (xgq rfl (xgq rfl (xgq o19.one.2 (xgq o20.one.2 rfl)))) (Nat.le_of_ble_eq_true rfl) (cs2:=[.int .i64 10,.int .i64 2,w3,w4]) rfl (xdx (L':=([(b24,.cells #[.int .i64 0,.int .i64 0,.slice none 0 0,.slice none 0 0] 25 (0,0)),(b23,.cells #[.int .i64 10,.int .i64 2,w3,w4] 25 (0,0))]:Pcs)++(X16++(X15++(X14++(X13++(X12++(X11++(X10++(X9++[]))))))))) rfl ?_)
 refine xjq mn tS25 rfl (v:=.agg #[.int .i64 10,.int .i64 1,w5,w6]) rfl (i:=0) rfl rfl (xgq rfl (xgq rfl (xgq o21.one.2 (xgq o22.one.2 rfl)))) (Nat.le_of_ble_eq_true rfl) (cs2:=[.int .i64 10,.int .i64 1,w5,w6]) rfl (xdx (L':=([(b24,.cells #[.int .i64 10,.int .i64 1,w5,w6] 25 (0,0)),(b23,.cells #[.int .i64 10,.int .i64 2,w3,w4] 25 (0,0))]:Pcs)++(X16++(X15++(X14++(X13++(X12++(X11++(X10++(X9++[]))))))))) rfl ?_)
 refine ren ?_
 have hP_:exK.places=2:=rfl
 refine xhq (List.Perm.append_left _ (List.Perm.append_left _ (List.Perm.append_left _ (List.Perm.append_left _ (List.Perm.append_left _ (List.Perm.append_left _ (List.Perm.append_left _ (List.perm_append_comm_assoc _ _ _)))))))) ?_
 refine xhq (List.Perm.append_left _ (List.Perm.append_left _ (List.Perm.append_left _ (List.Perm.append_left _ (List.Perm.append_left _ (List.Perm.append_left _ (List.perm_append_comm_assoc _ _ _))))))) ?_
 refine xhq (List.Perm.append_left _ (List.Perm.append_left _ (List.Perm.append_left _ (List.Perm.append_left _ (List.Perm.append_left _ (List.perm_append_comm_assoc _ _ _)))))) ?_
 refine xhq (List.Perm.append_left _ (List.Perm.append_left _ (List.Perm.append_left _ (List.Perm.append_left _ (List.perm_append_comm_assoc _ _ _))))) ?_
 refine xhq (List.Perm.append_left _ (List.Perm.append_left _ (List.Perm.append_left _ (List.perm_append_comm_assoc _ _ _)))) ?_
 refine xhq (List.Perm.append_left _ (List.Perm.append_left _ (List.perm_append_comm_assoc _ _ _))) ?_
 refine xhq (List.Perm.append_left _ (List.perm_append_comm_assoc _ _ _)) ?_
 refine xjv (L':=([(b24,.cells #[.int .i64 10,.int .i64 1,w5,w6] 25 (0,0)),(b23,.cells #[.int .i64 10,.int .i64 2,w3,w4] 25 (0,0))]:Pcs)++(X9++(X16++(X15++(X14++(X13++(X12++(X11++(X10++[]))))))))) rfl ?_
 refine xqv (A:=([(b24,.cells #[.int .i64 10,.int .i64 1,w5,w6] 25 (0,0)),(b23,.cells #[.int .i64 10,.int .i64 2,w3,w4] 25 (0,0))]:Pcs)) o17 (xyz _) fun p25 a26 cp27 le28 ev_ D29=>?_
 subst ev_
 refine xhq (List.Perm.append_left _ (List.Perm.append_left _ (List.Perm.append_left _ (List.Perm.append_left _ (List.Perm.append_left _ (List.Perm.append_left _ (List.perm_append_comm_assoc _ _ _))))))) ?_
 refine xhq (List.Perm.append_left _ (List.Perm.append_left _ (List.Perm.append_left _ (List.Perm.append_left _ (List.Perm.append_left _ (List.perm_append_comm_assoc _ _ _)))))) ?_
 refine xhq (List.Perm.append_left _ (List.Perm.append_left _ (List.Perm.append_left _ (List.Perm.append_left _ (List.perm_append_comm_assoc _ _ _))))) ?_
 refine xhq (List.Perm.append_left _ (List.Perm.append_left _ (List.Perm.append_left _ (List.perm_append_comm_assoc _ _ _)))) ?_
 refine xhq (List.Perm.append_left _ (List.Perm.append_left _ (List.perm_append_comm_assoc _ _ _))) ?_
 refine xhq (List.Perm.append_left _ (List.perm_append_comm_assoc _ _ _)) ?_
 refine xjv (L':=([(b24,.cells #[.int .i64 10,.int .i64 1,w5,w6] 25 (0,0)),(b23,.cells #[.int .i64 10,.int .i64 2,w3,w4] 25 (0,0))]:Pcs)++(X10++(X16++(X15++(X14++(X13++(X12++(X11++[])))))))) rfl ?_
 refine xqv (A:=([(b24,.cells #[.int .i64 10,.int .i64 1,w5,w6] 25 (0,0)),(b23,.cells #[.int .i64 10,.int .i64 2,w3,w4] 25 (0,0))]:Pcs)) o18 (xyz _) fun p30 a31 cp32 le33 ev_ D34=>?_
 subst ev_
 refine xhq (List.Perm.append_left _ (List.Perm.append_left _ (List.Perm.append_left _ (List.Perm.append_left _ (List.Perm.append_left _ (List.perm_append_comm_assoc _ _ _)))))) ?_
 refine xhq (List.Perm.append_left _ (List.Perm.append_left _ (List.Perm.append_left _ (List.Perm.append_left _ (List.perm_append_comm_assoc _ _ _))))) ?_
 refine xhq (List.Perm.append_left _ (List.Perm.append_left _ (List.Perm.append_left _ (List.perm_append_comm_assoc _ _ _)))) ?_
 refine xhq (List.Perm.append_left _ (List.Perm.append_left _ (List.perm_append_comm_assoc _ _ _))) ?_
 refine xhq (List.Perm.append_left _ (List.perm_append_comm_assoc _ _ _)) ?_
 refine xjv (L':=([(b24,.cells #[.int .i64 10,.int .i64 1,w5,w6] 25 (0,0)),(b23,.cells #[.int .i64 10,.int .i64 2,w3,w4] 25 (0,0))]:Pcs)++(X11++(X16++(X15++(X14++(X13++(X12++[]))))))) rfl ?_
 refine xqv (A:=([(b24,.cells #[.int .i64 10,.int .i64 1,w5,w6] 25 (0,0)),(b23,.cells #[.int .i64 10,.int .i64 2,w3,w4] 25 (0,0))]:Pcs)) o19 (show _=2 from rfl) fun p35 a36 cp37 le38 ev_ D39=>?_
 subst ev_
 refine xhq (List.Perm.append_left _ (List.Perm.append_left _ (List.Perm.append_left _ (List.Perm.append_left _ (List.perm_append_comm_assoc _ _ _))))) ?_
 refine xhq (List.Perm.append_left _ (List.Perm.append_left _ (List.Perm.append_left _ (List.perm_append_comm_assoc _ _ _)))) ?_
 refine xhq (List.Perm.append_left _ (List.Perm.append_left _ (List.perm_append_comm_assoc _ _ _))) ?_
 refine xhq (List.Perm.append_left _ (List.perm_append_comm_assoc _ _ _)) ?_
 refine xjv (L':=([(b24,.cells #[.int .i64 10,.int .i64 1,w5,w6] 25 (0,0)),(b23,.cells #[.int .i64 10,.int .i64 2,.slice a36 exK.cords.length cp37,w4] 25 (0,0))]:Pcs)++(X12++(X16++(X15++(X14++(X13++[])))))) rfl ?_
 refine xqv (A:=([(b24,.cells #[.int .i64 10,.int .i64 1,w5,w6] 25 (0,0)),(b23,.cells #[.int .i64 10,.int .i64 2,.slice a36 exK.cords.length cp37,w4] 25 (0,0))]:Pcs)) o20 (xyz _) fun p40 a41 cp42 le43 ev_ D44=>?_
 subst ev_
 have TB_:BookP p40 a36 exK.cords.length (fun i=>if i=0 then a26 else a31) (fun i=>if i=0 then cp27 else cp32) a41 exK.top.length exK:=⟨wlj (l1:=[(1,1),(2,3)]) (l2:=[(0,1),(5,5)]) (D39.mono le43) (Sps.mono (le33.trans (le38.trans le43)) D29) (Sps.mono (le38.trans le43) D34),D44⟩
 refine xjv (L':=([(b24,.cells #[.int .i64 10,.int .i64 1,w5,w6] 25 (0,0)),(b23,.cells #[.int .i64 (exK.base),.int .i64 (exK.places),.slice a36 exK.cords.length cp37,.slice a41 exK.top.length cp42] 25 (0,0))]:Pcs)++(X16++(X15++(X14++(X13++[]))))) rfl ?_
 refine xak <| rd (fun h_ H_=>xeq H_ tA25 tS25 rfl (i:=1) rfl (vs:=[.int .i64 (exK.base),.int .i64 (exK.places),.slice a36 exK.cords.length cp37,.slice a41 exK.top.length cp42]) rfl rfl) ?_
 refine xhx mn (first:=[]) (cap:=[]) rfl rfl fC10 (R:=fun v_ h_=>∃ w45:Value,∃ X46:Pcs,v_= .tuple #[w45,.int .i64 0]∧(OwnS 3 1 w45 (ics (digs exK.base exK.places.toNat 13)) X46)∧St h [] p40 h_ (([(b24,.cells #[.int .i64 10,.int .i64 1,w5,w6] 25 (0,0)),(b23,.cells #[.int .i64 (exK.base),.int .i64 (exK.places),.slice a36 exK.cords.length cp37,.slice a41 exK.top.length cp42] 25 (0,0))]:Pcs)++(X46++(X16++(X15++(X14++(X13++[]))))))) (fun h_ H_=>(c10 .lone _ _ H_.pe _ _ _ _ _ _ exK (show BookP _ _ _ _ _ _ _ exK from ⟨TB_.t,TB_.u⟩) (by decide) wkj (13) (by decide) (by decide)).mono fun v_ h2_ ⟨w45,X46,e_,o47,N_⟩=>⟨w45,X46,e_,o47,H_.callNA N_⟩) fun v_=>?_
 refine xgj fun w45=>xgj fun X46=>xez fun ev_=>xez fun o47=>?_
 have ev_:=ev_.symm;subst ev_
 refine xdx (L':=([(b24,.cells #[.int .i64 10,.int .i64 1,w5,w6] 25 (0,0)),(b23,.cells #[.int .i64 (exK.base),.int .i64 (exK.places),.slice a36 exK.cords.length cp37,.slice a41 exK.top.length cp42] 25 (0,0))]:Pcs)++(X46++(X16++(X15++(X14++(X13++[])))))) rfl ?_
 refine xew (tm':=zq2 (zq4 (zq8 _))) rfl ?_
 refine ro (xaz (v:=.tuple #[w45,.int .i64 0]) rfl) <| ro (xdv rfl (v:=w45) rfl) <| rt (xdv rfl (v:=.int .i64 0) rfl) (tm':=zq16 _) rfl <| ro (xax (v:=w45) rfl) <| ro (xax (v:=.int .i64 0) rfl) <| ren ?_
 refine xak ?_
 refine xhx mn (first:=[]) (cap:=[]) rfl rfl fC14 (R:=fun v_ h_=>∃ w48:Value,∃ X49:Pcs,v_= .tuple #[w48,.int .i64 ((readB ([65,65,97,65,66,126,65,66,98,65,65,126,61,54,53,55,52]:List UInt8)).1)]∧(OwnS 9 1 w48 (scs ((readB ([65,65,97,65,66,126,65,66,98,65,65,126,61,54,53,55,52]:List UInt8)).2)) X49)∧St h [] p40 h_ (([(b24,.cells #[.int .i64 10,.int .i64 1,w5,w6] 25 (0,0)),(b23,.cells #[.int .i64 (exK.base),.int .i64 (exK.places),.slice a36 exK.cords.length cp37,.slice a41 exK.top.length cp42] 25 (0,0))]:Pcs)++(X49++(X46++(X16++(X15++(X14++(X13++[])))))))) (fun h_ H_=>(c14 _ (htab.keep H_.kept) ([65,65,97,65,66,126,65,66,98,65,65,126,61,54,53,55,52]:List UInt8) (by decide)).mono fun v_ h2_ ⟨w48,X49,e_,o50,N_⟩=>⟨w48,X49,e_,o50,H_.callNA N_⟩) fun v_=>?_
 refine xgj fun w48=>xgj fun X49=>xez fun ev_=>xez fun o50=>?_
 have ev_:=ev_.symm;subst ev_
 refine xdx (L':=([(b24,.cells #[.int .i64 10,.int .i64 1,w5,w6] 25 (0,0)),(b23,.cells #[.int .i64 (exK.base),.int .i64 (exK.places),.slice a36 exK.cords.length cp37,.slice a41 exK.top.length cp42] 25 (0,0))]:Pcs)++(X49++(X46++(X16++(X15++(X14++(X13++[]))))))) rfl ?_
 refine xew (tm':=zq2 (zq16 _)) rfl ?_
 refine ro (xaz (v:=.tuple #[w48,.int .i64 ((readB ([65,65,97,65,66,126,65,66,98,65,65,126,61,54,53,55,52]:List UInt8)).1)]) rfl) <| ro (xdv rfl (v:=w48) rfl) <| rt (xdv rfl (v:=.int .i64 ((readB ([65,65,97,65,66,126,65,66,98,65,65,126,61,54,53,55,52]:List UInt8)).1)) rfl) (tm':=zq4 (zq16 _)) rfl <| ro (xax (v:=w48) rfl) <| ro (xax (v:=.int .i64 ((readB ([65,65,97,65,66,126,65,66,98,65,65,126,61,54,53,55,52]:List UInt8)).1)) rfl) <| ren ?_
 refine xak <| rt (xaz (v:=.int .i64 0) rfl) (tm':=zq1 (zq4 (zq16 _))) rfl <| ro (xtz rfl rfl) <| ro (xaz (v:=.bool (decide ((0:Int)=0))) rfl) ?_
 refine xaj (ms rfl rfl (decide_eq_true rfl)) (fun h_ H_=>xaz (v:=.int .i64 ((readB ([65,65,97,65,66,126,65,66,98,65,65,126,61,54,53,55,52]:List UInt8)).1)) rfl) (tm':=zq8 (zq16 _)) rfl ?_
 refine xaj (ms rfl rfl (decide_eq_true rfl)) (fun h_ H_=>xtz rfl rfl) rfl ?_
 refine ro (xdz rfl (decide_eq_true rfl) (v:=.bool (decide ((readB ([65,65,97,65,66,126,65,66,98,65,65,126,61,54,53,55,52]:List UInt8)).1=0))) rfl) <| rt (xaz (v:=.bool (decide ((readB ([65,65,97,65,66,126,65,66,98,65,65,126,61,54,53,55,52]:List UInt8)).1=0))) rfl) (tm':=zq4 (zq32 [])) rfl ?_
 refine xaj (ms rfl rfl (decide_eq_true (by decide +kernel))) (fun h_ H_=>xaz (v:=w45) rfl) rfl ?_
 refine xfq ([(b24,.cells #[.int .i64 10,.int .i64 1,w5,w6] 25 (0,0)),(b23,.cells #[.int .i64 (exK.base),.int .i64 (exK.places),.slice a36 exK.cords.length cp37,.slice a41 exK.top.length cp42] 25 (0,0))]:Pcs) (ms rfl rfl (decide_eq_true (by decide +kernel))) Tryz.underlying26 tS3 tZ3 (Nat.le_of_ble_eq_true rfl) (vs:=[(0,.int .i64 1),(1,.int .i64 3)]) rfl rfl (es:=[[.int .i64 1],[.int .i64 3]]) rfl rfl rfl fun v51 X52 o53=>?_
 refine xjw (List.Perm.append_left _ (List.Perm.append_left _ (List.perm_append_comm_assoc _ _ _))) ?_
 refine xjw (List.Perm.append_left _ (List.perm_append_comm_assoc _ _ _)) ?_
 refine xdx (L':=([(b24,.cells #[.int .i64 10,.int .i64 1,w5,w6] 25 (0,0)),(b23,.cells #[.int .i64 (exK.base),.int .i64 (exK.places),.slice a36 exK.cords.length cp37,.slice a41 exK.top.length cp42] 25 (0,0))]:Pcs)++(X46++(X52++(X49++(X16++(X15++(X14++(X13++[])))))))) rfl ?_
 refine xsv (A:=([(b24,.cells #[.int .i64 10,.int .i64 1,w5,w6] 25 (0,0)),(b23,.cells #[.int .i64 (exK.base),.int .i64 (exK.places),.slice a36 exK.cords.length cp37,.slice a41 exK.top.length cp42] 25 (0,0))]:Pcs)) o47 ((xoj _).trans (xik _ _ _)) fun p54 a55 cp56 le57 ev_ D58=>?_
 subst ev_
 refine xsv (A:=([(b24,.cells #[.int .i64 10,.int .i64 1,w5,w6] 25 (0,0)),(b23,.cells #[.int .i64 (exK.base),.int .i64 (exK.places),.slice a36 exK.cords.length cp37,.slice a41 exK.top.length cp42] 25 (0,0))]:Pcs)) o53 (show _=2 from rfl) fun p59 a60 cp61 le62 ev_ D63=>?_
 subst ev_
 refine xdj (ms rfl rfl (decide_eq_true (by decide +kernel))) (first:=[]) (cap:=[]) rfl rfl fC28 (fun h_ H_=>c28 .lone _ _ H_.pe _ _ _ _ _ _ _ _ ((show Ints _ _ _ (digs exK.base exK.places.toNat 13) from D58).mono le62) (show Ints _ _ _ [1,3] from D63) (by omega)) (tm':=zq4 (zq32 [])) rfl ?_
 refine ro (xdz rfl (decide_eq_true (by decide +kernel)) (v:=.bool (decide ((digs exK.base exK.places.toNat 13)=[1,3]))) rfl) ?_
 refine ro (xaz (v:=.bool (decide ((digs exK.base exK.places.toNat 13)=[1,3]))) rfl) ?_
 refine xaj (ms rfl rfl (decide_eq_true (by decide +kernel))) (fun h_ H_=>xaz (v:=w48) rfl) (tm':=zq4 (zq32 [])) rfl ?_
 refine xfq ([(b24,.cells #[.int .i64 10,.int .i64 1,w5,w6] 25 (0,0)),(b23,.cells #[.int .i64 (exK.base),.int .i64 (exK.places),.slice a36 exK.cords.length cp37,.slice a41 exK.top.length cp42] 25 (0,0))]:Pcs) (ms rfl rfl (decide_eq_true (by decide +kernel))) Tryz.underlying33 tS9 tZ9 (Nat.le_of_ble_eq_true rfl) (vs:=[(0,sv ([97,97]:List UInt8)),(1,sv ([97,98]:List UInt8))]) rfl rfl (es:=[[sv ([97,97]:List UInt8)],[sv ([97,98]:List UInt8)]]) rfl rfl rfl fun v64 X65 o66=>?_
 have o67:OwnS 9 1 v64 (scs ([([97,97]:List UInt8),([97,98]:List UInt8)]:List By)) X65:=o66
 refine xjw (List.Perm.append_left _ (List.perm_append_comm_assoc _ _ _)) ?_
 refine xdx (L':=([(b24,.cells #[.int .i64 10,.int .i64 1,w5,w6] 25 (0,0)),(b23,.cells #[.int .i64 (exK.base),.int .i64 (exK.places),.slice a36 exK.cords.length cp37,.slice a41 exK.top.length cp42] 25 (0,0))]:Pcs)++(X49++(X65++(X16++(X15++(X14++(X13++[]))))))) rfl ?_
 refine xsv (A:=([(b24,.cells #[.int .i64 10,.int .i64 1,w5,w6] 25 (0,0)),(b23,.cells #[.int .i64 (exK.base),.int .i64 (exK.places),.slice a36 exK.cords.length cp37,.slice a41 exK.top.length cp42] 25 (0,0))]:Pcs)) o50 (xek _) fun p68 a69 cp70 le71 ev_ D72=>?_
 subst ev_
 refine xsv (A:=([(b24,.cells #[.int .i64 10,.int .i64 1,w5,w6] 25 (0,0)),(b23,.cells #[.int .i64 (exK.base),.int .i64 (exK.places),.slice a36 exK.cords.length cp37,.slice a41 exK.top.length cp42] 25 (0,0))]:Pcs)) o67 (xek _) fun p73 a74 cp75 le76 ev_ D77=>?_
 subst ev_
 refine xdj (ms rfl rfl (decide_eq_true (by decide +kernel))) (first:=[]) (cap:=[]) rfl rfl fC33 (fun h_ H_=>c33 .lone _ _ H_.pe a69 a74 (((readB ([65,65,97,65,66,126,65,66,98,65,65,126,61,54,53,55,52]:List UInt8)).2).length) (([([97,97]:List UInt8),([97,98]:List UInt8)]:List By).length) _ _ ((readB ([65,65,97,65,66,126,65,66,98,65,65,126,61,54,53,55,52]:List UInt8)).2) ([([97,97]:List UInt8),([97,98]:List UInt8)]:List By) ((show Strs _ _ _ ((readB ([65,65,97,65,66,126,65,66,98,65,65,126,61,54,53,55,52]:List UInt8)).2) from D72).mono le76) (show Strs _ _ _ ([([97,97]:List UInt8),([97,98]:List UInt8)]:List By) from D77) (by decide +kernel)) rfl ?_
 refine rt (xdz rfl (decide_eq_true (by decide +kernel)) (v:=.bool (decide ((readB ([65,65,97,65,66,126,65,66,98,65,65,126,61,54,53,55,52]:List UInt8)).2=([([97,97]:List UInt8),([97,98]:List UInt8)]:List By)))) rfl) (tm':=zq4 (zq32 [])) rfl ?_
 refine ro (xax (v:=.bool (decide ((readB ([65,65,97,65,66,126,65,66,98,65,65,126,61,54,53,55,52]:List UInt8)).2=([([97,97]:List UInt8),([97,98]:List UInt8)]:List By)))) rfl) <| xav ?_
 refine xck Tryz.func7 rfl (vs:=[.bool (decide ((readB ([65,65,97,65,66,126,65,66,98,65,65,126,61,54,53,55,52]:List UInt8)).2=([([97,97]:List UInt8),([97,98]:List UInt8)]:List By)))]) (fun h_ H_=>⟨.bool (decide ((readB ([65,65,97,65,66,126,65,66,98,65,65,126,61,54,53,55,52]:List UInt8)).2=([([97,97]:List UInt8),([97,98]:List UInt8)]:List By))),_,rfl,rfl,rfl⟩) (v:=.bool (decide ((readB ([65,65,97,65,66,126,65,66,98,65,65,126,61,54,53,55,52]:List UInt8)).2=([([97,97]:List UInt8),([97,98]:List UInt8)]:List By)))) rfl ?_
 exact fun h_ H_=>K _ _ ⟨rfl,H_.kept⟩
end Go.Proofs.YtphalmjpbnffcaaGreatDoor
