/- The row. No condition. -/
import Derived.Test.YtahogphlohnpmaaGreatDoorKB
import Derived.Test.YtahogphlohnpmaaGreatDoorXB
import Derived.Test.YtahogphlohnpmaaGreatDoorKA
import Derived.ProofKit
import Derived.Carry
import Derived.WalkKit
import Derived.Test.YtahogphlohnpmaaGreatDoorCards
import Derived.Test.YtahogphlohnpmaaGreatDoorTie
import Derived.OpenShut
import Derived.Deep.DeepHandedRow
namespace Go.V
open Go Go.Proofs
set_option maxRecDepth 100000
set_option linter.unusedSimpArgs false
set_option linter.unusedVariables false
attribute [local go_sem_proc] Nat.reduceAdd Nat.reduceMul Nat.reduceLeDiff Nat.reduceEqDiff reduceCtorEq Nat.reduceSub Int.reduceNeg Nat.reduceMod Nat.reduceBEq Nat.reduceLT
attribute [local go_sem] aPickB.eq_1 aPickB.eq_2 aPick.eq_1 aBox.eq_1 aBox.eq_2 aAlloc.eq_1 aAlloc.eq_2 aLoadB.eq_1 aLoadB.eq_2 aLoadB.eq_3 aLoadB.eq_4 aLoadB.eq_5 aLoadA.eq_1 aLoadA.eq_2 aLoadA.eq_3 aLoadA.eq_4 aLoadA.eq_5 aLoadP.eq_1 aLoadP.eq_2 aLoadP.eq_3 aLoad.eq_1 aLoad.eq_2 aFAx.eq_1 aFAx.eq_2 aFAx.eq_3 aFA.eq_1 aFA.eq_2 aFx.eq_1 aF.eq_1 aF.eq_2 fld.eq_1 elT.eq_1 aIdxH.eq_1 aIdxH.eq_2 aIdxH.eq_3 aIdxH.eq_4 aIdxH.eq_5 aIdxP.eq_1 aIdxP.eq_2 aIndexAddr.eq_1 aIndexAddr.eq_2 aIndexAddr.eq_3 isStr.eq_1 aIndex.eq_1 aSlStr.eq_1 aSlRo.eq_1 aSlZ.eq_1 aSlZ.eq_2 aSlice.eq_1 aSlice.eq_2 aSlice.eq_3 bnd.eq_1 bnd.eq_2 aBuildO.eq_1 aBuildO.eq_2 aBuild.eq_1 aNewArr.eq_1 aNewArr.eq_2 aBS.eq_1 aBS.eq_2 aBuildSlice.eq_1 aBuildSlice.eq_2 aMakeSlice.eq_1 appDeep.eq_1 aApp2.eq_1 aAppend.eq_1 aAppend.eq_2 aStoreB.eq_1 aStoreA.eq_1 obFlat.eq_1 aStore2.eq_1 aStore2.eq_2 aStoreP.eq_1 aStoreP.eq_2 aStore.eq_1 aStore.eq_2 isShl.eq_1 isShl.eq_2 isBool.eq_1 aBinI.eq_1 aBinI.eq_2 aBinB.eq_1 aBinB.eq_2 aEq.eq_1 aEq.eq_2 aEq.eq_3 aEq.eq_4 aEqG.eq_1 aEqG.eq_2 aBin.eq_1 aBin.eq_2 aBin.eq_3 aBin.eq_4 aUn.eq_1 aUn.eq_2 aLenO.eq_1 aLenS.eq_1 aLenS.eq_2 aLenS.eq_3 aLenT.eq_1 aLen.eq_1 aLen.eq_2 aLen.eq_3 bytesOb.eq_1 bytesOb.eq_2 bytesOf.eq_1 bytesOf.eq_2 aNums.eq_1 aNums.eq_2 isU8.eq_1 aCvI.eq_1 aCvS.eq_1 aCvB.eq_1 aCvB.eq_2 aCvT.eq_1 aConv.eq_1 aConv.eq_2 aConv.eq_3 aConv.eq_4 aExO.eq_1 aExO.eq_2 aExtract.eq_1 aNil.eq_1 aNil.eq_2 aNil.eq_3 aCallS.eq_1 aCallS.eq_2 aCallR.eq_1 aCallR.eq_2 aCallK.eq_1 aCallK.eq_2 aCallK.eq_3 aCall.eq_1 aCall.eq_2 takeO.eq_1 AS.takeV.eq_1 AS.takeV.eq_2 AS.takeV.eq_3 AS.takeV.eq_4 AS.takeV.eq_5 AS.takeV.eq_6 AS.takeV.eq_7 AV.oldM.eq_1 AV.oldM.eq_2 AV.oldM.eq_3 AV.oldM.eq_4 AV.oldM.eq_5 AV.oldM.eq_6 AV.oldM.eq_7 AV.oldM.eq_8 AV.oldM.eq_9 AV.oldM.eq_10 AV.oldM.eq_11 AV.oldML.eq_1 AV.oldML.eq_2 subL.eq_1 subL.eq_2 back.eq_1 back.eq_2 back.eq_3 back.eq_4 backL.eq_1 backI.eq_1 backI.eq_2 backI.eq_3 backI.eq_4 backIL.eq_1 aBuiltin.eq_1 aBuiltin.eq_2 aBuiltin.eq_3 aCallee.eq_1 aCallee.eq_2 aCallee.eq_3 abin.eq_1 abin.eq_2 abin.eq_3 abin.eq_4 abin.eq_5 abin.eq_6 abin.eq_7 abin.eq_8 abin.eq_9 abin.eq_10 abin.eq_11 abin.eq_12 abin.eq_13 abin.eq_14 abin.eq_15 abin.eq_17 abin.eq_18 abin.eq_19 abin.eq_20 abin.eq_21 abin.eq_22 abin.eq_23 AS.ev.eq_1 AS.ev.eq_2 AS.ev.eq_3 AS.ev.eq_4 AS.evs.eq_1 AS.evs.eq_2 AS.evp.eq_1 AS.evp.eq_2 AS.put.eq_1 AS.put.eq_2 AS.remL.eq_1 AS.remL.eq_2 AV.has.eq_1 AV.has.eq_2 AV.has.eq_3 AV.has.eq_4 AV.has.eq_5 AV.has.eq_6 AV.has.eq_7 AV.has.eq_8 AV.has.eq_9 AV.has.eq_10 AV.has.eq_11 AV.hasL.eq_1 AV.hasL.eq_2 Ob.drop.eq_1 Ob.drop.eq_2 Ob.drop.eq_3 Ob.drop.eq_4 AV.cells.eq_1 AV.cells.eq_2 AV.cells.eq_3 AV.cells.eq_4 AV.cells.eq_5 AS.snapT.eq_1 AS.snapT.eq_2 AS.snapT.eq_3 AS.snapT.eq_4 AS.snapT.eq_5 AS.snapT.eq_6 AS.snapT.eq_7 AS.snap.eq_1 AS.snap.eq_2 mapO.eq_1 mapO.eq_2 intern.eq_1 intern.eq_2 intern.eq_3 intern.eq_4 intern.eq_5 intern.eq_6 intern.eq_7 intern.eq_8 intern.eq_9 intern.eq_10 intern.eq_11 internL.eq_1 internL.eq_2 zipSl.eq_1 zipSl.eq_2 AV.ids.eq_1 AV.ids.eq_2 AV.ids.eq_3 AV.ids.eq_4 AV.ids.eq_5 AV.ids.eq_6 AV.ids.eq_7 AV.ids.eq_8 AV.ids.eq_9 AV.ids.eq_10 AV.ids.eq_11 AV.idsL.eq_1 AV.idsL.eq_2 AV.sub.eq_1 AV.sub.eq_2 AV.sub.eq_3 AV.sub.eq_4 AV.sub.eq_5 AV.sub.eq_6 AV.sub.eq_7 AV.sub.eq_8 AV.sub.eq_9 AV.sub.eq_10 AV.sub.eq_11 AV.subL.eq_1 AV.subL.eq_2 AS.frzL.eq_1 AS.frzL.eq_2 AS.absT.eq_1 AS.absT.eq_2 AS.absT.eq_4 AS.absL.eq_1 AS.absL.eq_2 AS.absOk.eq_1 AS.absOkL.eq_1 AS.absOkL.eq_2 hid.eq_1 hids.eq_1 hids.eq_2 AS.appBase.eq_1 AS.appBase.eq_2 AS.appSrc.eq_1 appFits.eq_1 appFits.eq_2 appFits.eq_3 avFill.eq_1 avFill.eq_2 avc.eq_1 avc.eq_2 avc1.eq_1 Kd.agg.eq_1 Kd.agg.eq_2 okR.eq_1 okR.eq_2 okR.eq_3 okR.eq_4 okR.eq_5 okR.eq_6 okR.eq_7 okR.eq_8 zt.eq_1 rvB.eq_1 rvP.eq_1 rvA.eq_1 rvA.eq_2 rv1.eq_1 outTO.eq_1 outT.eq_1 outT.eq_2 outT.eq_3 outTn.eq_1 outOO.eq_1 outO.eq_1 outO.eq_2 boxOf.eq_1 outP.eq_1 outP.eq_2 outP.eq_3 outP.eq_4 outP.eq_5 outP.eq_6 outP.eq_7 outP.eq_8 outPL.eq_1 outPL.eq_2 outI.eq_1 outI.eq_2 outI.eq_3 outI.eq_4 outI.eq_5 outIL.eq_1 outZ.eq_1 outZ.eq_2 outZ.eq_3 outZ.eq_4 outZ.eq_5 outZL.eq_1 finO.eq_1 finO.eq_2 fin.eq_1 fin.eq_2 fin.eq_3 cellAV.eq_1 cellAV.eq_2 numsOf.eq_1 numsOf.eq_2 aop.eq_1 aop.eq_2 aop.eq_3 aop.eq_4 aop.eq_5 aop.eq_6 aop.eq_7 aop.eq_8 aop.eq_9 aop.eq_10 aop.eq_11 aop.eq_12 aop.eq_13 aop.eq_14 aop.eq_15 aop.eq_16 aop.eq_17 aop.eq_18 aop.eq_19 aop.eq_20 aop.eq_21 aop.eq_22 aop.eq_23 aop.eq_24 aop.eq_25 aop.eq_26 tmpsOf.eq_1 tmpsOf.eq_2 tmpsOf.eq_3 tmpsOf.eq_4 tmpsOf.eq_5 AV.refs.eq_1 AV.refs.eq_2 AV.refs.eq_3 AV.refs.eq_4 AV.refs.eq_5 AV.refs.eq_6 AV.refs.eq_7 AV.refs.eq_8 AV.refs.eq_9 AV.refs.eq_10 AV.refs.eq_11 AV.refsL.eq_1 AV.refsL.eq_2 refsT.eq_1 refsT.eq_2 refsO.eq_1 refsO.eq_2 refsO.eq_3 refsO.eq_4 refsO.eq_5 refsO.eq_6 refsB.eq_1 refsB.eq_2 clos.eq_1 clos.eq_2 keepL.eq_1 keepL.eq_2 AV.hasM.eq_1 AV.hasM.eq_2 AV.hasM.eq_3 AV.hasM.eq_4 AV.hasM.eq_5 AV.hasM.eq_6 AV.hasM.eq_7 AV.hasM.eq_8 AV.hasM.eq_9 AV.hasM.eq_10 AV.hasM.eq_11 AV.hasML.eq_1 AV.hasML.eq_2 Ob.dropM.eq_1 Ob.dropM.eq_2 Ob.dropM.eq_3 Ob.dropM.eq_4 nsC.eq_1 nsC.eq_2 okGuard.eq_1 okGuard.eq_2 AS.purges.eq_1 AS.purges.eq_2 dropMB.eq_1 dropMB.eq_2 newB.eq_1 newB.eq_2 ptB.eq_1 ptB.eq_2 lookC.eq_1 lookC.eq_2 dropB.eq_1 dropB.eq_2 leS.eq_1 leS.eq_2 leT.eq_1 leT.eq_2 AS.mvs.eq_1 AS.mvs.eq_2 AS.mvA.eq_1 AS.mvA.eq_2 AS.mvB.eq_1 aSetO.eq_1 aSetO.eq_2 aSh.eq_1 aSh.eq_2 arK.eq_1 aIdxA.eq_1 aIdxA.eq_2 arT.eq_1 aSlHB.eq_1 aSlHB.eq_2 aSlHO.eq_1 aSlHZ.eq_1 aSlHZ.eq_2 isSlT.eq_1 isNilC.eq_1 aNilO.eq_1 aNilX.eq_1 aNilX.eq_2 aNilX.eq_3 aNilC.eq_1 aNilC.eq_2 aBinQ.eq_1 aBinQ.eq_2 aMin.eq_1 flT.eq_1 flT.eq_2 flT.eq_3 mpT.eq_1 aMkMap.eq_1 aMkMap.eq_2 strA.eq_1 keyMK.eq_1 keyMK.eq_2 keyMK.eq_3 mkB.eq_1 mkB.eq_2 mkB.eq_3 aMp2.eq_1 aMp1.eq_1 aMp0.eq_1 aMapU.eq_1 aLk2.eq_1 aLk2.eq_2 aLk1.eq_1 aLk0.eq_1 aLookup.eq_1 aLenMO.eq_1 aLenM.eq_1 glV.eq_1 glV.eq_2 evG.eq_1 evG.eq_2 evG.eq_3 evG.eq_4 lkHitO.eq_1 lkHitO.eq_2 lkHitO.eq_3 lkHitO.eq_4 lkHit.eq_1 lkHit.eq_2 lkF.eq_1 lkF.eq_2 lkFind.eq_1 lkFind.eq_2 lkV.eq_1 lkV.eq_2 lkV.eq_3 lkV.eq_4 lkV.eq_5 AS.lkO.eq_1 AS.lkO.eq_2 AS.lkOf.eq_1 rawT.eq_1 rawT.eq_2 rawT.eq_3 rawT.eq_4 rawT.eq_5 rawT.eq_6 rawOf.eq_1 rawOf.eq_2 rawOf.eq_3 rawOf.eq_4 rawOf.eq_5 rawOf.eq_6 rawOf.eq_7 rawOf.eq_8 rawOf.eq_9 rawOf.eq_10 rawOf.eq_11 aLkR.eq_1 aLkR.eq_2 aLk.eq_1 aLk.eq_2 KL.eq_1 lkDrop.eq_1 lkDrop.eq_2 lkParO.eq_1 lkParO.eq_2 lkParO.eq_3 lkParO.eq_4 lkPar.eq_1 lkPar.eq_2 lkI.eq_1 lkI.eq_2 lkIds.eq_1 lkIds.eq_2 adLd.eq_1 run_nil run_b run_l run_skip run_label run_seq run_cond brV_b brB_t brB_f run_block run_exit run_ret run_region runX_nil runX_c runX_c' runX_b runX_b' runX_l runX_l' exB_t exB_f run_o run_op run_opg gV_b gV_t gB_tt gB_ff gB_tf gB_ft rs_eq kv KI aLenN aBS1 aApp1 aStore1 szOk gv gd s0 idOf look_cons lookC frzU_t frzU_f orT orF drop_any drop_nil drop_t drop_h drop_pb drop_pa drop_agg drop_tup drop_fn dropB kill_eq set_eq rem_eq re_eq up_eq get_eq ob_eq Ob.drop apl fpl plainTy AS.frz splice cond_true cond_false List.map_cons List.map_nil List.drop_zero List.drop_succ_cons List.drop_nil List.take_zero List.take_succ_cons List.take_nil List.getElem?_cons_zero List.getElem?_cons_succ List.getElem?_nil List.length_cons List.length_nil Option.map_some Option.map_none Option.bind_some Option.bind_none List.cons_append List.nil_append List.append_nil Option.getD_some Option.getD_none List.all_cons List.all_nil Bool.and_true Bool.true_and Bool.or_false Bool.false_or Bool.or_true Bool.true_or List.flatten_cons List.flatten_nil List.replicate_succ List.replicate_zero and_true true_and avOf_t avOf_f agg_bool agg_int agg_str agg_slice agg_struct agg_func agg_ptr agg_map avc_bool avc_int avc_str avc_fn avc1_bool avc1_int avc1_str avc1_fn zt_bool zt_int zt_str cells_nil cells_t cells_h cells_pb cells_fn snap_t snap_nil snap_h snap_pb snap_fn rv1_one rv1_two outI_t outI_oh outI_on outI_any outI_nil outZ_th outZ_tt outZ_tn outZ_o outZ_any outZ_nil outIL_nil outZL_nil finN finR ne_eq not_false_eq_true not_true_eq_false List.nodup_nil List.not_mem_nil false_implies implies_true eq_self true_or or_true Option.some.injEq shl_add shl_sub shl_mul shl_quo shl_rem shl_and shl_or shl_xor shl_andNot shl_eql shl_neq shl_lss shl_leq shl_gtr shl_geq shl_shr shl_shl appDeep_none appDeep_sn appSrc_h appSrc_nil fits_ft fits_tn fits_tf isStr_slice obFlat_box Nat.le_refl nbeq_self List.length_map updZ_s updZ_n dropM_eq purge_eq newIds_cons newIds_nil purgeT_nil purgeT_cons memN_cons memN_nil bd_d bd_c bd_g bd_p bd_t bd_o preds_nil preds_cons hasIns insB List.any_cons List.any_nil adK_eq adr_nil adG_eq kdOp noLen creates Op.operands Call.operands nsOf adT adI adJ plainB rst List.append_eq nsD_f nsD_n nsD_t nOf_0 nOf_1 nOf_2 chO_0 chO_1 chO_2 keepK_0 keepK_1 keepK_2 eqRes AS.mv fits KM aCallM notNew kdCall arK_i64 arK_i32 arK_u8 arK_u64 arT_sl isNilC_t isNilC_f isNilC_g isNilC_i isNilC_b isNilC_s isNilC_a isNilC_n andBF andBT aCallK_2 ble_dec hid_t hid_nil hid_any hid_pb hid_fn absOk_t absOk_nil absOk_pb absOk_h absOkO_1 decide_true decide_false Array.toList_append chunk_0 chunk_1 chunk_2 chunk_3 back_t back_nil back_ht backL_nil backI_t backI_nil backI_ht backIL_nil AS.mvJ nbeq_dec runR_f runR_t loadB Option.isSome_some Option.isSome_none nodup1 adr_none adr_some adO_s adV_b adV_t adB_tt adB_ff adB_tf adB_ft adS_eq lenL.eq_1 lenO.eq_1 lenO.eq_2 lenV.eq_1 lenV.eq_2 lenV.eq_3 lenV.eq_4 optN optS absT_ft
attribute [local go_sem] ty3 ty4 ty5 ty9 ty21 ty22 ty23 ty25 ty27 ty28 ty29 ty31 ty33 ty43 ty45 ty46 ty48 ty54 ty57 ty59 ty60 ty62 ty73 ty75 ty91 ty96 ty98 ty101 ty104 ty120 ty125 ty129 ty146 ty166 ty207 ty220 ty237 lv27 lv91 lv104 lv120 zb4 leS leT fits AS.mvs encStr_eq aIdx_str EStr_dec decStrs decStrs0 EStr_enc EStr_n encInt_eq aIdx_int EInt_dec decInts decInts0 EInt_enc EInt_n AllV_Int len_Int lc_enc l0_enc asl_enc ag_enc aow_enc ABool_enc AInt_enc AStr_enc AU8_enc ABool_dec AInt_dec AStr_dec AU8_dec asl_dec ag_dec aow_dec bind_some pr2.eq_1 l0_nil lc_cons unT.eq_1 K0.eq_1 M0.eq_1 KI AllV_Str len_Str ctR_eq ctM_eq ro_kd ro_ro mu_kd mu_mu encAd_eq aIdx_Ad EAd_dec decAds decAds0 EAd_enc EAd_n len_Ad Ad_eta AllV_Ad encMl_eq aIdx_Ml EMl_dec decMls decMls0 EMl_enc EMl_n len_Ml Ml_eta mkMl.eq_1 owMl_eq AMl_enc AMl_dec encRc_eq aIdx_Rc ERc_dec decRcs decRcs0 ERc_enc ERc_n len_Rc Rc_eta AllV_Rc encIm_eq aIdx_Im EIm_dec decIms decIms0 EIm_enc EIm_n len_Im Im_eta mkIm.eq_1 owIm_eq AIm_enc AIm_dec encSp_eq aIdx_Sp ESp_dec decSps decSps0 ESp_enc ESp_n len_Sp Sp_eta mkSp.eq_1 owSp_eq ASp_enc ASp_dec encNt_eq aIdx_Nt ENt_dec decNts decNts0 ENt_enc ENt_n len_Nt Nt_eta mkNt.eq_1 owNt_eq ANt_enc ANt_dec
def c115 : Mt := ctM (lc ARd (lc ESp.ag l0)) (fun p => (0 ≤ p.1.p ∧ p.1.p ≤ 999980000) ∧ OkSp p.2.1) (fun p => ([ARd.enc (ofD p.1 p.2.1).2, ESp.ag.enc p.2.1], .tup [.t (.v (.int .i64 (ofD p.1 p.2.1).1.1)), .agg [.t (.v (.string (ofD p.1 p.2.1).1.2.user)), .t (.v (.string (ofD p.1 p.2.1).1.2.domain))]]))
section
attribute [local go_sem] c43 c116 nx_p nx_b ARd_enc ARd_dec decBys omap_some nx_nx nx_eq Rd_eta pp_add outP_ob outI_ob outZ_ob takeV_pb takeV_pb8 boxOf_b takeB_s outPb_s outIb_s outZb_s rv1_nil List.length_map List.length_append List.length_cons List.length_nil List.map_append List.map_nil Nat.zero_add List.nil_append AS.opn AS.cls AS.nilb AS.renb AS.up Bool.not_false Bool.not_true List.set_set List.set_cons_zero List.set_cons_succ List.set_nil List.mem_singleton forall_eq ofX_f ck_4 ck_5 ck_6 ck_7 ck_11 ck_12
set_option maxHeartbeats 3200000 in
theorem good115 {G : Gt} (hG : OkG G) (hh : G.e 43 = muEnt c43 ∧ G.e 116 = muEnt c116) : Gd G 115 (muEnt c115) := by
  refine gM (dp := fun _ => true) (fn := Tryz.f115) (n := 2) (fun _ => rfl) (by kernel_rfl) rfl (by kernel_rfl) hG (Nat.le_of_ble_eq_true rfl) (by kernel_rfl) ?_
  rintro ⟨r, s, ⟨⟩⟩ hpre
  obtain ⟨⟨h1, h2⟩, zs⟩ := hpre
  try dsimp only at h1 h2 zs ⊢
  by_cases L : (s.items.length : Int) = 0
  · skip
    rw [ofD_0 L]
    simp -implicitDefEqProofs only [Tryz.f115, L, eq_self, decide_true, decide_false, Int.reduceEq, go_sem, hh, Int.reduceAdd]
    repeat' (first | with_reducible apply And.intro | with_reducible intro _ | ((first | apply brB_split | apply aPickB_split | apply gB_split | apply adB_split) <;> intro hb <;> simp -implicitDefEqProofs only [hb, go_sem, hh, Int.reduceAdd] <;> try simp only [qz] at hb))
    all_goals (try simp only [maxLen, Int.toNat_natCast] at *)
    all_goals first | rfl | omega | decide | assumption | (show pairsB _ = true; rfl) | skip
  · have hb := pkN_b (r := r.nx 1) (n := s.items.length) (by rw [nx_p]; omega) (by rw [nx_p]; omega)
    by_cases P : pkN r 6 = 0
    · skip
      rw [ofD_1 L P]
      simp -implicitDefEqProofs only [Tryz.f115, L, P, eq_self, decide_true, decide_false, Int.reduceEq, go_sem, hh, Int.reduceAdd]
      repeat' (first | with_reducible apply And.intro | with_reducible intro _ | ((first | apply brB_split | apply aPickB_split | apply gB_split | apply adB_split) <;> intro hb <;> simp -implicitDefEqProofs only [hb, go_sem, hh, Int.reduceAdd] <;> try simp only [qz] at hb))
      all_goals (try simp only [maxLen, Int.toNat_natCast] at *)
      all_goals first | rfl | omega | decide | assumption | (show pairsB _ = true; rfl) | skip
    · have hc := pkN_b (r := r.nx 2) (n := (ofX r s).to.length) (by rw [nx_p]; omega) (by rw [nx_p]; omega)
      by_cases Q : ((ofX r s).to.length : Int) = 0
      · skip
        rw [ofD_2 L P Q]
        simp -implicitDefEqProofs only [Tryz.f115, L, P, Q, eq_self, decide_true, decide_false, Int.reduceEq, go_sem, hh, Int.reduceAdd]
        repeat' (first | with_reducible apply And.intro | with_reducible intro _ | ((first | apply brB_split | apply aPickB_split | apply gB_split | apply adB_split) <;> intro hb <;> simp -implicitDefEqProofs only [hb, go_sem, hh, Int.reduceAdd] <;> try simp only [qz] at hb))
        all_goals (try simp only [maxLen, Int.toNat_natCast] at *)
        all_goals first | rfl | omega | decide | assumption | (show pairsB _ = true; rfl) | skip
      · skip
        rw [ofD_3 L P Q]
        simp -implicitDefEqProofs only [Tryz.f115, L, P, Q, eq_self, decide_true, decide_false, Int.reduceEq, go_sem, hh, Int.reduceAdd]
        repeat' (first | with_reducible apply And.intro | with_reducible intro _ | ((first | apply brB_split | apply aPickB_split | apply gB_split | apply adB_split) <;> intro hb <;> simp -implicitDefEqProofs only [hb, go_sem, hh, Int.reduceAdd] <;> try simp only [qz] at hb))
        all_goals (try simp only [maxLen, Int.toNat_natCast] at *)
        all_goals first | rfl | omega | decide | assumption | (show pairsB _ = true; rfl) | skip
end
def nulM : Ml := ⟨nulA, [], []⟩
def noR (r : Rd) (s : Sp) : Rd := if (s.items.length : Int) = 0 then r else r.nx 1
def noteD (r : Rd) (s : Sp) : Nt × Rd :=
  if (s.items.length : Int) = 0 ∨ pkN r 3 = 0 then (⟨1, 0, nulA, pkN (mlR (noR r s)) 50, mlD (noR r s)⟩, (mlR (noR r s)).nx 1)
  else if pkN (ofD (r.nx 1) s).2 2 = 0 then (⟨2, (ofD (r.nx 1) s).1.1, (ofD (r.nx 1) s).1.2, 0, nulM⟩, (ofD (r.nx 1) s).2.nx 1)
  else (⟨3, (ofD (r.nx 1) s).1.1, (ofD (r.nx 1) s).1.2, pkN ((ofD (r.nx 1) s).2.nx 1) 50, nulM⟩, (ofD (r.nx 1) s).2.nx 2)
theorem noteD_0 {r : Rd} {s : Sp} (h : (s.items.length : Int) = 0) : noteD r s = (⟨1, 0, nulA, pkN (mlR r) 50, mlD r⟩, (mlR r).nx 1) := by
  have e : noR r s = r := if_pos h
  unfold noteD; rw [if_pos (.inl h), e]
theorem noteD_1 {r : Rd} {s : Sp} (h : ¬ (s.items.length : Int) = 0) (h2 : pkN r 3 = 0) : noteD r s = (⟨1, 0, nulA, pkN (mlR (r.nx 1)) 50, mlD (r.nx 1)⟩, (mlR (r.nx 1)).nx 1) := by
  have e : noR r s = r.nx 1 := if_neg h
  unfold noteD; rw [if_pos (.inr h2), e]
theorem noteD_2 {r : Rd} {s : Sp} (h : ¬ (s.items.length : Int) = 0) (h2 : ¬ pkN r 3 = 0) (h3 : pkN (ofD (r.nx 1) s).2 2 = 0) : noteD r s = (⟨2, (ofD (r.nx 1) s).1.1, (ofD (r.nx 1) s).1.2, 0, nulM⟩, (ofD (r.nx 1) s).2.nx 1) := by
  unfold noteD; rw [if_neg (fun q => q.elim h h2), if_pos h3]
theorem noteD_3 {r : Rd} {s : Sp} (h : ¬ (s.items.length : Int) = 0) (h2 : ¬ pkN r 3 = 0) (h3 : ¬ pkN (ofD (r.nx 1) s).2 2 = 0) : noteD r s = (⟨3, (ofD (r.nx 1) s).1.1, (ofD (r.nx 1) s).1.2, pkN ((ofD (r.nx 1) s).2.nx 1) 50, nulM⟩, (ofD (r.nx 1) s).2.nx 2) := by
  unfold noteD; rw [if_neg (fun q => q.elim h h2), if_neg h3]
theorem OkMl_nul : OkMl nulM := ⟨⟨by show 0 ≤ 1048576; decide, by show 0 ≤ 1048576; decide⟩, ⟨by show ((0 : Nat) : Int) ≤ 1048576; decide, fun _ q => by cases q⟩, ⟨by show ((0 : Nat) : Int) ≤ 1048576; decide, fun _ q => by cases q⟩⟩
theorem noteD_b {r : Rd} {s : Sp} (h0 : 0 ≤ r.p) (h1 : r.p ≤ 999980000) (hs : OkSp s) : (noteD r s).2.b = r.b ∧ r.p ≤ (noteD r s).2.p ∧ (noteD r s).2.p ≤ r.p + 30 ∧ OkNt (noteD r s).1 := by
  by_cases h : (s.items.length : Int) = 0
  · have hm := mlR_p (r := r) h0 (by omega)
    rw [noteD_0 h]; exact ⟨by rw [nx_b]; exact hm.1, by rw [nx_p]; omega, by rw [nx_p]; omega, AdOk_sz (.inr ⟨rfl, rfl⟩), MlOk_sz (mlD_ok h0 (by omega))⟩
  · by_cases h2 : pkN r 3 = 0
    · have hm := mlR_p (r := r.nx 1) (by rw [nx_p]; omega) (by rw [nx_p]; omega)
      rw [nx_p, nx_b] at hm
      rw [noteD_1 h h2]; exact ⟨by rw [nx_b]; exact hm.1, by rw [nx_p]; omega, by rw [nx_p]; omega, AdOk_sz (.inr ⟨rfl, rfl⟩), MlOk_sz (mlD_ok (by rw [nx_p]; omega) (by rw [nx_p]; omega))⟩
    · have hm := ofD_b (r := r.nx 1) (s := s) (by rw [nx_p]; omega) (by rw [nx_p]; omega) hs
      rw [nx_p, nx_b] at hm
      by_cases h3 : pkN (ofD (r.nx 1) s).2 2 = 0
      · rw [noteD_2 h h2 h3]; exact ⟨by rw [nx_b]; exact hm.1, by rw [nx_p]; omega, by rw [nx_p]; omega, hm.2.2.2, OkMl_nul⟩
      · rw [noteD_3 h h2 h3]; exact ⟨by rw [nx_b]; exact hm.1, by rw [nx_p]; omega, by rw [nx_p]; omega, hm.2.2.2, OkMl_nul⟩
def c61 : Mt := ctM (lc ARd (lc ESp.ag l0)) (fun p => (0 ≤ p.1.p ∧ p.1.p ≤ 999970000) ∧ OkSp p.2.1) (fun p => ([ARd.enc (noteD p.1 p.2.1).2, ESp.ag.enc p.2.1], owNt (noteD p.1 p.2.1).1))
section
attribute [local go_sem] c43 c112 c115 nx_p nx_b ARd_enc ARd_dec decBys omap_some nx_nx nx_eq Rd_eta pp_add outP_ob outI_ob outZ_ob takeV_pb takeV_pb8 boxOf_b takeB_s outPb_s outIb_s outZb_s rv1_nil List.length_map List.length_append List.length_cons List.length_nil List.map_append List.map_nil Nat.zero_add List.nil_append AS.opn AS.cls AS.nilb AS.renb AS.up Bool.not_false Bool.not_true List.set_set List.set_cons_zero List.set_cons_succ List.set_nil List.mem_singleton forall_eq ck_4 ck_5 ck_6 ck_7 ck_11 ck_12
set_option maxHeartbeats 3200000 in
theorem good61 {G : Gt} (hG : OkG G) (hh : G.e 43 = muEnt c43 ∧ G.e 112 = muEnt c112 ∧ G.e 115 = muEnt c115) : Gd G 61 (muEnt c61) := by
  refine gM (dp := fun _ => true) (fn := Tryz.f61) (n := 2) (fun _ => rfl) (by kernel_rfl) rfl (by kernel_rfl) hG (Nat.le_of_ble_eq_true rfl) (by kernel_rfl) ?_
  rintro ⟨r, s, ⟨⟩⟩ hpre
  obtain ⟨⟨h1, h2⟩, zs⟩ := hpre
  try dsimp only at h1 h2 zs ⊢
  by_cases L : (s.items.length : Int) = 0
  · have hm := mlR_p (r := r) h1 (by omega)
    rw [noteD_0 L]
    simp -implicitDefEqProofs only [Tryz.f61, L, eq_self, decide_true, decide_false, Int.reduceEq, go_sem, hh, Int.reduceAdd]
    repeat' (first | with_reducible apply And.intro | with_reducible intro _ | ((first | apply brB_split | apply aPickB_split | apply gB_split | apply adB_split) <;> intro hb <;> simp -implicitDefEqProofs only [hb, go_sem, hh, Int.reduceAdd] <;> try simp only [qz] at hb))
    all_goals (try simp only [maxLen, Int.toNat_natCast] at *)
    all_goals first | rfl | omega | decide | assumption | (show pairsB _ = true; rfl) | trace_state
  · by_cases P : pkN r 3 = 0
    · have hm := mlR_p (r := r.nx 1) (by rw [nx_p]; omega) (by rw [nx_p]; omega)
      rw [nx_p, nx_b] at hm
      rw [noteD_1 L P]
      simp -implicitDefEqProofs only [Tryz.f61, L, P, eq_self, decide_true, decide_false, Int.reduceEq, go_sem, hh, Int.reduceAdd]
      repeat' (first | with_reducible apply And.intro | with_reducible intro _ | ((first | apply brB_split | apply aPickB_split | apply gB_split | apply adB_split) <;> intro hb <;> simp -implicitDefEqProofs only [hb, go_sem, hh, Int.reduceAdd] <;> try simp only [qz] at hb))
      all_goals (try simp only [maxLen, Int.toNat_natCast] at *)
      all_goals first | rfl | omega | decide | assumption | (show pairsB _ = true; rfl) | trace_state
    · have hm := ofD_b (r := r.nx 1) (s := s) (by rw [nx_p]; omega) (by rw [nx_p]; omega) zs
      rw [nx_p, nx_b] at hm
      by_cases Q : pkN (ofD (r.nx 1) s).2 2 = 0
      · skip
        rw [noteD_2 L P Q]
        simp -implicitDefEqProofs only [Tryz.f61, L, P, Q, eq_self, decide_true, decide_false, Int.reduceEq, go_sem, hh, Int.reduceAdd]
        repeat' (first | with_reducible apply And.intro | with_reducible intro _ | ((first | apply brB_split | apply aPickB_split | apply gB_split | apply adB_split) <;> intro hb <;> simp -implicitDefEqProofs only [hb, go_sem, hh, Int.reduceAdd] <;> try simp only [qz] at hb))
        all_goals (try simp only [maxLen, Int.toNat_natCast] at *)
        all_goals first | rfl | omega | decide | assumption | (show pairsB _ = true; rfl) | trace_state
      · skip
        rw [noteD_3 L P Q]
        simp -implicitDefEqProofs only [Tryz.f61, L, P, Q, eq_self, decide_true, decide_false, Int.reduceEq, go_sem, hh, Int.reduceAdd]
        repeat' (first | with_reducible apply And.intro | with_reducible intro _ | ((first | apply brB_split | apply aPickB_split | apply gB_split | apply adB_split) <;> intro hb <;> simp -implicitDefEqProofs only [hb, go_sem, hh, Int.reduceAdd] <;> try simp only [qz] at hb))
        all_goals (try simp only [maxLen, Int.toNat_natCast] at *)
        all_goals first | rfl | omega | decide | assumption | (show pairsB _ = true; rfl) | trace_state
end
def anC (r : Rd) (s : Sp) : Int := pkN (noteD r s).2 12
def anR (r : Rd) (s : Sp) : Rd := (noteD r s).2.nx 1
def setK (n : Nt) (k : Int) : Nt := ⟨k, n.id, n.addr, n.now, n.mail⟩
def setI (n : Nt) (k : Int) : Nt := ⟨n.kind, k, n.addr, n.now, n.mail⟩
def setA (n : Nt) (a : Ad) : Nt := ⟨n.kind, n.id, a, n.now, n.mail⟩
def setW (n : Nt) (k : Int) : Nt := ⟨n.kind, n.id, n.addr, k, n.mail⟩
def anyNt (r : Rd) (s : Sp) : Nt × Rd :=
  if anC r s = 0 then (setK (noteD r s).1 (ofI (anR r s) [0, 4, 1, 2]), (anR r s).nx 1)
  else if anC r s = 1 then (setI (noteD r s).1 (ofI (anR r s) [-1, 1000, 0]), (anR r s).nx 1)
  else if anC r s = 2 then (setA (noteD r s).1 (anyAd (anR r s)).1, (anyAd (anR r s)).2)
  else if anC r s = 3 then (setW (noteD r s).1 (ofI (anR r s) [-1, 10000]), (anR r s).nx 1)
  else ((noteD r s).1, anR r s)
section
variable {r : Rd} {s : Sp}
theorem anyNt_0 (h : anC r s = 0) : anyNt r s = (setK (noteD r s).1 (ofI (anR r s) [0, 4, 1, 2]), (anR r s).nx 1) := if_pos h
theorem anyNt_1 (h : anC r s = 1) : anyNt r s = (setI (noteD r s).1 (ofI (anR r s) [-1, 1000, 0]), (anR r s).nx 1) := by unfold anyNt; rw [if_neg (by omega), if_pos h]
theorem anyNt_2 (h : anC r s = 2) : anyNt r s = (setA (noteD r s).1 (anyAd (anR r s)).1, (anyAd (anR r s)).2) := by unfold anyNt; rw [if_neg (by omega), if_neg (by omega), if_pos h]
theorem anyNt_3 (h : anC r s = 3) : anyNt r s = (setW (noteD r s).1 (ofI (anR r s) [-1, 10000]), (anR r s).nx 1) := by unfold anyNt; rw [if_neg (by omega), if_neg (by omega), if_neg (by omega), if_pos h]
theorem anyNt_4 (h : ¬ anC r s = 0 ∧ ¬ anC r s = 1 ∧ ¬ anC r s = 2 ∧ ¬ anC r s = 3) : anyNt r s = ((noteD r s).1, anR r s) := by unfold anyNt; rw [if_neg h.1, if_neg h.2.1, if_neg h.2.2.1, if_neg h.2.2.2]
theorem anC_f : pkN (noteD r s).2 12 = anC r s := rfl
theorem anR_f : (noteD r s).2.nx 1 = anR r s := rfl
theorem anR_f2 : (⟨(noteD r s).2.b, (noteD r s).2.p + 1⟩ : Rd) = anR r s := rfl
theorem anR_p : (noteD r s).2.p + 1 = (anR r s).p := rfl
theorem anR_b : (anR r s).b = (noteD r s).2.b := rfl
end
theorem anyAd_ok {r : Rd} (h : 0 ≤ r.p) (h1 : r.p ≤ 999999900) : OkAd (anyAd r).1 ∧ (anyAd r).2.b = r.b ∧ r.p + 3 ≤ (anyAd r).2.p ∧ (anyAd r).2.p ≤ r.p + 4 := by
  have z := AdOk_sz (.inl (adD_ok (r := r) h (by omega)))
  have key : ∀ (l : List ByteArray), 1 ≤ l.length → (∀ x ∈ l, x.size ≤ 1048576) → OkStr (ofS (r.nx 3) l) := fun l hl q => q _ (ofS_mem (by rw [nx_p]; omega) (by rw [nx_p]; omega) hl)
  by_cases q0 : pkN (r.nx 2) 10 = 0
  · rw [anyAd_0 q0]
    exact ⟨⟨key _ (by decide) (by decide), z.2⟩, rfl, by rw [nx_p]; omega, by rw [nx_p]; omega⟩
  · by_cases q1 : pkN (r.nx 2) 10 = 1
    · rw [anyAd_1 q0 q1]
      exact ⟨⟨z.1, key _ (by decide) (by decide)⟩, rfl, by rw [nx_p]; omega, by rw [nx_p]; omega⟩
    · by_cases q2 : pkN (r.nx 2) 10 = 2
      · rw [anyAd_2 q0 q1 q2]
        exact ⟨AdOk_sz (.inr ⟨rfl, rfl⟩), rfl, by rw [nx_p]; omega, by rw [nx_p]; omega⟩
      · rw [anyAd_3 q0 q1 q2]
        exact ⟨z, rfl, by rw [nx_p]; omega, by rw [nx_p]; omega⟩
theorem anyNt_ok {r : Rd} {s : Sp} (h0 : 0 ≤ r.p) (h1 : r.p ≤ 999960000) (hs : OkSp s) : OkNt (anyNt r s).1 := by
  have hm := noteD_b (s := s) h0 (show r.p ≤ 999980000 by omega) hs
  by_cases c0 : anC r s = 0
  · rw [anyNt_0 c0]; exact hm.2.2.2
  · by_cases c1 : anC r s = 1
    · rw [anyNt_1 c1]; exact hm.2.2.2
    · by_cases c2 : anC r s = 2
      · rw [anyNt_2 c2]
        exact ⟨(anyAd_ok (r := anR r s) (by unfold anR; rw [nx_p]; omega) (by unfold anR; rw [nx_p]; omega)).1, hm.2.2.2.2⟩
      · by_cases c3 : anC r s = 3
        · rw [anyNt_3 c3]; exact hm.2.2.2
        · rw [anyNt_4 ⟨c0, c1, c2, c3⟩]; exact hm.2.2.2
def c25 : Mt := ctM (lc ARd (lc ESp.ag l0)) (fun p => (0 ≤ p.1.p ∧ p.1.p ≤ 999960000) ∧ OkSp p.2.1) (fun p => ([ARd.enc (anyNt p.1 p.2.1).2, ESp.ag.enc p.2.1], owNt (anyNt p.1 p.2.1).1))
section
attribute [local go_sem] c61 c43 c60 c62 nx_p nx_b ARd_enc ARd_dec decBys omap_some nx_nx nx_eq Rd_eta pp_add outP_ob outI_ob outZ_ob takeV_pb takeV_pb8 boxOf_b takeB_s outPb_s outIb_s outZb_s rv1_nil List.length_map List.length_append List.length_cons List.length_nil List.map_append List.map_nil Nat.zero_add List.nil_append AS.opn AS.cls AS.nilb AS.renb AS.up Bool.not_false Bool.not_true List.set_set List.set_cons_zero List.set_cons_succ List.set_nil List.mem_singleton forall_eq anC_f decI_c ck_4 ck_5 ck_6 ck_7 ck_11 ck_12
set_option maxHeartbeats 6400000 in
theorem good25 {G : Gt} (hG : OkG G) (hh : G.e 61 = muEnt c61 ∧ G.e 43 = muEnt c43 ∧ G.e 60 = muEnt c60 ∧ G.e 62 = muEnt c62) : Gd G 25 (muEnt c25) := by
  refine gM (dp := fun _ => true) (fn := Tryz.f25) (n := 2) (fun _ => rfl) (by kernel_rfl) rfl (by kernel_rfl) hG (Nat.le_of_ble_eq_true rfl) (by kernel_rfl) ?_
  rintro ⟨r, s, ⟨⟩⟩ hpre
  obtain ⟨⟨h1, h2⟩, zs⟩ := hpre
  try dsimp only at h1 h2 zs ⊢
  have hm := noteD_b (s := s) h1 (show r.p ≤ 999980000 by omega) zs
  have hR : (anR r s).p = (noteD r s).2.p + 1 := rfl
  by_cases c0 : anC r s = 0
  · skip
    rw [anyNt_0 c0]
    simp -implicitDefEqProofs only [Tryz.f25, c0, eq_self, decide_true, decide_false, Int.reduceEq, go_sem, hh, Int.reduceAdd]
    repeat' (first | with_reducible apply And.intro | with_reducible intro _ | ((first | apply brB_split | apply aPickB_split | apply gB_split | apply adB_split) <;> intro hb <;> simp -implicitDefEqProofs only [hb, go_sem, hh, Int.reduceAdd] <;> try simp only [qz] at hb))
    all_goals (try simp only [maxLen, Int.toNat_natCast] at *)
    all_goals first | rfl | omega | decide | assumption | (show pairsB _ = true; rfl) | exact ivk (by omega)
  · by_cases c1 : anC r s = 1
    · skip
      rw [anyNt_1 c1]
      simp -implicitDefEqProofs only [Tryz.f25, c1, eq_self, decide_true, decide_false, Int.reduceEq, go_sem, hh, Int.reduceAdd]
      repeat' (first | with_reducible apply And.intro | with_reducible intro _ | ((first | apply brB_split | apply aPickB_split | apply gB_split | apply adB_split) <;> intro hb <;> simp -implicitDefEqProofs only [hb, go_sem, hh, Int.reduceAdd] <;> try simp only [qz] at hb))
      all_goals (try simp only [maxLen, Int.toNat_natCast] at *)
      all_goals first | rfl | omega | decide | assumption | (show pairsB _ = true; rfl) | exact ivk (by omega)
    · by_cases c2 : anC r s = 2
      · skip
        rw [anyNt_2 c2]
        simp -implicitDefEqProofs only [Tryz.f25, c2, eq_self, decide_true, decide_false, Int.reduceEq, go_sem, hh, Int.reduceAdd]
        repeat' (first | with_reducible apply And.intro | with_reducible intro _ | ((first | apply brB_split | apply aPickB_split | apply gB_split | apply adB_split) <;> intro hb <;> simp -implicitDefEqProofs only [hb, go_sem, hh, Int.reduceAdd] <;> try simp only [qz] at hb))
        all_goals (try simp only [maxLen, Int.toNat_natCast] at *)
        all_goals first | rfl | omega | decide | assumption | (show pairsB _ = true; rfl) | exact ivk (by omega)
      · by_cases c3 : anC r s = 3
        · skip
          rw [anyNt_3 c3]
          simp -implicitDefEqProofs only [Tryz.f25, c3, eq_self, decide_true, decide_false, Int.reduceEq, go_sem, hh, Int.reduceAdd]
          repeat' (first | with_reducible apply And.intro | with_reducible intro _ | ((first | apply brB_split | apply aPickB_split | apply gB_split | apply adB_split) <;> intro hb <;> simp -implicitDefEqProofs only [hb, go_sem, hh, Int.reduceAdd] <;> try simp only [qz] at hb))
          all_goals (try simp only [maxLen, Int.toNat_natCast] at *)
          all_goals first | rfl | omega | decide | assumption | (show pairsB _ = true; rfl) | exact ivk (by omega)
        · skip
          rw [anyNt_4 ⟨c0, c1, c2, c3⟩]
          simp -implicitDefEqProofs only [Tryz.f25, c0, c1, c2, c3, eq_self, decide_true, decide_false, Int.reduceEq, go_sem, hh, Int.reduceAdd]
          repeat' (first | with_reducible apply And.intro | with_reducible intro _ | ((first | apply brB_split | apply aPickB_split | apply gB_split | apply adB_split) <;> intro hb <;> simp -implicitDefEqProofs only [hb, go_sem, hh, Int.reduceAdd] <;> try simp only [qz] at hb))
          all_goals (try simp only [maxLen, Int.toNat_natCast] at *)
          all_goals first | rfl | omega | decide | assumption | (show pairsB _ = true; rfl) | exact ivk (by omega)
end
def opn (b : List UInt8) : Rd := ⟨if (b.length : Int) > 2000 then b.take 2000 else b, 0⟩
theorem opn_y {b : List UInt8} (h : (b.length : Int) > 2000) : opn b = ⟨b.take 2000, 0⟩ := by unfold opn; rw [if_pos h]
theorem opn_n {b : List UInt8} (h : ¬ (b.length : Int) > 2000) : opn b = ⟨b, 0⟩ := by unfold opn; rw [if_neg h]
theorem opn_p (b : List UInt8) : (opn b).p = 0 := rfl
theorem opn_f (b : List UInt8) : (⟨(opn b).b, 0⟩ : Rd) = opn b := rfl
theorem slBy {b : List UInt8} {k : Nat} : List.take k (b.map encBy) = (b.take k).map encBy := by rw [List.map_take]
theorem t2k : (2000 : Int).toNat = 2000 := rfl
def c23 : Ct := ctR (lc EBy.asl l0) (fun p => True) (fun p => ARd.enc (opn p.1))
section
attribute [local go_sem] EBy_enc EBy_n decBys len_By slBy t2k ARd_enc List.length_map List.drop_zero outP_ob outI_ob outZ_ob takeV_pb takeV_pb8 boxOf_b takeB_s outPb_s outIb_s outZb_s rv1_nil AS.opn AS.cls AS.nilb AS.renb AS.up Bool.not_false Bool.not_true List.set_set List.set_cons_zero List.set_cons_succ List.set_nil List.mem_singleton forall_eq
set_option maxHeartbeats 800000 in
theorem good23 {G : Gt} (hG : OkG G) : Gd G 23 (roEnt 1 c23) := by
  refine gR (dp := fun _ => true) (fn := Tryz.f23) (n := 1) (fun _ => rfl) (by kernel_rfl) rfl (by kernel_rfl) hG (Nat.le_of_ble_eq_true rfl) (by kernel_rfl) (by decide) (fun h => by cases h) ?_
  rintro ⟨b, ⟨⟩⟩ hpre
  dsimp only
  by_cases L : (b.length : Int) > 2000
  · rw [opn_y L]
    simp -implicitDefEqProofs only [Tryz.f23, L, decide_true, go_sem]
    repeat' (first | with_reducible apply And.intro | with_reducible intro _ | ((first | apply brB_split | apply aPickB_split | apply gB_split | apply adB_split) <;> intro hb <;> simp -implicitDefEqProofs only [hb, go_sem] <;> try simp only [qz] at hb))
    all_goals (try simp only [maxLen, Int.toNat_natCast] at *)
    all_goals first | rfl | omega | decide | assumption | (show pairsB _ = true; rfl) | trace_state
  · rw [opn_n L]
    simp -implicitDefEqProofs only [Tryz.f23, L, decide_false, go_sem]
    repeat' (first | with_reducible apply And.intro | with_reducible intro _ | ((first | apply brB_split | apply aPickB_split | apply gB_split | apply adB_split) <;> intro hb <;> simp -implicitDefEqProofs only [hb, go_sem] <;> try simp only [qz] at hb))
    all_goals (try simp only [maxLen, Int.toNat_natCast] at *)
    all_goals first | rfl | omega | decide | assumption | (show pairsB _ = true; rfl) | trace_state
end
noncomputable def dnS (b : List UInt8) : Sp := (asp (opn b)).1
noncomputable def dnN (b : List UInt8) : Nt := (anyNt (asp (opn b)).2 (dnS b)).1
theorem dn_ok (b : List UInt8) : OkSp (dnS b) ∧ OkNt (dnN b) := by
  have h := asp_ok (r := opn b) (by rw [opn_p]; decide) (by rw [opn_p]; decide)
  rw [opn_p] at h
  exact ⟨h.1, anyNt_ok (by omega) (by omega) h.1⟩
theorem dnS_f (b : List UInt8) : (asp (opn b)).1 = dnS b := rfl
def c6 : Ct := ctR (lc EBy.asl l0) (fun p => True) (fun p => .tup [.agg ((encSp (dnS p.1)).map .t), owNt (dnN p.1)])
section
attribute [local go_sem] c23 c24 c25 EBy_enc EBy_n len_By opn_p opn_f dnS_f nx_p nx_b ARd_enc ARd_dec decBys omap_some nx_nx nx_eq Rd_eta pp_add outP_ob outI_ob outZ_ob takeV_pb takeV_pb8 boxOf_b takeB_s outPb_s outIb_s outZb_s rv1_nil List.length_map List.length_append List.length_cons List.length_nil List.map_append List.map_nil Nat.zero_add List.nil_append AS.opn AS.cls AS.nilb AS.renb AS.up Bool.not_false Bool.not_true List.set_set List.set_cons_zero List.set_cons_succ List.set_nil List.mem_singleton forall_eq
set_option maxHeartbeats 3200000 in
theorem good6 {G : Gt} (hG : OkG G) (hh : G.e 23 = roEnt 1 c23 ∧ G.e 24 = muEnt c24 ∧ G.e 25 = muEnt c25) : Gd G 6 (roEnt 1 c6) := by
  refine gR (dp := fun n => !(Nat.beq n 100003)) (fn := Tryz.f6) (n := 1) (fun _ => rfl) (by kernel_rfl) rfl (by kernel_rfl) hG (Nat.le_of_ble_eq_true rfl) (by kernel_rfl) (by decide) (fun h => by cases h) ?_
  rintro ⟨b, ⟨⟩⟩ hpre
  dsimp only
  have h := asp_ok (r := opn b) (by rw [opn_p]; decide) (by rw [opn_p]; decide)
  rw [opn_p, dnS_f] at h
  simp -implicitDefEqProofs only [Tryz.f6, go_sem, hh, Int.reduceAdd]
  repeat' (first | with_reducible apply And.intro | with_reducible intro _ | ((first | apply brB_split | apply aPickB_split | apply gB_split | apply adB_split) <;> intro hb <;> simp -implicitDefEqProofs only [hb, go_sem, hh, Int.reduceAdd] <;> try simp only [qz] at hb))
  all_goals (try simp only [maxLen, Int.toNat_natCast] at *)
  all_goals first | rfl | omega | decide | assumption | (show pairsB _ = true; rfl) | skip
  refine run_le (Le.frzL [1009]) (run_go ?_)
  simp -implicitDefEqProofs only [go_sem, hh, Int.reduceAdd]
  repeat' (first | with_reducible apply And.intro | with_reducible intro _ | ((first | apply brB_split | apply aPickB_split | apply gB_split | apply adB_split) <;> intro hb <;> simp -implicitDefEqProofs only [hb, go_sem, hh, Int.reduceAdd] <;> try simp only [qz] at hb))
  all_goals (try simp only [maxLen, Int.toNat_natCast] at *)
  all_goals first | rfl | omega | decide | assumption | (show pairsB _ = true; rfl) | exact h.1 | trace_state
end
theorem all_eqs {α : Type} [Inhabited α] {xs ys : List α} (i : Nat) (hl : xs.length = ys.length) (h : ∀ j, j < i → xs.getD j default = ys.getD j default) (hi : xs.length ≤ i) : xs = ys := by
  refine List.ext_getElem hl fun j h1 h2 => ?_
  have := h j (by omega)
  simpa [h1, h2] using this
theorem eq_step {α : Type} [Inhabited α] {xs ys : List α} {i : Nat} (hall : ∀ j, j < i → xs.getD j default = ys.getD j default) (h : xs.getD i default = ys.getD i default) : ∀ j, j < i + 1 → xs.getD j default = ys.getD j default := fun j hj => by
  by_cases e : j = i
  · subst e; exact h
  · exact hall j (by omega)
def c79 : Ct := ctR (lc EStr.asl (lc EStr.asl l0)) (fun p => True) (fun p => .t (.v (.bool (decide (p.1 = p.2.1)))))
section
attribute [local go_sem] List.length_map
set_option maxHeartbeats 800000 in
theorem good79 {G : Gt} (hG : OkG G) : Gd G 79 (roEnt 0 c79) := by
  refine gR (dp := fun _ => true) (fn := Tryz.f79) (n := 2) (fun _ => rfl) (by kernel_rfl) rfl (by kernel_rfl) hG (Nat.le_of_ble_eq_true rfl) (by kernel_rfl) (by decide) (fun _ _ => .v _) ?_
  rintro ⟨xs, ys, ⟨⟩⟩ hpre
  simp -implicitDefEqProofs only [Tryz.f79, go_sem] at hpre ⊢
  repeat' (first | with_reducible apply And.intro | with_reducible intro _ | ((first | apply brB_split | apply aPickB_split | apply gB_split | apply adB_split) <;> intro hb <;> simp -implicitDefEqProofs only [hb, go_sem] <;> try simp only [qz] at hb))
  all_goals (try simp only [maxLen] at *)
  all_goals first | rfl | omega | skip
  · have : ¬ xs = ys := fun e => hb (by rw [e])
    simp [this]
  · have hl : xs.length = ys.length := by omega
    refine run_loop [] (ι := {i : Nat // i ≤ xs.length ∧ ∀ j, j < i → xs.getD j default = ys.getD j default}) (fun p => ⟨[(0, .t (.sl 1 (xs.map encStr))), (1, .t (.sl 1 (ys.map encStr))), (5, .t (.v (.int .i64 p.1)))], []⟩) (fun p => xs.length - p.1) ⟨0, by simp, by simp⟩ rfl ?_ ?_
    · simp -implicitDefEqProofs only [go_sem]
      simp
    · rintro ⟨i, hi, hall⟩
      simp -implicitDefEqProofs only [go_sem]
      repeat' (first | with_reducible apply And.intro | with_reducible intro _ | ((first | apply brB_split | apply aPickB_split | apply gB_split | apply adB_split) <;> intro hb <;> simp -implicitDefEqProofs only [hb, go_sem] <;> try simp only [qz] at hb))
      all_goals (try simp only [maxLen, Int.toNat_natCast] at *)
      all_goals first
        | rfl
        | omega
        | decide
        | (show pairsB _ = true; rfl)
        | ((have hne : ¬ xs = ys := fun e => by subst e; first | exact hb rfl | (simp at hb; done)); simp [hne]; done)
        | (refine ⟨⟨i + 1, by omega, eq_step hall (by first | assumption | (simp [*] at *; done))⟩, by dsimp only; omega, ?_⟩
           simp -implicitDefEqProofs only [go_sem]
           simp
           done)
        | (have hxy := all_eqs i hl hall (by omega)
           simp [hxy]
           done)
        | trace_state
end
theorem adQ {a b : Ad} : (decide (a.user = b.user) && decide (a.domain = b.domain)) = decide (a = b) := by
  rw [← Bool.decide_and]; exact decide_eq_decide.2 Ad_ext.symm
theorem adN {a b : Ad} : ((true != (decide (a.user = b.user) && decide (a.domain = b.domain))) = true) = ¬ a = b := by
  rw [adQ]; by_cases h : a = b <;> simp [h]
theorem adN' {a b : Ad} : ((true != (decide (a.user = b.user) && decide (a.domain = b.domain))) = false) = (a = b) := by
  rw [adQ]; by_cases h : a = b <;> simp [h]
theorem rcQ {a b : Rc} : (decide (a.addr.user = b.addr.user) && decide (a.addr.domain = b.addr.domain) && decide (a.tries = b.tries) && decide (a.next = b.next)) = decide (a = b) := by
  rw [← Bool.decide_and, ← Bool.decide_and, ← Bool.decide_and]
  exact decide_eq_decide.2 (by rw [Rc_ext, Ad_ext]; simp [and_assoc])
theorem rcN1 {a b : Rc} : ((true != (decide (a.addr.user = b.addr.user) && decide (a.addr.domain = b.addr.domain) && decide (a.tries = b.tries) && decide (a.next = b.next))) = true) = ¬ a = b := by
  rw [rcQ]; by_cases h : a = b <;> simp [h]
theorem rcN0 {a b : Rc} : ((true != (decide (a.addr.user = b.addr.user) && decide (a.addr.domain = b.addr.domain) && decide (a.tries = b.tries) && decide (a.next = b.next))) = false) = (a = b) := by
  rw [rcQ]; by_cases h : a = b <;> simp [h]
def c34 : Ct := ctR (lc EIm.ag (lc EIm.ag l0)) (fun p => True) (fun p => .t (.v (.bool (decide (p.1 = p.2.1)))))
section
attribute [local go_sem] c79 List.length_map
set_option maxHeartbeats 1600000 in
theorem good34 {G : Gt} (hG : OkG G) (hh : G.e 79 = roEnt 0 c79) : Gd G 34 (roEnt 0 c34) := by
  refine gR (dp := fun _ => true) (fn := Tryz.f34) (n := 2) (fun _ => rfl) (by kernel_rfl) rfl (by kernel_rfl) hG (Nat.le_of_ble_eq_true rfl) (by kernel_rfl) (by decide) (fun _ _ => .v _) ?_
  rintro ⟨a, b, ⟨⟩⟩ hpre
  simp -implicitDefEqProofs only [Tryz.f34, go_sem, hh] at hpre ⊢
  repeat' (first | with_reducible apply And.intro | with_reducible intro _ | ((first | apply brB_split | apply aPickB_split | apply gB_split | apply adB_split) <;> intro hb <;> simp -implicitDefEqProofs only [hb, go_sem, hh] <;> try simp only [qz] at hb))
  all_goals (try simp only [maxLen, adN, adN'] at *)
  all_goals first
    | rfl
    | omega
    | ((have hne : ¬ a = b := fun e => by subst e; simp_all); simp [hne]; done)
    | skip
  have hid : a.id = b.id := by assumption
  have hbod : a.body = b.body := by assumption
  have hfr : a.frm = b.frm := by assumption
  have hl : a.to.length = b.to.length := by omega
  refine run_loop [] (ι := {i : Nat // i ≤ a.to.length ∧ ∀ j, j < i → a.to.getD j default = b.to.getD j default}) (fun p => ⟨[(2, .pb 1002 0), (3, .pb 1003 0), (5, .t (.v (.int .i64 p.1)))], [(1002, some (.box ((encIm a).map .t))), (1003, some (.box ((encIm b).map .t)))]⟩) (fun p => a.to.length - p.1) ⟨0, by simp, by simp⟩ rfl ?_ ?_
  · simp -implicitDefEqProofs only [go_sem, hh]
    simp
  · rintro ⟨i, hi, hall⟩
    simp -implicitDefEqProofs only [go_sem, hh]
    repeat' (first | with_reducible apply And.intro | with_reducible intro _ | ((first | apply brB_split | apply aPickB_split | apply gB_split | apply adB_split) <;> intro hb <;> simp -implicitDefEqProofs only [hb, go_sem, hh] <;> try simp only [qz] at hb))
    all_goals (try simp only [maxLen, Int.toNat_natCast, rcN1, rcN0] at *)
    all_goals first
      | rfl
      | omega
      | decide
      | (show pairsB _ = true; rfl)
      | ((have hne : ¬ a = b := fun e => by subst e; exact hb rfl); simp [hne]; done)
      | (refine ⟨⟨i + 1, by omega, eq_step hall (by assumption)⟩, by dsimp only; omega, ?_⟩
         simp -implicitDefEqProofs only [go_sem, hh]
         simp
         done)
      | (have hxy := all_eqs i hl hall (by omega)
         (have hab : a = b := by rw [Im_ext]; exact ⟨hid, hfr, hxy, hbod⟩); simp [hab]
         done)
      | trace_state
end
def c9 : Ct := ctR (lc ESp.ag (lc ESp.ag l0)) (fun p => True) (fun p => .t (.v (.bool (decide (p.1 = p.2.1)))))
section
attribute [local go_sem] c34 List.length_map qa qb
set_option maxHeartbeats 1600000 in
theorem good9 {G : Gt} (hG : OkG G) (hh : G.e 34 = roEnt 0 c34) : Gd G 9 (roEnt 0 c9) := by
  refine gR (dp := fun _ => true) (fn := Tryz.f9) (n := 2) (fun _ => rfl) (by kernel_rfl) rfl (by kernel_rfl) hG (Nat.le_of_ble_eq_true rfl) (by kernel_rfl) (by decide) (fun _ _ => .v _) ?_
  rintro ⟨a, b, ⟨⟩⟩ hpre
  simp -implicitDefEqProofs only [Tryz.f9, go_sem, hh] at hpre ⊢
  repeat' (first | with_reducible apply And.intro | with_reducible intro _ | ((first | apply brB_split | apply aPickB_split | apply gB_split | apply adB_split) <;> intro hb <;> simp -implicitDefEqProofs only [hb, go_sem, hh] <;> try simp only [qz] at hb))
  all_goals (try simp only [maxLen] at *)
  all_goals first
    | rfl
    | omega
    | ((have hne : ¬ a = b := fun e => by subst e; simp_all); simp [hne]; done)
    | skip
  have hid : a.last = b.last := by assumption
  have hl : a.items.length = b.items.length := by omega
  refine run_loop [] (ι := {i : Nat // i ≤ a.items.length ∧ ∀ j, j < i → a.items.getD j default = b.items.getD j default}) (fun p => ⟨[(2, .pb 1002 0), (3, .pb 1003 0), (5, .t (.v (.int .i64 p.1)))], [(1002, some (.box ((encSp a).map .t))), (1003, some (.box ((encSp b).map .t)))]⟩) (fun p => a.items.length - p.1) ⟨0, by simp, by simp⟩ rfl ?_ ?_
  · simp -implicitDefEqProofs only [go_sem, hh]
    simp
  · rintro ⟨i, hi, hall⟩
    simp -implicitDefEqProofs only [go_sem, hh]
    repeat' (first | with_reducible apply And.intro | with_reducible intro _ | ((first | apply brB_split | apply aPickB_split | apply gB_split | apply adB_split) <;> intro hb <;> simp -implicitDefEqProofs only [hb, go_sem, hh] <;> try simp only [qz] at hb))
    all_goals (try simp only [maxLen, Int.toNat_natCast] at *)
    all_goals first
      | rfl
      | omega
      | decide
      | (show pairsB _ = true; rfl)
      | ((have hne : ¬ a = b := fun e => by subst e; exact hb rfl); simp [hne]; done)
      | (refine ⟨⟨i + 1, by omega, eq_step hall (by assumption)⟩, by dsimp only; omega, ?_⟩
         simp -implicitDefEqProofs only [go_sem, hh]
         simp
         done)
      | (have hxy := all_eqs i hl hall (by omega)
         (have hab : a = b := by rw [Sp_ext]; exact ⟨hid, hxy⟩); simp [hab]
         done)
      | trace_state
end
theorem sumA {α : Type} (N : α → Int) : ∀ xs ys : List α, sumL N (xs ++ ys) = sumL N xs + sumL N ys
  | [], ys => by show _ = 0 + _; rw [Int.zero_add]; rfl
  | x :: r, ys => by show N x + sumL N (r ++ ys) = N x + sumL N r + sumL N ys; rw [sumA N r ys]; omega
theorem sum_cut {α : Type} [Inhabited α] (N : α → Int) {xs : List α} {i : Nat} (h : i < xs.length) : sumL N xs = sumL N (xs.take i) + (N (xs.getD i default) + sumL N (xs.drop (i + 1))) := by
  have e := sumA N (xs.take i) (xs.drop i)
  rw [List.take_append_drop] at e
  rw [e, sum_step h]
theorem many_ad {s : Sp} {m : Ml} {w : Int} : sumL rcN (adSp s m w).items = sumL rcN s.items + m.to.length := by
  show sumL rcN (s.items ++ [adIm s m w]) = _
  rw [sumA]
  show _ + (((m.to.map (adRc w)).length : Int) + 0) = _
  rw [List.length_map]; omega
theorem many_dn {s : Sp} {i k : Nat} (hi : i < s.items.length) (hk : k < (s.items.getD i default).to.length) : sumL rcN (dnSp s i k).items = sumL rcN s.items - 1 := by
  have h1 := sum_cut rcN hi
  have h2 := dn_len hk
  have h3 : rcN (s.items.getD i default) = (s.items.getD i default).to.length := rfl
  show sumL rcN (dnL s.items i k) = _
  unfold dnL
  split
  · rename_i e
    have e2 : ((s.items.getD i default).to.take k ++ (s.items.getD i default).to.drop (k + 1)).length = 0 := by
      have : (s.items.getD i default).to.take k ++ (s.items.getD i default).to.drop (k + 1) = [] := e
      rw [this]; rfl
    rw [sumA]; omega
  · rw [sumA]
    show _ + (((((s.items.getD i default).to.take k ++ (s.items.getD i default).to.drop (k + 1)).length : Nat) : Int) + _) = _
    omega
theorem many_lt {s : Sp} {i k : Nat} {w : Int} (hi : i < s.items.length) : sumL rcN (ltSp s i k w).items = sumL rcN s.items := by
  have h1 := sum_cut rcN hi
  have hl : i < (s.items.set i (ltIm (s.items.getD i default) k w)).length := by rw [List.length_set]; exact hi
  have h2 := sum_cut rcN hl
  show sumL rcN (s.items.set i _) = _
  rw [h2, List.take_set_of_le (Nat.le_refl i), List.drop_set_of_lt (Nat.lt_succ_self i), h1]
  have e : (s.items.set i (ltIm (s.items.getD i default) k w)).getD i default = ltIm (s.items.getD i default) k w := by simp [hi]
  rw [e]
  have e2 : rcN (ltIm (s.items.getD i default) k w) = rcN (s.items.getD i default) := by
    show (((((s.items.getD i default).to.set k _).length : Nat)) : Int) = _
    rw [List.length_set]; rfl
  rw [e2]
theorem NDo_all {s : Sp} {n : Nt} (h : SpOk s) : ((NDo s n).2 = false ∧ (NDo s n).1 = s) ∨ ((NDo s n).2 = true ∧ SpOk (NDo s n).1 ∧ NtOk n ∧
    ((n.kind = 1 ∧ SMany (NDo s n).1 - SMany s = n.mail.to.length) ∨ (n.kind = 2 ∧ SMany (NDo s n).1 - SMany s = -1) ∨ (n.kind = 3 ∧ SMany (NDo s n).1 - SMany s = 0))) := by
  have m0 := SMany_y h
  by_cases hn : NtOk n
  · rw [NDo_y h hn]
    unfold NDo0
    by_cases k1 : n.kind = 1
    · rw [if_pos k1]
      have q := (NtOk_1 k1).1 hn
      by_cases hr : Room s
      · rw [SAdd_y h ⟨q.2.2.1, q.2.2.2, hr⟩]
        have hs := adSp_SpOk h q.2.2.1 q.2.2.2 hr
        exact .inr ⟨rfl, hs, hn, .inl ⟨k1, by rw [SMany_y hs, m0, many_ad]; omega⟩⟩
      · rw [SAdd_n h (fun z => hr z.2.2)]
        exact .inl ⟨rfl, rfl⟩
    · rw [if_neg k1]
      by_cases k2 : n.kind = 2
      · rw [if_pos k2]
        by_cases hi : atIm s n.id < 0
        · rw [SDone_i h hi]; exact .inl ⟨rfl, rfl⟩
        · by_cases hk : atRc (theIm s n.id) n.addr < 0
          · rw [SDone_k h hi hk]; exact .inl ⟨rfl, rfl⟩
          · rw [SDone_y h hi hk]
            have a1 := atIm_lt hi
            have a2 := atRc_lt hk
            have a3 : (atRc (theIm s n.id) n.addr).toNat < (s.items.getD (atIm s n.id).toNat default).to.length := by
              have : theIm s n.id = s.items.getD (atIm s n.id).toNat default := rfl
              rw [← this]; omega
            have hs := dnSp_SpOk h (show (atIm s n.id).toNat < s.items.length by omega) a3
            exact .inr ⟨rfl, hs, hn, .inr (.inl ⟨k2, by rw [SMany_y hs, m0, many_dn (by omega) a3]; omega⟩)⟩
      · rw [if_neg k2]
        have k3 : n.kind = 3 := Classical.byContradiction fun k3 => NtOk_0 k1 k2 k3 hn
        have q := (NtOk_3 k3).1 hn
        by_cases hi : atIm s n.id < 0
        · rw [SLater_i h hi]; exact .inl ⟨rfl, rfl⟩
        · by_cases hk : atRc (theIm s n.id) n.addr < 0
          · rw [SLater_k h hi q.2.2.2 hk]; exact .inl ⟨rfl, rfl⟩
          · rw [SLater_y h hi q.2.2.2 hk]
            have a1 := atIm_lt hi
            have a2 := atRc_lt hk
            have a3 : (atRc (theIm s n.id) n.addr).toNat < (s.items.getD (atIm s n.id).toNat default).to.length := by
              have : theIm s n.id = s.items.getD (atIm s n.id).toNat default := rfl
              rw [← this]; omega
            unfold SLat
            split
            · exact .inl ⟨rfl, rfl⟩
            · rename_i hno
              have hs := ltSp_SpOk h (show (atIm s n.id).toNat < s.items.length by omega) a3 hno q.2.2.2.1
              exact .inr ⟨rfl, hs, hn, .inr (.inr ⟨k3, by rw [SMany_y hs, m0, many_lt (by omega)]; omega⟩)⟩
  · rw [NDo_n h hn]; exact .inl ⟨rfl, rfl⟩
def c3 : Ct := ctR (lc EBy.asl l0) (fun p => True) (fun p => .t (.v (.bool true)))
section
attribute [local go_sem] c6 c7 c8 c9 c10 c11 c12 EBy_enc EBy_n decBys len_By owSB roSB bOf_t bOf_f tmap dmap List.take_length List.drop_zero List.length_take List.length_drop List.length_map List.length_append List.length_cons List.length_nil List.map_append List.map_nil List.map_cons List.nil_append Nat.zero_add List.mem_singleton forall_eq Bool.not_true Bool.not_false
set_option maxHeartbeats 6400000 in
theorem good3 {G : Gt} (hG : OkG G) (hh : G.e 6 = roEnt 1 c6 ∧ G.e 7 = roEnt 0 c7 ∧ G.e 8 = roEnt 1 c8 ∧ G.e 9 = roEnt 0 c9 ∧ G.e 10 = roEnt 0 c10 ∧ G.e 11 = roEnt 0 c11 ∧ G.e 12 = roEnt 0 c12) : Gd G 3 (roEnt 0 c3) := by
  refine gR (dp := fun _ => true) (fn := Tryz.f3) (n := 1) (fun _ => rfl) (by kernel_rfl) rfl (by kernel_rfl) hG (Nat.le_of_ble_eq_true rfl) (by kernel_rfl) (by decide) (fun _ _ => .v _) ?_
  rintro ⟨b, ⟨⟩⟩ hpre
  try dsimp only
  have zd := dn_ok
  obtain ⟨⟨x, ok⟩, hr⟩ : ∃ q, q = NDo (dnS b) (dnN b) := ⟨_, rfl⟩
  have hr' := hr.symm
  by_cases L : (b.length : Int) > 1048576
  · simp -implicitDefEqProofs only [Tryz.f3, L, decide_true, go_sem, hh]
    repeat' (first | with_reducible apply And.intro | with_reducible intro _ | ((first | apply brB_split | apply aPickB_split | apply gB_split | apply adB_split) <;> intro hb <;> simp -implicitDefEqProofs only [hb, go_sem, hh] <;> try simp only [qz] at hb))
    all_goals first | rfl | omega
  · by_cases h : SpOk (dnS b)
    · have b1 := bOf_y h
      rcases NDo_all (n := dnN b) h with ⟨e1, e2⟩ | ⟨e1, e2, e3, e4⟩
      · rw [hr'] at e1 e2
        dsimp only at e1 e2
        subst e1; subst e2
        have zx := (zd b).1
        simp -implicitDefEqProofs only [Tryz.f3, L, hr', b1, eq_self, decide_true, decide_false, go_sem, hh]
        repeat' (first | with_reducible apply And.intro | with_reducible intro _ | ((first | apply brB_split | apply aPickB_split | apply gB_split | apply adB_split) <;> intro hb <;> simp -implicitDefEqProofs only [hb, go_sem, hh] <;> try simp only [qz] at hb))
        all_goals (try simp only [maxLen, Int.toNat_natCast, bOf_t, bOf_f, qa, qb] at *)
        all_goals first | with_reducible rfl | omega | decide | assumption | exact zx | exact (zd b).1 | exact (zd b).2 | (show pairsB _ = true; rfl) | contradiction | (rw [decide_eq_true (by omega)]; done) | (simp at *; done) | trace_state
      · rw [hr'] at e1 e2 e4
        dsimp only at e1 e2 e4
        subst e1
        have zx := SpOk_sz e2
        have b2 := bOf_y e2
        have b3 := bOf_y e3
        have g1 := many_le h
        have g2 := many_le e2
        have g3 := SMany_y h
        have g4 := SMany_y e2
        simp -implicitDefEqProofs only [Tryz.f3, L, hr', b1, b2, b3, eq_self, decide_true, decide_false, go_sem, hh]
        repeat' (first | with_reducible apply And.intro | with_reducible intro _ | ((first | apply brB_split | apply aPickB_split | apply gB_split | apply adB_split) <;> intro hb <;> simp -implicitDefEqProofs only [hb, go_sem, hh] <;> try simp only [qz] at hb))
        all_goals (try simp only [maxLen, Int.toNat_natCast, bOf_t, bOf_f, qa, qb] at *)
        all_goals first | with_reducible rfl | omega | decide | assumption | exact zx | exact (zd b).1 | exact (zd b).2 | (show pairsB _ = true; rfl) | contradiction | (rw [decide_eq_true (by omega)]; done) | (simp at *; done) | trace_state
    · have b1 := bOf_n h
      have e := NDo_no (n := dnN b) h
      rw [hr'] at e
      obtain ⟨rfl, rfl⟩ : x = ⟨0, []⟩ ∧ ok = false := by injection e with e1 e2; exact ⟨e1, e2⟩
      have zx : OkSp ⟨0, []⟩ := SpOk_sz SpOk_0
      simp -implicitDefEqProofs only [Tryz.f3, L, hr', b1, eq_self, decide_true, decide_false, go_sem, hh]
      repeat' (first | with_reducible apply And.intro | with_reducible intro _ | ((first | apply brB_split | apply aPickB_split | apply gB_split | apply adB_split) <;> intro hb <;> simp -implicitDefEqProofs only [hb, go_sem, hh] <;> try simp only [qz] at hb))
      all_goals (try simp only [maxLen, Int.toNat_natCast, bOf_t, bOf_f, qa, qb] at *)
      all_goals first | with_reducible rfl | omega | decide | assumption | exact zx | exact (zd b).1 | exact (zd b).2 | (show pairsB _ = true; rfl) | contradiction | (rw [decide_eq_true (by omega)]; done) | (simp at *; done) | trace_state
end
end Go.V
namespace Go.V
open Go Go.Proofs Go.ChangeShapes Go.WideShapes Go.ChangeAt Go.RowKit
set_option maxRecDepth 100000
section
variable {H : Type} {enc : TypeId × Value → H} {W : World} {P : Program}
def pW (W : World) : Nat → Prop := fun b => b < W.heap.size
def RdT (P : Program) (W : World) (enc : TypeId × Value → H) (t : TypeId) (q : List T → Prop) : Prop :=
  ∀ (n : Nat) (cs : List Value) (x : DataW H × List MemPlace), DataW.trod enc P W 0 (fun _ => true) true n t cs = some x → ∃ ts, q ts ∧ RoL W (pW W) ts cs
theorem RdT.str {t : TypeId} (u : P.underlying t = some .string) : RdT P W enc t fun ts => ∃ s, ts = [.v (.string s)] := fun n cs x h => by
  obtain ⟨s, rfl, _, hs⟩ := DataW.trod_string u h
  exact ⟨_, ⟨s, rfl⟩, .cons _ _ _ _ (.v _ hs) .nil⟩
theorem RdT.int {t : TypeId} (u : P.underlying t = some (.int .i64)) : RdT P W enc t fun ts => ∃ k, ts = [.v (.int .i64 k)] := fun n cs x h => by
  obtain ⟨k, rfl, _, hs⟩ := DataW.trod_int u h
  exact ⟨_, ⟨k, rfl⟩, .cons _ _ _ _ (.v _ trivial) .nil⟩
theorem fieldAt {fs : Array Field} {l : List (TypeId × Nat)} (hl : (fs.toList.map fun f => (f.type, f.offset)) = l) {i : Nat} {t : TypeId} {o : Nat} (hi : l[i]? = some (t, o)) : ∃ f, fs[i]? = some f ∧ f.type = t ∧ f.offset = o := by
  rw [← hl, List.getElem?_map] at hi
  cases hf : fs.toList[i]? with
  | none => rw [hf] at hi; cases hi
  | some f =>
    rw [hf] at hi
    simp only [Option.map_some, Option.some.injEq, Prod.mk.injEq] at hi
    exact ⟨f, by rw [← Array.getElem?_toList]; exact hf, hi.1, hi.2⟩
theorem RdT.field {t : TypeId} {fs : Array Field} (u : P.underlying t = some (.struct fs)) {n : Nat} {cs : List Value} {x : DataW H × List MemPlace} (h : DataW.trod enc P W 0 (fun _ => true) true n t cs = some x)
    {l : List (TypeId × Nat)} (hl : (fs.toList.map fun f => (f.type, f.offset)) = l) {i : Nat} {ft : TypeId} {o k : Nat} (hi : l[i]? = some (ft, o)) (hk : P.cellsOf ft = k) {q : List T → Prop} (hr : RdT P W enc ft q) :
    ∃ ts, q ts ∧ RoL W (pW W) ts ((cs.drop o).take k) := by
  obtain ⟨xs, m, rfl, _, _, hxs, hf⟩ := DataW.trod_struct u h
  obtain ⟨f, h1, h2, h3⟩ := fieldAt hl hi
  have h4 := hf i f h1
  rw [h2, h3, hk] at h4
  have hlt : i < xs.length := by
    rw [hxs]
    exact (Array.getElem?_eq_some_iff.1 h1).1
  rw [List.getElem?_eq_getElem hlt] at h4
  exact hr _ _ _ h4
theorem RdT.len {t : TypeId} {fs : Array Field} (u : P.underlying t = some (.struct fs)) {n : Nat} {cs : List Value} {x : DataW H × List MemPlace} (h : DataW.trod enc P W 0 (fun _ => true) true n t cs = some x) : cs.length = P.cellsOf t := by
  obtain ⟨xs, m, rfl, _, h3, _, _⟩ := DataW.trod_struct u h
  exact h3
theorem RdT.slice {α : Type} (E : Enc α) {t e : TypeId} (u : P.underlying t = some (.slice e)) (hn : P.cellsOf e = E.n) (h0 : 0 < E.n) (he : RdT P W enc e fun ts => ∃ a, ts = E.enc a) :
    RdT P W enc t fun ts => ∃ xs : List α, ts = [.sl E.n (xs.map E.enc)] := fun n cs x h => by
  rcases DataW.trod_slice u h with ⟨rfl, _⟩ | ⟨a, len, cap, elems, rest, m, rfl, rfl, _, _, hlc, hcm, hel, hes, _⟩
  · exact ⟨_, ⟨[], rfl⟩, .cons _ _ _ _ (.nil _) .nil⟩
  · rw [hn] at hes
    have key : ∀ k, k ≤ len → ∃ (xs : List α) (vs : List Value), xs.length = k ∧ vs.length = k * E.n ∧ RoL W (pW W) (xs.map E.enc).flatten vs ∧ (0 < k → a.block < W.heap.size) ∧ ∀ j v, vs[j]? = some v → W.cell? (a.add j) = some v := fun k => by
      induction k with
      | zero => exact fun _ => ⟨[], [], rfl, by simp, .nil, fun h => absurd h (Nat.lt_irrefl _), fun j v hj => by simp at hj⟩
      | succ k ih =>
        intro hk
        obtain ⟨xs, vs, h1, h2, h3, h4, h5⟩ := ih (by omega)
        have h6 := hes k (by omega)
        rw [List.getElem?_eq_getElem (by omega)] at h6
        obtain ⟨cs, h7, h8⟩ := Option.bind_eq_some_iff.1 h6
        obtain ⟨ts, ⟨y, rfl⟩, h9⟩ := he _ _ _ h8
        obtain ⟨q1, q2, q3⟩ := World.cells?_some h7
        have hb : a.block < W.heap.size := by
          have := World.cells?_block h7 h0
          rwa [block_add] at this
        refine ⟨xs ++ [y], vs ++ cs, by simp [h1], ?_, ?_, fun _ => hb, fun j v hj => ?_⟩
        · have : cs.length = E.n := by rw [← h9.len, E.len]
          rw [List.length_append, h2, this, Nat.succ_mul]
        · rw [List.map_append, List.flatten_append]
          exact h3.append (by simpa using h9)
        · by_cases hj2 : j < vs.length
          · rw [List.getElem?_append_left hj2] at hj
            exact h5 j v hj
          · rw [List.getElem?_append_right (by omega)] at hj
            have hjl : j - vs.length < E.n := by
              have := (List.getElem?_eq_some_iff.1 hj).1
              have h10 : cs.length = E.n := by rw [← h9.len, E.len]
              omega
            have := q3 (j - vs.length) hjl
            rw [add_add'] at this
            rw [show j = k * E.n + (j - vs.length) from by omega, this]
            exact hj
    obtain ⟨xs, vs, h1, h2, h3, h4, h5⟩ := key len (Nat.le_refl _)
    refine ⟨_, ⟨xs, rfl⟩, .cons _ _ _ _ (.sl E.n _ a len cap vs (by simp [h1]) hlc hcm (fun hne => ?_) (fun c hc => ?_) h5 h3) .nil⟩
    · refine h4 ?_
      rcases Nat.eq_zero_or_pos len with h | h
      · exact absurd (by rw [List.eq_nil_of_length_eq_zero (h1.trans h)]; rfl) hne
      · exact h
    · obtain ⟨y, _, rfl⟩ := List.mem_map.1 hc
      exact E.len y
theorem RoL.cut {W : World} {pr : Nat → Prop} {ts ts' : List T} {cs : List Value} (o k : Nat) (h1 : RoL W pr ts ((cs.drop o).take k)) (h2 : RoL W pr ts' (cs.drop (o + k))) : RoL W pr (ts ++ ts') (cs.drop o) := by
  have e : cs.drop o = (cs.drop o).take k ++ cs.drop (o + k) := by rw [← List.drop_drop, List.take_append_drop]
  rw [e]
  exact h1.append h2
theorem RoL.stop {W : World} {pr : Nat → Prop} {cs : List Value} {n : Nat} (h : cs.length = n) : RoL W pr [] (cs.drop n) := by
  rw [List.drop_of_length_le (by omega)]
  exact .nil
end
end Go.V
namespace Go.Proofs.YtahogphlohnpmaaGreatDoor
open Go Go.Proofs Go.ChangeShapes Go.WideShapes Go.ChangeAt Go.RowKit
set_option maxRecDepth 100000
theorem own : ownKnob Tryz.prog.godebug = none := by kernel_rfl
def flatD : Nat → DataW Unit → List Value
  | 0, _ => []
  | _ + 1, .lit (.int k v) => [.int k v]
  | n + 1, .agg xs => xs.flatMap (flatD n)
  | _ + 1, _ => []
noncomputable def gOf (n : String) : Nat := (Tryz.prog.globalNamed n).getD 0
noncomputable def layAt (n : String) (d : DataW Unit) (h : Array Obj) : Array Obj := h.modify (gOf n) fun
  | .cells _ t frozen => .cells (flatD 5 d).toArray t frozen
  | o => o
noncomputable def laidWorld (os : Os) : World :=
  { World.holding Tryz.prog os ⟨#[], #[], []⟩ with heap := layAt "unicode/utf8.first" Rows.laid_unicode_utf8_first (layAt "unicode/utf8.acceptRanges" Rows.laid_unicode_utf8_acceptRanges (World.holding Tryz.prog os ⟨#[], #[], []⟩).heap) }
noncomputable def args0 : Array Value := #[.slice none 0 0]
theorem laid_met (os : Os) : laidMet Tryz.prog Rows.fnNoteDoRow.laid ((laidWorld os).forCall (fun _ _ => 0) ⟨#[], args0, []⟩).memory :=
  laidMet_of_run' 8 (by kernel_rfl) (by kernel_rfl)
theorem reads (os : Os) {H : Type} (enc : TypeId × Value → H) : ∃ places, DataW.whole enc Tryz.prog ((laidWorld os).forCall (fun _ _ => 0) ⟨#[], args0, []⟩).memory Tryz.f3.params.toList Rows.fnNoteDoSpec.vars false args0.toList 8 = some ([.nil], [], places) :=
  ⟨[], by kernel_rfl⟩
theorem func3 : Tryz.prog.funcs[3]? = some Tryz.f3 := by kernel_rfl
def Every : Prop := ∀ (H : Type) (enc : TypeId × Value → H) (W : World) (base : Nat) (args : Array Value) (ds gs : List (DataW H)) (before : List MemPlace)
    (_ : ∀ (j : Nat) t v, Tryz.f3.params[j]? = some t → args[j]? = some v → Value.okWide Tryz.prog W .any base t v)
    (_ : DataW.Whole enc Tryz.prog Tryz.f3.params.toList Rows.fnNoteDoSpec.vars false W args.toList ds gs before) (_ : W.ShapedOpen Tryz.prog),
    Calls Tryz.prog 3 args W fun e W' => ∃ v, e = .returned v ∧ Rows.fnNoteDoSpec.post enc Tryz.prog Tryz.f3 false true false false W args v W'
theorem lifted (hE : Every) (os : Os) (started : os.Started) (H : Type) (enc : TypeId × Value → H) (F : Stop.Interp) :
    ReturnsInHanded {} Tryz.checked os 3 .any ((OpenSpec.ofChange Rows.fnNoteDoSpec).preRow enc Tryz.prog Tryz.f3 Rows.fnNoteDoRow.domain false Rows.fnNoteDoRow.laid) (((OpenSpec.ofChange Rows.fnNoteDoSpec).at F).post enc Tryz.prog Tryz.f3 false true false false) := by
  obtain ⟨places, hx⟩ := reads os enc
  refine returnsInHanded_of_row (C := Tryz.checked) (s := OpenSpec.ofChange Rows.fnNoteDoSpec) own started (by kernel_rfl) func3
    (witness_row_at (enc := enc) (C := Tryz.checked) false (laidWorld os) args0 rfl (by kernel_rfl) (by kernel_rfl) (by kernel_rfl)
      (OpenSpec.preRow_of_cond 8 hx (by kernel_rfl) (fun k hk => by cases hk) (by kernel_rfl) (laid_met os))) ?_
  intro W base args ds gs before hval hW _ _ _ _ hS _
  exact hE H enc W base args ds gs before hval hW hS
theorem said (hE : Every) : Rows.FnNoteDoSaid :=
  OpenClaim.holds_of_cond 3 Tryz.f3 rfl rfl rfl rfl rfl rfl rfl ⟨rfl, rfl, rfl, rfl, rfl⟩ rfl rfl rfl rfl rfl (by kernel_rfl) func3 (by kernel_rfl)
    (of_decide_eq_true (by kernel_rfl)) (by unfold Func.isWrapper; first | (rw [if_pos (by decide +kernel)]; kernel_rfl) | (rw [if_neg (by decide +kernel)]; exact ⟨rfl, rfl⟩))
    (fun os started H enc _ F => by rw [OpenClaim.pre_eq_preRow]; exact lifted hE os started H enc F)
theorem params3 : Tryz.f3.params = #[22] := rfl
theorem plain (f : FuncId) (fn : Func) (hf : Tryz.pinned.checked.prog.funcNamed "loop.example/satchel/laws.FnNoteDo" = some f) (hfn : Tryz.pinned.checked.prog.funcs[f]? = some fn) :
    false = Tryz.pinned.checked.prog.looks [] ∧ ∀ (j : Nat) t, fn.params[j]? = some t → Tryz.pinned.checked.prog.wantsStandIn t = false := by
  obtain rfl : f = 3 := Option.some.inj ((show Tryz.prog.funcNamed "loop.example/satchel/laws.FnNoteDo" = some 3 by kernel_rfl).symm.trans hf) |>.symm
  obtain rfl : fn = Tryz.f3 := (Option.some.inj (func3.symm.trans hfn)).symm
  refine ⟨by kernel_rfl, fun j t ht => ?_⟩
  rw [params3] at ht
  have hm : t ∈ [22] := by simpa using Array.mem_of_getElem? ht
  have hall : ([22].all fun u => !Tryz.prog.wantsStandIn u) = true := by kernel_rfl
  exact (show Tryz.prog.wantsStandIn t = false by simpa using List.all_eq_true.1 hall t hm)
theorem card_of (hE : Every) : Rows.FnNoteDoCardSaid :=
  Claim7.holds_tied_plain_at .later [] _ _ _ _ (said hE) (fun _ h => by cases h) (by kernel_rfl) (fun _ h => by cases h) fnNoteDo_row_tie rfl ⟨rfl, rfl⟩ (by kernel_rfl) rfl plain (by kernel_rfl)
end Go.Proofs.YtahogphlohnpmaaGreatDoor
namespace Go.V
open Go Go.Proofs Go.ChangeShapes Go.WideShapes Go.ChangeAt Go.RowKit
set_option maxRecDepth 100000
set_option linter.unusedVariables false
set_option maxHeartbeats 4000000 in
theorem con3 (m : Int) (b : List UInt8) : Con Tryz.prog m 3 ((lc EBy.asl l0).enc (b, ())) ((lc EBy.asl l0).enc (b, ())) (.t (.v (.bool true))) := by
  have g0 : GOk Tryz.prog (Gof m []) ∧ GDet (Gof m []) := GOk_nil
  have g1 := GOk_cons g0 (good23 g0)
  have g2 := GOk_cons g1 (good43 g1)
  have g3 := GOk_cons g2 (good110 g2)
  have g4 := GOk_cons g3 (good88 g3 rfl)
  have g5 := GOk_cons g4 (good153 g4 rfl)
  have g6 := GOk_cons g5 (good116 g5 ⟨rfl, rfl⟩)
  have g7 := GOk_cons g6 (good60 g6 rfl)
  have g8 := GOk_cons g7 (good175 g7 rfl)
  have g9 := GOk_cons g8 (good151 g8 ⟨rfl, rfl⟩)
  have g10 := GOk_cons g9 (good112 g9 ⟨rfl, rfl, rfl, rfl⟩)
  have g11 := GOk_cons g10 (good111 g10)
  have g12 := GOk_cons g11 (good75 g11)
  have g13 := GOk_cons g12 (good113 g12 rfl)
  have g14 := GOk_cons g13 (good152 g13)
  have g15 := GOk_cons g14 (good114 g14 ⟨rfl, rfl⟩)
  have g16 := GOk_cons g15 (good32 g15 rfl)
  have g17 := GOk_cons g16 (good59 g16 ⟨rfl, rfl, rfl, rfl, rfl, rfl, rfl⟩)
  have g18 := GOk_cons g17 (good24 g17 ⟨rfl, rfl, rfl⟩)
  have g19 := GOk_cons g18 (good115 g18 ⟨rfl, rfl⟩)
  have g20 := GOk_cons g19 (good61 g19 ⟨rfl, rfl, rfl⟩)
  have g21 := GOk_cons g20 (good62 g20 ⟨rfl, rfl, rfl⟩)
  have g22 := GOk_cons g21 (good25 g21 ⟨rfl, rfl, rfl, rfl⟩)
  have g23 := GOk_cons g22 (good6 g22 ⟨rfl, rfl, rfl⟩)
  have g24 := GOk_cons g23 (good36 g23)
  have g25 := GOk_cons g24 (good157 g24)
  have g26 := GOk_cons g25 (good176 g25)
  have g27 := GOk_cons g26 (good158 g26 rfl)
  have g28 := GOk_cons g27 (good159 g27 rfl)
  have g29 := GOk_cons g28 (good129 g28 ⟨rfl, rfl, rfl⟩)
  have g30 := GOk_cons g29 (good83 g29 ⟨rfl, rfl⟩)
  have g31 := GOk_consX g30 (good196 m)
  have g32 := GOk_cons g31 (good181 g31 rfl)
  have g33 := GOk_consX g32 (good223 m)
  have g34 := GOk_cons g33 (good214 g33 rfl)
  have g35 := GOk_consX g34 (good213 m)
  have g36 := GOk_cons g35 (good212 g35)
  have g37 := GOk_cons g36 (good224 g36)
  have g38 := GOk_cons g37 (good215 g37 rfl)
  have g39 := GOk_cons g38 (good197 g38 ⟨rfl, rfl, rfl, rfl⟩)
  have g40 := GOk_cons g39 (good182 g39 rfl)
  have g41 := GOk_cons g40 (good162 g40 ⟨rfl, rfl⟩)
  have g42 := GOk_cons g41 (good130 g41 rfl)
  have g43 := GOk_cons g42 (good84 g42 ⟨rfl, rfl⟩)
  have g44 := GOk_cons g43 (good37 g43 ⟨rfl, rfl⟩)
  have g45 := GOk_cons g44 (good40 g44 rfl)
  have g46 := GOk_cons g45 (good41 g45)
  have g47 := GOk_cons g46 (good80 g46 ⟨rfl, rfl⟩)
  have g48 := GOk_cons g47 (good81 g47)
  have g49 := GOk_cons g48 (good128 g48)
  have g50 := GOk_cons g49 (good127 g49 rfl)
  have g51 := GOk_cons g50 (good154 g50 rfl)
  have g52 := GOk_cons g51 (good126 g51 rfl)
  have g53 := GOk_cons g52 (good82 g52 rfl)
  have g54 := GOk_cons g53 (good35 g53 ⟨rfl, rfl, rfl, rfl, rfl, rfl⟩)
  have g55 := GOk_cons g54 (good10 g54 ⟨rfl, rfl⟩)
  have g56 := GOk_cons g55 (good38 g55 rfl)
  have g57 := GOk_cons g56 (good85 g56 rfl)
  have g58 := GOk_cons g57 (good131 g57 rfl)
  have g59 := GOk_cons g58 (good86 g58 rfl)
  have g60 := GOk_cons g59 (good39 g59 ⟨rfl, rfl, rfl, rfl, rfl⟩)
  have g61 := GOk_cons g60 (good12 g60 ⟨rfl, rfl, rfl, rfl, rfl, rfl⟩)
  have g62 := GOk_cons g61 (good63 g61)
  have g63 := GOk_cons g62 (good64 g62)
  have g64 := GOk_cons g63 (good26 g63 ⟨rfl, rfl⟩)
  have g65 := GOk_cons g64 (good65 g64)
  have g66 := GOk_cons g65 (good27 g65 ⟨rfl, rfl, rfl, rfl, rfl, rfl⟩)
  have g67 := GOk_cons g66 (good118 g66)
  have g68 := GOk_cons g67 (good117 g67 rfl)
  have g69 := GOk_cons g68 (good120 g68)
  have g70 := GOk_cons g69 (good119 g69 rfl)
  have g71 := GOk_cons g70 (good66 g70 ⟨rfl, rfl⟩)
  have g72 := GOk_cons g71 (good67 g71)
  have g73 := GOk_cons g72 (good68 g72)
  have g74 := GOk_cons g73 (good28 g73 ⟨rfl, rfl, rfl, rfl, rfl⟩)
  have g75 := GOk_cons g74 (good69 g74 rfl)
  have g76 := GOk_cons g75 (good29 g75 ⟨rfl, rfl, rfl, rfl, rfl⟩)
  have g77 := GOk_cons g76 (good7 g76 ⟨rfl, rfl, rfl, rfl, rfl, rfl⟩)
  have g78 := GOk_cons g77 (good71 g77)
  have g79 := GOk_cons g78 (good123 g78 rfl)
  have g80 := GOk_cons g79 (good136 g79)
  have g81 := GOk_cons g80 (good93 g80 ⟨rfl, rfl⟩)
  have g82 := GOk_cons g81 (good74 g81 ⟨rfl, rfl⟩)
  have g83 := GOk_cons g82 (good121 g82 ⟨rfl, rfl⟩)
  have g84 := GOk_cons g83 (good72 g83)
  have g85 := GOk_cons g84 (good96 g84)
  have g86 := GOk_cons g85 (good122 g85 rfl)
  have g87 := GOk_cons g86 (good70 g86 ⟨rfl, rfl, rfl, rfl, rfl⟩)
  have g88 := GOk_cons g87 (good30 g87 ⟨rfl, rfl⟩)
  have g89 := GOk_cons g88 (good73 g88 ⟨rfl, rfl, rfl, rfl⟩)
  have g90 := GOk_cons g89 (good31 g89 ⟨rfl, rfl, rfl, rfl⟩)
  have g91 := GOk_cons g90 (good76 g90 ⟨rfl, rfl, rfl, rfl, rfl, rfl⟩)
  have g92 := GOk_cons g91 (good124 g91)
  have g93 := GOk_cons g92 (good125 g92)
  have g94 := GOk_cons g93 (good77 g93 ⟨rfl, rfl, rfl, rfl, rfl⟩)
  have g95 := GOk_cons g94 (good78 g94 ⟨rfl, rfl, rfl, rfl, rfl, rfl⟩)
  have g96 := GOk_cons g95 (good33 g95 ⟨rfl, rfl, rfl⟩)
  have g97 := GOk_cons g96 (good8 g96 ⟨rfl, rfl, rfl, rfl⟩)
  have g98 := GOk_cons g97 (good79 g97)
  have g99 := GOk_cons g98 (good34 g98 rfl)
  have g100 := GOk_cons g99 (good9 g99 rfl)
  have g101 := GOk_cons g100 (good11 g100 rfl)
  have hg := good3 g101 ⟨rfl, rfl, rfl, rfl, rfl, rfl, rfl⟩
  obtain ⟨res, h1, _, h3, _⟩ := hg.ro ((lc EBy.asl l0).enc (b, ())) (fun r => r = .t (.v (.bool true))) (by
    show c3 _ _
    rw [c3, ctR_eq, (lc EBy.asl l0).ed]
    exact ⟨trivial, rfl⟩)
  rw [h1] at h3
  exact h3
section
variable {H : Type} {enc : TypeId × Value → H} {W : World}
noncomputable def fsOf (t : TypeId) : Array Field := match Tryz.prog.underlying t with | some (.struct fs) => fs | _ => #[]
theorem v3 : Tryz.prog.underlying 3 = some (.int .i64) := by kernel_rfl
theorem w3 : Tryz.prog.cellsOf 3 = 1 := by kernel_rfl
theorem rdInt : RdT Tryz.prog W enc 3 fun ts => ∃ a, ts = EInt.enc a := fun n cs x h => RdT.int v3 n cs x h
theorem v5 : Tryz.prog.underlying 5 = some (.int .u8) := by kernel_rfl
theorem w5 : Tryz.prog.cellsOf 5 = 1 := by kernel_rfl
theorem rdBy : RdT Tryz.prog W enc 5 fun ts => ∃ a, ts = EBy.enc a := fun n cs x h => by
  obtain ⟨k, rfl, _, hs⟩ := DataW.trod_int v5 h
  have hb : 0 ≤ k ∧ k < 256 := by
    have e : (Lit.int .u8 k).wf = (decide ((0 : Int) ≤ k) && decide (k ≤ 255)) := rfl
    rw [e] at hs
    simp at hs
    omega
  refine ⟨_, ⟨UInt8.ofNat k.toNat, rfl⟩, .cons _ _ _ _ ?_ .nil⟩
  have e4 : (((UInt8.ofNat k.toNat).toNat : Nat) : Int) = k := by
    have : (UInt8.ofNat k.toNat).toNat = k.toNat := by simp; omega
    omega
  rw [e4]
  exact .v _ trivial
theorem v22 : Tryz.prog.underlying 22 = some (.slice 5) := by kernel_rfl
theorem w22 : Tryz.prog.cellsOf 22 = 1 := by kernel_rfl
theorem glOk_of (h : W.ShapedOpen Tryz.prog) : ∃ m, GlOk m W (pW W) := by
  obtain ⟨cs, h1, h2, h3⟩ := h.1 0 #[.int .i64 0] 3 (Nat.lt_of_lt_of_le (Nat.lt_succ_self 0) (Nat.le_of_ble_eq_true (by kernel_rfl))) (by kernel_rfl)
  obtain ⟨ts, t1, _, t3⟩ := h3 (by kernel_rfl)
  have hts : ts = [3] := Option.some.inj (t1.symm.trans (by kernel_rfl))
  subst hts
  have hsz : cs.size = 1 := h2
  have h0 : cs[0]? = some cs[0] := Array.getElem?_eq_getElem (by omega)
  obtain ⟨u, hu, hok⟩ := t3 0 _ h0
  simp at hu
  subst hu
  unfold Cell.ok at hok
  rw [v3] at hok
  generalize cs[0] = v at h0 hok
  have hb : (0 : Nat) < W.heap.size := (Array.getElem?_eq_some_iff.1 h1).1
  cases v with
  | int k n =>
    have hk : k = .i64 := hok.1
    subst hk
    refine ⟨n, .rop _ _ [.int .i64 n] (fun _ => hb) (fun j u hj => ?_) (.cons _ _ _ _ (.v _ trivial) .nil)⟩
    cases j with
    | zero =>
      simp at hj
      subst hj
      simp [World.cell?, Addr.add, glb, h1, h0]
    | succ j => simp at hj
  | _ => exact hok.elim
end
theorem every : YtahogphlohnpmaaGreatDoor.Every := by
  intro H enc W base args ds gs before hval0 hW hS
  have hval : ∀ (j : Nat) t v, Tryz.f3.params[j]? = some t → args[j]? = some v → Value.okWide Tryz.prog W .any base t v := hval0
  have hW' := hW
  obtain ⟨p, q, hA0, hV, rfl, hfz, hnd⟩ := hW
  have hA : DataW.TrodAll enc Tryz.prog W 0 (fun _ => true) true [22] args.toList ds p := hA0
  rw [YtahogphlohnpmaaGreatDoor.params3] at hval
  obtain ⟨u0, d0, rfl, rfl, h0⟩ := trodAll_one hA
  obtain ⟨rfl, rfl⟩ := trodVars_none hV
  have hlt : ∀ x ∈ (p) ++ [], x.block < W.heap.size := fun x hx => hW'.lt x hx
  have k0 := h0
  obtain ⟨n0, t0⟩ := h0
  obtain ⟨_, ⟨b, rfl⟩, r0⟩ := (RdT.slice EBy v22 w5 (by decide) rdBy) _ _ _ t0
  have e0 : u0.cells.toList = [u0] := by
    have := hval 0 22 u0 rfl rfl
    unfold Value.okWide at this
    rw [v22] at this
    cases u0 with
    | agg cs => simp only [Cell.okWide, v22, Cell.ok] at this
    | _ => rfl
  rw [e0] at r0
  have r0' : Ro W (pW W) (.sl 1 (b.map EBy.enc)) u0 := by
    cases r0 with | cons _ _ _ _ h _ => exact h
  have a0 : AHas ρ0 W (pW W) (.t (.sl 1 (b.map EBy.enc))) u0 [] := .t _ _ r0'
  obtain ⟨m, hgl⟩ := glOk_of hS
  have hargs : AHasL ρ0 W (pW W) ((lc EBy.asl l0).enc (b, ())) [u0] [] := .cons _ _ _ _ [] [] a0 .nil
  have hcall := con3 m b W (pW W) [u0] [] hgl hargs .nil (fun b hb => by cases hb) (fun b hb => hb)
  refine Calls.mono hcall fun e W' hq => ?_
  obtain ⟨v, pr', G, F, he, hfr, _, _, _, _, hv, _, _⟩ := hq
  obtain ⟨rfl, _⟩ := hv.val
  have hb : Below W.heap.size W W' := ⟨hfr.os, hfr.tape, hfr.output, hfr.size, fun k hk => hfr.block k hk (by simp)⟩
  refine ⟨_, he, _, _, _, [], p, [], hW', ?_, ?_, rfl, hb.frame _, fun h => by cases h⟩
  · exact trodAll_mk1 (shut_bool (show Tryz.prog.underlying 4 = some .bool by kernel_rfl) _)
  · have := trodAll_mk1 (Below.trod (by kernel_rfl) (by kernel_rfl) (of_decide_eq_true (by kernel_rfl)) k0 hb fun x hx => hlt x (by simp [hx]))
    exact this
end Go.V
namespace Go.Proofs.YtahogphlohnpmaaGreatDoor
theorem fnNoteDo_card : Rows.FnNoteDoCardSaid := card_of Go.V.every
end Go.Proofs.YtahogphlohnpmaaGreatDoor
