/- The row. No condition. -/
import Derived.Test.YtbhhplmkhagobaaGreatDoorKCA
import Derived.DeepKeys4
import Derived.Lib.Bytealg
namespace Go.V
open Go Go.Proofs
set_option maxRecDepth 100000
set_option linter.unusedSimpArgs false
set_option linter.unusedVariables false
attribute [local go_sem_proc] Nat.reduceAdd Nat.reduceMul Nat.reduceLeDiff Nat.reduceEqDiff reduceCtorEq Nat.reduceSub Int.reduceNeg Nat.reduceMod Nat.reduceBEq Nat.reduceLT
attribute [local go_sem] aPickB.eq_1 aPickB.eq_2 aPick.eq_1 aBox.eq_1 aBox.eq_2 aAlloc.eq_1 aAlloc.eq_2 aLoadB.eq_1 aLoadB.eq_2 aLoadB.eq_3 aLoadB.eq_4 aLoadB.eq_5 aLoadA.eq_1 aLoadA.eq_2 aLoadA.eq_3 aLoadA.eq_4 aLoadA.eq_5 aLoadP.eq_1 aLoadP.eq_2 aLoadP.eq_3 aLoad.eq_1 aLoad.eq_2 aFAx.eq_1 aFAx.eq_2 aFAx.eq_3 aFA.eq_1 aFA.eq_2 aFx.eq_1 aF.eq_1 aF.eq_2 fld.eq_1 elT.eq_1 aIdxH.eq_1 aIdxH.eq_2 aIdxH.eq_3 aIdxH.eq_4 aIdxH.eq_5 aIdxP.eq_1 aIdxP.eq_2 aIndexAddr.eq_1 aIndexAddr.eq_2 aIndexAddr.eq_3 isStr.eq_1 aIndex.eq_1 aSlStr.eq_1 aSlRo.eq_1 aSlZ.eq_1 aSlZ.eq_2 aSlice.eq_1 aSlice.eq_2 aSlice.eq_3 bnd.eq_1 bnd.eq_2 aBuildO.eq_1 aBuildO.eq_2 aBuild.eq_1 aNewArr.eq_1 aNewArr.eq_2 aBS.eq_1 aBS.eq_2 aBuildSlice.eq_1 aBuildSlice.eq_2 aMakeSlice.eq_1 appDeep.eq_1 aApp2.eq_1 aAppend.eq_1 aAppend.eq_2 aStoreB.eq_1 aStoreA.eq_1 obFlat.eq_1 aStore2.eq_1 aStore2.eq_2 aStoreP.eq_1 aStoreP.eq_2 aStore.eq_1 aStore.eq_2 isShl.eq_1 isShl.eq_2 isBool.eq_1 aBinI.eq_1 aBinI.eq_2 aBinB.eq_1 aBinB.eq_2 aEq.eq_1 aEq.eq_2 aEq.eq_3 aEq.eq_4 aEqG.eq_1 aEqG.eq_2 aBin.eq_1 aBin.eq_2 aBin.eq_3 aBin.eq_4 aUn.eq_1 aUn.eq_2 aLenO.eq_1 aLenS.eq_1 aLenS.eq_2 aLenS.eq_3 aLenT.eq_1 aLen.eq_1 aLen.eq_2 aLen.eq_3 bytesOb.eq_1 bytesOb.eq_2 bytesOf.eq_1 bytesOf.eq_2 aNums.eq_1 aNums.eq_2 isU8.eq_1 aCvI.eq_1 aCvS.eq_1 aCvB.eq_1 aCvB.eq_2 aCvT.eq_1 aConv.eq_1 aConv.eq_2 aConv.eq_3 aConv.eq_4 aExO.eq_1 aExO.eq_2 aExtract.eq_1 aNil.eq_1 aNil.eq_2 aNil.eq_3 aCallS.eq_1 aCallS.eq_2 aCallR.eq_1 aCallR.eq_2 aCallK.eq_1 aCallK.eq_2 aCallK.eq_3 aCall.eq_1 aCall.eq_2 takeO.eq_1 AS.takeV.eq_1 AS.takeV.eq_2 AS.takeV.eq_3 AS.takeV.eq_4 AS.takeV.eq_5 AS.takeV.eq_6 AS.takeV.eq_7 AV.oldM.eq_1 AV.oldM.eq_2 AV.oldM.eq_3 AV.oldM.eq_4 AV.oldM.eq_5 AV.oldM.eq_6 AV.oldM.eq_7 AV.oldM.eq_8 AV.oldM.eq_9 AV.oldM.eq_10 AV.oldM.eq_11 AV.oldML.eq_1 AV.oldML.eq_2 subL.eq_1 subL.eq_2 back.eq_1 back.eq_2 back.eq_3 back.eq_4 backL.eq_1 backI.eq_1 backI.eq_2 backI.eq_3 backI.eq_4 backIL.eq_1 aBuiltin.eq_1 aBuiltin.eq_2 aBuiltin.eq_3 aCallee.eq_1 aCallee.eq_2 aCallee.eq_3 abin.eq_1 abin.eq_2 abin.eq_3 abin.eq_4 abin.eq_5 abin.eq_6 abin.eq_7 abin.eq_8 abin.eq_9 abin.eq_10 abin.eq_11 abin.eq_12 abin.eq_13 abin.eq_14 abin.eq_15 abin.eq_17 abin.eq_18 abin.eq_19 abin.eq_20 abin.eq_21 abin.eq_22 abin.eq_23 AS.ev.eq_1 AS.ev.eq_2 AS.ev.eq_3 AS.ev.eq_4 AS.evs.eq_1 AS.evs.eq_2 AS.evp.eq_1 AS.evp.eq_2 AS.put.eq_1 AS.put.eq_2 AS.remL.eq_1 AS.remL.eq_2 AV.has.eq_1 AV.has.eq_2 AV.has.eq_3 AV.has.eq_4 AV.has.eq_5 AV.has.eq_6 AV.has.eq_7 AV.has.eq_8 AV.has.eq_9 AV.has.eq_10 AV.has.eq_11 AV.hasL.eq_1 AV.hasL.eq_2 Ob.drop.eq_1 Ob.drop.eq_2 Ob.drop.eq_3 Ob.drop.eq_4 AV.cells.eq_1 AV.cells.eq_2 AV.cells.eq_3 AV.cells.eq_4 AV.cells.eq_5 AS.snapT.eq_1 AS.snapT.eq_2 AS.snapT.eq_3 AS.snapT.eq_4 AS.snapT.eq_5 AS.snapT.eq_6 AS.snapT.eq_7 AS.snap.eq_1 AS.snap.eq_2 mapO.eq_1 mapO.eq_2 intern.eq_1 intern.eq_2 intern.eq_3 intern.eq_4 intern.eq_5 intern.eq_6 intern.eq_7 intern.eq_8 intern.eq_9 intern.eq_10 intern.eq_11 internL.eq_1 internL.eq_2 zipSl.eq_1 zipSl.eq_2 AV.ids.eq_1 AV.ids.eq_2 AV.ids.eq_3 AV.ids.eq_4 AV.ids.eq_5 AV.ids.eq_6 AV.ids.eq_7 AV.ids.eq_8 AV.ids.eq_9 AV.ids.eq_10 AV.ids.eq_11 AV.idsL.eq_1 AV.idsL.eq_2 AV.sub.eq_1 AV.sub.eq_2 AV.sub.eq_3 AV.sub.eq_4 AV.sub.eq_5 AV.sub.eq_6 AV.sub.eq_7 AV.sub.eq_8 AV.sub.eq_9 AV.sub.eq_10 AV.sub.eq_11 AV.subL.eq_1 AV.subL.eq_2 AS.frzL.eq_1 AS.frzL.eq_2 AS.absT.eq_1 AS.absT.eq_2 AS.absT.eq_4 AS.absL.eq_1 AS.absL.eq_2 AS.absOk.eq_1 AS.absOkL.eq_1 AS.absOkL.eq_2 hid.eq_1 hids.eq_1 hids.eq_2 AS.appBase.eq_1 AS.appBase.eq_2 AS.appSrc.eq_1 appFits.eq_1 appFits.eq_2 appFits.eq_3 avFill.eq_1 avFill.eq_2 avc.eq_1 avc.eq_2 avc1.eq_1 Kd.agg.eq_1 Kd.agg.eq_2 okR.eq_1 okR.eq_2 okR.eq_3 okR.eq_4 okR.eq_5 okR.eq_6 okR.eq_7 okR.eq_8 zt.eq_1 rvB.eq_1 rvP.eq_1 rvA.eq_1 rvA.eq_2 rv1.eq_1 outTO.eq_1 outT.eq_1 outT.eq_2 outT.eq_3 outTn.eq_1 outOO.eq_1 outO.eq_1 outO.eq_2 boxOf.eq_1 outP.eq_1 outP.eq_2 outP.eq_3 outP.eq_4 outP.eq_5 outP.eq_6 outP.eq_7 outP.eq_8 outPL.eq_1 outPL.eq_2 outI.eq_1 outI.eq_2 outI.eq_3 outI.eq_4 outI.eq_5 outIL.eq_1 outZ.eq_1 outZ.eq_2 outZ.eq_3 outZ.eq_4 outZ.eq_5 outZL.eq_1 finO.eq_1 finO.eq_2 fin.eq_1 fin.eq_2 fin.eq_3 cellAV.eq_1 cellAV.eq_2 numsOf.eq_1 numsOf.eq_2 aop.eq_1 aop.eq_2 aop.eq_3 aop.eq_4 aop.eq_5 aop.eq_6 aop.eq_7 aop.eq_8 aop.eq_9 aop.eq_10 aop.eq_11 aop.eq_12 aop.eq_13 aop.eq_14 aop.eq_15 aop.eq_16 aop.eq_17 aop.eq_18 aop.eq_19 aop.eq_20 aop.eq_21 aop.eq_22 aop.eq_23 aop.eq_24 aop.eq_25 aop.eq_26 tmpsOf.eq_1 tmpsOf.eq_2 tmpsOf.eq_3 tmpsOf.eq_4 tmpsOf.eq_5 AV.refs.eq_1 AV.refs.eq_2 AV.refs.eq_3 AV.refs.eq_4 AV.refs.eq_5 AV.refs.eq_6 AV.refs.eq_7 AV.refs.eq_8 AV.refs.eq_9 AV.refs.eq_10 AV.refs.eq_11 AV.refsL.eq_1 AV.refsL.eq_2 refsT.eq_1 refsT.eq_2 refsO.eq_1 refsO.eq_2 refsO.eq_3 refsO.eq_4 refsO.eq_5 refsO.eq_6 refsB.eq_1 refsB.eq_2 clos.eq_1 clos.eq_2 keepL.eq_1 keepL.eq_2 AV.hasM.eq_1 AV.hasM.eq_2 AV.hasM.eq_3 AV.hasM.eq_4 AV.hasM.eq_5 AV.hasM.eq_6 AV.hasM.eq_7 AV.hasM.eq_8 AV.hasM.eq_9 AV.hasM.eq_10 AV.hasM.eq_11 AV.hasML.eq_1 AV.hasML.eq_2 Ob.dropM.eq_1 Ob.dropM.eq_2 Ob.dropM.eq_3 Ob.dropM.eq_4 nsC.eq_1 nsC.eq_2 okGuard.eq_1 okGuard.eq_2 AS.purges.eq_1 AS.purges.eq_2 dropMB.eq_1 dropMB.eq_2 newB.eq_1 newB.eq_2 ptB.eq_1 ptB.eq_2 lookC.eq_1 lookC.eq_2 dropB.eq_1 dropB.eq_2 leS.eq_1 leS.eq_2 leT.eq_1 leT.eq_2 AS.mvs.eq_1 AS.mvs.eq_2 AS.mvA.eq_1 AS.mvA.eq_2 AS.mvB.eq_1 aSetO.eq_1 aSetO.eq_2 aSh.eq_1 aSh.eq_2 arK.eq_1 aIdxA.eq_1 aIdxA.eq_2 arT.eq_1 aSlHB.eq_1 aSlHB.eq_2 aSlHO.eq_1 aSlHZ.eq_1 aSlHZ.eq_2 isSlT.eq_1 isNilC.eq_1 aNilO.eq_1 aNilX.eq_1 aNilX.eq_2 aNilX.eq_3 aNilC.eq_1 aNilC.eq_2 aBinQ.eq_1 aBinQ.eq_2 aMin.eq_1 flT.eq_1 flT.eq_2 flT.eq_3 mpT.eq_1 aMkMap.eq_1 aMkMap.eq_2 strA.eq_1 keyMK.eq_1 keyMK.eq_2 keyMK.eq_3 mkB.eq_1 mkB.eq_2 mkB.eq_3 aMp2.eq_1 aMp1.eq_1 aMp0.eq_1 aMapU.eq_1 aLk2.eq_1 aLk2.eq_2 aLk1.eq_1 aLk0.eq_1 aLookup.eq_1 aLenMO.eq_1 aLenM.eq_1 glV.eq_1 glV.eq_2 evG.eq_1 evG.eq_2 evG.eq_3 evG.eq_4 lkHitO.eq_1 lkHitO.eq_2 lkHitO.eq_3 lkHitO.eq_4 lkHit.eq_1 lkHit.eq_2 lkF.eq_1 lkF.eq_2 lkFind.eq_1 lkFind.eq_2 lkV.eq_1 lkV.eq_2 lkV.eq_3 lkV.eq_4 lkV.eq_5 AS.lkO.eq_1 AS.lkO.eq_2 AS.lkOf.eq_1 rawT.eq_1 rawT.eq_2 rawT.eq_3 rawT.eq_4 rawT.eq_5 rawT.eq_6 rawOf.eq_1 rawOf.eq_2 rawOf.eq_3 rawOf.eq_4 rawOf.eq_5 rawOf.eq_6 rawOf.eq_7 rawOf.eq_8 rawOf.eq_9 rawOf.eq_10 rawOf.eq_11 aLkR.eq_1 aLkR.eq_2 aLk.eq_1 aLk.eq_2 KL.eq_1 lkDrop.eq_1 lkDrop.eq_2 lkParO.eq_1 lkParO.eq_2 lkParO.eq_3 lkParO.eq_4 lkPar.eq_1 lkPar.eq_2 lkI.eq_1 lkI.eq_2 lkIds.eq_1 lkIds.eq_2 adLd.eq_1 run_nil run_b run_l run_skip run_label run_seq run_cond brV_b brB_t brB_f run_block run_exit run_ret run_region runX_nil runX_c runX_c' runX_b runX_b' runX_l runX_l' exB_t exB_f run_o run_op run_opg gV_b gV_t gB_tt gB_ff gB_tf gB_ft rs_eq kv KI aLenN aBS1 aApp1 aStore1 szOk gv gd s0 idOf look_cons lookC frzU_t frzU_f orT orF drop_any drop_nil drop_t drop_h drop_pb drop_pa drop_agg drop_tup drop_fn dropB kill_eq set_eq rem_eq re_eq up_eq get_eq ob_eq Ob.drop apl fpl plainTy AS.frz splice cond_true cond_false List.map_cons List.map_nil List.drop_zero List.drop_succ_cons List.drop_nil List.take_zero List.take_succ_cons List.take_nil List.getElem?_cons_zero List.getElem?_cons_succ List.getElem?_nil List.length_cons List.length_nil Option.map_some Option.map_none Option.bind_some Option.bind_none List.cons_append List.nil_append List.append_nil Option.getD_some Option.getD_none List.all_cons List.all_nil Bool.and_true Bool.true_and Bool.or_false Bool.false_or Bool.or_true Bool.true_or List.flatten_cons List.flatten_nil List.replicate_succ List.replicate_zero and_true true_and avOf_t avOf_f agg_bool agg_int agg_str agg_slice agg_struct agg_func agg_ptr agg_map avc_bool avc_int avc_str avc_fn avc1_bool avc1_int avc1_str avc1_fn zt_bool zt_int zt_str cells_nil cells_t cells_h cells_pb cells_fn snap_t snap_nil snap_h snap_pb snap_fn rv1_one rv1_two outI_t outI_oh outI_on outI_any outI_nil outZ_th outZ_tt outZ_tn outZ_o outZ_any outZ_nil outIL_nil outZL_nil finN finR ne_eq not_false_eq_true not_true_eq_false List.nodup_nil List.not_mem_nil false_implies implies_true eq_self true_or or_true Option.some.injEq shl_add shl_sub shl_mul shl_quo shl_rem shl_and shl_or shl_xor shl_andNot shl_eql shl_neq shl_lss shl_leq shl_gtr shl_geq shl_shr shl_shl appDeep_none appDeep_sn appSrc_h appSrc_nil fits_ft fits_tn fits_tf isStr_slice obFlat_box Nat.le_refl nbeq_self List.length_map updZ_s updZ_n dropM_eq purge_eq newIds_cons newIds_nil purgeT_nil purgeT_cons memN_cons memN_nil bd_d bd_c bd_g bd_p bd_t bd_o preds_nil preds_cons hasIns insB List.any_cons List.any_nil adK_eq adr_nil adG_eq kdOp noLen creates Op.operands Call.operands nsOf adT adI adJ plainB rst List.append_eq nsD_f nsD_n nsD_t nOf_0 nOf_1 nOf_2 chO_0 chO_1 chO_2 keepK_0 keepK_1 keepK_2 eqRes AS.mv fits KM aCallM notNew kdCall arK_i64 arK_i32 arK_u8 arK_u64 arT_sl isNilC_t isNilC_f isNilC_g isNilC_i isNilC_b isNilC_s isNilC_a isNilC_n andBF andBT aCallK_2 ble_dec hid_t hid_nil hid_any hid_pb hid_fn absOk_t absOk_nil absOk_pb absOk_h absOkO_1 decide_true decide_false Array.toList_append chunk_0 chunk_1 chunk_2 chunk_3 back_t back_nil back_ht backL_nil backI_t backI_nil backI_ht backIL_nil AS.mvJ nbeq_dec runR_f runR_t loadB Option.isSome_some Option.isSome_none nodup1 adr_none adr_some adO_s adV_b adV_t adB_tt adB_ff adB_tf adB_ft adS_eq lenL.eq_1 lenO.eq_1 lenO.eq_2 lenV.eq_1 lenV.eq_2 lenV.eq_3 lenV.eq_4 optN optS absT_ft
attribute [local go_sem] ty3 ty4 ty5 ty9 ty21 ty22 ty23 ty25 ty27 ty30 ty32 ty33 ty35 ty37 ty49 ty50 ty52 ty53 ty55 ty56 ty58 ty60 ty62 ty75 ty84 ty86 ty87 ty89 ty90 ty92 ty95 ty110 ty111 ty113 ty121 ty138 ty146 ty155 ty157 ty184 ty186 ty188 ty194 ty197 ty211 ty214 ty223 ty230 ty236 lv37 lv75 lv121 lv146 zb4 leS leT fits AS.mvs encStr_eq aIdx_str EStr_dec decStrs decStrs0 EStr_enc EStr_n encInt_eq aIdx_int EInt_dec decInts decInts0 EInt_enc EInt_n AllV_Int len_Int lc_enc l0_enc asl_enc ag_enc aow_enc ABool_enc AInt_enc AStr_enc AU8_enc ABool_dec AInt_dec AStr_dec AU8_dec asl_dec ag_dec aow_dec bind_some pr2.eq_1 l0_nil lc_cons unT.eq_1 K0.eq_1 M0.eq_1 KI AllV_Str len_Str ctR_eq ctM_eq ro_kd ro_ro mu_kd mu_mu encAd_eq aIdx_Ad EAd_dec decAds decAds0 EAd_enc EAd_n len_Ad Ad_eta AllV_Ad encRc_eq aIdx_Rc ERc_dec decRcs decRcs0 ERc_enc ERc_n len_Rc Rc_eta AllV_Rc encIm_eq aIdx_Im EIm_dec decIms decIms0 EIm_enc EIm_n len_Im Im_eta mkIm.eq_1 owIm_eq AIm_enc AIm_dec encSp_eq aIdx_Sp ESp_dec decSps decSps0 ESp_enc ESp_n len_Sp Sp_eta mkSp.eq_1 owSp_eq ASp_enc ASp_dec encWy_eq aIdx_Wy EWy_dec decWys decWys0 EWy_enc EWy_n len_Wy Wy_eta AllV_Wy encCf_eq aIdx_Cf ECf_dec decCfs decCfs0 ECf_enc ECf_n len_Cf Cf_eta mkCf.eq_1 owCf_eq ACf_enc ACf_dec encGm_eq aIdx_Gm EGm_dec decGms decGms0 EGm_enc EGm_n len_Gm Gm_eta mkGm.eq_1 owGm_eq AGm_enc AGm_dec encBx_eq aIdx_Bx EBx_dec decBxs decBxs0 EBx_enc EBx_n len_Bx Bx_eta mkBx.eq_1 owBx_eq ABx_enc ABx_dec encLs_eq aIdx_Ls ELs_dec decLss decLss0 ELs_enc ELs_n len_Ls Ls_eta AllV_Ls encHs_eq aIdx_Hs EHs_dec decHss decHss0 EHs_enc EHs_n len_Hs Hs_eta mkHs.eq_1 owHs_eq AHs_enc AHs_dec encWd_eq aIdx_Wd EWd_dec decWds decWds0 EWd_enc EWd_n len_Wd Wd_eta mkWd.eq_1 owWd_eq AWd_enc AWd_dec
theorem size0 {s : ByteArray} (h : s.size = 0) : s = ⟨#[]⟩ := by
  have : bl s = [] := List.eq_nil_of_length_eq_zero (by rw [bl_len]; exact h)
  exact bl_inj this
theorem byteAt_ext {s : ByteArray} {a b j : Nat} (h : a + j < b) : byteAt (s.extract a b) j = byteAt s (a + j) := by
  rw [byteAt_bl, byteAt_bl, bl_extract]
  congr 2
  simp only [List.getD_eq_getElem?_getD]
  rw [List.getElem?_take_of_lt (by omega), List.getElem?_drop]
section
variable {l : List Bool}
theorem trR_ne {s : ByteArray} (h : s.size ≠ 0) : trR l s = bif l.getD (byteAt s (s.size - 1)).toNat false then trR l (s.extract 0 (s.size - 1)) else s := by rw [trR, dif_neg h]
theorem trL_ne {s : ByteArray} (h : s.size ≠ 0) : trL l s = bif l.getD (byteAt s 0).toNat false then trL l (s.extract 1 s.size) else s := by rw [trL, dif_neg h]
theorem trR_all {s : ByteArray} (h : ∀ j, j < s.size → l.getD (byteAt s j).toNat false = true) : trR l s = ⟨#[]⟩ := by
  by_cases h0 : s.size = 0
  · rw [size0 h0, trR_nil]
  · rw [trR_ne h0, h (s.size - 1) (by omega), cond_true]
    refine trR_all fun j hj => ?_
    rw [ByteArray.size_extract] at hj
    rw [byteAt_ext (by omega), Nat.zero_add]
    exact h j (by omega)
termination_by s.size
decreasing_by rw [ByteArray.size_extract]; omega
theorem trL_emp {s : ByteArray} (h : trL l s = ⟨#[]⟩) : ∀ j, j < s.size → l.getD (byteAt s j).toNat false = true := by
  intro j hj
  have h0 : s.size ≠ 0 := by omega
  rw [trL_ne h0] at h
  cases hb : l.getD (byteAt s 0).toNat false
  · rw [hb, cond_false] at h
    rw [h] at hj
    cases hj
  · rw [hb, cond_true] at h
    by_cases hj0 : j = 0
    · rw [hj0]; exact hb
    · have := trL_emp h (j - 1) (by rw [ByteArray.size_extract]; omega)
      rw [byteAt_ext (by omega)] at this
      rw [show 1 + (j - 1) = j by omega] at this
      exact this
termination_by s.size
decreasing_by rw [ByteArray.size_extract]; omega
theorem trR_emp {s : ByteArray} (h : ∀ j, j < (trR l s).size → l.getD (byteAt (trR l s) j).toNat false = true) : ∀ j, j < s.size → l.getD (byteAt s j).toNat false = true := by
  intro j hj
  have h0 : s.size ≠ 0 := by omega
  rw [trR_ne h0] at h
  cases hb : l.getD (byteAt s (s.size - 1)).toNat false
  · rw [hb, cond_false] at h
    exact h j hj
  · rw [hb, cond_true] at h
    by_cases hj0 : j = s.size - 1
    · rw [hj0]; exact hb
    · have := trR_emp h j (by rw [ByteArray.size_extract]; omega)
      rw [byteAt_ext (by omega), Nat.zero_add] at this
      exact this
termination_by s.size
decreasing_by rw [ByteArray.size_extract]; omega
theorem tr_iff (s : ByteArray) : trL l (trR l s) = ⟨#[]⟩ ↔ ∀ j, j < s.size → l.getD (byteAt s j).toNat false = true :=
  ⟨fun h => trR_emp (trL_emp h), fun h => by rw [trR_all h, trL_nil]⟩
end
def lcs : ByteArray := ⟨#[97, 98, 99, 100, 101, 102, 103, 104, 105, 106, 107, 108, 109, 110, 111, 112, 113, 114, 115, 116, 117, 118, 119, 120, 121, 122, 48, 49, 50, 51, 52, 53, 54, 55, 56, 57]⟩
theorem lcs_get : ∀ k : Nat, k < 256 → (setN lcs 36).getD k false = ((Nat.ble 97 k && Nat.ble k 122) || (Nat.ble 48 k && Nat.ble k 57)) := by decide +kernel
theorem lcs_iff (s : ByteArray) : trL (setN lcs 36) (trR (setN lcs 36) s) = ⟨#[]⟩ ↔ ∀ j, j < s.size → isLc (byteAt s j) := by
  rw [tr_iff]
  refine forall_congr' fun j => imp_congr_right fun _ => ?_
  have h := byteAt_range s j
  rw [lcs_get _ (by omega)]
  simp only [Bool.or_eq_true, Bool.and_eq_true, Nat.ble_eq]
  unfold isLc
  omega
theorem bl_app (a b : ByteArray) : bl (a ++ b) = bl a ++ bl b := by
  unfold bl; rw [ByteArray.data_append, Array.toList_append]
theorem ends_dot (s e : ByteArray) : Ends s e ↔ s = e ∨ ((⟨#[46]⟩ : ByteArray).size + e.size ≤ s.size ∧ s.extract (s.size - ((⟨#[46]⟩ : ByteArray).size + e.size)) s.size = ⟨#[46]⟩ ++ e) := by
  unfold Ends
  refine or_congr_right ?_
  have h1 : (⟨#[46]⟩ : ByteArray).size = 1 := rfl
  rw [h1]
  by_cases hs : 1 + e.size ≤ s.size
  · obtain ⟨n, hn⟩ : ∃ n, s.size - (1 + e.size) = n := ⟨_, rfl⟩
    have e1 : s.size - e.size = n + 1 := by omega
    have e2 : s.size - e.size - 1 = n := by omega
    rw [hn, e1, Nat.add_sub_cancel]
    have q : ∀ k, bl (s.extract k s.size) = (bl s).drop k := fun k => by
      rw [bl_extract, List.take_of_length_le (by rw [List.length_drop, bl_len]; exact Nat.le_refl _)]
    have d := drop_byte (s := s) (i := n) (by omega)
    constructor
    · rintro ⟨_, h2, h3⟩
      refine ⟨hs, bl_inj ?_⟩
      rw [bl_app, q, d, ← h2, q]
      rw [byteAt_bl] at h3
      have : (bl s).getD n 0 = 46 := UInt8.toNat_inj.1 (by show ((bl s).getD n 0).toNat = 46; omega)
      rw [this]; rfl
    · rintro ⟨_, h2⟩
      have h3 := congrArg bl h2
      rw [bl_app, q, d] at h3
      have h4 : (bl s).getD n 0 :: (bl s).drop (n + 1) = 46 :: bl e := h3
      injection h4 with h5 h6
      refine ⟨by omega, bl_inj (by rw [q]; exact h6), ?_⟩
      rw [byteAt_bl, h5]; rfl
  · constructor
    · rintro ⟨h, _⟩; omega
    · rintro ⟨h, _⟩; omega
theorem dotc : UInt8.ofNat (byteAt ⟨#[46]⟩ 0).toNat = 46 := rfl
theorem lcs_low : ∀ j, j < 36 → byteAt lcs j < 128 := by decide +kernel
def c140 : Ct := ctR (lc AStr (lc AStr l0)) (fun p => p.2.1.size = 1 ∧ p.1.size ≤ 2000000) (fun p => .o true 1 ((spl p.1 (UInt8.ofNat (byteAt p.2.1 0).toNat)).map encStr))
section
attribute [local go_sem] c170
theorem good140 {G : Gt} (hG : OkG G) (hh : G.e 170 = roEnt 0 c170) : Gd G 140 (roEnt 0 c140) := by
  refine gR (dp := fun _ => true) (fn := Tryz.f140) (n := 2) (fun _ => rfl) (by kernel_rfl) rfl (by kernel_rfl) hG (Nat.le_of_ble_eq_true rfl) (by kernel_rfl) (by decide) (fun _ _ => .deep _ _) ?_
  rintro ⟨s, sep, ⟨⟩⟩ hpre
  simp -implicitDefEqProofs only [Tryz.f140, go_sem, hh] at hpre ⊢
  repeat' (first | with_reducible apply And.intro | with_reducible intro _ | ((first | apply brB_split | apply aPickB_split | apply gB_split | apply adB_split) <;> intro hb <;> simp -implicitDefEqProofs only [hb, go_sem, hh] <;> try simp only [qz] at hb))
  all_goals first | rfl | omega | (simp; done) | skip
end
def c56 : Ct := ctR (lc AInt (lc AInt (lc AInt l0))) (fun p => True) (fun p => .t (.v (.bool (bOf (p.2.1 ≤ p.1 ∧ p.1 ≤ p.2.2.1)))))
theorem good56 {G : Gt} (hG : OkG G) : Gd G 56 (roEnt 0 c56) := by
  refine gR (dp := fun _ => true) (fn := Tryz.f56) (n := 3) (fun _ => rfl) (by kernel_rfl) rfl (by kernel_rfl) hG (Nat.le_of_ble_eq_true rfl) (by kernel_rfl) (by decide) (fun _ _ => .v _) ?_
  rintro ⟨n, a, b, ⟨⟩⟩ hpre
  simp -implicitDefEqProofs only [Tryz.f56, go_sem] at hpre ⊢
  repeat' (first | with_reducible apply And.intro | with_reducible intro _ | ((first | apply brB_split | apply aPickB_split | apply gB_split | apply adB_split) <;> intro hb <;> simp -implicitDefEqProofs only [hb, go_sem] <;> try simp only [qz] at hb))
  all_goals first | rfl | omega | skip
  all_goals first
    | (rw [bOf_d]; simp only [*]; done)
    | (rw [bOf_d]; simp [*])
def c134 : Ct := ctR (lc AStr l0) (fun p => p.1.size ≤ 2000000) (fun p => .t (.v (.bool (bOf (Lin p.1)))))
theorem good134 {G : Gt} (hG : OkG G) : Gd G 134 (roEnt 0 c134) := by
  refine gR (dp := fun _ => true) (fn := Tryz.f134) (n := 1) (fun _ => rfl) (by kernel_rfl) rfl (by kernel_rfl) hG (Nat.le_of_ble_eq_true rfl) (by kernel_rfl) (by decide) (fun _ _ => .v _) ?_
  rintro ⟨s, ⟨⟩⟩ hpre
  simp -implicitDefEqProofs only [Tryz.f134, go_sem] at hpre ⊢
  repeat' (first | with_reducible apply And.intro | with_reducible intro _ | ((first | apply brB_split | apply aPickB_split | apply gB_split | apply adB_split) <;> intro hb <;> simp -implicitDefEqProofs only [hb, go_sem] <;> try simp only [qz] at hb))
  all_goals first | rfl | omega | skip
  refine run_loop [] (ι := {i : Nat // i ≤ s.size ∧ ∀ j, j < i → 32 ≤ byteAt s j ∧ byteAt s j ≤ 126}) (fun p => ⟨[(0, .t (.v (.string s))), (5, .t (.v (.int .i64 s.size))), (6, .t (.v (.int .i64 p.1)))], []⟩) (fun p => s.size - p.1) ⟨0, Nat.zero_le _, fun j hj => absurd hj (Nat.not_lt_zero _)⟩ rfl ?_ ?_
  · simp -implicitDefEqProofs only [go_sem]
    try simp
  · rintro ⟨i, hi, hall⟩
    by_cases hlt : (i : Int) < s.size
    · by_cases h1 : byteAt s (i : Int).toNat < 32
      · simp -implicitDefEqProofs only [hlt, h1, go_sem]
        repeat' (first | with_reducible apply And.intro | with_reducible intro _ | ((first | apply brB_split | apply aPickB_split | apply gB_split | apply adB_split) <;> intro hb <;> simp -implicitDefEqProofs only [hb, go_sem] <;> try simp only [qz] at hb))
        all_goals (try simp only [maxLen, Int.toNat_natCast] at *)
        all_goals first | rfl | omega | skip
        rw [bOf_n (fun h => by have := (h.1 i (by omega)).1; omega)]
      · by_cases h2 : byteAt s (i : Int).toNat > 126
        · simp -implicitDefEqProofs only [hlt, h1, h2, go_sem]
          repeat' (first | with_reducible apply And.intro | with_reducible intro _ | ((first | apply brB_split | apply aPickB_split | apply gB_split | apply adB_split) <;> intro hb <;> simp -implicitDefEqProofs only [hb, go_sem] <;> try simp only [qz] at hb))
          all_goals (try simp only [maxLen, Int.toNat_natCast] at *)
          all_goals first | rfl | omega | skip
          rw [bOf_n (fun h => by have := (h.1 i (by omega)).2; omega)]
        · simp -implicitDefEqProofs only [hlt, h1, h2, go_sem]
          repeat' (first | with_reducible apply And.intro | with_reducible intro _ | ((first | apply brB_split | apply aPickB_split | apply gB_split | apply adB_split) <;> intro hb <;> simp -implicitDefEqProofs only [hb, go_sem] <;> try simp only [qz] at hb))
          all_goals (try simp only [maxLen, Int.toNat_natCast] at *)
          all_goals first | rfl | omega | skip
          refine ⟨⟨i + 1, by omega, fun j hj => ?_⟩, by dsimp only; omega, ?_⟩
          · by_cases e : j = i
            · subst e; omega
            · exact hall j (by omega)
          · simp -implicitDefEqProofs only [go_sem]
            try simp
    · simp -implicitDefEqProofs only [hlt, go_sem]
      repeat' (first | with_reducible apply And.intro | with_reducible intro _ | ((first | apply brB_split | apply aPickB_split | apply gB_split | apply adB_split) <;> intro hb <;> simp -implicitDefEqProofs only [hb, go_sem] <;> try simp only [qz] at hb))
      all_goals (try simp only [maxLen, Int.toNat_natCast] at *)
      all_goals first | rfl | omega | skip
      rw [← bOf_d, bOf_congr]
      exact ⟨fun h => ⟨fun j hj => hall j (by omega), by omega⟩, fun h => by have := h.2; omega⟩
def c101 : Ct := ctR (lc AStr l0) (fun p => True) (fun p => .t (.v (.bool (bOf (Lbl p.1)))))
section
attribute [local go_sem] c56 c139 bOf_t bOf_f
theorem good101 {G : Gt} (hG : OkG G) (hh : G.e 56 = roEnt 0 c56 ∧ G.e 139 = roEnt 0 c139) : Gd G 101 (roEnt 0 c101) := by
  refine gR (dp := fun _ => true) (fn := Tryz.f101) (n := 1) (fun _ => rfl) (by kernel_rfl) rfl (by kernel_rfl) hG (Nat.le_of_ble_eq_true rfl) (by kernel_rfl) (by decide) (fun _ _ => .v _) ?_
  rintro ⟨s, ⟨⟩⟩ hpre
  simp -implicitDefEqProofs only [Tryz.f101, go_sem, hh] at hpre ⊢
  repeat' (first | with_reducible apply And.intro | with_reducible intro _ | ((first | apply brB_split | apply aPickB_split | apply gB_split | apply adB_split) <;> intro hb <;> simp -implicitDefEqProofs only [hb, go_sem, hh] <;> try simp only [qz] at hb))
  all_goals first | rfl | omega | exact lcs_low _ (by assumption) | (simp; done) | skip
  · show T.v (.bool (decide (trL (setN lcs 36) (trR (setN lcs 36) s) = ⟨#[]⟩))) = _
    rw [← bOf_d]
    refine congrArg (fun b => T.v (.bool b)) (bOf_congr ((lcs_iff s).trans ?_))
    exact ⟨fun h => ⟨h, by omega, by omega⟩, fun h => h.1⟩
  · rw [bOf_n (fun h => hb ⟨by have := h.2.1; omega, by have := h.2.2; omega⟩)]
end
def c102 : Ct := ctR (lc AStr l0) (fun p => p.1.size ≤ 2000000) (fun p => .t (.v (.bool (bOf (Dom p.1)))))
section
attribute [local go_sem] c140 c101 dotc aSet_map aCell_map List.length_map Bool.not_true Bool.not_false
theorem good102 {G : Gt} (hG : OkG G) (hh : G.e 140 = roEnt 0 c140 ∧ G.e 101 = roEnt 0 c101) : Gd G 102 (roEnt 0 c102) := by
  refine gR (dp := fun _ => true) (fn := Tryz.f102) (n := 1) (fun _ => rfl) (by kernel_rfl) rfl (by kernel_rfl) hG (Nat.le_of_ble_eq_true rfl) (by kernel_rfl) (by decide) (fun _ _ => .v _) ?_
  rintro ⟨s, ⟨⟩⟩ hpre
  simp -implicitDefEqProofs only [Tryz.f102, go_sem, hh] at hpre ⊢
  repeat' (first | with_reducible apply And.intro | with_reducible intro _ | ((first | apply brB_split | apply aPickB_split | apply gB_split | apply adB_split) <;> intro hb <;> simp -implicitDefEqProofs only [hb, go_sem, hh] <;> try simp only [qz] at hb))
  all_goals first | rfl | omega | skip
  have hlen := spl_len s 46
  have hcnt := cnt_le s 46
  refine run_loop [] (ι := {i : Nat // i ≤ (spl s 46).length ∧ ∀ j, j < i → Lbl ((spl s 46).getD j default)}) (fun p => ⟨[(3, .h 1007), (8, .h 1007), (9, .t (.v (.int .i64 (spl s 46).length))), (10, .t (.v (.int .i64 p.1)))], [(1007, some (.arr true 1 ((spl s 46).map encStr)))]⟩) (fun p => (spl s 46).length - p.1) ⟨0, Nat.zero_le _, fun j hj => absurd hj (Nat.not_lt_zero _)⟩ rfl ?_ ?_
  · simp -implicitDefEqProofs only [go_sem, hh]
    try simp
  · rintro ⟨i, hi, hall⟩
    by_cases hlt : (i : Int) < (spl s 46).length
    · cases hb : bOf (Lbl ((spl s 46).getD (i : Int).toNat default))
      · simp -implicitDefEqProofs only [hlt, hb, go_sem, hh]
        repeat' (first | with_reducible apply And.intro | with_reducible intro _ | ((first | apply brB_split | apply aPickB_split | apply gB_split | apply adB_split) <;> intro hb <;> simp -implicitDefEqProofs only [hb, go_sem, hh] <;> try simp only [qz] at hb))
        all_goals (try simp only [maxLen, Int.toNat_natCast, bOf_f] at *)
        all_goals first | rfl | omega | skip
        rw [bOf_n (fun h => hb (((Dom_spl s).1 h).1 _ (getD_mem (by omega))))]
      · simp -implicitDefEqProofs only [hlt, hb, go_sem, hh]
        repeat' (first | with_reducible apply And.intro | with_reducible intro _ | ((first | apply brB_split | apply aPickB_split | apply gB_split | apply adB_split) <;> intro hb <;> simp -implicitDefEqProofs only [hb, go_sem, hh] <;> try simp only [qz] at hb))
        all_goals (try simp only [maxLen, Int.toNat_natCast, bOf_t] at *)
        all_goals first | rfl | omega | skip
        refine ⟨⟨i + 1, by omega, all_step hall hb⟩, by dsimp only; omega, ?_⟩
        simp -implicitDefEqProofs only [go_sem, hh]
        simp
    · simp -implicitDefEqProofs only [hlt, go_sem, hh]
      repeat' (first | with_reducible apply And.intro | with_reducible intro _ | ((first | apply brB_split | apply aPickB_split | apply gB_split | apply adB_split) <;> intro hb <;> simp -implicitDefEqProofs only [hb, go_sem, hh] <;> try simp only [qz] at hb))
      all_goals first | rfl | omega | skip
      rw [← bOf_d, bOf_congr (Dom_spl s)]
      refine congrArg (fun b => T.v (.bool b)) (bOf_congr ?_)
      exact ⟨fun h => ⟨mem_getD fun j hj => hall j (by omega), by omega⟩, fun h => by have := h.2; omega⟩
end
def c55 : Ct := ctR (lc EAd.ag l0) (fun p => p.1.domain.size ≤ 2000000) (fun p => .t (.v (.bool (bOf (AdOk p.1)))))
section
attribute [local go_sem] c101 c102
theorem good55 {G : Gt} (hG : OkG G) (hh : G.e 101 = roEnt 0 c101 ∧ G.e 102 = roEnt 0 c102) : Gd G 55 (roEnt 0 c55) := by
  refine gR (dp := fun _ => true) (fn := Tryz.f55) (n := 1) (fun _ => rfl) (by kernel_rfl) rfl (by kernel_rfl) hG (Nat.le_of_ble_eq_true rfl) (by kernel_rfl) (by decide) (fun _ _ => .v _) ?_
  rintro ⟨a, ⟨⟩⟩ hpre
  simp -implicitDefEqProofs only [Tryz.f55, go_sem, hh] at hpre ⊢
  repeat' (first | with_reducible apply And.intro | with_reducible intro _ | ((first | apply brB_split | apply aPickB_split | apply gB_split | apply adB_split) <;> intro hb <;> simp -implicitDefEqProofs only [hb, go_sem, hh] <;> try simp only [qz] at hb))
  all_goals (try simp only [bOf_t, bOf_f] at *)
  all_goals first | rfl | omega | skip
  · refine congrArg (fun b => T.v (.bool b)) (bOf_congr ⟨fun h => ⟨by assumption, h⟩, fun h => h.2⟩)
  · rw [bOf_n (fun h => absurd h.1 (by assumption))]
end
def c79 : Ct := ctR (lc EAd.ag l0) (fun p => True) (fun p => .t (.v (.bool (bOf (AdNull p.1)))))
theorem good79 {G : Gt} (hG : OkG G) : Gd G 79 (roEnt 0 c79) := by
  refine gR (dp := fun _ => true) (fn := Tryz.f79) (n := 1) (fun _ => rfl) (by kernel_rfl) rfl (by kernel_rfl) hG (Nat.le_of_ble_eq_true rfl) (by kernel_rfl) (by decide) (fun _ _ => .v _) ?_
  rintro ⟨a, ⟨⟩⟩ hpre
  simp -implicitDefEqProofs only [Tryz.f79, go_sem] at hpre ⊢
  repeat' (first | with_reducible apply And.intro | with_reducible intro _ | ((first | apply brB_split | apply aPickB_split | apply gB_split | apply adB_split) <;> intro hb <;> simp -implicitDefEqProofs only [hb, go_sem] <;> try simp only [qz] at hb))
  all_goals first | rfl | omega | skip
  · unfold AdNull
    rw [bOf_d]
    by_cases h1 : a.user = ⟨#[]⟩ <;> by_cases h2 : a.domain = ⟨#[]⟩ <;> simp [h1, h2]
def c96 : Ct := ctR (lc EAd.ag l0) (fun p => p.1.domain.size ≤ 2000000) (fun p => .t (.v (.bool (bOf (AdOk p.1 ∨ AdNull p.1)))))
section
attribute [local go_sem] c55 c79
theorem good96 {G : Gt} (hG : OkG G) (hh : G.e 55 = roEnt 0 c55 ∧ G.e 79 = roEnt 0 c79) : Gd G 96 (roEnt 0 c96) := by
  refine gR (dp := fun _ => true) (fn := Tryz.f96) (n := 1) (fun _ => rfl) (by kernel_rfl) rfl (by kernel_rfl) hG (Nat.le_of_ble_eq_true rfl) (by kernel_rfl) (by decide) (fun _ _ => .v _) ?_
  rintro ⟨a, ⟨⟩⟩ hpre
  simp -implicitDefEqProofs only [Tryz.f96, go_sem, hh] at hpre ⊢
  repeat' (first | with_reducible apply And.intro | with_reducible intro _ | ((first | apply brB_split | apply aPickB_split | apply gB_split | apply adB_split) <;> intro hb <;> simp -implicitDefEqProofs only [hb, go_sem, hh] <;> try simp only [qz] at hb))
  all_goals (try simp only [bOf_t, bOf_f] at *)
  all_goals first | rfl | omega | skip
  · rw [bOf_y (.inr (by assumption))]
  · refine congrArg (fun b => T.v (.bool b)) (bOf_congr ⟨fun h => .inl h, fun h => h.resolve_right (by assumption)⟩)
end
theorem vT {p : Prop} (h : p) : T.v (Value.bool true) = T.v (Value.bool (bOf p)) := by rw [bOf_y h]
theorem vN {p q : Prop} (h : ¬ p ↔ q) : T.v (Value.bool (!bOf p)) = T.v (Value.bool (bOf q)) := by rw [bOf_not, bOf_congr h]
theorem vF {p : Prop} (h : ¬ p) : T.v (Value.bool false) = T.v (Value.bool (bOf p)) := by rw [bOf_n h]
theorem vD {p q : Prop} [Decidable p] (h : p ↔ q) : T.v (Value.bool (decide p)) = T.v (Value.bool (bOf q)) := by rw [← bOf_d, bOf_congr h]
def Pre (s p : ByteArray) : Prop := p.size ≤ s.size ∧ s.extract 0 p.size = p
def Suf (s p : ByteArray) : Prop := p.size ≤ s.size ∧ s.extract (s.size - p.size) s.size = p
open Classical in
noncomputable def preX (s p : ByteArray) : ByteArray := if Pre s p then s.extract p.size s.size else s
open Classical in
noncomputable def sufX (s p : ByteArray) : ByteArray := if Suf s p then s.extract 0 (s.size - p.size) else s
theorem preX_y {s p : ByteArray} (h : Pre s p) : preX s p = s.extract p.size s.size := if_pos h
theorem preX_n {s p : ByteArray} (h : ¬ Pre s p) : preX s p = s := if_neg h
theorem sufX_y {s p : ByteArray} (h : Suf s p) : sufX s p = s.extract 0 (s.size - p.size) := if_pos h
theorem sufX_n {s p : ByteArray} (h : ¬ Suf s p) : sufX s p = s := if_neg h
theorem preX_le (s p : ByteArray) : (preX s p).size ≤ s.size := by
  unfold preX; split
  · rw [ByteArray.size_extract]; omega
  · exact Nat.le_refl _
theorem sufX_le (s p : ByteArray) : (sufX s p).size ≤ s.size := by
  unfold sufX; split
  · rw [ByteArray.size_extract]; omega
  · exact Nat.le_refl _
def c116 : Ct := ctR (lc AStr (lc AStr l0)) (fun p => p.1.size ≤ 2000000 ∧ p.2.1.size ≤ 2000000) (fun p => .t (.v (.bool (bOf (Pre p.1 p.2.1)))))
theorem good116 {G : Gt} (hG : OkG G) : Gd G 116 (roEnt 0 c116) := by
  refine gR (dp := fun _ => true) (fn := Tryz.f116) (n := 2) (fun _ => rfl) (by kernel_rfl) rfl (by kernel_rfl) hG (Nat.le_of_ble_eq_true rfl) (by kernel_rfl) (by decide) (fun _ _ => .v _) ?_
  rintro ⟨s, q, ⟨⟩⟩ hpre
  simp -implicitDefEqProofs only [Tryz.f116, go_sem] at hpre ⊢
  obtain ⟨z1, z2⟩ := hpre
  repeat' (first | with_reducible apply And.intro | with_reducible intro _ | ((first | apply brB_split | apply aPickB_split | apply gB_split | apply adB_split) <;> intro hb <;> simp -implicitDefEqProofs only [hb, go_sem] <;> try simp only [qz] at hb))
  all_goals (try simp only [maxLen, Int.toNat_natCast] at *)
  all_goals first
    | rfl
    | omega
    | exact vD ⟨fun h => ⟨by omega, h⟩, fun h => h.2⟩
    | exact vF (fun h => by have := h.1; omega)
    | trace_state
def c78 : Ct := ctR (lc AStr (lc AStr l0)) (fun p => p.1.size ≤ 2000000 ∧ p.2.1.size ≤ 2000000) (fun p => .t (.v (.bool (bOf (Pre p.1 p.2.1)))))
section
attribute [local go_sem] c116
theorem good78 {G : Gt} (hG : OkG G) (hh : G.e 116 = roEnt 0 c116) : Gd G 78 (roEnt 0 c78) := by
  refine gR (dp := fun _ => true) (fn := Tryz.f78) (n := 2) (fun _ => rfl) (by kernel_rfl) rfl (by kernel_rfl) hG (Nat.le_of_ble_eq_true rfl) (by kernel_rfl) (by decide) (fun _ _ => .v _) ?_
  rintro ⟨s, q, ⟨⟩⟩ hpre
  simp -implicitDefEqProofs only [Tryz.f78, go_sem, hh] at hpre ⊢
  obtain ⟨z1, z2⟩ := hpre
  repeat' (first | with_reducible apply And.intro | with_reducible intro _ | ((first | apply brB_split | apply aPickB_split | apply gB_split | apply adB_split) <;> intro hb <;> simp -implicitDefEqProofs only [hb, go_sem, hh] <;> try simp only [qz] at hb))
  all_goals (try simp only [maxLen, Int.toNat_natCast] at *)
  all_goals first
    | rfl
    | omega
    | exact vD ⟨fun h => ⟨by omega, h⟩, fun h => h.2⟩
    | exact vF (fun h => by have := h.1; omega)
    | trace_state
end
theorem sol2 (a b : Value) : Solid (.tup [.t (.v a), .t (.v b)]) := .tup _ fun c hc => by
  simp only [List.mem_cons, List.not_mem_nil, or_false] at hc
  rcases hc with rfl | rfl <;> exact .v _
theorem sol3 (a b c : Value) : Solid (.tup [.t (.v a), .t (.v b), .t (.v c)]) := .tup _ fun c hc => by
  simp only [List.mem_cons, List.not_mem_nil, or_false] at hc
  rcases hc with rfl | rfl | rfl <;> exact .v _
noncomputable def cpB (s p : ByteArray) : AV := .tup [.t (.v (.string (preX s p))), .t (.v (.bool (bOf (Pre s p))))]
theorem cpB_eq (s p : ByteArray) : cpB s p = .tup [.t (.v (.string (preX s p))), .t (.v (.bool (bOf (Pre s p))))] := rfl
open Lib in
open Classical in
noncomputable def ctU (s p : ByteArray) : ByteArray := if 0 ≤ indexB s p then s.extract 0 (indexB s p).toNat else s
open Lib in
open Classical in
noncomputable def ctD (s p : ByteArray) : ByteArray := if 0 ≤ indexB s p then s.extract ((indexB s p).toNat + p.size) s.size else ⟨#[]⟩
noncomputable def ctB (s p : ByteArray) : AV := .tup [.t (.v (.string (ctU s p))), .t (.v (.string (ctD s p))), .t (.v (.bool (bOf (0 ≤ Lib.indexB s p))))]
theorem ctU_le (s p : ByteArray) : (ctU s p).size ≤ s.size := by
  unfold ctU; split
  · rw [ByteArray.size_extract]; omega
  · exact Nat.le_refl _
theorem ctD_le (s p : ByteArray) : (ctD s p).size ≤ s.size := by
  unfold ctD; split
  · rw [ByteArray.size_extract]; omega
  · exact Nat.zero_le _
theorem ctB_eq (s p : ByteArray) : ctB s p = .tup [.t (.v (.string (ctU s p))), .t (.v (.string (ctD s p))), .t (.v (.bool (bOf (0 ≤ Lib.indexB s p))))] := rfl
theorem ctU_y {s p : ByteArray} (h : Lib.indexB s p ≥ 0) : s.extract 0 (Lib.indexB s p).toNat = ctU s p := (if_pos h).symm
theorem ctU_n {s p : ByteArray} (h : ¬ Lib.indexB s p ≥ 0) : s = ctU s p := (if_neg h).symm
theorem ctD_y {s p : ByteArray} (h : Lib.indexB s p ≥ 0) : s.extract (Lib.indexB s p + (p.size : Nat)).toNat s.size = ctD s p := by
  unfold ctD
  rw [if_pos h]
  congr 1
  omega
theorem ctD_n {s p : ByteArray} (h : ¬ Lib.indexB s p ≥ 0) : (⟨#[]⟩ : ByteArray) = ctD s p := (if_neg h).symm
theorem ctB_solid (s p : ByteArray) : Solid (ctB s p) := sol3 _ _ _
theorem ix_room (s p : ByteArray) (h : 0 ≤ Lib.indexB s p) : (Lib.indexB s p).toNat + p.size ≤ s.size := by
  have hr := Lib.index_room (bl s) (bl p) (show 0 ≤ Lib.index (bl s) (bl p) from h)
  have e : Lib.index (bl s) (bl p) = Lib.indexB s p := rfl
  rw [e, bl_len, bl_len] at hr
  omega
def c173 : Ct := ctR (lc AStr (lc AStr l0)) (fun p => p.1.size ≤ 2000000 ∧ p.2.1.size ≤ 2000000) (fun p => cpB p.1 p.2.1)
section
attribute [local go_sem] c116 cpB_eq bOf_t bOf_f
theorem good173 {G : Gt} (hG : OkG G) (hh : G.e 116 = roEnt 0 c116) : Gd G 173 (roEnt 0 c173) := by
  refine gR (dp := fun _ => true) (fn := Tryz.f173) (n := 2) (fun _ => rfl) (by kernel_rfl) rfl (by kernel_rfl) hG (Nat.le_of_ble_eq_true rfl) (by kernel_rfl) (by decide) (fun _ _ => sol2 _ _) ?_
  rintro ⟨s, q, ⟨⟩⟩ hpre
  simp -implicitDefEqProofs only [Tryz.f173, go_sem, hh] at hpre ⊢
  obtain ⟨z1, z2⟩ := hpre
  repeat' (first | with_reducible apply And.intro | with_reducible intro _ | ((first | apply brB_split | apply aPickB_split | apply gB_split | apply adB_split) <;> intro hb <;> simp -implicitDefEqProofs only [hb, go_sem, hh] <;> try simp only [qz] at hb))
  all_goals (try simp only [maxLen, Int.toNat_natCast] at *)
  all_goals first
    | rfl
    | omega
    | assumption
    | exact hb.1
    | (have := hb.1; omega)
    | exact vT hb
    | exact vF hb
    | (rw [preX_y (by assumption)]; done)
    | (rw [preX_n (by assumption)]; done)
    | (rw [preX_y (by assumption), bOf_y (by assumption)]; done)
    | (rw [preX_n (by assumption), bOf_n (by assumption)]; done)
    | trace_state
end
def c148 : Ct := ctR (lc AStr (lc AStr l0)) (fun p => p.1.size ≤ 2000000 ∧ p.2.1.size ≤ 2000000) (fun p => cpB p.1 p.2.1)
section
attribute [local go_sem] c173 cpB_eq bOf_t bOf_f
theorem good148 {G : Gt} (hG : OkG G) (hh : G.e 173 = roEnt 0 c173) : Gd G 148 (roEnt 0 c148) := by
  refine gR (dp := fun _ => true) (fn := Tryz.f148) (n := 2) (fun _ => rfl) (by kernel_rfl) rfl (by kernel_rfl) hG (Nat.le_of_ble_eq_true rfl) (by kernel_rfl) (by decide) (fun _ _ => sol2 _ _) ?_
  rintro ⟨s, q, ⟨⟩⟩ hpre
  simp -implicitDefEqProofs only [Tryz.f148, go_sem, hh] at hpre ⊢
  obtain ⟨z1, z2⟩ := hpre
  repeat' (first | with_reducible apply And.intro | with_reducible intro _ | ((first | apply brB_split | apply aPickB_split | apply gB_split | apply adB_split) <;> intro hb <;> simp -implicitDefEqProofs only [hb, go_sem, hh] <;> try simp only [qz] at hb))
  all_goals (try simp only [maxLen, Int.toNat_natCast] at *)
  all_goals first
    | rfl
    | omega
    | assumption
    | exact hb.1
    | (have := hb.1; omega)
    | exact vT hb
    | exact vF hb
    | (rw [preX_y (by assumption)]; done)
    | (rw [preX_n (by assumption)]; done)
    | (rw [preX_y (by assumption), bOf_y (by assumption)]; done)
    | (rw [preX_n (by assumption), bOf_n (by assumption)]; done)
    | trace_state
end
def c175 : Ct := ctR (lc AStr (lc AStr l0)) (fun p => p.1.size ≤ 2000000 ∧ p.2.1.size ≤ 2000000) (fun p => .t (.v (.string (sufX p.1 p.2.1))))
section
attribute [local go_sem] c190 bOf_t bOf_f
theorem good175 {G : Gt} (hG : OkG G) (hh : G.e 190 = roEnt 0 c190) : Gd G 175 (roEnt 0 c175) := by
  refine gR (dp := fun _ => true) (fn := Tryz.f175) (n := 2) (fun _ => rfl) (by kernel_rfl) rfl (by kernel_rfl) hG (Nat.le_of_ble_eq_true rfl) (by kernel_rfl) (by decide) (fun _ _ => .v _) ?_
  rintro ⟨s, q, ⟨⟩⟩ hpre
  simp -implicitDefEqProofs only [Tryz.f175, go_sem, hh] at hpre ⊢
  obtain ⟨z1, z2⟩ := hpre
  repeat' (first | with_reducible apply And.intro | with_reducible intro _ | ((first | apply brB_split | apply aPickB_split | apply gB_split | apply adB_split) <;> intro hb <;> simp -implicitDefEqProofs only [hb, go_sem, hh] <;> try simp only [qz] at hb))
  all_goals (try simp only [maxLen, Int.toNat_natCast] at *)
  all_goals first
    | rfl
    | omega
    | assumption
    | (have := hb.1; omega)
    | (rw [sufX_y hb]; done)
    | (rw [sufX_y hb]; congr 3; have := hb.1; omega)
    | (rw [sufX_n hb]; done)
    | trace_state
end
def c150 : Ct := ctR (lc AStr (lc AStr l0)) (fun p => p.1.size ≤ 2000000 ∧ p.2.1.size ≤ 2000000) (fun p => .t (.v (.string (sufX p.1 p.2.1))))
section
attribute [local go_sem] c175 bOf_t bOf_f
theorem good150 {G : Gt} (hG : OkG G) (hh : G.e 175 = roEnt 0 c175) : Gd G 150 (roEnt 0 c150) := by
  refine gR (dp := fun _ => true) (fn := Tryz.f150) (n := 2) (fun _ => rfl) (by kernel_rfl) rfl (by kernel_rfl) hG (Nat.le_of_ble_eq_true rfl) (by kernel_rfl) (by decide) (fun _ _ => .v _) ?_
  rintro ⟨s, q, ⟨⟩⟩ hpre
  simp -implicitDefEqProofs only [Tryz.f150, go_sem, hh] at hpre ⊢
  obtain ⟨z1, z2⟩ := hpre
  repeat' (first | with_reducible apply And.intro | with_reducible intro _ | ((first | apply brB_split | apply aPickB_split | apply gB_split | apply adB_split) <;> intro hb <;> simp -implicitDefEqProofs only [hb, go_sem, hh] <;> try simp only [qz] at hb))
  all_goals (try simp only [maxLen, Int.toNat_natCast] at *)
  all_goals first
    | rfl
    | omega
    | assumption
    | (have := hb.1; omega)
    | (rw [sufX_y hb]; done)
    | (rw [sufX_y hb]; congr 3; have := hb.1; omega)
    | (rw [sufX_n hb]; done)
    | trace_state
end
def c174 : Ct := ctR (lc AStr (lc AStr l0)) (fun p => p.1.size ≤ 2000000 ∧ p.2.1.size ≤ 2000000) (fun p => ctB p.1 p.2.1)
section
attribute [local go_sem] c189 ctB_eq
theorem good174 {G : Gt} (hG : OkG G) (hh : G.e 189 = roEnt 0 c189) : Gd G 174 (roEnt 0 c174) := by
  refine gR (dp := fun _ => true) (fn := Tryz.f174) (n := 2) (fun _ => rfl) (by kernel_rfl) rfl (by kernel_rfl) hG (Nat.le_of_ble_eq_true rfl) (by kernel_rfl) (by decide) (fun _ _ => ctB_solid _ _) ?_
  rintro ⟨s, q, ⟨⟩⟩ hpre
  simp -implicitDefEqProofs only [Tryz.f174, go_sem, hh] at hpre ⊢
  obtain ⟨z1, z2⟩ := hpre
  repeat' (first | with_reducible apply And.intro | with_reducible intro _ | ((first | apply brB_split | apply aPickB_split | apply gB_split | apply adB_split) <;> intro hb <;> simp -implicitDefEqProofs only [hb, go_sem, hh] <;> try simp only [qz] at hb))
  all_goals (try simp only [maxLen, Int.toNat_natCast] at *)
  all_goals (try have hr := ix_room s q (by assumption))
  all_goals first
    | with_reducible rfl
    | omega
    | decide
    | (show pairsB _ = true; rfl)
    | assumption
    | (rw [ctU_y hb]; done)
    | (rw [← ctU_n hb]; done)
    | (rw [ctD_y hb]; done)
    | (rw [← ctD_n hb]; done)
    | exact vT hb
    | exact vF hb
    | trace_state
end
def c149 : Ct := ctR (lc AStr (lc AStr l0)) (fun p => p.1.size ≤ 2000000 ∧ p.2.1.size ≤ 2000000) (fun p => ctB p.1 p.2.1)
section
attribute [local go_sem] c174 ctB_eq
theorem good149 {G : Gt} (hG : OkG G) (hh : G.e 174 = roEnt 0 c174) : Gd G 149 (roEnt 0 c149) := by
  refine gR (dp := fun _ => true) (fn := Tryz.f149) (n := 2) (fun _ => rfl) (by kernel_rfl) rfl (by kernel_rfl) hG (Nat.le_of_ble_eq_true rfl) (by kernel_rfl) (by decide) (fun _ _ => ctB_solid _ _) ?_
  rintro ⟨s, q, ⟨⟩⟩ hpre
  simp -implicitDefEqProofs only [Tryz.f149, go_sem, hh] at hpre ⊢
  obtain ⟨z1, z2⟩ := hpre
  repeat' (first | with_reducible apply And.intro | with_reducible intro _ | ((first | apply brB_split | apply aPickB_split | apply gB_split | apply adB_split) <;> intro hb <;> simp -implicitDefEqProofs only [hb, go_sem, hh] <;> try simp only [qz] at hb))
  all_goals (try simp only [maxLen, Int.toNat_natCast] at *)
  all_goals (try have hr := ix_room s q (by assumption))
  all_goals first
    | with_reducible rfl
    | omega
    | decide
    | (show pairsB _ = true; rfl)
    | assumption
    | (rw [ctU_y hb]; done)
    | (rw [← ctU_n hb]; done)
    | (rw [ctD_y hb]; done)
    | (rw [← ctD_n hb]; done)
    | exact vT hb
    | exact vF hb
    | trace_state
end
def hopP : ByteArray := ⟨#[72, 111, 112, 58, 32]⟩
def HopL (s : ByteArray) : Prop := Pre s hopP ∧ Dom (s.extract 5 s.size)
theorem HopL_iff {s : ByteArray} : (Pre s ⟨#[72, 111, 112, 58, 32]⟩ ∧ Dom (preX s ⟨#[72, 111, 112, 58, 32]⟩)) ↔ HopL s := by
  unfold HopL
  constructor
  · rintro ⟨h1, h2⟩
    rw [preX_y h1] at h2
    exact ⟨h1, h2⟩
  · rintro ⟨h1, h2⟩
    have e : preX s ⟨#[72, 111, 112, 58, 32]⟩ = s.extract 5 s.size := preX_y h1
    exact ⟨h1, by rw [e]; exact h2⟩
namespace Enc
variable {α : Type} (E : Enc α)
def apD : AV → Option α
  | .t (.rop c) => E.dec c
  | _ => none
def ap : AD α where
  enc a := .t (.rop (E.enc a))
  dec := E.apD
  ed := fun a => E.ed a
  de := fun x a h => by
    unfold apD at h
    split at h
    · rw [E.de _ _ h]
    · cases h
end Enc
theorem ap_enc {α : Type} {E : Enc α} {a : α} : E.ap.enc a = .t (.rop (E.enc a)) := rfl
theorem ap_dec {α : Type} {E : Enc α} {c : List T} : E.ap.dec (.t (.rop c)) = E.dec c := rfl
theorem AFn0_dec {f : FuncId} : (AFn0 f).dec (.t (.fn f [])) = some () := if_pos rfl
theorem AFn0_enc {f : FuncId} {u : Unit} : (AFn0 f).enc u = .t (.fn f []) := rfl
noncomputable def ixP {α : Type} (p : α → Prop) : Nat → List α → Int
  | _, [] => -1
  | k, x :: t => bif bOf (p x) then k else ixP p (k + 1) t
theorem ixP_yes {α : Type} [Inhabited α] {p : α → Prop} {xs : List α} {i : Nat} (h : i < xs.length) (ha : p (xs.getD i default)) : ixP p i (xs.drop i) = i := by
  rw [getD_drop h, ixP, bOf_y ha]; rfl
theorem ixP_no {α : Type} [Inhabited α] {p : α → Prop} {xs : List α} {i : Nat} (h : i < xs.length) (ha : ¬ p (xs.getD i default)) : ixP p i (xs.drop i) = ixP p (i + 1) (xs.drop (i + 1)) := by
  rw [getD_drop h, ixP, bOf_n ha]; rfl
theorem ixP_end {α : Type} {p : α → Prop} {xs : List α} {i : Nat} (h : xs.length ≤ i) : ixP p i (xs.drop i) = -1 := by
  rw [List.drop_eq_nil_of_le h, ixP]
theorem ixP_iff {α : Type} {p : α → Prop} : ∀ (xs : List α) (k : Nat), 0 ≤ ixP p k xs ↔ ∃ x ∈ xs, p x
  | [], k => by simp [ixP]
  | x :: t, k => by
    rw [ixP]
    by_cases h : p x
    · rw [bOf_y h, cond_true]
      exact ⟨fun _ => ⟨x, by simp, h⟩, fun _ => by omega⟩
    · rw [bOf_n h, cond_false, ixP_iff t (k + 1)]
      simp [h]
inductive FStr where
  | line
  | dom
  | hop
def FStr.enc : FStr → AV
  | .line  => .t (.fn 133 [])
  | .dom  => .t (.fn 128 [])
  | .hop  => .t (.fn 147 [])
def FStr.dec : AV → Option FStr
  | .t (.fn 133 []) => some (.line )
  | .t (.fn 128 []) => some (.dom )
  | .t (.fn 147 []) => some (.hop )
  | _ => none
def FStr.sem : FStr → ByteArray → Prop
  | .line , x => ¬ Lin x
  | .dom , x => ¬ Dom x
  | .hop , x => ¬ HopL x
def FStr.pre : FStr → ByteArray → Prop
  | .line , x => x.size ≤ 2000000
  | .dom , x => x.size ≤ 2000000
  | .hop , x => x.size ≤ 2000000
def AFStr : AD FStr where
  enc := FStr.enc
  dec := FStr.dec
  ed := fun f => by cases f <;> rfl
  de := fun x f h => by
    unfold FStr.dec at h
    split at h <;> cases h <;> rfl
theorem AFStr_d0  : AFStr.dec (.t (.fn 133 [])) = some (.line ) := rfl
theorem AFStr_e0  : AFStr.enc (.line ) = .t (.fn 133 []) := rfl
theorem AFStr_d1  : AFStr.dec (.t (.fn 128 [])) = some (.dom ) := rfl
theorem AFStr_e1  : AFStr.enc (.dom ) = .t (.fn 128 []) := rfl
theorem AFStr_d2  : AFStr.dec (.t (.fn 147 [])) = some (.hop ) := rfl
theorem AFStr_e2  : AFStr.enc (.hop ) = .t (.fn 147 []) := rfl
def c133 : Ct := ctR (lc AStr l0) (fun p => p.1.size ≤ 2000000) (fun p => .t (.v (.bool (bOf (¬ Lin p.1)))))
section
attribute [local go_sem] c134 ap_enc ap_dec AFn0_dec AFn0_enc Bool.not_true Bool.not_false ty214 lv37
theorem good133 {G : Gt} (hG : OkG G) (hh : G.e 134 = roEnt 0 c134) : Gd G 133 (roEnt 0 c133) := by
  refine gR (dp := fun _ => true) (fn := Tryz.f133) (n := 1) (fun _ => rfl) (by kernel_rfl) rfl (by kernel_rfl) hG (Nat.le_of_ble_eq_true rfl) (by kernel_rfl) (by decide) (fun _ _ => .v _) ?_
  rintro ⟨x, ⟨⟩⟩ hpre
  simp -implicitDefEqProofs only [Tryz.f133, go_sem, hh] at hpre ⊢
  repeat' (first | with_reducible apply And.intro | with_reducible intro _ | ((first | apply brB_split | apply aPickB_split | apply gB_split | apply adB_split) <;> intro hb <;> simp -implicitDefEqProofs only [hb, go_sem, hh] <;> try simp only [qz] at hb))
  all_goals first | rfl | omega | exact hpre | skip
  all_goals (try (simp only [bOf_not]; done))
  all_goals first | rfl | (rw [bOf_d]; done) | (rw [bOf_d, decide_eq_decide.2]; simp [Ad_ext]; done) | (rw [bOf_d]; simp [Ad_ext]; done)
end
def c128 : Ct := ctR (lc AStr l0) (fun p => p.1.size ≤ 2000000) (fun p => .t (.v (.bool (bOf (¬ Dom p.1)))))
section
attribute [local go_sem] c102 ap_enc ap_dec AFn0_dec AFn0_enc Bool.not_true Bool.not_false ty214 lv37
theorem good128 {G : Gt} (hG : OkG G) (hh : G.e 102 = roEnt 0 c102) : Gd G 128 (roEnt 0 c128) := by
  refine gR (dp := fun _ => true) (fn := Tryz.f128) (n := 1) (fun _ => rfl) (by kernel_rfl) rfl (by kernel_rfl) hG (Nat.le_of_ble_eq_true rfl) (by kernel_rfl) (by decide) (fun _ _ => .v _) ?_
  rintro ⟨x, ⟨⟩⟩ hpre
  simp -implicitDefEqProofs only [Tryz.f128, go_sem, hh] at hpre ⊢
  repeat' (first | with_reducible apply And.intro | with_reducible intro _ | ((first | apply brB_split | apply aPickB_split | apply gB_split | apply adB_split) <;> intro hb <;> simp -implicitDefEqProofs only [hb, go_sem, hh] <;> try simp only [qz] at hb))
  all_goals first | rfl | omega | exact hpre | skip
  all_goals (try (simp only [bOf_not]; done))
  all_goals first | rfl | (rw [bOf_d]; done) | (rw [bOf_d, decide_eq_decide.2]; simp [Ad_ext]; done) | (rw [bOf_d]; simp [Ad_ext]; done)
end
def c147 : Ct := ctR (lc AStr l0) (fun p => p.1.size ≤ 2000000) (fun p => .t (.v (.bool (bOf (¬ HopL p.1)))))
section
attribute [local go_sem] c148 c102 ap_enc ap_dec AFn0_dec AFn0_enc Bool.not_true Bool.not_false ty214 lv37 cpB_eq bOf_t bOf_f
theorem good147 {G : Gt} (hG : OkG G) (hh : G.e 148 = roEnt 0 c148 ∧ G.e 102 = roEnt 0 c102) : Gd G 147 (roEnt 0 c147) := by
  refine gR (dp := fun _ => true) (fn := Tryz.f147) (n := 1) (fun _ => rfl) (by kernel_rfl) rfl (by kernel_rfl) hG (Nat.le_of_ble_eq_true rfl) (by kernel_rfl) (by decide) (fun _ _ => .v _) ?_
  rintro ⟨x, ⟨⟩⟩ hpre
  simp -implicitDefEqProofs only [Tryz.f147, go_sem, hh] at hpre ⊢
  repeat' (first | with_reducible apply And.intro | with_reducible intro _ | ((first | apply brB_split | apply aPickB_split | apply gB_split | apply adB_split) <;> intro hb <;> simp -implicitDefEqProofs only [hb, go_sem, hh] <;> try simp only [qz] at hb))
  all_goals (try simp only [bOf_t, bOf_f, maxLen] at *)
  all_goals first
    | rfl
    | omega
    | decide
    | exact hpre
    | (have := preX_le x ⟨#[72, 111, 112, 58, 32]⟩; omega)
    | exact vT (fun h => absurd (HopL_iff.2 h).1 (by assumption))
    | exact vN ⟨fun h q => h (HopL_iff.2 q).2, fun h q => h (HopL_iff.1 ⟨by assumption, q⟩)⟩
    | trace_state
end
def c146 : Ct := ctR (lc EStr.asl (lc AFStr l0)) (fun p => ∀ x ∈ p.1, p.2.1.pre x) (fun p => .t (.v (.int .i64 (ixP p.2.1.sem 0 p.1))))
section
attribute [local go_sem] c133 c128 c147 ap_enc ap_dec AFn0_dec AFn0_enc Bool.not_true Bool.not_false ty214 lv37 AFStr_d0 AFStr_e0 AFStr_d1 AFStr_e1 AFStr_d2 AFStr_e2
theorem good146 {G : Gt} (hG : OkG G) (hh : G.e 133 = roEnt 0 c133 ∧ G.e 128 = roEnt 0 c128 ∧ G.e 147 = roEnt 0 c147) : Gd G 146 (roEnt 0 c146) := by
  refine gR (dp := fun _ => true) (fn := Tryz.f146) (n := 2) (fun _ => rfl) (by kernel_rfl) rfl (by kernel_rfl) hG (Nat.le_of_ble_eq_true rfl) (by kernel_rfl) (by decide) (fun _ _ => .v _) ?_
  rintro ⟨xs, f, ⟨⟩⟩ hpre
  have hs := hpre
  dsimp only at hs ⊢
  cases f with
  | line  =>
    simp -implicitDefEqProofs only [Tryz.f146, go_sem, hh]
    repeat' (first | with_reducible apply And.intro | with_reducible intro _ | ((first | apply brB_split | apply aPickB_split | apply gB_split | apply adB_split) <;> intro hb <;> simp -implicitDefEqProofs only [hb, go_sem, hh] <;> try simp only [qz] at hb))
    all_goals first | rfl | omega | skip
    refine run_loop [] (ι := {i : Nat // i ≤ xs.length ∧ ixP (FStr.sem (.line )) 0 xs = ixP (FStr.sem (.line )) i (xs.drop i)}) (fun p => ⟨[(0, .t (.sl 1 (xs.map encStr))), (1, .t (.fn 133 [])), (7, .t (.v (.int .i64 xs.length))), (8, .t (.v (.int .i64 p.1)))], []⟩) (fun p => xs.length - p.1) ⟨0, Nat.zero_le _, rfl⟩ rfl ?_ ?_
    · simp -implicitDefEqProofs only [go_sem, hh]
      try simp
    · rintro ⟨i, hi, hix⟩
      by_cases hlt : (i : Int) < xs.length
      · have hm : xs.getD (i : Int).toNat default ∈ xs := getD_mem (by omega)
        have hsz := hs _ hm
        cases hb : bOf (¬ Lin (xs.getD (i : Int).toNat default))
        · have hq := hb
          simp -implicitDefEqProofs only [hlt, hq, go_sem, hh]
          repeat' (first | with_reducible apply And.intro | with_reducible intro _ | ((first | apply brB_split | apply aPickB_split | apply gB_split | apply adB_split) <;> intro hb <;> simp -implicitDefEqProofs only [hb, go_sem, hh] <;> try simp only [qz] at hb))
          all_goals (try simp only [maxLen] at *)
          all_goals first | rfl | omega | with_reducible assumption | exact hsz | exact hsz.1 | exact hsz.2 | exact hsz.2 _ (by assumption) | exact hsz.2.1 | exact hsz.2.2.1 | exact hsz.2.2.2 | trivial | skip
          rw [bOf_f, Int.toNat_natCast] at hb
          refine ⟨⟨i + 1, by omega, ?_⟩, by dsimp only; omega, ?_⟩
          · rw [hix, ixP_no (p := FStr.sem (.line )) (by omega) hb]
          · simp -implicitDefEqProofs only [go_sem, hh]
            try simp
        · have hq := hb
          simp -implicitDefEqProofs only [hlt, hq, go_sem, hh]
          repeat' (first | with_reducible apply And.intro | with_reducible intro _ | ((first | apply brB_split | apply aPickB_split | apply gB_split | apply adB_split) <;> intro hb <;> simp -implicitDefEqProofs only [hb, go_sem, hh] <;> try simp only [qz] at hb))
          all_goals (try simp only [maxLen] at *)
          all_goals first | rfl | omega | with_reducible assumption | exact hsz | exact hsz.1 | exact hsz.2 | exact hsz.2 _ (by assumption) | exact hsz.2.1 | exact hsz.2.2.1 | exact hsz.2.2.2 | trivial | skip
          rw [bOf_t, Int.toNat_natCast] at hb
          rw [hix, ixP_yes (p := FStr.sem (.line )) (by omega) hb]
      · simp -implicitDefEqProofs only [hlt, go_sem, hh]
        repeat' (first | with_reducible apply And.intro | with_reducible intro _ | ((first | apply brB_split | apply aPickB_split | apply gB_split | apply adB_split) <;> intro hb <;> simp -implicitDefEqProofs only [hb, go_sem, hh] <;> try simp only [qz] at hb))
        all_goals first | rfl | omega | skip
        all_goals (rw [hix, ixP_end (by omega)])
  | dom  =>
    simp -implicitDefEqProofs only [Tryz.f146, go_sem, hh]
    repeat' (first | with_reducible apply And.intro | with_reducible intro _ | ((first | apply brB_split | apply aPickB_split | apply gB_split | apply adB_split) <;> intro hb <;> simp -implicitDefEqProofs only [hb, go_sem, hh] <;> try simp only [qz] at hb))
    all_goals first | rfl | omega | skip
    refine run_loop [] (ι := {i : Nat // i ≤ xs.length ∧ ixP (FStr.sem (.dom )) 0 xs = ixP (FStr.sem (.dom )) i (xs.drop i)}) (fun p => ⟨[(0, .t (.sl 1 (xs.map encStr))), (1, .t (.fn 128 [])), (7, .t (.v (.int .i64 xs.length))), (8, .t (.v (.int .i64 p.1)))], []⟩) (fun p => xs.length - p.1) ⟨0, Nat.zero_le _, rfl⟩ rfl ?_ ?_
    · simp -implicitDefEqProofs only [go_sem, hh]
      try simp
    · rintro ⟨i, hi, hix⟩
      by_cases hlt : (i : Int) < xs.length
      · have hm : xs.getD (i : Int).toNat default ∈ xs := getD_mem (by omega)
        have hsz := hs _ hm
        cases hb : bOf (¬ Dom (xs.getD (i : Int).toNat default))
        · have hq := hb
          simp -implicitDefEqProofs only [hlt, hq, go_sem, hh]
          repeat' (first | with_reducible apply And.intro | with_reducible intro _ | ((first | apply brB_split | apply aPickB_split | apply gB_split | apply adB_split) <;> intro hb <;> simp -implicitDefEqProofs only [hb, go_sem, hh] <;> try simp only [qz] at hb))
          all_goals (try simp only [maxLen] at *)
          all_goals first | rfl | omega | with_reducible assumption | exact hsz | exact hsz.1 | exact hsz.2 | exact hsz.2 _ (by assumption) | exact hsz.2.1 | exact hsz.2.2.1 | exact hsz.2.2.2 | trivial | skip
          rw [bOf_f, Int.toNat_natCast] at hb
          refine ⟨⟨i + 1, by omega, ?_⟩, by dsimp only; omega, ?_⟩
          · rw [hix, ixP_no (p := FStr.sem (.dom )) (by omega) hb]
          · simp -implicitDefEqProofs only [go_sem, hh]
            try simp
        · have hq := hb
          simp -implicitDefEqProofs only [hlt, hq, go_sem, hh]
          repeat' (first | with_reducible apply And.intro | with_reducible intro _ | ((first | apply brB_split | apply aPickB_split | apply gB_split | apply adB_split) <;> intro hb <;> simp -implicitDefEqProofs only [hb, go_sem, hh] <;> try simp only [qz] at hb))
          all_goals (try simp only [maxLen] at *)
          all_goals first | rfl | omega | with_reducible assumption | exact hsz | exact hsz.1 | exact hsz.2 | exact hsz.2 _ (by assumption) | exact hsz.2.1 | exact hsz.2.2.1 | exact hsz.2.2.2 | trivial | skip
          rw [bOf_t, Int.toNat_natCast] at hb
          rw [hix, ixP_yes (p := FStr.sem (.dom )) (by omega) hb]
      · simp -implicitDefEqProofs only [hlt, go_sem, hh]
        repeat' (first | with_reducible apply And.intro | with_reducible intro _ | ((first | apply brB_split | apply aPickB_split | apply gB_split | apply adB_split) <;> intro hb <;> simp -implicitDefEqProofs only [hb, go_sem, hh] <;> try simp only [qz] at hb))
        all_goals first | rfl | omega | skip
        all_goals (rw [hix, ixP_end (by omega)])
  | hop  =>
    simp -implicitDefEqProofs only [Tryz.f146, go_sem, hh]
    repeat' (first | with_reducible apply And.intro | with_reducible intro _ | ((first | apply brB_split | apply aPickB_split | apply gB_split | apply adB_split) <;> intro hb <;> simp -implicitDefEqProofs only [hb, go_sem, hh] <;> try simp only [qz] at hb))
    all_goals first | rfl | omega | skip
    refine run_loop [] (ι := {i : Nat // i ≤ xs.length ∧ ixP (FStr.sem (.hop )) 0 xs = ixP (FStr.sem (.hop )) i (xs.drop i)}) (fun p => ⟨[(0, .t (.sl 1 (xs.map encStr))), (1, .t (.fn 147 [])), (7, .t (.v (.int .i64 xs.length))), (8, .t (.v (.int .i64 p.1)))], []⟩) (fun p => xs.length - p.1) ⟨0, Nat.zero_le _, rfl⟩ rfl ?_ ?_
    · simp -implicitDefEqProofs only [go_sem, hh]
      try simp
    · rintro ⟨i, hi, hix⟩
      by_cases hlt : (i : Int) < xs.length
      · have hm : xs.getD (i : Int).toNat default ∈ xs := getD_mem (by omega)
        have hsz := hs _ hm
        cases hb : bOf (¬ HopL (xs.getD (i : Int).toNat default))
        · have hq := hb
          simp -implicitDefEqProofs only [hlt, hq, go_sem, hh]
          repeat' (first | with_reducible apply And.intro | with_reducible intro _ | ((first | apply brB_split | apply aPickB_split | apply gB_split | apply adB_split) <;> intro hb <;> simp -implicitDefEqProofs only [hb, go_sem, hh] <;> try simp only [qz] at hb))
          all_goals (try simp only [maxLen] at *)
          all_goals first | rfl | omega | with_reducible assumption | exact hsz | exact hsz.1 | exact hsz.2 | exact hsz.2 _ (by assumption) | exact hsz.2.1 | exact hsz.2.2.1 | exact hsz.2.2.2 | trivial | skip
          rw [bOf_f, Int.toNat_natCast] at hb
          refine ⟨⟨i + 1, by omega, ?_⟩, by dsimp only; omega, ?_⟩
          · rw [hix, ixP_no (p := FStr.sem (.hop )) (by omega) hb]
          · simp -implicitDefEqProofs only [go_sem, hh]
            try simp
        · have hq := hb
          simp -implicitDefEqProofs only [hlt, hq, go_sem, hh]
          repeat' (first | with_reducible apply And.intro | with_reducible intro _ | ((first | apply brB_split | apply aPickB_split | apply gB_split | apply adB_split) <;> intro hb <;> simp -implicitDefEqProofs only [hb, go_sem, hh] <;> try simp only [qz] at hb))
          all_goals (try simp only [maxLen] at *)
          all_goals first | rfl | omega | with_reducible assumption | exact hsz | exact hsz.1 | exact hsz.2 | exact hsz.2 _ (by assumption) | exact hsz.2.1 | exact hsz.2.2.1 | exact hsz.2.2.2 | trivial | skip
          rw [bOf_t, Int.toNat_natCast] at hb
          rw [hix, ixP_yes (p := FStr.sem (.hop )) (by omega) hb]
      · simp -implicitDefEqProofs only [hlt, go_sem, hh]
        repeat' (first | with_reducible apply And.intro | with_reducible intro _ | ((first | apply brB_split | apply aPickB_split | apply gB_split | apply adB_split) <;> intro hb <;> simp -implicitDefEqProofs only [hb, go_sem, hh] <;> try simp only [qz] at hb))
        all_goals first | rfl | omega | skip
        all_goals (rw [hix, ixP_end (by omega)])
end
def c130 : Ct := ctR (lc EStr.asl (lc AFStr l0)) (fun p => ∀ x ∈ p.1, p.2.1.pre x) (fun p => .t (.v (.bool (bOf (∃ x ∈ p.1, p.2.1.sem x)))))
section
attribute [local go_sem] c146 ap_enc ap_dec AFn0_dec AFn0_enc Bool.not_true Bool.not_false ty214 lv37 AFStr_d0 AFStr_e0 AFStr_d1 AFStr_e1 AFStr_d2 AFStr_e2
theorem good130 {G : Gt} (hG : OkG G) (hh : G.e 146 = roEnt 0 c146) : Gd G 130 (roEnt 0 c130) := by
  refine gR (dp := fun _ => true) (fn := Tryz.f130) (n := 2) (fun _ => rfl) (by kernel_rfl) rfl (by kernel_rfl) hG (Nat.le_of_ble_eq_true rfl) (by kernel_rfl) (by decide) (fun _ _ => .v _) ?_
  rintro ⟨xs, f, ⟨⟩⟩ hpre
  dsimp only at hpre ⊢
  cases f
  all_goals
    simp -implicitDefEqProofs only [Tryz.f130, go_sem, hh]
    repeat' (first | with_reducible apply And.intro | with_reducible intro _ | ((first | apply brB_split | apply aPickB_split | apply gB_split | apply adB_split) <;> intro hb <;> simp -implicitDefEqProofs only [hb, go_sem, hh] <;> try simp only [qz] at hb))
    all_goals first | rfl | omega | exact hpre | exact hpre _ (by assumption) | skip
    all_goals (rw [← bOf_congr (ixP_iff _ 0)]; rw [bOf_d])
end
def c97 : Ct := ctR (lc EStr.asl l0) (fun p => ∀ s ∈ p.1, s.size ≤ 2000000) (fun p => .t (.v (.bool (bOf (BdOk p.1)))))
section
attribute [local go_sem] c130 ap_enc ap_dec AFn0_dec AFn0_enc Bool.not_true Bool.not_false ty214 lv37 AFStr_d0 AFStr_e0 AFStr_d1 AFStr_e1 AFStr_d2 AFStr_e2
theorem good97 {G : Gt} (hG : OkG G) (hh : G.e 130 = roEnt 0 c130) : Gd G 97 (roEnt 0 c97) := by
  refine gR (dp := fun _ => true) (fn := Tryz.f97) (n := 1) (fun _ => rfl) (by kernel_rfl) rfl (by kernel_rfl) hG (Nat.le_of_ble_eq_true rfl) (by kernel_rfl) (by decide) (fun _ _ => .v _) ?_
  rintro ⟨xs, ⟨⟩⟩ hpre
  simp -implicitDefEqProofs only [Tryz.f97, go_sem, hh] at hpre ⊢
  repeat' (first | with_reducible apply And.intro | with_reducible intro _ | ((first | apply brB_split | apply aPickB_split | apply gB_split | apply adB_split) <;> intro hb <;> simp -implicitDefEqProofs only [hb, go_sem, hh] <;> try simp only [qz] at hb))
  all_goals first | rfl | omega | exact hpre | exact hpre _ (by assumption) | exact trivial | skip
  · rw [bOf_not]
    refine congrArg (fun b => T.v (.bool b)) (bOf_congr ?_)
    constructor
    · intro h
      exact ⟨fun s hs => Classical.byContradiction fun q => h ⟨s, hs, q⟩, by omega⟩
    · rintro h ⟨s, hs, q⟩
      exact q (h.1 s hs)
  · rw [bOf_n (fun h => by have := h.2; omega)]
end
theorem K31 : Maps.Keyed Tryz.prog 37 := Maps.Keyed.of_law (deep_law_laid (m := 5) (by kernel_rfl) (by decide) (Nat.lt_of_lt_of_le (Nat.lt_succ_self 37) (Nat.le_of_ble_eq_true (by kernel_rfl))) (by kernel_rfl) (by kernel_rfl))
noncomputable def fs31 : Array Field := match Tryz.prog.underlying 37 with | some (.struct fs) => fs | _ => #[]
theorem u31 : Tryz.prog.underlying 37 = some (.struct fs31) := by kernel_rfl
theorem u9 : Tryz.prog.underlying 9 = some .string := by kernel_rfl
theorem u3 : Tryz.prog.underlying 3 = some (.int .i64) := by kernel_rfl
theorem fs31_l : (fs31.toList.map fun f => (f.type, f.offset)) = [(9, 0), (9, 1)] := by kernel_rfl
theorem fs31_n : fs31.all (·.name != "_") = true := by kernel_rfl
theorem co9 : Tryz.prog.cellsOf 9 = 1 := by kernel_rfl
theorem co31 : Tryz.prog.cellsOf 37 = 2 := by kernel_rfl
theorem kt31 : Tryz.prog.keyType 37 = true := by kernel_rfl
theorem ts31 : ∃ n, Tryz.prog.types.size + 1 = n + 2 := ⟨Tryz.prog.types.size - 1, by
  have : 37 < Tryz.prog.types.size := Nat.lt_of_lt_of_le (Nat.lt_succ_self 37) (Nat.le_of_ble_eq_true (by kernel_rfl))
  omega⟩
theorem kl9 (d : Nat) {s : ByteArray} (h : s.size ≤ maxLen) : Tryz.prog.keyLits (d + 1) 9 [.string s] = some [.string s.data.toList] := by
  simp only [Program.keyLits, u9, if_pos h]
theorem key31 {k : MK} (h : k.ok (some 2)) : ∃ l, keyOf Tryz.prog 37 k.val = some l := by
  cases k with
  | i n => exact h.elim
  | s b => exact absurd h.1 (by decide)
  | ss l =>
    obtain ⟨h1, h2, _⟩ := h
    obtain ⟨u, d, rfl⟩ : ∃ u d, l = [u, d] := by
      rcases l with _ | ⟨u, _ | ⟨d, _ | ⟨z, t⟩⟩⟩
      · cases h1
      · cases h1
      · exact ⟨u, d, rfl⟩
      · simp at h1
    obtain ⟨n, hn⟩ := ts31
    have hl : fs31.toList.map (fun f => (f.type, f.offset)) = [(9, 0), (9, 1)] := fs31_l
    rcases hf : fs31.toList with _ | ⟨f, _ | ⟨g, _ | ⟨z, t⟩⟩⟩
    · rw [hf] at hl; cases hl
    · rw [hf] at hl; simp at hl
    · rw [hf] at hl
      · simp only [List.map_cons, List.map_nil, List.cons.injEq, Prod.mk.injEq, and_true] at hl
        obtain ⟨⟨a1, a2⟩, b1, b2⟩ := hl
        refine ⟨.string (keyBytes [.string u.data.toList, .string d.data.toList]), ?_⟩
        have hform : (MK.val (.ss [u, d])).formed Tryz.prog 37 = true := by
          simp only [Value.formed, MK.val, u31, co31]
          rfl
        unfold keyOf
        rw [u31]
        show (if (Tryz.prog.keyType 37 && (MK.val (.ss [u, d])).formed Tryz.prog 37) = true then _ else none) = _
        rw [kt31, hform]
        refine (if_pos rfl).trans ?_
        rw [hn]
        have : Tryz.prog.keyLits (n + 2) 37 (MK.val (.ss [u, d])).cells.toList = some [.string u.data.toList, .string d.data.toList] := by
          show Tryz.prog.keyLits (n + 2) 37 [.string u, .string d] = _
          have e1 : [Value.string u, Value.string d].length = Tryz.prog.cellsOf 37 ∧ fs31.all (·.name != "_") = true := ⟨by rw [co31]; rfl, fs31_n⟩
          rw [Program.keyLits.eq_def]
          simp only [u31]
          refine (if_pos e1).trans ?_
          rw [hf]
          simp only [List.mapM_cons, List.mapM_nil, a1, a2, b1, b2, co9, List.drop_zero, List.take_succ_cons, List.take_zero, List.drop_succ_cons, kl9 n (h2 u (by simp)), kl9 n (h2 d (by simp))]
          rfl
        rw [this]; rfl
    · rw [hf] at hl
      simp only [List.map_cons, List.cons.injEq] at hl
      exact absurd hl.2.2 (by simp)
theorem kd31 : KeyD Tryz.prog 37 (some 2) := KeyD.ss K31 key31
theorem kd3 : KeyD Tryz.prog 3 none := KeyD.int u3
def mkA (a : Ad) : MK := .ss [a.user, a.domain]
theorem mkA_inj {a b : Ad} (h : mkA a = mkA b) : a = b := by
  cases a; cases b
  simp only [mkA, MK.ss.injEq, List.cons.injEq, and_true] at h
  rw [h.1, h.2]
def dis (xs : List Ad) : List (MK × Bool) := xs.foldl (fun es a => upE (mkA a) true es) []
theorem dis_snoc (xs : List Ad) (a : Ad) : dis (xs ++ [a]) = upE (mkA a) true (dis xs) := by simp [dis]
theorem upE_keys {k : MK} {b : Bool} : ∀ {es : List (MK × Bool)}, (upE k b es).map Prod.fst = if k ∈ es.map Prod.fst then es.map Prod.fst else es.map Prod.fst ++ [k]
  | [] => by simp [upE]
  | p :: r => by
    rw [upE]
    by_cases h : p.1 = k
    · simp [h]
    · have hk : ¬ k = p.1 := fun e => h e.symm
      rw [if_neg h, List.map_cons, upE_keys]
      by_cases h2 : k ∈ r.map Prod.fst
      · rw [if_pos h2, if_pos (by simp only [List.map_cons, List.mem_cons]; exact .inr h2)]; rfl
      · rw [if_neg h2, if_neg (by simp only [List.map_cons, List.mem_cons]; exact fun e => e.elim hk h2)]; rfl
theorem dis_mem (xs : List Ad) (a : Ad) : mkA a ∈ (dis xs).map Prod.fst ↔ a ∈ xs := by
  generalize hr : xs.reverse = r
  have hx : xs = r.reverse := by rw [← hr, List.reverse_reverse]
  subst hx
  clear hr
  induction r with
  | nil => simp [dis]
  | cons b r ih =>
    rw [List.reverse_cons, dis_snoc, upE_keys, List.mem_append, ← propext ih]
    by_cases h : mkA b ∈ (dis r.reverse).map Prod.fst
    · rw [if_pos h]
      constructor
      · exact .inl
      · rintro (h1 | h1)
        · exact h1
        · rw [List.mem_singleton.1 h1]; exact h
    · rw [if_neg h, List.mem_append, List.mem_singleton, List.mem_singleton]
      exact or_congr_right ⟨mkA_inj, fun e => by rw [e]⟩
theorem dis_len (xs : List Ad) : (dis xs).length ≤ xs.length ∧ ((dis xs).length = xs.length ↔ xs.Nodup) := by
  generalize hr : xs.reverse = r
  have hx : xs = r.reverse := by rw [← hr, List.reverse_reverse]
  subst hx
  clear hr
  induction r with
  | nil => simp [dis]
  | cons b r ih =>
    have hl : ∀ es : List (MK × Bool), es.length = (es.map Prod.fst).length := fun es => by rw [List.length_map]
    have hn : (r.reverse ++ [b]).Nodup ↔ r.reverse.Nodup ∧ b ∉ r.reverse := by
      rw [List.nodup_append]
      constructor
      · rintro ⟨h1, _, h3⟩
        exact ⟨h1, fun hb => h3 b hb b (by simp) rfl⟩
      · rintro ⟨h1, h2⟩
        refine ⟨h1, by simp, fun x hx y hy e => ?_⟩
        rw [List.mem_singleton] at hy
        subst hy; subst e; exact h2 hx
    rw [List.reverse_cons, dis_snoc, hl, upE_keys, List.length_append, hn, ← dis_mem]
    obtain ⟨i1, i2⟩ := ih
    by_cases h : mkA b ∈ (dis r.reverse).map Prod.fst
    · rw [if_pos h, ← hl]
      refine ⟨by omega, ⟨fun e => ?_, fun e => absurd h e.2⟩⟩
      simp at e i1; omega
    · rw [if_neg h, List.length_append, ← hl]
      refine ⟨by simp at *; omega, ⟨fun e => ⟨i2.1 (by simp at *; omega), h⟩, fun e => ?_⟩⟩
      have := i2.2 e.1
      simp at *; omega
theorem take_succ' {xs : List Ad} {i : Nat} (h : i < xs.length) : xs.take (i + 1) = xs.take i ++ [xs.getD i default] := by
  rw [List.take_succ_eq_append_getElem h]
  simp [h]
theorem dis_take {xs : List Ad} {i : Nat} (h : i < xs.length) : upE (.ss [(xs.getD i default).user, (xs.getD i default).domain]) true (dis (xs.take i)) = dis (xs.take (i + 1)) := by
  rw [take_succ' h, dis_snoc]; rfl
def c160 : Ct := ctR (lc EAd.asl l0) (fun p => True) (fun p => .t (.v (.bool (bOf p.1.Nodup))))
section
attribute [local go_sem] ap_enc ap_dec AFn0_dec AFn0_enc Bool.not_true Bool.not_false ty214 lv37 AFStr_d0 AFStr_e0 AFStr_d1 AFStr_e1 AFStr_d2 AFStr_e2
theorem good160 {G : Gt} (hG : OkG G) : Gd G 160 (roEnt 0 c160) := by
  refine gR (dp := fun _ => true) (fn := Tryz.f160) (n := 1) (fun _ => rfl) (by kernel_rfl) rfl (by kernel_rfl) hG (Nat.le_of_ble_eq_true rfl) (by kernel_rfl) (by decide) (fun _ _ => .v _) ?_
  rintro ⟨xs, ⟨⟩⟩ hpre
  simp -implicitDefEqProofs only [Tryz.f160, go_sem] at hpre ⊢
  repeat' (first | with_reducible apply And.intro | with_reducible intro _ | ((first | apply brB_split | apply aPickB_split | apply gB_split | apply adB_split) <;> intro hb <;> simp -implicitDefEqProofs only [hb, go_sem] <;> try simp only [qz] at hb))
  all_goals first | rfl | omega | skip
  refine run_loop [] (ι := {i : Nat // i ≤ xs.length}) (fun p => ⟨[(0, .t (.sl 2 (xs.map encAd))), (3, .h 1006), (7, .t (.sl 2 (xs.map encAd))), (8, .t (.v (.int .i64 xs.length))), (9, .t (.v (.int .i64 p.1)))], [(1006, some (.mp (some 2) (dis (xs.take p.1))))]⟩) (fun p => xs.length - p.1) ⟨0, Nat.zero_le _⟩ rfl ?_ ?_
  · simp -implicitDefEqProofs only [go_sem]
    simp
    rfl
  · rintro ⟨i, hi⟩
    by_cases hlt : (i : Int) < xs.length
    · simp -implicitDefEqProofs only [hlt, go_sem]
      repeat' (first | with_reducible apply And.intro | with_reducible intro _ | ((first | apply brB_split | apply aPickB_split | apply gB_split | apply adB_split) <;> intro hb <;> simp -implicitDefEqProofs only [hb, go_sem] <;> try simp only [qz] at hb))
      all_goals (try simp only [maxLen] at *)
      all_goals first | rfl | omega | exact kd31 | skip
      refine ⟨⟨i + 1, by omega⟩, by dsimp only; omega, ?_⟩
      simp -implicitDefEqProofs only [go_sem]
      simp only [Int.toNat_natCast, dis_take (show i < xs.length by omega)]
      try simp
    · simp -implicitDefEqProofs only [hlt, go_sem]
      repeat' (first | with_reducible apply And.intro | with_reducible intro _ | ((first | apply brB_split | apply aPickB_split | apply gB_split | apply adB_split) <;> intro hb <;> simp -implicitDefEqProofs only [hb, go_sem] <;> try simp only [qz] at hb))
      all_goals first | rfl | omega | skip
      rw [List.take_of_length_le (by omega), ← bOf_congr (dis_len xs).2, bOf_d]
      refine congrArg (fun b => T.v (.bool b)) (decide_eq_decide.2 ?_)
      omega
end
theorem take_snoc_map {α : Type} [Inhabited α] (enc : α → List T) {xs : List α} {i : Nat} (h : i < xs.length) : (xs.take (i + 1)).map enc = (xs.take i).map enc ++ [enc (xs.getD i default)] := by
  rw [List.take_succ_eq_append_getElem h, List.map_append, List.map_cons, List.map_nil]
  simp only [List.getD_eq_getElem?_getD, List.getElem?_eq_getElem h, Option.getD_some]
theorem tmap {α : Type} {enc : α → List T} {xs : List α} {k : Nat} : (xs.map enc).take k = (xs.take k).map enc := List.map_take.symm
theorem dmap {α : Type} {enc : α → List T} {xs : List α} {k : Nat} : (xs.map enc).drop k = (xs.drop k).map enc := List.map_drop.symm
def RcOk (r : Rc) : Prop := AdOk r.addr ∧ (0 ≤ r.tries ∧ r.tries ≤ 3) ∧ (0 ≤ r.next ∧ r.next ≤ 9999)
def ImOk (x : Im) : Prop := (∀ r ∈ x.to, RcOk r) ∧ (x.to.map Rc.addr).Nodup ∧ 0 < x.id ∧ (AdOk x.frm ∨ AdNull x.frm) ∧ (1 ≤ x.to.length ∧ x.to.length ≤ 4) ∧ BdOk x.body
def Asc (xs : List Im) : Prop := ∀ j, 0 < j → j < xs.length → (xs.getD (j - 1) default).id < (xs.getD j default).id
def SpOk (s : Sp) : Prop := (∀ x ∈ s.items, ImOk x ∧ x.id ≤ s.last) ∧ Asc s.items ∧ (0 ≤ s.last ∧ s.last ≤ 999) ∧ s.items.length ≤ 10
theorem nodup_addr {xs : List Rc} (h : ∀ j, j < xs.length → ∀ k, k < j → ¬ (xs.getD k default).addr = (xs.getD j default).addr) : (xs.map Rc.addr).Nodup := by
  rw [List.nodup_iff_pairwise_ne, List.pairwise_iff_getElem]
  intro k j hk hj hkj
  rw [List.length_map] at hk hj
  have := h j hj k hkj
  simpa [hk, hj] using this
theorem addr_nodup {xs : List Rc} (h : (xs.map Rc.addr).Nodup) {k i : Nat} (hk : k < i) (hi : i < xs.length) : ¬ (xs.getD k default).addr = (xs.getD i default).addr := fun e => by
  have q1 : k < xs.length := by omega
  simp only [List.getD_eq_getElem?_getD, List.getElem?_eq_getElem q1, List.getElem?_eq_getElem hi, Option.getD_some] at e
  exact List.pairwise_iff_getElem.1 (List.nodup_iff_pairwise_ne.1 h) k i (by simpa using q1) (by simpa using hi) hk (by simpa using e)
def c155 : Ct := ctR (lc ERc.ag l0) (fun p => True) (fun p => .t (.v (.bool (bOf (RcOk p.1)))))
section
attribute [local go_sem] c48 c50
theorem good155 {G : Gt} (hG : OkG G) (hh : G.e 48 = roEnt 0 c48 ∧ G.e 50 = roEnt 0 c50) : Gd G 155 (roEnt 0 c155) := by
  refine gR (dp := fun _ => true) (fn := Tryz.f155) (n := 1) (fun _ => rfl) (by kernel_rfl) rfl (by kernel_rfl) hG (Nat.le_of_ble_eq_true rfl) (by kernel_rfl) (by decide) (fun _ _ => .v _) ?_
  rintro ⟨r, ⟨⟩⟩ hpre
  simp -implicitDefEqProofs only [Tryz.f155, go_sem, hh] at hpre ⊢
  repeat' (first | with_reducible apply And.intro | with_reducible intro _ | ((first | apply brB_split | apply aPickB_split | apply gB_split | apply adB_split) <;> intro hb <;> simp -implicitDefEqProofs only [hb, go_sem, hh] <;> try simp only [qz] at hb))
  all_goals first
    | rfl
    | omega
    | exact congrArg (fun b => T.v (Value.bool b)) (bOf_congr ⟨fun h => ⟨by assumption, by assumption, h⟩, fun h => h.2.2⟩)
    | (rw [bOf_n (fun h => absurd h.1 (by assumption))]; done)
    | (rw [bOf_n (fun h => absurd h.2.1 (by assumption))]; done)
end
def c122 : Ct := ctR (lc EIm.ag l0) (fun p => True) (fun p => .t (.v (.bool (bOf (ImOk p.1)))))
section
attribute [local go_sem] c48 c50 c155 c41 c121 List.length_map
set_option maxHeartbeats 800000 in
theorem good122 {G : Gt} (hG : OkG G) (hh : G.e 48 = roEnt 0 c48 ∧ G.e 50 = roEnt 0 c50 ∧ G.e 155 = roEnt 0 c155 ∧ G.e 41 = roEnt 0 c41 ∧ G.e 121 = roEnt 0 c121) : Gd G 122 (roEnt 0 c122) := by
  refine gR (dp := fun _ => true) (fn := Tryz.f122) (n := 1) (fun _ => rfl) (by kernel_rfl) rfl (by kernel_rfl) hG (Nat.le_of_ble_eq_true rfl) (by kernel_rfl) (by decide) (fun _ _ => .v _) ?_
  rintro ⟨x, ⟨⟩⟩ hpre
  simp -implicitDefEqProofs only [Tryz.f122, go_sem, hh] at hpre ⊢
  have hbox : ∀ y : Im, Ob.box [AV.t (T.v (Value.int IntKind.i64 y.id)), AV.t (T.v (Value.string y.frm.user)), AV.t (T.v (Value.string y.frm.domain)), AV.t (T.sl 4 (List.map encRc y.to)), AV.t (T.sl 1 (List.map encStr y.body))] = Ob.box ((encIm y).map .t) := fun _ => rfl
  refine run_loop [] (ι := {i : Nat // i ≤ x.to.length ∧ (∀ j, j < i → RcOk (x.to.getD j default)) ∧ ∀ j, j < i → ∀ k, k < j → ¬ (x.to.getD k default).addr = (x.to.getD j default).addr}) (fun p => ⟨[(1, .pb 1001 0), (3, .t (.v (.int .i64 p.1)))], [(1001, some (.box ((encIm x).map .t)))]⟩) (fun p => x.to.length - p.1) ⟨0, by simp, by simp, by simp⟩ rfl ?_ ?_
  · simp -implicitDefEqProofs only [go_sem, hh]
    simp
  · rintro ⟨i, hi, hall, hno⟩
    simp -implicitDefEqProofs only [go_sem, hh]
    repeat' (first | with_reducible apply And.intro | with_reducible intro _ | ((first | apply brB_split | apply aPickB_split | apply gB_split | apply adB_split) <;> intro hb <;> simp -implicitDefEqProofs only [hb, go_sem, hh] <;> try simp only [qz] at hb))
    all_goals (try simp only [maxLen, Int.toNat_natCast, List.length_map] at *)
    all_goals first | rfl | omega | skip
    · rw [bOf_n (fun h => hb (h.1 _ (getD_mem (by omega))))]
    · refine run_loop [] (ι := {k : Nat // k ≤ i ∧ ∀ j, j < k → ¬ (x.to.getD j default).addr = (x.to.getD i default).addr}) (fun p => ⟨[(1, .pb 1001 0), (3, .t (.v (.int .i64 i))), (4, .t (.v (.int .i64 p.1)))], [(1001, some (.box ((encIm x).map .t)))]⟩) (fun p => i - p.1) ⟨0, by simp, by simp⟩ rfl ?_ ?_
      · simp -implicitDefEqProofs only [go_sem, hh]
        simp
      · rintro ⟨k, hk, hk2⟩
        simp -implicitDefEqProofs only [go_sem, hh]
        repeat' (first | with_reducible apply And.intro | with_reducible intro _ | ((first | apply brB_split | apply aPickB_split | apply gB_split | apply adB_split) <;> intro hb <;> simp -implicitDefEqProofs only [hb, go_sem, hh] <;> try simp only [qz] at hb))
        all_goals (try simp only [maxLen, Int.toNat_natCast, List.length_map] at *)
        all_goals first | rfl | omega | skip
        · have e : (x.to.getD k default).addr = (x.to.getD i default).addr := Ad_ext.2 (by simpa using hb)
          rw [bOf_n (fun h => addr_nodup h.2.1 (by omega) (by omega) e)]
        · refine ⟨⟨k + 1, by omega, fun j hj => ?_⟩, by dsimp only; omega, ?_⟩
          · by_cases e : j = k
            · subst e; exact neqb hb
            · exact hk2 j (by omega)
          · simp -implicitDefEqProofs only [go_sem, hh]
            simp
        · refine ⟨⟨i + 1, by omega, all_step hall (by assumption), fun j hj q hq => ?_⟩, by dsimp only; omega, ?_⟩
          · by_cases e : j = i
            · subst e; exact hk2 q (by omega)
            · exact hno j (by omega) q hq
          · simp -implicitDefEqProofs only [go_sem, hh]
            simp
    all_goals have hA : ∀ r ∈ x.to, RcOk r := mem_getD fun j hj => hall j (by omega)
    all_goals have hN : (x.to.map Rc.addr).Nodup := nodup_addr fun j hj q hq => hno j (by omega) q hq
    all_goals first
      | (rw [bOf_congr]
         exact ⟨fun h => ⟨hA, hN, by first | assumption | omega, by first | exact .inl (by assumption) | exact .inr (by assumption), by omega, h⟩, fun h => h.2.2.2.2.2⟩)
      | (rw [bOf_n]
         intro h
         first
           | (have := h.2.2.1; omega)
           | (have := h.2.2.2.2.1; omega)
           | (rcases h.2.2.2.1 with h | h <;> contradiction))
end
def c87 : Ct := ctR (lc ESp.ag l0) (fun p => True) (fun p => .t (.v (.bool (bOf (SpOk p.1)))))
section
attribute [local go_sem] c122 c50 List.length_map Bool.not_true Bool.not_false
set_option maxHeartbeats 1600000 in
theorem good87 {G : Gt} (hG : OkG G) (hh : G.e 122 = roEnt 0 c122 ∧ G.e 50 = roEnt 0 c50) : Gd G 87 (roEnt 0 c87) := by
  refine gR (dp := fun _ => true) (fn := Tryz.f87) (n := 1) (fun _ => rfl) (by kernel_rfl) rfl (by kernel_rfl) hG (Nat.le_of_ble_eq_true rfl) (by kernel_rfl) (by decide) (fun _ _ => .v _) ?_
  rintro ⟨s, ⟨⟩⟩ hpre
  simp -implicitDefEqProofs only [Tryz.f87, go_sem, hh] at hpre ⊢
  refine run_loop [] (ι := {i : Nat // i ≤ s.items.length ∧ (∀ j, j < i → ImOk (s.items.getD j default) ∧ (s.items.getD j default).id ≤ s.last) ∧ ∀ j, 0 < j → j < i → (s.items.getD (j - 1) default).id < (s.items.getD j default).id}) (fun p => ⟨[(1, .pb 1001 0), (3, .t (.v (.int .i64 p.1)))], [(1001, some (.box ((encSp s).map .t)))]⟩) (fun p => s.items.length - p.1) ⟨0, by simp, by simp, by simp⟩ rfl ?_ ?_
  · simp -implicitDefEqProofs only [go_sem, hh]
    simp
  · rintro ⟨i, hi, hall, hasc⟩
    by_cases hlt : (i : Int) < s.items.length
    · simp -implicitDefEqProofs only [hlt, decide_true, go_sem, hh]
      repeat' (first | with_reducible apply And.intro | with_reducible intro _ | ((first | apply brB_split | apply aPickB_split | apply gB_split | apply adB_split) <;> intro hb <;> simp -implicitDefEqProofs only [hb, go_sem, hh] <;> try simp only [qz] at hb))
      all_goals (try simp only [maxLen, Int.toNat_natCast, List.length_map] at *)
      all_goals first | rfl | omega | skip
      all_goals (try rw [show ((i : Int) - 1).toNat = i - 1 from by omega] at hb)
      all_goals first
        | (rw [bOf_n (fun h => by have h1 := h.1 _ (getD_mem (xs := s.items) (j := i) (by omega)); first | exact hb h1.1 | omega)]; done)
        | (rw [bOf_n (fun h => by have h1 := h.2.1 i (by omega) (by omega); omega)]; done)
        | skip
      all_goals
        refine ⟨⟨i + 1, by omega, all_step (P := fun x : Im => ImOk x ∧ x.id ≤ s.last) hall ⟨by assumption, by omega⟩, fun j h0 hj => ?_⟩, by dsimp only; omega, ?_⟩
        · by_cases e : j = i
          · subst e; omega
          · exact hasc j h0 (by omega)
        · simp -implicitDefEqProofs only [go_sem, hh]
          simp
    · simp -implicitDefEqProofs only [hlt, decide_false, go_sem, hh]
      repeat' (first | with_reducible apply And.intro | with_reducible intro _ | ((first | apply brB_split | apply aPickB_split | apply gB_split | apply adB_split) <;> intro hb <;> simp -implicitDefEqProofs only [hb, go_sem, hh] <;> try simp only [qz] at hb))
      all_goals (try simp only [maxLen, Int.toNat_natCast, List.length_map] at *)
      all_goals first | rfl | omega | skip
      · refine congrArg (fun b => T.v (Value.bool b)) ?_
        rw [← bOf_d, bOf_congr]
        exact ⟨fun h => ⟨mem_getD fun j hj => hall j (by omega), fun j h0 hj => hasc j h0 (by omega), hb, by omega⟩, fun h => by have := h.2.2.2; omega⟩
      · rw [bOf_n (fun h => hb h.2.2.1)]
end
def dnIm (x : Im) (k : Nat) : Im := ⟨x.id, x.frm, x.to.take k ++ x.to.drop (k + 1), x.body⟩
def dnL (xs : List Im) (i k : Nat) : List Im := if (dnIm (xs.getD i default) k).to = [] then xs.take i ++ xs.drop (i + 1) else xs.take i ++ (dnIm (xs.getD i default) k :: xs.drop (i + 1))
def dnSp (s : Sp) (i k : Nat) : Sp := ⟨s.last, dnL s.items i k⟩
theorem dn_len {xs : List Rc} {k : Nat} (h : k < xs.length) : (xs.take k ++ xs.drop (k + 1)).length = xs.length - 1 := by simp; omega
theorem ixP_range {α : Type} (p : α → Prop) : ∀ (xs : List α) (k : Nat), ixP p k xs = -1 ∨ ((k : Int) ≤ ixP p k xs ∧ ixP p k xs < k + xs.length)
  | [], _ => .inl rfl
  | x :: t, k => by
    rw [ixP]
    cases bOf (p x)
    · rcases ixP_range p t (k + 1) with h | h
      · exact .inl h
      · simp only [cond_false, List.length_cons]; right; omega
    · simp only [cond_true, List.length_cons]; right; omega
noncomputable def atIm (s : Sp) (n : Int) : Int := ixP (fun x : Im => x.id = n) 0 s.items
noncomputable def atRc (x : Im) (a : Ad) : Int := ixP (fun r : Rc => r.addr = a) 0 x.to
noncomputable def theIm (s : Sp) (n : Int) : Im := s.items.getD (atIm s n).toNat default
open Classical in
noncomputable def SDone (s : Sp) (n : Int) (a : Ad) : Sp × Bool :=
  if SpOk s then (if atIm s n < 0 then (s, false) else if atRc (theIm s n) a < 0 then (s, false) else (dnSp s (atIm s n).toNat (atRc (theIm s n) a).toNat, true)) else (⟨0, []⟩, false)
def roSB (p : Sp × Bool) : AV := .tup [.agg ((encSp p.1).map .t), .t (.v (.bool p.2))]
def owSB (p : Sp × Bool) : AV := .tup [owSp p.1, .t (.v (.bool p.2))]
theorem owSB_solid (p : Sp × Bool) : Solid (owSB p) := .tup _ fun c hc => by
  simp only [List.mem_cons, List.not_mem_nil, or_false] at hc
  rcases hc with rfl | rfl
  · exact owSp_solid _
  · exact .v _
theorem SDone_no {s : Sp} {n : Int} {a : Ad} (h : ¬ SpOk s) : SDone s n a = (⟨0, []⟩, false) := by unfold SDone; rw [if_neg h]
theorem SDone_i {s : Sp} {n : Int} {a : Ad} (h : SpOk s) (hi : atIm s n < 0) : SDone s n a = (s, false) := by unfold SDone; rw [if_pos h, if_pos hi]
theorem SDone_k {s : Sp} {n : Int} {a : Ad} (h : SpOk s) (hi : ¬ atIm s n < 0) (hk : atRc (theIm s n) a < 0) : SDone s n a = (s, false) := by unfold SDone; rw [if_pos h, if_neg hi, if_pos hk]
theorem SDone_y {s : Sp} {n : Int} {a : Ad} (h : SpOk s) (hi : ¬ atIm s n < 0) (hk : ¬ atRc (theIm s n) a < 0) : SDone s n a = (dnSp s (atIm s n).toNat (atRc (theIm s n) a).toNat, true) := by unfold SDone; rw [if_pos h, if_neg hi, if_neg hk]
theorem atIm_lt {s : Sp} {n : Int} (h : ¬ atIm s n < 0) : 0 ≤ atIm s n ∧ atIm s n < s.items.length := by
  rcases ixP_range (fun x : Im => x.id = n) s.items 0 with h1 | h1
  · have : atIm s n = -1 := h1
    omega
  · have : atIm s n < (0 : Nat) + s.items.length := h1.2
    omega
theorem atRc_lt {x : Im} {a : Ad} (h : ¬ atRc x a < 0) : 0 ≤ atRc x a ∧ atRc x a < x.to.length := by
  rcases ixP_range (fun r : Rc => r.addr = a) x.to 0 with h1 | h1
  · have : atRc x a = -1 := h1
    omega
  · have : atRc x a < (0 : Nat) + x.to.length := h1.2
    omega
def pau (t : Int) : Int := 2 * 2 ^ (t - 1).toNat
theorem pow2_le {a b : Nat} (h : a ≤ b) : (2 : Int) ^ a ≤ 2 ^ b := by
  have h1 := Nat.pow_le_pow_right (n := 2) (by omega) h
  have e : ∀ k : Nat, ((2 ^ k : Nat) : Int) = 2 ^ k := fun k => by simp
  rw [← e, ← e]
  omega
theorem pau_le {t : Int} {m : Nat} (h : t ≤ m + 1) : 2 ≤ pau t ∧ pau t ≤ 2 * 2 ^ m := by
  unfold pau
  have h1 : (2 : Int) ^ (t - 1).toNat ≤ 2 ^ m := pow2_le (by omega)
  have h2 : (2 : Int) ^ 0 ≤ 2 ^ (t - 1).toNat := pow2_le (by omega)
  simp only [Int.pow_zero] at h2
  omega
def ltRc (r : Rc) (w : Int) : Rc := ⟨r.addr, r.tries + 1, w + pau (r.tries + 1)⟩
def ltIm (x : Im) (k : Nat) (w : Int) : Im := ⟨x.id, x.frm, x.to.set k (ltRc (x.to.getD k default) w), x.body⟩
def ltSp (s : Sp) (i k : Nat) (w : Int) : Sp := ⟨s.last, s.items.set i (ltIm (s.items.getD i default) k w)⟩
def ltNo (r : Rc) (w : Int) : Prop := r.tries + 1 ≥ 4 ∨ w + pau (r.tries + 1) > 9999
instance (r : Rc) (w : Int) : Decidable (ltNo r w) := by unfold ltNo; infer_instance
def SLat (s : Sp) (i k : Nat) (w : Int) : Sp × Bool := if ltNo ((s.items.getD i default).to.getD k default) w then (s, false) else (ltSp s i k w, true)
open Classical in
noncomputable def SLater (s : Sp) (n : Int) (a : Ad) (w : Int) : Sp × Bool :=
  if SpOk s then (if atIm s n < 0 then (s, false) else if ¬ (0 ≤ w ∧ w ≤ 9999) then (s, false) else if atRc (theIm s n) a < 0 then (s, false) else SLat s (atIm s n).toNat (atRc (theIm s n) a).toNat w) else (⟨0, []⟩, false)
section
variable {s : Sp} {n : Int} {a : Ad} {w : Int}
theorem SLater_no (h : ¬ SpOk s) : SLater s n a w = (⟨0, []⟩, false) := by unfold SLater; rw [if_neg h]
theorem SLater_i (h : SpOk s) (hi : atIm s n < 0) : SLater s n a w = (s, false) := by unfold SLater; rw [if_pos h, if_pos hi]
theorem SLater_w (h : SpOk s) (hi : ¬ atIm s n < 0) (hw : ¬ (0 ≤ w ∧ w ≤ 9999)) : SLater s n a w = (s, false) := by unfold SLater; rw [if_pos h, if_neg hi, if_pos hw]
theorem SLater_k (h : SpOk s) (hi : ¬ atIm s n < 0) (hw : 0 ≤ w ∧ w ≤ 9999) (hk : atRc (theIm s n) a < 0) : SLater s n a w = (s, false) := by unfold SLater; rw [if_pos h, if_neg hi, if_neg (fun h => h hw), if_pos hk]
theorem SLater_y (h : SpOk s) (hi : ¬ atIm s n < 0) (hw : 0 ≤ w ∧ w ≤ 9999) (hk : ¬ atRc (theIm s n) a < 0) : SLater s n a w = SLat s (atIm s n).toNat (atRc (theIm s n) a).toNat w := by unfold SLater; rw [if_pos h, if_neg hi, if_neg (fun h => h hw), if_neg hk]
end
theorem aNil_n {s : AS} {K : Kt} : aNilE [] false s K = (K (.t (.v (.bool true))) s ∧ K (.t (.v (.bool false))) s) := propext ⟨fun h => ⟨h.1 rfl, h.2⟩, fun h => ⟨fun _ => h.1, h.2⟩⟩
theorem aNil_c {e : List T} {es : List (List T)} {s : AS} {K : Kt} : aNilE (e :: es) false s K = K (.t (.v (.bool false))) s := propext ⟨fun h => h.2, fun h => ⟨fun e => (by cases e), h⟩⟩
theorem take_addr {xs : List Rc} {i : Nat} (h : i < xs.length) : ((xs.map Rc.addr).take (i + 1)).map encAd = ((xs.map Rc.addr).take i).map encAd ++ [[.v (.string (xs.getD i default).addr.user), .v (.string (xs.getD i default).addr.domain)]] := by
  have e : (xs.map Rc.addr).getD i default = (xs.getD i default).addr := by
    simp only [List.getD_eq_getElem?_getD, List.getElem?_map, List.getElem?_eq_getElem h, Option.map_some, Option.getD_some]
  rw [take_snoc_map encAd (by rw [List.length_map]; exact h), e]
  rfl
noncomputable def findR (s : Sp) (n : Int) (a : Ad) : AV := if atIm s n < 0 then .tup [.t (.v (.int .i64 0)), .t (.v (.int .i64 0)), .t (.v (.bool false))] else .tup [.t (.v (.int .i64 (atIm s n))), .t (.v (.int .i64 (atRc (theIm s n) a))), .t (.v (.bool (decide (atRc (theIm s n) a ≥ 0))))]
theorem findR_solid (s : Sp) (n : Int) (a : Ad) : Solid (findR s n a) := by
  unfold findR
  split
  all_goals
    refine .tup _ fun c hc => ?_
    simp only [List.mem_cons, List.not_mem_nil, or_false] at hc
    rcases hc with rfl | rfl | rfl <;> exact .v _
theorem findR_n {s : Sp} {n : Int} {a : Ad} (h : atIm s n < 0) : findR s n a = .tup [.t (.v (.int .i64 0)), .t (.v (.int .i64 0)), .t (.v (.bool false))] := if_pos h
theorem findR_y {s : Sp} {n : Int} {a : Ad} (h : ¬ atIm s n < 0) : findR s n a = .tup [.t (.v (.int .i64 (atIm s n))), .t (.v (.int .i64 (atRc (theIm s n) a))), .t (.v (.bool (decide (atRc (theIm s n) a ≥ 0))))] := if_neg h
theorem pau_shl {t : Int} (h : 1 ≤ t) : (2 : Int) * 2 ^ (t - 1).toNat = pau t := rfl
def c58 : Ct := ctR (lc AInt l0) (fun p => True) (fun p => .t (.v (.bool (bOf (0 ≤ p.1 ∧ p.1 ≤ 9999)))))
section
attribute [local go_sem] c56
theorem good58 {G : Gt} (hG : OkG G) (hh : G.e 56 = roEnt 0 c56) : Gd G 58 (roEnt 0 c58) := by
  refine gR (dp := fun _ => true) (fn := Tryz.f58) (n := 1) (fun _ => rfl) (by kernel_rfl) rfl (by kernel_rfl) hG (Nat.le_of_ble_eq_true rfl) (by kernel_rfl) (by decide) (fun _ _ => .v _) ?_
  rintro ⟨n, ⟨⟩⟩ hpre
  simp -implicitDefEqProofs only [Tryz.f58, go_sem, hh] at hpre ⊢
  repeat' (first | with_reducible apply And.intro | with_reducible intro _ | ((first | apply brB_split | apply aPickB_split | apply gB_split | apply adB_split) <;> intro hb <;> simp -implicitDefEqProofs only [hb, go_sem, hh] <;> try simp only [qz] at hb))
  all_goals first | rfl | skip
end
def c132 : Ct := ctR (lc EIm.ag l0) (fun p => OkIm p.1) (fun p => .t (.v (.bool (bOf (ImOk p.1)))))
section
attribute [local go_sem] c55 c56 c58 c96 c160 c97 tmap dmap List.take_length List.drop_zero List.length_take List.length_drop List.length_map List.length_append List.length_cons List.length_nil List.map_append List.map_nil List.map_cons List.nil_append Nat.zero_add List.mem_singleton forall_eq Bool.not_true Bool.not_false bOf_t bOf_f
set_option maxHeartbeats 1600000 in
theorem good132 {G : Gt} (hG : OkG G) (hh : G.e 55 = roEnt 0 c55 ∧ G.e 56 = roEnt 0 c56 ∧ G.e 58 = roEnt 0 c58 ∧ G.e 96 = roEnt 0 c96 ∧ G.e 160 = roEnt 0 c160 ∧ G.e 97 = roEnt 0 c97) : Gd G 132 (roEnt 0 c132) := by
  refine gR (dp := fun _ => true) (fn := Tryz.f132) (n := 1) (fun _ => rfl) (by kernel_rfl) rfl (by kernel_rfl) hG (Nat.le_of_ble_eq_true rfl) (by kernel_rfl) (by decide) (fun _ _ => .v _) ?_
  rintro ⟨x, ⟨⟩⟩ hpre
  simp -implicitDefEqProofs only [Tryz.f132, go_sem, hh] at hpre ⊢
  obtain ⟨⟨_, hfd⟩, ⟨hl1, hto⟩, ⟨hl2, hbd⟩⟩ := hpre
  have hfd' : x.frm.domain.size ≤ 2000000 := by have : x.frm.domain.size ≤ 1048576 := hfd; omega
  have hbd' : ∀ s ∈ x.body, s.size ≤ 2000000 := fun s hs => by have : s.size ≤ 1048576 := hbd s hs; omega
  have hto' : ∀ j, j < x.to.length → (x.to.getD j default).addr.domain.size ≤ 2000000 := fun j hj => by have : (x.to.getD j default).addr.domain.size ≤ 1048576 := (hto _ (getD_mem hj)).2; omega
  repeat' (first | with_reducible apply And.intro | with_reducible intro _ | ((first | apply brB_split | apply aPickB_split | apply gB_split | apply adB_split) <;> intro hb <;> simp -implicitDefEqProofs only [hb, go_sem, hh] <;> try simp only [qz] at hb))
  all_goals first | rfl | skip
  refine run_loop [(3, 1903, true, 2)] (ι := {i : Nat // i ≤ x.to.length ∧ ∀ j, j < i → RcOk (x.to.getD j default)}) (fun p => ⟨[(1, .pb 1001 0), (3, .h 1903), (7, .t (.sl 4 (x.to.map encRc))), (8, .t (.v (.int .i64 x.to.length))), (9, .t (.v (.int .i64 p.1)))], [(1001, some (.box ((encIm x).map .t))), (1903, some (.arr true 2 (((x.to.map Rc.addr).take p.1).map encAd)))]⟩) (fun p => x.to.length - p.1) ⟨0, by simp, by simp⟩ rfl ?_ ?_
  · simp -implicitDefEqProofs only [go_sem, hh]
    simp
  · rintro ⟨i, hi, hall⟩
    by_cases hlt : (i : Int) < x.to.length
    · have hd := hto' i (by omega)
      have hlen : ((x.to.map Rc.addr).take i).length = i := by simp; omega
      simp -implicitDefEqProofs only [hlt, decide_true, Int.toNat_natCast, go_sem, hh]
      repeat' (first | with_reducible apply And.intro | with_reducible intro _ | ((first | apply brB_split | apply aPickB_split | apply gB_split | apply adB_split) <;> intro hb <;> simp -implicitDefEqProofs only [hb, go_sem, hh] <;> try simp only [qz] at hb))
      all_goals (try simp only [maxLen] at *)
      all_goals first | rfl | omega | assumption | decide | skip
      all_goals first
        | (rw [bOf_n (fun h => by have h1 := h.1 _ (getD_mem (xs := x.to) (j := i) (by omega)); first | exact hb h1.1 | exact hb h1.2.1 | exact hb h1.2.2)]; done)
        | skip
      refine ⟨⟨i + 1, by omega, all_step (P := RcOk) hall ⟨by assumption, by assumption, by assumption⟩⟩, by dsimp only; omega, ?_⟩
      simp -implicitDefEqProofs only [go_sem, hh]
      simp only [take_addr (show i < x.to.length by omega)]
      repeat' (first | with_reducible apply And.intro | with_reducible intro _ | ((first | apply brB_split | apply aPickB_split | apply gB_split | apply adB_split) <;> intro hb <;> simp -implicitDefEqProofs only [hb, go_sem, hh] <;> try simp only [qz] at hb))
      all_goals first | rfl | (simp; done) | (simp; omega)
    · have hA : ∀ r ∈ x.to, RcOk r := mem_getD fun j hj => hall j (by omega)
      simp -implicitDefEqProofs only [hlt, decide_false, go_sem, hh]
      repeat' (first | with_reducible apply And.intro | with_reducible intro _ | ((first | apply brB_split | apply aPickB_split | apply gB_split | apply adB_split) <;> intro hb <;> simp -implicitDefEqProofs only [hb, go_sem, hh] <;> try simp only [qz] at hb))
      all_goals (try simp only [maxLen] at *)
      all_goals first | rfl | omega | assumption | decide | exact hbd' _ (by assumption) | skip
      all_goals (try rw [List.take_of_length_le (by rw [List.length_map]; omega)] at hb)
      all_goals first
        | (rw [bOf_congr]
           exact ⟨fun h => ⟨hA, hb, by assumption, by assumption, by omega, h⟩, fun h => h.2.2.2.2.2⟩)
        | (rw [bOf_n]
           intro h
           first
             | exact hb h.2.1
             | exact hb h.2.2.1
             | exact hb h.2.2.2.1
             | exact hb (by have := h.2.2.2.2.1; omega))
        | trace_state
end
def c94 : Ct := ctR (lc ESp.ag l0) (fun p => OkSp p.1) (fun p => .t (.v (.bool (bOf (SpOk p.1)))))
section
attribute [local go_sem] c132 c56 tmap dmap List.take_length List.drop_zero List.length_take List.length_drop List.length_map List.length_append List.length_cons List.length_nil List.map_append List.map_nil List.map_cons List.nil_append Nat.zero_add List.mem_singleton forall_eq Bool.not_true Bool.not_false bOf_t bOf_f
set_option maxHeartbeats 1600000 in
theorem good94 {G : Gt} (hG : OkG G) (hh : G.e 132 = roEnt 0 c132 ∧ G.e 56 = roEnt 0 c56) : Gd G 94 (roEnt 0 c94) := by
  refine gR (dp := fun _ => true) (fn := Tryz.f94) (n := 1) (fun _ => rfl) (by kernel_rfl) rfl (by kernel_rfl) hG (Nat.le_of_ble_eq_true rfl) (by kernel_rfl) (by decide) (fun _ _ => .v _) ?_
  rintro ⟨s, ⟨⟩⟩ hpre
  simp -implicitDefEqProofs only [Tryz.f94, go_sem, hh] at hpre ⊢
  have hok' : OkL OkIm s.items := hpre
  have hmx := hok'.1
  repeat' (first | with_reducible apply And.intro | with_reducible intro _ | ((first | apply brB_split | apply aPickB_split | apply gB_split | apply adB_split) <;> intro hb <;> simp -implicitDefEqProofs only [hb, go_sem, hh] <;> try simp only [qz] at hb))
  all_goals first | rfl | skip
  refine run_loop [] (ι := {i : Nat // i ≤ s.items.length ∧ (∀ j, j < i → ImOk (s.items.getD j default) ∧ (s.items.getD j default).id ≤ s.last) ∧ ∀ j, 0 < j → j < i → (s.items.getD (j - 1) default).id < (s.items.getD j default).id}) (fun p => ⟨[(1, .pb 1001 0), (3, .t (.v (.int .i64 (if p.1 = 0 then 0 else (s.items.getD (p.1 - 1) default).id)))), (7, .t (.sl 5 (s.items.map encIm))), (8, .t (.v (.int .i64 s.items.length))), (9, .t (.v (.int .i64 p.1)))], [(1001, some (.box ((encSp s).map .t)))]⟩) (fun p => s.items.length - p.1) ⟨0, by simp, by simp, by simp⟩ rfl ?_ ?_
  · simp -implicitDefEqProofs only [go_sem, hh]
    simp
  · rintro ⟨i, hi, hall, hasc⟩
    have hgen : ∀ L : Int, L = (if i = 0 then 0 else (s.items.getD (i - 1) default).id) → True := fun _ _ => trivial
    obtain ⟨L, hL⟩ : ∃ L : Int, L = (if i = 0 then 0 else (s.items.getD (i - 1) default).id) := ⟨_, rfl⟩
    by_cases hlt : (i : Int) < s.items.length
    · have hok := hok'.at (i := i) (by omega)
      dsimp only
      rw [← hL]
      simp -implicitDefEqProofs only [hlt, decide_true, Int.toNat_natCast, go_sem, hh]
      repeat' (first | with_reducible apply And.intro | with_reducible intro _ | ((first | apply brB_split | apply aPickB_split | apply gB_split | apply adB_split) <;> intro hb <;> simp -implicitDefEqProofs only [hb, go_sem, hh] <;> try simp only [qz] at hb))
      all_goals (try simp only [maxLen] at *)
      all_goals first | rfl | omega | assumption | decide | skip
      all_goals (try have h0 := (show ImOk (s.items.getD i default) from by assumption).2.2.1)
      all_goals first
        | (rw [bOf_n]
           intro h
           have h1 := h.1 _ (getD_mem (xs := s.items) (j := i) (by omega))
           first
             | exact hb h1.1
             | omega
             | (by_cases e : i = 0
                · rw [if_pos e] at hL; omega
                · rw [if_neg e] at hL
                  have h2 := h.2.1 i (by omega) (by omega)
                  omega))
        | skip
      refine ⟨⟨i + 1, by omega, all_step (P := fun x : Im => ImOk x ∧ x.id ≤ s.last) hall ⟨by assumption, by omega⟩, fun j h0 hj => ?_⟩, by dsimp only; omega, ?_⟩
      · by_cases e : j = i
        · subst e
          rw [if_neg (by omega)] at hL
          omega
        · exact hasc j h0 (by omega)
      · simp -implicitDefEqProofs only [go_sem, hh]
        simp
    · dsimp only
      rw [← hL]
      simp -implicitDefEqProofs only [hlt, decide_false, go_sem, hh]
      repeat' (first | with_reducible apply And.intro | with_reducible intro _ | ((first | apply brB_split | apply aPickB_split | apply gB_split | apply adB_split) <;> intro hb <;> simp -implicitDefEqProofs only [hb, go_sem, hh] <;> try simp only [qz] at hb))
      all_goals (try simp only [maxLen] at *)
      all_goals first | rfl | omega | assumption | decide | skip
      · refine congrArg (fun b => T.v (Value.bool b)) ?_
        rw [← bOf_d, bOf_congr]
        exact ⟨fun h => ⟨mem_getD fun j hj => hall j (by omega), fun j h0 hj => hasc j h0 (by omega), hb, by omega⟩, fun h => by have := h.2.2.2; omega⟩
      · rw [bOf_n (fun h => hb h.2.2.1)]
end
def c142 : Ct := ctR (lc ERc.asl l0) (fun p => (p.1.length : Int) ≤ 1048576) (fun p => .o true 4 (p.1.map encRc))
section
attribute [local go_sem] aNil_n aNil_c List.length_map List.nil_append List.map_nil List.map_cons List.length_cons List.length_nil
theorem good142 {G : Gt} (hG : OkG G) : Gd G 142 (roEnt 0 c142) := by
  refine gR (dp := fun _ => true) (fn := Tryz.f142) (n := 1) (fun _ => rfl) (by kernel_rfl) rfl (by kernel_rfl) hG (Nat.le_of_ble_eq_true rfl) (by kernel_rfl) (by decide) (fun _ _ => .deep _ _) ?_
  rintro ⟨xs, ⟨⟩⟩ hpre
  dsimp only at hpre ⊢
  cases xs with
  | nil =>
    simp -implicitDefEqProofs only [Tryz.f142, go_sem]
    repeat' (first | with_reducible apply And.intro | with_reducible intro _ | ((first | apply brB_split | apply aPickB_split | apply gB_split | apply adB_split) <;> intro hb <;> simp -implicitDefEqProofs only [hb, go_sem] <;> try simp only [qz] at hb))
    all_goals (try simp only [maxLen, List.length_map] at *)
    all_goals first | rfl | omega | exact of_eq_true (AllV_Rc []) | (simp; done) | skip
  | cons x xs =>
    simp only [List.length_cons] at hpre
    simp -implicitDefEqProofs only [Tryz.f142, go_sem]
    repeat' (first | with_reducible apply And.intro | with_reducible intro _ | ((first | apply brB_split | apply aPickB_split | apply gB_split | apply adB_split) <;> intro hb <;> simp -implicitDefEqProofs only [hb, go_sem] <;> try simp only [qz] at hb))
    all_goals (try simp only [maxLen, List.length_map] at *)
    all_goals first | rfl | omega | exact of_eq_true (AllV_Rc (x :: xs)) | exact of_eq_true (len_Rc (x :: xs)) _ (by assumption) | (simp; done) | skip
end
def c103 : Ct := ctR (lc EStr.asl l0) (fun p => (p.1.length : Int) ≤ 1048576) (fun p => .o true 1 (p.1.map encStr))
section
attribute [local go_sem] aNil_n aNil_c List.length_map List.nil_append List.map_nil List.map_cons List.length_cons List.length_nil
theorem good103 {G : Gt} (hG : OkG G) : Gd G 103 (roEnt 0 c103) := by
  refine gR (dp := fun _ => true) (fn := Tryz.f103) (n := 1) (fun _ => rfl) (by kernel_rfl) rfl (by kernel_rfl) hG (Nat.le_of_ble_eq_true rfl) (by kernel_rfl) (by decide) (fun _ _ => .deep _ _) ?_
  rintro ⟨xs, ⟨⟩⟩ hpre
  dsimp only at hpre ⊢
  cases xs with
  | nil =>
    simp -implicitDefEqProofs only [Tryz.f103, go_sem]
    repeat' (first | with_reducible apply And.intro | with_reducible intro _ | ((first | apply brB_split | apply aPickB_split | apply gB_split | apply adB_split) <;> intro hb <;> simp -implicitDefEqProofs only [hb, go_sem] <;> try simp only [qz] at hb))
    all_goals (try simp only [maxLen, List.length_map] at *)
    all_goals first | rfl | omega | exact of_eq_true (AllV_Str []) | (simp; done) | skip
  | cons x xs =>
    simp only [List.length_cons] at hpre
    simp -implicitDefEqProofs only [Tryz.f103, go_sem]
    repeat' (first | with_reducible apply And.intro | with_reducible intro _ | ((first | apply brB_split | apply aPickB_split | apply gB_split | apply adB_split) <;> intro hb <;> simp -implicitDefEqProofs only [hb, go_sem] <;> try simp only [qz] at hb))
    all_goals (try simp only [maxLen, List.length_map] at *)
    all_goals first | rfl | omega | exact of_eq_true (AllV_Str (x :: xs)) | exact of_eq_true (len_Str (x :: xs)) _ (by assumption) | (simp; done) | skip
end
def c105 : Ct := ctR (lc ESp.ag l0) (fun p => OkSp p.1) (fun p => owSp p.1)
section
attribute [local go_sem] c142 c103 List.length_map List.length_append List.length_cons List.length_nil List.map_append List.mem_singleton forall_eq AS.nilb AS.renb Bool.not_false Bool.not_true List.set_cons_zero List.set_cons_succ List.set_nil
set_option maxHeartbeats 1600000 in
theorem good105 {G : Gt} (hG : OkG G) (hh : G.e 142 = roEnt 0 c142 ∧ G.e 103 = roEnt 0 c103) : Gd G 105 (roEnt 0 c105) := by
  refine gR (dp := fun _ => true) (fn := Tryz.f105) (n := 1) (fun _ => rfl) (by kernel_rfl) rfl (by kernel_rfl) hG (Nat.le_of_ble_eq_true rfl) (by kernel_rfl) (by decide) (fun _ p => owSp_solid _) ?_
  rintro ⟨s, ⟨⟩⟩ hpre
  simp -implicitDefEqProofs only [Tryz.f105, go_sem, hh] at hpre ⊢
  have hok' : OkL OkIm s.items := hpre
  have hmx := hok'.1
  repeat' (first | with_reducible apply And.intro | with_reducible intro _ | ((first | apply brB_split | apply aPickB_split | apply gB_split | apply adB_split) <;> intro hb <;> simp -implicitDefEqProofs only [hb, go_sem, hh] <;> try simp only [qz] at hb))
  all_goals first | rfl | skip
  refine run_loop [(3, 1903, true, 5)] (ι := {i : Nat // i ≤ s.items.length}) (fun p => ⟨[(1, .pb 1001 0), (2, .pb 1002 0), (3, .h 1903), (7, .t (.sl 5 (s.items.map encIm))), (8, .t (.v (.int .i64 s.items.length))), (9, .t (.v (.int .i64 p.1)))], [(1001, some (.box ((encSp s).map .t))), (1002, some (.box [.t (.v (.int .i64 0)), .nil])), (1903, some (.arr true 5 ((s.items.take p.1).map encIm)))]⟩) (fun p => s.items.length - p.1) ⟨0, by simp⟩ rfl ?_ ?_
  · simp -implicitDefEqProofs only [go_sem, hh]
    simp
  · rintro ⟨i, hi⟩
    by_cases hlt : (i : Int) < s.items.length
    · have hok := hok'.at (i := i) (by omega)
      obtain ⟨_, ⟨hl1, _⟩, ⟨hl2, _⟩⟩ := hok
      have hlen : (s.items.take i).length = i := by simp; omega
      simp -implicitDefEqProofs only [hlt, decide_true, Int.toNat_natCast, go_sem, hh]
      repeat' (first | with_reducible apply And.intro | with_reducible intro _ | ((first | apply brB_split | apply aPickB_split | apply gB_split | apply adB_split) <;> intro hb <;> simp -implicitDefEqProofs only [hb, go_sem, hh] <;> try simp only [qz] at hb))
      all_goals (try simp only [maxLen] at *)
      all_goals first | rfl | omega | assumption | decide | skip
      refine ⟨⟨i + 1, by omega⟩, by dsimp only; omega, ?_⟩
      simp -implicitDefEqProofs only [go_sem, hh]
      simp only [take_snoc_map encIm (show i < s.items.length by omega)]
      repeat' (first | with_reducible apply And.intro | with_reducible intro _ | ((first | apply brB_split | apply aPickB_split | apply gB_split | apply adB_split) <;> intro hb <;> simp -implicitDefEqProofs only [hb, go_sem, hh] <;> try simp only [qz] at hb))
      all_goals first | rfl | (simp; done) | trace_state
    · simp -implicitDefEqProofs only [hlt, decide_false, go_sem, hh]
      repeat' (first | with_reducible apply And.intro | with_reducible intro _ | ((first | apply brB_split | apply aPickB_split | apply gB_split | apply adB_split) <;> intro hb <;> simp -implicitDefEqProofs only [hb, go_sem, hh] <;> try simp only [qz] at hb))
      all_goals (try simp only [maxLen] at *)
      all_goals first | rfl | omega | assumption | decide | skip
      rw [List.take_of_length_le (by omega)]
end
theorem uT {p : Prop} (h : p) : T.v (Value.bool true) = T.v (Value.bool (bOf p)) := by rw [bOf_y h]
theorem uF {p : Prop} (h : ¬ p) : T.v (Value.bool false) = T.v (Value.bool (bOf p)) := by rw [bOf_n h]
theorem uE {p q : Prop} (h : p ↔ q) : T.v (Value.bool (bOf p)) = T.v (Value.bool (bOf q)) := by rw [bOf_congr h]
theorem uN {p q : Prop} (h : ¬ p ↔ q) : T.v (Value.bool (!bOf p)) = T.v (Value.bool (bOf q)) := by rw [bOf_not, bOf_congr h]
theorem uB {b : Bool} {q : Prop} (h : b = true ↔ q) : T.v (Value.bool b) = T.v (Value.bool (bOf q)) := by
  cases b
  · exact uF (fun q => by have := h.2 q; simp at this)
  · exact uT (h.1 rfl)
theorem uD {p q : Prop} [Decidable p] (h : p ↔ q) : T.v (Value.bool (decide p)) = T.v (Value.bool (bOf q)) := by rw [← bOf_d, bOf_congr h]
def cmpS (a b : ByteArray) : Int := Lib.compareBytes (bl a) (bl b)
theorem cmp_lt : ∀ a b : List UInt8, (Lib.compareBytes a b < 0) ↔ Op.bytesLess a b = true
  | [], [] => by simp [Lib.compareBytes, Op.bytesLess]
  | [], _ :: _ => by simp [Lib.compareBytes, Op.bytesLess]
  | _ :: _, [] => by simp [Lib.compareBytes, Op.bytesLess]
  | a :: x, b :: y => by
    have ih := cmp_lt x y
    simp only [Lib.compareBytes, Op.bytesLess, Bool.or_eq_true, Bool.and_eq_true, decide_eq_true_eq, beq_iff_eq]
    by_cases h1 : a < b
    · simp [h1]
    · by_cases h2 : b < a
      · have h3 : ¬ a = b := fun e => by subst e; exact absurd h2 (UInt8.lt_irrefl _)
        simp [h1, h2, h3]
      · have h3 : a = b := UInt8.le_antisymm (UInt8.not_lt.1 h2) (UInt8.not_lt.1 h1)
        have hir := UInt8.lt_irrefl b
        simp only [h3, hir, if_false, false_or, true_and]
        exact ih
theorem cmp_0 : ∀ a b : List UInt8, (Lib.compareBytes a b = 0) ↔ a = b
  | [], [] => by simp [Lib.compareBytes]
  | [], _ :: _ => by simp [Lib.compareBytes]
  | _ :: _, [] => by simp [Lib.compareBytes]
  | a :: x, b :: y => by
    have ih := cmp_0 x y
    simp only [Lib.compareBytes, List.cons.injEq]
    by_cases h1 : a < b
    · have h3 : ¬ a = b := fun e => by subst e; exact absurd h1 (UInt8.lt_irrefl _)
      simp [h1, h3]
    · by_cases h2 : b < a
      · have h3 : ¬ a = b := fun e => by subst e; exact absurd h2 (UInt8.lt_irrefl _)
        simp [h1, h2, h3]
      · have h3 : a = b := UInt8.le_antisymm (UInt8.not_lt.1 h2) (UInt8.not_lt.1 h1)
        simp only [h3, true_and]
        rw [if_neg (UInt8.lt_irrefl b), if_neg (UInt8.lt_irrefl b)]
        exact ih
theorem cmpS_lt (a b : ByteArray) : cmpS a b < 0 ↔ strLt a b = true := by
  unfold cmpS strLt
  rw [cmp_lt, toList_bl, toList_bl]
theorem cmpS_0 (a b : ByteArray) : cmpS a b = 0 ↔ a = b := by
  unfold cmpS
  rw [cmp_0]
  exact ⟨bl_inj, fun e => by rw [e]⟩
theorem cmpS_range : ∀ a b : List UInt8, -1 ≤ Lib.compareBytes a b ∧ Lib.compareBytes a b ≤ 1
  | [], [] => by simp [Lib.compareBytes]
  | [], _ :: _ => by simp [Lib.compareBytes]
  | _ :: _, [] => by simp [Lib.compareBytes]
  | a :: x, b :: y => by
    have ih := cmpS_range x y
    simp only [Lib.compareBytes]
    split
    · omega
    · split
      · omega
      · exact ih
def adLt (a b : Ad) : Prop := strLt a.domain b.domain = true ∨ (a.domain = b.domain ∧ strLt a.user b.user = true)
def byD (a b : Ad) : Int := if cmpS a.domain b.domain = 0 then cmpS a.user b.user else cmpS a.domain b.domain
theorem byD_lt (a b : Ad) : byD a b < 0 ↔ adLt a b := by
  unfold byD adLt
  by_cases h : cmpS a.domain b.domain = 0
  · rw [if_pos h, cmpS_lt]
    have h2 : ¬ strLt a.domain b.domain = true := fun q => by have := (cmpS_lt _ _).2 q; omega
    exact ⟨fun q => .inr ⟨(cmpS_0 _ _).1 h, q⟩, fun q => q.elim (fun q => absurd q h2) fun q => q.2⟩
  · rw [if_neg h, cmpS_lt]
    exact ⟨.inl, fun q => q.elim id fun q => absurd ((cmpS_0 _ _).2 q.1) h⟩
def orI : List Int → Int
  | [] => 0
  | x :: r => if x = 0 then orI r else x
theorem decI2 {x y : Int} : EInt.decL [[.v (.int .i64 x)], [.v (.int .i64 y)]] = some [x, y] := EInt.decL_map [x, y]
theorem orI_step {xs : List Int} {i : Nat} (h : i < xs.length) : orI (xs.drop i) = if xs.getD i default = 0 then orI (xs.drop (i + 1)) else xs.getD i default := by
  rw [getD_drop h]; rfl
def c180 : Ct := ctR (lc AStr (lc AStr l0)) (fun _ => True) (fun p => .t (.v (.int .i64 (cmpS p.1 p.2.1))))
theorem good180 (m : Int) : GoodX Tryz.prog m 180 c180 := GoodX.of (r := fun (p : ByteArray × ByteArray × Unit) => .int .i64 (cmpS p.1 p.2.1)) (fun _ => trivial) fun p _ => by
  obtain ⟨s, c, ⟨⟩⟩ := p
  intro w pr vs hgl hv
  have := two_args hv
  subst this
  have he : Extern.find Tryz.f180 = some Extern.BytealgCompare.compare := by kernel_rfl
  rw [run_callFunc_extern (fn := Tryz.f180) (by kernel_rfl) (by kernel_rfl) rfl (by kernel_rfl) he]
  have h := Lib.run_compareString (P := Tryz.prog) s c w
  rw [show ([Value.string s, Value.string c].toArray) = #[.string s, .string c] from rfl, h]
  rfl
def CfOk (c : Cf) : Prop := (∀ s ∈ c.own, Dom s) ∧ (∀ w ∈ c.ways, Dom w.ends ∧ Dom w.to) ∧ Dom c.name ∧ (c.own.length : Int) ≤ 3 ∧ (c.ways.length : Int) ≤ 4
def c162 : Ct := ctR (lc AStr (lc AStr l0)) (fun p => True) (fun p => .t (.v (.int .i64 (cmpS p.1 p.2.1))))
section
attribute [local go_sem] c180
theorem good162 {G : Gt} (hG : OkG G) (hh : G.e 180 = roEnt 3 c180) : Gd G 162 (roEnt 0 c162) := by
  refine gR (dp := fun _ => true) (fn := Tryz.f162) (n := 2) (fun _ => rfl) (by kernel_rfl) rfl (by kernel_rfl) hG (Nat.le_of_ble_eq_true rfl) (by kernel_rfl) (by decide) (fun _ _ => .v _) ?_
  rintro ⟨a, b, ⟨⟩⟩ hpre
  simp -implicitDefEqProofs only [Tryz.f162, go_sem, hh] at hpre ⊢
  repeat' (first | with_reducible apply And.intro | with_reducible intro _ | ((first | apply brB_split | apply aPickB_split | apply gB_split | apply adB_split) <;> intro hb <;> simp -implicitDefEqProofs only [hb, go_sem, hh] <;> try simp only [qz] at hb))
  all_goals first | rfl | omega | trace_state
end
def c138 : Ct := ctR (lc AStr (lc AStr l0)) (fun p => True) (fun p => .t (.v (.int .i64 (cmpS p.1 p.2.1))))
section
attribute [local go_sem] c162
theorem good138 {G : Gt} (hG : OkG G) (hh : G.e 162 = roEnt 0 c162) : Gd G 138 (roEnt 0 c138) := by
  refine gR (dp := fun _ => true) (fn := Tryz.f138) (n := 2) (fun _ => rfl) (by kernel_rfl) rfl (by kernel_rfl) hG (Nat.le_of_ble_eq_true rfl) (by kernel_rfl) (by decide) (fun _ _ => .v _) ?_
  rintro ⟨a, b, ⟨⟩⟩ hpre
  simp -implicitDefEqProofs only [Tryz.f138, go_sem, hh] at hpre ⊢
  repeat' (first | with_reducible apply And.intro | with_reducible intro _ | ((first | apply brB_split | apply aPickB_split | apply gB_split | apply adB_split) <;> intro hb <;> simp -implicitDefEqProofs only [hb, go_sem, hh] <;> try simp only [qz] at hb))
  all_goals first | rfl | omega | trace_state
end
def c137 : Ct := ctR (lc EInt.asl l0) (fun p => True) (fun p => .t (.v (.int .i64 (orI p.1))))
section
attribute [local go_sem] List.length_map
theorem good137 {G : Gt} (hG : OkG G) : Gd G 137 (roEnt 0 c137) := by
  refine gR (dp := fun _ => true) (fn := Tryz.f137) (n := 1) (fun _ => rfl) (by kernel_rfl) rfl (by kernel_rfl) hG (Nat.le_of_ble_eq_true rfl) (by kernel_rfl) (by decide) (fun _ _ => .v _) ?_
  rintro ⟨xs, ⟨⟩⟩ hpre
  simp -implicitDefEqProofs only [Tryz.f137, go_sem] at hpre ⊢
  repeat' (first | with_reducible apply And.intro | with_reducible intro _ | ((first | apply brB_split | apply aPickB_split | apply gB_split | apply adB_split) <;> intro hb <;> simp -implicitDefEqProofs only [hb, go_sem] <;> try simp only [qz] at hb))
  all_goals first | rfl | omega | skip
  refine run_loop [] (ι := {i : Nat // i ≤ xs.length ∧ orI xs = orI (xs.drop i)}) (fun p => ⟨[(3, .t (.v (.int .i64 0))), (6, .t (.sl 1 (xs.map encInt))), (7, .t (.v (.int .i64 xs.length))), (8, .t (.v (.int .i64 p.1)))], []⟩) (fun p => xs.length - p.1) ⟨0, by simp, rfl⟩ rfl ?_ ?_
  · simp -implicitDefEqProofs only [go_sem]
    simp
  · rintro ⟨i, hi, hor⟩
    by_cases hlt : (i : Int) < xs.length
    · have hs := orI_step (xs := xs) (i := i) (by omega)
      simp -implicitDefEqProofs only [hlt, decide_true, Int.toNat_natCast, go_sem]
      repeat' (first | with_reducible apply And.intro | with_reducible intro _ | ((first | apply brB_split | apply aPickB_split | apply gB_split | apply adB_split) <;> intro hb <;> simp -implicitDefEqProofs only [hb, go_sem] <;> try simp only [qz] at hb))
      all_goals (try simp only [maxLen] at *)
      all_goals first | rfl | omega | skip
      · rw [hor, hs, if_neg (by assumption)]
      · refine ⟨⟨i + 1, by omega, by rw [hor, hs, if_pos (by simpa using hb)]⟩, by dsimp only; omega, ?_⟩
        simp -implicitDefEqProofs only [go_sem]
        simp
    · simp -implicitDefEqProofs only [hlt, decide_false, go_sem]
      repeat' (first | with_reducible apply And.intro | with_reducible intro _ | ((first | apply brB_split | apply aPickB_split | apply gB_split | apply adB_split) <;> intro hb <;> simp -implicitDefEqProofs only [hb, go_sem] <;> try simp only [qz] at hb))
      all_goals first | rfl | omega | skip
      rw [hor, List.drop_eq_nil_of_le (by omega)]
      rfl
end
def c100 : Ct := ctR (lc EAd.ag (lc EAd.ag l0)) (fun p => True) (fun p => .t (.v (.int .i64 (byD p.1 p.2.1))))
section
attribute [local go_sem] c138 c137 decI2
theorem good100 {G : Gt} (hG : OkG G) (hh : G.e 138 = roEnt 0 c138 ∧ G.e 137 = roEnt 0 c137) : Gd G 100 (roEnt 0 c100) := by
  refine gR (dp := fun _ => true) (fn := Tryz.f100) (n := 2) (fun _ => rfl) (by kernel_rfl) rfl (by kernel_rfl) hG (Nat.le_of_ble_eq_true rfl) (by kernel_rfl) (by decide) (fun _ _ => .v _) ?_
  rintro ⟨a, b, ⟨⟩⟩ hpre
  simp -implicitDefEqProofs only [Tryz.f100, go_sem, hh] at hpre ⊢
  repeat' (first | with_reducible apply And.intro | with_reducible intro _ | ((first | apply brB_split | apply aPickB_split | apply gB_split | apply adB_split) <;> intro hb <;> simp -implicitDefEqProofs only [hb, go_sem, hh] <;> try simp only [qz] at hb))
  all_goals first | rfl | omega | skip
  all_goals
    refine congrArg (fun z => T.v (Value.int .i64 z)) ?_
    simp only [orI, byD]
    by_cases h : cmpS a.domain b.domain = 0
    · rw [if_pos h, if_pos h]
      by_cases h2 : cmpS a.user b.user = 0
      · rw [if_pos h2, h2]
      · rw [if_neg h2]
    · rw [if_neg h, if_neg h]
end
def c84 : Ct := ctR (lc EAd.ag (lc EAd.ag l0)) (fun p => True) (fun p => .t (.v (.bool (bOf (adLt p.1 p.2.1)))))
theorem good84 {G : Gt} (hG : OkG G) : Gd G 84 (roEnt 0 c84) := by
  refine gR (dp := fun _ => true) (fn := Tryz.f84) (n := 2) (fun _ => rfl) (by kernel_rfl) rfl (by kernel_rfl) hG (Nat.le_of_ble_eq_true rfl) (by kernel_rfl) (by decide) (fun _ _ => .v _) ?_
  rintro ⟨a, b, ⟨⟩⟩ hpre
  simp -implicitDefEqProofs only [Tryz.f84, go_sem] at hpre ⊢
  repeat' (first | with_reducible apply And.intro | with_reducible intro _ | ((first | apply brB_split | apply aPickB_split | apply gB_split | apply adB_split) <;> intro hb <;> simp -implicitDefEqProofs only [hb, go_sem] <;> try simp only [qz] at hb))
  all_goals first | rfl | omega | skip
  all_goals first
    | exact uT (.inl (by assumption))
    | exact uB ⟨fun q => .inr ⟨by assumption, q⟩, fun q => q.elim (fun q => by simp_all) fun q => q.2⟩
    | exact uF (fun q => q.elim (fun q => by simp_all) fun q => by simp_all)
    | trace_state
def BxOk (b : Bx) : Prop := (∀ g ∈ b.mails, (AdOk g.frm ∨ AdNull g.frm) ∧ BdOk g.body) ∧ AdOk b.addr
def BxAt (h : Hs) (j : Nat) : Prop := BxOk (h.boxes.getD j default) ∧ (0 < j → adLt (h.boxes.getD (j - 1) default).addr (h.boxes.getD j default).addr) ∧ (h.boxes.getD j default).addr.domain ∈ h.conf.own
def HsOk (h : Hs) : Prop := (∀ j, j < h.boxes.length → BxAt h j) ∧ CfOk h.conf ∧ SpOk h.spool
theorem bx_step {P : Nat → Prop} {i : Nat} (h : ∀ j, j < i → P j) (hi : P i) : ∀ j, j < i + 1 → P j := fun j hj => by
  by_cases e : j = i
  · rw [e]; exact hi
  · exact h j (by omega)
theorem not_mem {xs : List ByteArray} {a : ByteArray} (h : ∀ j, j < xs.length → ¬ xs.getD j default = a) : ¬ a ∈ xs := fun hm => by
  obtain ⟨j, hj, e⟩ := List.getElem_of_mem hm
  exact h j hj (by simp [hj, e])
def c86 : Ct := ctR (lc ECf.ag l0) (fun p => True) (fun p => .t (.v (.bool (bOf (CfOk p.1)))))
section
attribute [local go_sem] c89 bOf_t bOf_f List.length_map
set_option maxHeartbeats 1600000 in
theorem good86 {G : Gt} (hG : OkG G) (hh : G.e 89 = roEnt 0 c89) : Gd G 86 (roEnt 0 c86) := by
  refine gR (dp := fun _ => true) (fn := Tryz.f86) (n := 1) (fun _ => rfl) (by kernel_rfl) rfl (by kernel_rfl) hG (Nat.le_of_ble_eq_true rfl) (by kernel_rfl) (by decide) (fun _ _ => .v _) ?_
  rintro ⟨c, ⟨⟩⟩ hpre
  simp -implicitDefEqProofs only [Tryz.f86, go_sem, hh] at hpre ⊢
  refine run_loop [] (ι := {i : Nat // i ≤ c.own.length ∧ ∀ j, j < i → Dom (c.own.getD j default)}) (fun p => ⟨[(1, .pb 1001 0), (3, .t (.v (.int .i64 p.1)))], [(1001, some (.box ((encCf c).map .t)))]⟩) (fun p => c.own.length - p.1) ⟨0, by simp, by simp⟩ rfl ?_ ?_
  · simp -implicitDefEqProofs only [go_sem, hh]
    simp
  · rintro ⟨i, hi, hall⟩
    by_cases hlt : (i : Int) < c.own.length
    · simp -implicitDefEqProofs only [hlt, decide_true, Int.toNat_natCast, go_sem, hh]
      repeat' (first | with_reducible apply And.intro | with_reducible intro _ | ((first | apply brB_split | apply aPickB_split | apply gB_split | apply adB_split) <;> intro hb <;> simp -implicitDefEqProofs only [hb, go_sem, hh] <;> try simp only [qz] at hb))
      all_goals (try simp only [maxLen] at *)
      all_goals first | rfl | omega | skip
      · exact uF (fun h => hb (h.1 _ (getD_mem (by omega))))
      · refine ⟨⟨i + 1, by omega, bx_step hall hb⟩, by dsimp only; omega, ?_⟩
        simp -implicitDefEqProofs only [go_sem, hh]
        simp
    · have hA : ∀ s ∈ c.own, Dom s := mem_getD fun j hj => hall j (by omega)
      simp -implicitDefEqProofs only [hlt, decide_false, go_sem, hh]
      repeat' (first | with_reducible apply And.intro | with_reducible intro _ | ((first | apply brB_split | apply aPickB_split | apply gB_split | apply adB_split) <;> intro hb <;> simp -implicitDefEqProofs only [hb, go_sem, hh] <;> try simp only [qz] at hb))
      all_goals first | rfl | omega | skip
      refine run_loop [] (ι := {i : Nat // i ≤ c.ways.length ∧ ∀ j, j < i → Dom (c.ways.getD j default).ends ∧ Dom (c.ways.getD j default).to}) (fun p => ⟨[(1, .pb 1001 0), (4, .t (.v (.int .i64 p.1)))], [(1001, some (.box ((encCf c).map .t)))]⟩) (fun p => c.ways.length - p.1) ⟨0, by simp, by simp⟩ rfl ?_ ?_
      · simp -implicitDefEqProofs only [go_sem, hh]
        simp
      · rintro ⟨k, hk, hall2⟩
        by_cases hlt2 : (k : Int) < c.ways.length
        · simp -implicitDefEqProofs only [hlt2, decide_true, Int.toNat_natCast, go_sem, hh]
          repeat' (first | with_reducible apply And.intro | with_reducible intro _ | ((first | apply brB_split | apply aPickB_split | apply gB_split | apply adB_split) <;> intro hb <;> simp -implicitDefEqProofs only [hb, go_sem, hh] <;> try simp only [qz] at hb))
          all_goals (try simp only [maxLen] at *)
          all_goals first
            | rfl
            | omega
            | exact uF (fun h => hb (h.2.1 _ (getD_mem (by omega))).1)
            | exact uF (fun h => hb (h.2.1 _ (getD_mem (by omega))).2)
            | skip
          refine ⟨⟨k + 1, by omega, bx_step (P := fun j => Dom (c.ways.getD j default).ends ∧ Dom (c.ways.getD j default).to) hall2 ⟨by assumption, by assumption⟩⟩, by dsimp only; omega, ?_⟩
          simp -implicitDefEqProofs only [go_sem, hh]
          simp
        · have hB : ∀ w ∈ c.ways, Dom w.ends ∧ Dom w.to := mem_getD fun j hj => hall2 j (by omega)
          simp -implicitDefEqProofs only [hlt2, decide_false, go_sem, hh]
          repeat' (first | with_reducible apply And.intro | with_reducible intro _ | ((first | apply brB_split | apply aPickB_split | apply gB_split | apply adB_split) <;> intro hb <;> simp -implicitDefEqProofs only [hb, go_sem, hh] <;> try simp only [qz] at hb))
          all_goals first
            | rfl
            | omega
            | exact uD ⟨fun q => ⟨hA, hB, by assumption, by omega, q⟩, fun q => q.2.2.2.2⟩
            | exact uF (fun q => absurd q.2.2.1 (by assumption))
            | exact uF (fun q => by have h1 := q.2.2.2.1; have h2 := q.2.2.2.2; omega)
            | trace_state
end
def c85 : Ct := ctR (lc ECf.ag (lc EAd.ag l0)) (fun p => True) (fun p => .t (.v (.bool (bOf (p.2.1.domain ∈ p.1.own)))))
section
attribute [local go_sem] List.length_map
theorem good85 {G : Gt} (hG : OkG G) : Gd G 85 (roEnt 0 c85) := by
  refine gR (dp := fun _ => true) (fn := Tryz.f85) (n := 2) (fun _ => rfl) (by kernel_rfl) rfl (by kernel_rfl) hG (Nat.le_of_ble_eq_true rfl) (by kernel_rfl) (by decide) (fun _ _ => .v _) ?_
  rintro ⟨c, a, ⟨⟩⟩ hpre
  simp -implicitDefEqProofs only [Tryz.f85, go_sem] at hpre ⊢
  refine run_loop [] (ι := {i : Nat // i ≤ c.own.length ∧ ∀ j, j < i → ¬ c.own.getD j default = a.domain}) (fun p => ⟨[(2, .pb 1002 0), (3, .pb 1003 0), (5, .t (.v (.int .i64 p.1)))], [(1002, some (.box ((encCf c).map .t))), (1003, some (.box ((encAd a).map .t)))]⟩) (fun p => c.own.length - p.1) ⟨0, by simp, by simp⟩ rfl ?_ ?_
  · simp -implicitDefEqProofs only [go_sem]
    simp
  · rintro ⟨i, hi, hall⟩
    by_cases hlt : (i : Int) < c.own.length
    · simp -implicitDefEqProofs only [hlt, decide_true, Int.toNat_natCast, go_sem]
      repeat' (first | with_reducible apply And.intro | with_reducible intro _ | ((first | apply brB_split | apply aPickB_split | apply gB_split | apply adB_split) <;> intro hb <;> simp -implicitDefEqProofs only [hb, go_sem] <;> try simp only [qz] at hb))
      all_goals (try simp only [maxLen] at *)
      all_goals first | rfl | omega | skip
      · exact uT (by rw [← hb]; exact getD_mem (by omega))
      · refine ⟨⟨i + 1, by omega, bx_step hall hb⟩, by dsimp only; omega, ?_⟩
        simp -implicitDefEqProofs only [go_sem]
        simp
    · simp -implicitDefEqProofs only [hlt, decide_false, go_sem]
      repeat' (first | with_reducible apply And.intro | with_reducible intro _ | ((first | apply brB_split | apply aPickB_split | apply gB_split | apply adB_split) <;> intro hb <;> simp -implicitDefEqProofs only [hb, go_sem] <;> try simp only [qz] at hb))
      all_goals first | rfl | omega | skip
      exact uF (not_mem fun j hj => hall j (by omega))
end
def c83 : Ct := ctR (lc EBx.ag l0) (fun p => True) (fun p => .t (.v (.bool (bOf (BxOk p.1)))))
section
attribute [local go_sem] c121 c48 c41 bOf_t bOf_f List.length_map
set_option maxHeartbeats 1600000 in
theorem good83 {G : Gt} (hG : OkG G) (hh : G.e 121 = roEnt 0 c121 ∧ G.e 48 = roEnt 0 c48 ∧ G.e 41 = roEnt 0 c41) : Gd G 83 (roEnt 0 c83) := by
  refine gR (dp := fun _ => true) (fn := Tryz.f83) (n := 1) (fun _ => rfl) (by kernel_rfl) rfl (by kernel_rfl) hG (Nat.le_of_ble_eq_true rfl) (by kernel_rfl) (by decide) (fun _ _ => .v _) ?_
  rintro ⟨b, ⟨⟩⟩ hpre
  simp -implicitDefEqProofs only [Tryz.f83, go_sem, hh] at hpre ⊢
  refine run_loop [] (ι := {i : Nat // i ≤ b.mails.length ∧ ∀ j, j < i → (AdOk (b.mails.getD j default).frm ∨ AdNull (b.mails.getD j default).frm) ∧ BdOk (b.mails.getD j default).body}) (fun p => ⟨[(1, .pb 1001 0), (3, .t (.v (.int .i64 p.1)))], [(1001, some (.box ((encBx b).map .t)))]⟩) (fun p => b.mails.length - p.1) ⟨0, by simp, by simp⟩ rfl ?_ ?_
  · simp -implicitDefEqProofs only [go_sem, hh]
    simp
  · rintro ⟨i, hi, hall⟩
    by_cases hlt : (i : Int) < b.mails.length
    · simp -implicitDefEqProofs only [hlt, decide_true, Int.toNat_natCast, go_sem, hh]
      repeat' (first | with_reducible apply And.intro | with_reducible intro _ | ((first | apply brB_split | apply aPickB_split | apply gB_split | apply adB_split) <;> intro hb <;> simp -implicitDefEqProofs only [hb, go_sem, hh] <;> try simp only [qz] at hb))
      all_goals (try simp only [maxLen, Int.toNat_natCast] at *)
      all_goals first
        | rfl
        | omega
        | exact uF (fun h => absurd (h.1 (b.mails.getD i default) (getD_mem (by omega))).2 (by assumption))
        | exact uF (fun h => (h.1 (b.mails.getD i default) (getD_mem (by omega))).1.elim (fun q => absurd q (by assumption)) fun q => absurd q (by assumption))
        | skip
      all_goals
        refine ⟨⟨i + 1, by omega, bx_step (P := fun j => (AdOk (b.mails.getD j default).frm ∨ AdNull (b.mails.getD j default).frm) ∧ BdOk (b.mails.getD j default).body) hall ⟨by first | exact .inl (by assumption) | exact .inr (by assumption), by assumption⟩⟩, by dsimp only; omega, ?_⟩
        simp -implicitDefEqProofs only [go_sem, hh]
        simp
    · have hA : ∀ g ∈ b.mails, (AdOk g.frm ∨ AdNull g.frm) ∧ BdOk g.body := mem_getD (P := fun g : Gm => (AdOk g.frm ∨ AdNull g.frm) ∧ BdOk g.body) fun j hj => hall j (by omega)
      simp -implicitDefEqProofs only [hlt, decide_false, go_sem, hh]
      repeat' (first | with_reducible apply And.intro | with_reducible intro _ | ((first | apply brB_split | apply aPickB_split | apply gB_split | apply adB_split) <;> intro hb <;> simp -implicitDefEqProofs only [hb, go_sem, hh] <;> try simp only [qz] at hb))
      all_goals first | rfl | omega | exact uE ⟨fun q => ⟨hA, q⟩, fun q => q.2⟩ | trace_state
end
def c47 : Ct := ctR (lc EHs.ag l0) (fun p => True) (fun p => .t (.v (.bool (bOf (HsOk p.1)))))
section
attribute [local go_sem] c83 c84 c85 c86 c87 bOf_t bOf_f List.length_map
set_option maxHeartbeats 6400000 in
theorem good47 {G : Gt} (hG : OkG G) (hh : G.e 83 = roEnt 0 c83 ∧ G.e 84 = roEnt 0 c84 ∧ G.e 85 = roEnt 0 c85 ∧ G.e 86 = roEnt 0 c86 ∧ G.e 87 = roEnt 0 c87) : Gd G 47 (roEnt 0 c47) := by
  refine gR (dp := fun _ => true) (fn := Tryz.f47) (n := 1) (fun _ => rfl) (by kernel_rfl) rfl (by kernel_rfl) hG (Nat.le_of_ble_eq_true rfl) (by kernel_rfl) (by decide) (fun _ _ => .v _) ?_
  rintro ⟨h, ⟨⟩⟩ hpre
  simp -implicitDefEqProofs only [Tryz.f47, go_sem, hh] at hpre ⊢
  refine run_loop [] (ι := {i : Nat // i ≤ h.boxes.length ∧ ∀ j, j < i → BxAt h j}) (fun p => ⟨[(1, .pb 1001 0), (3, .t (.v (.int .i64 p.1)))], [(1001, some (.box ((encHs h).map .t)))]⟩) (fun p => h.boxes.length - p.1) ⟨0, by simp, by simp⟩ rfl ?_ ?_
  · simp -implicitDefEqProofs only [go_sem, hh]
    simp
  · rintro ⟨i, hi, hall⟩
    by_cases hlt : (i : Int) < h.boxes.length
    · simp -implicitDefEqProofs only [hlt, decide_true, Int.toNat_natCast, go_sem, hh]
      repeat' (first | with_reducible apply And.intro | with_reducible intro _ | ((first | apply brB_split | apply aPickB_split | apply gB_split | apply adB_split) <;> intro hb <;> simp -implicitDefEqProofs only [hb, go_sem, hh] <;> try simp only [qz] at hb))
      all_goals (try simp only [maxLen, Int.toNat_natCast] at *)
      all_goals have hnat : ((i : Int) - 1).toNat = i - 1 := by omega
      all_goals first
        | rfl
        | omega
        | exact uF (fun q => absurd (q.1 i (by omega)).1 (by assumption))
        | exact uF (fun q => absurd (q.1 i (by omega)).2.2 (by assumption))
        | exact uF (fun q => absurd ((q.1 i (by omega)).2.1 (by omega)) (by rw [← hnat]; assumption))
        | skip
      all_goals
        refine ⟨⟨i + 1, by omega, bx_step hall ⟨by assumption, fun _ => by first | (rw [← hnat]; assumption) | (exfalso; omega), by assumption⟩⟩, by dsimp only; omega, ?_⟩
        simp -implicitDefEqProofs only [go_sem, hh]
        simp
    · simp -implicitDefEqProofs only [hlt, decide_false, go_sem, hh]
      repeat' (first | with_reducible apply And.intro | with_reducible intro _ | ((first | apply brB_split | apply aPickB_split | apply gB_split | apply adB_split) <;> intro hb <;> simp -implicitDefEqProofs only [hb, go_sem, hh] <;> try simp only [qz] at hb))
      all_goals first
        | rfl
        | omega
        | exact uE ⟨fun q => ⟨fun j hj => hall j (by omega), by assumption, q⟩, fun q => q.2.2⟩
        | exact uF (fun q => absurd q.2.1 (by assumption))
        | trace_state
end
inductive FGm where
  | bad
def FGm.enc : FGm → AV
  | .bad  => .t (.fn 95 [])
def FGm.dec : AV → Option FGm
  | .t (.fn 95 []) => some (.bad )
  | _ => none
def FGm.sem : FGm → Gm → Prop
  | .bad , x => ¬ ((AdOk x.frm ∨ AdNull x.frm) ∧ BdOk x.body)
def FGm.pre : FGm → Gm → Prop
  | .bad , x => x.frm.domain.size ≤ 2000000 ∧ ∀ s ∈ x.body, s.size ≤ 2000000
def AFGm : AD FGm where
  enc := FGm.enc
  dec := FGm.dec
  ed := fun f => by cases f <;> rfl
  de := fun x f h => by
    unfold FGm.dec at h
    split at h <;> cases h <;> rfl
theorem AFGm_d0  : AFGm.dec (.t (.fn 95 [])) = some (.bad ) := rfl
theorem AFGm_e0  : AFGm.enc (.bad ) = .t (.fn 95 []) := rfl
def c95 : Ct := ctR (lc EGm.ag l0) (fun p => p.1.frm.domain.size ≤ 2000000 ∧ ∀ s ∈ p.1.body, s.size ≤ 2000000) (fun p => .t (.v (.bool (bOf (¬ ((AdOk p.1.frm ∨ AdNull p.1.frm) ∧ BdOk p.1.body))))))
section
attribute [local go_sem] c96 c97 ap_enc ap_dec AFn0_dec AFn0_enc Bool.not_true Bool.not_false ty214 lv37
theorem good95 {G : Gt} (hG : OkG G) (hh : G.e 96 = roEnt 0 c96 ∧ G.e 97 = roEnt 0 c97) : Gd G 95 (roEnt 0 c95) := by
  refine gR (dp := fun _ => true) (fn := Tryz.f95) (n := 1) (fun _ => rfl) (by kernel_rfl) rfl (by kernel_rfl) hG (Nat.le_of_ble_eq_true rfl) (by kernel_rfl) (by decide) (fun _ _ => .v _) ?_
  rintro ⟨x, ⟨⟩⟩ hpre
  simp -implicitDefEqProofs only [Tryz.f95, go_sem, hh] at hpre ⊢
  repeat' (first | with_reducible apply And.intro | with_reducible intro _ | ((first | apply brB_split | apply aPickB_split | apply gB_split | apply adB_split) <;> intro hb <;> simp -implicitDefEqProofs only [hb, go_sem, hh] <;> try simp only [qz] at hb))
  all_goals first | rfl | omega | exact hpre.1 | exact hpre.2 | exact hpre.2 _ (by assumption) | skip
  all_goals first
    | exact uT (fun h => absurd h.1 (by assumption))
    | exact uN ⟨fun h q => h q.2, fun h q => h ⟨by assumption, q⟩⟩
    | trace_state
end
def c136 : Ct := ctR (lc EGm.asl (lc AFGm l0)) (fun p => ∀ x ∈ p.1, p.2.1.pre x) (fun p => .t (.v (.int .i64 (ixP p.2.1.sem 0 p.1))))
section
attribute [local go_sem] c95 ap_enc ap_dec AFn0_dec AFn0_enc Bool.not_true Bool.not_false ty214 lv37 AFGm_d0 AFGm_e0
theorem good136 {G : Gt} (hG : OkG G) (hh : G.e 95 = roEnt 0 c95) : Gd G 136 (roEnt 0 c136) := by
  refine gR (dp := fun _ => true) (fn := Tryz.f136) (n := 2) (fun _ => rfl) (by kernel_rfl) rfl (by kernel_rfl) hG (Nat.le_of_ble_eq_true rfl) (by kernel_rfl) (by decide) (fun _ _ => .v _) ?_
  rintro ⟨xs, f, ⟨⟩⟩ hpre
  have hs := hpre
  dsimp only at hs ⊢
  cases f with
  | bad  =>
    simp -implicitDefEqProofs only [Tryz.f136, go_sem, hh]
    repeat' (first | with_reducible apply And.intro | with_reducible intro _ | ((first | apply brB_split | apply aPickB_split | apply gB_split | apply adB_split) <;> intro hb <;> simp -implicitDefEqProofs only [hb, go_sem, hh] <;> try simp only [qz] at hb))
    all_goals first | rfl | omega | skip
    refine run_loop [] (ι := {i : Nat // i ≤ xs.length ∧ ixP (FGm.sem (.bad )) 0 xs = ixP (FGm.sem (.bad )) i (xs.drop i)}) (fun p => ⟨[(0, .t (.sl 3 (xs.map encGm))), (1, .t (.fn 95 [])), (7, .t (.v (.int .i64 xs.length))), (8, .t (.v (.int .i64 p.1)))], []⟩) (fun p => xs.length - p.1) ⟨0, Nat.zero_le _, rfl⟩ rfl ?_ ?_
    · simp -implicitDefEqProofs only [go_sem, hh]
      try simp
    · rintro ⟨i, hi, hix⟩
      by_cases hlt : (i : Int) < xs.length
      · have hm : xs.getD (i : Int).toNat default ∈ xs := getD_mem (by omega)
        have hsz := hs _ hm
        cases hb : bOf (¬ ((AdOk (xs.getD (i : Int).toNat default).frm ∨ AdNull (xs.getD (i : Int).toNat default).frm) ∧ BdOk (xs.getD (i : Int).toNat default).body))
        · have hq := hb
          simp -implicitDefEqProofs only [hlt, hq, go_sem, hh]
          repeat' (first | with_reducible apply And.intro | with_reducible intro _ | ((first | apply brB_split | apply aPickB_split | apply gB_split | apply adB_split) <;> intro hb <;> simp -implicitDefEqProofs only [hb, go_sem, hh] <;> try simp only [qz] at hb))
          all_goals (try simp only [maxLen] at *)
          all_goals first | rfl | omega | with_reducible assumption | exact hsz | exact hsz.1 | exact hsz.2 | exact hsz.2 _ (by assumption) | exact hsz.2.1 | exact hsz.2.2.1 | exact hsz.2.2.2 | trivial | skip
          rw [bOf_f, Int.toNat_natCast] at hb
          refine ⟨⟨i + 1, by omega, ?_⟩, by dsimp only; omega, ?_⟩
          · rw [hix, ixP_no (p := FGm.sem (.bad )) (by omega) hb]
          · simp -implicitDefEqProofs only [go_sem, hh]
            try simp
        · have hq := hb
          simp -implicitDefEqProofs only [hlt, hq, go_sem, hh]
          repeat' (first | with_reducible apply And.intro | with_reducible intro _ | ((first | apply brB_split | apply aPickB_split | apply gB_split | apply adB_split) <;> intro hb <;> simp -implicitDefEqProofs only [hb, go_sem, hh] <;> try simp only [qz] at hb))
          all_goals (try simp only [maxLen] at *)
          all_goals first | rfl | omega | with_reducible assumption | exact hsz | exact hsz.1 | exact hsz.2 | exact hsz.2 _ (by assumption) | exact hsz.2.1 | exact hsz.2.2.1 | exact hsz.2.2.2 | trivial | skip
          rw [bOf_t, Int.toNat_natCast] at hb
          rw [hix, ixP_yes (p := FGm.sem (.bad )) (by omega) hb]
      · simp -implicitDefEqProofs only [hlt, go_sem, hh]
        repeat' (first | with_reducible apply And.intro | with_reducible intro _ | ((first | apply brB_split | apply aPickB_split | apply gB_split | apply adB_split) <;> intro hb <;> simp -implicitDefEqProofs only [hb, go_sem, hh] <;> try simp only [qz] at hb))
        all_goals first | rfl | omega | skip
        all_goals (rw [hix, ixP_end (by omega)])
end
def c99 : Ct := ctR (lc EGm.asl (lc AFGm l0)) (fun p => ∀ x ∈ p.1, p.2.1.pre x) (fun p => .t (.v (.bool (bOf (∃ x ∈ p.1, p.2.1.sem x)))))
section
attribute [local go_sem] c136 ap_enc ap_dec AFn0_dec AFn0_enc Bool.not_true Bool.not_false ty214 lv37 AFGm_d0 AFGm_e0
theorem good99 {G : Gt} (hG : OkG G) (hh : G.e 136 = roEnt 0 c136) : Gd G 99 (roEnt 0 c99) := by
  refine gR (dp := fun _ => true) (fn := Tryz.f99) (n := 2) (fun _ => rfl) (by kernel_rfl) rfl (by kernel_rfl) hG (Nat.le_of_ble_eq_true rfl) (by kernel_rfl) (by decide) (fun _ _ => .v _) ?_
  rintro ⟨xs, f, ⟨⟩⟩ hpre
  dsimp only at hpre ⊢
  cases f
  all_goals
    simp -implicitDefEqProofs only [Tryz.f99, go_sem, hh]
    repeat' (first | with_reducible apply And.intro | with_reducible intro _ | ((first | apply brB_split | apply aPickB_split | apply gB_split | apply adB_split) <;> intro hb <;> simp -implicitDefEqProofs only [hb, go_sem, hh] <;> try simp only [qz] at hb))
    all_goals first | rfl | omega | exact hpre | exact hpre _ (by assumption) | skip
    all_goals (rw [← bOf_congr (ixP_iff _ 0)]; rw [bOf_d])
end
inductive FWy where
  | way
def FWy.enc : FWy → AV
  | .way  => .t (.fn 129 [])
def FWy.dec : AV → Option FWy
  | .t (.fn 129 []) => some (.way )
  | _ => none
def FWy.sem : FWy → Wy → Prop
  | .way , x => ¬ (Dom x.ends ∧ Dom x.to)
def FWy.pre : FWy → Wy → Prop
  | .way , x => x.ends.size ≤ 2000000 ∧ x.to.size ≤ 2000000
def AFWy : AD FWy where
  enc := FWy.enc
  dec := FWy.dec
  ed := fun f => by cases f <;> rfl
  de := fun x f h => by
    unfold FWy.dec at h
    split at h <;> cases h <;> rfl
theorem AFWy_d0  : AFWy.dec (.t (.fn 129 [])) = some (.way ) := rfl
theorem AFWy_e0  : AFWy.enc (.way ) = .t (.fn 129 []) := rfl
def c129 : Ct := ctR (lc EWy.ag l0) (fun p => p.1.ends.size ≤ 2000000 ∧ p.1.to.size ≤ 2000000) (fun p => .t (.v (.bool (bOf (¬ (Dom p.1.ends ∧ Dom p.1.to))))))
section
attribute [local go_sem] c102 ap_enc ap_dec AFn0_dec AFn0_enc Bool.not_true Bool.not_false ty214 lv37
theorem good129 {G : Gt} (hG : OkG G) (hh : G.e 102 = roEnt 0 c102) : Gd G 129 (roEnt 0 c129) := by
  refine gR (dp := fun _ => true) (fn := Tryz.f129) (n := 1) (fun _ => rfl) (by kernel_rfl) rfl (by kernel_rfl) hG (Nat.le_of_ble_eq_true rfl) (by kernel_rfl) (by decide) (fun _ _ => .v _) ?_
  rintro ⟨x, ⟨⟩⟩ hpre
  simp -implicitDefEqProofs only [Tryz.f129, go_sem, hh] at hpre ⊢
  repeat' (first | with_reducible apply And.intro | with_reducible intro _ | ((first | apply brB_split | apply aPickB_split | apply gB_split | apply adB_split) <;> intro hb <;> simp -implicitDefEqProofs only [hb, go_sem, hh] <;> try simp only [qz] at hb))
  all_goals first | rfl | omega | exact hpre.1 | exact hpre.2 | exact hpre.2 _ (by assumption) | skip
  all_goals first
    | exact uT (fun h => absurd h.1 (by assumption))
    | exact uN ⟨fun h q => h q.2, fun h q => h ⟨by assumption, q⟩⟩
    | trace_state
end
def c159 : Ct := ctR (lc EWy.asl (lc AFWy l0)) (fun p => ∀ x ∈ p.1, p.2.1.pre x) (fun p => .t (.v (.int .i64 (ixP p.2.1.sem 0 p.1))))
section
attribute [local go_sem] c129 ap_enc ap_dec AFn0_dec AFn0_enc Bool.not_true Bool.not_false ty214 lv37 AFWy_d0 AFWy_e0
theorem good159 {G : Gt} (hG : OkG G) (hh : G.e 129 = roEnt 0 c129) : Gd G 159 (roEnt 0 c159) := by
  refine gR (dp := fun _ => true) (fn := Tryz.f159) (n := 2) (fun _ => rfl) (by kernel_rfl) rfl (by kernel_rfl) hG (Nat.le_of_ble_eq_true rfl) (by kernel_rfl) (by decide) (fun _ _ => .v _) ?_
  rintro ⟨xs, f, ⟨⟩⟩ hpre
  have hs := hpre
  dsimp only at hs ⊢
  cases f with
  | way  =>
    simp -implicitDefEqProofs only [Tryz.f159, go_sem, hh]
    repeat' (first | with_reducible apply And.intro | with_reducible intro _ | ((first | apply brB_split | apply aPickB_split | apply gB_split | apply adB_split) <;> intro hb <;> simp -implicitDefEqProofs only [hb, go_sem, hh] <;> try simp only [qz] at hb))
    all_goals first | rfl | omega | skip
    refine run_loop [] (ι := {i : Nat // i ≤ xs.length ∧ ixP (FWy.sem (.way )) 0 xs = ixP (FWy.sem (.way )) i (xs.drop i)}) (fun p => ⟨[(0, .t (.sl 2 (xs.map encWy))), (1, .t (.fn 129 [])), (7, .t (.v (.int .i64 xs.length))), (8, .t (.v (.int .i64 p.1)))], []⟩) (fun p => xs.length - p.1) ⟨0, Nat.zero_le _, rfl⟩ rfl ?_ ?_
    · simp -implicitDefEqProofs only [go_sem, hh]
      try simp
    · rintro ⟨i, hi, hix⟩
      by_cases hlt : (i : Int) < xs.length
      · have hm : xs.getD (i : Int).toNat default ∈ xs := getD_mem (by omega)
        have hsz := hs _ hm
        cases hb : bOf (¬ (Dom (xs.getD (i : Int).toNat default).ends ∧ Dom (xs.getD (i : Int).toNat default).to))
        · have hq := hb
          simp -implicitDefEqProofs only [hlt, hq, go_sem, hh]
          repeat' (first | with_reducible apply And.intro | with_reducible intro _ | ((first | apply brB_split | apply aPickB_split | apply gB_split | apply adB_split) <;> intro hb <;> simp -implicitDefEqProofs only [hb, go_sem, hh] <;> try simp only [qz] at hb))
          all_goals (try simp only [maxLen] at *)
          all_goals first | rfl | omega | with_reducible assumption | exact hsz | exact hsz.1 | exact hsz.2 | exact hsz.2 _ (by assumption) | exact hsz.2.1 | exact hsz.2.2.1 | exact hsz.2.2.2 | trivial | skip
          rw [bOf_f, Int.toNat_natCast] at hb
          refine ⟨⟨i + 1, by omega, ?_⟩, by dsimp only; omega, ?_⟩
          · rw [hix, ixP_no (p := FWy.sem (.way )) (by omega) hb]
          · simp -implicitDefEqProofs only [go_sem, hh]
            try simp
        · have hq := hb
          simp -implicitDefEqProofs only [hlt, hq, go_sem, hh]
          repeat' (first | with_reducible apply And.intro | with_reducible intro _ | ((first | apply brB_split | apply aPickB_split | apply gB_split | apply adB_split) <;> intro hb <;> simp -implicitDefEqProofs only [hb, go_sem, hh] <;> try simp only [qz] at hb))
          all_goals (try simp only [maxLen] at *)
          all_goals first | rfl | omega | with_reducible assumption | exact hsz | exact hsz.1 | exact hsz.2 | exact hsz.2 _ (by assumption) | exact hsz.2.1 | exact hsz.2.2.1 | exact hsz.2.2.2 | trivial | skip
          rw [bOf_t, Int.toNat_natCast] at hb
          rw [hix, ixP_yes (p := FWy.sem (.way )) (by omega) hb]
      · simp -implicitDefEqProofs only [hlt, go_sem, hh]
        repeat' (first | with_reducible apply And.intro | with_reducible intro _ | ((first | apply brB_split | apply aPickB_split | apply gB_split | apply adB_split) <;> intro hb <;> simp -implicitDefEqProofs only [hb, go_sem, hh] <;> try simp only [qz] at hb))
        all_goals first | rfl | omega | skip
        all_goals (rw [hix, ixP_end (by omega)])
end
def c131 : Ct := ctR (lc EWy.asl (lc AFWy l0)) (fun p => ∀ x ∈ p.1, p.2.1.pre x) (fun p => .t (.v (.bool (bOf (∃ x ∈ p.1, p.2.1.sem x)))))
section
attribute [local go_sem] c159 ap_enc ap_dec AFn0_dec AFn0_enc Bool.not_true Bool.not_false ty214 lv37 AFWy_d0 AFWy_e0
theorem good131 {G : Gt} (hG : OkG G) (hh : G.e 159 = roEnt 0 c159) : Gd G 131 (roEnt 0 c131) := by
  refine gR (dp := fun _ => true) (fn := Tryz.f131) (n := 2) (fun _ => rfl) (by kernel_rfl) rfl (by kernel_rfl) hG (Nat.le_of_ble_eq_true rfl) (by kernel_rfl) (by decide) (fun _ _ => .v _) ?_
  rintro ⟨xs, f, ⟨⟩⟩ hpre
  dsimp only at hpre ⊢
  cases f
  all_goals
    simp -implicitDefEqProofs only [Tryz.f131, go_sem, hh]
    repeat' (first | with_reducible apply And.intro | with_reducible intro _ | ((first | apply brB_split | apply aPickB_split | apply gB_split | apply adB_split) <;> intro hb <;> simp -implicitDefEqProofs only [hb, go_sem, hh] <;> try simp only [qz] at hb))
    all_goals first | rfl | omega | exact hpre | exact hpre _ (by assumption) | skip
    all_goals (rw [← bOf_congr (ixP_iff _ 0)]; rw [bOf_d])
end
def c161 : Ct := ctR (lc EStr.asl (lc AStr l0)) (fun p => True) (fun p => .t (.v (.int .i64 (ixP (fun s : ByteArray => s = p.2.1) 0 p.1))))
section
attribute [local go_sem] List.length_map
theorem good161 {G : Gt} (hG : OkG G) : Gd G 161 (roEnt 0 c161) := by
  refine gR (dp := fun _ => true) (fn := Tryz.f161) (n := 2) (fun _ => rfl) (by kernel_rfl) rfl (by kernel_rfl) hG (Nat.le_of_ble_eq_true rfl) (by kernel_rfl) (by decide) (fun _ _ => .v _) ?_
  rintro ⟨xs, a, ⟨⟩⟩ hpre
  simp -implicitDefEqProofs only [Tryz.f161, go_sem] at hpre ⊢
  repeat' (first | with_reducible apply And.intro | with_reducible intro _ | ((first | apply brB_split | apply aPickB_split | apply gB_split | apply adB_split) <;> intro hb <;> simp -implicitDefEqProofs only [hb, go_sem] <;> try simp only [qz] at hb))
  all_goals first | rfl | omega | skip
  refine run_loop [] (ι := {i : Nat // i ≤ xs.length ∧ ixP (fun s : ByteArray => s = a) 0 xs = ixP (fun s : ByteArray => s = a) i (xs.drop i)}) (fun p => ⟨[(0, .t (.sl 1 (xs.map encStr))), (1, .t (.v (.string a))), (7, .t (.v (.int .i64 xs.length))), (8, .t (.v (.int .i64 p.1)))], []⟩) (fun p => xs.length - p.1) ⟨0, by simp, rfl⟩ rfl ?_ ?_
  · simp -implicitDefEqProofs only [go_sem]
    simp
  · rintro ⟨i, hi, hix⟩
    by_cases hlt : (i : Int) < xs.length
    · simp -implicitDefEqProofs only [hlt, decide_true, Int.toNat_natCast, go_sem]
      repeat' (first | with_reducible apply And.intro | with_reducible intro _ | ((first | apply brB_split | apply aPickB_split | apply gB_split | apply adB_split) <;> intro hb <;> simp -implicitDefEqProofs only [hb, go_sem] <;> try simp only [qz] at hb))
      all_goals (try simp only [maxLen] at *)
      all_goals first | rfl | omega | skip
      · rw [hix, ixP_yes (p := fun s : ByteArray => s = a) (by omega) hb.symm]
      · refine ⟨⟨i + 1, by omega, by rw [hix, ixP_no (p := fun s : ByteArray => s = a) (by omega) (fun e => hb e.symm)]⟩, by dsimp only; omega, ?_⟩
        simp -implicitDefEqProofs only [go_sem]
        simp
    · simp -implicitDefEqProofs only [hlt, decide_false, go_sem]
      repeat' (first | with_reducible apply And.intro | with_reducible intro _ | ((first | apply brB_split | apply aPickB_split | apply gB_split | apply adB_split) <;> intro hb <;> simp -implicitDefEqProofs only [hb, go_sem] <;> try simp only [qz] at hb))
      all_goals first | rfl | omega | skip
      rw [hix, ixP_end (by omega)]
end
def c135 : Ct := ctR (lc EStr.asl (lc AStr l0)) (fun p => True) (fun p => .t (.v (.bool (bOf (p.2.1 ∈ p.1)))))
section
attribute [local go_sem] c161
theorem good135 {G : Gt} (hG : OkG G) (hh : G.e 161 = roEnt 0 c161) : Gd G 135 (roEnt 0 c135) := by
  refine gR (dp := fun _ => true) (fn := Tryz.f135) (n := 2) (fun _ => rfl) (by kernel_rfl) rfl (by kernel_rfl) hG (Nat.le_of_ble_eq_true rfl) (by kernel_rfl) (by decide) (fun _ _ => .v _) ?_
  rintro ⟨xs, a, ⟨⟩⟩ hpre
  simp -implicitDefEqProofs only [Tryz.f135, go_sem, hh] at hpre ⊢
  repeat' (first | with_reducible apply And.intro | with_reducible intro _ | ((first | apply brB_split | apply aPickB_split | apply gB_split | apply adB_split) <;> intro hb <;> simp -implicitDefEqProofs only [hb, go_sem, hh] <;> try simp only [qz] at hb))
  all_goals first | rfl | omega | skip
  refine uD ?_
  rw [ge_iff_le, ixP_iff]
  exact ⟨fun ⟨x, hx, e⟩ => e ▸ hx, fun h => ⟨a, h, rfl⟩⟩
end
def c98 : Ct := ctR (lc ECf.ag (lc AStr l0)) (fun p => True) (fun p => .t (.v (.bool (bOf (p.2.1 ∈ p.1.own)))))
section
attribute [local go_sem] c135
theorem good98 {G : Gt} (hG : OkG G) (hh : G.e 135 = roEnt 0 c135) : Gd G 98 (roEnt 0 c98) := by
  refine gR (dp := fun _ => true) (fn := Tryz.f98) (n := 2) (fun _ => rfl) (by kernel_rfl) rfl (by kernel_rfl) hG (Nat.le_of_ble_eq_true rfl) (by kernel_rfl) (by decide) (fun _ _ => .v _) ?_
  rintro ⟨c, a, ⟨⟩⟩ hpre
  simp -implicitDefEqProofs only [Tryz.f98, go_sem, hh] at hpre ⊢
  repeat' (first | with_reducible apply And.intro | with_reducible intro _ | ((first | apply brB_split | apply aPickB_split | apply gB_split | apply adB_split) <;> intro hb <;> simp -implicitDefEqProofs only [hb, go_sem, hh] <;> try simp only [qz] at hb))
  all_goals first | rfl | omega | trace_state
end
def c93 : Ct := ctR (lc ECf.ag l0) (fun p => OkCf p.1) (fun p => .t (.v (.bool (bOf (CfOk p.1)))))
section
attribute [local go_sem] c102 c130 c131 ap_enc ap_dec AFn0_dec AFn0_enc Bool.not_true Bool.not_false ty214 lv37 AFGm_d0 AFGm_e0 AFWy_d0 AFWy_e0 AFStr_d0 AFStr_e0 AFStr_d1 AFStr_e1 bOf_t bOf_f List.length_map
set_option maxHeartbeats 1600000 in
theorem good93 {G : Gt} (hG : OkG G) (hh : G.e 102 = roEnt 0 c102 ∧ G.e 130 = roEnt 0 c130 ∧ G.e 131 = roEnt 0 c131) : Gd G 93 (roEnt 0 c93) := by
  refine gR (dp := fun _ => true) (fn := Tryz.f93) (n := 1) (fun _ => rfl) (by kernel_rfl) rfl (by kernel_rfl) hG (Nat.le_of_ble_eq_true rfl) (by kernel_rfl) (by decide) (fun _ _ => .v _) ?_
  rintro ⟨c, ⟨⟩⟩ hpre
  simp -implicitDefEqProofs only [Tryz.f93, go_sem, hh] at hpre ⊢
  obtain ⟨z1, ⟨l1, z2⟩, ⟨l2, z3⟩⟩ := hpre
  have y1 : c.name.size ≤ 2000000 := by have : c.name.size ≤ 1048576 := z1; omega
  have y2 : ∀ x ∈ c.own, FStr.pre .dom x := fun x hx => by have : x.size ≤ 1048576 := z2 x hx; show x.size ≤ 2000000; omega
  have y3 : ∀ x ∈ c.ways, FWy.pre .way x := fun x hx => by
    have h1 : x.ends.size ≤ 1048576 := (z3 x hx).1
    have h2 : x.to.size ≤ 1048576 := (z3 x hx).2
    exact ⟨by omega, by omega⟩
  have e1 : (¬ ∃ x ∈ c.own, FStr.sem .dom x) ↔ ∀ s ∈ c.own, Dom s := ⟨fun h s hs => Classical.byContradiction fun q => h ⟨s, hs, q⟩, fun h ⟨s, hs, q⟩ => q (h s hs)⟩
  have e2 : (¬ ∃ x ∈ c.ways, FWy.sem .way x) ↔ ∀ w ∈ c.ways, Dom w.ends ∧ Dom w.to := ⟨fun h s hs => Classical.byContradiction fun q => h ⟨s, hs, q⟩, fun h ⟨s, hs, q⟩ => q (h s hs)⟩
  repeat' (first | with_reducible apply And.intro | with_reducible intro _ | ((first | apply brB_split | apply aPickB_split | apply gB_split | apply adB_split) <;> intro hb <;> simp -implicitDefEqProofs only [hb, go_sem, hh] <;> try simp only [qz] at hb))
  all_goals first | rfl | omega | assumption | exact y2 _ (by assumption) | exact y3 _ (by assumption) | skip
  all_goals first
    | exact uN (e2.trans ⟨fun q => ⟨e1.1 (by assumption), q, by assumption, by omega, by omega⟩, fun q => q.2.1⟩)
    | exact uF (fun q => absurd q.2.2.1 (by assumption))
    | exact uF (fun q => by have h1 := q.2.2.2.1; have h2 := q.2.2.2.2; omega)
    | exact uF (fun q => absurd hb (e1.2 q.1))
    | trace_state
end
def c53 : Ct := ctR (lc EHs.ag l0) (fun p => OkHs p.1) (fun p => .t (.v (.bool (bOf (HsOk p.1)))))
section
attribute [local go_sem] c93 c94 c55 c98 c99 c100 ap_enc ap_dec AFn0_dec AFn0_enc Bool.not_true Bool.not_false ty214 lv37 AFGm_d0 AFGm_e0 AFWy_d0 AFWy_e0 AFStr_d0 AFStr_e0 AFStr_d1 AFStr_e1 bOf_t bOf_f List.length_map
set_option maxHeartbeats 6400000 in
theorem good53 {G : Gt} (hG : OkG G) (hh : G.e 93 = roEnt 0 c93 ∧ G.e 94 = roEnt 0 c94 ∧ G.e 55 = roEnt 0 c55 ∧ G.e 98 = roEnt 0 c98 ∧ G.e 99 = roEnt 0 c99 ∧ G.e 100 = roEnt 0 c100) : Gd G 53 (roEnt 0 c53) := by
  refine gR (dp := fun _ => true) (fn := Tryz.f53) (n := 1) (fun _ => rfl) (by kernel_rfl) rfl (by kernel_rfl) hG (Nat.le_of_ble_eq_true rfl) (by kernel_rfl) (by decide) (fun _ _ => .v _) ?_
  rintro ⟨h, ⟨⟩⟩ hpre
  simp -implicitDefEqProofs only [Tryz.f53, go_sem, hh] at hpre ⊢
  obtain ⟨zc, zs, ⟨lb, zb⟩, zl⟩ := hpre
  have e1 : ∀ j, j < h.boxes.length → ((∃ x ∈ (h.boxes.getD j default).mails, FGm.sem .bad x) ↔ ¬ ∀ g ∈ (h.boxes.getD j default).mails, (AdOk g.frm ∨ AdNull g.frm) ∧ BdOk g.body) := fun j _ => ⟨fun ⟨s, hs, q⟩ f => q (f s hs), fun f => Classical.byContradiction fun q => f fun s hs => Classical.byContradiction fun r => q ⟨s, hs, r⟩⟩
  repeat' (first | with_reducible apply And.intro | with_reducible intro _ | ((first | apply brB_split | apply aPickB_split | apply gB_split | apply adB_split) <;> intro hb <;> simp -implicitDefEqProofs only [hb, go_sem, hh] <;> try simp only [qz] at hb))
  all_goals first
    | rfl
    | omega
    | assumption
    | exact uF (fun q => absurd q.2.1 (by assumption))
    | exact uF (fun q => absurd q.2.2 (by assumption))
    | skip
  all_goals
    refine run_loop [] (ι := {i : Nat // i ≤ h.boxes.length ∧ ∀ j, j < i → BxAt h j}) (fun p => ⟨[(1, .pb 1001 0), (3, .fn 95 []), (17, .t (.sl 3 (h.boxes.map encBx))), (18, .t (.v (.int .i64 h.boxes.length))), (19, .t (.v (.int .i64 p.1)))], [(1001, some (.box ((encHs h).map .t)))]⟩) (fun p => h.boxes.length - p.1) ⟨0, by simp, by simp⟩ rfl ?_ ?_
    · simp -implicitDefEqProofs only [go_sem, hh]
      simp
    · rintro ⟨i, hi, hall⟩
      by_cases hlt : (i : Int) < h.boxes.length
      · have hbx := zb _ (getD_mem (xs := h.boxes) (j := i) (by omega))
        obtain ⟨za, zm⟩ := hbx
        have y1 : (h.boxes.getD i default).addr.domain.size ≤ 2000000 := by have : (h.boxes.getD i default).addr.domain.size ≤ 1048576 := za.2; omega
        have y2 : ∀ x ∈ (h.boxes.getD i default).mails, FGm.pre .bad x := fun x hx => by
          obtain ⟨⟨_, g1⟩, ⟨_, g2⟩⟩ := zm.2 x hx
          refine ⟨by have : x.frm.domain.size ≤ 1048576 := g1; omega, fun s hs => ?_⟩
          have : s.size ≤ 1048576 := g2 s hs
          omega
        have e2 := e1 i (by omega)
        simp -implicitDefEqProofs only [hlt, decide_true, Int.toNat_natCast, go_sem, hh]
        repeat' (first | with_reducible apply And.intro | with_reducible intro _ | ((first | apply brB_split | apply aPickB_split | apply gB_split | apply adB_split) <;> intro hb <;> simp -implicitDefEqProofs only [hb, go_sem, hh] <;> try simp only [qz] at hb))
        all_goals (try simp only [maxLen, Int.toNat_natCast] at *)
        all_goals have hnat : ((i : Int) - 1).toNat = i - 1 := by omega
        all_goals first
          | rfl
          | omega
          | assumption
          | exact y2 _ (by assumption)
          | exact uF (fun q => absurd (q.1 i (by omega)).1.2 (by assumption))
          | exact uF (fun q => absurd (q.1 i (by omega)).2.2 (by assumption))
          | exact uF (fun q => absurd hb (fun f => e2.1 f (q.1 i (by omega)).1.1))
          | exact uF (fun q => by have h9 := (byD_lt _ _).2 ((q.1 i (by omega)).2.1 (by omega)); rw [← hnat] at h9; omega)
          | skip
        all_goals
          refine ⟨⟨i + 1, by omega, bx_step hall ⟨⟨Classical.byContradiction fun f => absurd (e2.2 f) (by assumption), by assumption⟩, fun _ => by first | (exact (byD_lt _ _).1 (by rw [← hnat]; omega)) | (exfalso; omega), by assumption⟩⟩, by dsimp only; omega, ?_⟩
          simp -implicitDefEqProofs only [go_sem, hh]
          simp
      · simp -implicitDefEqProofs only [hlt, decide_false, go_sem, hh]
        repeat' (first | with_reducible apply And.intro | with_reducible intro _ | ((first | apply brB_split | apply aPickB_split | apply gB_split | apply adB_split) <;> intro hb <;> simp -implicitDefEqProofs only [hb, go_sem, hh] <;> try simp only [qz] at hb))
        all_goals first | rfl | omega | exact uT ⟨fun j hj => hall j (by omega), by assumption, by assumption⟩ | trace_state
end
def pId : ByteArray := ⟨#[73, 100, 58, 32]⟩
def MkLine (s : ByteArray) : Prop := 4 < s.size ∧ s.extract 0 4 = pId
noncomputable def mkOf : List ByteArray → ByteArray
  | [] => ⟨#[]⟩
  | x :: r => bif bOf (MkLine x) then x else mkOf r
theorem mkOf_yes {xs : List ByteArray} {i : Nat} (h : i < xs.length) (ha : MkLine (xs.getD i default)) : mkOf (xs.drop i) = xs.getD i default := by
  rw [getD_drop h, mkOf, bOf_y ha]; rfl
theorem mkOf_no {xs : List ByteArray} {i : Nat} (h : i < xs.length) (ha : ¬ MkLine (xs.getD i default)) : mkOf (xs.drop i) = mkOf (xs.drop (i + 1)) := by
  rw [getD_drop h, mkOf, bOf_n ha]; rfl
theorem mkOf_end {xs : List ByteArray} {i : Nat} (h : xs.length ≤ i) : mkOf (xs.drop i) = ⟨#[]⟩ := by
  rw [List.drop_eq_nil_of_le h, mkOf]
theorem mk_pre (s : ByteArray) : (Pre s pId ∧ ¬ s = pId) ↔ MkLine s := by
  unfold Pre MkLine
  have h4 : pId.size = 4 := rfl
  rw [h4]
  constructor
  · rintro ⟨⟨h1, h2⟩, h3⟩
    refine ⟨?_, h2⟩
    by_cases e : s.size = 4
    · exfalso
      apply h3
      rw [← h2, ← e]
      exact (ByteArray.extract_zero_size).symm
    · omega
  · rintro ⟨h1, h2⟩
    exact ⟨⟨by omega, h2⟩, fun e => by rw [e] at h1; have : pId.size = 4 := rfl; omega⟩
def c40 : Ct := ctR (lc EStr.asl l0) (fun p => True) (fun p => .t (.v (.string (mkOf p.1))))
section
attribute [local go_sem] List.length_map
theorem good40 {G : Gt} (hG : OkG G) : Gd G 40 (roEnt 0 c40) := by
  refine gR (dp := fun _ => true) (fn := Tryz.f40) (n := 1) (fun _ => rfl) (by kernel_rfl) rfl (by kernel_rfl) hG (Nat.le_of_ble_eq_true rfl) (by kernel_rfl) (by decide) (fun _ _ => .v _) ?_
  rintro ⟨xs, ⟨⟩⟩ hpre
  simp -implicitDefEqProofs only [Tryz.f40, go_sem] at hpre ⊢
  refine run_loop [] (ι := {i : Nat // i ≤ xs.length ∧ mkOf xs = mkOf (xs.drop i)}) (fun p => ⟨[(0, .t (.sl 1 (xs.map encStr))), (3, .t (.v (.int .i64 p.1)))], []⟩) (fun p => xs.length - p.1) ⟨0, by simp, rfl⟩ rfl ?_ ?_
  · simp -implicitDefEqProofs only [go_sem]
    simp
  · rintro ⟨i, hi, hix⟩
    by_cases hlt : (i : Int) < xs.length
    · simp -implicitDefEqProofs only [hlt, decide_true, Int.toNat_natCast, go_sem]
      repeat' (first | with_reducible apply And.intro | with_reducible intro _ | ((first | apply brB_split | apply aPickB_split | apply gB_split | apply adB_split) <;> intro hb <;> simp -implicitDefEqProofs only [hb, go_sem] <;> try simp only [qz] at hb))
      all_goals (try simp only [maxLen, Int.toNat_natCast] at *)
      all_goals first
        | rfl
        | omega
        | (rw [hix, mkOf_yes (by omega) ⟨by omega, by assumption⟩]; done)
        | skip
      all_goals
        refine ⟨⟨i + 1, by omega, by rw [hix, mkOf_no (by omega) (fun h => by first | exact absurd h.2 (by assumption) | (have := h.1; omega))]⟩, by dsimp only; omega, ?_⟩
        simp -implicitDefEqProofs only [go_sem]
        simp
    · simp -implicitDefEqProofs only [hlt, decide_false, go_sem]
      repeat' (first | with_reducible apply And.intro | with_reducible intro _ | ((first | apply brB_split | apply aPickB_split | apply gB_split | apply adB_split) <;> intro hb <;> simp -implicitDefEqProofs only [hb, go_sem] <;> try simp only [qz] at hb))
      all_goals first | rfl | omega | skip
      rw [hix, mkOf_end (by omega)]
end
def c43 : Ct := ctR (lc EStr.asl l0) (fun p => ∀ s ∈ p.1, s.size ≤ 2000000) (fun p => .t (.v (.string (mkOf p.1))))
section
attribute [local go_sem] c78 List.length_map bOf_t bOf_f
theorem good43 {G : Gt} (hG : OkG G) (hh : G.e 78 = roEnt 0 c78) : Gd G 43 (roEnt 0 c43) := by
  refine gR (dp := fun _ => true) (fn := Tryz.f43) (n := 1) (fun _ => rfl) (by kernel_rfl) rfl (by kernel_rfl) hG (Nat.le_of_ble_eq_true rfl) (by kernel_rfl) (by decide) (fun _ _ => .v _) ?_
  rintro ⟨xs, ⟨⟩⟩ hpre
  simp -implicitDefEqProofs only [Tryz.f43, go_sem, hh] at hpre ⊢
  try dsimp only at hpre
  repeat' (first | with_reducible apply And.intro | with_reducible intro _ | ((first | apply brB_split | apply aPickB_split | apply gB_split | apply adB_split) <;> intro hb <;> simp -implicitDefEqProofs only [hb, go_sem, hh] <;> try simp only [qz] at hb))
  all_goals first | rfl | omega | skip
  refine run_loop [] (ι := {i : Nat // i ≤ xs.length ∧ mkOf xs = mkOf (xs.drop i)}) (fun p => ⟨[(5, .t (.sl 1 (xs.map encStr))), (6, .t (.v (.int .i64 xs.length))), (7, .t (.v (.int .i64 p.1)))], []⟩) (fun p => xs.length - p.1) ⟨0, by simp, rfl⟩ rfl ?_ ?_
  · simp -implicitDefEqProofs only [go_sem, hh]
    simp
  · rintro ⟨i, hi, hix⟩
    by_cases hlt : (i : Int) < xs.length
    · have hm := hpre _ (getD_mem (xs := xs) (j := i) (by omega))
      simp -implicitDefEqProofs only [hlt, decide_true, Int.toNat_natCast, go_sem, hh]
      repeat' (first | with_reducible apply And.intro | with_reducible intro _ | ((first | apply brB_split | apply aPickB_split | apply gB_split | apply adB_split) <;> intro hb <;> simp -implicitDefEqProofs only [hb, go_sem, hh] <;> try simp only [qz] at hb))
      all_goals (try simp only [maxLen, Int.toNat_natCast] at *)
      all_goals first
        | rfl
        | omega
        | assumption
        | decide
        | (rw [hix, mkOf_yes (by omega) ((mk_pre _).1 ⟨by assumption, by assumption⟩)]; done)
        | skip
      all_goals
        refine ⟨⟨i + 1, by omega, by rw [hix, mkOf_no (by omega) (fun h => by have h2 := (mk_pre _).2 h; first | exact absurd h2.1 (by assumption) | exact absurd (by assumption) h2.2)]⟩, by dsimp only; omega, ?_⟩
        simp -implicitDefEqProofs only [go_sem, hh]
        simp
    · simp -implicitDefEqProofs only [hlt, decide_false, go_sem, hh]
      repeat' (first | with_reducible apply And.intro | with_reducible intro _ | ((first | apply brB_split | apply aPickB_split | apply gB_split | apply adB_split) <;> intro hb <;> simp -implicitDefEqProofs only [hb, go_sem, hh] <;> try simp only [qz] at hb))
      all_goals first | rfl | omega | skip
      rw [hix, mkOf_end (by omega)]
end
def mkW (a : ByteArray) : MK := .s a
theorem mkW_inj {a b : ByteArray} (h : mkW a = mkW b) : a = b := by
  simp only [mkW, MK.s.injEq] at h
  exact h
theorem kdW : KeyD Tryz.prog 9 (some 0) := KeyD.str u9
theorem decS1 {x : ByteArray} : EStr.decL [[.v (.string x)]] = some [x] := EStr.decL_map [x]
def disW (xs : List ByteArray) : List (MK × Bool) := xs.foldl (fun es a => upE (mkW a) true es) []
theorem disW_snoc (xs : List ByteArray) (a : ByteArray) : disW (xs ++ [a]) = upE (mkW a) true (disW xs) := by simp [disW]
theorem disW_mem (xs : List ByteArray) (a : ByteArray) : mkW a ∈ (disW xs).map Prod.fst ↔ a ∈ xs := by
  generalize hr : xs.reverse = r
  have hx : xs = r.reverse := by rw [← hr, List.reverse_reverse]
  subst hx
  clear hr
  induction r with
  | nil => simp [disW]
  | cons b r ih =>
    rw [List.reverse_cons, disW_snoc, upE_keys, List.mem_append, ← propext ih]
    by_cases h : mkW b ∈ (disW r.reverse).map Prod.fst
    · rw [if_pos h]
      constructor
      · exact .inl
      · rintro (h1 | h1)
        · exact h1
        · rw [List.mem_singleton.1 h1]; exact h
    · rw [if_neg h, List.mem_append, List.mem_singleton, List.mem_singleton]
      exact or_congr_right ⟨mkW_inj, fun e => by rw [e]⟩
theorem disW_len (xs : List ByteArray) : (disW xs).length ≤ xs.length ∧ ((disW xs).length = xs.length ↔ xs.Nodup) := by
  generalize hr : xs.reverse = r
  have hx : xs = r.reverse := by rw [← hr, List.reverse_reverse]
  subst hx
  clear hr
  induction r with
  | nil => simp [disW]
  | cons b r ih =>
    have hl : ∀ es : List (MK × Bool), es.length = (es.map Prod.fst).length := fun es => by rw [List.length_map]
    have hn : (r.reverse ++ [b]).Nodup ↔ r.reverse.Nodup ∧ b ∉ r.reverse := by
      rw [List.nodup_append]
      constructor
      · rintro ⟨h1, _, h3⟩
        exact ⟨h1, fun hb => h3 b hb b (by simp) rfl⟩
      · rintro ⟨h1, h2⟩
        refine ⟨h1, by simp, fun x hx y hy e => ?_⟩
        rw [List.mem_singleton] at hy
        subst hy; subst e; exact h2 hx
    rw [List.reverse_cons, disW_snoc, hl, upE_keys, List.length_append, hn, ← disW_mem]
    obtain ⟨i1, i2⟩ := ih
    by_cases h : mkW b ∈ (disW r.reverse).map Prod.fst
    · rw [if_pos h, ← hl]
      refine ⟨by omega, ⟨fun e => ?_, fun e => absurd h e.2⟩⟩
      simp at e i1; omega
    · rw [if_neg h, List.length_append, ← hl]
      refine ⟨by simp at *; omega, ⟨fun e => ⟨i2.1 (by simp at *; omega), h⟩, fun e => ?_⟩⟩
      have := i2.2 e.1
      simp at *; omega
theorem takeW_succ {xs : List ByteArray} {i : Nat} (h : i < xs.length) : xs.take (i + 1) = xs.take i ++ [xs.getD i default] := by
  rw [List.take_succ_eq_append_getElem h]
  simp [h]
theorem disW_take {xs : List ByteArray} {i : Nat} (h : i < xs.length) : upE (.s (xs.getD i default)) true (disW (xs.take i)) = disW (xs.take (i + 1)) := by
  rw [takeW_succ h, disW_snoc]; rfl
def LsOk (l : Ls) : Prop := ¬ l.mark = ⟨#[]⟩ ∧ mkOf [l.mark] = l.mark ∧ AdOk l.addr ∧ Lin l.mark
def hnm (h : Hs) : ByteArray := h.conf.name
def WdOk (w : Wd) : Prop := (∀ h ∈ w.hosts, HsOk h) ∧ (w.hosts.map hnm).Nodup ∧ (∀ l ∈ w.given, LsOk l) ∧ (1 ≤ (w.hosts.length : Int) ∧ (w.hosts.length : Int) ≤ 4) ∧ (0 ≤ w.now ∧ w.now ≤ 9999) ∧ (0 ≤ w.marks ∧ w.marks ≤ 60)
theorem nodup_hnm {xs : List Hs} (h : ∀ j, j < xs.length → ∀ k, k < j → ¬ (xs.getD k default).conf.name = (xs.getD j default).conf.name) : (xs.map hnm).Nodup := by
  rw [List.nodup_iff_pairwise_ne, List.pairwise_iff_getElem]
  intro k j hk hj hkj
  rw [List.length_map] at hk hj
  have := h j hj k hkj
  simpa [hk, hj, hnm] using this
theorem hnm_nodup {xs : List Hs} (h : (xs.map hnm).Nodup) {k i : Nat} (hk : k < i) (hi : i < xs.length) : ¬ (xs.getD k default).conf.name = (xs.getD i default).conf.name := fun e => by
  have q1 : k < xs.length := by omega
  simp only [List.getD_eq_getElem?_getD, List.getElem?_eq_getElem q1, List.getElem?_eq_getElem hi, Option.getD_some] at e
  exact List.pairwise_iff_getElem.1 (List.nodup_iff_pairwise_ne.1 h) k i (by simpa using q1) (by simpa using hi) hk (by simpa [hnm] using e)
theorem take_hnm {xs : List Hs} {i : Nat} (h : i < xs.length) : ((xs.map hnm).take (i + 1)).map encStr = ((xs.map hnm).take i).map encStr ++ [[.v (.string (xs.getD i default).conf.name)]] := by
  have e : (xs.map hnm).getD i default = (xs.getD i default).conf.name := by
    simp only [List.getD_eq_getElem?_getD, List.getElem?_map, List.getElem?_eq_getElem h, Option.map_some, Option.getD_some]; rfl
  rw [take_snoc_map encStr (by rw [List.length_map]; exact h), e]
  rfl
def c57 : Ct := ctR (lc EStr.asl l0) (fun p => True) (fun p => .t (.v (.bool (bOf p.1.Nodup))))
section
attribute [local go_sem] ap_enc ap_dec AFn0_dec AFn0_enc Bool.not_true Bool.not_false ty214 lv37 ty138
theorem good57 {G : Gt} (hG : OkG G) : Gd G 57 (roEnt 0 c57) := by
  refine gR (dp := fun _ => true) (fn := Tryz.f57) (n := 1) (fun _ => rfl) (by kernel_rfl) rfl (by kernel_rfl) hG (Nat.le_of_ble_eq_true rfl) (by kernel_rfl) (by decide) (fun _ _ => .v _) ?_
  rintro ⟨xs, ⟨⟩⟩ hpre
  simp -implicitDefEqProofs only [Tryz.f57, go_sem] at hpre ⊢
  repeat' (first | with_reducible apply And.intro | with_reducible intro _ | ((first | apply brB_split | apply aPickB_split | apply gB_split | apply adB_split) <;> intro hb <;> simp -implicitDefEqProofs only [hb, go_sem] <;> try simp only [qz] at hb))
  all_goals first | rfl | omega | skip
  refine run_loop [] (ι := {i : Nat // i ≤ xs.length}) (fun p => ⟨[(0, .t (.sl 1 (xs.map encStr))), (3, .h 1006), (7, .t (.sl 1 (xs.map encStr))), (8, .t (.v (.int .i64 xs.length))), (9, .t (.v (.int .i64 p.1)))], [(1006, some (.mp (some 0) (disW (xs.take p.1))))]⟩) (fun p => xs.length - p.1) ⟨0, Nat.zero_le _⟩ rfl ?_ ?_
  · simp -implicitDefEqProofs only [go_sem]
    simp
    rfl
  · rintro ⟨i, hi⟩
    by_cases hlt : (i : Int) < xs.length
    · simp -implicitDefEqProofs only [hlt, go_sem]
      repeat' (first | with_reducible apply And.intro | with_reducible intro _ | ((first | apply brB_split | apply aPickB_split | apply gB_split | apply adB_split) <;> intro hb <;> simp -implicitDefEqProofs only [hb, go_sem] <;> try simp only [qz] at hb))
      all_goals (try simp only [maxLen] at *)
      all_goals first | rfl | omega | exact kdW | skip
      refine ⟨⟨i + 1, by omega⟩, by dsimp only; omega, ?_⟩
      simp -implicitDefEqProofs only [go_sem]
      simp only [Int.toNat_natCast, disW_take (show i < xs.length by omega)]
      try simp
    · simp -implicitDefEqProofs only [hlt, go_sem]
      repeat' (first | with_reducible apply And.intro | with_reducible intro _ | ((first | apply brB_split | apply aPickB_split | apply gB_split | apply adB_split) <;> intro hb <;> simp -implicitDefEqProofs only [hb, go_sem] <;> try simp only [qz] at hb))
      all_goals first | rfl | omega | skip
      rw [List.take_of_length_le (by omega), ← bOf_congr (disW_len xs).2, bOf_d]
      refine congrArg (fun b => T.v (.bool b)) (decide_eq_decide.2 ?_)
      omega
end
open Classical in
noncomputable def mkOfB (xs : List ByteArray) : ByteArray := if BdOk xs then mkOf xs else ⟨#[]⟩
theorem mkOfB_y {xs : List ByteArray} (h : BdOk xs) : mkOfB xs = mkOf xs := if_pos h
theorem mkOfB_n {xs : List ByteArray} (h : ¬ BdOk xs) : mkOfB xs = ⟨#[]⟩ := if_neg h
theorem BdOk_1 (x : ByteArray) : BdOk [x] ↔ Lin x := by
  unfold BdOk
  constructor
  · intro h; exact h.1 x (by simp)
  · intro h
    refine ⟨fun s hs => by rw [List.mem_singleton.1 hs]; exact h, by simp⟩
theorem LsB (l : Ls) : (¬ l.mark = ⟨#[]⟩ ∧ mkOfB [l.mark] = l.mark ∧ AdOk l.addr) ↔ LsOk l := by
  unfold LsOk
  by_cases h : Lin l.mark
  · rw [mkOfB_y ((BdOk_1 _).2 h)]
    exact ⟨fun q => ⟨q.1, q.2.1, q.2.2, h⟩, fun q => ⟨q.1, q.2.1, q.2.2.1⟩⟩
  · rw [mkOfB_n (fun q => h ((BdOk_1 _).1 q))]
    exact ⟨fun q => absurd q.2.1.symm q.1, fun q => absurd q.2.2.2 h⟩
def c54 : Ct := ctR (lc EStr.asl l0) (fun p => ∀ s ∈ p.1, s.size ≤ 2000000) (fun p => .t (.v (.string (mkOfB p.1))))
section
attribute [local go_sem] c97 c43 bOf_t bOf_f
theorem good54 {G : Gt} (hG : OkG G) (hh : G.e 97 = roEnt 0 c97 ∧ G.e 43 = roEnt 0 c43) : Gd G 54 (roEnt 0 c54) := by
  refine gR (dp := fun _ => true) (fn := Tryz.f54) (n := 1) (fun _ => rfl) (by kernel_rfl) rfl (by kernel_rfl) hG (Nat.le_of_ble_eq_true rfl) (by kernel_rfl) (by decide) (fun _ _ => .v _) ?_
  rintro ⟨xs, ⟨⟩⟩ hpre
  simp -implicitDefEqProofs only [Tryz.f54, go_sem, hh] at hpre ⊢
  try dsimp only at hpre
  repeat' (first | with_reducible apply And.intro | with_reducible intro _ | ((first | apply brB_split | apply aPickB_split | apply gB_split | apply adB_split) <;> intro hb <;> simp -implicitDefEqProofs only [hb, go_sem, hh] <;> try simp only [qz] at hb))
  all_goals first | rfl | omega | exact hpre _ (by assumption) | (rw [mkOfB_y hb]; done) | (rw [mkOfB_n hb]; done) | trace_state
end
def c23 : Ct := ctR (lc EWd.ag l0) (fun p => True) (fun p => .t (.v (.bool (bOf (WdOk p.1)))))
section
attribute [local go_sem] c47 c48 c40 c49 c50 bOf_t bOf_f List.length_map decS1
set_option maxHeartbeats 6400000 in
theorem good23 {G : Gt} (hG : OkG G) (hh : G.e 47 = roEnt 0 c47 ∧ G.e 48 = roEnt 0 c48 ∧ G.e 40 = roEnt 0 c40 ∧ G.e 49 = roEnt 0 c49 ∧ G.e 50 = roEnt 0 c50) : Gd G 23 (roEnt 0 c23) := by
  refine gR (dp := fun _ => true) (fn := Tryz.f23) (n := 1) (fun _ => rfl) (by kernel_rfl) rfl (by kernel_rfl) hG (Nat.le_of_ble_eq_true rfl) (by kernel_rfl) (by decide) (fun _ _ => .v _) ?_
  rintro ⟨w, ⟨⟩⟩ hpre
  simp -implicitDefEqProofs only [Tryz.f23, go_sem, hh] at hpre ⊢
  refine run_loop [] (ι := {i : Nat // i ≤ w.hosts.length ∧ (∀ j, j < i → HsOk (w.hosts.getD j default)) ∧ ∀ j, j < i → ∀ k, k < j → ¬ (w.hosts.getD k default).conf.name = (w.hosts.getD j default).conf.name}) (fun p => ⟨[(1, .pb 1001 0), (3, .t (.v (.int .i64 p.1)))], [(1001, some (.box ((encWd w).map .t)))]⟩) (fun p => w.hosts.length - p.1) ⟨0, by simp, by simp, by simp⟩ rfl ?_ ?_
  · simp -implicitDefEqProofs only [go_sem, hh]
    simp
  · rintro ⟨i, hi, hall, hno⟩
    by_cases hlt : (i : Int) < w.hosts.length
    · simp -implicitDefEqProofs only [hlt, decide_true, Int.toNat_natCast, go_sem, hh]
      repeat' (first | with_reducible apply And.intro | with_reducible intro _ | ((first | apply brB_split | apply aPickB_split | apply gB_split | apply adB_split) <;> intro hb <;> simp -implicitDefEqProofs only [hb, go_sem, hh] <;> try simp only [qz] at hb))
      all_goals (try simp only [maxLen, Int.toNat_natCast] at *)
      all_goals first
        | rfl
        | omega
        | exact uF (fun q => absurd (q.1 (w.hosts.getD i default) (getD_mem (by omega))) (by assumption))
        | skip
      refine run_loop [] (ι := {k : Nat // k ≤ i ∧ ∀ j, j < k → ¬ (w.hosts.getD j default).conf.name = (w.hosts.getD i default).conf.name}) (fun p => ⟨[(1, .pb 1001 0), (3, .t (.v (.int .i64 i))), (4, .t (.v (.int .i64 p.1)))], [(1001, some (.box ((encWd w).map .t)))]⟩) (fun p => i - p.1) ⟨0, by simp, by simp⟩ rfl ?_ ?_
      · simp -implicitDefEqProofs only [go_sem, hh]
        simp
      · rintro ⟨k, hk, hk2⟩
        by_cases hlt2 : (k : Int) < i
        · simp -implicitDefEqProofs only [hlt2, decide_true, Int.toNat_natCast, go_sem, hh]
          repeat' (first | with_reducible apply And.intro | with_reducible intro _ | ((first | apply brB_split | apply aPickB_split | apply gB_split | apply adB_split) <;> intro hb <;> simp -implicitDefEqProofs only [hb, go_sem, hh] <;> try simp only [qz] at hb))
          all_goals (try simp only [maxLen, Int.toNat_natCast] at *)
          all_goals first
            | rfl
            | omega
            | exact uF (fun q => hnm_nodup q.2.1 (k := k) (i := i) (by omega) (by omega) (by assumption))
            | skip
          all_goals
            refine ⟨⟨k + 1, by omega, bx_step hk2 (by assumption)⟩, by dsimp only; omega, ?_⟩
            simp -implicitDefEqProofs only [go_sem, hh]
            simp
        · simp -implicitDefEqProofs only [hlt2, decide_false, go_sem, hh]
          repeat' (first | with_reducible apply And.intro | with_reducible intro _ | ((first | apply brB_split | apply aPickB_split | apply gB_split | apply adB_split) <;> intro hb <;> simp -implicitDefEqProofs only [hb, go_sem, hh] <;> try simp only [qz] at hb))
          all_goals first | rfl | omega | skip
          refine ⟨⟨i + 1, by omega, bx_step hall (by assumption), bx_step (P := fun j => ∀ k, k < j → ¬ (w.hosts.getD k default).conf.name = (w.hosts.getD j default).conf.name) hno (fun q hq => hk2 q (by omega))⟩, by dsimp only; omega, ?_⟩
          simp -implicitDefEqProofs only [go_sem, hh]
          simp
    · have hA : ∀ h ∈ w.hosts, HsOk h := mem_getD fun j hj => hall j (by omega)
      have hN : (w.hosts.map hnm).Nodup := nodup_hnm fun j hj q hq => hno j (by omega) q hq
      simp -implicitDefEqProofs only [hlt, decide_false, go_sem, hh]
      repeat' (first | with_reducible apply And.intro | with_reducible intro _ | ((first | apply brB_split | apply aPickB_split | apply gB_split | apply adB_split) <;> intro hb <;> simp -implicitDefEqProofs only [hb, go_sem, hh] <;> try simp only [qz] at hb))
      all_goals first | rfl | omega | skip
      refine run_loop [] (ι := {i : Nat // i ≤ w.given.length ∧ ∀ j, j < i → LsOk (w.given.getD j default)}) (fun p => ⟨[(1, .pb 1001 0), (5, .t (.v (.int .i64 p.1)))], [(1001, some (.box ((encWd w).map .t)))]⟩) (fun p => w.given.length - p.1) ⟨0, by simp, by simp⟩ rfl ?_ ?_
      · simp -implicitDefEqProofs only [go_sem, hh]
        simp
      · rintro ⟨k, hk, hall2⟩
        by_cases hlt2 : (k : Int) < w.given.length
        · simp -implicitDefEqProofs only [hlt2, decide_true, Int.toNat_natCast, go_sem, hh]
          repeat' (first | with_reducible apply And.intro | with_reducible intro _ | ((first | apply brB_split | apply aPickB_split | apply gB_split | apply adB_split) <;> intro hb <;> simp -implicitDefEqProofs only [hb, go_sem, hh] <;> try simp only [qz] at hb))
          all_goals (try simp only [maxLen, Int.toNat_natCast] at *)
          all_goals first
            | rfl
            | omega
            | decide
            | exact uF (fun q => absurd (q.2.2.1 (w.given.getD k default) (getD_mem (by omega))).1 (by simpa using hb))
            | exact uF (fun q => absurd (q.2.2.1 (w.given.getD k default) (getD_mem (by omega))).2.1 (by assumption))
            | exact uF (fun q => absurd (q.2.2.1 (w.given.getD k default) (getD_mem (by omega))).2.2.1 (by assumption))
            | exact uF (fun q => absurd (q.2.2.1 (w.given.getD k default) (getD_mem (by omega))).2.2.2 (by assumption))
            | skip
          all_goals
            refine ⟨⟨k + 1, by omega, bx_step hall2 ⟨by first | assumption | (simpa using hb), by assumption, by assumption, by assumption⟩⟩, by dsimp only; omega, ?_⟩
            simp -implicitDefEqProofs only [go_sem, hh]
            simp
        · have hB : ∀ l ∈ w.given, LsOk l := mem_getD fun j hj => hall2 j (by omega)
          simp -implicitDefEqProofs only [hlt2, decide_false, go_sem, hh]
          repeat' (first | with_reducible apply And.intro | with_reducible intro _ | ((first | apply brB_split | apply aPickB_split | apply gB_split | apply adB_split) <;> intro hb <;> simp -implicitDefEqProofs only [hb, go_sem, hh] <;> try simp only [qz] at hb))
          all_goals first
            | rfl
            | omega
            | exact uE ⟨fun q => ⟨hA, hN, hB, by assumption, by assumption, q⟩, fun q => q.2.2.2.2.2⟩
            | exact uF (fun q => absurd q.2.2.2.1 (by assumption))
            | exact uF (fun q => absurd q.2.2.2.2.1 (by assumption))
            | trace_state
end
def c26 : Ct := ctR (lc EWd.ag l0) (fun p => OkWd p.1) (fun p => .t (.v (.bool (bOf (WdOk p.1)))))
section
attribute [local go_sem] c53 c54 c55 c56 c57 c58 bOf_t bOf_f List.length_map decS1 List.mem_singleton forall_eq List.length_cons List.length_nil List.length_append List.nil_append Nat.zero_add Bool.not_false Bool.not_true
set_option maxHeartbeats 6400000 in
theorem good26 {G : Gt} (hG : OkG G) (hh : G.e 53 = roEnt 0 c53 ∧ G.e 54 = roEnt 0 c54 ∧ G.e 55 = roEnt 0 c55 ∧ G.e 56 = roEnt 0 c56 ∧ G.e 57 = roEnt 0 c57 ∧ G.e 58 = roEnt 0 c58) : Gd G 26 (roEnt 0 c26) := by
  refine gR (dp := fun _ => true) (fn := Tryz.f26) (n := 1) (fun _ => rfl) (by kernel_rfl) rfl (by kernel_rfl) hG (Nat.le_of_ble_eq_true rfl) (by kernel_rfl) (by decide) (fun _ _ => .v _) ?_
  rintro ⟨w, ⟨⟩⟩ hpre
  simp -implicitDefEqProofs only [Tryz.f26, go_sem, hh] at hpre ⊢
  obtain ⟨⟨lh, zh⟩, ⟨lg, zg⟩⟩ := hpre
  repeat' (first | with_reducible apply And.intro | with_reducible intro _ | ((first | apply brB_split | apply aPickB_split | apply gB_split | apply adB_split) <;> intro hb <;> simp -implicitDefEqProofs only [hb, go_sem, hh] <;> try simp only [qz] at hb))
  all_goals first | rfl | omega | skip
  refine run_loop [(3, 1903, true, 1)] (ι := {i : Nat // i ≤ w.hosts.length ∧ ∀ j, j < i → HsOk (w.hosts.getD j default)}) (fun p => ⟨[(1, .pb 1001 0), (3, .h 1903), (9, .t (.sl 7 (w.hosts.map encHs))), (10, .t (.v (.int .i64 w.hosts.length))), (11, .t (.v (.int .i64 p.1)))], [(1001, some (.box ((encWd w).map .t))), (1903, some (.arr true 1 (((w.hosts.map hnm).take p.1).map encStr)))]⟩) (fun p => w.hosts.length - p.1) ⟨0, by simp, by simp⟩ rfl ?_ ?_
  · simp -implicitDefEqProofs only [go_sem, hh]
    simp
  · rintro ⟨i, hi, hall⟩
    have hlen : ((w.hosts.map hnm).take i).length = i := by simp; omega
    by_cases hlt : (i : Int) < w.hosts.length
    · have hz := zh _ (getD_mem (xs := w.hosts) (j := i) (by omega))
      simp -implicitDefEqProofs only [hlt, decide_true, Int.toNat_natCast, go_sem, hh]
      repeat' (first | with_reducible apply And.intro | with_reducible intro _ | ((first | apply brB_split | apply aPickB_split | apply gB_split | apply adB_split) <;> intro hb <;> simp -implicitDefEqProofs only [hb, go_sem, hh] <;> try simp only [qz] at hb))
      all_goals (try simp only [maxLen, Int.toNat_natCast] at *)
      all_goals first
        | rfl
        | omega
        | assumption
        | exact uF (fun q => absurd (q.1 (w.hosts.getD i default) (getD_mem (by omega))) (by assumption))
        | skip
      refine ⟨⟨i + 1, by omega, bx_step hall hb⟩, by dsimp only; omega, ?_⟩
      simp -implicitDefEqProofs only [go_sem, hh]
      simp only [take_hnm (show i < w.hosts.length by omega)]
      repeat' (first | with_reducible apply And.intro | with_reducible intro _ | ((first | apply brB_split | apply aPickB_split | apply gB_split | apply adB_split) <;> intro hb <;> simp -implicitDefEqProofs only [hb, go_sem, hh] <;> try simp only [qz] at hb))
      all_goals first | rfl | (simp; done) | trace_state
    · have hA : ∀ h ∈ w.hosts, HsOk h := mem_getD fun j hj => hall j (by omega)
      simp -implicitDefEqProofs only [hlt, decide_false, go_sem, hh]
      repeat' (first | with_reducible apply And.intro | with_reducible intro _ | ((first | apply brB_split | apply aPickB_split | apply gB_split | apply adB_split) <;> intro hb <;> simp -implicitDefEqProofs only [hb, go_sem, hh] <;> try simp only [qz] at hb))
      all_goals first | rfl | omega | skip
      rw [List.take_of_length_le (by rw [List.length_map]; omega)]
      refine run_loop [] (ι := {i : Nat // i ≤ w.given.length ∧ ∀ j, j < i → LsOk (w.given.getD j default)}) (fun p => ⟨[(1, .pb 1001 0), (3, .h 1903), (26, .t (.sl 3 (w.given.map encLs))), (27, .t (.v (.int .i64 w.given.length))), (28, .t (.v (.int .i64 p.1)))], [(1001, some (.box ((encWd w).map .t))), (1903, some (.arr true 1 ((w.hosts.map hnm).map encStr)))]⟩) (fun p => w.given.length - p.1) ⟨0, by simp, by simp⟩ rfl ?_ ?_
      · simp -implicitDefEqProofs only [go_sem, hh]
        simp
      · rintro ⟨k, hk, hall2⟩
        by_cases hlt2 : (k : Int) < w.given.length
        · obtain ⟨g1, g2⟩ := zg _ (getD_mem (xs := w.given) (j := k) (by omega))
          have y1 : (w.given.getD k default).mark.size ≤ 2000000 := by have : (w.given.getD k default).mark.size ≤ 1048576 := g1; omega
          have y1' : ∀ s ∈ [(w.given.getD k default).mark], s.size ≤ 2000000 := fun s hs => by rw [List.mem_singleton.1 hs]; exact y1
          have y2 : (w.given.getD k default).addr.domain.size ≤ 2000000 := by have : (w.given.getD k default).addr.domain.size ≤ 1048576 := g2.2; omega
          simp -implicitDefEqProofs only [hlt2, decide_true, Int.toNat_natCast, go_sem, hh]
          repeat' (first | with_reducible apply And.intro | with_reducible intro _ | ((first | apply brB_split | apply aPickB_split | apply gB_split | apply adB_split) <;> intro hb <;> simp -implicitDefEqProofs only [hb, go_sem, hh] <;> try simp only [qz] at hb))
          all_goals (try simp only [maxLen, Int.toNat_natCast] at *)
          all_goals first
            | rfl
            | omega
            | assumption
            | exact y1' _ (by assumption)
            | exact uF (fun q => absurd (q.2.2.1 (w.given.getD k default) (getD_mem (by omega))).1 (fun f => f (by assumption)))
            | exact uF (fun q => absurd ((LsB _).2 (q.2.2.1 (w.given.getD k default) (getD_mem (by omega)))).2.1 (by assumption))
            | exact uF (fun q => absurd (q.2.2.1 (w.given.getD k default) (getD_mem (by omega))).2.2.1 (by assumption))
            | skip
          all_goals
            refine ⟨⟨k + 1, by omega, bx_step hall2 ((LsB _).1 ⟨by assumption, by assumption, by assumption⟩)⟩, by dsimp only; omega, ?_⟩
            simp -implicitDefEqProofs only [go_sem, hh]
            simp
        · have hB : ∀ l ∈ w.given, LsOk l := mem_getD fun j hj => hall2 j (by omega)
          simp -implicitDefEqProofs only [hlt2, decide_false, go_sem, hh]
          repeat' (first | with_reducible apply And.intro | with_reducible intro _ | ((first | apply brB_split | apply aPickB_split | apply gB_split | apply adB_split) <;> intro hb <;> simp -implicitDefEqProofs only [hb, go_sem, hh] <;> try simp only [qz] at hb))
          all_goals first
            | rfl
            | omega
            | exact uE ⟨fun q => ⟨hA, by assumption, hB, by assumption, by assumption, q⟩, fun q => q.2.2.2.2.2⟩
            | exact uF (fun q => absurd q.2.2.2.1 (by assumption))
            | exact uF (fun q => absurd q.2.1 (by assumption))
            | exact uF (fun q => absurd q.2.2.2.2.1 (by assumption))
            | trace_state
end
end Go.V
namespace Go.V
open Go Go.Proofs
set_option maxRecDepth 100000
set_option linter.unusedSimpArgs false
set_option linter.unusedVariables false
attribute [local go_sem] aPickB.eq_1 aPickB.eq_2 aPick.eq_1 aBox.eq_1 aBox.eq_2 aAlloc.eq_1 aAlloc.eq_2 aLoadB.eq_1 aLoadB.eq_2 aLoadB.eq_3 aLoadB.eq_4 aLoadB.eq_5 aLoadA.eq_1 aLoadA.eq_2 aLoadA.eq_3 aLoadA.eq_4 aLoadA.eq_5 aLoadP.eq_1 aLoadP.eq_2 aLoadP.eq_3 aLoad.eq_1 aLoad.eq_2 aFAx.eq_1 aFAx.eq_2 aFAx.eq_3 aFA.eq_1 aFA.eq_2 aFx.eq_1 aF.eq_1 aF.eq_2 fld.eq_1 elT.eq_1 aIdxH.eq_1 aIdxH.eq_2 aIdxH.eq_3 aIdxH.eq_4 aIdxH.eq_5 aIdxP.eq_1 aIdxP.eq_2 aIndexAddr.eq_1 aIndexAddr.eq_2 aIndexAddr.eq_3 isStr.eq_1 aIndex.eq_1 aSlStr.eq_1 aSlRo.eq_1 aSlZ.eq_1 aSlZ.eq_2 aSlice.eq_1 aSlice.eq_2 aSlice.eq_3 bnd.eq_1 bnd.eq_2 aBuildO.eq_1 aBuildO.eq_2 aBuild.eq_1 aNewArr.eq_1 aNewArr.eq_2 aBS.eq_1 aBS.eq_2 aBuildSlice.eq_1 aBuildSlice.eq_2 aMakeSlice.eq_1 appDeep.eq_1 aApp2.eq_1 aAppend.eq_1 aAppend.eq_2 aStoreB.eq_1 aStoreA.eq_1 obFlat.eq_1 aStore2.eq_1 aStore2.eq_2 aStoreP.eq_1 aStoreP.eq_2 aStore.eq_1 aStore.eq_2 isShl.eq_1 isShl.eq_2 isBool.eq_1 aBinI.eq_1 aBinI.eq_2 aBinB.eq_1 aBinB.eq_2 aEq.eq_1 aEq.eq_2 aEq.eq_3 aEq.eq_4 aEqG.eq_1 aEqG.eq_2 aBin.eq_1 aBin.eq_2 aBin.eq_3 aBin.eq_4 aUn.eq_1 aUn.eq_2 aLenO.eq_1 aLenS.eq_1 aLenS.eq_2 aLenS.eq_3 aLenT.eq_1 aLen.eq_1 aLen.eq_2 aLen.eq_3 bytesOb.eq_1 bytesOb.eq_2 bytesOf.eq_1 bytesOf.eq_2 aNums.eq_1 aNums.eq_2 isU8.eq_1 aCvI.eq_1 aCvS.eq_1 aCvB.eq_1 aCvB.eq_2 aCvT.eq_1 aConv.eq_1 aConv.eq_2 aConv.eq_3 aConv.eq_4 aExO.eq_1 aExO.eq_2 aExtract.eq_1 aNil.eq_1 aNil.eq_2 aNil.eq_3 aCallS.eq_1 aCallS.eq_2 aCallR.eq_1 aCallR.eq_2 aCallK.eq_1 aCallK.eq_2 aCallK.eq_3 aCall.eq_1 aCall.eq_2 takeO.eq_1 AS.takeV.eq_1 AS.takeV.eq_2 AS.takeV.eq_3 AS.takeV.eq_4 AS.takeV.eq_5 AS.takeV.eq_6 AS.takeV.eq_7 AV.oldM.eq_1 AV.oldM.eq_2 AV.oldM.eq_3 AV.oldM.eq_4 AV.oldM.eq_5 AV.oldM.eq_6 AV.oldM.eq_7 AV.oldM.eq_8 AV.oldM.eq_9 AV.oldM.eq_10 AV.oldM.eq_11 AV.oldML.eq_1 AV.oldML.eq_2 subL.eq_1 subL.eq_2 back.eq_1 back.eq_2 back.eq_3 back.eq_4 backL.eq_1 backI.eq_1 backI.eq_2 backI.eq_3 backI.eq_4 backIL.eq_1 aBuiltin.eq_1 aBuiltin.eq_2 aBuiltin.eq_3 aCallee.eq_1 aCallee.eq_2 aCallee.eq_3 abin.eq_1 abin.eq_2 abin.eq_3 abin.eq_4 abin.eq_5 abin.eq_6 abin.eq_7 abin.eq_8 abin.eq_9 abin.eq_10 abin.eq_11 abin.eq_12 abin.eq_13 abin.eq_14 abin.eq_15 abin.eq_17 abin.eq_18 abin.eq_19 abin.eq_20 abin.eq_21 abin.eq_22 abin.eq_23 AS.ev.eq_1 AS.ev.eq_2 AS.ev.eq_3 AS.ev.eq_4 AS.evs.eq_1 AS.evs.eq_2 AS.evp.eq_1 AS.evp.eq_2 AS.put.eq_1 AS.put.eq_2 AS.remL.eq_1 AS.remL.eq_2 AV.has.eq_1 AV.has.eq_2 AV.has.eq_3 AV.has.eq_4 AV.has.eq_5 AV.has.eq_6 AV.has.eq_7 AV.has.eq_8 AV.has.eq_9 AV.has.eq_10 AV.has.eq_11 AV.hasL.eq_1 AV.hasL.eq_2 Ob.drop.eq_1 Ob.drop.eq_2 Ob.drop.eq_3 Ob.drop.eq_4 AV.cells.eq_1 AV.cells.eq_2 AV.cells.eq_3 AV.cells.eq_4 AV.cells.eq_5 AS.snapT.eq_1 AS.snapT.eq_2 AS.snapT.eq_3 AS.snapT.eq_4 AS.snapT.eq_5 AS.snapT.eq_6 AS.snapT.eq_7 AS.snap.eq_1 AS.snap.eq_2 mapO.eq_1 mapO.eq_2 intern.eq_1 intern.eq_2 intern.eq_3 intern.eq_4 intern.eq_5 intern.eq_6 intern.eq_7 intern.eq_8 intern.eq_9 intern.eq_10 intern.eq_11 internL.eq_1 internL.eq_2 zipSl.eq_1 zipSl.eq_2 AV.ids.eq_1 AV.ids.eq_2 AV.ids.eq_3 AV.ids.eq_4 AV.ids.eq_5 AV.ids.eq_6 AV.ids.eq_7 AV.ids.eq_8 AV.ids.eq_9 AV.ids.eq_10 AV.ids.eq_11 AV.idsL.eq_1 AV.idsL.eq_2 AV.sub.eq_1 AV.sub.eq_2 AV.sub.eq_3 AV.sub.eq_4 AV.sub.eq_5 AV.sub.eq_6 AV.sub.eq_7 AV.sub.eq_8 AV.sub.eq_9 AV.sub.eq_10 AV.sub.eq_11 AV.subL.eq_1 AV.subL.eq_2 AS.frzL.eq_1 AS.frzL.eq_2 AS.absT.eq_1 AS.absT.eq_2 AS.absT.eq_4 AS.absL.eq_1 AS.absL.eq_2 AS.absOk.eq_1 AS.absOkL.eq_1 AS.absOkL.eq_2 hid.eq_1 hids.eq_1 hids.eq_2 AS.appBase.eq_1 AS.appBase.eq_2 AS.appSrc.eq_1 appFits.eq_1 appFits.eq_2 appFits.eq_3 avFill.eq_1 avFill.eq_2 avc.eq_1 avc.eq_2 avc1.eq_1 Kd.agg.eq_1 Kd.agg.eq_2 okR.eq_1 okR.eq_2 okR.eq_3 okR.eq_4 okR.eq_5 okR.eq_6 okR.eq_7 okR.eq_8 zt.eq_1 rvB.eq_1 rvP.eq_1 rvA.eq_1 rvA.eq_2 rv1.eq_1 outTO.eq_1 outT.eq_1 outT.eq_2 outT.eq_3 outTn.eq_1 outOO.eq_1 outO.eq_1 outO.eq_2 boxOf.eq_1 outP.eq_1 outP.eq_2 outP.eq_3 outP.eq_4 outP.eq_5 outP.eq_6 outP.eq_7 outP.eq_8 outPL.eq_1 outPL.eq_2 outI.eq_1 outI.eq_2 outI.eq_3 outI.eq_4 outI.eq_5 outIL.eq_1 outZ.eq_1 outZ.eq_2 outZ.eq_3 outZ.eq_4 outZ.eq_5 outZL.eq_1 finO.eq_1 finO.eq_2 fin.eq_1 fin.eq_2 fin.eq_3 cellAV.eq_1 cellAV.eq_2 numsOf.eq_1 numsOf.eq_2 aop.eq_1 aop.eq_2 aop.eq_3 aop.eq_4 aop.eq_5 aop.eq_6 aop.eq_7 aop.eq_8 aop.eq_9 aop.eq_10 aop.eq_11 aop.eq_12 aop.eq_13 aop.eq_14 aop.eq_15 aop.eq_16 aop.eq_17 aop.eq_18 aop.eq_19 aop.eq_20 aop.eq_21 aop.eq_22 aop.eq_23 aop.eq_24 aop.eq_25 aop.eq_26 tmpsOf.eq_1 tmpsOf.eq_2 tmpsOf.eq_3 tmpsOf.eq_4 tmpsOf.eq_5 AV.refs.eq_1 AV.refs.eq_2 AV.refs.eq_3 AV.refs.eq_4 AV.refs.eq_5 AV.refs.eq_6 AV.refs.eq_7 AV.refs.eq_8 AV.refs.eq_9 AV.refs.eq_10 AV.refs.eq_11 AV.refsL.eq_1 AV.refsL.eq_2 refsT.eq_1 refsT.eq_2 refsO.eq_1 refsO.eq_2 refsO.eq_3 refsO.eq_4 refsO.eq_5 refsO.eq_6 refsB.eq_1 refsB.eq_2 clos.eq_1 clos.eq_2 keepL.eq_1 keepL.eq_2 AV.hasM.eq_1 AV.hasM.eq_2 AV.hasM.eq_3 AV.hasM.eq_4 AV.hasM.eq_5 AV.hasM.eq_6 AV.hasM.eq_7 AV.hasM.eq_8 AV.hasM.eq_9 AV.hasM.eq_10 AV.hasM.eq_11 AV.hasML.eq_1 AV.hasML.eq_2 Ob.dropM.eq_1 Ob.dropM.eq_2 Ob.dropM.eq_3 Ob.dropM.eq_4 nsC.eq_1 nsC.eq_2 okGuard.eq_1 okGuard.eq_2 AS.purges.eq_1 AS.purges.eq_2 dropMB.eq_1 dropMB.eq_2 newB.eq_1 newB.eq_2 ptB.eq_1 ptB.eq_2 lookC.eq_1 lookC.eq_2 dropB.eq_1 dropB.eq_2 leS.eq_1 leS.eq_2 leT.eq_1 leT.eq_2 AS.mvs.eq_1 AS.mvs.eq_2 AS.mvA.eq_1 AS.mvA.eq_2 AS.mvB.eq_1 aSetO.eq_1 aSetO.eq_2 aSh.eq_1 aSh.eq_2 arK.eq_1 aIdxA.eq_1 aIdxA.eq_2 arT.eq_1 aSlHB.eq_1 aSlHB.eq_2 aSlHO.eq_1 aSlHZ.eq_1 aSlHZ.eq_2 isSlT.eq_1 isNilC.eq_1 aNilO.eq_1 aNilX.eq_1 aNilX.eq_2 aNilX.eq_3 aNilC.eq_1 aNilC.eq_2 aBinQ.eq_1 aBinQ.eq_2 aMin.eq_1 flT.eq_1 flT.eq_2 flT.eq_3 mpT.eq_1 aMkMap.eq_1 aMkMap.eq_2 strA.eq_1 keyMK.eq_1 keyMK.eq_2 keyMK.eq_3 mkB.eq_1 mkB.eq_2 mkB.eq_3 aMp2.eq_1 aMp1.eq_1 aMp0.eq_1 aMapU.eq_1 aLk2.eq_1 aLk2.eq_2 aLk1.eq_1 aLk0.eq_1 aLookup.eq_1 aLenMO.eq_1 aLenM.eq_1 glV.eq_1 glV.eq_2 evG.eq_1 evG.eq_2 evG.eq_3 evG.eq_4 lkHitO.eq_1 lkHitO.eq_2 lkHitO.eq_3 lkHitO.eq_4 lkHit.eq_1 lkHit.eq_2 lkF.eq_1 lkF.eq_2 lkFind.eq_1 lkFind.eq_2 lkV.eq_1 lkV.eq_2 lkV.eq_3 lkV.eq_4 lkV.eq_5 AS.lkO.eq_1 AS.lkO.eq_2 AS.lkOf.eq_1 rawT.eq_1 rawT.eq_2 rawT.eq_3 rawT.eq_4 rawT.eq_5 rawT.eq_6 rawOf.eq_1 rawOf.eq_2 rawOf.eq_3 rawOf.eq_4 rawOf.eq_5 rawOf.eq_6 rawOf.eq_7 rawOf.eq_8 rawOf.eq_9 rawOf.eq_10 rawOf.eq_11 aLkR.eq_1 aLkR.eq_2 aLk.eq_1 aLk.eq_2 KL.eq_1 lkDrop.eq_1 lkDrop.eq_2 lkParO.eq_1 lkParO.eq_2 lkParO.eq_3 lkParO.eq_4 lkPar.eq_1 lkPar.eq_2 lkI.eq_1 lkI.eq_2 lkIds.eq_1 lkIds.eq_2 adLd.eq_1 run_nil run_b run_l run_skip run_label run_seq run_cond brV_b brB_t brB_f run_block run_exit run_ret run_region runX_nil runX_c runX_c' runX_b runX_b' runX_l runX_l' exB_t exB_f run_o run_op run_opg gV_b gV_t gB_tt gB_ff gB_tf gB_ft rs_eq kv KI aLenN aBS1 aApp1 aStore1 szOk gv gd s0 idOf look_cons lookC frzU_t frzU_f orT orF drop_any drop_nil drop_t drop_h drop_pb drop_pa drop_agg drop_tup drop_fn dropB kill_eq set_eq rem_eq re_eq up_eq get_eq ob_eq Ob.drop apl fpl plainTy AS.frz splice cond_true cond_false List.map_cons List.map_nil List.drop_zero List.drop_succ_cons List.drop_nil List.take_zero List.take_succ_cons List.take_nil List.getElem?_cons_zero List.getElem?_cons_succ List.getElem?_nil List.length_cons List.length_nil Option.map_some Option.map_none Option.bind_some Option.bind_none List.cons_append List.nil_append List.append_nil Option.getD_some Option.getD_none List.all_cons List.all_nil Bool.and_true Bool.true_and Bool.or_false Bool.false_or Bool.or_true Bool.true_or List.flatten_cons List.flatten_nil List.replicate_succ List.replicate_zero and_true true_and avOf_t avOf_f agg_bool agg_int agg_str agg_slice agg_struct agg_func agg_ptr agg_map avc_bool avc_int avc_str avc_fn avc1_bool avc1_int avc1_str avc1_fn zt_bool zt_int zt_str cells_nil cells_t cells_h cells_pb cells_fn snap_t snap_nil snap_h snap_pb snap_fn rv1_one rv1_two outI_t outI_oh outI_on outI_any outI_nil outZ_th outZ_tt outZ_tn outZ_o outZ_any outZ_nil outIL_nil outZL_nil finN finR ne_eq not_false_eq_true not_true_eq_false List.nodup_nil List.not_mem_nil false_implies implies_true eq_self true_or or_true Option.some.injEq shl_add shl_sub shl_mul shl_quo shl_rem shl_and shl_or shl_xor shl_andNot shl_eql shl_neq shl_lss shl_leq shl_gtr shl_geq shl_shr shl_shl appDeep_none appDeep_sn appSrc_h appSrc_nil fits_ft fits_tn fits_tf isStr_slice obFlat_box Nat.le_refl nbeq_self List.length_map updZ_s updZ_n dropM_eq purge_eq newIds_cons newIds_nil purgeT_nil purgeT_cons memN_cons memN_nil bd_d bd_c bd_g bd_p bd_t bd_o preds_nil preds_cons hasIns insB List.any_cons List.any_nil adK_eq adr_nil adG_eq kdOp noLen creates Op.operands Call.operands nsOf adT adI adJ plainB rst List.append_eq nsD_f nsD_n nsD_t nOf_0 nOf_1 nOf_2 chO_0 chO_1 chO_2 keepK_0 keepK_1 keepK_2 eqRes AS.mv fits KM aCallM notNew kdCall arK_i64 arK_i32 arK_u8 arK_u64 arT_sl isNilC_t isNilC_f isNilC_g isNilC_i isNilC_b isNilC_s isNilC_a isNilC_n andBF andBT aCallK_2 ble_dec hid_t hid_nil hid_any hid_pb hid_fn absOk_t absOk_nil absOk_pb absOk_h absOkO_1 decide_true decide_false Array.toList_append chunk_0 chunk_1 chunk_2 chunk_3 back_t back_nil back_ht backL_nil backI_t backI_nil backI_ht backIL_nil AS.mvJ nbeq_dec runR_f runR_t loadB Option.isSome_some Option.isSome_none nodup1 adr_none adr_some adO_s adV_b adV_t adB_tt adB_ff adB_tf adB_ft adS_eq lenL.eq_1 lenO.eq_1 lenO.eq_2 lenV.eq_1 lenV.eq_2 lenV.eq_3 lenV.eq_4 optN optS absT_ft
attribute [local go_sem] ty3 ty4 ty5 ty9 ty21 ty22 ty23 ty25 ty27 ty30 ty32 ty33 ty35 ty37 ty49 ty50 ty52 ty53 ty55 ty56 ty58 ty60 ty62 ty75 ty84 ty86 ty87 ty89 ty90 ty92 ty95 ty110 ty111 ty113 ty121 ty138 ty146 ty155 ty157 ty184 ty186 ty188 ty194 ty197 ty211 ty214 ty223 ty230 ty236 lv37 lv75 lv121 lv146 zb4 leS leT fits AS.mvs encStr_eq aIdx_str EStr_dec decStrs decStrs0 EStr_enc EStr_n encInt_eq aIdx_int EInt_dec decInts decInts0 EInt_enc EInt_n AllV_Int len_Int lc_enc l0_enc asl_enc ag_enc aow_enc ABool_enc AInt_enc AStr_enc AU8_enc ABool_dec AInt_dec AStr_dec AU8_dec asl_dec ag_dec aow_dec bind_some pr2.eq_1 l0_nil lc_cons unT.eq_1 K0.eq_1 M0.eq_1 KI AllV_Str len_Str ctR_eq ctM_eq ro_kd ro_ro mu_kd mu_mu encAd_eq aIdx_Ad EAd_dec decAds decAds0 EAd_enc EAd_n len_Ad Ad_eta AllV_Ad encRc_eq aIdx_Rc ERc_dec decRcs decRcs0 ERc_enc ERc_n len_Rc Rc_eta AllV_Rc encIm_eq aIdx_Im EIm_dec decIms decIms0 EIm_enc EIm_n len_Im Im_eta mkIm.eq_1 owIm_eq AIm_enc AIm_dec encSp_eq aIdx_Sp ESp_dec decSps decSps0 ESp_enc ESp_n len_Sp Sp_eta mkSp.eq_1 owSp_eq ASp_enc ASp_dec encWy_eq aIdx_Wy EWy_dec decWys decWys0 EWy_enc EWy_n len_Wy Wy_eta AllV_Wy encCf_eq aIdx_Cf ECf_dec decCfs decCfs0 ECf_enc ECf_n len_Cf Cf_eta mkCf.eq_1 owCf_eq ACf_enc ACf_dec encGm_eq aIdx_Gm EGm_dec decGms decGms0 EGm_enc EGm_n len_Gm Gm_eta mkGm.eq_1 owGm_eq AGm_enc AGm_dec encBx_eq aIdx_Bx EBx_dec decBxs decBxs0 EBx_enc EBx_n len_Bx Bx_eta mkBx.eq_1 owBx_eq ABx_enc ABx_dec encLs_eq aIdx_Ls ELs_dec decLss decLss0 ELs_enc ELs_n len_Ls Ls_eta AllV_Ls encHs_eq aIdx_Hs EHs_dec decHss decHss0 EHs_enc EHs_n len_Hs Hs_eta mkHs.eq_1 owHs_eq AHs_enc AHs_dec encWd_eq aIdx_Wd EWd_dec decWds decWds0 EWd_enc EWd_n len_Wd Wd_eta mkWd.eq_1 owWd_eq AWd_enc AWd_dec
def sumL {α : Type} (f : α → Int) : List α → Int
  | [] => 0
  | x :: r => f x + sumL f r
theorem sum_step {α : Type} [Inhabited α] {f : α → Int} {xs : List α} {i : Nat} (h : i < xs.length) : sumL f (xs.drop i) = f (xs.getD i default) + sumL f (xs.drop (i + 1)) := by
  rw [getD_drop h]; rfl
theorem sum_end {α : Type} {f : α → Int} {xs : List α} {i : Nat} (h : xs.length ≤ i) : sumL f (xs.drop i) = 0 := by
  rw [List.drop_eq_nil_of_le h]; rfl
theorem sum_le {α : Type} {f : α → Int} {B : Int} : ∀ {xs : List α}, (∀ x ∈ xs, 0 ≤ f x ∧ f x ≤ B) → 0 ≤ sumL f xs ∧ sumL f xs ≤ B * xs.length
  | [], _ => by simp [sumL]
  | x :: r, h => by
    have h1 := h x (by simp)
    have h2 := sum_le (xs := r) fun y hy => h y (by simp [hy])
    have e1 : B * ((r.length + 1 : Nat) : Int) = B * r.length + B := by rw [Int.natCast_add, Int.mul_add]; simp
    simp only [sumL, List.length_cons]
    omega
theorem sum_drop {α : Type} {f : α → Int} {xs : List α} (h : ∀ x ∈ xs, 0 ≤ f x) (i : Nat) : 0 ≤ sumL f (xs.drop i) := by
  have h2 : ∀ {ys : List α}, (∀ x ∈ ys, 0 ≤ f x) → 0 ≤ sumL f ys := fun {ys} => by
    induction ys with
    | nil => intro _; exact Int.le_refl _
    | cons y r ih =>
      intro h
      have h1 := h y (by simp)
      have h3 := ih fun z hz => h z (by simp [hz])
      show 0 ≤ f y + sumL f r
      omega
  exact h2 fun x hx => h x (List.mem_of_mem_drop hx)
def rcN (x : Im) : Int := x.to.length
open Classical in
noncomputable def SMany (s : Sp) : Int := if SpOk s then sumL rcN s.items else -1
theorem SMany_y {s : Sp} (h : SpOk s) : SMany s = sumL rcN s.items := if_pos h
theorem SMany_n {s : Sp} (h : ¬ SpOk s) : SMany s = -1 := if_neg h
theorem many_le {s : Sp} (h : SpOk s) : 0 ≤ sumL rcN s.items ∧ sumL rcN s.items ≤ 40 := by
  have h1 := sum_le (f := rcN) (B := 4) (xs := s.items) fun x hx => by
    have := (h.1 x hx).1.2.2.2.2.1
    unfold rcN; omega
  have h2 := h.2.2.2
  omega
def itN (h : Hs) : Int := h.spool.items.length
noncomputable def mnN (h : Hs) : Int := SMany h.spool
def mlN (b : Bx) : Int := b.mails.length
def bxN (h : Hs) : Int := sumL mlN h.boxes
def loN (h : Hs) : Int := h.lost.length
open Classical in
noncomputable def LMany (w : Wd) : List Int := if WdOk w then [sumL itN w.hosts, sumL mnN w.hosts, sumL bxN w.hosts, sumL loN w.hosts] else []
theorem LMany_y {w : Wd} (h : WdOk w) : LMany w = [sumL itN w.hosts, sumL mnN w.hosts, sumL bxN w.hosts, sumL loN w.hosts] := if_pos h
theorem LMany_n {w : Wd} (h : ¬ WdOk w) : LMany w = [] := if_neg h
theorem host_le {h : Hs} (hh : HsOk h) (ho : OkHs h) : (0 ≤ itN h ∧ itN h ≤ 10) ∧ (0 ≤ mnN h ∧ mnN h ≤ 40) ∧ (0 ≤ bxN h ∧ bxN h ≤ 1099511627776) ∧ (0 ≤ loN h ∧ loN h ≤ 1048576) := by
  obtain ⟨_, _, ⟨lb, zb⟩, ⟨ll, _⟩⟩ := ho
  have hs := hh.2.2
  have h1 := hs.2.2.2
  have h2 := many_le hs
  have h3 := sum_le (f := mlN) (B := 1048576) (xs := h.boxes) fun b hb => by
    have := (zb b hb).2.1
    unfold mlN; omega
  refine ⟨by unfold itN; omega, by unfold mnN; rw [SMany_y hs]; exact h2, ?_, by unfold loN; omega⟩
  unfold bxN
  have h4 : (1048576 : Int) * h.boxes.length ≤ 1048576 * 1048576 := Int.mul_le_mul_of_nonneg_left lb (by decide)
  omega
theorem look_le {w : Wd} (hw : WdOk w) (ho : OkWd w) : (sumL itN w.hosts ≤ 40) ∧ (sumL mnN w.hosts ≤ 160) ∧ (sumL bxN w.hosts ≤ 4398046511104) ∧ (sumL loN w.hosts ≤ 4194304) := by
  have hf := fun h hh => host_le (hw.1 h hh) (ho.1.2 h hh)
  have h4 := hw.2.2.2.1.2
  have h1 := sum_le (f := itN) (B := 10) (xs := w.hosts) fun h hh => (hf h hh).1
  have h2 := sum_le (f := mnN) (B := 40) (xs := w.hosts) fun h hh => (hf h hh).2.1
  have h3 := sum_le (f := bxN) (B := 1099511627776) (xs := w.hosts) fun h hh => (hf h hh).2.2.1
  have h5 := sum_le (f := loN) (B := 1048576) (xs := w.hosts) fun h hh => (hf h hh).2.2.2
  refine ⟨by omega, by omega, by omega, by omega⟩
def L4 (a b c d : Int) : List Int := [a, b, c, d]
section
variable {a b c d x : Int}
theorem L4_len : (L4 a b c d).length = 4 := rfl
theorem L4_g0 : (L4 a b c d).getD 0 default = a := rfl
theorem L4_g1 : (L4 a b c d).getD 1 default = b := rfl
theorem L4_g2 : (L4 a b c d).getD 2 default = c := rfl
theorem L4_g3 : (L4 a b c d).getD 3 default = d := rfl
theorem L4_s0 : (L4 a b c d).set 0 x = L4 x b c d := rfl
theorem L4_s1 : (L4 a b c d).set 1 x = L4 a x c d := rfl
theorem L4_s2 : (L4 a b c d).set 2 x = L4 a b x d := rfl
theorem L4_s3 : (L4 a b c d).set 3 x = L4 a b c x := rfl
theorem toN0 : Int.toNat 0 = 0 := rfl
theorem toN1 : Int.toNat 1 = 1 := rfl
theorem toN2 : Int.toNat 2 = 2 := rfl
theorem toN3 : Int.toNat 3 = 3 := rfl
end
theorem spA_byte {c x : UInt8} : ∀ {l : List UInt8}, x ∈ l → x = c ∨ ∃ w ∈ spA c l, x ∈ w
  | y :: r, h => by
    rw [spA]
    by_cases e : y = c
    · rw [if_pos e]
      rcases List.mem_cons.1 h with h | h
      · exact .inl (h.trans e)
      · rcases spA_byte h with q | ⟨w, hw, q⟩
        · exact .inl q
        · exact .inr ⟨w, by simp [hw], q⟩
    · rw [if_neg e]
      cases hs : spA c r with
      | nil => have := spA_len c r; rw [hs] at this; simp at this
      | cons a t =>
        rcases List.mem_cons.1 h with h | h
        · exact .inr ⟨y :: a, by simp, by simp [h]⟩
        · rcases spA_byte h with q | ⟨w, hw, q⟩
          · exact .inl q
          · rw [hs] at hw
            rcases List.mem_cons.1 hw with e2 | hw
            · exact .inr ⟨y :: a, by simp, by rw [e2] at q; simp [q]⟩
            · exact .inr ⟨w, by simp [hw], q⟩
theorem spA_size {c : UInt8} {B : Nat} : ∀ {l : List UInt8}, (∀ w ∈ spA c l, w.length ≤ B) → l.length + 1 ≤ (B + 1) * (spA c l).length
  | [], _ => by simp [spA]
  | y :: r, h => by
    rw [spA] at h ⊢
    by_cases e : y = c
    · rw [if_pos e] at h ⊢
      have := spA_size (c := c) (l := r) fun w hw => h w (by simp [hw])
      rw [List.length_cons, List.length_cons, Nat.mul_succ]
      omega
    · rw [if_neg e] at h ⊢
      cases hs : spA c r with
      | nil => have := spA_len c r; rw [hs] at this; simp at this
      | cons a t =>
        rw [hs] at h
        have h1 := h (y :: a) (by simp)
        have h3 : (∀ w ∈ spA c r, w.length ≤ B) ∨ True := .inr trivial
        have key : ∀ (l : List UInt8), l.length + 1 = ((spA c l).map fun w => w.length + 1).sum := fun l => by
          induction l with
          | nil => rfl
          | cons z q ih =>
            rw [spA]
            by_cases ez : z = c
            · rw [if_pos ez, List.map_cons, List.sum_cons, ← ih, List.length_cons, List.length_nil]; omega
            · rw [if_neg ez]
              cases hq : spA c q with
              | nil => have := spA_len c q; rw [hq] at this; simp at this
              | cons a' t' => rw [hq] at ih; simp only [List.map_cons, List.sum_cons, List.length_cons] at ih ⊢; omega
        have h2 := key r
        rw [hs] at h2
        have h4 : ∀ t : List (List UInt8), (∀ w ∈ t, w.length ≤ B) → (t.map fun w => w.length + 1).sum ≤ (B + 1) * t.length := fun t => by
          induction t with
          | nil => intro _; simp
          | cons w t ih =>
            intro hw
            have q1 := ih fun x hx => hw x (by simp [hx])
            have q2 := hw w (by simp)
            rw [List.map_cons, List.sum_cons, List.length_cons, Nat.mul_succ]; omega
        have h5 := h4 t fun w hw => h w (by simp [hw])
        simp only [List.map_cons, List.sum_cons, List.length_cons] at h1 h2 ⊢
        rw [Nat.mul_succ]
        omega
def LinL (l : List UInt8) : Prop := ∀ b ∈ l, 32 ≤ (b.toNat : Int) ∧ (b.toNat : Int) ≤ 126
instance (l : List UInt8) : Decidable (LinL l) := by unfold LinL; infer_instance
theorem byte_mem {s : ByteArray} {b : UInt8} (h : b ∈ bl s) : ∃ j, j < s.size ∧ byteAt s j = b.toNat := by
  obtain ⟨j, hj, e⟩ := List.getElem_of_mem h
  exact ⟨j, hj, by rw [byteAt_bl]; simp [hj, e]⟩
theorem mem_byte {s : ByteArray} {j : Nat} (h : j < s.size) : ∃ b ∈ bl s, byteAt s j = b.toNat := by
  have h' : j < (bl s).length := h
  exact ⟨(bl s)[j], List.getElem_mem h', by rw [byteAt_bl]; simp [h']⟩
theorem Lin_iff (s : ByteArray) : Lin s ↔ LinL (bl s) ∧ s.size ≤ 40 :=
  ⟨fun h => ⟨fun b hb => by
    obtain ⟨j, hj, e⟩ := byte_mem hb
    rw [← e]; exact h.1 j hj, h.2⟩, fun h => ⟨fun j hj => by
    obtain ⟨b, hb, e⟩ := mem_byte hj
    rw [e]; exact h.1 b hb, h.2⟩⟩
theorem LinL_app {a b : List UInt8} : LinL (a ++ b) ↔ LinL a ∧ LinL b :=
  ⟨fun h => ⟨fun x hx => h x (by simp [hx]), fun x hx => h x (by simp [hx])⟩, fun h x hx => (List.mem_append.1 hx).elim (h.1 x) (h.2 x)⟩
theorem Lbl_lin {s : ByteArray} (h : Lbl s) : LinL (bl s) ∧ s.size ≤ 8 := ⟨fun b hb => by
  obtain ⟨j, hj, e⟩ := byte_mem hb
  have := h.1 j hj
  rw [← e]; unfold isLc at this; omega, h.2.2⟩
theorem Dom_lin {s : ByteArray} (h : Dom s) : LinL (bl s) ∧ s.size ≤ 26 := by
  obtain ⟨h1, h2⟩ := (Dom_spl s).1 h
  have h3 : ∀ w ∈ spA 46 (bl s), Lbl (mB w) := fun w hw => h1 _ (List.mem_map_of_mem hw)
  refine ⟨fun b hb => ?_, ?_⟩
  · rcases spA_byte (c := 46) hb with e | ⟨w, hw, q⟩
    · rw [e]; decide
    · exact (Lbl_lin (h3 w hw)).1 b q
  · have h4 := spA_size (c := 46) (B := 8) (l := bl s) fun w hw => (h3 w hw).2.2
    have h5 : (spA 46 (bl s)).length ≤ 3 := by
      have : (spl s 46).length = (spA 46 (bl s)).length := List.length_map ..
      omega
    have h6 : (bl s).length = s.size := rfl
    have h7 : 9 * (spA 46 (bl s)).length ≤ 9 * 3 := Nat.mul_le_mul_left 9 h5
    omega
def hopS : ByteArray := ⟨#[72, 111, 112, 58, 32]⟩
def hopLine (n : ByteArray) : ByteArray := hopS ++ n
theorem hop_lin {n : ByteArray} (h : Dom n) : Lin (hopLine n) := by
  obtain ⟨h1, h2⟩ := Dom_lin h
  rw [Lin_iff]
  have e : bl (hopLine n) = [72, 111, 112, 58, 32] ++ bl n := bl_app _ _
  refine ⟨?_, ?_⟩
  · rw [e, LinL_app]
    exact ⟨by decide, h1⟩
  · have : (hopLine n).size = 5 + n.size := by rw [← bl_len, e, List.length_append, bl_len]; rfl
    omega
noncomputable def putA (a : Ad) : ByteArray := bif bOf (AdNull a) then ⟨#[60, 62]⟩ else ⟨#[60]⟩ ++ a.user ++ ⟨#[64]⟩ ++ a.domain ++ ⟨#[62]⟩
theorem putA_y {a : Ad} (h : AdNull a) : putA a = ⟨#[60, 62]⟩ := by unfold putA; rw [bOf_y h]; rfl
theorem putA_n {a : Ad} (h : ¬ AdNull a) : putA a = ⟨#[60]⟩ ++ a.user ++ ⟨#[64]⟩ ++ a.domain ++ ⟨#[62]⟩ := by unfold putA; rw [bOf_n h]; rfl
theorem putA_bl {a : Ad} (h : ¬ AdNull a) : bl (putA a) = [60] ++ bl a.user ++ [64] ++ bl a.domain ++ [62] := by
  rw [putA_n h]
  simp only [bl_app]
  rfl
theorem AdOk_nn {a : Ad} (h : AdOk a) : ¬ AdNull a := fun q => by
  have := h.1.2.1
  rw [q.1] at this
  exact absurd this (by decide)
theorem putA_lin {a : Ad} (h : AdOk a ∨ AdNull a) : Lin (putA a) := by
  by_cases hn : AdNull a
  · rw [putA_y hn, Lin_iff]
    exact ⟨by decide, by decide⟩
  · have ha := h.resolve_right hn
    obtain ⟨u1, u2⟩ := Lbl_lin ha.1
    obtain ⟨d1, d2⟩ := Dom_lin ha.2
    rw [Lin_iff, putA_bl hn]
    refine ⟨by simp only [LinL_app]; exact ⟨⟨⟨⟨by decide, u1⟩, by decide⟩, d1⟩, by decide⟩, ?_⟩
    have : (putA a).size = 3 + a.user.size + a.domain.size := by
      rw [← bl_len, putA_bl hn]
      simp only [List.length_append, List.length_cons, List.length_nil, bl_len]; omega
    omega
end Go.V
namespace Go.V
open Go Go.Proofs
set_option maxRecDepth 100000
set_option linter.unusedSimpArgs false
set_option linter.unusedVariables false
attribute [local go_sem_proc] Nat.reduceAdd Nat.reduceMul Nat.reduceLeDiff Nat.reduceEqDiff reduceCtorEq Nat.reduceSub Int.reduceNeg Nat.reduceMod Nat.reduceBEq Nat.reduceLT
attribute [local go_sem] aPickB.eq_1 aPickB.eq_2 aPick.eq_1 aBox.eq_1 aBox.eq_2 aAlloc.eq_1 aAlloc.eq_2 aLoadB.eq_1 aLoadB.eq_2 aLoadB.eq_3 aLoadB.eq_4 aLoadB.eq_5 aLoadA.eq_1 aLoadA.eq_2 aLoadA.eq_3 aLoadA.eq_4 aLoadA.eq_5 aLoadP.eq_1 aLoadP.eq_2 aLoadP.eq_3 aLoad.eq_1 aLoad.eq_2 aFAx.eq_1 aFAx.eq_2 aFAx.eq_3 aFA.eq_1 aFA.eq_2 aFx.eq_1 aF.eq_1 aF.eq_2 fld.eq_1 elT.eq_1 aIdxH.eq_1 aIdxH.eq_2 aIdxH.eq_3 aIdxH.eq_4 aIdxH.eq_5 aIdxP.eq_1 aIdxP.eq_2 aIndexAddr.eq_1 aIndexAddr.eq_2 aIndexAddr.eq_3 isStr.eq_1 aIndex.eq_1 aSlStr.eq_1 aSlRo.eq_1 aSlZ.eq_1 aSlZ.eq_2 aSlice.eq_1 aSlice.eq_2 aSlice.eq_3 bnd.eq_1 bnd.eq_2 aBuildO.eq_1 aBuildO.eq_2 aBuild.eq_1 aNewArr.eq_1 aNewArr.eq_2 aBS.eq_1 aBS.eq_2 aBuildSlice.eq_1 aBuildSlice.eq_2 aMakeSlice.eq_1 appDeep.eq_1 aApp2.eq_1 aAppend.eq_1 aAppend.eq_2 aStoreB.eq_1 aStoreA.eq_1 obFlat.eq_1 aStore2.eq_1 aStore2.eq_2 aStoreP.eq_1 aStoreP.eq_2 aStore.eq_1 aStore.eq_2 isShl.eq_1 isShl.eq_2 isBool.eq_1 aBinI.eq_1 aBinI.eq_2 aBinB.eq_1 aBinB.eq_2 aEq.eq_1 aEq.eq_2 aEq.eq_3 aEq.eq_4 aEqG.eq_1 aEqG.eq_2 aBin.eq_1 aBin.eq_2 aBin.eq_3 aBin.eq_4 aUn.eq_1 aUn.eq_2 aLenO.eq_1 aLenS.eq_1 aLenS.eq_2 aLenS.eq_3 aLenT.eq_1 aLen.eq_1 aLen.eq_2 aLen.eq_3 bytesOb.eq_1 bytesOb.eq_2 bytesOf.eq_1 bytesOf.eq_2 aNums.eq_1 aNums.eq_2 isU8.eq_1 aCvI.eq_1 aCvS.eq_1 aCvB.eq_1 aCvB.eq_2 aCvT.eq_1 aConv.eq_1 aConv.eq_2 aConv.eq_3 aConv.eq_4 aExO.eq_1 aExO.eq_2 aExtract.eq_1 aNil.eq_1 aNil.eq_2 aNil.eq_3 aCallS.eq_1 aCallS.eq_2 aCallR.eq_1 aCallR.eq_2 aCallK.eq_1 aCallK.eq_2 aCallK.eq_3 aCall.eq_1 aCall.eq_2 takeO.eq_1 AS.takeV.eq_1 AS.takeV.eq_2 AS.takeV.eq_3 AS.takeV.eq_4 AS.takeV.eq_5 AS.takeV.eq_6 AS.takeV.eq_7 AV.oldM.eq_1 AV.oldM.eq_2 AV.oldM.eq_3 AV.oldM.eq_4 AV.oldM.eq_5 AV.oldM.eq_6 AV.oldM.eq_7 AV.oldM.eq_8 AV.oldM.eq_9 AV.oldM.eq_10 AV.oldM.eq_11 AV.oldML.eq_1 AV.oldML.eq_2 subL.eq_1 subL.eq_2 back.eq_1 back.eq_2 back.eq_3 back.eq_4 backL.eq_1 backI.eq_1 backI.eq_2 backI.eq_3 backI.eq_4 backIL.eq_1 aBuiltin.eq_1 aBuiltin.eq_2 aBuiltin.eq_3 aCallee.eq_1 aCallee.eq_2 aCallee.eq_3 abin.eq_1 abin.eq_2 abin.eq_3 abin.eq_4 abin.eq_5 abin.eq_6 abin.eq_7 abin.eq_8 abin.eq_9 abin.eq_10 abin.eq_11 abin.eq_12 abin.eq_13 abin.eq_14 abin.eq_15 abin.eq_17 abin.eq_18 abin.eq_19 abin.eq_20 abin.eq_21 abin.eq_22 abin.eq_23 AS.ev.eq_1 AS.ev.eq_2 AS.ev.eq_3 AS.ev.eq_4 AS.evs.eq_1 AS.evs.eq_2 AS.evp.eq_1 AS.evp.eq_2 AS.put.eq_1 AS.put.eq_2 AS.remL.eq_1 AS.remL.eq_2 AV.has.eq_1 AV.has.eq_2 AV.has.eq_3 AV.has.eq_4 AV.has.eq_5 AV.has.eq_6 AV.has.eq_7 AV.has.eq_8 AV.has.eq_9 AV.has.eq_10 AV.has.eq_11 AV.hasL.eq_1 AV.hasL.eq_2 Ob.drop.eq_1 Ob.drop.eq_2 Ob.drop.eq_3 Ob.drop.eq_4 AV.cells.eq_1 AV.cells.eq_2 AV.cells.eq_3 AV.cells.eq_4 AV.cells.eq_5 AS.snapT.eq_1 AS.snapT.eq_2 AS.snapT.eq_3 AS.snapT.eq_4 AS.snapT.eq_5 AS.snapT.eq_6 AS.snapT.eq_7 AS.snap.eq_1 AS.snap.eq_2 mapO.eq_1 mapO.eq_2 intern.eq_1 intern.eq_2 intern.eq_3 intern.eq_4 intern.eq_5 intern.eq_6 intern.eq_7 intern.eq_8 intern.eq_9 intern.eq_10 intern.eq_11 internL.eq_1 internL.eq_2 zipSl.eq_1 zipSl.eq_2 AV.ids.eq_1 AV.ids.eq_2 AV.ids.eq_3 AV.ids.eq_4 AV.ids.eq_5 AV.ids.eq_6 AV.ids.eq_7 AV.ids.eq_8 AV.ids.eq_9 AV.ids.eq_10 AV.ids.eq_11 AV.idsL.eq_1 AV.idsL.eq_2 AV.sub.eq_1 AV.sub.eq_2 AV.sub.eq_3 AV.sub.eq_4 AV.sub.eq_5 AV.sub.eq_6 AV.sub.eq_7 AV.sub.eq_8 AV.sub.eq_9 AV.sub.eq_10 AV.sub.eq_11 AV.subL.eq_1 AV.subL.eq_2 AS.frzL.eq_1 AS.frzL.eq_2 AS.absT.eq_1 AS.absT.eq_2 AS.absT.eq_4 AS.absL.eq_1 AS.absL.eq_2 AS.absOk.eq_1 AS.absOkL.eq_1 AS.absOkL.eq_2 hid.eq_1 hids.eq_1 hids.eq_2 AS.appBase.eq_1 AS.appBase.eq_2 AS.appSrc.eq_1 appFits.eq_1 appFits.eq_2 appFits.eq_3 avFill.eq_1 avFill.eq_2 avc.eq_1 avc.eq_2 avc1.eq_1 Kd.agg.eq_1 Kd.agg.eq_2 okR.eq_1 okR.eq_2 okR.eq_3 okR.eq_4 okR.eq_5 okR.eq_6 okR.eq_7 okR.eq_8 zt.eq_1 rvB.eq_1 rvP.eq_1 rvA.eq_1 rvA.eq_2 rv1.eq_1 outTO.eq_1 outT.eq_1 outT.eq_2 outT.eq_3 outTn.eq_1 outOO.eq_1 outO.eq_1 outO.eq_2 boxOf.eq_1 outP.eq_1 outP.eq_2 outP.eq_3 outP.eq_4 outP.eq_5 outP.eq_6 outP.eq_7 outP.eq_8 outPL.eq_1 outPL.eq_2 outI.eq_1 outI.eq_2 outI.eq_3 outI.eq_4 outI.eq_5 outIL.eq_1 outZ.eq_1 outZ.eq_2 outZ.eq_3 outZ.eq_4 outZ.eq_5 outZL.eq_1 finO.eq_1 finO.eq_2 fin.eq_1 fin.eq_2 fin.eq_3 cellAV.eq_1 cellAV.eq_2 numsOf.eq_1 numsOf.eq_2 aop.eq_1 aop.eq_2 aop.eq_3 aop.eq_4 aop.eq_5 aop.eq_6 aop.eq_7 aop.eq_8 aop.eq_9 aop.eq_10 aop.eq_11 aop.eq_12 aop.eq_13 aop.eq_14 aop.eq_15 aop.eq_16 aop.eq_17 aop.eq_18 aop.eq_19 aop.eq_20 aop.eq_21 aop.eq_22 aop.eq_23 aop.eq_24 aop.eq_25 aop.eq_26 tmpsOf.eq_1 tmpsOf.eq_2 tmpsOf.eq_3 tmpsOf.eq_4 tmpsOf.eq_5 AV.refs.eq_1 AV.refs.eq_2 AV.refs.eq_3 AV.refs.eq_4 AV.refs.eq_5 AV.refs.eq_6 AV.refs.eq_7 AV.refs.eq_8 AV.refs.eq_9 AV.refs.eq_10 AV.refs.eq_11 AV.refsL.eq_1 AV.refsL.eq_2 refsT.eq_1 refsT.eq_2 refsO.eq_1 refsO.eq_2 refsO.eq_3 refsO.eq_4 refsO.eq_5 refsO.eq_6 refsB.eq_1 refsB.eq_2 clos.eq_1 clos.eq_2 keepL.eq_1 keepL.eq_2 AV.hasM.eq_1 AV.hasM.eq_2 AV.hasM.eq_3 AV.hasM.eq_4 AV.hasM.eq_5 AV.hasM.eq_6 AV.hasM.eq_7 AV.hasM.eq_8 AV.hasM.eq_9 AV.hasM.eq_10 AV.hasM.eq_11 AV.hasML.eq_1 AV.hasML.eq_2 Ob.dropM.eq_1 Ob.dropM.eq_2 Ob.dropM.eq_3 Ob.dropM.eq_4 nsC.eq_1 nsC.eq_2 okGuard.eq_1 okGuard.eq_2 AS.purges.eq_1 AS.purges.eq_2 dropMB.eq_1 dropMB.eq_2 newB.eq_1 newB.eq_2 ptB.eq_1 ptB.eq_2 lookC.eq_1 lookC.eq_2 dropB.eq_1 dropB.eq_2 leS.eq_1 leS.eq_2 leT.eq_1 leT.eq_2 AS.mvs.eq_1 AS.mvs.eq_2 AS.mvA.eq_1 AS.mvA.eq_2 AS.mvB.eq_1 aSetO.eq_1 aSetO.eq_2 aSh.eq_1 aSh.eq_2 arK.eq_1 aIdxA.eq_1 aIdxA.eq_2 arT.eq_1 aSlHB.eq_1 aSlHB.eq_2 aSlHO.eq_1 aSlHZ.eq_1 aSlHZ.eq_2 isSlT.eq_1 isNilC.eq_1 aNilO.eq_1 aNilX.eq_1 aNilX.eq_2 aNilX.eq_3 aNilC.eq_1 aNilC.eq_2 aBinQ.eq_1 aBinQ.eq_2 aMin.eq_1 flT.eq_1 flT.eq_2 flT.eq_3 mpT.eq_1 aMkMap.eq_1 aMkMap.eq_2 strA.eq_1 keyMK.eq_1 keyMK.eq_2 keyMK.eq_3 mkB.eq_1 mkB.eq_2 mkB.eq_3 aMp2.eq_1 aMp1.eq_1 aMp0.eq_1 aMapU.eq_1 aLk2.eq_1 aLk2.eq_2 aLk1.eq_1 aLk0.eq_1 aLookup.eq_1 aLenMO.eq_1 aLenM.eq_1 glV.eq_1 glV.eq_2 evG.eq_1 evG.eq_2 evG.eq_3 evG.eq_4 lkHitO.eq_1 lkHitO.eq_2 lkHitO.eq_3 lkHitO.eq_4 lkHit.eq_1 lkHit.eq_2 lkF.eq_1 lkF.eq_2 lkFind.eq_1 lkFind.eq_2 lkV.eq_1 lkV.eq_2 lkV.eq_3 lkV.eq_4 lkV.eq_5 AS.lkO.eq_1 AS.lkO.eq_2 AS.lkOf.eq_1 rawT.eq_1 rawT.eq_2 rawT.eq_3 rawT.eq_4 rawT.eq_5 rawT.eq_6 rawOf.eq_1 rawOf.eq_2 rawOf.eq_3 rawOf.eq_4 rawOf.eq_5 rawOf.eq_6 rawOf.eq_7 rawOf.eq_8 rawOf.eq_9 rawOf.eq_10 rawOf.eq_11 aLkR.eq_1 aLkR.eq_2 aLk.eq_1 aLk.eq_2 KL.eq_1 lkDrop.eq_1 lkDrop.eq_2 lkParO.eq_1 lkParO.eq_2 lkParO.eq_3 lkParO.eq_4 lkPar.eq_1 lkPar.eq_2 lkI.eq_1 lkI.eq_2 lkIds.eq_1 lkIds.eq_2 adLd.eq_1 run_nil run_b run_l run_skip run_label run_seq run_cond brV_b brB_t brB_f run_block run_exit run_ret run_region runX_nil runX_c runX_c' runX_b runX_b' runX_l runX_l' exB_t exB_f run_o run_op run_opg gV_b gV_t gB_tt gB_ff gB_tf gB_ft rs_eq kv KI aLenN aBS1 aApp1 aStore1 szOk gv gd s0 idOf look_cons lookC frzU_t frzU_f orT orF drop_any drop_nil drop_t drop_h drop_pb drop_pa drop_agg drop_tup drop_fn dropB kill_eq set_eq rem_eq re_eq up_eq get_eq ob_eq Ob.drop apl fpl plainTy AS.frz splice cond_true cond_false List.map_cons List.map_nil List.drop_zero List.drop_succ_cons List.drop_nil List.take_zero List.take_succ_cons List.take_nil List.getElem?_cons_zero List.getElem?_cons_succ List.getElem?_nil List.length_cons List.length_nil Option.map_some Option.map_none Option.bind_some Option.bind_none List.cons_append List.nil_append List.append_nil Option.getD_some Option.getD_none List.all_cons List.all_nil Bool.and_true Bool.true_and Bool.or_false Bool.false_or Bool.or_true Bool.true_or List.flatten_cons List.flatten_nil List.replicate_succ List.replicate_zero and_true true_and avOf_t avOf_f agg_bool agg_int agg_str agg_slice agg_struct agg_func agg_ptr agg_map avc_bool avc_int avc_str avc_fn avc1_bool avc1_int avc1_str avc1_fn zt_bool zt_int zt_str cells_nil cells_t cells_h cells_pb cells_fn snap_t snap_nil snap_h snap_pb snap_fn rv1_one rv1_two outI_t outI_oh outI_on outI_any outI_nil outZ_th outZ_tt outZ_tn outZ_o outZ_any outZ_nil outIL_nil outZL_nil finN finR ne_eq not_false_eq_true not_true_eq_false List.nodup_nil List.not_mem_nil false_implies implies_true eq_self true_or or_true Option.some.injEq shl_add shl_sub shl_mul shl_quo shl_rem shl_and shl_or shl_xor shl_andNot shl_eql shl_neq shl_lss shl_leq shl_gtr shl_geq shl_shr shl_shl appDeep_none appDeep_sn appSrc_h appSrc_nil fits_ft fits_tn fits_tf isStr_slice obFlat_box Nat.le_refl nbeq_self List.length_map updZ_s updZ_n dropM_eq purge_eq newIds_cons newIds_nil purgeT_nil purgeT_cons memN_cons memN_nil bd_d bd_c bd_g bd_p bd_t bd_o preds_nil preds_cons hasIns insB List.any_cons List.any_nil adK_eq adr_nil adG_eq kdOp noLen creates Op.operands Call.operands nsOf adT adI adJ plainB rst List.append_eq nsD_f nsD_n nsD_t nOf_0 nOf_1 nOf_2 chO_0 chO_1 chO_2 keepK_0 keepK_1 keepK_2 eqRes AS.mv fits KM aCallM notNew kdCall arK_i64 arK_i32 arK_u8 arK_u64 arT_sl isNilC_t isNilC_f isNilC_g isNilC_i isNilC_b isNilC_s isNilC_a isNilC_n andBF andBT aCallK_2 ble_dec hid_t hid_nil hid_any hid_pb hid_fn absOk_t absOk_nil absOk_pb absOk_h absOkO_1 decide_true decide_false Array.toList_append chunk_0 chunk_1 chunk_2 chunk_3 back_t back_nil back_ht backL_nil backI_t backI_nil backI_ht backIL_nil AS.mvJ nbeq_dec runR_f runR_t loadB Option.isSome_some Option.isSome_none nodup1 adr_none adr_some adO_s adV_b adV_t adB_tt adB_ff adB_tf adB_ft adS_eq lenL.eq_1 lenO.eq_1 lenO.eq_2 lenV.eq_1 lenV.eq_2 lenV.eq_3 lenV.eq_4 optN optS absT_ft
attribute [local go_sem] ty3 ty4 ty5 ty9 ty21 ty22 ty23 ty25 ty27 ty30 ty32 ty33 ty35 ty37 ty49 ty50 ty52 ty53 ty55 ty56 ty58 ty60 ty62 ty75 ty84 ty86 ty87 ty89 ty90 ty92 ty95 ty110 ty111 ty113 ty121 ty138 ty146 ty155 ty157 ty184 ty186 ty188 ty194 ty197 ty211 ty214 ty223 ty230 ty236 lv37 lv75 lv121 lv146 zb4 leS leT fits AS.mvs encStr_eq aIdx_str EStr_dec decStrs decStrs0 EStr_enc EStr_n encInt_eq aIdx_int EInt_dec decInts decInts0 EInt_enc EInt_n AllV_Int len_Int lc_enc l0_enc asl_enc ag_enc aow_enc ABool_enc AInt_enc AStr_enc AU8_enc ABool_dec AInt_dec AStr_dec AU8_dec asl_dec ag_dec aow_dec bind_some pr2.eq_1 l0_nil lc_cons unT.eq_1 K0.eq_1 M0.eq_1 KI AllV_Str len_Str ctR_eq ctM_eq ro_kd ro_ro mu_kd mu_mu encAd_eq aIdx_Ad EAd_dec decAds decAds0 EAd_enc EAd_n len_Ad Ad_eta AllV_Ad encRc_eq aIdx_Rc ERc_dec decRcs decRcs0 ERc_enc ERc_n len_Rc Rc_eta AllV_Rc encIm_eq aIdx_Im EIm_dec decIms decIms0 EIm_enc EIm_n len_Im Im_eta mkIm.eq_1 owIm_eq AIm_enc AIm_dec encSp_eq aIdx_Sp ESp_dec decSps decSps0 ESp_enc ESp_n len_Sp Sp_eta mkSp.eq_1 owSp_eq ASp_enc ASp_dec encWy_eq aIdx_Wy EWy_dec decWys decWys0 EWy_enc EWy_n len_Wy Wy_eta AllV_Wy encCf_eq aIdx_Cf ECf_dec decCfs decCfs0 ECf_enc ECf_n len_Cf Cf_eta mkCf.eq_1 owCf_eq ACf_enc ACf_dec encGm_eq aIdx_Gm EGm_dec decGms decGms0 EGm_enc EGm_n len_Gm Gm_eta mkGm.eq_1 owGm_eq AGm_enc AGm_dec encBx_eq aIdx_Bx EBx_dec decBxs decBxs0 EBx_enc EBx_n len_Bx Bx_eta mkBx.eq_1 owBx_eq ABx_enc ABx_dec encLs_eq aIdx_Ls ELs_dec decLss decLss0 ELs_enc ELs_n len_Ls Ls_eta AllV_Ls encHs_eq aIdx_Hs EHs_dec decHss decHss0 EHs_enc EHs_n len_Hs Hs_eta mkHs.eq_1 owHs_eq AHs_enc AHs_dec encWd_eq aIdx_Wd EWd_dec decWds decWds0 EWd_enc EWd_n len_Wd Wd_eta mkWd.eq_1 owWd_eq AWd_enc AWd_dec
section
open Go.Lib
theorem at_lbl {s : ByteArray} (h : Lbl s) : ¬ (64 : UInt8) ∈ bl s := fun q => by
  obtain ⟨j, hj, e⟩ := byte_mem q
  have := h.1 j hj
  rw [e] at this
  exact absurd this (by unfold isLc; decide)
theorem at_dom {s : ByteArray} (h : Dom s) : ¬ (64 : UInt8) ∈ bl s := fun q => by
  obtain ⟨h1, _⟩ := (Dom_spl s).1 h
  rcases spA_byte (c := 46) q with e | ⟨w, hw, q⟩
  · exact absurd e (by decide)
  · exact at_lbl (h1 _ (List.mem_map_of_mem hw)) q
theorem splitN_no {c : UInt8} : ∀ {l : List UInt8} (m : Nat), ¬ c ∈ l → splitN c m l = [l]
  | _, 0, _ => by simp [splitN]
  | [], m + 1, _ => by simp [splitN]
  | x :: r, m + 1, h => by
    simp only [List.mem_cons, not_or] at h
    rw [splitN, if_neg (fun e => h.1 e.symm), splitN_no (m + 1) h.2]
theorem splitN_at {c : UInt8} : ∀ {u d : List UInt8} (m : Nat), ¬ c ∈ u → splitN c (m + 1) (u ++ c :: d) = u :: splitN c m d
  | [], d, m, _ => by simp [splitN]
  | x :: r, d, m, h => by
    simp only [List.mem_cons, not_or] at h
    rw [List.cons_append, splitN, if_neg (fun e => h.1 e.symm), splitN_at m h.2]
theorem cut_at {u d : List UInt8} (hu : ¬ (64 : UInt8) ∈ u) (hd : ¬ (64 : UInt8) ∈ d) : cutL (mB (u ++ 64 :: d)) 64 2 = [mB u, mB d] := by
  unfold cutL
  rw [bl_mk, splitN_at 1 hu, splitN_no 1 hd]; rfl
theorem cut_two {s : ByteArray} (h : (cutL s 64 2).length = 2) : s = mB (bl ((cutL s 64 2).getD 0 default) ++ 64 :: bl ((cutL s 64 2).getD 1 default)) := by
  by_cases h1 : (64 : UInt8) ∈ bl s
  · obtain ⟨u, r, e, hu⟩ := List.eq_append_cons_of_mem h1
    by_cases h2 : (64 : UInt8) ∈ r
    · obtain ⟨v, t, e2, hv⟩ := List.eq_append_cons_of_mem h2
      unfold cutL at h
      rw [e, splitN_at 1 hu, e2, splitN_at 0 hv] at h
      simp [splitN] at h
    · have : cutL s 64 2 = [mB u, mB r] := by rw [← mk_bl s, e]; exact cut_at hu h2
      rw [this]
      refine bl_inj ?_
      rw [e]; rfl
  · unfold cutL at h
    rw [splitN_no 2 h1] at h
    cases h
theorem put_in {a : Ad} (h : AdOk a) : bl (putA a) = 60 :: ((bl a.user ++ 64 :: bl a.domain) ++ [62]) := by
  rw [putA_bl (AdOk_nn h)]; simp
def RdA (s : ByteArray) : Prop := ∃ a, (AdOk a ∨ AdNull a) ∧ putA a = s
open Classical in
noncomputable def getA (s : ByteArray) : Ad := if h : RdA s then h.choose else ⟨⟨#[]⟩, ⟨#[]⟩⟩
theorem inn_ex (s : ByteArray) {l : List UInt8} (h : bl s = 60 :: (l ++ [62])) : s.extract 1 (s.size - 1) = mB l := by
  refine bl_inj ?_
  have e : s.size = l.length + 2 := by rw [← bl_len, h]; simp
  rw [bl_extract, h, e, bl_mk]
  simp
theorem putA_inj {a b : Ad} (ha : AdOk a ∨ AdNull a) (hb : AdOk b ∨ AdNull b) (h : putA a = putA b) : a = b := by
  have key : ∀ {x y : Ad}, AdOk x → AdNull y → putA x = putA y → False := fun {x y} hx hy e => by
    have := congrArg bl e
    rw [put_in hx, putA_y hy] at this
    have := congrArg List.length this
    have e2 : (bl (⟨#[60, 62]⟩ : ByteArray)).length = 2 := rfl
    rw [e2] at this
    simp at this
    omega
  rcases ha with ha | ha
  · rcases hb with hb | hb
    · have e1 := inn_ex (putA a) (put_in ha)
      have e2 := inn_ex (putA b) (put_in hb)
      rw [h, e2] at e1
      have e3 := cut_at (at_lbl ha.1) (at_dom ha.2)
      rw [← e1, cut_at (at_lbl hb.1) (at_dom hb.2)] at e3
      simp only [List.cons.injEq, and_true, mk_bl] at e3
      obtain ⟨u, d⟩ := a
      obtain ⟨v, w⟩ := b
      rw [show v = u from e3.1, show w = d from e3.2]
    · exact (key ha hb h).elim
  · rcases hb with hb | hb
    · exact (key hb ha h.symm).elim
    · obtain ⟨u, d⟩ := a
      obtain ⟨v, w⟩ := b
      rw [show u = _ from ha.1, show d = _ from ha.2, show v = _ from hb.1, show w = _ from hb.2]
theorem getA_eq {s : ByteArray} {a : Ad} (ha : AdOk a ∨ AdNull a) (h : putA a = s) : RdA s ∧ getA s = a := by
  have hr : RdA s := ⟨a, ha, h⟩
  refine ⟨hr, ?_⟩
  unfold getA
  rw [dif_pos hr]
  exact putA_inj hr.choose_spec.1 ha (hr.choose_spec.2.trans h.symm)
theorem getA_no {s : ByteArray} (h : ¬ RdA s) : getA s = ⟨⟨#[]⟩, ⟨#[]⟩⟩ := dif_neg h
theorem getA_ok {s : ByteArray} (h : RdA s) : (AdOk (getA s) ∨ AdNull (getA s)) ∧ putA (getA s) = s := by
  unfold getA
  rw [dif_pos h]
  exact h.choose_spec
theorem rd_null : RdA ⟨#[60, 62]⟩ ∧ getA ⟨#[60, 62]⟩ = ⟨⟨#[]⟩, ⟨#[]⟩⟩ := getA_eq (.inr ⟨rfl, rfl⟩) (putA_y ⟨rfl, rfl⟩)
theorem rd_cut {s : ByteArray} (h : RdA s) (h0 : ¬ s = ⟨#[60, 62]⟩) : 2 ≤ s.size ∧ byteAt s 0 = 60 ∧ byteAt s (s.size - 1) = 62 ∧ cutL (s.extract 1 (s.size - 1)) 64 2 = [(getA s).user, (getA s).domain] ∧ AdOk (getA s) := by
  obtain ⟨h1, h2⟩ := getA_ok h
  have hk := h1.resolve_right fun q => h0 (by rw [← h2, putA_y q])
  have hb := put_in hk
  rw [h2] at hb
  have hs : s.size = ((bl (getA s).user ++ 64 :: bl (getA s).domain)).length + 2 := by rw [← bl_len, hb]; simp; omega
  refine ⟨by omega, ?_, ?_, ?_, hk⟩
  · rw [byteAt_bl, hb]; rfl
  · rw [byteAt_bl, hb, hs]
    simp only [List.getD_eq_getElem?_getD]
    rw [show ∀ n : Nat, n + 2 - 1 = n + 1 from fun n => rfl, List.getElem?_cons_succ, List.getElem?_append_right (Nat.le_refl _), Nat.sub_self]
    rfl
  · rw [inn_ex s hb, cut_at (at_lbl hk.1) (at_dom hk.2)]; rfl
theorem bl_mid {s : ByteArray} (h : 2 ≤ s.size) (h1 : byteAt s 0 = 60) (h2 : byteAt s (s.size - 1) = 62) : bl s = 60 :: (bl (s.extract 1 (s.size - 1)) ++ [62]) := by
  have e1 : (bl s).getD 0 0 = 60 := (byteAt_eq (c := 60)).1 h1
  have e2 : (bl s).getD (s.size - 1) 0 = 62 := (byteAt_eq (c := 62)).1 h2
  have d0 := drop_byte (s := s) (i := 0) (by omega)
  have d1 := drop_byte (s := s) (i := s.size - 1) (by omega)
  rw [e1] at d0
  rw [e2] at d1
  have e3 : (bl s).drop (s.size - 1 + 1) = [] := List.drop_of_length_le (by rw [bl_len]; omega)
  rw [e3] at d1
  rw [bl_extract]
  have : (bl s).drop 1 = ((bl s).drop 1).take (s.size - 1 - 1) ++ ((bl s).drop 1).drop (s.size - 1 - 1) := (List.take_append_drop _ _).symm
  rw [List.drop_drop, show 1 + (s.size - 1 - 1) = s.size - 1 by omega, d1] at this
  rw [← this]
  exact d0
theorem rd_mk {s : ByteArray} (h : 2 ≤ s.size) (h1 : byteAt s 0 = 60) (h2 : byteAt s (s.size - 1) = 62) (h3 : (cutL (s.extract 1 (s.size - 1)) 64 2).length = 2)
    (h4 : AdOk ⟨(cutL (s.extract 1 (s.size - 1)) 64 2).getD 0 default, (cutL (s.extract 1 (s.size - 1)) 64 2).getD 1 default⟩) :
    RdA s ∧ getA s = ⟨(cutL (s.extract 1 (s.size - 1)) 64 2).getD 0 default, (cutL (s.extract 1 (s.size - 1)) 64 2).getD 1 default⟩ := by
  refine getA_eq (.inl h4) (bl_inj ?_)
  rw [put_in h4, bl_mid h h1 h2]
  have := congrArg bl (cut_two h3)
  rw [this]; rfl
abbrev ltB : ByteArray := ⟨#[60]⟩
abbrev gtB : ByteArray := ⟨#[62]⟩
abbrev atB : ByteArray := ⟨#[64]⟩
noncomputable abbrev cutU (s : ByteArray) : ByteArray := ctU s atB
noncomputable abbrev cutD (s : ByteArray) : ByteArray := ctD s atB
theorem cut_one {u d : List UInt8} (hu : ¬ (64 : UInt8) ∈ u) : cutU (mB (u ++ 64 :: d)) = mB u ∧ cutD (mB (u ++ 64 :: d)) = mB d := by
  have hx : indexB (mB (u ++ 64 :: d)) atB = u.length := by
    have e1 : UInt8.ofNat (byteAt atB 0).toNat = 64 := rfl
    rw [← ix_one (show atB.size = 1 from rfl), e1, bl_mk]
    induction u with
    | nil => rfl
    | cons x r ih =>
      simp only [List.mem_cons, not_or] at hu
      rw [List.cons_append, indexByte, if_neg (by simpa using fun e => hu.1 e.symm), ih hu.2]
      rw [if_neg (by simp <;> omega), List.length_cons]; omega
  unfold cutU cutD ctU ctD
  rw [hx, if_pos (by omega), if_pos (by omega), Int.toNat_natCast, show atB.size = 1 from rfl]
  constructor
  · refine bl_inj ?_
    rw [bl_extract, bl_mk, bl_mk]
    simp
  · refine bl_inj ?_
    rw [bl_extract, bl_mk, bl_mk, List.drop_append, List.drop_of_length_le (by omega), show u.length + 1 - u.length = 1 by omega]
    rw [List.nil_append, List.drop_succ_cons, List.drop_zero, List.take_of_length_le (by rw [mk_size]; simp; omega)]
theorem cut_none : cutU ⟨#[]⟩ = ⟨#[]⟩ ∧ cutD ⟨#[]⟩ = ⟨#[]⟩ := by
  have hx : indexB ⟨#[]⟩ atB = -1 := by
    rw [← ix_one (show atB.size = 1 from rfl)]; rfl
  unfold cutU cutD ctU ctD
  rw [hx, if_neg (by decide), if_neg (by decide)]
  exact ⟨rfl, rfl⟩
theorem rd_impl {s : ByteArray} (h : RdA s) : Pre s ltB ∧ (⟨cutU (sufX (preX s ltB) gtB), cutD (sufX (preX s ltB) gtB)⟩ : Ad) = getA s := by
  obtain ⟨l, hl, hu⟩ : ∃ l, bl s = 60 :: (l ++ [62]) ∧ (⟨cutU (mB l), cutD (mB l)⟩ : Ad) = getA s := by
    obtain ⟨h1, h2⟩ := getA_ok h
    by_cases hn : AdNull (getA s)
    · refine ⟨[], by rw [← h2, putA_y hn]; rfl, ?_⟩
      have e := cut_none
      rw [show mB [] = ⟨#[]⟩ from rfl, e.1, e.2]
      generalize getA s = a at hn
      obtain ⟨u, d⟩ := a
      rw [show u = _ from hn.1, show d = _ from hn.2]
    · have hk := h1.resolve_right hn
      refine ⟨_, by rw [← h2]; exact put_in hk, ?_⟩
      obtain ⟨e1, e2⟩ := cut_one (d := bl (getA s).domain) (at_lbl hk.1)
      rw [h2] at *
      rw [e1, e2]; rfl
  have hs : s.size = l.length + 2 := by rw [← bl_len, hl]; simp
  have z1 : ltB.size = 1 := rfl
  have z2 : gtB.size = 1 := rfl
  have e1 : s.extract 0 ltB.size = ltB := by rw [z1]; exact bl_inj (by rw [bl_extract, hl]; rfl)
  have hp : Pre s ltB := ⟨by omega, e1⟩
  refine ⟨hp, ?_⟩
  have p1 : preX s ltB = mB (l ++ [62]) := by
    rw [preX_y hp, z1]
    refine bl_inj ?_
    rw [bl_extract, hl, bl_mk, List.drop_succ_cons, List.drop_zero, List.take_of_length_le (by rw [hs]; simp)]
  have p2 : sufX (mB (l ++ [62])) gtB = mB l := by
    have e2 : (mB (l ++ [62])).size = l.length + 1 := by rw [mk_size]; simp
    have e3 : (mB (l ++ [62])).extract l.length (l.length + 1) = gtB := bl_inj (by rw [bl_extract, bl_mk, List.drop_left]; simp; rfl)
    have e4 : (mB (l ++ [62])).extract 0 l.length = mB l := bl_inj (by rw [bl_extract, bl_mk, bl_mk]; simp)
    have hq : Suf (mB (l ++ [62])) gtB := ⟨by omega, by rw [z2, e2, Nat.add_sub_cancel]; exact e3⟩
    rw [sufX_y hq, z2, e2, Nat.add_sub_cancel, e4]
  rw [p1, p2]; exact hu
theorem rd_no {s : ByteArray} (h0 : ¬ s = ⟨#[60, 62]⟩) (h : (s.size : Int) < 2 ∨ ¬ byteAt s 0 = 60 ∨ ¬ byteAt s (s.size - 1) = 62 ∨ ¬ ((cutL (s.extract 1 (s.size - 1)) 64 2).length : Int) = 2 ∨
    ¬ AdOk ⟨(cutL (s.extract 1 (s.size - 1)) 64 2).getD 0 default, (cutL (s.extract 1 (s.size - 1)) 64 2).getD 1 default⟩) : ¬ RdA s := fun q => by
  obtain ⟨h1, h2, h3, h4, h5⟩ := rd_cut q h0
  rw [h4] at h
  rcases h with h | h | h | h | h
  · omega
  · exact h h2
  · exact h h3
  · exact h rfl
  · exact h h5
theorem rd_no2 {s : ByteArray} (h : ¬ Pre s ltB ∨ ¬ (AdOk ⟨cutU (sufX (preX s ltB) gtB), cutD (sufX (preX s ltB) gtB)⟩ ∨ AdNull ⟨cutU (sufX (preX s ltB) gtB), cutD (sufX (preX s ltB) gtB)⟩) ∨ ¬ putA ⟨cutU (sufX (preX s ltB) gtB), cutD (sufX (preX s ltB) gtB)⟩ = s) : ¬ RdA s := fun q => by
  obtain ⟨h1, h2⟩ := rd_impl q
  obtain ⟨h3, h4⟩ := getA_ok q
  rw [h2] at h
  rcases h with h | h | h
  · exact h h1
  · exact h h3
  · exact h h4
theorem tn0 : (0 : Int).toNat = 0 := rfl
theorem tn1 : (1 : Int).toNat = 1 := rfl
theorem tn2 : (2 : Int).toNat = 2 := rfl
theorem u64 : UInt8.ofNat (64 : Int).toNat = 64 := rfl
theorem tnp (n : Nat) : ((n : Int) - 1).toNat = n - 1 := by omega
end
noncomputable def rdB (s : ByteArray) : AV := .tup [.agg [.t (.v (.string (getA s).user)), .t (.v (.string (getA s).domain))], .t (.v (.bool (bOf (RdA s))))]
theorem rdB_eq (s : ByteArray) : rdB s = .tup [.agg [.t (.v (.string (getA s).user)), .t (.v (.string (getA s).domain))], .t (.v (.bool (bOf (RdA s))))] := rfl
theorem gU {s : ByteArray} {a : Ad} (h : RdA s ∧ getA s = a) : T.v (.string a.user) = T.v (.string (getA s).user) := by rw [h.2]
theorem gD {s : ByteArray} {a : Ad} (h : RdA s ∧ getA s = a) : T.v (.string a.domain) = T.v (.string (getA s).domain) := by rw [h.2]
theorem gT {s : ByteArray} {a : Ad} (h : RdA s ∧ getA s = a) : T.v (.bool true) = T.v (.bool (bOf (RdA s))) := by rw [bOf_y h.1]
theorem gU0 {s : ByteArray} (h : ¬ RdA s) : T.v (.string ⟨#[]⟩) = T.v (.string (getA s).user) := by rw [getA_no h]
theorem gD0 {s : ByteArray} (h : ¬ RdA s) : T.v (.string ⟨#[]⟩) = T.v (.string (getA s).domain) := by rw [getA_no h]
theorem gF {s : ByteArray} (h : ¬ RdA s) : T.v (.bool false) = T.v (.bool (bOf (RdA s))) := by rw [bOf_n h]
theorem rdB_solid (s : ByteArray) : Solid (rdB s) := .tup _ fun c hc => by
  simp only [List.mem_cons, List.not_mem_nil, or_false] at hc
  rcases hc with rfl | rfl
  · refine .agg _ fun c hc => ?_
    simp only [List.mem_cons, List.not_mem_nil, or_false] at hc
    rcases hc with rfl | rfl <;> exact .v _
  · exact .v _
def c151 : Ct := ctR (lc EAd.ag l0) (fun p => p.1.user.size ≤ 2000000 ∧ p.1.domain.size ≤ 2000000) (fun p => .t (.v (.string (putA p.1))))
section
attribute [local go_sem] c79
theorem good151 {G : Gt} (hG : OkG G) (hh : G.e 79 = roEnt 0 c79) : Gd G 151 (roEnt 0 c151) := by
  refine gR (dp := fun _ => true) (fn := Tryz.f151) (n := 1) (fun _ => rfl) (by kernel_rfl) rfl (by kernel_rfl) hG (Nat.le_of_ble_eq_true rfl) (by kernel_rfl) (by decide) (fun _ _ => .v _) ?_
  rintro ⟨a, ⟨⟩⟩ hpre
  simp -implicitDefEqProofs only [Tryz.f151, go_sem, hh] at hpre ⊢
  obtain ⟨h1, h2⟩ := hpre
  have e1 : (#[60] : Array UInt8).size = 1 := rfl
  have e2 : (#[64] : Array UInt8).size = 1 := rfl
  have e3 : (#[62] : Array UInt8).size = 1 := rfl
  repeat' (first | with_reducible apply And.intro | with_reducible intro _ | ((first | apply brB_split | apply aPickB_split | apply gB_split | apply adB_split) <;> intro hb <;> simp -implicitDefEqProofs only [hb, go_sem, hh] <;> try simp only [qz] at hb))
  all_goals (try simp only [maxLen] at *)
  all_goals first
    | rfl
    | omega
    | (rw [putA_y (by assumption)]; done)
    | (rw [putA_n hb]; done)
    | trace_state
end
def c111 : Ct := ctR (lc AStr l0) (fun p => p.1.size ≤ 2000000) (fun p => rdB p.1)
section
attribute [local go_sem] c123 c48 bOf_t bOf_f aCell_map List.length_map rdB_eq
set_option maxHeartbeats 2000000 in
theorem good111 {G : Gt} (hG : OkG G) (hh : G.e 123 = roEnt 0 c123 ∧ G.e 48 = roEnt 0 c48) : Gd G 111 (roEnt 0 c111) := by
  refine gR (dp := fun _ => true) (fn := Tryz.f111) (n := 1) (fun _ => rfl) (by kernel_rfl) rfl (by kernel_rfl) hG (Nat.le_of_ble_eq_true rfl) (by kernel_rfl) (by decide) (fun _ _ => rdB_solid _) ?_
  rintro ⟨s, ⟨⟩⟩ hpre
  simp -implicitDefEqProofs only [Tryz.f111, go_sem, hh] at hpre ⊢
  repeat' (first | with_reducible apply And.intro | with_reducible intro _ | ((first | apply brB_split | apply aPickB_split | apply gB_split | apply adB_split) <;> intro hb <;> simp -implicitDefEqProofs only [hb, go_sem, hh] <;> try simp only [qz] at hb))
  all_goals (try simp only [maxLen, u64, tn0, tn1, tn2, tnp, Int.toNat_natCast] at *)
  all_goals first
    | with_reducible rfl
    | omega
    | decide
    | (show pairsB _ = true; rfl)
    | with_reducible assumption
    | with_reducible exact gU0 (rd_no (by with_reducible assumption) (by first | exact .inl (by with_reducible assumption) | exact .inr (.inl (by with_reducible assumption)) | exact .inr (.inr (.inl (by with_reducible assumption))) | exact .inr (.inr (.inr (.inl (by with_reducible assumption)))) | exact .inr (.inr (.inr (.inr (by with_reducible assumption))))))
    | with_reducible exact gD0 (rd_no (by with_reducible assumption) (by first | exact .inl (by with_reducible assumption) | exact .inr (.inl (by with_reducible assumption)) | exact .inr (.inr (.inl (by with_reducible assumption))) | exact .inr (.inr (.inr (.inl (by with_reducible assumption)))) | exact .inr (.inr (.inr (.inr (by with_reducible assumption))))))
    | with_reducible exact gF (rd_no (by with_reducible assumption) (by first | exact .inl (by with_reducible assumption) | exact .inr (.inl (by with_reducible assumption)) | exact .inr (.inr (.inl (by with_reducible assumption))) | exact .inr (.inr (.inr (.inl (by with_reducible assumption)))) | exact .inr (.inr (.inr (.inr (by with_reducible assumption))))))
    | with_reducible exact gU (rd_mk (by omega) (by with_reducible assumption) (by with_reducible assumption) (by omega) (by with_reducible assumption))
    | with_reducible exact gD (rd_mk (by omega) (by with_reducible assumption) (by with_reducible assumption) (by omega) (by with_reducible assumption))
    | with_reducible exact gT (rd_mk (by omega) (by with_reducible assumption) (by with_reducible assumption) (by omega) (by with_reducible assumption))
    | (subst hb; with_reducible exact gU rd_null)
    | (subst hb; with_reducible exact gD rd_null)
    | (subst hb; with_reducible exact gT rd_null)
    | trace_state
end
def c113 : Ct := ctR (lc AStr l0) (fun p => p.1.size ≤ 2000000) (fun p => rdB p.1)
section
attribute [local go_sem] c148 c150 c149 c96 c151 bOf_t bOf_f cpB_eq ctB_eq rdB_eq
set_option maxHeartbeats 2000000 in
theorem good113 {G : Gt} (hG : OkG G) (hh : G.e 148 = roEnt 0 c148 ∧ G.e 150 = roEnt 0 c150 ∧ G.e 149 = roEnt 0 c149 ∧ G.e 96 = roEnt 0 c96 ∧ G.e 151 = roEnt 0 c151) : Gd G 113 (roEnt 0 c113) := by
  refine gR (dp := fun _ => true) (fn := Tryz.f113) (n := 1) (fun _ => rfl) (by kernel_rfl) rfl (by kernel_rfl) hG (Nat.le_of_ble_eq_true rfl) (by kernel_rfl) (by decide) (fun _ _ => rdB_solid _) ?_
  rintro ⟨s, ⟨⟩⟩ hpre
  simp -implicitDefEqProofs only [Tryz.f113, go_sem, hh] at hpre ⊢
  repeat' (first | with_reducible apply And.intro | with_reducible intro _ | ((first | apply brB_split | apply aPickB_split | apply gB_split | apply adB_split) <;> intro hb <;> simp -implicitDefEqProofs only [hb, go_sem, hh] <;> try simp only [qz] at hb))
  all_goals (try simp only [maxLen, Int.toNat_natCast] at *)
  all_goals first
    | with_reducible rfl
    | omega
    | decide
    | (show pairsB _ = true; rfl)
    | with_reducible assumption
    | exact Nat.le_trans (preX_le _ _) hpre
    | exact Nat.le_trans (sufX_le _ _) (Nat.le_trans (preX_le _ _) hpre)
    | exact Nat.le_trans (ctU_le _ _) (Nat.le_trans (sufX_le _ _) (Nat.le_trans (preX_le _ _) hpre))
    | exact Nat.le_trans (ctD_le _ _) (Nat.le_trans (sufX_le _ _) (Nat.le_trans (preX_le _ _) hpre))
    | with_reducible exact gU0 (rd_no2 (by first | exact .inl (by with_reducible assumption) | exact .inr (.inl (by with_reducible assumption)) | exact .inr (.inr (by with_reducible assumption))))
    | with_reducible exact gD0 (rd_no2 (by first | exact .inl (by with_reducible assumption) | exact .inr (.inl (by with_reducible assumption)) | exact .inr (.inr (by with_reducible assumption))))
    | with_reducible exact gF (rd_no2 (by first | exact .inl (by with_reducible assumption) | exact .inr (.inl (by with_reducible assumption)) | exact .inr (.inr (by with_reducible assumption))))
    | with_reducible exact gU (getA_eq (by with_reducible assumption) (by with_reducible assumption))
    | with_reducible exact gD (getA_eq (by with_reducible assumption) (by with_reducible assumption))
    | with_reducible exact gT (getA_eq (by with_reducible assumption) (by with_reducible assumption))
    | trace_state
end
theorem Dom_ne {s : ByteArray} (h : Dom s) : ¬ s.size = 0 := fun q => by
  rw [size0 q] at h
  have := (h.1 ⟨#[]⟩ (by simp [cutL, splitN, bl, mB])).2.1
  exact absurd this (by decide)
theorem HopT {s : ByteArray} : HopL s ↔ 5 < s.size ∧ s.extract 0 5 = hopP ∧ Dom (s.extract 5 s.size) := by
  have e : hopP.size = 5 := rfl
  unfold HopL Pre
  rw [e]
  constructor
  · rintro ⟨⟨h1, h2⟩, h3⟩
    refine ⟨?_, h2, h3⟩
    have := Dom_ne h3
    rw [ByteArray.size_extract] at this
    omega
  · rintro ⟨h1, h2, h3⟩
    exact ⟨⟨by omega, h2⟩, h3⟩
noncomputable def hopN : List ByteArray → Nat
  | [] => 0
  | x :: r => bif bOf (HopL x) then hopN r + 1 else 0
theorem hopN_le : ∀ xs : List ByteArray, hopN xs ≤ xs.length
  | [] => Nat.le_refl _
  | x :: r => by
    have := hopN_le r
    unfold hopN
    cases bOf (HopL x) <;> simp <;> omega
theorem hopN_yes {xs : List ByteArray} {i : Nat} (h : i < xs.length) (ha : HopL (xs.getD i default)) : hopN (xs.drop i) = hopN (xs.drop (i + 1)) + 1 := by
  rw [getD_drop h, hopN, bOf_y ha]; rfl
theorem hopN_no {xs : List ByteArray} {i : Nat} (h : i < xs.length) (ha : ¬ HopL (xs.getD i default)) : hopN (xs.drop i) = 0 := by
  rw [getD_drop h, hopN, bOf_n ha]; rfl
theorem hopN_end {xs : List ByteArray} {i : Nat} (h : xs.length ≤ i) : hopN (xs.drop i) = 0 := by
  rw [List.drop_eq_nil_of_le h, hopN]
theorem hop_ix : ∀ (xs : List ByteArray) (k : Nat), (ixP (fun x => ¬ HopL x) k xs = -1 ∧ hopN xs = xs.length) ∨ ixP (fun x => ¬ HopL x) k xs = k + hopN xs
  | [], k => .inl ⟨rfl, rfl⟩
  | x :: r, k => by
    rw [ixP, hopN]
    by_cases h : HopL x
    · rw [bOf_y h, bOf_n (fun q => q h), cond_false, cond_true]
      rcases hop_ix r (k + 1) with ⟨h1, h2⟩ | h1
      · exact .inl ⟨h1, by rw [h2]; rfl⟩
      · exact .inr (by rw [h1]; omega)
    · rw [bOf_n h, bOf_y h, cond_true, cond_false]
      exact .inr (by omega)
abbrev ndW : ByteArray := ⟨#[110, 111, 116, 32, 100, 101, 108, 105, 118, 101, 114, 101, 100, 58]⟩
def Rep0 (xs : List ByteArray) : Prop := hopN xs + 1 < xs.length ∧ xs.getD (hopN xs) default = ndW
def Rep (xs : List ByteArray) : Prop := Rep0 xs ∧ RdA (xs.getD (hopN xs + 1) default) ∧ ¬ AdNull (getA (xs.getD (hopN xs + 1) default))
open Classical in
noncomputable def repA (xs : List ByteArray) : Ad := if Rep0 xs then getA (xs.getD (hopN xs + 1) default) else ⟨⟨#[]⟩, ⟨#[]⟩⟩
open Classical in
noncomputable def whoS (xs : List ByteArray) : ByteArray := if Rep xs then xs.getD (hopN xs + 1) default else ⟨#[]⟩
theorem whoS_y {xs : List ByteArray} (h : Rep xs) : whoS xs = xs.getD (hopN xs + 1) default := if_pos h
theorem whoS_n {xs : List ByteArray} (h : ¬ Rep xs) : whoS xs = ⟨#[]⟩ := if_neg h
theorem repA_y {xs : List ByteArray} (h : Rep0 xs) : repA xs = getA (xs.getD (hopN xs + 1) default) := if_pos h
theorem repA_n {xs : List ByteArray} (h : ¬ Rep0 xs) : repA xs = ⟨⟨#[]⟩, ⟨#[]⟩⟩ := if_neg h
theorem putA_ne (a : Ad) : ¬ putA a = ⟨#[]⟩ := fun q => by
  have := congrArg bl q
  by_cases h : AdNull a
  · rw [putA_y h] at this; cases this
  · rw [putA_bl h] at this
    simp only [List.append_assoc, List.cons_append, List.nil_append] at this
    cases this
theorem whoS_ne {xs : List ByteArray} : ¬ whoS xs = ⟨#[]⟩ ↔ Rep xs := by
  by_cases h : Rep xs
  · rw [whoS_y h]
    refine ⟨fun _ => h, fun _ q => ?_⟩
    have := (getA_ok h.2.1).2
    rw [q] at this
    exact putA_ne _ this
  · rw [whoS_n h]
    exact ⟨fun q => absurd rfl q, fun q => absurd q h⟩
theorem who_put {xs : List ByteArray} {a : Ad} (ha : AdOk a) : whoS xs = putA a ↔ Rep xs ∧ repA xs = a := by
  constructor
  · intro h
    have hr : Rep xs := whoS_ne.1 fun q => putA_ne a (h.symm.trans q)
    refine ⟨hr, ?_⟩
    rw [repA_y hr.1]
    rw [whoS_y hr] at h
    obtain ⟨h1, h2⟩ := getA_ok hr.2.1
    exact putA_inj h1 (.inl ha) (h2.trans h)
  · rintro ⟨hr, h⟩
    rw [repA_y hr.1] at h
    rw [whoS_y hr, ← h]
    exact (getA_ok hr.2.1).2.symm
noncomputable def repB (xs : List ByteArray) : AV := .tup [.agg [.t (.v (.string (repA xs).user)), .t (.v (.string (repA xs).domain))], .t (.v (.bool (bOf (Rep xs))))]
theorem repB_eq (xs : List ByteArray) : repB xs = .tup [.agg [.t (.v (.string (repA xs).user)), .t (.v (.string (repA xs).domain))], .t (.v (.bool (bOf (Rep xs))))] := rfl
theorem rep0_mk {xs : List ByteArray} (h : hopN xs + 1 < xs.length) (h2 : xs.getD (hopN xs) default = ndW) : Rep0 xs := ⟨h, h2⟩
theorem rep0_no {xs : List ByteArray} (h : xs.length ≤ hopN xs + 1 ∨ ¬ xs.getD (hopN xs) default = ndW) : ¬ Rep0 xs := fun q => h.elim (fun e => by have := q.1; omega) fun e => e q.2
theorem rep_mk {xs : List ByteArray} (h : Rep0 xs) (h1 : RdA (xs.getD (hopN xs + 1) default)) (h2 : ¬ AdNull (getA (xs.getD (hopN xs + 1) default))) : Rep xs := ⟨h, h1, h2⟩
theorem rep_no {xs : List ByteArray} (h : ¬ Rep0 xs ∨ ¬ RdA (xs.getD (hopN xs + 1) default) ∨ AdNull (getA (xs.getD (hopN xs + 1) default))) : ¬ Rep xs := fun q => h.elim (fun e => e q.1) fun e => e.elim (fun e => e q.2.1) fun e => q.2.2 e
theorem rep_iff {xs : List ByteArray} (h : Rep0 xs) (h1 : RdA (xs.getD (hopN xs + 1) default)) : ¬ AdNull (getA (xs.getD (hopN xs + 1) default)) ↔ Rep xs := ⟨fun q => ⟨h, h1, q⟩, fun q => q.2.2⟩
theorem hU0 {xs : List ByteArray} (h : ¬ Rep0 xs) : T.v (.string ⟨#[]⟩) = T.v (.string (repA xs).user) := by rw [repA_n h]
theorem hD0 {xs : List ByteArray} (h : ¬ Rep0 xs) : T.v (.string ⟨#[]⟩) = T.v (.string (repA xs).domain) := by rw [repA_n h]
theorem hU1 {xs : List ByteArray} (h : Rep0 xs) : T.v (.string (getA (xs.getD (hopN xs + 1) default)).user) = T.v (.string (repA xs).user) := by rw [repA_y h]
theorem hD1 {xs : List ByteArray} (h : Rep0 xs) : T.v (.string (getA (xs.getD (hopN xs + 1) default)).domain) = T.v (.string (repA xs).domain) := by rw [repA_y h]
theorem hW {xs : List ByteArray} (h : Rep xs) : T.v (.string (xs.getD (hopN xs + 1) default)) = T.v (.string (whoS xs)) := by rw [whoS_y h]
theorem hW0 {xs : List ByteArray} (h : ¬ Rep xs) : T.v (.string ⟨#[]⟩) = T.v (.string (whoS xs)) := by rw [whoS_n h]
theorem tnp1 (n : Nat) : ((n : Int) + 1).toNat = n + 1 := by omega
theorem slc {xs : List ByteArray} {k : Nat} : List.drop k (List.take xs.length (xs.map encStr)) = (xs.drop k).map encStr := by
  rw [List.take_of_length_le (by rw [List.length_map]; exact Nat.le_refl _), List.map_drop]
theorem getD_dr {xs : List ByteArray} {k j : Nat} : (xs.drop k).getD j default = xs.getD (k + j) default := by
  simp only [List.getD_eq_getElem?_getD, List.getElem?_drop]
theorem repB_solid (xs : List ByteArray) : Solid (repB xs) := .tup _ fun c hc => by
  simp only [List.mem_cons, List.not_mem_nil, or_false] at hc
  rcases hc with rfl | rfl
  · refine .agg _ fun c hc => ?_
    simp only [List.mem_cons, List.not_mem_nil, or_false] at hc
    rcases hc with rfl | rfl <;> exact .v _
  · exact .v _
def c110 : Ct := ctR (lc EStr.asl l0) (fun p => True) (fun p => .t (.v (.int .i64 (hopN p.1))))
section
attribute [local go_sem] c89 List.length_map bOf_t bOf_f
theorem good110 {G : Gt} (hG : OkG G) (hh : G.e 89 = roEnt 0 c89) : Gd G 110 (roEnt 0 c110) := by
  refine gR (dp := fun _ => true) (fn := Tryz.f110) (n := 1) (fun _ => rfl) (by kernel_rfl) rfl (by kernel_rfl) hG (Nat.le_of_ble_eq_true rfl) (by kernel_rfl) (by decide) (fun _ _ => .v _) ?_
  rintro ⟨xs, ⟨⟩⟩ hpre
  simp -implicitDefEqProofs only [Tryz.f110, go_sem, hh] at hpre ⊢
  refine run_loop [] (ι := {i : Nat // i ≤ xs.length ∧ hopN xs = i + hopN (xs.drop i)}) (fun p => ⟨[(0, .t (.sl 1 (xs.map encStr))), (3, .t (.v (.int .i64 p.1)))], []⟩) (fun p => xs.length - p.1) ⟨0, by simp, by simp⟩ rfl ?_ ?_
  · simp -implicitDefEqProofs only [go_sem, hh]
    simp
  · rintro ⟨i, hi, hix⟩
    by_cases hlt : (i : Int) < xs.length
    · simp -implicitDefEqProofs only [hlt, decide_true, Int.toNat_natCast, go_sem, hh]
      repeat' (first | with_reducible apply And.intro | with_reducible intro _ | ((first | apply brB_split | apply aPickB_split | apply gB_split | apply adB_split) <;> intro hb <;> simp -implicitDefEqProofs only [hb, go_sem, hh] <;> try simp only [qz] at hb))
      all_goals (try simp only [maxLen, Int.toNat_natCast] at *)
      all_goals first
        | rfl
        | omega
        | (rw [hix, hopN_no (by omega) (fun h => by have h := HopT.1 h; first | exact absurd h.2.2 (by assumption) | exact absurd h.2.1 (by assumption) | omega)]; simp; done)
        | (refine ⟨⟨i + 1, by omega, by rw [hix, hopN_yes (by omega) (HopT.2 ⟨by omega, by assumption, by assumption⟩)]; omega⟩, by dsimp only; omega, ?_⟩
           simp -implicitDefEqProofs only [go_sem, hh]
           simp
           done)
        | trace_state
    · simp -implicitDefEqProofs only [hlt, decide_false, go_sem, hh]
      repeat' (first | with_reducible apply And.intro | with_reducible intro _ | ((first | apply brB_split | apply aPickB_split | apply gB_split | apply adB_split) <;> intro hb <;> simp -implicitDefEqProofs only [hb, go_sem, hh] <;> try simp only [qz] at hb))
      all_goals first | rfl | omega | (rw [hix, hopN_end (by omega)]; simp; done) | trace_state
end
def c112 : Ct := ctR (lc EStr.asl l0) (fun p => ∀ s ∈ p.1, s.size ≤ 2000000) (fun p => .t (.v (.int .i64 (hopN p.1))))
section
attribute [local go_sem] c146 List.length_map ap_enc ap_dec AFn0_dec AFn0_enc Bool.not_true Bool.not_false ty214 lv37 AFStr_d0 AFStr_e0 AFStr_d1 AFStr_e1 AFStr_d2 AFStr_e2
theorem good112 {G : Gt} (hG : OkG G) (hh : G.e 146 = roEnt 0 c146) : Gd G 112 (roEnt 0 c112) := by
  refine gR (dp := fun _ => true) (fn := Tryz.f112) (n := 1) (fun _ => rfl) (by kernel_rfl) rfl (by kernel_rfl) hG (Nat.le_of_ble_eq_true rfl) (by kernel_rfl) (by decide) (fun _ _ => .v _) ?_
  rintro ⟨xs, ⟨⟩⟩ hpre
  simp -implicitDefEqProofs only [Tryz.f112, go_sem, hh] at hpre ⊢
  try dsimp only at hpre
  have hx := hop_ix xs 0
  have e0 : (fun x => ¬ HopL x) = FStr.sem .hop := rfl
  rw [e0] at hx
  have hl := hopN_le xs
  repeat' (first | with_reducible apply And.intro | with_reducible intro _ | ((first | apply brB_split | apply aPickB_split | apply gB_split | apply adB_split) <;> intro hb <;> simp -implicitDefEqProofs only [hb, go_sem, hh] <;> try simp only [qz] at hb))
  all_goals (try simp only [maxLen] at *)
  all_goals first
    | rfl
    | omega
    | exact hpre _ (by assumption)
    | (refine congrArg (fun n => T.v (.int .i64 n)) ?_; omega)
    | trace_state
end
def c73 : Ct := ctR (lc EStr.asl l0) (fun p => ∀ s ∈ p.1, s.size ≤ 2000000) (fun p => repB p.1)
section
attribute [local go_sem] c112 c113 c79 Int.toNat_natCast List.length_map List.length_drop slc getD_dr bOf_t bOf_f rdB_eq repB_eq
set_option maxHeartbeats 800000 in
theorem good73 {G : Gt} (hG : OkG G) (hh : G.e 112 = roEnt 0 c112 ∧ G.e 113 = roEnt 0 c113 ∧ G.e 79 = roEnt 0 c79) : Gd G 73 (roEnt 0 c73) := by
  refine gR (dp := fun _ => true) (fn := Tryz.f73) (n := 1) (fun _ => rfl) (by kernel_rfl) rfl (by kernel_rfl) hG (Nat.le_of_ble_eq_true rfl) (by kernel_rfl) (by decide) (fun _ _ => repB_solid _) ?_
  rintro ⟨xs, ⟨⟩⟩ hpre
  simp -implicitDefEqProofs only [Tryz.f73, go_sem, hh] at hpre ⊢
  try dsimp only at hpre
  have hl := hopN_le xs
  repeat' (first | with_reducible apply And.intro | with_reducible intro _ | ((first | apply brB_split | apply aPickB_split | apply gB_split | apply adB_split) <;> intro hb <;> simp -implicitDefEqProofs only [hb, go_sem, hh] <;> try simp only [qz] at hb))
  all_goals (try simp only [maxLen, tn0, tn1, Nat.add_zero, tnp1, Int.toNat_natCast] at *)
  all_goals first
    | with_reducible rfl
    | omega
    | decide
    | exact hpre _ (by assumption)
    | (show pairsB _ = true; rfl)
    | with_reducible assumption
    | exact hpre _ (getD_mem (by omega))
    | with_reducible exact hU0 (rep0_no (by first | exact .inl (by omega) | exact .inr (by with_reducible assumption)))
    | with_reducible exact hD0 (rep0_no (by first | exact .inl (by omega) | exact .inr (by with_reducible assumption)))
    | with_reducible exact hU1 (rep0_mk (by omega) (by with_reducible assumption))
    | with_reducible exact hD1 (rep0_mk (by omega) (by with_reducible assumption))
    | with_reducible exact uF (rep_no (by first | exact .inl (rep0_no (by first | exact .inl (by omega) | exact .inr (by with_reducible assumption))) | exact .inr (.inl (by with_reducible assumption)) | exact .inr (.inr (by with_reducible assumption))))
    | with_reducible exact uN (rep_iff (rep0_mk (by omega) (by with_reducible assumption)) (by with_reducible assumption))
    | with_reducible exact hW0 (rep_no (by first | exact .inl (rep0_no (by first | exact .inl (by omega) | exact .inr (by with_reducible assumption))) | exact .inr (.inl (by with_reducible assumption)) | exact .inr (.inr (by with_reducible assumption))))
    | with_reducible exact hW (rep_mk (rep0_mk (by omega) (by with_reducible assumption)) (by with_reducible assumption) (by with_reducible assumption))
    | trace_state
end
def c69 : Ct := ctR (lc EStr.asl l0) (fun p => (∀ s ∈ p.1, s.size ≤ 2000000) ∧ p.1.length ≤ 2000000) (fun p => .t (.v (.string (whoS p.1))))
section
attribute [local go_sem] c110 c111 c41 List.length_map bOf_t bOf_f rdB_eq
theorem good69 {G : Gt} (hG : OkG G) (hh : G.e 110 = roEnt 0 c110 ∧ G.e 111 = roEnt 0 c111 ∧ G.e 41 = roEnt 0 c41) : Gd G 69 (roEnt 0 c69) := by
  refine gR (dp := fun _ => true) (fn := Tryz.f69) (n := 1) (fun _ => rfl) (by kernel_rfl) rfl (by kernel_rfl) hG (Nat.le_of_ble_eq_true rfl) (by kernel_rfl) (by decide) (fun _ _ => .v _) ?_
  rintro ⟨xs, ⟨⟩⟩ hpre
  simp -implicitDefEqProofs only [Tryz.f69, go_sem, hh] at hpre ⊢
  obtain ⟨hpre, hlen⟩ := hpre
  try dsimp only at hpre hlen
  have hl := hopN_le xs
  repeat' (first | with_reducible apply And.intro | with_reducible intro _ | ((first | apply brB_split | apply aPickB_split | apply gB_split | apply adB_split) <;> intro hb <;> simp -implicitDefEqProofs only [hb, go_sem, hh] <;> try simp only [qz] at hb))
  all_goals (try simp only [maxLen, tn0, tn1, Nat.add_zero, tnp1, Int.toNat_natCast] at *)
  all_goals first
    | with_reducible rfl
    | omega
    | decide
    | exact hpre _ (by assumption)
    | (show pairsB _ = true; rfl)
    | with_reducible assumption
    | exact hpre _ (getD_mem (by omega))
    | with_reducible exact hU0 (rep0_no (by first | exact .inl (by omega) | exact .inr (by with_reducible assumption)))
    | with_reducible exact hD0 (rep0_no (by first | exact .inl (by omega) | exact .inr (by with_reducible assumption)))
    | with_reducible exact hU1 (rep0_mk (by omega) (by with_reducible assumption))
    | with_reducible exact hD1 (rep0_mk (by omega) (by with_reducible assumption))
    | with_reducible exact uF (rep_no (by first | exact .inl (rep0_no (by first | exact .inl (by omega) | exact .inr (by with_reducible assumption))) | exact .inr (.inl (by with_reducible assumption)) | exact .inr (.inr (by with_reducible assumption))))
    | with_reducible exact uN (rep_iff (rep0_mk (by omega) (by with_reducible assumption)) (by with_reducible assumption))
    | with_reducible exact hW0 (rep_no (by first | exact .inl (rep0_no (by first | exact .inl (by omega) | exact .inr (by with_reducible assumption))) | exact .inr (.inl (by with_reducible assumption)) | exact .inr (.inr (by with_reducible assumption))))
    | with_reducible exact hW (rep_mk (rep0_mk (by omega) (by with_reducible assumption)) (by with_reducible assumption) (by with_reducible assumption))
    | trace_state
end
def KeepIm (g : Ls) (x : Im) : Prop := mkOf x.body = g.mark ∧ (((∃ r ∈ x.to, r.addr = g.addr) ∧ ¬ Rep x.body) ∨ (Rep x.body ∧ repA x.body = g.addr))
def KeepGm (g : Ls) (b : Bx) (m : Gm) : Prop := mkOf m.body = g.mark ∧ ((Rep m.body ∧ repA m.body = g.addr) ∨ (b.addr = g.addr ∧ (¬ AdNull m.frm ∨ ¬ Rep m.body)))
def Keeps (h : Hs) (g : Ls) : Prop := (∃ x ∈ h.spool.items, KeepIm g x) ∨ (∃ b ∈ h.boxes, ∃ m ∈ b.mails, KeepGm g b m) ∨ ∃ l ∈ h.lost, l.mark = g.mark
def InB (h : Hs) (g : Ls) : Prop := ∃ b ∈ h.boxes, b.addr = g.addr ∧ ∃ m ∈ b.mails, mkOf m.body = g.mark ∧ (¬ AdNull m.frm ∨ ¬ Rep m.body)
theorem Keeps_s {h : Hs} {g : Ls} : ((∃ x ∈ h.spool.items, KeepIm g x) ∨ (∃ b ∈ h.boxes, ∃ m ∈ b.mails, mkOf m.body = g.mark ∧ Rep m.body ∧ repA m.body = g.addr) ∨ (∃ l ∈ h.lost, l.mark = g.mark) ∨ InB h g) ↔ Keeps h g := by
  constructor
  · rintro (q | ⟨b, hb, m, hm, q1, q2⟩ | q | ⟨b, hb, q0, m, hm, q1, q2⟩)
    · exact .inl q
    · exact .inr (.inl ⟨b, hb, m, hm, q1, .inl q2⟩)
    · exact .inr (.inr q)
    · exact .inr (.inl ⟨b, hb, m, hm, q1, .inr ⟨q0, q2⟩⟩)
  · rintro (q | ⟨b, hb, m, hm, q1, q2 | ⟨q0, q2⟩⟩ | q)
    · exact .inl q
    · exact .inr (.inl ⟨b, hb, m, hm, q1, q2⟩)
    · exact .inr (.inr (.inr ⟨b, hb, q0, m, hm, q1, q2⟩))
    · exact .inr (.inr (.inl q))
theorem adE {a b : Ad} : ((false != (decide (a.user = b.user) && decide (a.domain = b.domain))) = true) = (a = b) := by
  rw [Ad_ext]; simp
theorem adF {a b : Ad} : ((false != (decide (a.user = b.user) && decide (a.domain = b.domain))) = false) = ¬ a = b := by
  rw [Ad_ext]; simp
theorem adE' {a b : Ad} : ((decide (a.user = b.user) && decide (a.domain = b.domain)) = true) = (a = b) := by
  rw [Ad_ext]; simp
theorem adF' {a b : Ad} : ((decide (a.user = b.user) && decide (a.domain = b.domain)) = false) = ¬ a = b := by
  rw [Ad_ext]; simp
theorem no_at {α : Type} [Inhabited α] {xs : List α} {P : α → Prop} (h : ∀ j, j < xs.length → ¬ P (xs.getD j default)) : ¬ ∃ x ∈ xs, P x := fun ⟨x, hx, q⟩ => mem_getD (P := fun x => ¬ P x) h x hx q
theorem yes_at {α : Type} [Inhabited α] {xs : List α} {P : α → Prop} {i : Nat} (hi : i < xs.length) (h : P (xs.getD i default)) : ∃ x ∈ xs, P x := ⟨_, getD_mem hi, h⟩
def c42 : Ct := ctR (lc EStr.asl l0) (fun p => (∀ s ∈ p.1, s.size ≤ 2000000) ∧ p.1.length ≤ 2000000) (fun p => .t (.v (.bool (bOf (Rep p.1)))))
section
attribute [local go_sem] c69
theorem good42 {G : Gt} (hG : OkG G) (hh : G.e 69 = roEnt 0 c69) : Gd G 42 (roEnt 0 c42) := by
  refine gR (dp := fun _ => true) (fn := Tryz.f42) (n := 1) (fun _ => rfl) (by kernel_rfl) rfl (by kernel_rfl) hG (Nat.le_of_ble_eq_true rfl) (by kernel_rfl) (by decide) (fun _ _ => .v _) ?_
  rintro ⟨xs, ⟨⟩⟩ hpre
  simp -implicitDefEqProofs only [Tryz.f42, go_sem, hh] at hpre ⊢
  obtain ⟨hpre, hlen⟩ := hpre
  repeat' (first | with_reducible apply And.intro | with_reducible intro _ | ((first | apply brB_split | apply aPickB_split | apply gB_split | apply adB_split) <;> intro hb <;> simp -implicitDefEqProofs only [hb, go_sem, hh] <;> try simp only [qz] at hb))
  all_goals first
    | rfl
    | exact hpre _ (by assumption)
    | assumption
    | (refine uB ?_; simp; exact whoS_ne)
    | trace_state
end
def c44 : Ct := ctR (lc EGm.ag l0) (fun p => ∀ s ∈ p.1.body, s.size ≤ 2000000) (fun p => .t (.v (.bool (bOf (¬ AdNull p.1.frm ∨ ¬ Rep p.1.body)))))
section
attribute [local go_sem] c73 c79 bOf_t bOf_f repB_eq
theorem good44 {G : Gt} (hG : OkG G) (hh : G.e 73 = roEnt 0 c73 ∧ G.e 79 = roEnt 0 c79) : Gd G 44 (roEnt 0 c44) := by
  refine gR (dp := fun _ => true) (fn := Tryz.f44) (n := 1) (fun _ => rfl) (by kernel_rfl) rfl (by kernel_rfl) hG (Nat.le_of_ble_eq_true rfl) (by kernel_rfl) (by decide) (fun _ _ => .v _) ?_
  rintro ⟨g, ⟨⟩⟩ hpre
  simp -implicitDefEqProofs only [Tryz.f44, go_sem, hh] at hpre ⊢
  try dsimp only at hpre
  repeat' (first | with_reducible apply And.intro | with_reducible intro _ | ((first | apply brB_split | apply aPickB_split | apply gB_split | apply adB_split) <;> intro hb <;> simp -implicitDefEqProofs only [hb, go_sem, hh] <;> try simp only [qz] at hb))
  all_goals (try simp only [bOf_t, bOf_f] at *)
  all_goals first
    | rfl
    | exact hpre _ (by assumption)
    | exact uT (.inl (by assumption))
    | exact uN ⟨fun q => .inr q, fun q => q.resolve_left (fun f => f (by assumption))⟩
    | trace_state
end
def c141 : Ct := ctR (lc EWy.asl l0) (fun p => (p.1.length : Int) ≤ 1048576) (fun p => .o true 2 (p.1.map encWy))
section
attribute [local go_sem] aNil_n aNil_c List.length_map List.nil_append List.map_nil List.map_cons List.length_cons List.length_nil
theorem good141 {G : Gt} (hG : OkG G) : Gd G 141 (roEnt 0 c141) := by
  refine gR (dp := fun _ => true) (fn := Tryz.f141) (n := 1) (fun _ => rfl) (by kernel_rfl) rfl (by kernel_rfl) hG (Nat.le_of_ble_eq_true rfl) (by kernel_rfl) (by decide) (fun _ _ => .deep _ _) ?_
  rintro ⟨xs, ⟨⟩⟩ hpre
  dsimp only at hpre ⊢
  cases xs with
  | nil =>
    simp -implicitDefEqProofs only [Tryz.f141, go_sem]
    repeat' (first | with_reducible apply And.intro | with_reducible intro _ | ((first | apply brB_split | apply aPickB_split | apply gB_split | apply adB_split) <;> intro hb <;> simp -implicitDefEqProofs only [hb, go_sem] <;> try simp only [qz] at hb))
    all_goals (try simp only [maxLen, List.length_map] at *)
    all_goals first | rfl | omega | exact of_eq_true (AllV_Wy []) | (simp; done) | skip
  | cons x xs =>
    simp only [List.length_cons] at hpre
    simp -implicitDefEqProofs only [Tryz.f141, go_sem]
    repeat' (first | with_reducible apply And.intro | with_reducible intro _ | ((first | apply brB_split | apply aPickB_split | apply gB_split | apply adB_split) <;> intro hb <;> simp -implicitDefEqProofs only [hb, go_sem] <;> try simp only [qz] at hb))
    all_goals (try simp only [maxLen, List.length_map] at *)
    all_goals first | rfl | omega | exact of_eq_true (AllV_Wy (x :: xs)) | exact of_eq_true (len_Wy (x :: xs)) _ (by assumption) | (simp; done) | skip
end
def c60 : Ct := ctR (lc ELs.asl l0) (fun p => (p.1.length : Int) ≤ 1048576) (fun p => .o true 3 (p.1.map encLs))
section
attribute [local go_sem] aNil_n aNil_c List.length_map List.nil_append List.map_nil List.map_cons List.length_cons List.length_nil
theorem good60 {G : Gt} (hG : OkG G) : Gd G 60 (roEnt 0 c60) := by
  refine gR (dp := fun _ => true) (fn := Tryz.f60) (n := 1) (fun _ => rfl) (by kernel_rfl) rfl (by kernel_rfl) hG (Nat.le_of_ble_eq_true rfl) (by kernel_rfl) (by decide) (fun _ _ => .deep _ _) ?_
  rintro ⟨xs, ⟨⟩⟩ hpre
  dsimp only at hpre ⊢
  cases xs with
  | nil =>
    simp -implicitDefEqProofs only [Tryz.f60, go_sem]
    repeat' (first | with_reducible apply And.intro | with_reducible intro _ | ((first | apply brB_split | apply aPickB_split | apply gB_split | apply adB_split) <;> intro hb <;> simp -implicitDefEqProofs only [hb, go_sem] <;> try simp only [qz] at hb))
    all_goals (try simp only [maxLen, List.length_map] at *)
    all_goals first | rfl | omega | exact of_eq_true (AllV_Ls []) | (simp; done) | skip
  | cons x xs =>
    simp only [List.length_cons] at hpre
    simp -implicitDefEqProofs only [Tryz.f60, go_sem]
    repeat' (first | with_reducible apply And.intro | with_reducible intro _ | ((first | apply brB_split | apply aPickB_split | apply gB_split | apply adB_split) <;> intro hb <;> simp -implicitDefEqProofs only [hb, go_sem] <;> try simp only [qz] at hb))
    all_goals (try simp only [maxLen, List.length_map] at *)
    all_goals first | rfl | omega | exact of_eq_true (AllV_Ls (x :: xs)) | exact of_eq_true (len_Ls (x :: xs)) _ (by assumption) | (simp; done) | skip
end
def c104 : Ct := ctR (lc ECf.ag l0) (fun p => OkCf p.1) (fun p => owCf p.1)
section
attribute [local go_sem] c103 c141 List.length_map
theorem good104 {G : Gt} (hG : OkG G) (hh : G.e 103 = roEnt 0 c103 ∧ G.e 141 = roEnt 0 c141) : Gd G 104 (roEnt 0 c104) := by
  refine gR (dp := fun _ => true) (fn := Tryz.f104) (n := 1) (fun _ => rfl) (by kernel_rfl) rfl (by kernel_rfl) hG (Nat.le_of_ble_eq_true rfl) (by kernel_rfl) (by decide) (fun _ p => owCf_solid _) ?_
  rintro ⟨x, ⟨⟩⟩ hpre
  simp -implicitDefEqProofs only [Tryz.f104, go_sem, hh] at hpre ⊢
  obtain ⟨_, ⟨h1, _⟩, ⟨h2, _⟩⟩ := hpre
  repeat' (first | with_reducible apply And.intro | with_reducible intro _ | ((first | apply brB_split | apply aPickB_split | apply gB_split | apply adB_split) <;> intro hb <;> simp -implicitDefEqProofs only [hb, go_sem, hh] <;> try simp only [qz] at hb))
  all_goals (try simp only [maxLen, List.length_map] at *)
  all_goals first | rfl | omega | (simp_all; done) | trace_state
end
def c59 : Ct := ctR (lc EHs.ag l0) (fun p => OkHs p.1) (fun p => owHs p.1)
section
attribute [local go_sem] c103 c104 c105 c60 List.length_map List.length_append List.length_cons List.length_nil List.map_append List.map_nil Nat.zero_add List.nil_append AS.opn AS.cls AS.nilb AS.renb AS.up Bool.not_false Bool.not_true List.set_set List.set_cons_zero List.set_cons_succ List.set_nil List.mem_singleton forall_eq
set_option maxHeartbeats 3200000 in
theorem good59 {G : Gt} (hG : OkG G) (hh : G.e 103 = roEnt 0 c103 ∧ G.e 104 = roEnt 0 c104 ∧ G.e 105 = roEnt 0 c105 ∧ G.e 60 = roEnt 0 c60) : Gd G 59 (roEnt 0 c59) := by
  refine gR (dp := fun _ => true) (fn := Tryz.f59) (n := 1) (fun _ => rfl) (by kernel_rfl) rfl (by kernel_rfl) hG (Nat.le_of_ble_eq_true rfl) (by kernel_rfl) (by decide) (fun _ p => owHs_solid _) ?_
  rintro ⟨h, ⟨⟩⟩ hpre
  simp -implicitDefEqProofs only [Tryz.f59, go_sem, hh] at hpre ⊢
  obtain ⟨zc, zs, ⟨lb, zb⟩, ⟨ll, zl⟩⟩ := hpre
  repeat' (first | with_reducible apply And.intro | with_reducible intro _ | ((first | apply brB_split | apply aPickB_split | apply gB_split | apply adB_split) <;> intro hb <;> simp -implicitDefEqProofs only [hb, go_sem, hh] <;> try simp only [qz] at hb))
  all_goals first | rfl | omega | decide | skip
  refine run_loop [(3, 1903, true, 3)] (ι := {i : Nat // i ≤ h.boxes.length}) (fun p => ⟨[(1, .pb 1001 0), (2, .pb 1002 0), (3, .h 1903), (10, .t (.sl 3 (h.boxes.map encBx))), (11, .t (.v (.int .i64 h.boxes.length))), (12, .t (.v (.int .i64 p.1)))], [(1001, some (.box ((encHs h).map .t))), (1002, some (.box [.t (.v (.string ⟨#[]⟩)), .nil, .nil, .t (.v (.int .i64 0)), .nil, .nil, .nil])), (1903, some (.arr true 3 ((h.boxes.take p.1).map encBx)))]⟩) (fun p => h.boxes.length - p.1) ⟨0, by simp⟩ rfl ?_ ?_
  · simp -implicitDefEqProofs only [go_sem, hh]
    simp
  · rintro ⟨i, hi⟩
    have hlen : (h.boxes.take i).length = i := by simp; omega
    by_cases hlt : (i : Int) < h.boxes.length
    · skip
      have hbx := zb _ (getD_mem (xs := h.boxes) (j := i) (by omega))
      obtain ⟨_, ⟨lm, zm⟩⟩ := hbx
      simp -implicitDefEqProofs only [hlt, decide_true, Int.toNat_natCast, go_sem, hh]
      repeat' (first | with_reducible apply And.intro | with_reducible intro _ | ((first | apply brB_split | apply aPickB_split | apply gB_split | apply adB_split) <;> intro hb <;> simp -implicitDefEqProofs only [hb, go_sem, hh] <;> try simp only [qz] at hb))
      all_goals (try simp only [maxLen] at *)
      all_goals first | rfl | omega | assumption | decide | skip
      refine run_loop [(6, 1906, true, 3)] (ι := {k : Nat // k ≤ (h.boxes.getD i default).mails.length}) (fun p => ⟨[(1, .pb 1001 0), (2, .pb 1002 0), (3, .h 1903), (5, .pb 1005 0), (6, .h 1906), (10, .t (.sl 3 (h.boxes.map encBx))), (11, .t (.v (.int .i64 h.boxes.length))), (12, .t (.v (.int .i64 i))), (17, .t (.sl 3 ((h.boxes.getD i default).mails.map encGm))), (18, .t (.v (.int .i64 (h.boxes.getD i default).mails.length))), (19, .t (.v (.int .i64 p.1)))], [(1001, some (.box ((encHs h).map .t))), (1002, some (.box [.t (.v (.string ⟨#[]⟩)), .nil, .nil, .t (.v (.int .i64 0)), .nil, .nil, .nil])), (1903, some (.arr true 3 ((h.boxes.take i).map encBx))), (1005, some (.box ((encBx (h.boxes.getD i default)).map .t))), (1906, some (.arr true 3 (((h.boxes.getD i default).mails.take p.1).map encGm)))]⟩) (fun p => (h.boxes.getD i default).mails.length - p.1) ⟨0, by simp⟩ rfl ?_ ?_
      · simp -implicitDefEqProofs only [go_sem, hh]
        simp
      · rintro ⟨k, hk⟩
        have hlen2 : ((h.boxes.getD i default).mails.take k).length = k := by rw [List.length_take]; omega
        by_cases hlt2 : (k : Int) < (h.boxes.getD i default).mails.length
        · obtain ⟨_, ⟨lg, _⟩⟩ := zm _ (getD_mem (xs := (h.boxes.getD i default).mails) (j := k) (by omega))
          simp -implicitDefEqProofs only [hlt2, decide_true, Int.toNat_natCast, go_sem, hh]
          repeat' (first | with_reducible apply And.intro | with_reducible intro _ | ((first | apply brB_split | apply aPickB_split | apply gB_split | apply adB_split) <;> intro hb <;> simp -implicitDefEqProofs only [hb, go_sem, hh] <;> try simp only [qz] at hb))
          all_goals (try simp only [maxLen] at *)
          all_goals first | rfl | omega | assumption | decide | skip
          refine ⟨⟨k + 1, by omega⟩, by dsimp only; omega, ?_⟩
          simp -implicitDefEqProofs only [go_sem, hh]
          simp only [take_snoc_map encGm (show k < (h.boxes.getD i default).mails.length by omega)]
          repeat' (first | with_reducible apply And.intro | with_reducible intro _ | ((first | apply brB_split | apply aPickB_split | apply gB_split | apply adB_split) <;> intro hb <;> simp -implicitDefEqProofs only [hb, go_sem, hh] <;> try simp only [qz] at hb))
          all_goals first | rfl | (simp; done) | trace_state
        · have htk : (h.boxes.getD i default).mails.take k = (h.boxes.getD i default).mails := List.take_of_length_le (by omega)
          simp -implicitDefEqProofs only [hlt2, htk, decide_false, Int.toNat_natCast, go_sem, hh]
          repeat' (first | with_reducible apply And.intro | with_reducible intro _ | ((first | apply brB_split | apply aPickB_split | apply gB_split | apply adB_split) <;> intro hb <;> simp -implicitDefEqProofs only [hb, go_sem, hh] <;> try simp only [qz] at hb))
          all_goals (try simp only [maxLen] at *)
          all_goals first | rfl | omega | assumption | decide | skip
          refine ⟨⟨i + 1, by omega⟩, by dsimp only; omega, ?_⟩
          simp -implicitDefEqProofs only [go_sem, hh]
          simp only [take_snoc_map encBx (show i < h.boxes.length by omega)]
          repeat' (first | with_reducible apply And.intro | with_reducible intro _ | ((first | apply brB_split | apply aPickB_split | apply gB_split | apply adB_split) <;> intro hb <;> simp -implicitDefEqProofs only [hb, go_sem, hh] <;> try simp only [qz] at hb))
          all_goals first | rfl | (simp; done) | trace_state
    · have htk : h.boxes.take i = h.boxes := List.take_of_length_le (by omega)
      simp -implicitDefEqProofs only [hlt, htk, decide_false, go_sem, hh]
      repeat' (first | with_reducible apply And.intro | with_reducible intro _ | ((first | apply brB_split | apply aPickB_split | apply gB_split | apply adB_split) <;> intro hb <;> simp -implicitDefEqProofs only [hb, go_sem, hh] <;> try simp only [qz] at hb))
      all_goals (try simp only [maxLen] at *)
      all_goals first | rfl | omega | assumption | decide | exact ⟨zc, zs, ⟨lb, zb⟩, ⟨ll, zl⟩⟩ | rfl | trace_state
end
end Go.V
