/- The row. No condition. -/
import Derived.Test.YtahogphlohnpmaaGreatDoorKA
import Derived.Lib.Bytealg
import Derived.Test.YtahogphlohnpmaaGreatDoorXB
namespace Go.V
open Go Go.Proofs
set_option maxRecDepth 100000
set_option linter.unusedSimpArgs false
set_option linter.unusedVariables false
attribute [local go_sem_proc] Nat.reduceAdd Nat.reduceMul Nat.reduceLeDiff Nat.reduceEqDiff reduceCtorEq Nat.reduceSub Int.reduceNeg Nat.reduceMod Nat.reduceBEq Nat.reduceLT
attribute [local go_sem] aPickB.eq_1 aPickB.eq_2 aPick.eq_1 aBox.eq_1 aBox.eq_2 aAlloc.eq_1 aAlloc.eq_2 aLoadB.eq_1 aLoadB.eq_2 aLoadB.eq_3 aLoadB.eq_4 aLoadB.eq_5 aLoadA.eq_1 aLoadA.eq_2 aLoadA.eq_3 aLoadA.eq_4 aLoadA.eq_5 aLoadP.eq_1 aLoadP.eq_2 aLoadP.eq_3 aLoad.eq_1 aLoad.eq_2 aFAx.eq_1 aFAx.eq_2 aFAx.eq_3 aFA.eq_1 aFA.eq_2 aFx.eq_1 aF.eq_1 aF.eq_2 fld.eq_1 elT.eq_1 aIdxH.eq_1 aIdxH.eq_2 aIdxH.eq_3 aIdxH.eq_4 aIdxH.eq_5 aIdxP.eq_1 aIdxP.eq_2 aIndexAddr.eq_1 aIndexAddr.eq_2 aIndexAddr.eq_3 isStr.eq_1 aIndex.eq_1 aSlStr.eq_1 aSlRo.eq_1 aSlZ.eq_1 aSlZ.eq_2 aSlice.eq_1 aSlice.eq_2 aSlice.eq_3 bnd.eq_1 bnd.eq_2 aBuildO.eq_1 aBuildO.eq_2 aBuild.eq_1 aNewArr.eq_1 aNewArr.eq_2 aBS.eq_1 aBS.eq_2 aBuildSlice.eq_1 aBuildSlice.eq_2 aMakeSlice.eq_1 appDeep.eq_1 aApp2.eq_1 aAppend.eq_1 aAppend.eq_2 aStoreB.eq_1 aStoreA.eq_1 obFlat.eq_1 aStore2.eq_1 aStore2.eq_2 aStoreP.eq_1 aStoreP.eq_2 aStore.eq_1 aStore.eq_2 isShl.eq_1 isShl.eq_2 isBool.eq_1 aBinI.eq_1 aBinI.eq_2 aBinB.eq_1 aBinB.eq_2 aEq.eq_1 aEq.eq_2 aEq.eq_3 aEq.eq_4 aEqG.eq_1 aEqG.eq_2 aBin.eq_1 aBin.eq_2 aBin.eq_3 aBin.eq_4 aUn.eq_1 aUn.eq_2 aLenO.eq_1 aLenS.eq_1 aLenS.eq_2 aLenS.eq_3 aLenT.eq_1 aLen.eq_1 aLen.eq_2 aLen.eq_3 bytesOb.eq_1 bytesOb.eq_2 bytesOf.eq_1 bytesOf.eq_2 aNums.eq_1 aNums.eq_2 isU8.eq_1 aCvI.eq_1 aCvS.eq_1 aCvB.eq_1 aCvB.eq_2 aCvT.eq_1 aConv.eq_1 aConv.eq_2 aConv.eq_3 aConv.eq_4 aExO.eq_1 aExO.eq_2 aExtract.eq_1 aNil.eq_1 aNil.eq_2 aNil.eq_3 aCallS.eq_1 aCallS.eq_2 aCallR.eq_1 aCallR.eq_2 aCallK.eq_1 aCallK.eq_2 aCallK.eq_3 aCall.eq_1 aCall.eq_2 takeO.eq_1 AS.takeV.eq_1 AS.takeV.eq_2 AS.takeV.eq_3 AS.takeV.eq_4 AS.takeV.eq_5 AS.takeV.eq_6 AS.takeV.eq_7 AV.oldM.eq_1 AV.oldM.eq_2 AV.oldM.eq_3 AV.oldM.eq_4 AV.oldM.eq_5 AV.oldM.eq_6 AV.oldM.eq_7 AV.oldM.eq_8 AV.oldM.eq_9 AV.oldM.eq_10 AV.oldM.eq_11 AV.oldML.eq_1 AV.oldML.eq_2 subL.eq_1 subL.eq_2 back.eq_1 back.eq_2 back.eq_3 back.eq_4 backL.eq_1 backI.eq_1 backI.eq_2 backI.eq_3 backI.eq_4 backIL.eq_1 aBuiltin.eq_1 aBuiltin.eq_2 aBuiltin.eq_3 aCallee.eq_1 aCallee.eq_2 aCallee.eq_3 abin.eq_1 abin.eq_2 abin.eq_3 abin.eq_4 abin.eq_5 abin.eq_6 abin.eq_7 abin.eq_8 abin.eq_9 abin.eq_10 abin.eq_11 abin.eq_12 abin.eq_13 abin.eq_14 abin.eq_15 abin.eq_17 abin.eq_18 abin.eq_19 abin.eq_20 abin.eq_21 abin.eq_22 abin.eq_23 AS.ev.eq_1 AS.ev.eq_2 AS.ev.eq_3 AS.ev.eq_4 AS.evs.eq_1 AS.evs.eq_2 AS.evp.eq_1 AS.evp.eq_2 AS.put.eq_1 AS.put.eq_2 AS.remL.eq_1 AS.remL.eq_2 AV.has.eq_1 AV.has.eq_2 AV.has.eq_3 AV.has.eq_4 AV.has.eq_5 AV.has.eq_6 AV.has.eq_7 AV.has.eq_8 AV.has.eq_9 AV.has.eq_10 AV.has.eq_11 AV.hasL.eq_1 AV.hasL.eq_2 Ob.drop.eq_1 Ob.drop.eq_2 Ob.drop.eq_3 Ob.drop.eq_4 AV.cells.eq_1 AV.cells.eq_2 AV.cells.eq_3 AV.cells.eq_4 AV.cells.eq_5 AS.snapT.eq_1 AS.snapT.eq_2 AS.snapT.eq_3 AS.snapT.eq_4 AS.snapT.eq_5 AS.snapT.eq_6 AS.snapT.eq_7 AS.snap.eq_1 AS.snap.eq_2 mapO.eq_1 mapO.eq_2 intern.eq_1 intern.eq_2 intern.eq_3 intern.eq_4 intern.eq_5 intern.eq_6 intern.eq_7 intern.eq_8 intern.eq_9 intern.eq_10 intern.eq_11 internL.eq_1 internL.eq_2 zipSl.eq_1 zipSl.eq_2 AV.ids.eq_1 AV.ids.eq_2 AV.ids.eq_3 AV.ids.eq_4 AV.ids.eq_5 AV.ids.eq_6 AV.ids.eq_7 AV.ids.eq_8 AV.ids.eq_9 AV.ids.eq_10 AV.ids.eq_11 AV.idsL.eq_1 AV.idsL.eq_2 AV.sub.eq_1 AV.sub.eq_2 AV.sub.eq_3 AV.sub.eq_4 AV.sub.eq_5 AV.sub.eq_6 AV.sub.eq_7 AV.sub.eq_8 AV.sub.eq_9 AV.sub.eq_10 AV.sub.eq_11 AV.subL.eq_1 AV.subL.eq_2 AS.frzL.eq_1 AS.frzL.eq_2 AS.absT.eq_1 AS.absT.eq_2 AS.absT.eq_4 AS.absL.eq_1 AS.absL.eq_2 AS.absOk.eq_1 AS.absOkL.eq_1 AS.absOkL.eq_2 hid.eq_1 hids.eq_1 hids.eq_2 AS.appBase.eq_1 AS.appBase.eq_2 AS.appSrc.eq_1 appFits.eq_1 appFits.eq_2 appFits.eq_3 avFill.eq_1 avFill.eq_2 avc.eq_1 avc.eq_2 avc1.eq_1 Kd.agg.eq_1 Kd.agg.eq_2 okR.eq_1 okR.eq_2 okR.eq_3 okR.eq_4 okR.eq_5 okR.eq_6 okR.eq_7 okR.eq_8 zt.eq_1 rvB.eq_1 rvP.eq_1 rvA.eq_1 rvA.eq_2 rv1.eq_1 outTO.eq_1 outT.eq_1 outT.eq_2 outT.eq_3 outTn.eq_1 outOO.eq_1 outO.eq_1 outO.eq_2 boxOf.eq_1 outP.eq_1 outP.eq_2 outP.eq_3 outP.eq_4 outP.eq_5 outP.eq_6 outP.eq_7 outP.eq_8 outPL.eq_1 outPL.eq_2 outI.eq_1 outI.eq_2 outI.eq_3 outI.eq_4 outI.eq_5 outIL.eq_1 outZ.eq_1 outZ.eq_2 outZ.eq_3 outZ.eq_4 outZ.eq_5 outZL.eq_1 finO.eq_1 finO.eq_2 fin.eq_1 fin.eq_2 fin.eq_3 cellAV.eq_1 cellAV.eq_2 numsOf.eq_1 numsOf.eq_2 aop.eq_1 aop.eq_2 aop.eq_3 aop.eq_4 aop.eq_5 aop.eq_6 aop.eq_7 aop.eq_8 aop.eq_9 aop.eq_10 aop.eq_11 aop.eq_12 aop.eq_13 aop.eq_14 aop.eq_15 aop.eq_16 aop.eq_17 aop.eq_18 aop.eq_19 aop.eq_20 aop.eq_21 aop.eq_22 aop.eq_23 aop.eq_24 aop.eq_25 aop.eq_26 tmpsOf.eq_1 tmpsOf.eq_2 tmpsOf.eq_3 tmpsOf.eq_4 tmpsOf.eq_5 AV.refs.eq_1 AV.refs.eq_2 AV.refs.eq_3 AV.refs.eq_4 AV.refs.eq_5 AV.refs.eq_6 AV.refs.eq_7 AV.refs.eq_8 AV.refs.eq_9 AV.refs.eq_10 AV.refs.eq_11 AV.refsL.eq_1 AV.refsL.eq_2 refsT.eq_1 refsT.eq_2 refsO.eq_1 refsO.eq_2 refsO.eq_3 refsO.eq_4 refsO.eq_5 refsO.eq_6 refsB.eq_1 refsB.eq_2 clos.eq_1 clos.eq_2 keepL.eq_1 keepL.eq_2 AV.hasM.eq_1 AV.hasM.eq_2 AV.hasM.eq_3 AV.hasM.eq_4 AV.hasM.eq_5 AV.hasM.eq_6 AV.hasM.eq_7 AV.hasM.eq_8 AV.hasM.eq_9 AV.hasM.eq_10 AV.hasM.eq_11 AV.hasML.eq_1 AV.hasML.eq_2 Ob.dropM.eq_1 Ob.dropM.eq_2 Ob.dropM.eq_3 Ob.dropM.eq_4 nsC.eq_1 nsC.eq_2 okGuard.eq_1 okGuard.eq_2 AS.purges.eq_1 AS.purges.eq_2 dropMB.eq_1 dropMB.eq_2 newB.eq_1 newB.eq_2 ptB.eq_1 ptB.eq_2 lookC.eq_1 lookC.eq_2 dropB.eq_1 dropB.eq_2 leS.eq_1 leS.eq_2 leT.eq_1 leT.eq_2 AS.mvs.eq_1 AS.mvs.eq_2 AS.mvA.eq_1 AS.mvA.eq_2 AS.mvB.eq_1 aSetO.eq_1 aSetO.eq_2 aSh.eq_1 aSh.eq_2 arK.eq_1 aIdxA.eq_1 aIdxA.eq_2 arT.eq_1 aSlHB.eq_1 aSlHB.eq_2 aSlHO.eq_1 aSlHZ.eq_1 aSlHZ.eq_2 isSlT.eq_1 isNilC.eq_1 aNilO.eq_1 aNilX.eq_1 aNilX.eq_2 aNilX.eq_3 aNilC.eq_1 aNilC.eq_2 aBinQ.eq_1 aBinQ.eq_2 aMin.eq_1 flT.eq_1 flT.eq_2 flT.eq_3 mpT.eq_1 aMkMap.eq_1 aMkMap.eq_2 strA.eq_1 keyMK.eq_1 keyMK.eq_2 keyMK.eq_3 mkB.eq_1 mkB.eq_2 mkB.eq_3 aMp2.eq_1 aMp1.eq_1 aMp0.eq_1 aMapU.eq_1 aLk2.eq_1 aLk2.eq_2 aLk1.eq_1 aLk0.eq_1 aLookup.eq_1 aLenMO.eq_1 aLenM.eq_1 glV.eq_1 glV.eq_2 evG.eq_1 evG.eq_2 evG.eq_3 evG.eq_4 lkHitO.eq_1 lkHitO.eq_2 lkHitO.eq_3 lkHitO.eq_4 lkHit.eq_1 lkHit.eq_2 lkF.eq_1 lkF.eq_2 lkFind.eq_1 lkFind.eq_2 lkV.eq_1 lkV.eq_2 lkV.eq_3 lkV.eq_4 lkV.eq_5 AS.lkO.eq_1 AS.lkO.eq_2 AS.lkOf.eq_1 rawT.eq_1 rawT.eq_2 rawT.eq_3 rawT.eq_4 rawT.eq_5 rawT.eq_6 rawOf.eq_1 rawOf.eq_2 rawOf.eq_3 rawOf.eq_4 rawOf.eq_5 rawOf.eq_6 rawOf.eq_7 rawOf.eq_8 rawOf.eq_9 rawOf.eq_10 rawOf.eq_11 aLkR.eq_1 aLkR.eq_2 aLk.eq_1 aLk.eq_2 KL.eq_1 lkDrop.eq_1 lkDrop.eq_2 lkParO.eq_1 lkParO.eq_2 lkParO.eq_3 lkParO.eq_4 lkPar.eq_1 lkPar.eq_2 lkI.eq_1 lkI.eq_2 lkIds.eq_1 lkIds.eq_2 adLd.eq_1 run_nil run_b run_l run_skip run_label run_seq run_cond brV_b brB_t brB_f run_block run_exit run_ret run_region runX_nil runX_c runX_c' runX_b runX_b' runX_l runX_l' exB_t exB_f run_o run_op run_opg gV_b gV_t gB_tt gB_ff gB_tf gB_ft rs_eq kv KI aLenN aBS1 aApp1 aStore1 szOk gv gd s0 idOf look_cons lookC frzU_t frzU_f orT orF drop_any drop_nil drop_t drop_h drop_pb drop_pa drop_agg drop_tup drop_fn dropB kill_eq set_eq rem_eq re_eq up_eq get_eq ob_eq Ob.drop apl fpl plainTy AS.frz splice cond_true cond_false List.map_cons List.map_nil List.drop_zero List.drop_succ_cons List.drop_nil List.take_zero List.take_succ_cons List.take_nil List.getElem?_cons_zero List.getElem?_cons_succ List.getElem?_nil List.length_cons List.length_nil Option.map_some Option.map_none Option.bind_some Option.bind_none List.cons_append List.nil_append List.append_nil Option.getD_some Option.getD_none List.all_cons List.all_nil Bool.and_true Bool.true_and Bool.or_false Bool.false_or Bool.or_true Bool.true_or List.flatten_cons List.flatten_nil List.replicate_succ List.replicate_zero and_true true_and avOf_t avOf_f agg_bool agg_int agg_str agg_slice agg_struct agg_func agg_ptr agg_map avc_bool avc_int avc_str avc_fn avc1_bool avc1_int avc1_str avc1_fn zt_bool zt_int zt_str cells_nil cells_t cells_h cells_pb cells_fn snap_t snap_nil snap_h snap_pb snap_fn rv1_one rv1_two outI_t outI_oh outI_on outI_any outI_nil outZ_th outZ_tt outZ_tn outZ_o outZ_any outZ_nil outIL_nil outZL_nil finN finR ne_eq not_false_eq_true not_true_eq_false List.nodup_nil List.not_mem_nil false_implies implies_true eq_self true_or or_true Option.some.injEq shl_add shl_sub shl_mul shl_quo shl_rem shl_and shl_or shl_xor shl_andNot shl_eql shl_neq shl_lss shl_leq shl_gtr shl_geq shl_shr shl_shl appDeep_none appDeep_sn appSrc_h appSrc_nil fits_ft fits_tn fits_tf isStr_slice obFlat_box Nat.le_refl nbeq_self List.length_map updZ_s updZ_n dropM_eq purge_eq newIds_cons newIds_nil purgeT_nil purgeT_cons memN_cons memN_nil bd_d bd_c bd_g bd_p bd_t bd_o preds_nil preds_cons hasIns insB List.any_cons List.any_nil adK_eq adr_nil adG_eq kdOp noLen creates Op.operands Call.operands nsOf adT adI adJ plainB rst List.append_eq nsD_f nsD_n nsD_t nOf_0 nOf_1 nOf_2 chO_0 chO_1 chO_2 keepK_0 keepK_1 keepK_2 eqRes AS.mv fits KM aCallM notNew kdCall arK_i64 arK_i32 arK_u8 arK_u64 arT_sl isNilC_t isNilC_f isNilC_g isNilC_i isNilC_b isNilC_s isNilC_a isNilC_n andBF andBT aCallK_2 ble_dec hid_t hid_nil hid_any hid_pb hid_fn absOk_t absOk_nil absOk_pb absOk_h absOkO_1 decide_true decide_false Array.toList_append chunk_0 chunk_1 chunk_2 chunk_3 back_t back_nil back_ht backL_nil backI_t backI_nil backI_ht backIL_nil AS.mvJ nbeq_dec runR_f runR_t loadB Option.isSome_some Option.isSome_none nodup1 adr_none adr_some adO_s adV_b adV_t adB_tt adB_ff adB_tf adB_ft adS_eq lenL.eq_1 lenO.eq_1 lenO.eq_2 lenV.eq_1 lenV.eq_2 lenV.eq_3 lenV.eq_4 optN optS absT_ft
attribute [local go_sem] ty3 ty4 ty5 ty9 ty21 ty22 ty23 ty25 ty27 ty28 ty29 ty31 ty33 ty43 ty45 ty46 ty48 ty54 ty57 ty59 ty60 ty62 ty73 ty75 ty91 ty96 ty98 ty101 ty104 ty120 ty125 ty129 ty146 ty166 ty207 ty220 ty237 lv27 lv91 lv104 lv120 zb4 leS leT fits AS.mvs encStr_eq aIdx_str EStr_dec decStrs decStrs0 EStr_enc EStr_n encInt_eq aIdx_int EInt_dec decInts decInts0 EInt_enc EInt_n AllV_Int len_Int lc_enc l0_enc asl_enc ag_enc aow_enc ABool_enc AInt_enc AStr_enc AU8_enc ABool_dec AInt_dec AStr_dec AU8_dec asl_dec ag_dec aow_dec bind_some pr2.eq_1 l0_nil lc_cons unT.eq_1 K0.eq_1 M0.eq_1 KI AllV_Str len_Str ctR_eq ctM_eq ro_kd ro_ro mu_kd mu_mu encAd_eq aIdx_Ad EAd_dec decAds decAds0 EAd_enc EAd_n len_Ad Ad_eta AllV_Ad encRc_eq aIdx_Rc ERc_dec decRcs decRcs0 ERc_enc ERc_n len_Rc Rc_eta AllV_Rc encIm_eq aIdx_Im EIm_dec decIms decIms0 EIm_enc EIm_n len_Im Im_eta mkIm.eq_1 owIm_eq AIm_enc AIm_dec encSp_eq aIdx_Sp ESp_dec decSps decSps0 ESp_enc ESp_n len_Sp Sp_eta mkSp.eq_1 owSp_eq ASp_enc ASp_dec encWy_eq aIdx_Wy EWy_dec decWys decWys0 EWy_enc EWy_n len_Wy Wy_eta AllV_Wy encCf_eq aIdx_Cf ECf_dec decCfs decCfs0 ECf_enc ECf_n len_Cf Cf_eta mkCf.eq_1 owCf_eq ACf_enc ACf_dec encGm_eq aIdx_Gm EGm_dec decGms decGms0 EGm_enc EGm_n len_Gm Gm_eta mkGm.eq_1 owGm_eq AGm_enc AGm_dec encBx_eq aIdx_Bx EBx_dec decBxs decBxs0 EBx_enc EBx_n len_Bx Bx_eta mkBx.eq_1 owBx_eq ABx_enc ABx_dec encLs_eq aIdx_Ls ELs_dec decLss decLss0 ELs_enc ELs_n len_Ls Ls_eta AllV_Ls encHs_eq aIdx_Hs EHs_dec decHss decHss0 EHs_enc EHs_n len_Hs Hs_eta mkHs.eq_1 owHs_eq AHs_enc AHs_dec encWd_eq aIdx_Wd EWd_dec decWds decWds0 EWd_enc EWd_n len_Wd Wd_eta mkWd.eq_1 owWd_eq AWd_enc AWd_dec
theorem uT {p : Prop} (h : p) : T.v (Value.bool true) = T.v (Value.bool (bOf p)) := by rw [bOf_y h]
theorem uF {p : Prop} (h : ¬ p) : T.v (Value.bool false) = T.v (Value.bool (bOf p)) := by rw [bOf_n h]
theorem uE {p q : Prop} (h : p ↔ q) : T.v (Value.bool (bOf p)) = T.v (Value.bool (bOf q)) := by rw [bOf_congr h]
theorem uN {p q : Prop} (h : ¬ p ↔ q) : T.v (Value.bool (!bOf p)) = T.v (Value.bool (bOf q)) := by rw [bOf_not, bOf_congr h]
theorem uB {b : Bool} {q : Prop} (h : b = true ↔ q) : T.v (Value.bool b) = T.v (Value.bool (bOf q)) := by
  cases b
  · exact uF (fun q => by have := h.2 q; simp at this)
  · exact uT (h.1 rfl)
theorem uD {p q : Prop} [Decidable p] (h : p ↔ q) : T.v (Value.bool (decide p)) = T.v (Value.bool (bOf q)) := by rw [← bOf_d, bOf_congr h]
def cmpS (a b : ByteArray) : Int := Lib.compareBytes (bl a) (bl b)
theorem cmp_lt : ∀ a b : List UInt8, (Lib.compareBytes a b < 0) ↔ Op.bytesLess a b = true
  | [], [] => by simp [Lib.compareBytes, Op.bytesLess]
  | [], _ :: _ => by simp [Lib.compareBytes, Op.bytesLess]
  | _ :: _, [] => by simp [Lib.compareBytes, Op.bytesLess]
  | a :: x, b :: y => by
    have ih := cmp_lt x y
    simp only [Lib.compareBytes, Op.bytesLess, Bool.or_eq_true, Bool.and_eq_true, decide_eq_true_eq, beq_iff_eq]
    by_cases h1 : a < b
    · simp [h1]
    · by_cases h2 : b < a
      · have h3 : ¬ a = b := fun e => by subst e; exact absurd h2 (UInt8.lt_irrefl _)
        simp [h1, h2, h3]
      · have h3 : a = b := UInt8.le_antisymm (UInt8.not_lt.1 h2) (UInt8.not_lt.1 h1)
        have hir := UInt8.lt_irrefl b
        simp only [h3, hir, if_false, false_or, true_and]
        exact ih
theorem cmp_0 : ∀ a b : List UInt8, (Lib.compareBytes a b = 0) ↔ a = b
  | [], [] => by simp [Lib.compareBytes]
  | [], _ :: _ => by simp [Lib.compareBytes]
  | _ :: _, [] => by simp [Lib.compareBytes]
  | a :: x, b :: y => by
    have ih := cmp_0 x y
    simp only [Lib.compareBytes, List.cons.injEq]
    by_cases h1 : a < b
    · have h3 : ¬ a = b := fun e => by subst e; exact absurd h1 (UInt8.lt_irrefl _)
      simp [h1, h3]
    · by_cases h2 : b < a
      · have h3 : ¬ a = b := fun e => by subst e; exact absurd h2 (UInt8.lt_irrefl _)
        simp [h1, h2, h3]
      · have h3 : a = b := UInt8.le_antisymm (UInt8.not_lt.1 h2) (UInt8.not_lt.1 h1)
        simp only [h3, true_and]
        rw [if_neg (UInt8.lt_irrefl b), if_neg (UInt8.lt_irrefl b)]
        exact ih
theorem cmpS_lt (a b : ByteArray) : cmpS a b < 0 ↔ strLt a b = true := by
  unfold cmpS strLt
  rw [cmp_lt, toList_bl, toList_bl]
theorem cmpS_0 (a b : ByteArray) : cmpS a b = 0 ↔ a = b := by
  unfold cmpS
  rw [cmp_0]
  exact ⟨bl_inj, fun e => by rw [e]⟩
theorem cmpS_range : ∀ a b : List UInt8, -1 ≤ Lib.compareBytes a b ∧ Lib.compareBytes a b ≤ 1
  | [], [] => by simp [Lib.compareBytes]
  | [], _ :: _ => by simp [Lib.compareBytes]
  | _ :: _, [] => by simp [Lib.compareBytes]
  | a :: x, b :: y => by
    have ih := cmpS_range x y
    simp only [Lib.compareBytes]
    split
    · omega
    · split
      · omega
      · exact ih
def adLt (a b : Ad) : Prop := strLt a.domain b.domain = true ∨ (a.domain = b.domain ∧ strLt a.user b.user = true)
def byD (a b : Ad) : Int := if cmpS a.domain b.domain = 0 then cmpS a.user b.user else cmpS a.domain b.domain
theorem byD_lt (a b : Ad) : byD a b < 0 ↔ adLt a b := by
  unfold byD adLt
  by_cases h : cmpS a.domain b.domain = 0
  · rw [if_pos h, cmpS_lt]
    have h2 : ¬ strLt a.domain b.domain = true := fun q => by have := (cmpS_lt _ _).2 q; omega
    exact ⟨fun q => .inr ⟨(cmpS_0 _ _).1 h, q⟩, fun q => q.elim (fun q => absurd q h2) fun q => q.2⟩
  · rw [if_neg h, cmpS_lt]
    exact ⟨.inl, fun q => q.elim id fun q => absurd ((cmpS_0 _ _).2 q.1) h⟩
def orI : List Int → Int
  | [] => 0
  | x :: r => if x = 0 then orI r else x
theorem decI2 {x y : Int} : EInt.decL [[.v (.int .i64 x)], [.v (.int .i64 y)]] = some [x, y] := EInt.decL_map [x, y]
theorem orI_step {xs : List Int} {i : Nat} (h : i < xs.length) : orI (xs.drop i) = if xs.getD i default = 0 then orI (xs.drop (i + 1)) else xs.getD i default := by
  rw [getD_drop h]; rfl
def c183 : Ct := ctR (lc AStr (lc AStr l0)) (fun _ => True) (fun p => .t (.v (.int .i64 (cmpS p.1 p.2.1))))
theorem good183 (m : Int) : GoodX Tryz.prog m 183 c183 := GoodX.of (r := fun (p : ByteArray × ByteArray × Unit) => .int .i64 (cmpS p.1 p.2.1)) (fun _ => trivial) fun p _ => by
  obtain ⟨s, c, ⟨⟩⟩ := p
  intro w pr vs hgl hv
  have := two_args hv
  subst this
  have he : Extern.find Tryz.f183 = some Extern.BytealgCompare.compare := by kernel_rfl
  rw [run_callFunc_extern (fn := Tryz.f183) (by kernel_rfl) (by kernel_rfl) rfl (by kernel_rfl) he]
  have h := Lib.run_compareString (P := Tryz.prog) s c w
  rw [show ([Value.string s, Value.string c].toArray) = #[.string s, .string c] from rfl, h]
  rfl
def CfOk (c : Cf) : Prop := (∀ s ∈ c.own, Dom s) ∧ (∀ w ∈ c.ways, Dom w.ends ∧ Dom w.to) ∧ Dom c.name ∧ (c.own.length : Int) ≤ 3 ∧ (c.ways.length : Int) ≤ 4
def c165 : Ct := ctR (lc AStr (lc AStr l0)) (fun p => True) (fun p => .t (.v (.int .i64 (cmpS p.1 p.2.1))))
section
attribute [local go_sem] c183
theorem good165 {G : Gt} (hG : OkG G) (hh : G.e 183 = roEnt 3 c183) : Gd G 165 (roEnt 0 c165) := by
  refine gR (dp := fun _ => true) (fn := Tryz.f165) (n := 2) (fun _ => rfl) (by kernel_rfl) rfl (by kernel_rfl) hG (Nat.le_of_ble_eq_true rfl) (by kernel_rfl) (by decide) (fun _ _ => .v _) ?_
  rintro ⟨a, b, ⟨⟩⟩ hpre
  simp -implicitDefEqProofs only [Tryz.f165, go_sem, hh] at hpre ⊢
  repeat' (first | with_reducible apply And.intro | with_reducible intro _ | ((first | apply brB_split | apply aPickB_split | apply gB_split | apply adB_split) <;> intro hb <;> simp -implicitDefEqProofs only [hb, go_sem, hh] <;> try simp only [qz] at hb))
  all_goals first | rfl | omega | trace_state
end
def c143 : Ct := ctR (lc AStr (lc AStr l0)) (fun p => True) (fun p => .t (.v (.int .i64 (cmpS p.1 p.2.1))))
section
attribute [local go_sem] c165
theorem good143 {G : Gt} (hG : OkG G) (hh : G.e 165 = roEnt 0 c165) : Gd G 143 (roEnt 0 c143) := by
  refine gR (dp := fun _ => true) (fn := Tryz.f143) (n := 2) (fun _ => rfl) (by kernel_rfl) rfl (by kernel_rfl) hG (Nat.le_of_ble_eq_true rfl) (by kernel_rfl) (by decide) (fun _ _ => .v _) ?_
  rintro ⟨a, b, ⟨⟩⟩ hpre
  simp -implicitDefEqProofs only [Tryz.f143, go_sem, hh] at hpre ⊢
  repeat' (first | with_reducible apply And.intro | with_reducible intro _ | ((first | apply brB_split | apply aPickB_split | apply gB_split | apply adB_split) <;> intro hb <;> simp -implicitDefEqProofs only [hb, go_sem, hh] <;> try simp only [qz] at hb))
  all_goals first | rfl | omega | trace_state
end
def c142 : Ct := ctR (lc EInt.asl l0) (fun p => True) (fun p => .t (.v (.int .i64 (orI p.1))))
section
attribute [local go_sem] List.length_map
theorem good142 {G : Gt} (hG : OkG G) : Gd G 142 (roEnt 0 c142) := by
  refine gR (dp := fun _ => true) (fn := Tryz.f142) (n := 1) (fun _ => rfl) (by kernel_rfl) rfl (by kernel_rfl) hG (Nat.le_of_ble_eq_true rfl) (by kernel_rfl) (by decide) (fun _ _ => .v _) ?_
  rintro ⟨xs, ⟨⟩⟩ hpre
  simp -implicitDefEqProofs only [Tryz.f142, go_sem] at hpre ⊢
  repeat' (first | with_reducible apply And.intro | with_reducible intro _ | ((first | apply brB_split | apply aPickB_split | apply gB_split | apply adB_split) <;> intro hb <;> simp -implicitDefEqProofs only [hb, go_sem] <;> try simp only [qz] at hb))
  all_goals first | rfl | omega | skip
  refine run_loop [] (ι := {i : Nat // i ≤ xs.length ∧ orI xs = orI (xs.drop i)}) (fun p => ⟨[(3, .t (.v (.int .i64 0))), (6, .t (.sl 1 (xs.map encInt))), (7, .t (.v (.int .i64 xs.length))), (8, .t (.v (.int .i64 p.1)))], []⟩) (fun p => xs.length - p.1) ⟨0, by simp, rfl⟩ rfl ?_ ?_
  · simp -implicitDefEqProofs only [go_sem]
    simp
  · rintro ⟨i, hi, hor⟩
    by_cases hlt : (i : Int) < xs.length
    · have hs := orI_step (xs := xs) (i := i) (by omega)
      simp -implicitDefEqProofs only [hlt, decide_true, Int.toNat_natCast, go_sem]
      repeat' (first | with_reducible apply And.intro | with_reducible intro _ | ((first | apply brB_split | apply aPickB_split | apply gB_split | apply adB_split) <;> intro hb <;> simp -implicitDefEqProofs only [hb, go_sem] <;> try simp only [qz] at hb))
      all_goals (try simp only [maxLen] at *)
      all_goals first | rfl | omega | skip
      · rw [hor, hs, if_neg (by assumption)]
      · refine ⟨⟨i + 1, by omega, by rw [hor, hs, if_pos (by simpa using hb)]⟩, by dsimp only; omega, ?_⟩
        simp -implicitDefEqProofs only [go_sem]
        simp
    · simp -implicitDefEqProofs only [hlt, decide_false, go_sem]
      repeat' (first | with_reducible apply And.intro | with_reducible intro _ | ((first | apply brB_split | apply aPickB_split | apply gB_split | apply adB_split) <;> intro hb <;> simp -implicitDefEqProofs only [hb, go_sem] <;> try simp only [qz] at hb))
      all_goals first | rfl | omega | skip
      rw [hor, List.drop_eq_nil_of_le (by omega)]
      rfl
end
def c100 : Ct := ctR (lc EAd.ag (lc EAd.ag l0)) (fun p => True) (fun p => .t (.v (.int .i64 (byD p.1 p.2.1))))
section
attribute [local go_sem] c143 c142 decI2
theorem good100 {G : Gt} (hG : OkG G) (hh : G.e 143 = roEnt 0 c143 ∧ G.e 142 = roEnt 0 c142) : Gd G 100 (roEnt 0 c100) := by
  refine gR (dp := fun _ => true) (fn := Tryz.f100) (n := 2) (fun _ => rfl) (by kernel_rfl) rfl (by kernel_rfl) hG (Nat.le_of_ble_eq_true rfl) (by kernel_rfl) (by decide) (fun _ _ => .v _) ?_
  rintro ⟨a, b, ⟨⟩⟩ hpre
  simp -implicitDefEqProofs only [Tryz.f100, go_sem, hh] at hpre ⊢
  repeat' (first | with_reducible apply And.intro | with_reducible intro _ | ((first | apply brB_split | apply aPickB_split | apply gB_split | apply adB_split) <;> intro hb <;> simp -implicitDefEqProofs only [hb, go_sem, hh] <;> try simp only [qz] at hb))
  all_goals first | rfl | omega | skip
  all_goals
    refine congrArg (fun z => T.v (Value.int .i64 z)) ?_
    simp only [orI, byD]
    by_cases h : cmpS a.domain b.domain = 0
    · rw [if_pos h, if_pos h]
      by_cases h2 : cmpS a.user b.user = 0
      · rw [if_pos h2, h2]
      · rw [if_neg h2]
    · rw [if_neg h, if_neg h]
end
def c138 : Ct := ctR (lc EAd.ag (lc EAd.ag l0)) (fun p => True) (fun p => .t (.v (.bool (bOf (adLt p.1 p.2.1)))))
theorem good138 {G : Gt} (hG : OkG G) : Gd G 138 (roEnt 0 c138) := by
  refine gR (dp := fun _ => true) (fn := Tryz.f138) (n := 2) (fun _ => rfl) (by kernel_rfl) rfl (by kernel_rfl) hG (Nat.le_of_ble_eq_true rfl) (by kernel_rfl) (by decide) (fun _ _ => .v _) ?_
  rintro ⟨a, b, ⟨⟩⟩ hpre
  simp -implicitDefEqProofs only [Tryz.f138, go_sem] at hpre ⊢
  repeat' (first | with_reducible apply And.intro | with_reducible intro _ | ((first | apply brB_split | apply aPickB_split | apply gB_split | apply adB_split) <;> intro hb <;> simp -implicitDefEqProofs only [hb, go_sem] <;> try simp only [qz] at hb))
  all_goals first | rfl | omega | skip
  all_goals first
    | exact uT (.inl (by assumption))
    | exact uB ⟨fun q => .inr ⟨by assumption, q⟩, fun q => q.elim (fun q => by simp_all) fun q => q.2⟩
    | exact uF (fun q => q.elim (fun q => by simp_all) fun q => by simp_all)
    | trace_state
def BxOk (b : Bx) : Prop := (∀ g ∈ b.mails, (AdOk g.frm ∨ AdNull g.frm) ∧ BdOk g.body) ∧ AdOk b.addr
def BxAt (h : Hs) (j : Nat) : Prop := BxOk (h.boxes.getD j default) ∧ (0 < j → adLt (h.boxes.getD (j - 1) default).addr (h.boxes.getD j default).addr) ∧ (h.boxes.getD j default).addr.domain ∈ h.conf.own
def HsOk (h : Hs) : Prop := (∀ j, j < h.boxes.length → BxAt h j) ∧ CfOk h.conf ∧ SpOk h.spool
theorem bx_step {P : Nat → Prop} {i : Nat} (h : ∀ j, j < i → P j) (hi : P i) : ∀ j, j < i + 1 → P j := fun j hj => by
  by_cases e : j = i
  · rw [e]; exact hi
  · exact h j (by omega)
theorem not_mem {xs : List ByteArray} {a : ByteArray} (h : ∀ j, j < xs.length → ¬ xs.getD j default = a) : ¬ a ∈ xs := fun hm => by
  obtain ⟨j, hj, e⟩ := List.getElem_of_mem hm
  exact h j hj (by simp [hj, e])
def c48 : Ct := ctR (lc ECf.ag l0) (fun p => True) (fun p => .t (.v (.bool (bOf (CfOk p.1)))))
section
attribute [local go_sem] c93 bOf_t bOf_f List.length_map
set_option maxHeartbeats 1600000 in
theorem good48 {G : Gt} (hG : OkG G) (hh : G.e 93 = roEnt 0 c93) : Gd G 48 (roEnt 0 c48) := by
  refine gR (dp := fun _ => true) (fn := Tryz.f48) (n := 1) (fun _ => rfl) (by kernel_rfl) rfl (by kernel_rfl) hG (Nat.le_of_ble_eq_true rfl) (by kernel_rfl) (by decide) (fun _ _ => .v _) ?_
  rintro ⟨c, ⟨⟩⟩ hpre
  simp -implicitDefEqProofs only [Tryz.f48, go_sem, hh] at hpre ⊢
  refine run_loop [] (ι := {i : Nat // i ≤ c.own.length ∧ ∀ j, j < i → Dom (c.own.getD j default)}) (fun p => ⟨[(1, .pb 1001 0), (3, .t (.v (.int .i64 p.1)))], [(1001, some (.box ((encCf c).map .t)))]⟩) (fun p => c.own.length - p.1) ⟨0, by simp, by simp⟩ rfl ?_ ?_
  · simp -implicitDefEqProofs only [go_sem, hh]
    simp
  · rintro ⟨i, hi, hall⟩
    by_cases hlt : (i : Int) < c.own.length
    · simp -implicitDefEqProofs only [hlt, decide_true, Int.toNat_natCast, go_sem, hh]
      repeat' (first | with_reducible apply And.intro | with_reducible intro _ | ((first | apply brB_split | apply aPickB_split | apply gB_split | apply adB_split) <;> intro hb <;> simp -implicitDefEqProofs only [hb, go_sem, hh] <;> try simp only [qz] at hb))
      all_goals (try simp only [maxLen] at *)
      all_goals first | rfl | omega | skip
      · exact uF (fun h => hb (h.1 _ (getD_mem (by omega))))
      · refine ⟨⟨i + 1, by omega, bx_step hall hb⟩, by dsimp only; omega, ?_⟩
        simp -implicitDefEqProofs only [go_sem, hh]
        simp
    · have hA : ∀ s ∈ c.own, Dom s := mem_getD fun j hj => hall j (by omega)
      simp -implicitDefEqProofs only [hlt, decide_false, go_sem, hh]
      repeat' (first | with_reducible apply And.intro | with_reducible intro _ | ((first | apply brB_split | apply aPickB_split | apply gB_split | apply adB_split) <;> intro hb <;> simp -implicitDefEqProofs only [hb, go_sem, hh] <;> try simp only [qz] at hb))
      all_goals first | rfl | omega | skip
      refine run_loop [] (ι := {i : Nat // i ≤ c.ways.length ∧ ∀ j, j < i → Dom (c.ways.getD j default).ends ∧ Dom (c.ways.getD j default).to}) (fun p => ⟨[(1, .pb 1001 0), (4, .t (.v (.int .i64 p.1)))], [(1001, some (.box ((encCf c).map .t)))]⟩) (fun p => c.ways.length - p.1) ⟨0, by simp, by simp⟩ rfl ?_ ?_
      · simp -implicitDefEqProofs only [go_sem, hh]
        simp
      · rintro ⟨k, hk, hall2⟩
        by_cases hlt2 : (k : Int) < c.ways.length
        · simp -implicitDefEqProofs only [hlt2, decide_true, Int.toNat_natCast, go_sem, hh]
          repeat' (first | with_reducible apply And.intro | with_reducible intro _ | ((first | apply brB_split | apply aPickB_split | apply gB_split | apply adB_split) <;> intro hb <;> simp -implicitDefEqProofs only [hb, go_sem, hh] <;> try simp only [qz] at hb))
          all_goals (try simp only [maxLen] at *)
          all_goals first
            | rfl
            | omega
            | exact uF (fun h => hb (h.2.1 _ (getD_mem (by omega))).1)
            | exact uF (fun h => hb (h.2.1 _ (getD_mem (by omega))).2)
            | skip
          refine ⟨⟨k + 1, by omega, bx_step (P := fun j => Dom (c.ways.getD j default).ends ∧ Dom (c.ways.getD j default).to) hall2 ⟨by assumption, by assumption⟩⟩, by dsimp only; omega, ?_⟩
          simp -implicitDefEqProofs only [go_sem, hh]
          simp
        · have hB : ∀ w ∈ c.ways, Dom w.ends ∧ Dom w.to := mem_getD fun j hj => hall2 j (by omega)
          simp -implicitDefEqProofs only [hlt2, decide_false, go_sem, hh]
          repeat' (first | with_reducible apply And.intro | with_reducible intro _ | ((first | apply brB_split | apply aPickB_split | apply gB_split | apply adB_split) <;> intro hb <;> simp -implicitDefEqProofs only [hb, go_sem, hh] <;> try simp only [qz] at hb))
          all_goals first
            | rfl
            | omega
            | exact uD ⟨fun q => ⟨hA, hB, by assumption, by omega, q⟩, fun q => q.2.2.2.2⟩
            | exact uF (fun q => absurd q.2.2.1 (by assumption))
            | exact uF (fun q => by have h1 := q.2.2.2.1; have h2 := q.2.2.2.2; omega)
            | trace_state
end
def c139 : Ct := ctR (lc ECf.ag (lc EAd.ag l0)) (fun p => True) (fun p => .t (.v (.bool (bOf (p.2.1.domain ∈ p.1.own)))))
section
attribute [local go_sem] List.length_map
theorem good139 {G : Gt} (hG : OkG G) : Gd G 139 (roEnt 0 c139) := by
  refine gR (dp := fun _ => true) (fn := Tryz.f139) (n := 2) (fun _ => rfl) (by kernel_rfl) rfl (by kernel_rfl) hG (Nat.le_of_ble_eq_true rfl) (by kernel_rfl) (by decide) (fun _ _ => .v _) ?_
  rintro ⟨c, a, ⟨⟩⟩ hpre
  simp -implicitDefEqProofs only [Tryz.f139, go_sem] at hpre ⊢
  refine run_loop [] (ι := {i : Nat // i ≤ c.own.length ∧ ∀ j, j < i → ¬ c.own.getD j default = a.domain}) (fun p => ⟨[(2, .pb 1002 0), (3, .pb 1003 0), (5, .t (.v (.int .i64 p.1)))], [(1002, some (.box ((encCf c).map .t))), (1003, some (.box ((encAd a).map .t)))]⟩) (fun p => c.own.length - p.1) ⟨0, by simp, by simp⟩ rfl ?_ ?_
  · simp -implicitDefEqProofs only [go_sem]
    simp
  · rintro ⟨i, hi, hall⟩
    by_cases hlt : (i : Int) < c.own.length
    · simp -implicitDefEqProofs only [hlt, decide_true, Int.toNat_natCast, go_sem]
      repeat' (first | with_reducible apply And.intro | with_reducible intro _ | ((first | apply brB_split | apply aPickB_split | apply gB_split | apply adB_split) <;> intro hb <;> simp -implicitDefEqProofs only [hb, go_sem] <;> try simp only [qz] at hb))
      all_goals (try simp only [maxLen] at *)
      all_goals first | rfl | omega | skip
      · exact uT (by rw [← hb]; exact getD_mem (by omega))
      · refine ⟨⟨i + 1, by omega, bx_step hall hb⟩, by dsimp only; omega, ?_⟩
        simp -implicitDefEqProofs only [go_sem]
        simp
    · simp -implicitDefEqProofs only [hlt, decide_false, go_sem]
      repeat' (first | with_reducible apply And.intro | with_reducible intro _ | ((first | apply brB_split | apply aPickB_split | apply gB_split | apply adB_split) <;> intro hb <;> simp -implicitDefEqProofs only [hb, go_sem] <;> try simp only [qz] at hb))
      all_goals first | rfl | omega | skip
      exact uF (not_mem fun j hj => hall j (by omega))
end
def c137 : Ct := ctR (lc EBx.ag l0) (fun p => True) (fun p => .t (.v (.bool (bOf (BxOk p.1)))))
section
attribute [local go_sem] c122 c74 c72 bOf_t bOf_f List.length_map
set_option maxHeartbeats 1600000 in
theorem good137 {G : Gt} (hG : OkG G) (hh : G.e 122 = roEnt 0 c122 ∧ G.e 74 = roEnt 0 c74 ∧ G.e 72 = roEnt 0 c72) : Gd G 137 (roEnt 0 c137) := by
  refine gR (dp := fun _ => true) (fn := Tryz.f137) (n := 1) (fun _ => rfl) (by kernel_rfl) rfl (by kernel_rfl) hG (Nat.le_of_ble_eq_true rfl) (by kernel_rfl) (by decide) (fun _ _ => .v _) ?_
  rintro ⟨b, ⟨⟩⟩ hpre
  simp -implicitDefEqProofs only [Tryz.f137, go_sem, hh] at hpre ⊢
  refine run_loop [] (ι := {i : Nat // i ≤ b.mails.length ∧ ∀ j, j < i → (AdOk (b.mails.getD j default).frm ∨ AdNull (b.mails.getD j default).frm) ∧ BdOk (b.mails.getD j default).body}) (fun p => ⟨[(1, .pb 1001 0), (3, .t (.v (.int .i64 p.1)))], [(1001, some (.box ((encBx b).map .t)))]⟩) (fun p => b.mails.length - p.1) ⟨0, by simp, by simp⟩ rfl ?_ ?_
  · simp -implicitDefEqProofs only [go_sem, hh]
    simp
  · rintro ⟨i, hi, hall⟩
    by_cases hlt : (i : Int) < b.mails.length
    · simp -implicitDefEqProofs only [hlt, decide_true, Int.toNat_natCast, go_sem, hh]
      repeat' (first | with_reducible apply And.intro | with_reducible intro _ | ((first | apply brB_split | apply aPickB_split | apply gB_split | apply adB_split) <;> intro hb <;> simp -implicitDefEqProofs only [hb, go_sem, hh] <;> try simp only [qz] at hb))
      all_goals (try simp only [maxLen, Int.toNat_natCast] at *)
      all_goals first
        | rfl
        | omega
        | exact uF (fun h => absurd (h.1 (b.mails.getD i default) (getD_mem (by omega))).2 (by assumption))
        | exact uF (fun h => (h.1 (b.mails.getD i default) (getD_mem (by omega))).1.elim (fun q => absurd q (by assumption)) fun q => absurd q (by assumption))
        | skip
      all_goals
        refine ⟨⟨i + 1, by omega, bx_step (P := fun j => (AdOk (b.mails.getD j default).frm ∨ AdNull (b.mails.getD j default).frm) ∧ BdOk (b.mails.getD j default).body) hall ⟨by first | exact .inl (by assumption) | exact .inr (by assumption), by assumption⟩⟩, by dsimp only; omega, ?_⟩
        simp -implicitDefEqProofs only [go_sem, hh]
        simp
    · have hA : ∀ g ∈ b.mails, (AdOk g.frm ∨ AdNull g.frm) ∧ BdOk g.body := mem_getD (P := fun g : Gm => (AdOk g.frm ∨ AdNull g.frm) ∧ BdOk g.body) fun j hj => hall j (by omega)
      simp -implicitDefEqProofs only [hlt, decide_false, go_sem, hh]
      repeat' (first | with_reducible apply And.intro | with_reducible intro _ | ((first | apply brB_split | apply aPickB_split | apply gB_split | apply adB_split) <;> intro hb <;> simp -implicitDefEqProofs only [hb, go_sem, hh] <;> try simp only [qz] at hb))
      all_goals first | rfl | omega | exact uE ⟨fun q => ⟨hA, q⟩, fun q => q.2⟩ | trace_state
end
def c94 : Ct := ctR (lc EHs.ag l0) (fun p => True) (fun p => .t (.v (.bool (bOf (HsOk p.1)))))
section
attribute [local go_sem] c137 c138 c139 c48 c30 bOf_t bOf_f List.length_map
set_option maxHeartbeats 6400000 in
theorem good94 {G : Gt} (hG : OkG G) (hh : G.e 137 = roEnt 0 c137 ∧ G.e 138 = roEnt 0 c138 ∧ G.e 139 = roEnt 0 c139 ∧ G.e 48 = roEnt 0 c48 ∧ G.e 30 = roEnt 0 c30) : Gd G 94 (roEnt 0 c94) := by
  refine gR (dp := fun _ => true) (fn := Tryz.f94) (n := 1) (fun _ => rfl) (by kernel_rfl) rfl (by kernel_rfl) hG (Nat.le_of_ble_eq_true rfl) (by kernel_rfl) (by decide) (fun _ _ => .v _) ?_
  rintro ⟨h, ⟨⟩⟩ hpre
  simp -implicitDefEqProofs only [Tryz.f94, go_sem, hh] at hpre ⊢
  refine run_loop [] (ι := {i : Nat // i ≤ h.boxes.length ∧ ∀ j, j < i → BxAt h j}) (fun p => ⟨[(1, .pb 1001 0), (3, .t (.v (.int .i64 p.1)))], [(1001, some (.box ((encHs h).map .t)))]⟩) (fun p => h.boxes.length - p.1) ⟨0, by simp, by simp⟩ rfl ?_ ?_
  · simp -implicitDefEqProofs only [go_sem, hh]
    simp
  · rintro ⟨i, hi, hall⟩
    by_cases hlt : (i : Int) < h.boxes.length
    · simp -implicitDefEqProofs only [hlt, decide_true, Int.toNat_natCast, go_sem, hh]
      repeat' (first | with_reducible apply And.intro | with_reducible intro _ | ((first | apply brB_split | apply aPickB_split | apply gB_split | apply adB_split) <;> intro hb <;> simp -implicitDefEqProofs only [hb, go_sem, hh] <;> try simp only [qz] at hb))
      all_goals (try simp only [maxLen, Int.toNat_natCast] at *)
      all_goals have hnat : ((i : Int) - 1).toNat = i - 1 := by omega
      all_goals first
        | rfl
        | omega
        | exact uF (fun q => absurd (q.1 i (by omega)).1 (by assumption))
        | exact uF (fun q => absurd (q.1 i (by omega)).2.2 (by assumption))
        | exact uF (fun q => absurd ((q.1 i (by omega)).2.1 (by omega)) (by rw [← hnat]; assumption))
        | skip
      all_goals
        refine ⟨⟨i + 1, by omega, bx_step hall ⟨by assumption, fun _ => by first | (rw [← hnat]; assumption) | (exfalso; omega), by assumption⟩⟩, by dsimp only; omega, ?_⟩
        simp -implicitDefEqProofs only [go_sem, hh]
        simp
    · simp -implicitDefEqProofs only [hlt, decide_false, go_sem, hh]
      repeat' (first | with_reducible apply And.intro | with_reducible intro _ | ((first | apply brB_split | apply aPickB_split | apply gB_split | apply adB_split) <;> intro hb <;> simp -implicitDefEqProofs only [hb, go_sem, hh] <;> try simp only [qz] at hb))
      all_goals first
        | rfl
        | omega
        | exact uE ⟨fun q => ⟨fun j hj => hall j (by omega), by assumption, q⟩, fun q => q.2.2⟩
        | exact uF (fun q => absurd q.2.1 (by assumption))
        | trace_state
end
inductive FGm where
  | bad
def FGm.enc : FGm → AV
  | .bad  => .t (.fn 97 [])
def FGm.dec : AV → Option FGm
  | .t (.fn 97 []) => some (.bad )
  | _ => none
def FGm.sem : FGm → Gm → Prop
  | .bad , x => ¬ ((AdOk x.frm ∨ AdNull x.frm) ∧ BdOk x.body)
def FGm.pre : FGm → Gm → Prop
  | .bad , x => x.frm.domain.size ≤ 2000000 ∧ ∀ s ∈ x.body, s.size ≤ 2000000
def AFGm : AD FGm where
  enc := FGm.enc
  dec := FGm.dec
  ed := fun f => by cases f <;> rfl
  de := fun x f h => by
    unfold FGm.dec at h
    split at h <;> cases h <;> rfl
theorem AFGm_d0  : AFGm.dec (.t (.fn 97 [])) = some (.bad ) := rfl
theorem AFGm_e0  : AFGm.enc (.bad ) = .t (.fn 97 []) := rfl
def c97 : Ct := ctR (lc EGm.ag l0) (fun p => p.1.frm.domain.size ≤ 2000000 ∧ ∀ s ∈ p.1.body, s.size ≤ 2000000) (fun p => .t (.v (.bool (bOf (¬ ((AdOk p.1.frm ∨ AdNull p.1.frm) ∧ BdOk p.1.body))))))
section
attribute [local go_sem] c80 c82 ap_enc ap_dec AFn0_dec AFn0_enc Bool.not_true Bool.not_false ty146 lv27
theorem good97 {G : Gt} (hG : OkG G) (hh : G.e 80 = roEnt 0 c80 ∧ G.e 82 = roEnt 0 c82) : Gd G 97 (roEnt 0 c97) := by
  refine gR (dp := fun _ => true) (fn := Tryz.f97) (n := 1) (fun _ => rfl) (by kernel_rfl) rfl (by kernel_rfl) hG (Nat.le_of_ble_eq_true rfl) (by kernel_rfl) (by decide) (fun _ _ => .v _) ?_
  rintro ⟨x, ⟨⟩⟩ hpre
  simp -implicitDefEqProofs only [Tryz.f97, go_sem, hh] at hpre ⊢
  repeat' (first | with_reducible apply And.intro | with_reducible intro _ | ((first | apply brB_split | apply aPickB_split | apply gB_split | apply adB_split) <;> intro hb <;> simp -implicitDefEqProofs only [hb, go_sem, hh] <;> try simp only [qz] at hb))
  all_goals first | rfl | omega | exact hpre.1 | exact hpre.2 | exact hpre.2 _ (by assumption) | skip
  all_goals first
    | exact uT (fun h => absurd h.1 (by assumption))
    | exact uN ⟨fun h q => h q.2, fun h q => h ⟨by assumption, q⟩⟩
    | trace_state
end
def c141 : Ct := ctR (lc EGm.asl (lc AFGm l0)) (fun p => ∀ x ∈ p.1, p.2.1.pre x) (fun p => .t (.v (.int .i64 (ixP p.2.1.sem 0 p.1))))
section
attribute [local go_sem] c97 ap_enc ap_dec AFn0_dec AFn0_enc Bool.not_true Bool.not_false ty146 lv27 AFGm_d0 AFGm_e0
theorem good141 {G : Gt} (hG : OkG G) (hh : G.e 97 = roEnt 0 c97) : Gd G 141 (roEnt 0 c141) := by
  refine gR (dp := fun _ => true) (fn := Tryz.f141) (n := 2) (fun _ => rfl) (by kernel_rfl) rfl (by kernel_rfl) hG (Nat.le_of_ble_eq_true rfl) (by kernel_rfl) (by decide) (fun _ _ => .v _) ?_
  rintro ⟨xs, f, ⟨⟩⟩ hpre
  have hs := hpre
  dsimp only at hs ⊢
  cases f with
  | bad  =>
    simp -implicitDefEqProofs only [Tryz.f141, go_sem, hh]
    repeat' (first | with_reducible apply And.intro | with_reducible intro _ | ((first | apply brB_split | apply aPickB_split | apply gB_split | apply adB_split) <;> intro hb <;> simp -implicitDefEqProofs only [hb, go_sem, hh] <;> try simp only [qz] at hb))
    all_goals first | rfl | omega | skip
    refine run_loop [] (ι := {i : Nat // i ≤ xs.length ∧ ixP (FGm.sem (.bad )) 0 xs = ixP (FGm.sem (.bad )) i (xs.drop i)}) (fun p => ⟨[(0, .t (.sl 3 (xs.map encGm))), (1, .t (.fn 97 [])), (7, .t (.v (.int .i64 xs.length))), (8, .t (.v (.int .i64 p.1)))], []⟩) (fun p => xs.length - p.1) ⟨0, Nat.zero_le _, rfl⟩ rfl ?_ ?_
    · simp -implicitDefEqProofs only [go_sem, hh]
      try simp
    · rintro ⟨i, hi, hix⟩
      by_cases hlt : (i : Int) < xs.length
      · have hm : xs.getD (i : Int).toNat default ∈ xs := getD_mem (by omega)
        have hsz := hs _ hm
        cases hb : bOf (¬ ((AdOk (xs.getD (i : Int).toNat default).frm ∨ AdNull (xs.getD (i : Int).toNat default).frm) ∧ BdOk (xs.getD (i : Int).toNat default).body))
        · have hq := hb
          simp -implicitDefEqProofs only [hlt, hq, go_sem, hh]
          repeat' (first | with_reducible apply And.intro | with_reducible intro _ | ((first | apply brB_split | apply aPickB_split | apply gB_split | apply adB_split) <;> intro hb <;> simp -implicitDefEqProofs only [hb, go_sem, hh] <;> try simp only [qz] at hb))
          all_goals (try simp only [maxLen] at *)
          all_goals first | rfl | omega | with_reducible assumption | exact hsz | exact hsz.1 | exact hsz.2 | exact hsz.2 _ (by assumption) | exact hsz.2.1 | exact hsz.2.2.1 | exact hsz.2.2.2 | trivial | skip
          rw [bOf_f, Int.toNat_natCast] at hb
          refine ⟨⟨i + 1, by omega, ?_⟩, by dsimp only; omega, ?_⟩
          · rw [hix, ixP_no (p := FGm.sem (.bad )) (by omega) hb]
          · simp -implicitDefEqProofs only [go_sem, hh]
            try simp
        · have hq := hb
          simp -implicitDefEqProofs only [hlt, hq, go_sem, hh]
          repeat' (first | with_reducible apply And.intro | with_reducible intro _ | ((first | apply brB_split | apply aPickB_split | apply gB_split | apply adB_split) <;> intro hb <;> simp -implicitDefEqProofs only [hb, go_sem, hh] <;> try simp only [qz] at hb))
          all_goals (try simp only [maxLen] at *)
          all_goals first | rfl | omega | with_reducible assumption | exact hsz | exact hsz.1 | exact hsz.2 | exact hsz.2 _ (by assumption) | exact hsz.2.1 | exact hsz.2.2.1 | exact hsz.2.2.2 | trivial | skip
          rw [bOf_t, Int.toNat_natCast] at hb
          rw [hix, ixP_yes (p := FGm.sem (.bad )) (by omega) hb]
      · simp -implicitDefEqProofs only [hlt, go_sem, hh]
        repeat' (first | with_reducible apply And.intro | with_reducible intro _ | ((first | apply brB_split | apply aPickB_split | apply gB_split | apply adB_split) <;> intro hb <;> simp -implicitDefEqProofs only [hb, go_sem, hh] <;> try simp only [qz] at hb))
        all_goals first | rfl | omega | skip
        all_goals (rw [hix, ixP_end (by omega)])
end
def c99 : Ct := ctR (lc EGm.asl (lc AFGm l0)) (fun p => ∀ x ∈ p.1, p.2.1.pre x) (fun p => .t (.v (.bool (bOf (∃ x ∈ p.1, p.2.1.sem x)))))
section
attribute [local go_sem] c141 ap_enc ap_dec AFn0_dec AFn0_enc Bool.not_true Bool.not_false ty146 lv27 AFGm_d0 AFGm_e0
theorem good99 {G : Gt} (hG : OkG G) (hh : G.e 141 = roEnt 0 c141) : Gd G 99 (roEnt 0 c99) := by
  refine gR (dp := fun _ => true) (fn := Tryz.f99) (n := 2) (fun _ => rfl) (by kernel_rfl) rfl (by kernel_rfl) hG (Nat.le_of_ble_eq_true rfl) (by kernel_rfl) (by decide) (fun _ _ => .v _) ?_
  rintro ⟨xs, f, ⟨⟩⟩ hpre
  dsimp only at hpre ⊢
  cases f
  all_goals
    simp -implicitDefEqProofs only [Tryz.f99, go_sem, hh]
    repeat' (first | with_reducible apply And.intro | with_reducible intro _ | ((first | apply brB_split | apply aPickB_split | apply gB_split | apply adB_split) <;> intro hb <;> simp -implicitDefEqProofs only [hb, go_sem, hh] <;> try simp only [qz] at hb))
    all_goals first | rfl | omega | exact hpre | exact hpre _ (by assumption) | skip
    all_goals (rw [← bOf_congr (ixP_iff _ 0)]; rw [bOf_d])
end
inductive FWy where
  | way
def FWy.enc : FWy → AV
  | .way  => .t (.fn 133 [])
def FWy.dec : AV → Option FWy
  | .t (.fn 133 []) => some (.way )
  | _ => none
def FWy.sem : FWy → Wy → Prop
  | .way , x => ¬ (Dom x.ends ∧ Dom x.to)
def FWy.pre : FWy → Wy → Prop
  | .way , x => x.ends.size ≤ 2000000 ∧ x.to.size ≤ 2000000
def AFWy : AD FWy where
  enc := FWy.enc
  dec := FWy.dec
  ed := fun f => by cases f <;> rfl
  de := fun x f h => by
    unfold FWy.dec at h
    split at h <;> cases h <;> rfl
theorem AFWy_d0  : AFWy.dec (.t (.fn 133 [])) = some (.way ) := rfl
theorem AFWy_e0  : AFWy.enc (.way ) = .t (.fn 133 []) := rfl
def c133 : Ct := ctR (lc EWy.ag l0) (fun p => p.1.ends.size ≤ 2000000 ∧ p.1.to.size ≤ 2000000) (fun p => .t (.v (.bool (bOf (¬ (Dom p.1.ends ∧ Dom p.1.to))))))
section
attribute [local go_sem] c84 ap_enc ap_dec AFn0_dec AFn0_enc Bool.not_true Bool.not_false ty146 lv27
theorem good133 {G : Gt} (hG : OkG G) (hh : G.e 84 = roEnt 0 c84) : Gd G 133 (roEnt 0 c133) := by
  refine gR (dp := fun _ => true) (fn := Tryz.f133) (n := 1) (fun _ => rfl) (by kernel_rfl) rfl (by kernel_rfl) hG (Nat.le_of_ble_eq_true rfl) (by kernel_rfl) (by decide) (fun _ _ => .v _) ?_
  rintro ⟨x, ⟨⟩⟩ hpre
  simp -implicitDefEqProofs only [Tryz.f133, go_sem, hh] at hpre ⊢
  repeat' (first | with_reducible apply And.intro | with_reducible intro _ | ((first | apply brB_split | apply aPickB_split | apply gB_split | apply adB_split) <;> intro hb <;> simp -implicitDefEqProofs only [hb, go_sem, hh] <;> try simp only [qz] at hb))
  all_goals first | rfl | omega | exact hpre.1 | exact hpre.2 | exact hpre.2 _ (by assumption) | skip
  all_goals first
    | exact uT (fun h => absurd h.1 (by assumption))
    | exact uN ⟨fun h q => h q.2, fun h q => h ⟨by assumption, q⟩⟩
    | trace_state
end
def c163 : Ct := ctR (lc EWy.asl (lc AFWy l0)) (fun p => ∀ x ∈ p.1, p.2.1.pre x) (fun p => .t (.v (.int .i64 (ixP p.2.1.sem 0 p.1))))
section
attribute [local go_sem] c133 ap_enc ap_dec AFn0_dec AFn0_enc Bool.not_true Bool.not_false ty146 lv27 AFWy_d0 AFWy_e0
theorem good163 {G : Gt} (hG : OkG G) (hh : G.e 133 = roEnt 0 c133) : Gd G 163 (roEnt 0 c163) := by
  refine gR (dp := fun _ => true) (fn := Tryz.f163) (n := 2) (fun _ => rfl) (by kernel_rfl) rfl (by kernel_rfl) hG (Nat.le_of_ble_eq_true rfl) (by kernel_rfl) (by decide) (fun _ _ => .v _) ?_
  rintro ⟨xs, f, ⟨⟩⟩ hpre
  have hs := hpre
  dsimp only at hs ⊢
  cases f with
  | way  =>
    simp -implicitDefEqProofs only [Tryz.f163, go_sem, hh]
    repeat' (first | with_reducible apply And.intro | with_reducible intro _ | ((first | apply brB_split | apply aPickB_split | apply gB_split | apply adB_split) <;> intro hb <;> simp -implicitDefEqProofs only [hb, go_sem, hh] <;> try simp only [qz] at hb))
    all_goals first | rfl | omega | skip
    refine run_loop [] (ι := {i : Nat // i ≤ xs.length ∧ ixP (FWy.sem (.way )) 0 xs = ixP (FWy.sem (.way )) i (xs.drop i)}) (fun p => ⟨[(0, .t (.sl 2 (xs.map encWy))), (1, .t (.fn 133 [])), (7, .t (.v (.int .i64 xs.length))), (8, .t (.v (.int .i64 p.1)))], []⟩) (fun p => xs.length - p.1) ⟨0, Nat.zero_le _, rfl⟩ rfl ?_ ?_
    · simp -implicitDefEqProofs only [go_sem, hh]
      try simp
    · rintro ⟨i, hi, hix⟩
      by_cases hlt : (i : Int) < xs.length
      · have hm : xs.getD (i : Int).toNat default ∈ xs := getD_mem (by omega)
        have hsz := hs _ hm
        cases hb : bOf (¬ (Dom (xs.getD (i : Int).toNat default).ends ∧ Dom (xs.getD (i : Int).toNat default).to))
        · have hq := hb
          simp -implicitDefEqProofs only [hlt, hq, go_sem, hh]
          repeat' (first | with_reducible apply And.intro | with_reducible intro _ | ((first | apply brB_split | apply aPickB_split | apply gB_split | apply adB_split) <;> intro hb <;> simp -implicitDefEqProofs only [hb, go_sem, hh] <;> try simp only [qz] at hb))
          all_goals (try simp only [maxLen] at *)
          all_goals first | rfl | omega | with_reducible assumption | exact hsz | exact hsz.1 | exact hsz.2 | exact hsz.2 _ (by assumption) | exact hsz.2.1 | exact hsz.2.2.1 | exact hsz.2.2.2 | trivial | skip
          rw [bOf_f, Int.toNat_natCast] at hb
          refine ⟨⟨i + 1, by omega, ?_⟩, by dsimp only; omega, ?_⟩
          · rw [hix, ixP_no (p := FWy.sem (.way )) (by omega) hb]
          · simp -implicitDefEqProofs only [go_sem, hh]
            try simp
        · have hq := hb
          simp -implicitDefEqProofs only [hlt, hq, go_sem, hh]
          repeat' (first | with_reducible apply And.intro | with_reducible intro _ | ((first | apply brB_split | apply aPickB_split | apply gB_split | apply adB_split) <;> intro hb <;> simp -implicitDefEqProofs only [hb, go_sem, hh] <;> try simp only [qz] at hb))
          all_goals (try simp only [maxLen] at *)
          all_goals first | rfl | omega | with_reducible assumption | exact hsz | exact hsz.1 | exact hsz.2 | exact hsz.2 _ (by assumption) | exact hsz.2.1 | exact hsz.2.2.1 | exact hsz.2.2.2 | trivial | skip
          rw [bOf_t, Int.toNat_natCast] at hb
          rw [hix, ixP_yes (p := FWy.sem (.way )) (by omega) hb]
      · simp -implicitDefEqProofs only [hlt, go_sem, hh]
        repeat' (first | with_reducible apply And.intro | with_reducible intro _ | ((first | apply brB_split | apply aPickB_split | apply gB_split | apply adB_split) <;> intro hb <;> simp -implicitDefEqProofs only [hb, go_sem, hh] <;> try simp only [qz] at hb))
        all_goals first | rfl | omega | skip
        all_goals (rw [hix, ixP_end (by omega)])
end
def c134 : Ct := ctR (lc EWy.asl (lc AFWy l0)) (fun p => ∀ x ∈ p.1, p.2.1.pre x) (fun p => .t (.v (.bool (bOf (∃ x ∈ p.1, p.2.1.sem x)))))
section
attribute [local go_sem] c163 ap_enc ap_dec AFn0_dec AFn0_enc Bool.not_true Bool.not_false ty146 lv27 AFWy_d0 AFWy_e0
theorem good134 {G : Gt} (hG : OkG G) (hh : G.e 163 = roEnt 0 c163) : Gd G 134 (roEnt 0 c134) := by
  refine gR (dp := fun _ => true) (fn := Tryz.f134) (n := 2) (fun _ => rfl) (by kernel_rfl) rfl (by kernel_rfl) hG (Nat.le_of_ble_eq_true rfl) (by kernel_rfl) (by decide) (fun _ _ => .v _) ?_
  rintro ⟨xs, f, ⟨⟩⟩ hpre
  dsimp only at hpre ⊢
  cases f
  all_goals
    simp -implicitDefEqProofs only [Tryz.f134, go_sem, hh]
    repeat' (first | with_reducible apply And.intro | with_reducible intro _ | ((first | apply brB_split | apply aPickB_split | apply gB_split | apply adB_split) <;> intro hb <;> simp -implicitDefEqProofs only [hb, go_sem, hh] <;> try simp only [qz] at hb))
    all_goals first | rfl | omega | exact hpre | exact hpre _ (by assumption) | skip
    all_goals (rw [← bOf_congr (ixP_iff _ 0)]; rw [bOf_d])
end
def c164 : Ct := ctR (lc EStr.asl (lc AStr l0)) (fun p => True) (fun p => .t (.v (.int .i64 (ixP (fun s : ByteArray => s = p.2.1) 0 p.1))))
section
attribute [local go_sem] List.length_map
theorem good164 {G : Gt} (hG : OkG G) : Gd G 164 (roEnt 0 c164) := by
  refine gR (dp := fun _ => true) (fn := Tryz.f164) (n := 2) (fun _ => rfl) (by kernel_rfl) rfl (by kernel_rfl) hG (Nat.le_of_ble_eq_true rfl) (by kernel_rfl) (by decide) (fun _ _ => .v _) ?_
  rintro ⟨xs, a, ⟨⟩⟩ hpre
  simp -implicitDefEqProofs only [Tryz.f164, go_sem] at hpre ⊢
  repeat' (first | with_reducible apply And.intro | with_reducible intro _ | ((first | apply brB_split | apply aPickB_split | apply gB_split | apply adB_split) <;> intro hb <;> simp -implicitDefEqProofs only [hb, go_sem] <;> try simp only [qz] at hb))
  all_goals first | rfl | omega | skip
  refine run_loop [] (ι := {i : Nat // i ≤ xs.length ∧ ixP (fun s : ByteArray => s = a) 0 xs = ixP (fun s : ByteArray => s = a) i (xs.drop i)}) (fun p => ⟨[(0, .t (.sl 1 (xs.map encStr))), (1, .t (.v (.string a))), (7, .t (.v (.int .i64 xs.length))), (8, .t (.v (.int .i64 p.1)))], []⟩) (fun p => xs.length - p.1) ⟨0, by simp, rfl⟩ rfl ?_ ?_
  · simp -implicitDefEqProofs only [go_sem]
    simp
  · rintro ⟨i, hi, hix⟩
    by_cases hlt : (i : Int) < xs.length
    · simp -implicitDefEqProofs only [hlt, decide_true, Int.toNat_natCast, go_sem]
      repeat' (first | with_reducible apply And.intro | with_reducible intro _ | ((first | apply brB_split | apply aPickB_split | apply gB_split | apply adB_split) <;> intro hb <;> simp -implicitDefEqProofs only [hb, go_sem] <;> try simp only [qz] at hb))
      all_goals (try simp only [maxLen] at *)
      all_goals first | rfl | omega | skip
      · rw [hix, ixP_yes (p := fun s : ByteArray => s = a) (by omega) hb.symm]
      · refine ⟨⟨i + 1, by omega, by rw [hix, ixP_no (p := fun s : ByteArray => s = a) (by omega) (fun e => hb e.symm)]⟩, by dsimp only; omega, ?_⟩
        simp -implicitDefEqProofs only [go_sem]
        simp
    · simp -implicitDefEqProofs only [hlt, decide_false, go_sem]
      repeat' (first | with_reducible apply And.intro | with_reducible intro _ | ((first | apply brB_split | apply aPickB_split | apply gB_split | apply adB_split) <;> intro hb <;> simp -implicitDefEqProofs only [hb, go_sem] <;> try simp only [qz] at hb))
      all_goals first | rfl | omega | skip
      rw [hix, ixP_end (by omega)]
end
def c140 : Ct := ctR (lc EStr.asl (lc AStr l0)) (fun p => True) (fun p => .t (.v (.bool (bOf (p.2.1 ∈ p.1)))))
section
attribute [local go_sem] c164
theorem good140 {G : Gt} (hG : OkG G) (hh : G.e 164 = roEnt 0 c164) : Gd G 140 (roEnt 0 c140) := by
  refine gR (dp := fun _ => true) (fn := Tryz.f140) (n := 2) (fun _ => rfl) (by kernel_rfl) rfl (by kernel_rfl) hG (Nat.le_of_ble_eq_true rfl) (by kernel_rfl) (by decide) (fun _ _ => .v _) ?_
  rintro ⟨xs, a, ⟨⟩⟩ hpre
  simp -implicitDefEqProofs only [Tryz.f140, go_sem, hh] at hpre ⊢
  repeat' (first | with_reducible apply And.intro | with_reducible intro _ | ((first | apply brB_split | apply aPickB_split | apply gB_split | apply adB_split) <;> intro hb <;> simp -implicitDefEqProofs only [hb, go_sem, hh] <;> try simp only [qz] at hb))
  all_goals first | rfl | omega | skip
  refine uD ?_
  rw [ge_iff_le, ixP_iff]
  exact ⟨fun ⟨x, hx, e⟩ => e ▸ hx, fun h => ⟨a, h, rfl⟩⟩
end
def c98 : Ct := ctR (lc ECf.ag (lc AStr l0)) (fun p => True) (fun p => .t (.v (.bool (bOf (p.2.1 ∈ p.1.own)))))
section
attribute [local go_sem] c140
theorem good98 {G : Gt} (hG : OkG G) (hh : G.e 140 = roEnt 0 c140) : Gd G 98 (roEnt 0 c98) := by
  refine gR (dp := fun _ => true) (fn := Tryz.f98) (n := 2) (fun _ => rfl) (by kernel_rfl) rfl (by kernel_rfl) hG (Nat.le_of_ble_eq_true rfl) (by kernel_rfl) (by decide) (fun _ _ => .v _) ?_
  rintro ⟨c, a, ⟨⟩⟩ hpre
  simp -implicitDefEqProofs only [Tryz.f98, go_sem, hh] at hpre ⊢
  repeat' (first | with_reducible apply And.intro | with_reducible intro _ | ((first | apply brB_split | apply aPickB_split | apply gB_split | apply adB_split) <;> intro hb <;> simp -implicitDefEqProofs only [hb, go_sem, hh] <;> try simp only [qz] at hb))
  all_goals first | rfl | omega | trace_state
end
def c89 : Ct := ctR (lc ECf.ag l0) (fun p => OkCf p.1) (fun p => .t (.v (.bool (bOf (CfOk p.1)))))
section
attribute [local go_sem] c84 c126 c134 ap_enc ap_dec AFn0_dec AFn0_enc Bool.not_true Bool.not_false ty146 lv27 AFGm_d0 AFGm_e0 AFWy_d0 AFWy_e0 AFStr_d0 AFStr_e0 AFStr_d1 AFStr_e1 bOf_t bOf_f List.length_map
set_option maxHeartbeats 1600000 in
theorem good89 {G : Gt} (hG : OkG G) (hh : G.e 84 = roEnt 0 c84 ∧ G.e 126 = roEnt 0 c126 ∧ G.e 134 = roEnt 0 c134) : Gd G 89 (roEnt 0 c89) := by
  refine gR (dp := fun _ => true) (fn := Tryz.f89) (n := 1) (fun _ => rfl) (by kernel_rfl) rfl (by kernel_rfl) hG (Nat.le_of_ble_eq_true rfl) (by kernel_rfl) (by decide) (fun _ _ => .v _) ?_
  rintro ⟨c, ⟨⟩⟩ hpre
  simp -implicitDefEqProofs only [Tryz.f89, go_sem, hh] at hpre ⊢
  obtain ⟨z1, ⟨l1, z2⟩, ⟨l2, z3⟩⟩ := hpre
  have y1 : c.name.size ≤ 2000000 := by have : c.name.size ≤ 1048576 := z1; omega
  have y2 : ∀ x ∈ c.own, FStr.pre .dom x := fun x hx => by have : x.size ≤ 1048576 := z2 x hx; show x.size ≤ 2000000; omega
  have y3 : ∀ x ∈ c.ways, FWy.pre .way x := fun x hx => by
    have h1 : x.ends.size ≤ 1048576 := (z3 x hx).1
    have h2 : x.to.size ≤ 1048576 := (z3 x hx).2
    exact ⟨by omega, by omega⟩
  have e1 : (¬ ∃ x ∈ c.own, FStr.sem .dom x) ↔ ∀ s ∈ c.own, Dom s := ⟨fun h s hs => Classical.byContradiction fun q => h ⟨s, hs, q⟩, fun h ⟨s, hs, q⟩ => q (h s hs)⟩
  have e2 : (¬ ∃ x ∈ c.ways, FWy.sem .way x) ↔ ∀ w ∈ c.ways, Dom w.ends ∧ Dom w.to := ⟨fun h s hs => Classical.byContradiction fun q => h ⟨s, hs, q⟩, fun h ⟨s, hs, q⟩ => q (h s hs)⟩
  repeat' (first | with_reducible apply And.intro | with_reducible intro _ | ((first | apply brB_split | apply aPickB_split | apply gB_split | apply adB_split) <;> intro hb <;> simp -implicitDefEqProofs only [hb, go_sem, hh] <;> try simp only [qz] at hb))
  all_goals first | rfl | omega | assumption | exact y2 _ (by assumption) | exact y3 _ (by assumption) | skip
  all_goals first
    | exact uN (e2.trans ⟨fun q => ⟨e1.1 (by assumption), q, by assumption, by omega, by omega⟩, fun q => q.2.1⟩)
    | exact uF (fun q => absurd q.2.2.1 (by assumption))
    | exact uF (fun q => by have h1 := q.2.2.2.1; have h2 := q.2.2.2.2; omega)
    | exact uF (fun q => absurd hb (e1.2 q.1))
    | trace_state
end
def c51 : Ct := ctR (lc EHs.ag l0) (fun p => OkHs p.1) (fun p => .t (.v (.bool (bOf (HsOk p.1)))))
section
attribute [local go_sem] c89 c10 c37 c98 c99 c100 ap_enc ap_dec AFn0_dec AFn0_enc Bool.not_true Bool.not_false ty146 lv27 AFGm_d0 AFGm_e0 AFWy_d0 AFWy_e0 AFStr_d0 AFStr_e0 AFStr_d1 AFStr_e1 bOf_t bOf_f List.length_map
set_option maxHeartbeats 6400000 in
theorem good51 {G : Gt} (hG : OkG G) (hh : G.e 89 = roEnt 0 c89 ∧ G.e 10 = roEnt 0 c10 ∧ G.e 37 = roEnt 0 c37 ∧ G.e 98 = roEnt 0 c98 ∧ G.e 99 = roEnt 0 c99 ∧ G.e 100 = roEnt 0 c100) : Gd G 51 (roEnt 0 c51) := by
  refine gR (dp := fun _ => true) (fn := Tryz.f51) (n := 1) (fun _ => rfl) (by kernel_rfl) rfl (by kernel_rfl) hG (Nat.le_of_ble_eq_true rfl) (by kernel_rfl) (by decide) (fun _ _ => .v _) ?_
  rintro ⟨h, ⟨⟩⟩ hpre
  simp -implicitDefEqProofs only [Tryz.f51, go_sem, hh] at hpre ⊢
  obtain ⟨zc, zs, ⟨lb, zb⟩, zl⟩ := hpre
  have e1 : ∀ j, j < h.boxes.length → ((∃ x ∈ (h.boxes.getD j default).mails, FGm.sem .bad x) ↔ ¬ ∀ g ∈ (h.boxes.getD j default).mails, (AdOk g.frm ∨ AdNull g.frm) ∧ BdOk g.body) := fun j _ => ⟨fun ⟨s, hs, q⟩ f => q (f s hs), fun f => Classical.byContradiction fun q => f fun s hs => Classical.byContradiction fun r => q ⟨s, hs, r⟩⟩
  repeat' (first | with_reducible apply And.intro | with_reducible intro _ | ((first | apply brB_split | apply aPickB_split | apply gB_split | apply adB_split) <;> intro hb <;> simp -implicitDefEqProofs only [hb, go_sem, hh] <;> try simp only [qz] at hb))
  all_goals first
    | rfl
    | omega
    | assumption
    | exact uF (fun q => absurd q.2.1 (by assumption))
    | exact uF (fun q => absurd q.2.2 (by assumption))
    | skip
  all_goals
    refine run_loop [] (ι := {i : Nat // i ≤ h.boxes.length ∧ ∀ j, j < i → BxAt h j}) (fun p => ⟨[(1, .pb 1001 0), (3, .fn 97 []), (17, .t (.sl 3 (h.boxes.map encBx))), (18, .t (.v (.int .i64 h.boxes.length))), (19, .t (.v (.int .i64 p.1)))], [(1001, some (.box ((encHs h).map .t)))]⟩) (fun p => h.boxes.length - p.1) ⟨0, by simp, by simp⟩ rfl ?_ ?_
    · simp -implicitDefEqProofs only [go_sem, hh]
      simp
    · rintro ⟨i, hi, hall⟩
      by_cases hlt : (i : Int) < h.boxes.length
      · have hbx := zb _ (getD_mem (xs := h.boxes) (j := i) (by omega))
        obtain ⟨za, zm⟩ := hbx
        have y1 : (h.boxes.getD i default).addr.domain.size ≤ 2000000 := by have : (h.boxes.getD i default).addr.domain.size ≤ 1048576 := za.2; omega
        have y2 : ∀ x ∈ (h.boxes.getD i default).mails, FGm.pre .bad x := fun x hx => by
          obtain ⟨⟨_, g1⟩, ⟨_, g2⟩⟩ := zm.2 x hx
          refine ⟨by have : x.frm.domain.size ≤ 1048576 := g1; omega, fun s hs => ?_⟩
          have : s.size ≤ 1048576 := g2 s hs
          omega
        have e2 := e1 i (by omega)
        simp -implicitDefEqProofs only [hlt, decide_true, Int.toNat_natCast, go_sem, hh]
        repeat' (first | with_reducible apply And.intro | with_reducible intro _ | ((first | apply brB_split | apply aPickB_split | apply gB_split | apply adB_split) <;> intro hb <;> simp -implicitDefEqProofs only [hb, go_sem, hh] <;> try simp only [qz] at hb))
        all_goals (try simp only [maxLen, Int.toNat_natCast] at *)
        all_goals have hnat : ((i : Int) - 1).toNat = i - 1 := by omega
        all_goals first
          | rfl
          | omega
          | assumption
          | exact y2 _ (by assumption)
          | exact uF (fun q => absurd (q.1 i (by omega)).1.2 (by assumption))
          | exact uF (fun q => absurd (q.1 i (by omega)).2.2 (by assumption))
          | exact uF (fun q => absurd hb (fun f => e2.1 f (q.1 i (by omega)).1.1))
          | exact uF (fun q => by have h9 := (byD_lt _ _).2 ((q.1 i (by omega)).2.1 (by omega)); rw [← hnat] at h9; omega)
          | skip
        all_goals
          refine ⟨⟨i + 1, by omega, bx_step hall ⟨⟨Classical.byContradiction fun f => absurd (e2.2 f) (by assumption), by assumption⟩, fun _ => by first | (exact (byD_lt _ _).1 (by rw [← hnat]; omega)) | (exfalso; omega), by assumption⟩⟩, by dsimp only; omega, ?_⟩
          simp -implicitDefEqProofs only [go_sem, hh]
          simp
      · simp -implicitDefEqProofs only [hlt, decide_false, go_sem, hh]
        repeat' (first | with_reducible apply And.intro | with_reducible intro _ | ((first | apply brB_split | apply aPickB_split | apply gB_split | apply adB_split) <;> intro hb <;> simp -implicitDefEqProofs only [hb, go_sem, hh] <;> try simp only [qz] at hb))
        all_goals first | rfl | omega | exact uT ⟨fun j hj => hall j (by omega), by assumption, by assumption⟩ | trace_state
end
def pId : ByteArray := ⟨#[73, 100, 58, 32]⟩
def MkLine (s : ByteArray) : Prop := 4 < s.size ∧ s.extract 0 4 = pId
noncomputable def mkOf : List ByteArray → ByteArray
  | [] => ⟨#[]⟩
  | x :: r => bif bOf (MkLine x) then x else mkOf r
theorem mkOf_yes {xs : List ByteArray} {i : Nat} (h : i < xs.length) (ha : MkLine (xs.getD i default)) : mkOf (xs.drop i) = xs.getD i default := by
  rw [getD_drop h, mkOf, bOf_y ha]; rfl
theorem mkOf_no {xs : List ByteArray} {i : Nat} (h : i < xs.length) (ha : ¬ MkLine (xs.getD i default)) : mkOf (xs.drop i) = mkOf (xs.drop (i + 1)) := by
  rw [getD_drop h, mkOf, bOf_n ha]; rfl
theorem mkOf_end {xs : List ByteArray} {i : Nat} (h : xs.length ≤ i) : mkOf (xs.drop i) = ⟨#[]⟩ := by
  rw [List.drop_eq_nil_of_le h, mkOf]
theorem mk_pre (s : ByteArray) : (Pre s pId ∧ ¬ s = pId) ↔ MkLine s := by
  unfold Pre MkLine
  have h4 : pId.size = 4 := rfl
  rw [h4]
  constructor
  · rintro ⟨⟨h1, h2⟩, h3⟩
    refine ⟨?_, h2⟩
    by_cases e : s.size = 4
    · exfalso
      apply h3
      rw [← h2, ← e]
      exact (ByteArray.extract_zero_size).symm
    · omega
  · rintro ⟨h1, h2⟩
    exact ⟨⟨by omega, h2⟩, fun e => by rw [e] at h1; have : pId.size = 4 := rfl; omega⟩
def c95 : Ct := ctR (lc EStr.asl l0) (fun p => True) (fun p => .t (.v (.string (mkOf p.1))))
section
attribute [local go_sem] List.length_map
theorem good95 {G : Gt} (hG : OkG G) : Gd G 95 (roEnt 0 c95) := by
  refine gR (dp := fun _ => true) (fn := Tryz.f95) (n := 1) (fun _ => rfl) (by kernel_rfl) rfl (by kernel_rfl) hG (Nat.le_of_ble_eq_true rfl) (by kernel_rfl) (by decide) (fun _ _ => .v _) ?_
  rintro ⟨xs, ⟨⟩⟩ hpre
  simp -implicitDefEqProofs only [Tryz.f95, go_sem] at hpre ⊢
  refine run_loop [] (ι := {i : Nat // i ≤ xs.length ∧ mkOf xs = mkOf (xs.drop i)}) (fun p => ⟨[(0, .t (.sl 1 (xs.map encStr))), (3, .t (.v (.int .i64 p.1)))], []⟩) (fun p => xs.length - p.1) ⟨0, by simp, rfl⟩ rfl ?_ ?_
  · simp -implicitDefEqProofs only [go_sem]
    simp
  · rintro ⟨i, hi, hix⟩
    by_cases hlt : (i : Int) < xs.length
    · simp -implicitDefEqProofs only [hlt, decide_true, Int.toNat_natCast, go_sem]
      repeat' (first | with_reducible apply And.intro | with_reducible intro _ | ((first | apply brB_split | apply aPickB_split | apply gB_split | apply adB_split) <;> intro hb <;> simp -implicitDefEqProofs only [hb, go_sem] <;> try simp only [qz] at hb))
      all_goals (try simp only [maxLen, Int.toNat_natCast] at *)
      all_goals first
        | rfl
        | omega
        | (rw [hix, mkOf_yes (by omega) ⟨by omega, by assumption⟩]; done)
        | skip
      all_goals
        refine ⟨⟨i + 1, by omega, by rw [hix, mkOf_no (by omega) (fun h => by first | exact absurd h.2 (by assumption) | (have := h.1; omega))]⟩, by dsimp only; omega, ?_⟩
        simp -implicitDefEqProofs only [go_sem]
        simp
    · simp -implicitDefEqProofs only [hlt, decide_false, go_sem]
      repeat' (first | with_reducible apply And.intro | with_reducible intro _ | ((first | apply brB_split | apply aPickB_split | apply gB_split | apply adB_split) <;> intro hb <;> simp -implicitDefEqProofs only [hb, go_sem] <;> try simp only [qz] at hb))
      all_goals first | rfl | omega | skip
      rw [hix, mkOf_end (by omega)]
end
def c101 : Ct := ctR (lc EStr.asl l0) (fun p => ∀ s ∈ p.1, s.size ≤ 2000000) (fun p => .t (.v (.string (mkOf p.1))))
section
attribute [local go_sem] c144 List.length_map bOf_t bOf_f
theorem good101 {G : Gt} (hG : OkG G) (hh : G.e 144 = roEnt 0 c144) : Gd G 101 (roEnt 0 c101) := by
  refine gR (dp := fun _ => true) (fn := Tryz.f101) (n := 1) (fun _ => rfl) (by kernel_rfl) rfl (by kernel_rfl) hG (Nat.le_of_ble_eq_true rfl) (by kernel_rfl) (by decide) (fun _ _ => .v _) ?_
  rintro ⟨xs, ⟨⟩⟩ hpre
  simp -implicitDefEqProofs only [Tryz.f101, go_sem, hh] at hpre ⊢
  try dsimp only at hpre
  repeat' (first | with_reducible apply And.intro | with_reducible intro _ | ((first | apply brB_split | apply aPickB_split | apply gB_split | apply adB_split) <;> intro hb <;> simp -implicitDefEqProofs only [hb, go_sem, hh] <;> try simp only [qz] at hb))
  all_goals first | rfl | omega | skip
  refine run_loop [] (ι := {i : Nat // i ≤ xs.length ∧ mkOf xs = mkOf (xs.drop i)}) (fun p => ⟨[(5, .t (.sl 1 (xs.map encStr))), (6, .t (.v (.int .i64 xs.length))), (7, .t (.v (.int .i64 p.1)))], []⟩) (fun p => xs.length - p.1) ⟨0, by simp, rfl⟩ rfl ?_ ?_
  · simp -implicitDefEqProofs only [go_sem, hh]
    simp
  · rintro ⟨i, hi, hix⟩
    by_cases hlt : (i : Int) < xs.length
    · have hm := hpre _ (getD_mem (xs := xs) (j := i) (by omega))
      simp -implicitDefEqProofs only [hlt, decide_true, Int.toNat_natCast, go_sem, hh]
      repeat' (first | with_reducible apply And.intro | with_reducible intro _ | ((first | apply brB_split | apply aPickB_split | apply gB_split | apply adB_split) <;> intro hb <;> simp -implicitDefEqProofs only [hb, go_sem, hh] <;> try simp only [qz] at hb))
      all_goals (try simp only [maxLen, Int.toNat_natCast] at *)
      all_goals first
        | rfl
        | omega
        | assumption
        | decide
        | (rw [hix, mkOf_yes (by omega) ((mk_pre _).1 ⟨by assumption, by assumption⟩)]; done)
        | skip
      all_goals
        refine ⟨⟨i + 1, by omega, by rw [hix, mkOf_no (by omega) (fun h => by have h2 := (mk_pre _).2 h; first | exact absurd h2.1 (by assumption) | exact absurd (by assumption) h2.2)]⟩, by dsimp only; omega, ?_⟩
        simp -implicitDefEqProofs only [go_sem, hh]
        simp
    · simp -implicitDefEqProofs only [hlt, decide_false, go_sem, hh]
      repeat' (first | with_reducible apply And.intro | with_reducible intro _ | ((first | apply brB_split | apply aPickB_split | apply gB_split | apply adB_split) <;> intro hb <;> simp -implicitDefEqProofs only [hb, go_sem, hh] <;> try simp only [qz] at hb))
      all_goals first | rfl | omega | skip
      rw [hix, mkOf_end (by omega)]
end
def mkW (a : ByteArray) : MK := .s a
theorem mkW_inj {a b : ByteArray} (h : mkW a = mkW b) : a = b := by
  simp only [mkW, MK.s.injEq] at h
  exact h
theorem kdW : KeyD Tryz.prog 9 (some 0) := KeyD.str u9
theorem decS1 {x : ByteArray} : EStr.decL [[.v (.string x)]] = some [x] := EStr.decL_map [x]
def disW (xs : List ByteArray) : List (MK × Bool) := xs.foldl (fun es a => upE (mkW a) true es) []
theorem disW_snoc (xs : List ByteArray) (a : ByteArray) : disW (xs ++ [a]) = upE (mkW a) true (disW xs) := by simp [disW]
theorem disW_mem (xs : List ByteArray) (a : ByteArray) : mkW a ∈ (disW xs).map Prod.fst ↔ a ∈ xs := by
  generalize hr : xs.reverse = r
  have hx : xs = r.reverse := by rw [← hr, List.reverse_reverse]
  subst hx
  clear hr
  induction r with
  | nil => simp [disW]
  | cons b r ih =>
    rw [List.reverse_cons, disW_snoc, upE_keys, List.mem_append, ← propext ih]
    by_cases h : mkW b ∈ (disW r.reverse).map Prod.fst
    · rw [if_pos h]
      constructor
      · exact .inl
      · rintro (h1 | h1)
        · exact h1
        · rw [List.mem_singleton.1 h1]; exact h
    · rw [if_neg h, List.mem_append, List.mem_singleton, List.mem_singleton]
      exact or_congr_right ⟨mkW_inj, fun e => by rw [e]⟩
theorem disW_len (xs : List ByteArray) : (disW xs).length ≤ xs.length ∧ ((disW xs).length = xs.length ↔ xs.Nodup) := by
  generalize hr : xs.reverse = r
  have hx : xs = r.reverse := by rw [← hr, List.reverse_reverse]
  subst hx
  clear hr
  induction r with
  | nil => simp [disW]
  | cons b r ih =>
    have hl : ∀ es : List (MK × Bool), es.length = (es.map Prod.fst).length := fun es => by rw [List.length_map]
    have hn : (r.reverse ++ [b]).Nodup ↔ r.reverse.Nodup ∧ b ∉ r.reverse := by
      rw [List.nodup_append]
      constructor
      · rintro ⟨h1, _, h3⟩
        exact ⟨h1, fun hb => h3 b hb b (by simp) rfl⟩
      · rintro ⟨h1, h2⟩
        refine ⟨h1, by simp, fun x hx y hy e => ?_⟩
        rw [List.mem_singleton] at hy
        subst hy; subst e; exact h2 hx
    rw [List.reverse_cons, disW_snoc, hl, upE_keys, List.length_append, hn, ← disW_mem]
    obtain ⟨i1, i2⟩ := ih
    by_cases h : mkW b ∈ (disW r.reverse).map Prod.fst
    · rw [if_pos h, ← hl]
      refine ⟨by omega, ⟨fun e => ?_, fun e => absurd h e.2⟩⟩
      simp at e i1; omega
    · rw [if_neg h, List.length_append, ← hl]
      refine ⟨by simp at *; omega, ⟨fun e => ⟨i2.1 (by simp at *; omega), h⟩, fun e => ?_⟩⟩
      have := i2.2 e.1
      simp at *; omega
theorem takeW_succ {xs : List ByteArray} {i : Nat} (h : i < xs.length) : xs.take (i + 1) = xs.take i ++ [xs.getD i default] := by
  rw [List.take_succ_eq_append_getElem h]
  simp [h]
theorem disW_take {xs : List ByteArray} {i : Nat} (h : i < xs.length) : upE (.s (xs.getD i default)) true (disW (xs.take i)) = disW (xs.take (i + 1)) := by
  rw [takeW_succ h, disW_snoc]; rfl
def LsOk (l : Ls) : Prop := ¬ l.mark = ⟨#[]⟩ ∧ mkOf [l.mark] = l.mark ∧ AdOk l.addr ∧ Lin l.mark
def hnm (h : Hs) : ByteArray := h.conf.name
def WdOk (w : Wd) : Prop := (∀ h ∈ w.hosts, HsOk h) ∧ (w.hosts.map hnm).Nodup ∧ (∀ l ∈ w.given, LsOk l) ∧ (1 ≤ (w.hosts.length : Int) ∧ (w.hosts.length : Int) ≤ 4) ∧ (0 ≤ w.now ∧ w.now ≤ 9999) ∧ (0 ≤ w.marks ∧ w.marks ≤ 60)
theorem nodup_hnm {xs : List Hs} (h : ∀ j, j < xs.length → ∀ k, k < j → ¬ (xs.getD k default).conf.name = (xs.getD j default).conf.name) : (xs.map hnm).Nodup := by
  rw [List.nodup_iff_pairwise_ne, List.pairwise_iff_getElem]
  intro k j hk hj hkj
  rw [List.length_map] at hk hj
  have := h j hj k hkj
  simpa [hk, hj, hnm] using this
theorem hnm_nodup {xs : List Hs} (h : (xs.map hnm).Nodup) {k i : Nat} (hk : k < i) (hi : i < xs.length) : ¬ (xs.getD k default).conf.name = (xs.getD i default).conf.name := fun e => by
  have q1 : k < xs.length := by omega
  simp only [List.getD_eq_getElem?_getD, List.getElem?_eq_getElem q1, List.getElem?_eq_getElem hi, Option.getD_some] at e
  exact List.pairwise_iff_getElem.1 (List.nodup_iff_pairwise_ne.1 h) k i (by simpa using q1) (by simpa using hi) hk (by simpa [hnm] using e)
theorem take_hnm {xs : List Hs} {i : Nat} (h : i < xs.length) : ((xs.map hnm).take (i + 1)).map encStr = ((xs.map hnm).take i).map encStr ++ [[.v (.string (xs.getD i default).conf.name)]] := by
  have e : (xs.map hnm).getD i default = (xs.getD i default).conf.name := by
    simp only [List.getD_eq_getElem?_getD, List.getElem?_map, List.getElem?_eq_getElem h, Option.map_some, Option.getD_some]; rfl
  rw [take_snoc_map encStr (by rw [List.length_map]; exact h), e]
  rfl
def c53 : Ct := ctR (lc EStr.asl l0) (fun p => True) (fun p => .t (.v (.bool (bOf p.1.Nodup))))
section
attribute [local go_sem] ap_enc ap_dec AFn0_dec AFn0_enc Bool.not_true Bool.not_false ty146 lv27 ty129
theorem good53 {G : Gt} (hG : OkG G) : Gd G 53 (roEnt 0 c53) := by
  refine gR (dp := fun _ => true) (fn := Tryz.f53) (n := 1) (fun _ => rfl) (by kernel_rfl) rfl (by kernel_rfl) hG (Nat.le_of_ble_eq_true rfl) (by kernel_rfl) (by decide) (fun _ _ => .v _) ?_
  rintro ⟨xs, ⟨⟩⟩ hpre
  simp -implicitDefEqProofs only [Tryz.f53, go_sem] at hpre ⊢
  repeat' (first | with_reducible apply And.intro | with_reducible intro _ | ((first | apply brB_split | apply aPickB_split | apply gB_split | apply adB_split) <;> intro hb <;> simp -implicitDefEqProofs only [hb, go_sem] <;> try simp only [qz] at hb))
  all_goals first | rfl | omega | skip
  refine run_loop [] (ι := {i : Nat // i ≤ xs.length}) (fun p => ⟨[(0, .t (.sl 1 (xs.map encStr))), (3, .h 1006), (7, .t (.sl 1 (xs.map encStr))), (8, .t (.v (.int .i64 xs.length))), (9, .t (.v (.int .i64 p.1)))], [(1006, some (.mp (some 0) (disW (xs.take p.1))))]⟩) (fun p => xs.length - p.1) ⟨0, Nat.zero_le _⟩ rfl ?_ ?_
  · simp -implicitDefEqProofs only [go_sem]
    simp
    rfl
  · rintro ⟨i, hi⟩
    by_cases hlt : (i : Int) < xs.length
    · simp -implicitDefEqProofs only [hlt, go_sem]
      repeat' (first | with_reducible apply And.intro | with_reducible intro _ | ((first | apply brB_split | apply aPickB_split | apply gB_split | apply adB_split) <;> intro hb <;> simp -implicitDefEqProofs only [hb, go_sem] <;> try simp only [qz] at hb))
      all_goals (try simp only [maxLen] at *)
      all_goals first | rfl | omega | exact kdW | skip
      refine ⟨⟨i + 1, by omega⟩, by dsimp only; omega, ?_⟩
      simp -implicitDefEqProofs only [go_sem]
      simp only [Int.toNat_natCast, disW_take (show i < xs.length by omega)]
      try simp
    · simp -implicitDefEqProofs only [hlt, go_sem]
      repeat' (first | with_reducible apply And.intro | with_reducible intro _ | ((first | apply brB_split | apply aPickB_split | apply gB_split | apply adB_split) <;> intro hb <;> simp -implicitDefEqProofs only [hb, go_sem] <;> try simp only [qz] at hb))
      all_goals first | rfl | omega | skip
      rw [List.take_of_length_le (by omega), ← bOf_congr (disW_len xs).2, bOf_d]
      refine congrArg (fun b => T.v (.bool b)) (decide_eq_decide.2 ?_)
      omega
end
open Classical in
noncomputable def mkOfB (xs : List ByteArray) : ByteArray := if BdOk xs then mkOf xs else ⟨#[]⟩
theorem mkOfB_y {xs : List ByteArray} (h : BdOk xs) : mkOfB xs = mkOf xs := if_pos h
theorem mkOfB_n {xs : List ByteArray} (h : ¬ BdOk xs) : mkOfB xs = ⟨#[]⟩ := if_neg h
theorem BdOk_1 (x : ByteArray) : BdOk [x] ↔ Lin x := by
  unfold BdOk
  constructor
  · intro h; exact h.1 x (by simp)
  · intro h
    refine ⟨fun s hs => by rw [List.mem_singleton.1 hs]; exact h, by simp⟩
theorem LsB (l : Ls) : (¬ l.mark = ⟨#[]⟩ ∧ mkOfB [l.mark] = l.mark ∧ AdOk l.addr) ↔ LsOk l := by
  unfold LsOk
  by_cases h : Lin l.mark
  · rw [mkOfB_y ((BdOk_1 _).2 h)]
    exact ⟨fun q => ⟨q.1, q.2.1, q.2.2, h⟩, fun q => ⟨q.1, q.2.1, q.2.2.1⟩⟩
  · rw [mkOfB_n (fun q => h ((BdOk_1 _).1 q))]
    exact ⟨fun q => absurd q.2.1.symm q.1, fun q => absurd q.2.2.2 h⟩
def c52 : Ct := ctR (lc EStr.asl l0) (fun p => ∀ s ∈ p.1, s.size ≤ 2000000) (fun p => .t (.v (.string (mkOfB p.1))))
section
attribute [local go_sem] c82 c101 bOf_t bOf_f
theorem good52 {G : Gt} (hG : OkG G) (hh : G.e 82 = roEnt 0 c82 ∧ G.e 101 = roEnt 0 c101) : Gd G 52 (roEnt 0 c52) := by
  refine gR (dp := fun _ => true) (fn := Tryz.f52) (n := 1) (fun _ => rfl) (by kernel_rfl) rfl (by kernel_rfl) hG (Nat.le_of_ble_eq_true rfl) (by kernel_rfl) (by decide) (fun _ _ => .v _) ?_
  rintro ⟨xs, ⟨⟩⟩ hpre
  simp -implicitDefEqProofs only [Tryz.f52, go_sem, hh] at hpre ⊢
  try dsimp only at hpre
  repeat' (first | with_reducible apply And.intro | with_reducible intro _ | ((first | apply brB_split | apply aPickB_split | apply gB_split | apply adB_split) <;> intro hb <;> simp -implicitDefEqProofs only [hb, go_sem, hh] <;> try simp only [qz] at hb))
  all_goals first | rfl | omega | exact hpre _ (by assumption) | (rw [mkOfB_y hb]; done) | (rw [mkOfB_n hb]; done) | trace_state
end
def c50 : Ct := ctR (lc EWd.ag l0) (fun p => True) (fun p => .t (.v (.bool (bOf (WdOk p.1)))))
section
attribute [local go_sem] c94 c74 c95 c96 c71 bOf_t bOf_f List.length_map decS1
set_option maxHeartbeats 6400000 in
theorem good50 {G : Gt} (hG : OkG G) (hh : G.e 94 = roEnt 0 c94 ∧ G.e 74 = roEnt 0 c74 ∧ G.e 95 = roEnt 0 c95 ∧ G.e 96 = roEnt 0 c96 ∧ G.e 71 = roEnt 0 c71) : Gd G 50 (roEnt 0 c50) := by
  refine gR (dp := fun _ => true) (fn := Tryz.f50) (n := 1) (fun _ => rfl) (by kernel_rfl) rfl (by kernel_rfl) hG (Nat.le_of_ble_eq_true rfl) (by kernel_rfl) (by decide) (fun _ _ => .v _) ?_
  rintro ⟨w, ⟨⟩⟩ hpre
  simp -implicitDefEqProofs only [Tryz.f50, go_sem, hh] at hpre ⊢
  refine run_loop [] (ι := {i : Nat // i ≤ w.hosts.length ∧ (∀ j, j < i → HsOk (w.hosts.getD j default)) ∧ ∀ j, j < i → ∀ k, k < j → ¬ (w.hosts.getD k default).conf.name = (w.hosts.getD j default).conf.name}) (fun p => ⟨[(1, .pb 1001 0), (3, .t (.v (.int .i64 p.1)))], [(1001, some (.box ((encWd w).map .t)))]⟩) (fun p => w.hosts.length - p.1) ⟨0, by simp, by simp, by simp⟩ rfl ?_ ?_
  · simp -implicitDefEqProofs only [go_sem, hh]
    simp
  · rintro ⟨i, hi, hall, hno⟩
    by_cases hlt : (i : Int) < w.hosts.length
    · simp -implicitDefEqProofs only [hlt, decide_true, Int.toNat_natCast, go_sem, hh]
      repeat' (first | with_reducible apply And.intro | with_reducible intro _ | ((first | apply brB_split | apply aPickB_split | apply gB_split | apply adB_split) <;> intro hb <;> simp -implicitDefEqProofs only [hb, go_sem, hh] <;> try simp only [qz] at hb))
      all_goals (try simp only [maxLen, Int.toNat_natCast] at *)
      all_goals first
        | rfl
        | omega
        | exact uF (fun q => absurd (q.1 (w.hosts.getD i default) (getD_mem (by omega))) (by assumption))
        | skip
      refine run_loop [] (ι := {k : Nat // k ≤ i ∧ ∀ j, j < k → ¬ (w.hosts.getD j default).conf.name = (w.hosts.getD i default).conf.name}) (fun p => ⟨[(1, .pb 1001 0), (3, .t (.v (.int .i64 i))), (4, .t (.v (.int .i64 p.1)))], [(1001, some (.box ((encWd w).map .t)))]⟩) (fun p => i - p.1) ⟨0, by simp, by simp⟩ rfl ?_ ?_
      · simp -implicitDefEqProofs only [go_sem, hh]
        simp
      · rintro ⟨k, hk, hk2⟩
        by_cases hlt2 : (k : Int) < i
        · simp -implicitDefEqProofs only [hlt2, decide_true, Int.toNat_natCast, go_sem, hh]
          repeat' (first | with_reducible apply And.intro | with_reducible intro _ | ((first | apply brB_split | apply aPickB_split | apply gB_split | apply adB_split) <;> intro hb <;> simp -implicitDefEqProofs only [hb, go_sem, hh] <;> try simp only [qz] at hb))
          all_goals (try simp only [maxLen, Int.toNat_natCast] at *)
          all_goals first
            | rfl
            | omega
            | exact uF (fun q => hnm_nodup q.2.1 (k := k) (i := i) (by omega) (by omega) (by assumption))
            | skip
          all_goals
            refine ⟨⟨k + 1, by omega, bx_step hk2 (by assumption)⟩, by dsimp only; omega, ?_⟩
            simp -implicitDefEqProofs only [go_sem, hh]
            simp
        · simp -implicitDefEqProofs only [hlt2, decide_false, go_sem, hh]
          repeat' (first | with_reducible apply And.intro | with_reducible intro _ | ((first | apply brB_split | apply aPickB_split | apply gB_split | apply adB_split) <;> intro hb <;> simp -implicitDefEqProofs only [hb, go_sem, hh] <;> try simp only [qz] at hb))
          all_goals first | rfl | omega | skip
          refine ⟨⟨i + 1, by omega, bx_step hall (by assumption), bx_step (P := fun j => ∀ k, k < j → ¬ (w.hosts.getD k default).conf.name = (w.hosts.getD j default).conf.name) hno (fun q hq => hk2 q (by omega))⟩, by dsimp only; omega, ?_⟩
          simp -implicitDefEqProofs only [go_sem, hh]
          simp
    · have hA : ∀ h ∈ w.hosts, HsOk h := mem_getD fun j hj => hall j (by omega)
      have hN : (w.hosts.map hnm).Nodup := nodup_hnm fun j hj q hq => hno j (by omega) q hq
      simp -implicitDefEqProofs only [hlt, decide_false, go_sem, hh]
      repeat' (first | with_reducible apply And.intro | with_reducible intro _ | ((first | apply brB_split | apply aPickB_split | apply gB_split | apply adB_split) <;> intro hb <;> simp -implicitDefEqProofs only [hb, go_sem, hh] <;> try simp only [qz] at hb))
      all_goals first | rfl | omega | skip
      refine run_loop [] (ι := {i : Nat // i ≤ w.given.length ∧ ∀ j, j < i → LsOk (w.given.getD j default)}) (fun p => ⟨[(1, .pb 1001 0), (5, .t (.v (.int .i64 p.1)))], [(1001, some (.box ((encWd w).map .t)))]⟩) (fun p => w.given.length - p.1) ⟨0, by simp, by simp⟩ rfl ?_ ?_
      · simp -implicitDefEqProofs only [go_sem, hh]
        simp
      · rintro ⟨k, hk, hall2⟩
        by_cases hlt2 : (k : Int) < w.given.length
        · simp -implicitDefEqProofs only [hlt2, decide_true, Int.toNat_natCast, go_sem, hh]
          repeat' (first | with_reducible apply And.intro | with_reducible intro _ | ((first | apply brB_split | apply aPickB_split | apply gB_split | apply adB_split) <;> intro hb <;> simp -implicitDefEqProofs only [hb, go_sem, hh] <;> try simp only [qz] at hb))
          all_goals (try simp only [maxLen, Int.toNat_natCast] at *)
          all_goals first
            | rfl
            | omega
            | decide
            | exact uF (fun q => absurd (q.2.2.1 (w.given.getD k default) (getD_mem (by omega))).1 (by simpa using hb))
            | exact uF (fun q => absurd (q.2.2.1 (w.given.getD k default) (getD_mem (by omega))).2.1 (by assumption))
            | exact uF (fun q => absurd (q.2.2.1 (w.given.getD k default) (getD_mem (by omega))).2.2.1 (by assumption))
            | exact uF (fun q => absurd (q.2.2.1 (w.given.getD k default) (getD_mem (by omega))).2.2.2 (by assumption))
            | skip
          all_goals
            refine ⟨⟨k + 1, by omega, bx_step hall2 ⟨by first | assumption | (simpa using hb), by assumption, by assumption, by assumption⟩⟩, by dsimp only; omega, ?_⟩
            simp -implicitDefEqProofs only [go_sem, hh]
            simp
        · have hB : ∀ l ∈ w.given, LsOk l := mem_getD fun j hj => hall2 j (by omega)
          simp -implicitDefEqProofs only [hlt2, decide_false, go_sem, hh]
          repeat' (first | with_reducible apply And.intro | with_reducible intro _ | ((first | apply brB_split | apply aPickB_split | apply gB_split | apply adB_split) <;> intro hb <;> simp -implicitDefEqProofs only [hb, go_sem, hh] <;> try simp only [qz] at hb))
          all_goals first
            | rfl
            | omega
            | exact uE ⟨fun q => ⟨hA, hN, hB, by assumption, by assumption, q⟩, fun q => q.2.2.2.2.2⟩
            | exact uF (fun q => absurd q.2.2.2.1 (by assumption))
            | exact uF (fun q => absurd q.2.2.2.2.1 (by assumption))
            | trace_state
end
def c17 : Ct := ctR (lc EWd.ag l0) (fun p => OkWd p.1) (fun p => .t (.v (.bool (bOf (WdOk p.1)))))
section
attribute [local go_sem] c51 c52 c37 c36 c53 c40 bOf_t bOf_f List.length_map decS1 List.mem_singleton forall_eq List.length_cons List.length_nil List.length_append List.nil_append Nat.zero_add Bool.not_false Bool.not_true
set_option maxHeartbeats 6400000 in
theorem good17 {G : Gt} (hG : OkG G) (hh : G.e 51 = roEnt 0 c51 ∧ G.e 52 = roEnt 0 c52 ∧ G.e 37 = roEnt 0 c37 ∧ G.e 36 = roEnt 0 c36 ∧ G.e 53 = roEnt 0 c53 ∧ G.e 40 = roEnt 0 c40) : Gd G 17 (roEnt 0 c17) := by
  refine gR (dp := fun _ => true) (fn := Tryz.f17) (n := 1) (fun _ => rfl) (by kernel_rfl) rfl (by kernel_rfl) hG (Nat.le_of_ble_eq_true rfl) (by kernel_rfl) (by decide) (fun _ _ => .v _) ?_
  rintro ⟨w, ⟨⟩⟩ hpre
  simp -implicitDefEqProofs only [Tryz.f17, go_sem, hh] at hpre ⊢
  obtain ⟨⟨lh, zh⟩, ⟨lg, zg⟩⟩ := hpre
  repeat' (first | with_reducible apply And.intro | with_reducible intro _ | ((first | apply brB_split | apply aPickB_split | apply gB_split | apply adB_split) <;> intro hb <;> simp -implicitDefEqProofs only [hb, go_sem, hh] <;> try simp only [qz] at hb))
  all_goals first | rfl | omega | skip
  refine run_loop [(3, 1903, true, 1)] (ι := {i : Nat // i ≤ w.hosts.length ∧ ∀ j, j < i → HsOk (w.hosts.getD j default)}) (fun p => ⟨[(1, .pb 1001 0), (3, .h 1903), (9, .t (.sl 7 (w.hosts.map encHs))), (10, .t (.v (.int .i64 w.hosts.length))), (11, .t (.v (.int .i64 p.1)))], [(1001, some (.box ((encWd w).map .t))), (1903, some (.arr true 1 (((w.hosts.map hnm).take p.1).map encStr)))]⟩) (fun p => w.hosts.length - p.1) ⟨0, by simp, by simp⟩ rfl ?_ ?_
  · simp -implicitDefEqProofs only [go_sem, hh]
    simp
  · rintro ⟨i, hi, hall⟩
    have hlen : ((w.hosts.map hnm).take i).length = i := by simp; omega
    by_cases hlt : (i : Int) < w.hosts.length
    · have hz := zh _ (getD_mem (xs := w.hosts) (j := i) (by omega))
      simp -implicitDefEqProofs only [hlt, decide_true, Int.toNat_natCast, go_sem, hh]
      repeat' (first | with_reducible apply And.intro | with_reducible intro _ | ((first | apply brB_split | apply aPickB_split | apply gB_split | apply adB_split) <;> intro hb <;> simp -implicitDefEqProofs only [hb, go_sem, hh] <;> try simp only [qz] at hb))
      all_goals (try simp only [maxLen, Int.toNat_natCast] at *)
      all_goals first
        | rfl
        | omega
        | assumption
        | exact uF (fun q => absurd (q.1 (w.hosts.getD i default) (getD_mem (by omega))) (by assumption))
        | skip
      refine ⟨⟨i + 1, by omega, bx_step hall hb⟩, by dsimp only; omega, ?_⟩
      simp -implicitDefEqProofs only [go_sem, hh]
      simp only [take_hnm (show i < w.hosts.length by omega)]
      repeat' (first | with_reducible apply And.intro | with_reducible intro _ | ((first | apply brB_split | apply aPickB_split | apply gB_split | apply adB_split) <;> intro hb <;> simp -implicitDefEqProofs only [hb, go_sem, hh] <;> try simp only [qz] at hb))
      all_goals first | rfl | (simp; done) | trace_state
    · have hA : ∀ h ∈ w.hosts, HsOk h := mem_getD fun j hj => hall j (by omega)
      simp -implicitDefEqProofs only [hlt, decide_false, go_sem, hh]
      repeat' (first | with_reducible apply And.intro | with_reducible intro _ | ((first | apply brB_split | apply aPickB_split | apply gB_split | apply adB_split) <;> intro hb <;> simp -implicitDefEqProofs only [hb, go_sem, hh] <;> try simp only [qz] at hb))
      all_goals first | rfl | omega | skip
      rw [List.take_of_length_le (by rw [List.length_map]; omega)]
      refine run_loop [] (ι := {i : Nat // i ≤ w.given.length ∧ ∀ j, j < i → LsOk (w.given.getD j default)}) (fun p => ⟨[(1, .pb 1001 0), (3, .h 1903), (26, .t (.sl 3 (w.given.map encLs))), (27, .t (.v (.int .i64 w.given.length))), (28, .t (.v (.int .i64 p.1)))], [(1001, some (.box ((encWd w).map .t))), (1903, some (.arr true 1 ((w.hosts.map hnm).map encStr)))]⟩) (fun p => w.given.length - p.1) ⟨0, by simp, by simp⟩ rfl ?_ ?_
      · simp -implicitDefEqProofs only [go_sem, hh]
        simp
      · rintro ⟨k, hk, hall2⟩
        by_cases hlt2 : (k : Int) < w.given.length
        · obtain ⟨g1, g2⟩ := zg _ (getD_mem (xs := w.given) (j := k) (by omega))
          have y1 : (w.given.getD k default).mark.size ≤ 2000000 := by have : (w.given.getD k default).mark.size ≤ 1048576 := g1; omega
          have y1' : ∀ s ∈ [(w.given.getD k default).mark], s.size ≤ 2000000 := fun s hs => by rw [List.mem_singleton.1 hs]; exact y1
          have y2 : (w.given.getD k default).addr.domain.size ≤ 2000000 := by have : (w.given.getD k default).addr.domain.size ≤ 1048576 := g2.2; omega
          simp -implicitDefEqProofs only [hlt2, decide_true, Int.toNat_natCast, go_sem, hh]
          repeat' (first | with_reducible apply And.intro | with_reducible intro _ | ((first | apply brB_split | apply aPickB_split | apply gB_split | apply adB_split) <;> intro hb <;> simp -implicitDefEqProofs only [hb, go_sem, hh] <;> try simp only [qz] at hb))
          all_goals (try simp only [maxLen, Int.toNat_natCast] at *)
          all_goals first
            | rfl
            | omega
            | assumption
            | exact y1' _ (by assumption)
            | exact uF (fun q => absurd (q.2.2.1 (w.given.getD k default) (getD_mem (by omega))).1 (fun f => f (by assumption)))
            | exact uF (fun q => absurd ((LsB _).2 (q.2.2.1 (w.given.getD k default) (getD_mem (by omega)))).2.1 (by assumption))
            | exact uF (fun q => absurd (q.2.2.1 (w.given.getD k default) (getD_mem (by omega))).2.2.1 (by assumption))
            | skip
          all_goals
            refine ⟨⟨k + 1, by omega, bx_step hall2 ((LsB _).1 ⟨by assumption, by assumption, by assumption⟩)⟩, by dsimp only; omega, ?_⟩
            simp -implicitDefEqProofs only [go_sem, hh]
            simp
        · have hB : ∀ l ∈ w.given, LsOk l := mem_getD fun j hj => hall2 j (by omega)
          simp -implicitDefEqProofs only [hlt2, decide_false, go_sem, hh]
          repeat' (first | with_reducible apply And.intro | with_reducible intro _ | ((first | apply brB_split | apply aPickB_split | apply gB_split | apply adB_split) <;> intro hb <;> simp -implicitDefEqProofs only [hb, go_sem, hh] <;> try simp only [qz] at hb))
          all_goals first
            | rfl
            | omega
            | exact uE ⟨fun q => ⟨hA, by assumption, hB, by assumption, by assumption, q⟩, fun q => q.2.2.2.2.2⟩
            | exact uF (fun q => absurd q.2.2.2.1 (by assumption))
            | exact uF (fun q => absurd q.2.1 (by assumption))
            | exact uF (fun q => absurd q.2.2.2.2.1 (by assumption))
            | trace_state
end
def sumL {α : Type} (f : α → Int) : List α → Int
  | [] => 0
  | x :: r => f x + sumL f r
theorem sum_step {α : Type} [Inhabited α] {f : α → Int} {xs : List α} {i : Nat} (h : i < xs.length) : sumL f (xs.drop i) = f (xs.getD i default) + sumL f (xs.drop (i + 1)) := by
  rw [getD_drop h]; rfl
theorem sum_end {α : Type} {f : α → Int} {xs : List α} {i : Nat} (h : xs.length ≤ i) : sumL f (xs.drop i) = 0 := by
  rw [List.drop_eq_nil_of_le h]; rfl
theorem sum_le {α : Type} {f : α → Int} {B : Int} : ∀ {xs : List α}, (∀ x ∈ xs, 0 ≤ f x ∧ f x ≤ B) → 0 ≤ sumL f xs ∧ sumL f xs ≤ B * xs.length
  | [], _ => by simp [sumL]
  | x :: r, h => by
    have h1 := h x (by simp)
    have h2 := sum_le (xs := r) fun y hy => h y (by simp [hy])
    have e1 : B * ((r.length + 1 : Nat) : Int) = B * r.length + B := by rw [Int.natCast_add, Int.mul_add]; simp
    simp only [sumL, List.length_cons]
    omega
theorem sum_drop {α : Type} {f : α → Int} {xs : List α} (h : ∀ x ∈ xs, 0 ≤ f x) (i : Nat) : 0 ≤ sumL f (xs.drop i) := by
  have h2 : ∀ {ys : List α}, (∀ x ∈ ys, 0 ≤ f x) → 0 ≤ sumL f ys := fun {ys} => by
    induction ys with
    | nil => intro _; exact Int.le_refl _
    | cons y r ih =>
      intro h
      have h1 := h y (by simp)
      have h3 := ih fun z hz => h z (by simp [hz])
      show 0 ≤ f y + sumL f r
      omega
  exact h2 fun x hx => h x (List.mem_of_mem_drop hx)
def rcN (x : Im) : Int := x.to.length
open Classical in
noncomputable def SMany (s : Sp) : Int := if SpOk s then sumL rcN s.items else -1
theorem SMany_y {s : Sp} (h : SpOk s) : SMany s = sumL rcN s.items := if_pos h
theorem SMany_n {s : Sp} (h : ¬ SpOk s) : SMany s = -1 := if_neg h
theorem many_le {s : Sp} (h : SpOk s) : 0 ≤ sumL rcN s.items ∧ sumL rcN s.items ≤ 40 := by
  have h1 := sum_le (f := rcN) (B := 4) (xs := s.items) fun x hx => by
    have := (h.1 x hx).1.2.2.2.2.1
    unfold rcN; omega
  have h2 := h.2.2.2
  omega
def c11 : Ct := ctR (lc ESp.ag l0) (fun p => OkSp p.1) (fun p => .t (.v (.int .i64 (SMany p.1))))
section
attribute [local go_sem] c10 bOf_t bOf_f List.length_map
theorem good11 {G : Gt} (hG : OkG G) (hh : G.e 10 = roEnt 0 c10) : Gd G 11 (roEnt 0 c11) := by
  refine gR (dp := fun _ => true) (fn := Tryz.f11) (n := 1) (fun _ => rfl) (by kernel_rfl) rfl (by kernel_rfl) hG (Nat.le_of_ble_eq_true rfl) (by kernel_rfl) (by decide) (fun _ _ => .v _) ?_
  rintro ⟨s, ⟨⟩⟩ hpre
  simp -implicitDefEqProofs only [Tryz.f11, go_sem, hh] at hpre ⊢
  by_cases h : SpOk s
  · have b1 := bOf_y h
    have hm := many_le h
    rw [SMany_y h]
    simp -implicitDefEqProofs only [b1, go_sem, hh]
    repeat' (first | with_reducible apply And.intro | with_reducible intro _ | ((first | apply brB_split | apply aPickB_split | apply gB_split | apply adB_split) <;> intro hb <;> simp -implicitDefEqProofs only [hb, go_sem, hh] <;> try simp only [qz] at hb))
    all_goals first | rfl | omega | assumption | contradiction | skip
    all_goals
      refine run_loop [] (ι := {p : Nat × Int // p.1 ≤ s.items.length ∧ 0 ≤ p.2 ∧ p.2 + sumL rcN (s.items.drop p.1) = sumL rcN s.items}) (fun p => ⟨[(1, .pb 1001 0), (3, .t (.v (.int .i64 p.1.2))), (10, .t (.sl 5 (s.items.map encIm))), (11, .t (.v (.int .i64 s.items.length))), (12, .t (.v (.int .i64 p.1.1)))], [(1001, some (.box ((encSp s).map .t)))]⟩) (fun p => s.items.length - p.1.1) ⟨(0, 0), by simp, by simp, by simp⟩ rfl ?_ ?_
      · simp -implicitDefEqProofs only [go_sem, hh]
        simp
      · rintro ⟨⟨i, v⟩, hi, h0, hv⟩
        dsimp only at hi h0 hv ⊢
        by_cases hlt : (i : Int) < s.items.length
        · have hst := sum_step (f := rcN) (xs := s.items) (i := i) (by omega)
          have hrest := sum_drop (f := rcN) (xs := s.items) (fun x _ => by unfold rcN; omega) (i + 1)
          have hr : rcN (s.items.getD i default) = (s.items.getD i default).to.length := rfl
          simp -implicitDefEqProofs only [hlt, decide_true, Int.toNat_natCast, go_sem, hh]
          repeat' (first | with_reducible apply And.intro | with_reducible intro _ | ((first | apply brB_split | apply aPickB_split | apply gB_split | apply adB_split) <;> intro hb <;> simp -implicitDefEqProofs only [hb, go_sem, hh] <;> try simp only [qz] at hb))
          all_goals (try simp only [maxLen, Int.toNat_natCast] at *)
          all_goals first | rfl | omega | skip
          refine ⟨⟨(i + 1, v + (s.items.getD i default).to.length), by dsimp only; omega, by dsimp only; omega, by dsimp only; omega⟩, by dsimp only; omega, ?_⟩
          simp -implicitDefEqProofs only [go_sem, hh]
          simp
        · have hst := sum_end (f := rcN) (xs := s.items) (i := i) (by omega)
          simp -implicitDefEqProofs only [hlt, decide_false, go_sem, hh]
          repeat' (first | with_reducible apply And.intro | with_reducible intro _ | ((first | apply brB_split | apply aPickB_split | apply gB_split | apply adB_split) <;> intro hb <;> simp -implicitDefEqProofs only [hb, go_sem, hh] <;> try simp only [qz] at hb))
          all_goals first | rfl | omega | (rw [← hv, hst, Int.add_zero]; done) | skip
  · have b1 := bOf_n h
    rw [SMany_n h]
    simp -implicitDefEqProofs only [b1, go_sem, hh]
    repeat' (first | with_reducible apply And.intro | with_reducible intro _ | ((first | apply brB_split | apply aPickB_split | apply gB_split | apply adB_split) <;> intro hb <;> simp -implicitDefEqProofs only [hb, go_sem, hh] <;> try simp only [qz] at hb))
    all_goals first | rfl | omega | assumption | contradiction | skip
end
def itN (h : Hs) : Int := h.spool.items.length
noncomputable def mnN (h : Hs) : Int := SMany h.spool
def mlN (b : Bx) : Int := b.mails.length
def bxN (h : Hs) : Int := sumL mlN h.boxes
def loN (h : Hs) : Int := h.lost.length
open Classical in
noncomputable def LMany (w : Wd) : List Int := if WdOk w then [sumL itN w.hosts, sumL mnN w.hosts, sumL bxN w.hosts, sumL loN w.hosts] else []
theorem LMany_y {w : Wd} (h : WdOk w) : LMany w = [sumL itN w.hosts, sumL mnN w.hosts, sumL bxN w.hosts, sumL loN w.hosts] := if_pos h
theorem LMany_n {w : Wd} (h : ¬ WdOk w) : LMany w = [] := if_neg h
theorem host_le {h : Hs} (hh : HsOk h) (ho : OkHs h) : (0 ≤ itN h ∧ itN h ≤ 10) ∧ (0 ≤ mnN h ∧ mnN h ≤ 40) ∧ (0 ≤ bxN h ∧ bxN h ≤ 1099511627776) ∧ (0 ≤ loN h ∧ loN h ≤ 1048576) := by
  obtain ⟨_, _, ⟨lb, zb⟩, ⟨ll, _⟩⟩ := ho
  have hs := hh.2.2
  have h1 := hs.2.2.2
  have h2 := many_le hs
  have h3 := sum_le (f := mlN) (B := 1048576) (xs := h.boxes) fun b hb => by
    have := (zb b hb).2.1
    unfold mlN; omega
  refine ⟨by unfold itN; omega, by unfold mnN; rw [SMany_y hs]; exact h2, ?_, by unfold loN; omega⟩
  unfold bxN
  have h4 : (1048576 : Int) * h.boxes.length ≤ 1048576 * 1048576 := Int.mul_le_mul_of_nonneg_left lb (by decide)
  omega
theorem look_le {w : Wd} (hw : WdOk w) (ho : OkWd w) : (sumL itN w.hosts ≤ 40) ∧ (sumL mnN w.hosts ≤ 160) ∧ (sumL bxN w.hosts ≤ 4398046511104) ∧ (sumL loN w.hosts ≤ 4194304) := by
  have hf := fun h hh => host_le (hw.1 h hh) (ho.1.2 h hh)
  have h4 := hw.2.2.2.1.2
  have h1 := sum_le (f := itN) (B := 10) (xs := w.hosts) fun h hh => (hf h hh).1
  have h2 := sum_le (f := mnN) (B := 40) (xs := w.hosts) fun h hh => (hf h hh).2.1
  have h3 := sum_le (f := bxN) (B := 1099511627776) (xs := w.hosts) fun h hh => (hf h hh).2.2.1
  have h5 := sum_le (f := loN) (B := 1048576) (xs := w.hosts) fun h hh => (hf h hh).2.2.2
  refine ⟨by omega, by omega, by omega, by omega⟩
def L4 (a b c d : Int) : List Int := [a, b, c, d]
section
variable {a b c d x : Int}
theorem L4_len : (L4 a b c d).length = 4 := rfl
theorem L4_g0 : (L4 a b c d).getD 0 default = a := rfl
theorem L4_g1 : (L4 a b c d).getD 1 default = b := rfl
theorem L4_g2 : (L4 a b c d).getD 2 default = c := rfl
theorem L4_g3 : (L4 a b c d).getD 3 default = d := rfl
theorem L4_s0 : (L4 a b c d).set 0 x = L4 x b c d := rfl
theorem L4_s1 : (L4 a b c d).set 1 x = L4 a x c d := rfl
theorem L4_s2 : (L4 a b c d).set 2 x = L4 a b x d := rfl
theorem L4_s3 : (L4 a b c d).set 3 x = L4 a b c x := rfl
theorem toN0 : Int.toNat 0 = 0 := rfl
theorem toN1 : Int.toNat 1 = 1 := rfl
theorem toN2 : Int.toNat 2 = 2 := rfl
theorem toN3 : Int.toNat 3 = 3 := rfl
end
def c20 : Ct := ctR (lc EWd.ag l0) (fun p => OkWd p.1) (fun p => .o true 1 ((LMany p.1).map encInt))
section
attribute [local go_sem] c17 c11 bOf_t bOf_f List.length_map List.map_nil aCell_map aSet_map set_Int L4_len L4_g0 L4_g1 L4_g2 L4_g3 L4_s0 L4_s1 L4_s2 L4_s3 toN0 toN1 toN2 toN3
set_option maxHeartbeats 6400000 in
theorem good20 {G : Gt} (hG : OkG G) (hh : G.e 17 = roEnt 0 c17 ∧ G.e 11 = roEnt 0 c11) : Gd G 20 (roEnt 0 c20) := by
  refine gR (dp := fun _ => true) (fn := Tryz.f20) (n := 1) (fun _ => rfl) (by kernel_rfl) rfl (by kernel_rfl) hG (Nat.le_of_ble_eq_true rfl) (by kernel_rfl) (by decide) (fun _ _ => .deep _ _) ?_
  rintro ⟨w, ⟨⟩⟩ hpre
  simp -implicitDefEqProofs only [Tryz.f20, go_sem, hh] at hpre ⊢
  have hok : OkWd w := hpre
  by_cases h : WdOk w
  · have b1 := bOf_y h
    obtain ⟨t1, t2, t3, t4⟩ := look_le h hok
    rw [LMany_y h]
    simp -implicitDefEqProofs only [b1, go_sem, hh]
    repeat' (first | with_reducible apply And.intro | with_reducible intro _ | ((first | apply brB_split | apply aPickB_split | apply gB_split | apply adB_split) <;> intro hb <;> simp -implicitDefEqProofs only [hb, go_sem, hh] <;> try simp only [qz] at hb))
    all_goals first | rfl | omega | assumption | contradiction | skip
    all_goals
      refine run_loop [(3, 1903, true, 1)] (ι := {p : Nat × Int × Int × Int × Int // p.1 ≤ w.hosts.length ∧ (0 ≤ p.2.1 ∧ p.2.1 + sumL itN (w.hosts.drop p.1) = sumL itN w.hosts) ∧ (0 ≤ p.2.2.1 ∧ p.2.2.1 + sumL mnN (w.hosts.drop p.1) = sumL mnN w.hosts) ∧ (0 ≤ p.2.2.2.1 ∧ p.2.2.2.1 + sumL bxN (w.hosts.drop p.1) = sumL bxN w.hosts) ∧ (0 ≤ p.2.2.2.2 ∧ p.2.2.2.2 + sumL loN (w.hosts.drop p.1) = sumL loN w.hosts)}) (fun p => ⟨[(1, .pb 1001 0), (3, .h 1903), (13, .t (.sl 7 (w.hosts.map encHs))), (14, .t (.v (.int .i64 w.hosts.length))), (15, .t (.v (.int .i64 p.1.1)))], [(1001, some (.box ((encWd w).map .t))), (1903, some (.arr true 1 ((L4 p.1.2.1 p.1.2.2.1 p.1.2.2.2.1 p.1.2.2.2.2).map encInt)))]⟩) (fun p => w.hosts.length - p.1.1) ⟨(0, 0, 0, 0, 0), by simp, by simp, by simp, by simp, by simp⟩ rfl ?_ ?_
      · have hrep : List.replicate (Int.toNat 4) [T.v (Value.int IntKind.i64 0)] = (L4 0 0 0 0).map encInt := rfl
        simp -implicitDefEqProofs only [go_sem, hh]
        simp [hrep]
        try rfl
      · rintro ⟨⟨i, va, vb, vc, vd⟩, hi, ⟨a0, a1⟩, ⟨b0, b2⟩, ⟨c0, c1⟩, ⟨d0, d1⟩⟩
        dsimp only at hi a0 a1 b0 b2 c0 c1 d0 d1 ⊢
        by_cases hlt : (i : Int) < w.hosts.length
        · skip
          have hm := getD_mem (xs := w.hosts) (j := i) (by omega)
          obtain ⟨f1, f2, f3, f4⟩ := host_le (h.1 _ hm) (hok.1.2 _ hm)
          have s1 := sum_step (f := itN) (xs := w.hosts) (i := i) (by omega)
          have s2 := sum_step (f := mnN) (xs := w.hosts) (i := i) (by omega)
          have s3 := sum_step (f := bxN) (xs := w.hosts) (i := i) (by omega)
          have s4 := sum_step (f := loN) (xs := w.hosts) (i := i) (by omega)
          have r1 := sum_drop (f := itN) (xs := w.hosts) (fun x hx => (host_le (h.1 x hx) (hok.1.2 x hx)).1.1) (i + 1)
          have r2 := sum_drop (f := mnN) (xs := w.hosts) (fun x hx => (host_le (h.1 x hx) (hok.1.2 x hx)).2.1.1) (i + 1)
          have r3 := sum_drop (f := bxN) (xs := w.hosts) (fun x hx => (host_le (h.1 x hx) (hok.1.2 x hx)).2.2.1.1) (i + 1)
          have r4 := sum_drop (f := loN) (xs := w.hosts) (fun x hx => (host_le (h.1 x hx) (hok.1.2 x hx)).2.2.2.1) (i + 1)
          have e1 : itN (w.hosts.getD i default) = (w.hosts.getD i default).spool.items.length := rfl
          have e2 : mnN (w.hosts.getD i default) = SMany (w.hosts.getD i default).spool := rfl
          have e3 : bxN (w.hosts.getD i default) = sumL mlN (w.hosts.getD i default).boxes := rfl
          have e4 : loN (w.hosts.getD i default) = (w.hosts.getD i default).lost.length := rfl
          have hz := (hok.1.2 _ hm).2.1
          simp -implicitDefEqProofs only [hlt, decide_true, Int.toNat_natCast, go_sem, hh]
          repeat' (first | with_reducible apply And.intro | with_reducible intro _ | ((first | apply brB_split | apply aPickB_split | apply gB_split | apply adB_split) <;> intro hb <;> simp -implicitDefEqProofs only [hb, go_sem, hh] <;> try simp only [qz] at hb))
          all_goals (try simp only [maxLen, Int.toNat_natCast] at *)
          all_goals first | rfl | omega | assumption | decide | skip
          all_goals
            refine run_loop [] (ι := {p : Nat × Int // p.1 ≤ (w.hosts.getD i default).boxes.length ∧ vc ≤ p.2 ∧ p.2 + sumL mlN ((w.hosts.getD i default).boxes.drop p.1) = vc + sumL mlN (w.hosts.getD i default).boxes}) (fun p => ⟨[(1, .pb 1001 0), (3, .h 1903), (5, .pb 1005 0), (13, .t (.sl 7 (w.hosts.map encHs))), (14, .t (.v (.int .i64 w.hosts.length))), (15, .t (.v (.int .i64 i))), (37, .t (.sl 3 ((w.hosts.getD i default).boxes.map encBx))), (38, .t (.v (.int .i64 (w.hosts.getD i default).boxes.length))), (39, .t (.v (.int .i64 p.1.1)))], [(1001, some (.box ((encWd w).map .t))), (1005, some (.box ((encHs (w.hosts.getD i default)).map .t))), (1903, some (.arr true 1 ((L4 (va + (w.hosts.getD i default).spool.items.length) (vb + SMany (w.hosts.getD i default).spool) p.1.2 vd).map encInt)))]⟩) (fun p => (w.hosts.getD i default).boxes.length - p.1.1) ⟨(0, vc), by simp, by simp, by simp⟩ rfl ?_ ?_
            · simp -implicitDefEqProofs only [go_sem, hh]
              simp
            · rintro ⟨⟨k, vk⟩, hk, k0, k1⟩
              dsimp only at hk k0 k1 ⊢
              by_cases hlt2 : (k : Int) < (w.hosts.getD i default).boxes.length
              · skip
                have hst := sum_step (f := mlN) (xs := (w.hosts.getD i default).boxes) (i := k) (by omega)
                have hrest := sum_drop (f := mlN) (xs := (w.hosts.getD i default).boxes) (fun x _ => by unfold mlN; omega) (k + 1)
                have hr : mlN ((w.hosts.getD i default).boxes.getD k default) = ((w.hosts.getD i default).boxes.getD k default).mails.length := rfl
                simp -implicitDefEqProofs only [hlt2, decide_true, Int.toNat_natCast, go_sem, hh]
                repeat' (first | with_reducible apply And.intro | with_reducible intro _ | ((first | apply brB_split | apply aPickB_split | apply gB_split | apply adB_split) <;> intro hb <;> simp -implicitDefEqProofs only [hb, go_sem, hh] <;> try simp only [qz] at hb))
                all_goals (try simp only [maxLen, Int.toNat_natCast] at *)
                all_goals first | rfl | omega | decide | skip
                refine ⟨⟨(k + 1, vk + ((w.hosts.getD i default).boxes.getD k default).mails.length), by dsimp only; omega, by dsimp only; omega, by dsimp only; omega⟩, by dsimp only; omega, ?_⟩
                simp -implicitDefEqProofs only [go_sem, hh]
                simp
              · have hst := sum_end (f := mlN) (xs := (w.hosts.getD i default).boxes) (i := k) (by omega)
                simp -implicitDefEqProofs only [hlt2, decide_false, go_sem, hh]
                repeat' (first | with_reducible apply And.intro | with_reducible intro _ | ((first | apply brB_split | apply aPickB_split | apply gB_split | apply adB_split) <;> intro hb <;> simp -implicitDefEqProofs only [hb, go_sem, hh] <;> try simp only [qz] at hb))
                all_goals (try simp only [maxLen, Int.toNat_natCast] at *)
                all_goals first | rfl | omega | decide | skip
                refine ⟨⟨(i + 1, va + (w.hosts.getD i default).spool.items.length, vb + SMany (w.hosts.getD i default).spool, vk, vd + (w.hosts.getD i default).lost.length), by dsimp only; omega, by dsimp only; omega, by dsimp only; omega, by dsimp only; omega, by dsimp only; omega⟩, by dsimp only; omega, ?_⟩
                simp -implicitDefEqProofs only [go_sem, hh]
                simp
        · have s1 := sum_end (f := itN) (xs := w.hosts) (i := i) (by omega)
          have s2 := sum_end (f := mnN) (xs := w.hosts) (i := i) (by omega)
          have s3 := sum_end (f := bxN) (xs := w.hosts) (i := i) (by omega)
          have s4 := sum_end (f := loN) (xs := w.hosts) (i := i) (by omega)
          have q1 : va = sumL itN w.hosts := by omega
          have q2 : vb = sumL mnN w.hosts := by omega
          have q3 : vc = sumL bxN w.hosts := by omega
          have q4 : vd = sumL loN w.hosts := by omega
          subst q1 q2 q3 q4
          simp -implicitDefEqProofs only [hlt, decide_false, go_sem, hh]
          repeat' (first | with_reducible apply And.intro | with_reducible intro _ | ((first | apply brB_split | apply aPickB_split | apply gB_split | apply adB_split) <;> intro hb <;> simp -implicitDefEqProofs only [hb, go_sem, hh] <;> try simp only [qz] at hb))
          all_goals first | rfl | omega | trace_state
  · have b1 := bOf_n h
    rw [LMany_n h]
    simp -implicitDefEqProofs only [b1, go_sem, hh]
    repeat' (first | with_reducible apply And.intro | with_reducible intro _ | ((first | apply brB_split | apply aPickB_split | apply gB_split | apply adB_split) <;> intro hb <;> simp -implicitDefEqProofs only [hb, go_sem, hh] <;> try simp only [qz] at hb))
    all_goals first | rfl | omega | assumption | contradiction | trace_state
end
end Go.V
namespace Go.V
open Go Go.Proofs
set_option maxRecDepth 100000
set_option linter.unusedSimpArgs false
set_option linter.unusedVariables false
attribute [local go_sem] aPickB.eq_1 aPickB.eq_2 aPick.eq_1 aBox.eq_1 aBox.eq_2 aAlloc.eq_1 aAlloc.eq_2 aLoadB.eq_1 aLoadB.eq_2 aLoadB.eq_3 aLoadB.eq_4 aLoadB.eq_5 aLoadA.eq_1 aLoadA.eq_2 aLoadA.eq_3 aLoadA.eq_4 aLoadA.eq_5 aLoadP.eq_1 aLoadP.eq_2 aLoadP.eq_3 aLoad.eq_1 aLoad.eq_2 aFAx.eq_1 aFAx.eq_2 aFAx.eq_3 aFA.eq_1 aFA.eq_2 aFx.eq_1 aF.eq_1 aF.eq_2 fld.eq_1 elT.eq_1 aIdxH.eq_1 aIdxH.eq_2 aIdxH.eq_3 aIdxH.eq_4 aIdxH.eq_5 aIdxP.eq_1 aIdxP.eq_2 aIndexAddr.eq_1 aIndexAddr.eq_2 aIndexAddr.eq_3 isStr.eq_1 aIndex.eq_1 aSlStr.eq_1 aSlRo.eq_1 aSlZ.eq_1 aSlZ.eq_2 aSlice.eq_1 aSlice.eq_2 aSlice.eq_3 bnd.eq_1 bnd.eq_2 aBuildO.eq_1 aBuildO.eq_2 aBuild.eq_1 aNewArr.eq_1 aNewArr.eq_2 aBS.eq_1 aBS.eq_2 aBuildSlice.eq_1 aBuildSlice.eq_2 aMakeSlice.eq_1 appDeep.eq_1 aApp2.eq_1 aAppend.eq_1 aAppend.eq_2 aStoreB.eq_1 aStoreA.eq_1 obFlat.eq_1 aStore2.eq_1 aStore2.eq_2 aStoreP.eq_1 aStoreP.eq_2 aStore.eq_1 aStore.eq_2 isShl.eq_1 isShl.eq_2 isBool.eq_1 aBinI.eq_1 aBinI.eq_2 aBinB.eq_1 aBinB.eq_2 aEq.eq_1 aEq.eq_2 aEq.eq_3 aEq.eq_4 aEqG.eq_1 aEqG.eq_2 aBin.eq_1 aBin.eq_2 aBin.eq_3 aBin.eq_4 aUn.eq_1 aUn.eq_2 aLenO.eq_1 aLenS.eq_1 aLenS.eq_2 aLenS.eq_3 aLenT.eq_1 aLen.eq_1 aLen.eq_2 aLen.eq_3 bytesOb.eq_1 bytesOb.eq_2 bytesOf.eq_1 bytesOf.eq_2 aNums.eq_1 aNums.eq_2 isU8.eq_1 aCvI.eq_1 aCvS.eq_1 aCvB.eq_1 aCvB.eq_2 aCvT.eq_1 aConv.eq_1 aConv.eq_2 aConv.eq_3 aConv.eq_4 aExO.eq_1 aExO.eq_2 aExtract.eq_1 aNil.eq_1 aNil.eq_2 aNil.eq_3 aCallS.eq_1 aCallS.eq_2 aCallR.eq_1 aCallR.eq_2 aCallK.eq_1 aCallK.eq_2 aCallK.eq_3 aCall.eq_1 aCall.eq_2 takeO.eq_1 AS.takeV.eq_1 AS.takeV.eq_2 AS.takeV.eq_3 AS.takeV.eq_4 AS.takeV.eq_5 AS.takeV.eq_6 AS.takeV.eq_7 AV.oldM.eq_1 AV.oldM.eq_2 AV.oldM.eq_3 AV.oldM.eq_4 AV.oldM.eq_5 AV.oldM.eq_6 AV.oldM.eq_7 AV.oldM.eq_8 AV.oldM.eq_9 AV.oldM.eq_10 AV.oldM.eq_11 AV.oldML.eq_1 AV.oldML.eq_2 subL.eq_1 subL.eq_2 back.eq_1 back.eq_2 back.eq_3 back.eq_4 backL.eq_1 backI.eq_1 backI.eq_2 backI.eq_3 backI.eq_4 backIL.eq_1 aBuiltin.eq_1 aBuiltin.eq_2 aBuiltin.eq_3 aCallee.eq_1 aCallee.eq_2 aCallee.eq_3 abin.eq_1 abin.eq_2 abin.eq_3 abin.eq_4 abin.eq_5 abin.eq_6 abin.eq_7 abin.eq_8 abin.eq_9 abin.eq_10 abin.eq_11 abin.eq_12 abin.eq_13 abin.eq_14 abin.eq_15 abin.eq_17 abin.eq_18 abin.eq_19 abin.eq_20 abin.eq_21 abin.eq_22 abin.eq_23 AS.ev.eq_1 AS.ev.eq_2 AS.ev.eq_3 AS.ev.eq_4 AS.evs.eq_1 AS.evs.eq_2 AS.evp.eq_1 AS.evp.eq_2 AS.put.eq_1 AS.put.eq_2 AS.remL.eq_1 AS.remL.eq_2 AV.has.eq_1 AV.has.eq_2 AV.has.eq_3 AV.has.eq_4 AV.has.eq_5 AV.has.eq_6 AV.has.eq_7 AV.has.eq_8 AV.has.eq_9 AV.has.eq_10 AV.has.eq_11 AV.hasL.eq_1 AV.hasL.eq_2 Ob.drop.eq_1 Ob.drop.eq_2 Ob.drop.eq_3 Ob.drop.eq_4 AV.cells.eq_1 AV.cells.eq_2 AV.cells.eq_3 AV.cells.eq_4 AV.cells.eq_5 AS.snapT.eq_1 AS.snapT.eq_2 AS.snapT.eq_3 AS.snapT.eq_4 AS.snapT.eq_5 AS.snapT.eq_6 AS.snapT.eq_7 AS.snap.eq_1 AS.snap.eq_2 mapO.eq_1 mapO.eq_2 intern.eq_1 intern.eq_2 intern.eq_3 intern.eq_4 intern.eq_5 intern.eq_6 intern.eq_7 intern.eq_8 intern.eq_9 intern.eq_10 intern.eq_11 internL.eq_1 internL.eq_2 zipSl.eq_1 zipSl.eq_2 AV.ids.eq_1 AV.ids.eq_2 AV.ids.eq_3 AV.ids.eq_4 AV.ids.eq_5 AV.ids.eq_6 AV.ids.eq_7 AV.ids.eq_8 AV.ids.eq_9 AV.ids.eq_10 AV.ids.eq_11 AV.idsL.eq_1 AV.idsL.eq_2 AV.sub.eq_1 AV.sub.eq_2 AV.sub.eq_3 AV.sub.eq_4 AV.sub.eq_5 AV.sub.eq_6 AV.sub.eq_7 AV.sub.eq_8 AV.sub.eq_9 AV.sub.eq_10 AV.sub.eq_11 AV.subL.eq_1 AV.subL.eq_2 AS.frzL.eq_1 AS.frzL.eq_2 AS.absT.eq_1 AS.absT.eq_2 AS.absT.eq_4 AS.absL.eq_1 AS.absL.eq_2 AS.absOk.eq_1 AS.absOkL.eq_1 AS.absOkL.eq_2 hid.eq_1 hids.eq_1 hids.eq_2 AS.appBase.eq_1 AS.appBase.eq_2 AS.appSrc.eq_1 appFits.eq_1 appFits.eq_2 appFits.eq_3 avFill.eq_1 avFill.eq_2 avc.eq_1 avc.eq_2 avc1.eq_1 Kd.agg.eq_1 Kd.agg.eq_2 okR.eq_1 okR.eq_2 okR.eq_3 okR.eq_4 okR.eq_5 okR.eq_6 okR.eq_7 okR.eq_8 zt.eq_1 rvB.eq_1 rvP.eq_1 rvA.eq_1 rvA.eq_2 rv1.eq_1 outTO.eq_1 outT.eq_1 outT.eq_2 outT.eq_3 outTn.eq_1 outOO.eq_1 outO.eq_1 outO.eq_2 boxOf.eq_1 outP.eq_1 outP.eq_2 outP.eq_3 outP.eq_4 outP.eq_5 outP.eq_6 outP.eq_7 outP.eq_8 outPL.eq_1 outPL.eq_2 outI.eq_1 outI.eq_2 outI.eq_3 outI.eq_4 outI.eq_5 outIL.eq_1 outZ.eq_1 outZ.eq_2 outZ.eq_3 outZ.eq_4 outZ.eq_5 outZL.eq_1 finO.eq_1 finO.eq_2 fin.eq_1 fin.eq_2 fin.eq_3 cellAV.eq_1 cellAV.eq_2 numsOf.eq_1 numsOf.eq_2 aop.eq_1 aop.eq_2 aop.eq_3 aop.eq_4 aop.eq_5 aop.eq_6 aop.eq_7 aop.eq_8 aop.eq_9 aop.eq_10 aop.eq_11 aop.eq_12 aop.eq_13 aop.eq_14 aop.eq_15 aop.eq_16 aop.eq_17 aop.eq_18 aop.eq_19 aop.eq_20 aop.eq_21 aop.eq_22 aop.eq_23 aop.eq_24 aop.eq_25 aop.eq_26 tmpsOf.eq_1 tmpsOf.eq_2 tmpsOf.eq_3 tmpsOf.eq_4 tmpsOf.eq_5 AV.refs.eq_1 AV.refs.eq_2 AV.refs.eq_3 AV.refs.eq_4 AV.refs.eq_5 AV.refs.eq_6 AV.refs.eq_7 AV.refs.eq_8 AV.refs.eq_9 AV.refs.eq_10 AV.refs.eq_11 AV.refsL.eq_1 AV.refsL.eq_2 refsT.eq_1 refsT.eq_2 refsO.eq_1 refsO.eq_2 refsO.eq_3 refsO.eq_4 refsO.eq_5 refsO.eq_6 refsB.eq_1 refsB.eq_2 clos.eq_1 clos.eq_2 keepL.eq_1 keepL.eq_2 AV.hasM.eq_1 AV.hasM.eq_2 AV.hasM.eq_3 AV.hasM.eq_4 AV.hasM.eq_5 AV.hasM.eq_6 AV.hasM.eq_7 AV.hasM.eq_8 AV.hasM.eq_9 AV.hasM.eq_10 AV.hasM.eq_11 AV.hasML.eq_1 AV.hasML.eq_2 Ob.dropM.eq_1 Ob.dropM.eq_2 Ob.dropM.eq_3 Ob.dropM.eq_4 nsC.eq_1 nsC.eq_2 okGuard.eq_1 okGuard.eq_2 AS.purges.eq_1 AS.purges.eq_2 dropMB.eq_1 dropMB.eq_2 newB.eq_1 newB.eq_2 ptB.eq_1 ptB.eq_2 lookC.eq_1 lookC.eq_2 dropB.eq_1 dropB.eq_2 leS.eq_1 leS.eq_2 leT.eq_1 leT.eq_2 AS.mvs.eq_1 AS.mvs.eq_2 AS.mvA.eq_1 AS.mvA.eq_2 AS.mvB.eq_1 aSetO.eq_1 aSetO.eq_2 aSh.eq_1 aSh.eq_2 arK.eq_1 aIdxA.eq_1 aIdxA.eq_2 arT.eq_1 aSlHB.eq_1 aSlHB.eq_2 aSlHO.eq_1 aSlHZ.eq_1 aSlHZ.eq_2 isSlT.eq_1 isNilC.eq_1 aNilO.eq_1 aNilX.eq_1 aNilX.eq_2 aNilX.eq_3 aNilC.eq_1 aNilC.eq_2 aBinQ.eq_1 aBinQ.eq_2 aMin.eq_1 flT.eq_1 flT.eq_2 flT.eq_3 mpT.eq_1 aMkMap.eq_1 aMkMap.eq_2 strA.eq_1 keyMK.eq_1 keyMK.eq_2 keyMK.eq_3 mkB.eq_1 mkB.eq_2 mkB.eq_3 aMp2.eq_1 aMp1.eq_1 aMp0.eq_1 aMapU.eq_1 aLk2.eq_1 aLk2.eq_2 aLk1.eq_1 aLk0.eq_1 aLookup.eq_1 aLenMO.eq_1 aLenM.eq_1 glV.eq_1 glV.eq_2 evG.eq_1 evG.eq_2 evG.eq_3 evG.eq_4 lkHitO.eq_1 lkHitO.eq_2 lkHitO.eq_3 lkHitO.eq_4 lkHit.eq_1 lkHit.eq_2 lkF.eq_1 lkF.eq_2 lkFind.eq_1 lkFind.eq_2 lkV.eq_1 lkV.eq_2 lkV.eq_3 lkV.eq_4 lkV.eq_5 AS.lkO.eq_1 AS.lkO.eq_2 AS.lkOf.eq_1 rawT.eq_1 rawT.eq_2 rawT.eq_3 rawT.eq_4 rawT.eq_5 rawT.eq_6 rawOf.eq_1 rawOf.eq_2 rawOf.eq_3 rawOf.eq_4 rawOf.eq_5 rawOf.eq_6 rawOf.eq_7 rawOf.eq_8 rawOf.eq_9 rawOf.eq_10 rawOf.eq_11 aLkR.eq_1 aLkR.eq_2 aLk.eq_1 aLk.eq_2 KL.eq_1 lkDrop.eq_1 lkDrop.eq_2 lkParO.eq_1 lkParO.eq_2 lkParO.eq_3 lkParO.eq_4 lkPar.eq_1 lkPar.eq_2 lkI.eq_1 lkI.eq_2 lkIds.eq_1 lkIds.eq_2 adLd.eq_1 run_nil run_b run_l run_skip run_label run_seq run_cond brV_b brB_t brB_f run_block run_exit run_ret run_region runX_nil runX_c runX_c' runX_b runX_b' runX_l runX_l' exB_t exB_f run_o run_op run_opg gV_b gV_t gB_tt gB_ff gB_tf gB_ft rs_eq kv KI aLenN aBS1 aApp1 aStore1 szOk gv gd s0 idOf look_cons lookC frzU_t frzU_f orT orF drop_any drop_nil drop_t drop_h drop_pb drop_pa drop_agg drop_tup drop_fn dropB kill_eq set_eq rem_eq re_eq up_eq get_eq ob_eq Ob.drop apl fpl plainTy AS.frz splice cond_true cond_false List.map_cons List.map_nil List.drop_zero List.drop_succ_cons List.drop_nil List.take_zero List.take_succ_cons List.take_nil List.getElem?_cons_zero List.getElem?_cons_succ List.getElem?_nil List.length_cons List.length_nil Option.map_some Option.map_none Option.bind_some Option.bind_none List.cons_append List.nil_append List.append_nil Option.getD_some Option.getD_none List.all_cons List.all_nil Bool.and_true Bool.true_and Bool.or_false Bool.false_or Bool.or_true Bool.true_or List.flatten_cons List.flatten_nil List.replicate_succ List.replicate_zero and_true true_and avOf_t avOf_f agg_bool agg_int agg_str agg_slice agg_struct agg_func agg_ptr agg_map avc_bool avc_int avc_str avc_fn avc1_bool avc1_int avc1_str avc1_fn zt_bool zt_int zt_str cells_nil cells_t cells_h cells_pb cells_fn snap_t snap_nil snap_h snap_pb snap_fn rv1_one rv1_two outI_t outI_oh outI_on outI_any outI_nil outZ_th outZ_tt outZ_tn outZ_o outZ_any outZ_nil outIL_nil outZL_nil finN finR ne_eq not_false_eq_true not_true_eq_false List.nodup_nil List.not_mem_nil false_implies implies_true eq_self true_or or_true Option.some.injEq shl_add shl_sub shl_mul shl_quo shl_rem shl_and shl_or shl_xor shl_andNot shl_eql shl_neq shl_lss shl_leq shl_gtr shl_geq shl_shr shl_shl appDeep_none appDeep_sn appSrc_h appSrc_nil fits_ft fits_tn fits_tf isStr_slice obFlat_box Nat.le_refl nbeq_self List.length_map updZ_s updZ_n dropM_eq purge_eq newIds_cons newIds_nil purgeT_nil purgeT_cons memN_cons memN_nil bd_d bd_c bd_g bd_p bd_t bd_o preds_nil preds_cons hasIns insB List.any_cons List.any_nil adK_eq adr_nil adG_eq kdOp noLen creates Op.operands Call.operands nsOf adT adI adJ plainB rst List.append_eq nsD_f nsD_n nsD_t nOf_0 nOf_1 nOf_2 chO_0 chO_1 chO_2 keepK_0 keepK_1 keepK_2 eqRes AS.mv fits KM aCallM notNew kdCall arK_i64 arK_i32 arK_u8 arK_u64 arT_sl isNilC_t isNilC_f isNilC_g isNilC_i isNilC_b isNilC_s isNilC_a isNilC_n andBF andBT aCallK_2 ble_dec hid_t hid_nil hid_any hid_pb hid_fn absOk_t absOk_nil absOk_pb absOk_h absOkO_1 decide_true decide_false Array.toList_append chunk_0 chunk_1 chunk_2 chunk_3 back_t back_nil back_ht backL_nil backI_t backI_nil backI_ht backIL_nil AS.mvJ nbeq_dec runR_f runR_t loadB Option.isSome_some Option.isSome_none nodup1 adr_none adr_some adO_s adV_b adV_t adB_tt adB_ff adB_tf adB_ft adS_eq lenL.eq_1 lenO.eq_1 lenO.eq_2 lenV.eq_1 lenV.eq_2 lenV.eq_3 lenV.eq_4 optN optS absT_ft
attribute [local go_sem] ty3 ty4 ty5 ty9 ty21 ty22 ty23 ty25 ty27 ty28 ty29 ty31 ty33 ty43 ty45 ty46 ty48 ty54 ty57 ty59 ty60 ty62 ty73 ty75 ty91 ty96 ty98 ty101 ty104 ty120 ty125 ty129 ty146 ty166 ty207 ty220 ty237 lv27 lv91 lv104 lv120 zb4 leS leT fits AS.mvs encStr_eq aIdx_str EStr_dec decStrs decStrs0 EStr_enc EStr_n encInt_eq aIdx_int EInt_dec decInts decInts0 EInt_enc EInt_n AllV_Int len_Int lc_enc l0_enc asl_enc ag_enc aow_enc ABool_enc AInt_enc AStr_enc AU8_enc ABool_dec AInt_dec AStr_dec AU8_dec asl_dec ag_dec aow_dec bind_some pr2.eq_1 l0_nil lc_cons unT.eq_1 K0.eq_1 M0.eq_1 KI AllV_Str len_Str ctR_eq ctM_eq ro_kd ro_ro mu_kd mu_mu encAd_eq aIdx_Ad EAd_dec decAds decAds0 EAd_enc EAd_n len_Ad Ad_eta AllV_Ad encRc_eq aIdx_Rc ERc_dec decRcs decRcs0 ERc_enc ERc_n len_Rc Rc_eta AllV_Rc encIm_eq aIdx_Im EIm_dec decIms decIms0 EIm_enc EIm_n len_Im Im_eta mkIm.eq_1 owIm_eq AIm_enc AIm_dec encSp_eq aIdx_Sp ESp_dec decSps decSps0 ESp_enc ESp_n len_Sp Sp_eta mkSp.eq_1 owSp_eq ASp_enc ASp_dec encWy_eq aIdx_Wy EWy_dec decWys decWys0 EWy_enc EWy_n len_Wy Wy_eta AllV_Wy encCf_eq aIdx_Cf ECf_dec decCfs decCfs0 ECf_enc ECf_n len_Cf Cf_eta mkCf.eq_1 owCf_eq ACf_enc ACf_dec encGm_eq aIdx_Gm EGm_dec decGms decGms0 EGm_enc EGm_n len_Gm Gm_eta mkGm.eq_1 owGm_eq AGm_enc AGm_dec encBx_eq aIdx_Bx EBx_dec decBxs decBxs0 EBx_enc EBx_n len_Bx Bx_eta mkBx.eq_1 owBx_eq ABx_enc ABx_dec encLs_eq aIdx_Ls ELs_dec decLss decLss0 ELs_enc ELs_n len_Ls Ls_eta AllV_Ls encHs_eq aIdx_Hs EHs_dec decHss decHss0 EHs_enc EHs_n len_Hs Hs_eta mkHs.eq_1 owHs_eq AHs_enc AHs_dec encWd_eq aIdx_Wd EWd_dec decWds decWds0 EWd_enc EWd_n len_Wd Wd_eta mkWd.eq_1 owWd_eq AWd_enc AWd_dec
theorem spA_byte {c x : UInt8} : ∀ {l : List UInt8}, x ∈ l → x = c ∨ ∃ w ∈ spA c l, x ∈ w
  | y :: r, h => by
    rw [spA]
    by_cases e : y = c
    · rw [if_pos e]
      rcases List.mem_cons.1 h with h | h
      · exact .inl (h.trans e)
      · rcases spA_byte h with q | ⟨w, hw, q⟩
        · exact .inl q
        · exact .inr ⟨w, by simp [hw], q⟩
    · rw [if_neg e]
      cases hs : spA c r with
      | nil => have := spA_len c r; rw [hs] at this; simp at this
      | cons a t =>
        rcases List.mem_cons.1 h with h | h
        · exact .inr ⟨y :: a, by simp, by simp [h]⟩
        · rcases spA_byte h with q | ⟨w, hw, q⟩
          · exact .inl q
          · rw [hs] at hw
            rcases List.mem_cons.1 hw with e2 | hw
            · exact .inr ⟨y :: a, by simp, by rw [e2] at q; simp [q]⟩
            · exact .inr ⟨w, by simp [hw], q⟩
theorem spA_size {c : UInt8} {B : Nat} : ∀ {l : List UInt8}, (∀ w ∈ spA c l, w.length ≤ B) → l.length + 1 ≤ (B + 1) * (spA c l).length
  | [], _ => by simp [spA]
  | y :: r, h => by
    rw [spA] at h ⊢
    by_cases e : y = c
    · rw [if_pos e] at h ⊢
      have := spA_size (c := c) (l := r) fun w hw => h w (by simp [hw])
      rw [List.length_cons, List.length_cons, Nat.mul_succ]
      omega
    · rw [if_neg e] at h ⊢
      cases hs : spA c r with
      | nil => have := spA_len c r; rw [hs] at this; simp at this
      | cons a t =>
        rw [hs] at h
        have h1 := h (y :: a) (by simp)
        have h3 : (∀ w ∈ spA c r, w.length ≤ B) ∨ True := .inr trivial
        have key : ∀ (l : List UInt8), l.length + 1 = ((spA c l).map fun w => w.length + 1).sum := fun l => by
          induction l with
          | nil => rfl
          | cons z q ih =>
            rw [spA]
            by_cases ez : z = c
            · rw [if_pos ez, List.map_cons, List.sum_cons, ← ih, List.length_cons, List.length_nil]; omega
            · rw [if_neg ez]
              cases hq : spA c q with
              | nil => have := spA_len c q; rw [hq] at this; simp at this
              | cons a' t' => rw [hq] at ih; simp only [List.map_cons, List.sum_cons, List.length_cons] at ih ⊢; omega
        have h2 := key r
        rw [hs] at h2
        have h4 : ∀ t : List (List UInt8), (∀ w ∈ t, w.length ≤ B) → (t.map fun w => w.length + 1).sum ≤ (B + 1) * t.length := fun t => by
          induction t with
          | nil => intro _; simp
          | cons w t ih =>
            intro hw
            have q1 := ih fun x hx => hw x (by simp [hx])
            have q2 := hw w (by simp)
            rw [List.map_cons, List.sum_cons, List.length_cons, Nat.mul_succ]; omega
        have h5 := h4 t fun w hw => h w (by simp [hw])
        simp only [List.map_cons, List.sum_cons, List.length_cons] at h1 h2 ⊢
        rw [Nat.mul_succ]
        omega
def LinL (l : List UInt8) : Prop := ∀ b ∈ l, 32 ≤ (b.toNat : Int) ∧ (b.toNat : Int) ≤ 126
instance (l : List UInt8) : Decidable (LinL l) := by unfold LinL; infer_instance
theorem byte_mem {s : ByteArray} {b : UInt8} (h : b ∈ bl s) : ∃ j, j < s.size ∧ byteAt s j = b.toNat := by
  obtain ⟨j, hj, e⟩ := List.getElem_of_mem h
  exact ⟨j, hj, by rw [byteAt_bl]; simp [hj, e]⟩
theorem mem_byte {s : ByteArray} {j : Nat} (h : j < s.size) : ∃ b ∈ bl s, byteAt s j = b.toNat := by
  have h' : j < (bl s).length := h
  exact ⟨(bl s)[j], List.getElem_mem h', by rw [byteAt_bl]; simp [h']⟩
theorem Lin_iff (s : ByteArray) : Lin s ↔ LinL (bl s) ∧ s.size ≤ 40 :=
  ⟨fun h => ⟨fun b hb => by
    obtain ⟨j, hj, e⟩ := byte_mem hb
    rw [← e]; exact h.1 j hj, h.2⟩, fun h => ⟨fun j hj => by
    obtain ⟨b, hb, e⟩ := mem_byte hj
    rw [e]; exact h.1 b hb, h.2⟩⟩
theorem LinL_app {a b : List UInt8} : LinL (a ++ b) ↔ LinL a ∧ LinL b :=
  ⟨fun h => ⟨fun x hx => h x (by simp [hx]), fun x hx => h x (by simp [hx])⟩, fun h x hx => (List.mem_append.1 hx).elim (h.1 x) (h.2 x)⟩
theorem Lbl_lin {s : ByteArray} (h : Lbl s) : LinL (bl s) ∧ s.size ≤ 8 := ⟨fun b hb => by
  obtain ⟨j, hj, e⟩ := byte_mem hb
  have := h.1 j hj
  rw [← e]; unfold isLc at this; omega, h.2.2⟩
theorem Dom_lin {s : ByteArray} (h : Dom s) : LinL (bl s) ∧ s.size ≤ 26 := by
  obtain ⟨h1, h2⟩ := (Dom_spl s).1 h
  have h3 : ∀ w ∈ spA 46 (bl s), Lbl (mB w) := fun w hw => h1 _ (List.mem_map_of_mem hw)
  refine ⟨fun b hb => ?_, ?_⟩
  · rcases spA_byte (c := 46) hb with e | ⟨w, hw, q⟩
    · rw [e]; decide
    · exact (Lbl_lin (h3 w hw)).1 b q
  · have h4 := spA_size (c := 46) (B := 8) (l := bl s) fun w hw => (h3 w hw).2.2
    have h5 : (spA 46 (bl s)).length ≤ 3 := by
      have : (spl s 46).length = (spA 46 (bl s)).length := List.length_map ..
      omega
    have h6 : (bl s).length = s.size := rfl
    have h7 : 9 * (spA 46 (bl s)).length ≤ 9 * 3 := Nat.mul_le_mul_left 9 h5
    omega
def hopS : ByteArray := ⟨#[72, 111, 112, 58, 32]⟩
def hopLine (n : ByteArray) : ByteArray := hopS ++ n
theorem hop_lin {n : ByteArray} (h : Dom n) : Lin (hopLine n) := by
  obtain ⟨h1, h2⟩ := Dom_lin h
  rw [Lin_iff]
  have e : bl (hopLine n) = [72, 111, 112, 58, 32] ++ bl n := bl_app _ _
  refine ⟨?_, ?_⟩
  · rw [e, LinL_app]
    exact ⟨by decide, h1⟩
  · have : (hopLine n).size = 5 + n.size := by rw [← bl_len, e, List.length_append, bl_len]; rfl
    omega
noncomputable def putA (a : Ad) : ByteArray := bif bOf (AdNull a) then ⟨#[60, 62]⟩ else ⟨#[60]⟩ ++ a.user ++ ⟨#[64]⟩ ++ a.domain ++ ⟨#[62]⟩
theorem putA_y {a : Ad} (h : AdNull a) : putA a = ⟨#[60, 62]⟩ := by unfold putA; rw [bOf_y h]; rfl
theorem putA_n {a : Ad} (h : ¬ AdNull a) : putA a = ⟨#[60]⟩ ++ a.user ++ ⟨#[64]⟩ ++ a.domain ++ ⟨#[62]⟩ := by unfold putA; rw [bOf_n h]; rfl
theorem putA_bl {a : Ad} (h : ¬ AdNull a) : bl (putA a) = [60] ++ bl a.user ++ [64] ++ bl a.domain ++ [62] := by
  rw [putA_n h]
  simp only [bl_app]
  rfl
theorem AdOk_nn {a : Ad} (h : AdOk a) : ¬ AdNull a := fun q => by
  have := h.1.2.1
  rw [q.1] at this
  exact absurd this (by decide)
theorem putA_lin {a : Ad} (h : AdOk a ∨ AdNull a) : Lin (putA a) := by
  by_cases hn : AdNull a
  · rw [putA_y hn, Lin_iff]
    exact ⟨by decide, by decide⟩
  · have ha := h.resolve_right hn
    obtain ⟨u1, u2⟩ := Lbl_lin ha.1
    obtain ⟨d1, d2⟩ := Dom_lin ha.2
    rw [Lin_iff, putA_bl hn]
    refine ⟨by simp only [LinL_app]; exact ⟨⟨⟨⟨by decide, u1⟩, by decide⟩, d1⟩, by decide⟩, ?_⟩
    have : (putA a).size = 3 + a.user.size + a.domain.size := by
      rw [← bl_len, putA_bl hn]
      simp only [List.length_append, List.length_cons, List.length_nil, bl_len]; omega
    omega
end Go.V
namespace Go.V
open Go Go.Proofs
set_option maxRecDepth 100000
set_option linter.unusedSimpArgs false
set_option linter.unusedVariables false
attribute [local go_sem_proc] Nat.reduceAdd Nat.reduceMul Nat.reduceLeDiff Nat.reduceEqDiff reduceCtorEq Nat.reduceSub Int.reduceNeg Nat.reduceMod Nat.reduceBEq Nat.reduceLT
attribute [local go_sem] aPickB.eq_1 aPickB.eq_2 aPick.eq_1 aBox.eq_1 aBox.eq_2 aAlloc.eq_1 aAlloc.eq_2 aLoadB.eq_1 aLoadB.eq_2 aLoadB.eq_3 aLoadB.eq_4 aLoadB.eq_5 aLoadA.eq_1 aLoadA.eq_2 aLoadA.eq_3 aLoadA.eq_4 aLoadA.eq_5 aLoadP.eq_1 aLoadP.eq_2 aLoadP.eq_3 aLoad.eq_1 aLoad.eq_2 aFAx.eq_1 aFAx.eq_2 aFAx.eq_3 aFA.eq_1 aFA.eq_2 aFx.eq_1 aF.eq_1 aF.eq_2 fld.eq_1 elT.eq_1 aIdxH.eq_1 aIdxH.eq_2 aIdxH.eq_3 aIdxH.eq_4 aIdxH.eq_5 aIdxP.eq_1 aIdxP.eq_2 aIndexAddr.eq_1 aIndexAddr.eq_2 aIndexAddr.eq_3 isStr.eq_1 aIndex.eq_1 aSlStr.eq_1 aSlRo.eq_1 aSlZ.eq_1 aSlZ.eq_2 aSlice.eq_1 aSlice.eq_2 aSlice.eq_3 bnd.eq_1 bnd.eq_2 aBuildO.eq_1 aBuildO.eq_2 aBuild.eq_1 aNewArr.eq_1 aNewArr.eq_2 aBS.eq_1 aBS.eq_2 aBuildSlice.eq_1 aBuildSlice.eq_2 aMakeSlice.eq_1 appDeep.eq_1 aApp2.eq_1 aAppend.eq_1 aAppend.eq_2 aStoreB.eq_1 aStoreA.eq_1 obFlat.eq_1 aStore2.eq_1 aStore2.eq_2 aStoreP.eq_1 aStoreP.eq_2 aStore.eq_1 aStore.eq_2 isShl.eq_1 isShl.eq_2 isBool.eq_1 aBinI.eq_1 aBinI.eq_2 aBinB.eq_1 aBinB.eq_2 aEq.eq_1 aEq.eq_2 aEq.eq_3 aEq.eq_4 aEqG.eq_1 aEqG.eq_2 aBin.eq_1 aBin.eq_2 aBin.eq_3 aBin.eq_4 aUn.eq_1 aUn.eq_2 aLenO.eq_1 aLenS.eq_1 aLenS.eq_2 aLenS.eq_3 aLenT.eq_1 aLen.eq_1 aLen.eq_2 aLen.eq_3 bytesOb.eq_1 bytesOb.eq_2 bytesOf.eq_1 bytesOf.eq_2 aNums.eq_1 aNums.eq_2 isU8.eq_1 aCvI.eq_1 aCvS.eq_1 aCvB.eq_1 aCvB.eq_2 aCvT.eq_1 aConv.eq_1 aConv.eq_2 aConv.eq_3 aConv.eq_4 aExO.eq_1 aExO.eq_2 aExtract.eq_1 aNil.eq_1 aNil.eq_2 aNil.eq_3 aCallS.eq_1 aCallS.eq_2 aCallR.eq_1 aCallR.eq_2 aCallK.eq_1 aCallK.eq_2 aCallK.eq_3 aCall.eq_1 aCall.eq_2 takeO.eq_1 AS.takeV.eq_1 AS.takeV.eq_2 AS.takeV.eq_3 AS.takeV.eq_4 AS.takeV.eq_5 AS.takeV.eq_6 AS.takeV.eq_7 AV.oldM.eq_1 AV.oldM.eq_2 AV.oldM.eq_3 AV.oldM.eq_4 AV.oldM.eq_5 AV.oldM.eq_6 AV.oldM.eq_7 AV.oldM.eq_8 AV.oldM.eq_9 AV.oldM.eq_10 AV.oldM.eq_11 AV.oldML.eq_1 AV.oldML.eq_2 subL.eq_1 subL.eq_2 back.eq_1 back.eq_2 back.eq_3 back.eq_4 backL.eq_1 backI.eq_1 backI.eq_2 backI.eq_3 backI.eq_4 backIL.eq_1 aBuiltin.eq_1 aBuiltin.eq_2 aBuiltin.eq_3 aCallee.eq_1 aCallee.eq_2 aCallee.eq_3 abin.eq_1 abin.eq_2 abin.eq_3 abin.eq_4 abin.eq_5 abin.eq_6 abin.eq_7 abin.eq_8 abin.eq_9 abin.eq_10 abin.eq_11 abin.eq_12 abin.eq_13 abin.eq_14 abin.eq_15 abin.eq_17 abin.eq_18 abin.eq_19 abin.eq_20 abin.eq_21 abin.eq_22 abin.eq_23 AS.ev.eq_1 AS.ev.eq_2 AS.ev.eq_3 AS.ev.eq_4 AS.evs.eq_1 AS.evs.eq_2 AS.evp.eq_1 AS.evp.eq_2 AS.put.eq_1 AS.put.eq_2 AS.remL.eq_1 AS.remL.eq_2 AV.has.eq_1 AV.has.eq_2 AV.has.eq_3 AV.has.eq_4 AV.has.eq_5 AV.has.eq_6 AV.has.eq_7 AV.has.eq_8 AV.has.eq_9 AV.has.eq_10 AV.has.eq_11 AV.hasL.eq_1 AV.hasL.eq_2 Ob.drop.eq_1 Ob.drop.eq_2 Ob.drop.eq_3 Ob.drop.eq_4 AV.cells.eq_1 AV.cells.eq_2 AV.cells.eq_3 AV.cells.eq_4 AV.cells.eq_5 AS.snapT.eq_1 AS.snapT.eq_2 AS.snapT.eq_3 AS.snapT.eq_4 AS.snapT.eq_5 AS.snapT.eq_6 AS.snapT.eq_7 AS.snap.eq_1 AS.snap.eq_2 mapO.eq_1 mapO.eq_2 intern.eq_1 intern.eq_2 intern.eq_3 intern.eq_4 intern.eq_5 intern.eq_6 intern.eq_7 intern.eq_8 intern.eq_9 intern.eq_10 intern.eq_11 internL.eq_1 internL.eq_2 zipSl.eq_1 zipSl.eq_2 AV.ids.eq_1 AV.ids.eq_2 AV.ids.eq_3 AV.ids.eq_4 AV.ids.eq_5 AV.ids.eq_6 AV.ids.eq_7 AV.ids.eq_8 AV.ids.eq_9 AV.ids.eq_10 AV.ids.eq_11 AV.idsL.eq_1 AV.idsL.eq_2 AV.sub.eq_1 AV.sub.eq_2 AV.sub.eq_3 AV.sub.eq_4 AV.sub.eq_5 AV.sub.eq_6 AV.sub.eq_7 AV.sub.eq_8 AV.sub.eq_9 AV.sub.eq_10 AV.sub.eq_11 AV.subL.eq_1 AV.subL.eq_2 AS.frzL.eq_1 AS.frzL.eq_2 AS.absT.eq_1 AS.absT.eq_2 AS.absT.eq_4 AS.absL.eq_1 AS.absL.eq_2 AS.absOk.eq_1 AS.absOkL.eq_1 AS.absOkL.eq_2 hid.eq_1 hids.eq_1 hids.eq_2 AS.appBase.eq_1 AS.appBase.eq_2 AS.appSrc.eq_1 appFits.eq_1 appFits.eq_2 appFits.eq_3 avFill.eq_1 avFill.eq_2 avc.eq_1 avc.eq_2 avc1.eq_1 Kd.agg.eq_1 Kd.agg.eq_2 okR.eq_1 okR.eq_2 okR.eq_3 okR.eq_4 okR.eq_5 okR.eq_6 okR.eq_7 okR.eq_8 zt.eq_1 rvB.eq_1 rvP.eq_1 rvA.eq_1 rvA.eq_2 rv1.eq_1 outTO.eq_1 outT.eq_1 outT.eq_2 outT.eq_3 outTn.eq_1 outOO.eq_1 outO.eq_1 outO.eq_2 boxOf.eq_1 outP.eq_1 outP.eq_2 outP.eq_3 outP.eq_4 outP.eq_5 outP.eq_6 outP.eq_7 outP.eq_8 outPL.eq_1 outPL.eq_2 outI.eq_1 outI.eq_2 outI.eq_3 outI.eq_4 outI.eq_5 outIL.eq_1 outZ.eq_1 outZ.eq_2 outZ.eq_3 outZ.eq_4 outZ.eq_5 outZL.eq_1 finO.eq_1 finO.eq_2 fin.eq_1 fin.eq_2 fin.eq_3 cellAV.eq_1 cellAV.eq_2 numsOf.eq_1 numsOf.eq_2 aop.eq_1 aop.eq_2 aop.eq_3 aop.eq_4 aop.eq_5 aop.eq_6 aop.eq_7 aop.eq_8 aop.eq_9 aop.eq_10 aop.eq_11 aop.eq_12 aop.eq_13 aop.eq_14 aop.eq_15 aop.eq_16 aop.eq_17 aop.eq_18 aop.eq_19 aop.eq_20 aop.eq_21 aop.eq_22 aop.eq_23 aop.eq_24 aop.eq_25 aop.eq_26 tmpsOf.eq_1 tmpsOf.eq_2 tmpsOf.eq_3 tmpsOf.eq_4 tmpsOf.eq_5 AV.refs.eq_1 AV.refs.eq_2 AV.refs.eq_3 AV.refs.eq_4 AV.refs.eq_5 AV.refs.eq_6 AV.refs.eq_7 AV.refs.eq_8 AV.refs.eq_9 AV.refs.eq_10 AV.refs.eq_11 AV.refsL.eq_1 AV.refsL.eq_2 refsT.eq_1 refsT.eq_2 refsO.eq_1 refsO.eq_2 refsO.eq_3 refsO.eq_4 refsO.eq_5 refsO.eq_6 refsB.eq_1 refsB.eq_2 clos.eq_1 clos.eq_2 keepL.eq_1 keepL.eq_2 AV.hasM.eq_1 AV.hasM.eq_2 AV.hasM.eq_3 AV.hasM.eq_4 AV.hasM.eq_5 AV.hasM.eq_6 AV.hasM.eq_7 AV.hasM.eq_8 AV.hasM.eq_9 AV.hasM.eq_10 AV.hasM.eq_11 AV.hasML.eq_1 AV.hasML.eq_2 Ob.dropM.eq_1 Ob.dropM.eq_2 Ob.dropM.eq_3 Ob.dropM.eq_4 nsC.eq_1 nsC.eq_2 okGuard.eq_1 okGuard.eq_2 AS.purges.eq_1 AS.purges.eq_2 dropMB.eq_1 dropMB.eq_2 newB.eq_1 newB.eq_2 ptB.eq_1 ptB.eq_2 lookC.eq_1 lookC.eq_2 dropB.eq_1 dropB.eq_2 leS.eq_1 leS.eq_2 leT.eq_1 leT.eq_2 AS.mvs.eq_1 AS.mvs.eq_2 AS.mvA.eq_1 AS.mvA.eq_2 AS.mvB.eq_1 aSetO.eq_1 aSetO.eq_2 aSh.eq_1 aSh.eq_2 arK.eq_1 aIdxA.eq_1 aIdxA.eq_2 arT.eq_1 aSlHB.eq_1 aSlHB.eq_2 aSlHO.eq_1 aSlHZ.eq_1 aSlHZ.eq_2 isSlT.eq_1 isNilC.eq_1 aNilO.eq_1 aNilX.eq_1 aNilX.eq_2 aNilX.eq_3 aNilC.eq_1 aNilC.eq_2 aBinQ.eq_1 aBinQ.eq_2 aMin.eq_1 flT.eq_1 flT.eq_2 flT.eq_3 mpT.eq_1 aMkMap.eq_1 aMkMap.eq_2 strA.eq_1 keyMK.eq_1 keyMK.eq_2 keyMK.eq_3 mkB.eq_1 mkB.eq_2 mkB.eq_3 aMp2.eq_1 aMp1.eq_1 aMp0.eq_1 aMapU.eq_1 aLk2.eq_1 aLk2.eq_2 aLk1.eq_1 aLk0.eq_1 aLookup.eq_1 aLenMO.eq_1 aLenM.eq_1 glV.eq_1 glV.eq_2 evG.eq_1 evG.eq_2 evG.eq_3 evG.eq_4 lkHitO.eq_1 lkHitO.eq_2 lkHitO.eq_3 lkHitO.eq_4 lkHit.eq_1 lkHit.eq_2 lkF.eq_1 lkF.eq_2 lkFind.eq_1 lkFind.eq_2 lkV.eq_1 lkV.eq_2 lkV.eq_3 lkV.eq_4 lkV.eq_5 AS.lkO.eq_1 AS.lkO.eq_2 AS.lkOf.eq_1 rawT.eq_1 rawT.eq_2 rawT.eq_3 rawT.eq_4 rawT.eq_5 rawT.eq_6 rawOf.eq_1 rawOf.eq_2 rawOf.eq_3 rawOf.eq_4 rawOf.eq_5 rawOf.eq_6 rawOf.eq_7 rawOf.eq_8 rawOf.eq_9 rawOf.eq_10 rawOf.eq_11 aLkR.eq_1 aLkR.eq_2 aLk.eq_1 aLk.eq_2 KL.eq_1 lkDrop.eq_1 lkDrop.eq_2 lkParO.eq_1 lkParO.eq_2 lkParO.eq_3 lkParO.eq_4 lkPar.eq_1 lkPar.eq_2 lkI.eq_1 lkI.eq_2 lkIds.eq_1 lkIds.eq_2 adLd.eq_1 run_nil run_b run_l run_skip run_label run_seq run_cond brV_b brB_t brB_f run_block run_exit run_ret run_region runX_nil runX_c runX_c' runX_b runX_b' runX_l runX_l' exB_t exB_f run_o run_op run_opg gV_b gV_t gB_tt gB_ff gB_tf gB_ft rs_eq kv KI aLenN aBS1 aApp1 aStore1 szOk gv gd s0 idOf look_cons lookC frzU_t frzU_f orT orF drop_any drop_nil drop_t drop_h drop_pb drop_pa drop_agg drop_tup drop_fn dropB kill_eq set_eq rem_eq re_eq up_eq get_eq ob_eq Ob.drop apl fpl plainTy AS.frz splice cond_true cond_false List.map_cons List.map_nil List.drop_zero List.drop_succ_cons List.drop_nil List.take_zero List.take_succ_cons List.take_nil List.getElem?_cons_zero List.getElem?_cons_succ List.getElem?_nil List.length_cons List.length_nil Option.map_some Option.map_none Option.bind_some Option.bind_none List.cons_append List.nil_append List.append_nil Option.getD_some Option.getD_none List.all_cons List.all_nil Bool.and_true Bool.true_and Bool.or_false Bool.false_or Bool.or_true Bool.true_or List.flatten_cons List.flatten_nil List.replicate_succ List.replicate_zero and_true true_and avOf_t avOf_f agg_bool agg_int agg_str agg_slice agg_struct agg_func agg_ptr agg_map avc_bool avc_int avc_str avc_fn avc1_bool avc1_int avc1_str avc1_fn zt_bool zt_int zt_str cells_nil cells_t cells_h cells_pb cells_fn snap_t snap_nil snap_h snap_pb snap_fn rv1_one rv1_two outI_t outI_oh outI_on outI_any outI_nil outZ_th outZ_tt outZ_tn outZ_o outZ_any outZ_nil outIL_nil outZL_nil finN finR ne_eq not_false_eq_true not_true_eq_false List.nodup_nil List.not_mem_nil false_implies implies_true eq_self true_or or_true Option.some.injEq shl_add shl_sub shl_mul shl_quo shl_rem shl_and shl_or shl_xor shl_andNot shl_eql shl_neq shl_lss shl_leq shl_gtr shl_geq shl_shr shl_shl appDeep_none appDeep_sn appSrc_h appSrc_nil fits_ft fits_tn fits_tf isStr_slice obFlat_box Nat.le_refl nbeq_self List.length_map updZ_s updZ_n dropM_eq purge_eq newIds_cons newIds_nil purgeT_nil purgeT_cons memN_cons memN_nil bd_d bd_c bd_g bd_p bd_t bd_o preds_nil preds_cons hasIns insB List.any_cons List.any_nil adK_eq adr_nil adG_eq kdOp noLen creates Op.operands Call.operands nsOf adT adI adJ plainB rst List.append_eq nsD_f nsD_n nsD_t nOf_0 nOf_1 nOf_2 chO_0 chO_1 chO_2 keepK_0 keepK_1 keepK_2 eqRes AS.mv fits KM aCallM notNew kdCall arK_i64 arK_i32 arK_u8 arK_u64 arT_sl isNilC_t isNilC_f isNilC_g isNilC_i isNilC_b isNilC_s isNilC_a isNilC_n andBF andBT aCallK_2 ble_dec hid_t hid_nil hid_any hid_pb hid_fn absOk_t absOk_nil absOk_pb absOk_h absOkO_1 decide_true decide_false Array.toList_append chunk_0 chunk_1 chunk_2 chunk_3 back_t back_nil back_ht backL_nil backI_t backI_nil backI_ht backIL_nil AS.mvJ nbeq_dec runR_f runR_t loadB Option.isSome_some Option.isSome_none nodup1 adr_none adr_some adO_s adV_b adV_t adB_tt adB_ff adB_tf adB_ft adS_eq lenL.eq_1 lenO.eq_1 lenO.eq_2 lenV.eq_1 lenV.eq_2 lenV.eq_3 lenV.eq_4 optN optS absT_ft
attribute [local go_sem] ty3 ty4 ty5 ty9 ty21 ty22 ty23 ty25 ty27 ty28 ty29 ty31 ty33 ty43 ty45 ty46 ty48 ty54 ty57 ty59 ty60 ty62 ty73 ty75 ty91 ty96 ty98 ty101 ty104 ty120 ty125 ty129 ty146 ty166 ty207 ty220 ty237 lv27 lv91 lv104 lv120 zb4 leS leT fits AS.mvs encStr_eq aIdx_str EStr_dec decStrs decStrs0 EStr_enc EStr_n encInt_eq aIdx_int EInt_dec decInts decInts0 EInt_enc EInt_n AllV_Int len_Int lc_enc l0_enc asl_enc ag_enc aow_enc ABool_enc AInt_enc AStr_enc AU8_enc ABool_dec AInt_dec AStr_dec AU8_dec asl_dec ag_dec aow_dec bind_some pr2.eq_1 l0_nil lc_cons unT.eq_1 K0.eq_1 M0.eq_1 KI AllV_Str len_Str ctR_eq ctM_eq ro_kd ro_ro mu_kd mu_mu encAd_eq aIdx_Ad EAd_dec decAds decAds0 EAd_enc EAd_n len_Ad Ad_eta AllV_Ad encRc_eq aIdx_Rc ERc_dec decRcs decRcs0 ERc_enc ERc_n len_Rc Rc_eta AllV_Rc encIm_eq aIdx_Im EIm_dec decIms decIms0 EIm_enc EIm_n len_Im Im_eta mkIm.eq_1 owIm_eq AIm_enc AIm_dec encSp_eq aIdx_Sp ESp_dec decSps decSps0 ESp_enc ESp_n len_Sp Sp_eta mkSp.eq_1 owSp_eq ASp_enc ASp_dec encWy_eq aIdx_Wy EWy_dec decWys decWys0 EWy_enc EWy_n len_Wy Wy_eta AllV_Wy encCf_eq aIdx_Cf ECf_dec decCfs decCfs0 ECf_enc ECf_n len_Cf Cf_eta mkCf.eq_1 owCf_eq ACf_enc ACf_dec encGm_eq aIdx_Gm EGm_dec decGms decGms0 EGm_enc EGm_n len_Gm Gm_eta mkGm.eq_1 owGm_eq AGm_enc AGm_dec encBx_eq aIdx_Bx EBx_dec decBxs decBxs0 EBx_enc EBx_n len_Bx Bx_eta mkBx.eq_1 owBx_eq ABx_enc ABx_dec encLs_eq aIdx_Ls ELs_dec decLss decLss0 ELs_enc ELs_n len_Ls Ls_eta AllV_Ls encHs_eq aIdx_Hs EHs_dec decHss decHss0 EHs_enc EHs_n len_Hs Hs_eta mkHs.eq_1 owHs_eq AHs_enc AHs_dec encWd_eq aIdx_Wd EWd_dec decWds decWds0 EWd_enc EWd_n len_Wd Wd_eta mkWd.eq_1 owWd_eq AWd_enc AWd_dec
section
open Go.Lib
theorem at_lbl {s : ByteArray} (h : Lbl s) : ¬ (64 : UInt8) ∈ bl s := fun q => by
  obtain ⟨j, hj, e⟩ := byte_mem q
  have := h.1 j hj
  rw [e] at this
  exact absurd this (by unfold isLc; decide)
theorem at_dom {s : ByteArray} (h : Dom s) : ¬ (64 : UInt8) ∈ bl s := fun q => by
  obtain ⟨h1, _⟩ := (Dom_spl s).1 h
  rcases spA_byte (c := 46) q with e | ⟨w, hw, q⟩
  · exact absurd e (by decide)
  · exact at_lbl (h1 _ (List.mem_map_of_mem hw)) q
theorem splitN_no {c : UInt8} : ∀ {l : List UInt8} (m : Nat), ¬ c ∈ l → splitN c m l = [l]
  | _, 0, _ => by simp [splitN]
  | [], m + 1, _ => by simp [splitN]
  | x :: r, m + 1, h => by
    simp only [List.mem_cons, not_or] at h
    rw [splitN, if_neg (fun e => h.1 e.symm), splitN_no (m + 1) h.2]
theorem splitN_at {c : UInt8} : ∀ {u d : List UInt8} (m : Nat), ¬ c ∈ u → splitN c (m + 1) (u ++ c :: d) = u :: splitN c m d
  | [], d, m, _ => by simp [splitN]
  | x :: r, d, m, h => by
    simp only [List.mem_cons, not_or] at h
    rw [List.cons_append, splitN, if_neg (fun e => h.1 e.symm), splitN_at m h.2]
theorem cut_at {u d : List UInt8} (hu : ¬ (64 : UInt8) ∈ u) (hd : ¬ (64 : UInt8) ∈ d) : cutL (mB (u ++ 64 :: d)) 64 2 = [mB u, mB d] := by
  unfold cutL
  rw [bl_mk, splitN_at 1 hu, splitN_no 1 hd]; rfl
theorem cut_two {s : ByteArray} (h : (cutL s 64 2).length = 2) : s = mB (bl ((cutL s 64 2).getD 0 default) ++ 64 :: bl ((cutL s 64 2).getD 1 default)) := by
  by_cases h1 : (64 : UInt8) ∈ bl s
  · obtain ⟨u, r, e, hu⟩ := List.eq_append_cons_of_mem h1
    by_cases h2 : (64 : UInt8) ∈ r
    · obtain ⟨v, t, e2, hv⟩ := List.eq_append_cons_of_mem h2
      unfold cutL at h
      rw [e, splitN_at 1 hu, e2, splitN_at 0 hv] at h
      simp [splitN] at h
    · have : cutL s 64 2 = [mB u, mB r] := by rw [← mk_bl s, e]; exact cut_at hu h2
      rw [this]
      refine bl_inj ?_
      rw [e]; rfl
  · unfold cutL at h
    rw [splitN_no 2 h1] at h
    cases h
theorem put_in {a : Ad} (h : AdOk a) : bl (putA a) = 60 :: ((bl a.user ++ 64 :: bl a.domain) ++ [62]) := by
  rw [putA_bl (AdOk_nn h)]; simp
def RdA (s : ByteArray) : Prop := ∃ a, (AdOk a ∨ AdNull a) ∧ putA a = s
open Classical in
noncomputable def getA (s : ByteArray) : Ad := if h : RdA s then h.choose else ⟨⟨#[]⟩, ⟨#[]⟩⟩
theorem inn_ex (s : ByteArray) {l : List UInt8} (h : bl s = 60 :: (l ++ [62])) : s.extract 1 (s.size - 1) = mB l := by
  refine bl_inj ?_
  have e : s.size = l.length + 2 := by rw [← bl_len, h]; simp
  rw [bl_extract, h, e, bl_mk]
  simp
theorem putA_inj {a b : Ad} (ha : AdOk a ∨ AdNull a) (hb : AdOk b ∨ AdNull b) (h : putA a = putA b) : a = b := by
  have key : ∀ {x y : Ad}, AdOk x → AdNull y → putA x = putA y → False := fun {x y} hx hy e => by
    have := congrArg bl e
    rw [put_in hx, putA_y hy] at this
    have := congrArg List.length this
    have e2 : (bl (⟨#[60, 62]⟩ : ByteArray)).length = 2 := rfl
    rw [e2] at this
    simp at this
    omega
  rcases ha with ha | ha
  · rcases hb with hb | hb
    · have e1 := inn_ex (putA a) (put_in ha)
      have e2 := inn_ex (putA b) (put_in hb)
      rw [h, e2] at e1
      have e3 := cut_at (at_lbl ha.1) (at_dom ha.2)
      rw [← e1, cut_at (at_lbl hb.1) (at_dom hb.2)] at e3
      simp only [List.cons.injEq, and_true, mk_bl] at e3
      obtain ⟨u, d⟩ := a
      obtain ⟨v, w⟩ := b
      rw [show v = u from e3.1, show w = d from e3.2]
    · exact (key ha hb h).elim
  · rcases hb with hb | hb
    · exact (key hb ha h.symm).elim
    · obtain ⟨u, d⟩ := a
      obtain ⟨v, w⟩ := b
      rw [show u = _ from ha.1, show d = _ from ha.2, show v = _ from hb.1, show w = _ from hb.2]
theorem getA_eq {s : ByteArray} {a : Ad} (ha : AdOk a ∨ AdNull a) (h : putA a = s) : RdA s ∧ getA s = a := by
  have hr : RdA s := ⟨a, ha, h⟩
  refine ⟨hr, ?_⟩
  unfold getA
  rw [dif_pos hr]
  exact putA_inj hr.choose_spec.1 ha (hr.choose_spec.2.trans h.symm)
theorem getA_no {s : ByteArray} (h : ¬ RdA s) : getA s = ⟨⟨#[]⟩, ⟨#[]⟩⟩ := dif_neg h
theorem getA_ok {s : ByteArray} (h : RdA s) : (AdOk (getA s) ∨ AdNull (getA s)) ∧ putA (getA s) = s := by
  unfold getA
  rw [dif_pos h]
  exact h.choose_spec
theorem rd_null : RdA ⟨#[60, 62]⟩ ∧ getA ⟨#[60, 62]⟩ = ⟨⟨#[]⟩, ⟨#[]⟩⟩ := getA_eq (.inr ⟨rfl, rfl⟩) (putA_y ⟨rfl, rfl⟩)
theorem rd_cut {s : ByteArray} (h : RdA s) (h0 : ¬ s = ⟨#[60, 62]⟩) : 2 ≤ s.size ∧ byteAt s 0 = 60 ∧ byteAt s (s.size - 1) = 62 ∧ cutL (s.extract 1 (s.size - 1)) 64 2 = [(getA s).user, (getA s).domain] ∧ AdOk (getA s) := by
  obtain ⟨h1, h2⟩ := getA_ok h
  have hk := h1.resolve_right fun q => h0 (by rw [← h2, putA_y q])
  have hb := put_in hk
  rw [h2] at hb
  have hs : s.size = ((bl (getA s).user ++ 64 :: bl (getA s).domain)).length + 2 := by rw [← bl_len, hb]; simp; omega
  refine ⟨by omega, ?_, ?_, ?_, hk⟩
  · rw [byteAt_bl, hb]; rfl
  · rw [byteAt_bl, hb, hs]
    simp only [List.getD_eq_getElem?_getD]
    rw [show ∀ n : Nat, n + 2 - 1 = n + 1 from fun n => rfl, List.getElem?_cons_succ, List.getElem?_append_right (Nat.le_refl _), Nat.sub_self]
    rfl
  · rw [inn_ex s hb, cut_at (at_lbl hk.1) (at_dom hk.2)]; rfl
theorem bl_mid {s : ByteArray} (h : 2 ≤ s.size) (h1 : byteAt s 0 = 60) (h2 : byteAt s (s.size - 1) = 62) : bl s = 60 :: (bl (s.extract 1 (s.size - 1)) ++ [62]) := by
  have e1 : (bl s).getD 0 0 = 60 := (byteAt_eq (c := 60)).1 h1
  have e2 : (bl s).getD (s.size - 1) 0 = 62 := (byteAt_eq (c := 62)).1 h2
  have d0 := drop_byte (s := s) (i := 0) (by omega)
  have d1 := drop_byte (s := s) (i := s.size - 1) (by omega)
  rw [e1] at d0
  rw [e2] at d1
  have e3 : (bl s).drop (s.size - 1 + 1) = [] := List.drop_of_length_le (by rw [bl_len]; omega)
  rw [e3] at d1
  rw [bl_extract]
  have : (bl s).drop 1 = ((bl s).drop 1).take (s.size - 1 - 1) ++ ((bl s).drop 1).drop (s.size - 1 - 1) := (List.take_append_drop _ _).symm
  rw [List.drop_drop, show 1 + (s.size - 1 - 1) = s.size - 1 by omega, d1] at this
  rw [← this]
  exact d0
theorem rd_mk {s : ByteArray} (h : 2 ≤ s.size) (h1 : byteAt s 0 = 60) (h2 : byteAt s (s.size - 1) = 62) (h3 : (cutL (s.extract 1 (s.size - 1)) 64 2).length = 2)
    (h4 : AdOk ⟨(cutL (s.extract 1 (s.size - 1)) 64 2).getD 0 default, (cutL (s.extract 1 (s.size - 1)) 64 2).getD 1 default⟩) :
    RdA s ∧ getA s = ⟨(cutL (s.extract 1 (s.size - 1)) 64 2).getD 0 default, (cutL (s.extract 1 (s.size - 1)) 64 2).getD 1 default⟩ := by
  refine getA_eq (.inl h4) (bl_inj ?_)
  rw [put_in h4, bl_mid h h1 h2]
  have := congrArg bl (cut_two h3)
  rw [this]; rfl
abbrev ltB : ByteArray := ⟨#[60]⟩
abbrev gtB : ByteArray := ⟨#[62]⟩
abbrev atB : ByteArray := ⟨#[64]⟩
noncomputable abbrev cutU (s : ByteArray) : ByteArray := ctU s atB
noncomputable abbrev cutD (s : ByteArray) : ByteArray := ctD s atB
theorem cut_one {u d : List UInt8} (hu : ¬ (64 : UInt8) ∈ u) : cutU (mB (u ++ 64 :: d)) = mB u ∧ cutD (mB (u ++ 64 :: d)) = mB d := by
  have hx : indexB (mB (u ++ 64 :: d)) atB = u.length := by
    have e1 : UInt8.ofNat (byteAt atB 0).toNat = 64 := rfl
    rw [← ix_one (show atB.size = 1 from rfl), e1, bl_mk]
    induction u with
    | nil => rfl
    | cons x r ih =>
      simp only [List.mem_cons, not_or] at hu
      rw [List.cons_append, indexByte, if_neg (by simpa using fun e => hu.1 e.symm), ih hu.2]
      rw [if_neg (by simp <;> omega), List.length_cons]; omega
  unfold cutU cutD ctU ctD
  rw [hx, if_pos (by omega), if_pos (by omega), Int.toNat_natCast, show atB.size = 1 from rfl]
  constructor
  · refine bl_inj ?_
    rw [bl_extract, bl_mk, bl_mk]
    simp
  · refine bl_inj ?_
    rw [bl_extract, bl_mk, bl_mk, List.drop_append, List.drop_of_length_le (by omega), show u.length + 1 - u.length = 1 by omega]
    rw [List.nil_append, List.drop_succ_cons, List.drop_zero, List.take_of_length_le (by rw [mk_size]; simp; omega)]
theorem cut_none : cutU ⟨#[]⟩ = ⟨#[]⟩ ∧ cutD ⟨#[]⟩ = ⟨#[]⟩ := by
  have hx : indexB ⟨#[]⟩ atB = -1 := by
    rw [← ix_one (show atB.size = 1 from rfl)]; rfl
  unfold cutU cutD ctU ctD
  rw [hx, if_neg (by decide), if_neg (by decide)]
  exact ⟨rfl, rfl⟩
theorem rd_impl {s : ByteArray} (h : RdA s) : Pre s ltB ∧ (⟨cutU (sufX (preX s ltB) gtB), cutD (sufX (preX s ltB) gtB)⟩ : Ad) = getA s := by
  obtain ⟨l, hl, hu⟩ : ∃ l, bl s = 60 :: (l ++ [62]) ∧ (⟨cutU (mB l), cutD (mB l)⟩ : Ad) = getA s := by
    obtain ⟨h1, h2⟩ := getA_ok h
    by_cases hn : AdNull (getA s)
    · refine ⟨[], by rw [← h2, putA_y hn]; rfl, ?_⟩
      have e := cut_none
      rw [show mB [] = ⟨#[]⟩ from rfl, e.1, e.2]
      generalize getA s = a at hn
      obtain ⟨u, d⟩ := a
      rw [show u = _ from hn.1, show d = _ from hn.2]
    · have hk := h1.resolve_right hn
      refine ⟨_, by rw [← h2]; exact put_in hk, ?_⟩
      obtain ⟨e1, e2⟩ := cut_one (d := bl (getA s).domain) (at_lbl hk.1)
      rw [h2] at *
      rw [e1, e2]; rfl
  have hs : s.size = l.length + 2 := by rw [← bl_len, hl]; simp
  have z1 : ltB.size = 1 := rfl
  have z2 : gtB.size = 1 := rfl
  have e1 : s.extract 0 ltB.size = ltB := by rw [z1]; exact bl_inj (by rw [bl_extract, hl]; rfl)
  have hp : Pre s ltB := ⟨by omega, e1⟩
  refine ⟨hp, ?_⟩
  have p1 : preX s ltB = mB (l ++ [62]) := by
    rw [preX_y hp, z1]
    refine bl_inj ?_
    rw [bl_extract, hl, bl_mk, List.drop_succ_cons, List.drop_zero, List.take_of_length_le (by rw [hs]; simp)]
  have p2 : sufX (mB (l ++ [62])) gtB = mB l := by
    have e2 : (mB (l ++ [62])).size = l.length + 1 := by rw [mk_size]; simp
    have e3 : (mB (l ++ [62])).extract l.length (l.length + 1) = gtB := bl_inj (by rw [bl_extract, bl_mk, List.drop_left]; simp; rfl)
    have e4 : (mB (l ++ [62])).extract 0 l.length = mB l := bl_inj (by rw [bl_extract, bl_mk, bl_mk]; simp)
    have hq : Suf (mB (l ++ [62])) gtB := ⟨by omega, by rw [z2, e2, Nat.add_sub_cancel]; exact e3⟩
    rw [sufX_y hq, z2, e2, Nat.add_sub_cancel, e4]
  rw [p1, p2]; exact hu
theorem rd_no {s : ByteArray} (h0 : ¬ s = ⟨#[60, 62]⟩) (h : (s.size : Int) < 2 ∨ ¬ byteAt s 0 = 60 ∨ ¬ byteAt s (s.size - 1) = 62 ∨ ¬ ((cutL (s.extract 1 (s.size - 1)) 64 2).length : Int) = 2 ∨
    ¬ AdOk ⟨(cutL (s.extract 1 (s.size - 1)) 64 2).getD 0 default, (cutL (s.extract 1 (s.size - 1)) 64 2).getD 1 default⟩) : ¬ RdA s := fun q => by
  obtain ⟨h1, h2, h3, h4, h5⟩ := rd_cut q h0
  rw [h4] at h
  rcases h with h | h | h | h | h
  · omega
  · exact h h2
  · exact h h3
  · exact h rfl
  · exact h h5
theorem rd_no2 {s : ByteArray} (h : ¬ Pre s ltB ∨ ¬ (AdOk ⟨cutU (sufX (preX s ltB) gtB), cutD (sufX (preX s ltB) gtB)⟩ ∨ AdNull ⟨cutU (sufX (preX s ltB) gtB), cutD (sufX (preX s ltB) gtB)⟩) ∨ ¬ putA ⟨cutU (sufX (preX s ltB) gtB), cutD (sufX (preX s ltB) gtB)⟩ = s) : ¬ RdA s := fun q => by
  obtain ⟨h1, h2⟩ := rd_impl q
  obtain ⟨h3, h4⟩ := getA_ok q
  rw [h2] at h
  rcases h with h | h | h
  · exact h h1
  · exact h h3
  · exact h h4
theorem tn0 : (0 : Int).toNat = 0 := rfl
theorem tn1 : (1 : Int).toNat = 1 := rfl
theorem tn2 : (2 : Int).toNat = 2 := rfl
theorem u64 : UInt8.ofNat (64 : Int).toNat = 64 := rfl
theorem tnp (n : Nat) : ((n : Int) - 1).toNat = n - 1 := by omega
end
noncomputable def rdB (s : ByteArray) : AV := .tup [.agg [.t (.v (.string (getA s).user)), .t (.v (.string (getA s).domain))], .t (.v (.bool (bOf (RdA s))))]
theorem rdB_eq (s : ByteArray) : rdB s = .tup [.agg [.t (.v (.string (getA s).user)), .t (.v (.string (getA s).domain))], .t (.v (.bool (bOf (RdA s))))] := rfl
theorem gU {s : ByteArray} {a : Ad} (h : RdA s ∧ getA s = a) : T.v (.string a.user) = T.v (.string (getA s).user) := by rw [h.2]
theorem gD {s : ByteArray} {a : Ad} (h : RdA s ∧ getA s = a) : T.v (.string a.domain) = T.v (.string (getA s).domain) := by rw [h.2]
theorem gT {s : ByteArray} {a : Ad} (h : RdA s ∧ getA s = a) : T.v (.bool true) = T.v (.bool (bOf (RdA s))) := by rw [bOf_y h.1]
theorem gU0 {s : ByteArray} (h : ¬ RdA s) : T.v (.string ⟨#[]⟩) = T.v (.string (getA s).user) := by rw [getA_no h]
theorem gD0 {s : ByteArray} (h : ¬ RdA s) : T.v (.string ⟨#[]⟩) = T.v (.string (getA s).domain) := by rw [getA_no h]
theorem gF {s : ByteArray} (h : ¬ RdA s) : T.v (.bool false) = T.v (.bool (bOf (RdA s))) := by rw [bOf_n h]
theorem rdB_solid (s : ByteArray) : Solid (rdB s) := .tup _ fun c hc => by
  simp only [List.mem_cons, List.not_mem_nil, or_false] at hc
  rcases hc with rfl | rfl
  · refine .agg _ fun c hc => ?_
    simp only [List.mem_cons, List.not_mem_nil, or_false] at hc
    rcases hc with rfl | rfl <;> exact .v _
  · exact .v _
def c171 : Ct := ctR (lc EAd.ag l0) (fun p => p.1.user.size ≤ 2000000 ∧ p.1.domain.size ≤ 2000000) (fun p => .t (.v (.string (putA p.1))))
section
attribute [local go_sem] c41
theorem good171 {G : Gt} (hG : OkG G) (hh : G.e 41 = roEnt 0 c41) : Gd G 171 (roEnt 0 c171) := by
  refine gR (dp := fun _ => true) (fn := Tryz.f171) (n := 1) (fun _ => rfl) (by kernel_rfl) rfl (by kernel_rfl) hG (Nat.le_of_ble_eq_true rfl) (by kernel_rfl) (by decide) (fun _ _ => .v _) ?_
  rintro ⟨a, ⟨⟩⟩ hpre
  simp -implicitDefEqProofs only [Tryz.f171, go_sem, hh] at hpre ⊢
  obtain ⟨h1, h2⟩ := hpre
  have e1 : (#[60] : Array UInt8).size = 1 := rfl
  have e2 : (#[64] : Array UInt8).size = 1 := rfl
  have e3 : (#[62] : Array UInt8).size = 1 := rfl
  repeat' (first | with_reducible apply And.intro | with_reducible intro _ | ((first | apply brB_split | apply aPickB_split | apply gB_split | apply adB_split) <;> intro hb <;> simp -implicitDefEqProofs only [hb, go_sem, hh] <;> try simp only [qz] at hb))
  all_goals (try simp only [maxLen] at *)
  all_goals first
    | rfl
    | omega
    | (rw [putA_y (by assumption)]; done)
    | (rw [putA_n hb]; done)
    | trace_state
end
def c146 : Ct := ctR (lc AStr l0) (fun p => p.1.size ≤ 2000000) (fun p => rdB p.1)
section
attribute [local go_sem] c168 c170 c169 c80 c171 bOf_t bOf_f cpB_eq ctB_eq rdB_eq
set_option maxHeartbeats 2000000 in
theorem good146 {G : Gt} (hG : OkG G) (hh : G.e 168 = roEnt 0 c168 ∧ G.e 170 = roEnt 0 c170 ∧ G.e 169 = roEnt 0 c169 ∧ G.e 80 = roEnt 0 c80 ∧ G.e 171 = roEnt 0 c171) : Gd G 146 (roEnt 0 c146) := by
  refine gR (dp := fun _ => true) (fn := Tryz.f146) (n := 1) (fun _ => rfl) (by kernel_rfl) rfl (by kernel_rfl) hG (Nat.le_of_ble_eq_true rfl) (by kernel_rfl) (by decide) (fun _ _ => rdB_solid _) ?_
  rintro ⟨s, ⟨⟩⟩ hpre
  simp -implicitDefEqProofs only [Tryz.f146, go_sem, hh] at hpre ⊢
  repeat' (first | with_reducible apply And.intro | with_reducible intro _ | ((first | apply brB_split | apply aPickB_split | apply gB_split | apply adB_split) <;> intro hb <;> simp -implicitDefEqProofs only [hb, go_sem, hh] <;> try simp only [qz] at hb))
  all_goals (try simp only [maxLen, Int.toNat_natCast] at *)
  all_goals first
    | with_reducible rfl
    | omega
    | decide
    | (show pairsB _ = true; rfl)
    | with_reducible assumption
    | exact Nat.le_trans (preX_le _ _) hpre
    | exact Nat.le_trans (sufX_le _ _) (Nat.le_trans (preX_le _ _) hpre)
    | exact Nat.le_trans (ctU_le _ _) (Nat.le_trans (sufX_le _ _) (Nat.le_trans (preX_le _ _) hpre))
    | exact Nat.le_trans (ctD_le _ _) (Nat.le_trans (sufX_le _ _) (Nat.le_trans (preX_le _ _) hpre))
    | with_reducible exact gU0 (rd_no2 (by first | exact .inl (by with_reducible assumption) | exact .inr (.inl (by with_reducible assumption)) | exact .inr (.inr (by with_reducible assumption))))
    | with_reducible exact gD0 (rd_no2 (by first | exact .inl (by with_reducible assumption) | exact .inr (.inl (by with_reducible assumption)) | exact .inr (.inr (by with_reducible assumption))))
    | with_reducible exact gF (rd_no2 (by first | exact .inl (by with_reducible assumption) | exact .inr (.inl (by with_reducible assumption)) | exact .inr (.inr (by with_reducible assumption))))
    | with_reducible exact gU (getA_eq (by with_reducible assumption) (by with_reducible assumption))
    | with_reducible exact gD (getA_eq (by with_reducible assumption) (by with_reducible assumption))
    | with_reducible exact gT (getA_eq (by with_reducible assumption) (by with_reducible assumption))
    | trace_state
end
theorem Dom_ne {s : ByteArray} (h : Dom s) : ¬ s.size = 0 := fun q => by
  rw [size0 q] at h
  have := (h.1 ⟨#[]⟩ (by simp [cutL, splitN, bl, mB])).2.1
  exact absurd this (by decide)
theorem HopT {s : ByteArray} : HopL s ↔ 5 < s.size ∧ s.extract 0 5 = hopP ∧ Dom (s.extract 5 s.size) := by
  have e : hopP.size = 5 := rfl
  unfold HopL Pre
  rw [e]
  constructor
  · rintro ⟨⟨h1, h2⟩, h3⟩
    refine ⟨?_, h2, h3⟩
    have := Dom_ne h3
    rw [ByteArray.size_extract] at this
    omega
  · rintro ⟨h1, h2, h3⟩
    exact ⟨⟨by omega, h2⟩, h3⟩
noncomputable def hopN : List ByteArray → Nat
  | [] => 0
  | x :: r => bif bOf (HopL x) then hopN r + 1 else 0
theorem hopN_le : ∀ xs : List ByteArray, hopN xs ≤ xs.length
  | [] => Nat.le_refl _
  | x :: r => by
    have := hopN_le r
    unfold hopN
    cases bOf (HopL x) <;> simp <;> omega
theorem hopN_yes {xs : List ByteArray} {i : Nat} (h : i < xs.length) (ha : HopL (xs.getD i default)) : hopN (xs.drop i) = hopN (xs.drop (i + 1)) + 1 := by
  rw [getD_drop h, hopN, bOf_y ha]; rfl
theorem hopN_no {xs : List ByteArray} {i : Nat} (h : i < xs.length) (ha : ¬ HopL (xs.getD i default)) : hopN (xs.drop i) = 0 := by
  rw [getD_drop h, hopN, bOf_n ha]; rfl
theorem hopN_end {xs : List ByteArray} {i : Nat} (h : xs.length ≤ i) : hopN (xs.drop i) = 0 := by
  rw [List.drop_eq_nil_of_le h, hopN]
theorem hop_ix : ∀ (xs : List ByteArray) (k : Nat), (ixP (fun x => ¬ HopL x) k xs = -1 ∧ hopN xs = xs.length) ∨ ixP (fun x => ¬ HopL x) k xs = k + hopN xs
  | [], k => .inl ⟨rfl, rfl⟩
  | x :: r, k => by
    rw [ixP, hopN]
    by_cases h : HopL x
    · rw [bOf_y h, bOf_n (fun q => q h), cond_false, cond_true]
      rcases hop_ix r (k + 1) with ⟨h1, h2⟩ | h1
      · exact .inl ⟨h1, by rw [h2]; rfl⟩
      · exact .inr (by rw [h1]; omega)
    · rw [bOf_n h, bOf_y h, cond_true, cond_false]
      exact .inr (by omega)
abbrev ndW : ByteArray := ⟨#[110, 111, 116, 32, 100, 101, 108, 105, 118, 101, 114, 101, 100, 58]⟩
def Rep0 (xs : List ByteArray) : Prop := hopN xs + 1 < xs.length ∧ xs.getD (hopN xs) default = ndW
def Rep (xs : List ByteArray) : Prop := Rep0 xs ∧ RdA (xs.getD (hopN xs + 1) default) ∧ ¬ AdNull (getA (xs.getD (hopN xs + 1) default))
open Classical in
noncomputable def repA (xs : List ByteArray) : Ad := if Rep0 xs then getA (xs.getD (hopN xs + 1) default) else ⟨⟨#[]⟩, ⟨#[]⟩⟩
open Classical in
noncomputable def whoS (xs : List ByteArray) : ByteArray := if Rep xs then xs.getD (hopN xs + 1) default else ⟨#[]⟩
theorem whoS_y {xs : List ByteArray} (h : Rep xs) : whoS xs = xs.getD (hopN xs + 1) default := if_pos h
theorem whoS_n {xs : List ByteArray} (h : ¬ Rep xs) : whoS xs = ⟨#[]⟩ := if_neg h
theorem repA_y {xs : List ByteArray} (h : Rep0 xs) : repA xs = getA (xs.getD (hopN xs + 1) default) := if_pos h
theorem repA_n {xs : List ByteArray} (h : ¬ Rep0 xs) : repA xs = ⟨⟨#[]⟩, ⟨#[]⟩⟩ := if_neg h
theorem putA_ne (a : Ad) : ¬ putA a = ⟨#[]⟩ := fun q => by
  have := congrArg bl q
  by_cases h : AdNull a
  · rw [putA_y h] at this; cases this
  · rw [putA_bl h] at this
    simp only [List.append_assoc, List.cons_append, List.nil_append] at this
    cases this
theorem whoS_ne {xs : List ByteArray} : ¬ whoS xs = ⟨#[]⟩ ↔ Rep xs := by
  by_cases h : Rep xs
  · rw [whoS_y h]
    refine ⟨fun _ => h, fun _ q => ?_⟩
    have := (getA_ok h.2.1).2
    rw [q] at this
    exact putA_ne _ this
  · rw [whoS_n h]
    exact ⟨fun q => absurd rfl q, fun q => absurd q h⟩
theorem who_put {xs : List ByteArray} {a : Ad} (ha : AdOk a) : whoS xs = putA a ↔ Rep xs ∧ repA xs = a := by
  constructor
  · intro h
    have hr : Rep xs := whoS_ne.1 fun q => putA_ne a (h.symm.trans q)
    refine ⟨hr, ?_⟩
    rw [repA_y hr.1]
    rw [whoS_y hr] at h
    obtain ⟨h1, h2⟩ := getA_ok hr.2.1
    exact putA_inj h1 (.inl ha) (h2.trans h)
  · rintro ⟨hr, h⟩
    rw [repA_y hr.1] at h
    rw [whoS_y hr, ← h]
    exact (getA_ok hr.2.1).2.symm
noncomputable def repB (xs : List ByteArray) : AV := .tup [.agg [.t (.v (.string (repA xs).user)), .t (.v (.string (repA xs).domain))], .t (.v (.bool (bOf (Rep xs))))]
theorem repB_eq (xs : List ByteArray) : repB xs = .tup [.agg [.t (.v (.string (repA xs).user)), .t (.v (.string (repA xs).domain))], .t (.v (.bool (bOf (Rep xs))))] := rfl
theorem rep0_mk {xs : List ByteArray} (h : hopN xs + 1 < xs.length) (h2 : xs.getD (hopN xs) default = ndW) : Rep0 xs := ⟨h, h2⟩
theorem rep0_no {xs : List ByteArray} (h : xs.length ≤ hopN xs + 1 ∨ ¬ xs.getD (hopN xs) default = ndW) : ¬ Rep0 xs := fun q => h.elim (fun e => by have := q.1; omega) fun e => e q.2
theorem rep_mk {xs : List ByteArray} (h : Rep0 xs) (h1 : RdA (xs.getD (hopN xs + 1) default)) (h2 : ¬ AdNull (getA (xs.getD (hopN xs + 1) default))) : Rep xs := ⟨h, h1, h2⟩
theorem rep_no {xs : List ByteArray} (h : ¬ Rep0 xs ∨ ¬ RdA (xs.getD (hopN xs + 1) default) ∨ AdNull (getA (xs.getD (hopN xs + 1) default))) : ¬ Rep xs := fun q => h.elim (fun e => e q.1) fun e => e.elim (fun e => e q.2.1) fun e => q.2.2 e
theorem rep_iff {xs : List ByteArray} (h : Rep0 xs) (h1 : RdA (xs.getD (hopN xs + 1) default)) : ¬ AdNull (getA (xs.getD (hopN xs + 1) default)) ↔ Rep xs := ⟨fun q => ⟨h, h1, q⟩, fun q => q.2.2⟩
theorem hU0 {xs : List ByteArray} (h : ¬ Rep0 xs) : T.v (.string ⟨#[]⟩) = T.v (.string (repA xs).user) := by rw [repA_n h]
theorem hD0 {xs : List ByteArray} (h : ¬ Rep0 xs) : T.v (.string ⟨#[]⟩) = T.v (.string (repA xs).domain) := by rw [repA_n h]
theorem hU1 {xs : List ByteArray} (h : Rep0 xs) : T.v (.string (getA (xs.getD (hopN xs + 1) default)).user) = T.v (.string (repA xs).user) := by rw [repA_y h]
theorem hD1 {xs : List ByteArray} (h : Rep0 xs) : T.v (.string (getA (xs.getD (hopN xs + 1) default)).domain) = T.v (.string (repA xs).domain) := by rw [repA_y h]
theorem hW {xs : List ByteArray} (h : Rep xs) : T.v (.string (xs.getD (hopN xs + 1) default)) = T.v (.string (whoS xs)) := by rw [whoS_y h]
theorem hW0 {xs : List ByteArray} (h : ¬ Rep xs) : T.v (.string ⟨#[]⟩) = T.v (.string (whoS xs)) := by rw [whoS_n h]
theorem tnp1 (n : Nat) : ((n : Int) + 1).toNat = n + 1 := by omega
theorem slc {xs : List ByteArray} {k : Nat} : List.drop k (List.take xs.length (xs.map encStr)) = (xs.drop k).map encStr := by
  rw [List.take_of_length_le (by rw [List.length_map]; exact Nat.le_refl _), List.map_drop]
theorem getD_dr {xs : List ByteArray} {k j : Nat} : (xs.drop k).getD j default = xs.getD (k + j) default := by
  simp only [List.getD_eq_getElem?_getD, List.getElem?_drop]
theorem repB_solid (xs : List ByteArray) : Solid (repB xs) := .tup _ fun c hc => by
  simp only [List.mem_cons, List.not_mem_nil, or_false] at hc
  rcases hc with rfl | rfl
  · refine .agg _ fun c hc => ?_
    simp only [List.mem_cons, List.not_mem_nil, or_false] at hc
    rcases hc with rfl | rfl <;> exact .v _
  · exact .v _
def c145 : Ct := ctR (lc EStr.asl l0) (fun p => ∀ s ∈ p.1, s.size ≤ 2000000) (fun p => .t (.v (.int .i64 (hopN p.1))))
section
attribute [local go_sem] c154 List.length_map ap_enc ap_dec AFn0_dec AFn0_enc Bool.not_true Bool.not_false ty146 lv27 AFStr_d0 AFStr_e0 AFStr_d1 AFStr_e1 AFStr_d2 AFStr_e2
theorem good145 {G : Gt} (hG : OkG G) (hh : G.e 154 = roEnt 0 c154) : Gd G 145 (roEnt 0 c145) := by
  refine gR (dp := fun _ => true) (fn := Tryz.f145) (n := 1) (fun _ => rfl) (by kernel_rfl) rfl (by kernel_rfl) hG (Nat.le_of_ble_eq_true rfl) (by kernel_rfl) (by decide) (fun _ _ => .v _) ?_
  rintro ⟨xs, ⟨⟩⟩ hpre
  simp -implicitDefEqProofs only [Tryz.f145, go_sem, hh] at hpre ⊢
  try dsimp only at hpre
  have hx := hop_ix xs 0
  have e0 : (fun x => ¬ HopL x) = FStr.sem .hop := rfl
  rw [e0] at hx
  have hl := hopN_le xs
  repeat' (first | with_reducible apply And.intro | with_reducible intro _ | ((first | apply brB_split | apply aPickB_split | apply gB_split | apply adB_split) <;> intro hb <;> simp -implicitDefEqProofs only [hb, go_sem, hh] <;> try simp only [qz] at hb))
  all_goals (try simp only [maxLen] at *)
  all_goals first
    | rfl
    | omega
    | exact hpre _ (by assumption)
    | (refine congrArg (fun n => T.v (.int .i64 n)) ?_; omega)
    | trace_state
end
def c103 : Ct := ctR (lc EStr.asl l0) (fun p => ∀ s ∈ p.1, s.size ≤ 2000000) (fun p => repB p.1)
section
attribute [local go_sem] c145 c146 c41 Int.toNat_natCast List.length_map List.length_drop slc getD_dr bOf_t bOf_f rdB_eq repB_eq
set_option maxHeartbeats 800000 in
theorem good103 {G : Gt} (hG : OkG G) (hh : G.e 145 = roEnt 0 c145 ∧ G.e 146 = roEnt 0 c146 ∧ G.e 41 = roEnt 0 c41) : Gd G 103 (roEnt 0 c103) := by
  refine gR (dp := fun _ => true) (fn := Tryz.f103) (n := 1) (fun _ => rfl) (by kernel_rfl) rfl (by kernel_rfl) hG (Nat.le_of_ble_eq_true rfl) (by kernel_rfl) (by decide) (fun _ _ => repB_solid _) ?_
  rintro ⟨xs, ⟨⟩⟩ hpre
  simp -implicitDefEqProofs only [Tryz.f103, go_sem, hh] at hpre ⊢
  try dsimp only at hpre
  have hl := hopN_le xs
  repeat' (first | with_reducible apply And.intro | with_reducible intro _ | ((first | apply brB_split | apply aPickB_split | apply gB_split | apply adB_split) <;> intro hb <;> simp -implicitDefEqProofs only [hb, go_sem, hh] <;> try simp only [qz] at hb))
  all_goals (try simp only [maxLen, tn0, tn1, Nat.add_zero, tnp1, Int.toNat_natCast] at *)
  all_goals first
    | with_reducible rfl
    | omega
    | decide
    | exact hpre _ (by assumption)
    | (show pairsB _ = true; rfl)
    | with_reducible assumption
    | exact hpre _ (getD_mem (by omega))
    | with_reducible exact hU0 (rep0_no (by first | exact .inl (by omega) | exact .inr (by with_reducible assumption)))
    | with_reducible exact hD0 (rep0_no (by first | exact .inl (by omega) | exact .inr (by with_reducible assumption)))
    | with_reducible exact hU1 (rep0_mk (by omega) (by with_reducible assumption))
    | with_reducible exact hD1 (rep0_mk (by omega) (by with_reducible assumption))
    | with_reducible exact uF (rep_no (by first | exact .inl (rep0_no (by first | exact .inl (by omega) | exact .inr (by with_reducible assumption))) | exact .inr (.inl (by with_reducible assumption)) | exact .inr (.inr (by with_reducible assumption))))
    | with_reducible exact uN (rep_iff (rep0_mk (by omega) (by with_reducible assumption)) (by with_reducible assumption))
    | with_reducible exact hW0 (rep_no (by first | exact .inl (rep0_no (by first | exact .inl (by omega) | exact .inr (by with_reducible assumption))) | exact .inr (.inl (by with_reducible assumption)) | exact .inr (.inr (by with_reducible assumption))))
    | with_reducible exact hW (rep_mk (rep0_mk (by omega) (by with_reducible assumption)) (by with_reducible assumption) (by with_reducible assumption))
    | trace_state
end
def KeepIm (g : Ls) (x : Im) : Prop := mkOf x.body = g.mark ∧ (((∃ r ∈ x.to, r.addr = g.addr) ∧ ¬ Rep x.body) ∨ (Rep x.body ∧ repA x.body = g.addr))
def KeepGm (g : Ls) (b : Bx) (m : Gm) : Prop := mkOf m.body = g.mark ∧ ((Rep m.body ∧ repA m.body = g.addr) ∨ (b.addr = g.addr ∧ (¬ AdNull m.frm ∨ ¬ Rep m.body)))
def Keeps (h : Hs) (g : Ls) : Prop := (∃ x ∈ h.spool.items, KeepIm g x) ∨ (∃ b ∈ h.boxes, ∃ m ∈ b.mails, KeepGm g b m) ∨ ∃ l ∈ h.lost, l.mark = g.mark
def InB (h : Hs) (g : Ls) : Prop := ∃ b ∈ h.boxes, b.addr = g.addr ∧ ∃ m ∈ b.mails, mkOf m.body = g.mark ∧ (¬ AdNull m.frm ∨ ¬ Rep m.body)
theorem Keeps_s {h : Hs} {g : Ls} : ((∃ x ∈ h.spool.items, KeepIm g x) ∨ (∃ b ∈ h.boxes, ∃ m ∈ b.mails, mkOf m.body = g.mark ∧ Rep m.body ∧ repA m.body = g.addr) ∨ (∃ l ∈ h.lost, l.mark = g.mark) ∨ InB h g) ↔ Keeps h g := by
  constructor
  · rintro (q | ⟨b, hb, m, hm, q1, q2⟩ | q | ⟨b, hb, q0, m, hm, q1, q2⟩)
    · exact .inl q
    · exact .inr (.inl ⟨b, hb, m, hm, q1, .inl q2⟩)
    · exact .inr (.inr q)
    · exact .inr (.inl ⟨b, hb, m, hm, q1, .inr ⟨q0, q2⟩⟩)
  · rintro (q | ⟨b, hb, m, hm, q1, q2 | ⟨q0, q2⟩⟩ | q)
    · exact .inl q
    · exact .inr (.inl ⟨b, hb, m, hm, q1, q2⟩)
    · exact .inr (.inr (.inr ⟨b, hb, q0, m, hm, q1, q2⟩))
    · exact .inr (.inr (.inl q))
theorem adE {a b : Ad} : ((false != (decide (a.user = b.user) && decide (a.domain = b.domain))) = true) = (a = b) := by
  rw [Ad_ext]; simp
theorem adF {a b : Ad} : ((false != (decide (a.user = b.user) && decide (a.domain = b.domain))) = false) = ¬ a = b := by
  rw [Ad_ext]; simp
theorem adE' {a b : Ad} : ((decide (a.user = b.user) && decide (a.domain = b.domain)) = true) = (a = b) := by
  rw [Ad_ext]; simp
theorem adF' {a b : Ad} : ((decide (a.user = b.user) && decide (a.domain = b.domain)) = false) = ¬ a = b := by
  rw [Ad_ext]; simp
theorem no_at {α : Type} [Inhabited α] {xs : List α} {P : α → Prop} (h : ∀ j, j < xs.length → ¬ P (xs.getD j default)) : ¬ ∃ x ∈ xs, P x := fun ⟨x, hx, q⟩ => mem_getD (P := fun x => ¬ P x) h x hx q
theorem yes_at {α : Type} [Inhabited α] {xs : List α} {P : α → Prop} {i : Nat} (hi : i < xs.length) (h : P (xs.getD i default)) : ∃ x ∈ xs, P x := ⟨_, getD_mem hi, h⟩
inductive FLs where
  | same (g : Ls)
def FLs.enc : FLs → AV
  | .same g => .t (.fn 108 [.rop [.v (.string g.mark), .v (.string g.addr.user), .v (.string g.addr.domain)]])
def FLs.dec : AV → Option FLs
  | .t (.fn 108 [.rop [.v (.string g0), .v (.string g1), .v (.string g2)]]) => some (.same ⟨g0, ⟨g1, g2⟩⟩)
  | _ => none
def FLs.sem : FLs → Ls → Prop
  | .same g, x => x.mark = g.mark
def FLs.pre : FLs → Ls → Prop
  | .same _, x => True
def AFLs : AD FLs where
  enc := FLs.enc
  dec := FLs.dec
  ed := fun f => by cases f <;> rfl
  de := fun x f h => by
    unfold FLs.dec at h
    split at h <;> cases h <;> rfl
theorem AFLs_d0 {g0 : ByteArray} {g1 : ByteArray} {g2 : ByteArray} : AFLs.dec (.t (.fn 108 [.rop [.v (.string g0), .v (.string g1), .v (.string g2)]])) = some (.same ⟨g0, ⟨g1, g2⟩⟩) := rfl
theorem AFLs_e0 {g : Ls} : AFLs.enc (.same g) = .t (.fn 108 [.rop [.v (.string g.mark), .v (.string g.addr.user), .v (.string g.addr.domain)]]) := rfl
def c108 : Ct := ctR (lc ELs.ag (lc ELs.ap l0)) (fun p => True) (fun p => .t (.v (.bool (bOf (p.1.mark = p.2.1.mark)))))
section
attribute [local go_sem] ap_enc ap_dec AFn0_dec AFn0_enc Bool.not_true Bool.not_false ty146 lv27
theorem good108 {G : Gt} (hG : OkG G) : Gd G 108 (roEnt 0 c108) := by
  refine gR (dp := fun _ => true) (fn := Tryz.f108) (n := 2) (fun _ => rfl) (by kernel_rfl) rfl (by kernel_rfl) hG (Nat.le_of_ble_eq_true rfl) (by kernel_rfl) (by decide) (fun _ _ => .v _) ?_
  rintro ⟨x, g, ⟨⟩⟩ hpre
  simp -implicitDefEqProofs only [Tryz.f108, go_sem] at hpre ⊢
  repeat' (first | with_reducible apply And.intro | with_reducible intro _ | ((first | apply brB_split | apply aPickB_split | apply gB_split | apply adB_split) <;> intro hb <;> simp -implicitDefEqProofs only [hb, go_sem] <;> try simp only [qz] at hb))
  all_goals first | rfl | omega | exact hpre | skip
  all_goals (try (simp only [bOf_not]; done))
  all_goals first | rfl | (rw [bOf_d]; done) | (rw [bOf_d, decide_eq_decide.2]; simp [Ad_ext]; done) | (rw [bOf_d]; simp [Ad_ext]; done)
end
def c147 : Ct := ctR (lc ELs.asl (lc AFLs l0)) (fun p => ∀ x ∈ p.1, p.2.1.pre x) (fun p => .t (.v (.int .i64 (ixP p.2.1.sem 0 p.1))))
section
attribute [local go_sem] c108 ap_enc ap_dec AFn0_dec AFn0_enc Bool.not_true Bool.not_false ty146 lv27 AFLs_d0 AFLs_e0
theorem good147 {G : Gt} (hG : OkG G) (hh : G.e 108 = roEnt 0 c108) : Gd G 147 (roEnt 0 c147) := by
  refine gR (dp := fun _ => true) (fn := Tryz.f147) (n := 2) (fun _ => rfl) (by kernel_rfl) rfl (by kernel_rfl) hG (Nat.le_of_ble_eq_true rfl) (by kernel_rfl) (by decide) (fun _ _ => .v _) ?_
  rintro ⟨xs, f, ⟨⟩⟩ hpre
  have hs := hpre
  dsimp only at hs ⊢
  cases f with
  | same g =>
    simp -implicitDefEqProofs only [Tryz.f147, go_sem, hh]
    repeat' (first | with_reducible apply And.intro | with_reducible intro _ | ((first | apply brB_split | apply aPickB_split | apply gB_split | apply adB_split) <;> intro hb <;> simp -implicitDefEqProofs only [hb, go_sem, hh] <;> try simp only [qz] at hb))
    all_goals first | rfl | omega | skip
    refine run_loop [] (ι := {i : Nat // i ≤ xs.length ∧ ixP (FLs.sem (.same g)) 0 xs = ixP (FLs.sem (.same g)) i (xs.drop i)}) (fun p => ⟨[(0, .t (.sl 3 (xs.map encLs))), (1, AFLs.enc (.same g)), (7, .t (.v (.int .i64 xs.length))), (8, .t (.v (.int .i64 p.1)))], []⟩) (fun p => xs.length - p.1) ⟨0, Nat.zero_le _, rfl⟩ rfl ?_ ?_
    · simp -implicitDefEqProofs only [go_sem, hh]
      try simp
    · rintro ⟨i, hi, hix⟩
      by_cases hlt : (i : Int) < xs.length
      · have hm : xs.getD (i : Int).toNat default ∈ xs := getD_mem (by omega)
        have hsz := hs _ hm
        cases hb : bOf ((xs.getD (i : Int).toNat default).mark = g.mark)
        · have hq := hb
          simp -implicitDefEqProofs only [hlt, hq, go_sem, hh]
          repeat' (first | with_reducible apply And.intro | with_reducible intro _ | ((first | apply brB_split | apply aPickB_split | apply gB_split | apply adB_split) <;> intro hb <;> simp -implicitDefEqProofs only [hb, go_sem, hh] <;> try simp only [qz] at hb))
          all_goals (try simp only [maxLen] at *)
          all_goals first | rfl | omega | with_reducible assumption | exact hsz | exact hsz.1 | exact hsz.2 | exact hsz.2 _ (by assumption) | exact hsz.2.1 | exact hsz.2.2.1 | exact hsz.2.2.2 | trivial | skip
          rw [bOf_f, Int.toNat_natCast] at hb
          refine ⟨⟨i + 1, by omega, ?_⟩, by dsimp only; omega, ?_⟩
          · rw [hix, ixP_no (p := FLs.sem (.same g)) (by omega) hb]
          · simp -implicitDefEqProofs only [go_sem, hh]
            try simp
        · have hq := hb
          simp -implicitDefEqProofs only [hlt, hq, go_sem, hh]
          repeat' (first | with_reducible apply And.intro | with_reducible intro _ | ((first | apply brB_split | apply aPickB_split | apply gB_split | apply adB_split) <;> intro hb <;> simp -implicitDefEqProofs only [hb, go_sem, hh] <;> try simp only [qz] at hb))
          all_goals (try simp only [maxLen] at *)
          all_goals first | rfl | omega | with_reducible assumption | exact hsz | exact hsz.1 | exact hsz.2 | exact hsz.2 _ (by assumption) | exact hsz.2.1 | exact hsz.2.2.1 | exact hsz.2.2.2 | trivial | skip
          rw [bOf_t, Int.toNat_natCast] at hb
          rw [hix, ixP_yes (p := FLs.sem (.same g)) (by omega) hb]
      · simp -implicitDefEqProofs only [hlt, go_sem, hh]
        repeat' (first | with_reducible apply And.intro | with_reducible intro _ | ((first | apply brB_split | apply aPickB_split | apply gB_split | apply adB_split) <;> intro hb <;> simp -implicitDefEqProofs only [hb, go_sem, hh] <;> try simp only [qz] at hb))
        all_goals first | rfl | omega | skip
        all_goals (rw [hix, ixP_end (by omega)])
end
def c107 : Ct := ctR (lc ELs.asl (lc AFLs l0)) (fun p => ∀ x ∈ p.1, p.2.1.pre x) (fun p => .t (.v (.bool (bOf (∃ x ∈ p.1, p.2.1.sem x)))))
section
attribute [local go_sem] c147 ap_enc ap_dec AFn0_dec AFn0_enc Bool.not_true Bool.not_false ty146 lv27 AFLs_d0 AFLs_e0
theorem good107 {G : Gt} (hG : OkG G) (hh : G.e 147 = roEnt 0 c147) : Gd G 107 (roEnt 0 c107) := by
  refine gR (dp := fun _ => true) (fn := Tryz.f107) (n := 2) (fun _ => rfl) (by kernel_rfl) rfl (by kernel_rfl) hG (Nat.le_of_ble_eq_true rfl) (by kernel_rfl) (by decide) (fun _ _ => .v _) ?_
  rintro ⟨xs, f, ⟨⟩⟩ hpre
  dsimp only at hpre ⊢
  cases f
  all_goals
    simp -implicitDefEqProofs only [Tryz.f107, go_sem, hh]
    repeat' (first | with_reducible apply And.intro | with_reducible intro _ | ((first | apply brB_split | apply aPickB_split | apply gB_split | apply adB_split) <;> intro hb <;> simp -implicitDefEqProofs only [hb, go_sem, hh] <;> try simp only [qz] at hb))
    all_goals first | rfl | omega | exact hpre | exact hpre _ (by assumption) | skip
    all_goals (rw [← bOf_congr (ixP_iff _ 0)]; rw [bOf_d])
end
def c106 : Ct := ctR (lc EGm.ag l0) (fun p => ∀ s ∈ p.1.body, s.size ≤ 2000000) (fun p => .t (.v (.bool (bOf (¬ AdNull p.1.frm ∨ ¬ Rep p.1.body)))))
section
attribute [local go_sem] c103 c41 bOf_t bOf_f repB_eq
theorem good106 {G : Gt} (hG : OkG G) (hh : G.e 103 = roEnt 0 c103 ∧ G.e 41 = roEnt 0 c41) : Gd G 106 (roEnt 0 c106) := by
  refine gR (dp := fun _ => true) (fn := Tryz.f106) (n := 1) (fun _ => rfl) (by kernel_rfl) rfl (by kernel_rfl) hG (Nat.le_of_ble_eq_true rfl) (by kernel_rfl) (by decide) (fun _ _ => .v _) ?_
  rintro ⟨g, ⟨⟩⟩ hpre
  simp -implicitDefEqProofs only [Tryz.f106, go_sem, hh] at hpre ⊢
  try dsimp only at hpre
  repeat' (first | with_reducible apply And.intro | with_reducible intro _ | ((first | apply brB_split | apply aPickB_split | apply gB_split | apply adB_split) <;> intro hb <;> simp -implicitDefEqProofs only [hb, go_sem, hh] <;> try simp only [qz] at hb))
  all_goals (try simp only [bOf_t, bOf_f] at *)
  all_goals first
    | rfl
    | exact hpre _ (by assumption)
    | exact uT (.inl (by assumption))
    | exact uN ⟨fun q => .inr q, fun q => q.resolve_left (fun f => f (by assumption))⟩
    | trace_state
end
theorem keepIm_no {g : Ls} {x : Im} (h : ¬ mkOf x.body = g.mark ∨ (Rep x.body ∧ ¬ repA x.body = g.addr) ∨ (¬ Rep x.body ∧ ¬ ∃ r ∈ x.to, r.addr = g.addr)) : ¬ KeepIm g x := fun q => by
  rcases h with h | h | h
  · exact h q.1
  · rcases q.2 with q | q
    · exact q.2 h.1
    · exact h.2 q.2
  · rcases q.2 with q | q
    · exact h.2 q.1
    · exact h.1 q.1
theorem keepGm_no {g : Ls} {b : Bx} {m : Gm} (h : ¬ mkOf m.body = g.mark ∨ ((¬ Rep m.body ∨ ¬ repA m.body = g.addr) ∧ (¬ b.addr = g.addr ∨ ¬ (¬ AdNull m.frm ∨ ¬ Rep m.body)))) : ¬ KeepGm g b m := fun q => by
  rcases h with h | ⟨h1, h2⟩
  · exact h q.1
  · rcases q.2 with q | q
    · exact h1.elim (fun f => f q.1) (fun f => f q.2)
    · exact h2.elim (fun f => f q.1) (fun f => f q.2)
def c56 : Ct := ctR (lc EHs.ag (lc ELs.ag l0)) (fun p => OkHs p.1) (fun p => .t (.v (.bool (bOf (Keeps p.1 p.2.1)))))
section
attribute [local go_sem] c103 c101 c104 c106 c107 List.length_map bOf_t bOf_f repB_eq ap_enc ap_dec AFn0_dec AFn0_enc Bool.not_true Bool.not_false ty146 lv27 AFRc_d0 AFRc_e0 AFLs_d0 AFLs_e0
set_option maxHeartbeats 6400000 in
theorem good56 {G : Gt} (hG : OkG G) (hh : G.e 103 = roEnt 0 c103 ∧ G.e 101 = roEnt 0 c101 ∧ G.e 104 = roEnt 0 c104 ∧ G.e 106 = roEnt 0 c106 ∧ G.e 107 = roEnt 0 c107) : Gd G 56 (roEnt 0 c56) := by
  refine gR (dp := fun _ => true) (fn := Tryz.f56) (n := 2) (fun _ => rfl) (by kernel_rfl) rfl (by kernel_rfl) hG (Nat.le_of_ble_eq_true rfl) (by kernel_rfl) (by decide) (fun _ _ => .v _) ?_
  rintro ⟨h, g, ⟨⟩⟩ hpre
  simp -implicitDefEqProofs only [Tryz.f56, go_sem, hh] at hpre ⊢
  obtain ⟨zc, ⟨zi, zs⟩, ⟨lb, zb⟩, ⟨ll, zl⟩⟩ := hpre
  repeat' (first | with_reducible apply And.intro | with_reducible intro _ | ((first | apply brB_split | apply aPickB_split | apply gB_split | apply adB_split) <;> intro hb <;> simp -implicitDefEqProofs only [hb, go_sem, hh] <;> try simp only [qz] at hb))
  all_goals first | rfl | omega | skip
  refine run_loop [] (ι := {i : Nat // i ≤ h.spool.items.length ∧ ∀ j, j < i → ¬ KeepIm g (h.spool.items.getD j default)}) (fun p => ⟨[(2, .pb 1002 0), (3, .pb 1003 0), (18, .t (.sl 5 (h.spool.items.map encIm))), (19, .t (.v (.int .i64 h.spool.items.length))), (20, .t (.v (.int .i64 p.1)))], [(1002, some (.box ((encHs h).map .t))), (1003, some (.box ((encLs g).map .t)))]⟩) (fun p => h.spool.items.length - p.1) ⟨0, by simp, by simp⟩ rfl ?_ ?_
  · simp -implicitDefEqProofs only [go_sem, hh]
    simp
  · rintro ⟨i, hi, hall⟩
    by_cases hlt : (i : Int) < h.spool.items.length
    · obtain ⟨_, ⟨lt, zt⟩, ⟨lg, zg⟩⟩ := zs _ (getD_mem (xs := h.spool.items) (j := i) (by omega))
      have y1 : ∀ s ∈ (h.spool.items.getD i default).body, s.size ≤ 2000000 := fun s hs => by have : s.size ≤ 1048576 := zg s hs; omega
      simp -implicitDefEqProofs only [hlt, decide_true, Int.toNat_natCast, go_sem, hh]
      repeat' (first | with_reducible apply And.intro | with_reducible intro _ | ((first | apply brB_split | apply aPickB_split | apply gB_split | apply adB_split) <;> intro hb <;> simp -implicitDefEqProofs only [hb, go_sem, hh] <;> try simp only [qz] at hb))
      all_goals (try simp only [maxLen, Int.toNat_natCast, adE, adF, adE', adF', bOf_t, bOf_f, FRc.sem] at *)
      all_goals first
        | rfl
        | omega
        | decide
        | with_reducible assumption
        | exact y1 _ (by assumption)
        | exact trivial
        | contradiction
        | exact uT (.inl ⟨(h.spool.items.getD i default), getD_mem (by omega), by with_reducible assumption, by first | exact .inl ⟨by with_reducible assumption, by with_reducible assumption⟩ | exact .inr ⟨by with_reducible assumption, by with_reducible assumption⟩⟩)
        | (refine ⟨⟨i + 1, by omega, bx_step hall (keepIm_no (by first | exact .inl (by with_reducible assumption) | exact .inr (.inl ⟨by with_reducible assumption, by with_reducible assumption⟩) | exact .inr (.inr ⟨by with_reducible assumption, by with_reducible assumption⟩)))⟩, by dsimp only; omega, ?_⟩
           simp -implicitDefEqProofs only [go_sem, hh]
           simp
           done)
    · have hA := no_at (P := fun x : Im => KeepIm g x) (xs := h.spool.items) fun j hj => hall j (by omega)
      simp -implicitDefEqProofs only [hlt, decide_false, go_sem, hh]
      repeat' (first | with_reducible apply And.intro | with_reducible intro _ | ((first | apply brB_split | apply aPickB_split | apply gB_split | apply adB_split) <;> intro hb <;> simp -implicitDefEqProofs only [hb, go_sem, hh] <;> try simp only [qz] at hb))
      all_goals first | rfl | omega | skip
      refine run_loop [] (ι := {i : Nat // i ≤ h.boxes.length ∧ ∀ j, j < i → ¬ ∃ m ∈ (h.boxes.getD j default).mails, KeepGm g (h.boxes.getD j default) m}) (fun p => ⟨[(2, .pb 1002 0), (3, .pb 1003 0), (58, .t (.sl 3 (h.boxes.map encBx))), (59, .t (.v (.int .i64 h.boxes.length))), (60, .t (.v (.int .i64 p.1)))], [(1002, some (.box ((encHs h).map .t))), (1003, some (.box ((encLs g).map .t)))]⟩) (fun p => h.boxes.length - p.1) ⟨0, by simp, by simp⟩ rfl ?_ ?_
      · simp -implicitDefEqProofs only [go_sem, hh]
        simp
      · rintro ⟨i, hi, hall2⟩
        by_cases hlt2 : (i : Int) < h.boxes.length
        · obtain ⟨_, ⟨lm, zm⟩⟩ := zb _ (getD_mem (xs := h.boxes) (j := i) (by omega))
          simp -implicitDefEqProofs only [hlt2, decide_true, Int.toNat_natCast, go_sem, hh]
          repeat' (first | with_reducible apply And.intro | with_reducible intro _ | ((first | apply brB_split | apply aPickB_split | apply gB_split | apply adB_split) <;> intro hb <;> simp -implicitDefEqProofs only [hb, go_sem, hh] <;> try simp only [qz] at hb))
          all_goals (try simp only [maxLen] at *)
          all_goals first | rfl | omega | skip
          refine run_loop [] (ι := {k : Nat // k ≤ (h.boxes.getD i default).mails.length ∧ ∀ j, j < k → ¬ KeepGm g (h.boxes.getD i default) ((h.boxes.getD i default).mails.getD j default)}) (fun p => ⟨[(2, .pb 1002 0), (3, .pb 1003 0), (58, .t (.sl 3 (h.boxes.map encBx))), (59, .t (.v (.int .i64 h.boxes.length))), (60, .t (.v (.int .i64 i))), (11, .pb 1011 0), (65, .t (.sl 3 ((h.boxes.getD i default).mails.map encGm))), (66, .t (.v (.int .i64 (h.boxes.getD i default).mails.length))), (67, .t (.v (.int .i64 p.1)))], (1011, some (.box ((encBx (h.boxes.getD i default)).map .t))) :: [(1002, some (.box ((encHs h).map .t))), (1003, some (.box ((encLs g).map .t)))]⟩) (fun p => (h.boxes.getD i default).mails.length - p.1) ⟨0, by simp, by simp⟩ rfl ?_ ?_
          · simp -implicitDefEqProofs only [go_sem, hh]
            simp
          · rintro ⟨k, hk, hk2⟩
            by_cases hlt3 : (k : Int) < (h.boxes.getD i default).mails.length
            · obtain ⟨_, ⟨lg, zg⟩⟩ := zm _ (getD_mem (xs := (h.boxes.getD i default).mails) (j := k) (by omega))
              have y1 : ∀ s ∈ ((h.boxes.getD i default).mails.getD k default).body, s.size ≤ 2000000 := fun s hs => by have : s.size ≤ 1048576 := zg s hs; omega
              simp -implicitDefEqProofs only [hlt3, decide_true, Int.toNat_natCast, go_sem, hh]
              repeat' (first | with_reducible apply And.intro | with_reducible intro _ | ((first | apply brB_split | apply aPickB_split | apply gB_split | apply adB_split) <;> intro hb <;> simp -implicitDefEqProofs only [hb, go_sem, hh] <;> try simp only [qz] at hb))
              all_goals (try simp only [maxLen, Int.toNat_natCast, adE, adF, adE', adF', bOf_t, bOf_f] at *)
              all_goals first
                | rfl
                | omega
                | decide
                | with_reducible assumption
                | exact y1 _ (by assumption)
                | exact trivial
                | contradiction
                | exact uT (.inr (.inl ⟨(h.boxes.getD i default), getD_mem (by omega), ((h.boxes.getD i default).mails.getD k default), getD_mem (by omega), by with_reducible assumption, by first | exact .inl ⟨by with_reducible assumption, by with_reducible assumption⟩ | exact .inr ⟨by with_reducible assumption, by with_reducible assumption⟩⟩))
                | (refine ⟨⟨k + 1, by omega, bx_step hk2 (keepGm_no (by first | exact .inl (by with_reducible assumption) | (refine .inr ⟨?_, ?_⟩; (first | exact .inl (by with_reducible assumption) | exact .inr (by with_reducible assumption)); (first | exact .inl (by with_reducible assumption) | exact .inr (by with_reducible assumption)))))⟩, by dsimp only; omega, ?_⟩
                   simp -implicitDefEqProofs only [go_sem, hh]
                   simp
                   done)
            · simp -implicitDefEqProofs only [hlt3, decide_false, go_sem, hh]
              repeat' (first | with_reducible apply And.intro | with_reducible intro _ | ((first | apply brB_split | apply aPickB_split | apply gB_split | apply adB_split) <;> intro hb <;> simp -implicitDefEqProofs only [hb, go_sem, hh] <;> try simp only [qz] at hb))
              all_goals (try simp only [maxLen] at *)
              all_goals first | rfl | omega | skip
              refine ⟨⟨i + 1, by omega, bx_step hall2 (no_at (P := fun m : Gm => KeepGm g (h.boxes.getD i default) m) fun j hj => hk2 j (by omega))⟩, by dsimp only; omega, ?_⟩
              simp -implicitDefEqProofs only [go_sem, hh]
              simp
        · have hB := no_at (P := fun b : Bx => ∃ m ∈ b.mails, KeepGm g b m) (xs := h.boxes) fun j hj => hall2 j (by omega)
          simp -implicitDefEqProofs only [hlt2, decide_false, go_sem, hh]
          repeat' (first | with_reducible apply And.intro | with_reducible intro _ | ((first | apply brB_split | apply aPickB_split | apply gB_split | apply adB_split) <;> intro hb <;> simp -implicitDefEqProofs only [hb, go_sem, hh] <;> try simp only [qz] at hb))
          all_goals (try simp only [maxLen] at *)
          all_goals first
            | rfl
            | omega
            | exact trivial
            | exact uE ⟨fun q => .inr (.inr q), fun q => q.elim (fun q => absurd q hA) fun q => q.elim (fun q => absurd q hB) id⟩
end
open Classical in
noncomputable def lostN (hs : List Hs) (g : Ls) : Int := if ∃ h ∈ hs, Keeps h g then 0 else 1
theorem lostN_y {hs : List Hs} {g : Ls} (h : ∃ h ∈ hs, Keeps h g) : lostN hs g = 0 := if_pos h
theorem lostN_n {hs : List Hs} {g : Ls} (h : ¬ ∃ h ∈ hs, Keeps h g) : lostN hs g = 1 := if_neg h
theorem lostN_b (hs : List Hs) (g : Ls) : 0 ≤ lostN hs g ∧ lostN hs g ≤ 1 := by unfold lostN; split <;> omega
open Classical in
noncomputable def LKept (w : Wd) : Int := if WdOk w then sumL (lostN w.hosts) w.given else -1
theorem LKept_y {w : Wd} (h : WdOk w) : LKept w = sumL (lostN w.hosts) w.given := if_pos h
theorem LKept_n {w : Wd} (h : ¬ WdOk w) : LKept w = -1 := if_neg h
theorem kept_le (w : Wd) : 0 ≤ sumL (lostN w.hosts) w.given ∧ sumL (lostN w.hosts) w.given ≤ 1 * w.given.length := sum_le fun g _ => lostN_b _ g
inductive FHs where
  | keeps (g : Ls)
def FHs.enc : FHs → AV
  | .keeps g => .t (.fn 55 [.rop [.v (.string g.mark), .v (.string g.addr.user), .v (.string g.addr.domain)]])
def FHs.dec : AV → Option FHs
  | .t (.fn 55 [.rop [.v (.string g0), .v (.string g1), .v (.string g2)]]) => some (.keeps ⟨g0, ⟨g1, g2⟩⟩)
  | _ => none
def FHs.sem : FHs → Hs → Prop
  | .keeps g, x => Keeps x g
def FHs.pre : FHs → Hs → Prop
  | .keeps _, x => OkHs x
def AFHs : AD FHs where
  enc := FHs.enc
  dec := FHs.dec
  ed := fun f => by cases f <;> rfl
  de := fun x f h => by
    unfold FHs.dec at h
    split at h <;> cases h <;> rfl
theorem AFHs_d0 {g0 : ByteArray} {g1 : ByteArray} {g2 : ByteArray} : AFHs.dec (.t (.fn 55 [.rop [.v (.string g0), .v (.string g1), .v (.string g2)]])) = some (.keeps ⟨g0, ⟨g1, g2⟩⟩) := rfl
theorem AFHs_e0 {g : Ls} : AFHs.enc (.keeps g) = .t (.fn 55 [.rop [.v (.string g.mark), .v (.string g.addr.user), .v (.string g.addr.domain)]]) := rfl
def c55 : Ct := ctR (lc EHs.ag (lc ELs.ap l0)) (fun p => OkHs p.1) (fun p => .t (.v (.bool (bOf (Keeps p.1 p.2.1)))))
section
attribute [local go_sem] c56 ap_enc ap_dec AFn0_dec AFn0_enc Bool.not_true Bool.not_false ty146 lv27
theorem good55 {G : Gt} (hG : OkG G) (hh : G.e 56 = roEnt 0 c56) : Gd G 55 (roEnt 0 c55) := by
  refine gR (dp := fun _ => true) (fn := Tryz.f55) (n := 2) (fun _ => rfl) (by kernel_rfl) rfl (by kernel_rfl) hG (Nat.le_of_ble_eq_true rfl) (by kernel_rfl) (by decide) (fun _ _ => .v _) ?_
  rintro ⟨x, g, ⟨⟩⟩ hpre
  simp -implicitDefEqProofs only [Tryz.f55, go_sem, hh] at hpre ⊢
  repeat' (first | with_reducible apply And.intro | with_reducible intro _ | ((first | apply brB_split | apply aPickB_split | apply gB_split | apply adB_split) <;> intro hb <;> simp -implicitDefEqProofs only [hb, go_sem, hh] <;> try simp only [qz] at hb))
  all_goals first | rfl | omega | exact hpre | skip
  all_goals (try (simp only [bOf_not]; done))
  all_goals first | rfl | (rw [bOf_d]; done) | (rw [bOf_d, decide_eq_decide.2]; simp [Ad_ext]; done) | (rw [bOf_d]; simp [Ad_ext]; done)
end
def c102 : Ct := ctR (lc EHs.asl (lc AFHs l0)) (fun p => ∀ x ∈ p.1, p.2.1.pre x) (fun p => .t (.v (.int .i64 (ixP p.2.1.sem 0 p.1))))
section
attribute [local go_sem] c55 ap_enc ap_dec AFn0_dec AFn0_enc Bool.not_true Bool.not_false ty146 lv27 AFHs_d0 AFHs_e0
theorem good102 {G : Gt} (hG : OkG G) (hh : G.e 55 = roEnt 0 c55) : Gd G 102 (roEnt 0 c102) := by
  refine gR (dp := fun _ => true) (fn := Tryz.f102) (n := 2) (fun _ => rfl) (by kernel_rfl) rfl (by kernel_rfl) hG (Nat.le_of_ble_eq_true rfl) (by kernel_rfl) (by decide) (fun _ _ => .v _) ?_
  rintro ⟨xs, f, ⟨⟩⟩ hpre
  have hs := hpre
  dsimp only at hs ⊢
  cases f with
  | keeps g =>
    simp -implicitDefEqProofs only [Tryz.f102, go_sem, hh]
    repeat' (first | with_reducible apply And.intro | with_reducible intro _ | ((first | apply brB_split | apply aPickB_split | apply gB_split | apply adB_split) <;> intro hb <;> simp -implicitDefEqProofs only [hb, go_sem, hh] <;> try simp only [qz] at hb))
    all_goals first | rfl | omega | skip
    refine run_loop [] (ι := {i : Nat // i ≤ xs.length ∧ ixP (FHs.sem (.keeps g)) 0 xs = ixP (FHs.sem (.keeps g)) i (xs.drop i)}) (fun p => ⟨[(0, .t (.sl 7 (xs.map encHs))), (1, AFHs.enc (.keeps g)), (7, .t (.v (.int .i64 xs.length))), (8, .t (.v (.int .i64 p.1)))], []⟩) (fun p => xs.length - p.1) ⟨0, Nat.zero_le _, rfl⟩ rfl ?_ ?_
    · simp -implicitDefEqProofs only [go_sem, hh]
      try simp
    · rintro ⟨i, hi, hix⟩
      by_cases hlt : (i : Int) < xs.length
      · have hm : xs.getD (i : Int).toNat default ∈ xs := getD_mem (by omega)
        have hsz := hs _ hm
        cases hb : bOf (Keeps (xs.getD (i : Int).toNat default) g)
        · have hq := hb
          simp -implicitDefEqProofs only [hlt, hq, go_sem, hh]
          repeat' (first | with_reducible apply And.intro | with_reducible intro _ | ((first | apply brB_split | apply aPickB_split | apply gB_split | apply adB_split) <;> intro hb <;> simp -implicitDefEqProofs only [hb, go_sem, hh] <;> try simp only [qz] at hb))
          all_goals (try simp only [maxLen] at *)
          all_goals first | rfl | omega | with_reducible assumption | exact hsz | exact hsz.1 | exact hsz.2 | exact hsz.2 _ (by assumption) | exact hsz.2.1 | exact hsz.2.2.1 | exact hsz.2.2.2 | trivial | skip
          rw [bOf_f, Int.toNat_natCast] at hb
          refine ⟨⟨i + 1, by omega, ?_⟩, by dsimp only; omega, ?_⟩
          · rw [hix, ixP_no (p := FHs.sem (.keeps g)) (by omega) hb]
          · simp -implicitDefEqProofs only [go_sem, hh]
            try simp
        · have hq := hb
          simp -implicitDefEqProofs only [hlt, hq, go_sem, hh]
          repeat' (first | with_reducible apply And.intro | with_reducible intro _ | ((first | apply brB_split | apply aPickB_split | apply gB_split | apply adB_split) <;> intro hb <;> simp -implicitDefEqProofs only [hb, go_sem, hh] <;> try simp only [qz] at hb))
          all_goals (try simp only [maxLen] at *)
          all_goals first | rfl | omega | with_reducible assumption | exact hsz | exact hsz.1 | exact hsz.2 | exact hsz.2 _ (by assumption) | exact hsz.2.1 | exact hsz.2.2.1 | exact hsz.2.2.2 | trivial | skip
          rw [bOf_t, Int.toNat_natCast] at hb
          rw [hix, ixP_yes (p := FHs.sem (.keeps g)) (by omega) hb]
      · simp -implicitDefEqProofs only [hlt, go_sem, hh]
        repeat' (first | with_reducible apply And.intro | with_reducible intro _ | ((first | apply brB_split | apply aPickB_split | apply gB_split | apply adB_split) <;> intro hb <;> simp -implicitDefEqProofs only [hb, go_sem, hh] <;> try simp only [qz] at hb))
        all_goals first | rfl | omega | skip
        all_goals (rw [hix, ixP_end (by omega)])
end
def c54 : Ct := ctR (lc EHs.asl (lc AFHs l0)) (fun p => ∀ x ∈ p.1, p.2.1.pre x) (fun p => .t (.v (.bool (bOf (∃ x ∈ p.1, p.2.1.sem x)))))
section
attribute [local go_sem] c102 ap_enc ap_dec AFn0_dec AFn0_enc Bool.not_true Bool.not_false ty146 lv27 AFHs_d0 AFHs_e0
theorem good54 {G : Gt} (hG : OkG G) (hh : G.e 102 = roEnt 0 c102) : Gd G 54 (roEnt 0 c54) := by
  refine gR (dp := fun _ => true) (fn := Tryz.f54) (n := 2) (fun _ => rfl) (by kernel_rfl) rfl (by kernel_rfl) hG (Nat.le_of_ble_eq_true rfl) (by kernel_rfl) (by decide) (fun _ _ => .v _) ?_
  rintro ⟨xs, f, ⟨⟩⟩ hpre
  dsimp only at hpre ⊢
  cases f
  all_goals
    simp -implicitDefEqProofs only [Tryz.f54, go_sem, hh]
    repeat' (first | with_reducible apply And.intro | with_reducible intro _ | ((first | apply brB_split | apply aPickB_split | apply gB_split | apply adB_split) <;> intro hb <;> simp -implicitDefEqProofs only [hb, go_sem, hh] <;> try simp only [qz] at hb))
    all_goals first | rfl | omega | exact hpre | exact hpre _ (by assumption) | skip
    all_goals (rw [← bOf_congr (ixP_iff _ 0)]; rw [bOf_d])
end
def c18 : Ct := ctR (lc EWd.ag l0) (fun p => OkWd p.1) (fun p => .t (.v (.int .i64 (LKept p.1))))
section
attribute [local go_sem] c17 c54 bOf_t bOf_f List.length_map ap_enc ap_dec AFn0_dec AFn0_enc Bool.not_true Bool.not_false ty146 lv27 AFHs_d0 AFHs_e0
set_option maxHeartbeats 3200000 in
theorem good18 {G : Gt} (hG : OkG G) (hh : G.e 17 = roEnt 0 c17 ∧ G.e 54 = roEnt 0 c54) : Gd G 18 (roEnt 0 c18) := by
  refine gR (dp := fun _ => true) (fn := Tryz.f18) (n := 1) (fun _ => rfl) (by kernel_rfl) rfl (by kernel_rfl) hG (Nat.le_of_ble_eq_true rfl) (by kernel_rfl) (by decide) (fun _ _ => .v _) ?_
  rintro ⟨w, ⟨⟩⟩ hpre
  simp -implicitDefEqProofs only [Tryz.f18, go_sem, hh] at hpre ⊢
  obtain ⟨zh, ⟨lg, zg⟩⟩ := hpre
  have zw : OkWd w := ⟨zh, ⟨lg, zg⟩⟩
  have hk := kept_le w
  by_cases h : WdOk w
  · have b1 := bOf_y h
    rw [LKept_y h]
    simp -implicitDefEqProofs only [b1, go_sem, hh]
    repeat' (first | with_reducible apply And.intro | with_reducible intro _ | ((first | apply brB_split | apply aPickB_split | apply gB_split | apply adB_split) <;> intro hb <;> simp -implicitDefEqProofs only [hb, go_sem, hh] <;> try simp only [qz] at hb))
    all_goals first | rfl | omega | assumption | contradiction | skip
    refine run_loop [] (ι := {p : Nat × Int // p.1 ≤ w.given.length ∧ 0 ≤ p.2 ∧ p.2 + sumL (lostN w.hosts) (w.given.drop p.1) = sumL (lostN w.hosts) w.given}) (fun p => ⟨[(1, .pb 1001 0), (3, .t (.v (.int .i64 p.1.2))), (10, .t (.sl 3 (w.given.map encLs))), (11, .t (.v (.int .i64 w.given.length))), (12, .t (.v (.int .i64 p.1.1)))], [(1001, some (.box ((encWd w).map .t)))]⟩) (fun p => w.given.length - p.1.1) ⟨(0, 0), by simp, by simp, by simp⟩ rfl ?_ ?_
    · simp -implicitDefEqProofs only [go_sem, hh]
      simp
    · rintro ⟨⟨i, v⟩, hi, h0, hv⟩
      dsimp only at hi h0 hv ⊢
      by_cases hlt : (i : Int) < w.given.length
      · have hst := sum_step (f := lostN w.hosts) (xs := w.given) (i := i) (by omega)
        have hrest := sum_drop (f := lostN w.hosts) (xs := w.given) (fun x _ => (lostN_b _ x).1) (i + 1)
        simp -implicitDefEqProofs only [hlt, decide_true, Int.toNat_natCast, go_sem, hh]
        repeat' (first | with_reducible apply And.intro | with_reducible intro _ | ((first | apply brB_split | apply aPickB_split | apply gB_split | apply adB_split) <;> intro hb <;> simp -implicitDefEqProofs only [hb, go_sem, hh] <;> try simp only [qz] at hb))
        all_goals (try simp only [maxLen, Int.toNat_natCast, FHs.sem, bOf_t, bOf_f] at *)
        all_goals (try rw [lostN_y (by assumption)] at hst)
        all_goals (try rw [lostN_n (by assumption)] at hst)
        all_goals first
          | rfl
          | omega
          | exact zh.2 _ (by assumption)
          | (refine ⟨⟨(i + 1, v), by dsimp only; omega, by dsimp only; omega, by dsimp only; omega⟩, by dsimp only; omega, ?_⟩
             simp -implicitDefEqProofs only [go_sem, hh]
             simp
             done)
          | (refine ⟨⟨(i + 1, v + 1), by dsimp only; omega, by dsimp only; omega, by dsimp only; omega⟩, by dsimp only; omega, ?_⟩
             simp -implicitDefEqProofs only [go_sem, hh]
             simp
             done)
      · have hst := sum_end (f := lostN w.hosts) (xs := w.given) (i := i) (by omega)
        simp -implicitDefEqProofs only [hlt, decide_false, go_sem, hh]
        repeat' (first | with_reducible apply And.intro | with_reducible intro _ | ((first | apply brB_split | apply aPickB_split | apply gB_split | apply adB_split) <;> intro hb <;> simp -implicitDefEqProofs only [hb, go_sem, hh] <;> try simp only [qz] at hb))
        all_goals first | rfl | omega | (rw [← hv, hst, Int.add_zero]; done)
  · have b1 := bOf_n h
    rw [LKept_n h]
    simp -implicitDefEqProofs only [b1, go_sem, hh]
    repeat' (first | with_reducible apply And.intro | with_reducible intro _ | ((first | apply brB_split | apply aPickB_split | apply gB_split | apply adB_split) <;> intro hb <;> simp -implicitDefEqProofs only [hb, go_sem, hh] <;> try simp only [qz] at hb))
    all_goals first | rfl | omega | assumption | contradiction
end
def newHs (c : Cf) : Hs := ⟨c, ⟨0, []⟩, [], []⟩
def newWd (cs : List Cf) : Wd := ⟨cs.map newHs, 0, 0, []⟩
open Classical in
noncomputable def WNew (cs : List Cf) : Wd := if (∀ c ∈ cs, CfOk c) ∧ WdOk (newWd cs) then newWd cs else ⟨[], 0, 0, []⟩
theorem WNew_y {cs : List Cf} (h : (∀ c ∈ cs, CfOk c) ∧ WdOk (newWd cs)) : WNew cs = newWd cs := if_pos h
theorem WNew_n {cs : List Cf} (h : ¬ ((∀ c ∈ cs, CfOk c) ∧ WdOk (newWd cs))) : WNew cs = ⟨[], 0, 0, []⟩ := if_neg h
def c135 : Ct := ctR (lc EWy.asl l0) (fun p => (p.1.length : Int) ≤ 1048576) (fun p => .o true 2 (p.1.map encWy))
section
attribute [local go_sem] aNil_n aNil_c List.length_map List.nil_append List.map_nil List.map_cons List.length_cons List.length_nil
theorem good135 {G : Gt} (hG : OkG G) : Gd G 135 (roEnt 0 c135) := by
  refine gR (dp := fun _ => true) (fn := Tryz.f135) (n := 1) (fun _ => rfl) (by kernel_rfl) rfl (by kernel_rfl) hG (Nat.le_of_ble_eq_true rfl) (by kernel_rfl) (by decide) (fun _ _ => .deep _ _) ?_
  rintro ⟨xs, ⟨⟩⟩ hpre
  dsimp only at hpre ⊢
  cases xs with
  | nil =>
    simp -implicitDefEqProofs only [Tryz.f135, go_sem]
    repeat' (first | with_reducible apply And.intro | with_reducible intro _ | ((first | apply brB_split | apply aPickB_split | apply gB_split | apply adB_split) <;> intro hb <;> simp -implicitDefEqProofs only [hb, go_sem] <;> try simp only [qz] at hb))
    all_goals (try simp only [maxLen, List.length_map] at *)
    all_goals first | rfl | omega | exact of_eq_true (AllV_Wy []) | (simp; done) | skip
  | cons x xs =>
    simp only [List.length_cons] at hpre
    simp -implicitDefEqProofs only [Tryz.f135, go_sem]
    repeat' (first | with_reducible apply And.intro | with_reducible intro _ | ((first | apply brB_split | apply aPickB_split | apply gB_split | apply adB_split) <;> intro hb <;> simp -implicitDefEqProofs only [hb, go_sem] <;> try simp only [qz] at hb))
    all_goals (try simp only [maxLen, List.length_map] at *)
    all_goals first | rfl | omega | exact of_eq_true (AllV_Wy (x :: xs)) | exact of_eq_true (len_Wy (x :: xs)) _ (by assumption) | (simp; done) | skip
end
def c49 : Ct := ctR (lc ECf.ag l0) (fun p => OkCf p.1) (fun p => owCf p.1)
section
attribute [local go_sem] List.length_map List.map_nil List.length_nil List.nil_append Nat.zero_add
theorem good49 {G : Gt} (hG : OkG G) : Gd G 49 (roEnt 0 c49) := by
  refine gR (dp := fun _ => true) (fn := Tryz.f49) (n := 1) (fun _ => rfl) (by kernel_rfl) rfl (by kernel_rfl) hG (Nat.le_of_ble_eq_true rfl) (by kernel_rfl) (by decide) (fun _ p => owCf_solid _) ?_
  rintro ⟨x, ⟨⟩⟩ hpre
  simp -implicitDefEqProofs only [Tryz.f49, go_sem] at hpre ⊢
  obtain ⟨_, ⟨h1, _⟩, ⟨h2, _⟩⟩ := hpre
  repeat' (first | with_reducible apply And.intro | with_reducible intro _ | ((first | apply brB_split | apply aPickB_split | apply gB_split | apply adB_split) <;> intro hb <;> simp -implicitDefEqProofs only [hb, go_sem] <;> try simp only [qz] at hb))
  all_goals (try simp only [maxLen, List.length_map, List.length_nil] at *)
  all_goals first | rfl | omega | (simp_all; done) | trace_state
end
def c90 : Ct := ctR (lc ECf.ag l0) (fun p => OkCf p.1) (fun p => owCf p.1)
section
attribute [local go_sem] c64 c135 List.length_map
theorem good90 {G : Gt} (hG : OkG G) (hh : G.e 64 = roEnt 0 c64 ∧ G.e 135 = roEnt 0 c135) : Gd G 90 (roEnt 0 c90) := by
  refine gR (dp := fun _ => true) (fn := Tryz.f90) (n := 1) (fun _ => rfl) (by kernel_rfl) rfl (by kernel_rfl) hG (Nat.le_of_ble_eq_true rfl) (by kernel_rfl) (by decide) (fun _ p => owCf_solid _) ?_
  rintro ⟨x, ⟨⟩⟩ hpre
  simp -implicitDefEqProofs only [Tryz.f90, go_sem, hh] at hpre ⊢
  obtain ⟨_, ⟨h1, _⟩, ⟨h2, _⟩⟩ := hpre
  repeat' (first | with_reducible apply And.intro | with_reducible intro _ | ((first | apply brB_split | apply aPickB_split | apply gB_split | apply adB_split) <;> intro hb <;> simp -implicitDefEqProofs only [hb, go_sem, hh] <;> try simp only [qz] at hb))
  all_goals (try simp only [maxLen, List.length_map] at *)
  all_goals first | rfl | omega | (simp_all; done) | trace_state
end
open Classical in
noncomputable def HNew (c : Cf) : Hs := if CfOk c then newHs c else newHs ⟨⟨#[]⟩, [], []⟩
theorem HNew_y {c : Cf} (h : CfOk c) : HNew c = newHs c := if_pos h
theorem HNew_n {c : Cf} (h : ¬ CfOk c) : HNew c = newHs ⟨⟨#[]⟩, [], []⟩ := if_neg h
def c45 : Ct := ctR (lc ECf.ag l0) (fun p => OkCf p.1) (fun p => owHs (HNew p.1))
section
attribute [local go_sem] c89 c90 bOf_t bOf_f List.length_map List.map_nil AS.opn AS.cls AS.nilb AS.renb AS.up Bool.not_false Bool.not_true List.set_set List.set_cons_zero List.set_cons_succ List.set_nil List.mem_singleton forall_eq
theorem good45 {G : Gt} (hG : OkG G) (hh : G.e 89 = roEnt 0 c89 ∧ G.e 90 = roEnt 0 c90) : Gd G 45 (roEnt 0 c45) := by
  refine gR (dp := fun _ => true) (fn := Tryz.f45) (n := 1) (fun _ => rfl) (by kernel_rfl) rfl (by kernel_rfl) hG (Nat.le_of_ble_eq_true rfl) (by kernel_rfl) (by decide) (fun _ p => owHs_solid _) ?_
  rintro ⟨x, ⟨⟩⟩ hpre
  simp -implicitDefEqProofs only [Tryz.f45, go_sem, hh] at hpre ⊢
  repeat' (first | with_reducible apply And.intro | with_reducible intro _ | ((first | apply brB_split | apply aPickB_split | apply gB_split | apply adB_split) <;> intro hb <;> simp -implicitDefEqProofs only [hb, go_sem, hh] <;> try simp only [qz] at hb))
  all_goals (try simp only [maxLen, List.length_map] at *)
  all_goals first | decide | (rw [HNew_y hb]; done) | (rw [HNew_n hb]; done) | rfl | omega | assumption | (rw [HNew_y (by assumption)]; rfl) | (rw [HNew_n (by assumption)]; rfl) | trace_state
end
theorem no_dom : ¬ Dom ⟨#[]⟩ := fun h => by
  have h1 := ((Dom_spl _).1 h).1
  have h2 : spl ⟨#[]⟩ 46 = [⟨#[]⟩] := rfl
  rw [h2] at h1
  have h3 : 1 ≤ (⟨#[]⟩ : ByteArray).size := (h1 ⟨#[]⟩ (by simp)).2.1
  exact absurd h3 (by decide)
theorem HNew_ok {cs : List Cf} (h : WdOk ⟨cs.map HNew, 0, 0, []⟩) : ∀ c ∈ cs, CfOk c := fun c hc => Classical.byContradiction fun q => by
  have h1 := (h.1 (HNew c) (List.mem_map_of_mem hc)).2.1
  rw [HNew_n q] at h1
  exact no_dom h1.2.2.1
theorem HNew_map {cs : List Cf} (h : ∀ c ∈ cs, CfOk c) : cs.map HNew = cs.map newHs := List.map_congr_left fun c hc => HNew_y (h c hc)
theorem WNew_yes {cs : List Cf} (h : WdOk ⟨cs.map HNew, 0, 0, []⟩) : WNew cs = ⟨cs.map HNew, 0, 0, []⟩ := by
  have h1 := HNew_ok h
  rw [HNew_map h1] at h ⊢
  exact WNew_y ⟨h1, h⟩
theorem WNew_not {cs : List Cf} (h : ¬ WdOk ⟨cs.map HNew, 0, 0, []⟩) : WNew cs = ⟨[], 0, 0, []⟩ := WNew_n fun q => h (by rw [HNew_map q.1]; exact q.2)
theorem newHs_ok {c : Cf} (h : OkCf c) : OkHs (newHs c) := ⟨h, ⟨by show ((0 : Nat) : Int) ≤ _; decide, fun _ q => by cases q⟩, ⟨by show ((0 : Nat) : Int) ≤ _; decide, fun _ q => by cases q⟩, ⟨by show ((0 : Nat) : Int) ≤ _; decide, fun _ q => by cases q⟩⟩
theorem HNew_OkHs {c : Cf} (h : OkCf c) : OkHs (HNew c) := by
  unfold HNew
  split
  · exact newHs_ok h
  · exact newHs_ok ⟨by show 0 ≤ 1048576; decide, ⟨by show ((0 : Nat) : Int) ≤ _; decide, fun _ q => by cases q⟩, ⟨by show ((0 : Nat) : Int) ≤ _; decide, fun _ q => by cases q⟩⟩
theorem take_new {xs : List Cf} {f : Cf → Hs} {i : Nat} (h : i < xs.length) : ((xs.map f).take (i + 1)).map encHs = ((xs.map f).take i).map encHs ++ [encHs (f (xs.getD i default))] := by
  have e : (xs.map f).getD i default = f (xs.getD i default) := by
    simp only [List.getD_eq_getElem?_getD, List.getElem?_map, List.getElem?_eq_getElem h, Option.map_some, Option.getD_some]
  rw [take_snoc_map encHs (by rw [List.length_map]; exact h), e]
def c16 : Ct := ctR (lc ECf.asl l0) (fun p => OkL OkCf p.1) (fun p => owWd (WNew p.1))
section
attribute [local go_sem] c48 c49 c50 bOf_t bOf_f List.length_map List.length_append List.length_cons List.length_nil List.map_append List.map_nil Nat.zero_add AS.opn AS.cls AS.nilb AS.renb AS.up Bool.not_false Bool.not_true List.set_set List.set_cons_zero List.set_cons_succ List.set_nil List.mem_singleton forall_eq
set_option maxHeartbeats 3200000 in
theorem good16 {G : Gt} (hG : OkG G) (hh : G.e 48 = roEnt 0 c48 ∧ G.e 49 = roEnt 0 c49 ∧ G.e 50 = roEnt 0 c50) : Gd G 16 (roEnt 0 c16) := by
  refine gR (dp := fun n => !(Nat.beq n 100002 || Nat.beq n 100004)) (fn := Tryz.f16) (n := 1) (fun _ => rfl) (by kernel_rfl) rfl (by kernel_rfl) hG (Nat.le_of_ble_eq_true rfl) (by kernel_rfl) (by decide) (fun _ p => owWd_solid _) ?_
  rintro ⟨cs, ⟨⟩⟩ hpre
  simp -implicitDefEqProofs only [Tryz.f16, go_sem, hh] at hpre ⊢
  have hok : OkL OkCf cs := hpre
  have hmx := hok.1
  repeat' (first | with_reducible apply And.intro | with_reducible intro _ | ((first | apply brB_split | apply aPickB_split | apply gB_split | apply adB_split) <;> intro hb <;> simp -implicitDefEqProofs only [hb, go_sem, hh] <;> try simp only [qz] at hb))
  all_goals first | rfl | skip
  refine run_le (Le.nilb 1003 0 1901 true 7 rfl rfl rfl) ?_
  simp -implicitDefEqProofs only [go_sem, hh]
  refine run_le (Le.nilb 1003 3 1902 true 3 rfl rfl rfl) (run_go ?_)
  simp -implicitDefEqProofs only [go_sem, hh]
  refine run_loop [] (ι := {i : Nat // i ≤ cs.length ∧ ∀ j, j < i → CfOk (cs.getD j default)}) (fun p => ⟨[(0, .t (.sl 3 (cs.map encCf))), (2, .pb 1002 0), (3, .pb 1003 0), (4, .t (.v (.int .i64 p.1)))], [(1002, some (.box [.nil, .t (.v (.int .i64 0)), .t (.v (.int .i64 0)), .nil])), (1003, some (.box [.h 1901, .t (.v (.int .i64 0)), .t (.v (.int .i64 0)), .h 1902])), (1902, some (.arr true 3 [])), (1901, some (.arr true 7 (((cs.map newHs).take p.1).map encHs)))]⟩) (fun p => cs.length - p.1) ⟨0, by simp, by simp⟩ rfl ?_ ?_
  · simp -implicitDefEqProofs only [go_sem, hh]
    simp
  · rintro ⟨i, hi, hall⟩
    have hlen : ((cs.map newHs).take i).length = i := by simp; omega
    by_cases hlt : (i : Int) < cs.length
    · have hc := hok.at (i := i) (by omega)
      simp -implicitDefEqProofs only [hlt, decide_true, Int.toNat_natCast, go_sem, hh]
      repeat' (first | with_reducible apply And.intro | with_reducible intro _ | ((first | apply brB_split | apply aPickB_split | apply gB_split | apply adB_split) <;> intro hb <;> simp -implicitDefEqProofs only [hb, go_sem, hh] <;> try simp only [qz] at hb))
      all_goals (try simp only [maxLen, Int.toNat_natCast] at *)
      all_goals first
        | rfl
        | omega
        | assumption
        | decide
        | (rw [WNew_n (fun q => absurd (q.1 (cs.getD i default) (getD_mem (by omega))) (by assumption))]; done)
        | (rw [WNew_n (fun q => absurd (q.1 (cs.getD i default) (getD_mem (by omega))) (by assumption))]; rfl)
        | skip
      refine run_le (Le.last 1028 rfl (.cons (.same _) (.cons (.same _) (.cons (.same _) (.cons (.same _) (.cons (.nil 5) (.cons (.nil 3) (.cons (.nil 3) .nil)))))))) ?_
      simp -implicitDefEqProofs only [go_sem, hh]
      refine run_le (Le.renb 1003 0 1028 1901 rfl rfl rfl rfl) (run_go ?_)
      simp -implicitDefEqProofs only [go_sem, hh]
      repeat' (first | with_reducible apply And.intro | with_reducible intro _ | ((first | apply brB_split | apply aPickB_split | apply gB_split | apply adB_split) <;> intro hb <;> simp -implicitDefEqProofs only [hb, go_sem, hh] <;> try simp only [qz] at hb))
      all_goals first | rfl | omega | decide | skip
      refine ⟨⟨i + 1, by omega, bx_step hall (by assumption)⟩, by dsimp only; omega, ?_⟩
      simp -implicitDefEqProofs only [go_sem, hh]
      simp only [take_new (f := newHs) (show i < cs.length by omega)]
      repeat' (first | with_reducible apply And.intro | with_reducible intro _ | ((first | apply brB_split | apply aPickB_split | apply gB_split | apply adB_split) <;> intro hb <;> simp -implicitDefEqProofs only [hb, go_sem, hh] <;> try simp only [qz] at hb))
      all_goals first | rfl | (simp; done) | trace_state
    · have hA : ∀ c ∈ cs, CfOk c := mem_getD fun j hj => hall j (by omega)
      have htk : (cs.map newHs).take i = cs.map newHs := List.take_of_length_le (by rw [List.length_map]; omega)
      simp -implicitDefEqProofs only [hlt, decide_false, htk, go_sem, hh]
      repeat' (first | with_reducible apply And.intro | with_reducible intro _ | ((first | apply brB_split | apply aPickB_split | apply gB_split | apply adB_split) <;> intro hb <;> simp -implicitDefEqProofs only [hb, go_sem, hh] <;> try simp only [qz] at hb))
      all_goals (try simp only [maxLen, Int.toNat_natCast] at *)
      all_goals first | rfl | omega | assumption | decide | (rw [WNew_n (fun q => hb q.2)]; rfl) | (rw [WNew_n (fun q => hb q.2)]; done) | (rw [WNew_y ⟨hA, hb⟩]; rfl) | (rw [WNew_y ⟨hA, hb⟩]; done) | trace_state
end
def c14 : Ct := ctR (lc ECf.asl l0) (fun p => OkL OkCf p.1) (fun p => owWd (WNew p.1))
section
attribute [local go_sem] c45 c17 bOf_t bOf_f List.length_map List.length_append List.length_cons List.length_nil List.map_append List.map_nil Nat.zero_add AS.opn AS.cls AS.nilb AS.renb AS.up Bool.not_false Bool.not_true List.set_set List.set_cons_zero List.set_cons_succ List.set_nil List.mem_singleton forall_eq
set_option maxHeartbeats 3200000 in
theorem good14 {G : Gt} (hG : OkG G) (hh : G.e 45 = roEnt 0 c45 ∧ G.e 17 = roEnt 0 c17) : Gd G 14 (roEnt 0 c14) := by
  refine gR (dp := fun n => !(Nat.beq n 100002 || Nat.beq n 100006)) (fn := Tryz.f14) (n := 1) (fun _ => rfl) (by kernel_rfl) rfl (by kernel_rfl) hG (Nat.le_of_ble_eq_true rfl) (by kernel_rfl) (by decide) (fun _ p => owWd_solid _) ?_
  rintro ⟨cs, ⟨⟩⟩ hpre
  simp -implicitDefEqProofs only [Tryz.f14, go_sem, hh] at hpre ⊢
  have hok : OkL OkCf cs := hpre
  have hmx := hok.1
  have hW : OkWd ⟨cs.map HNew, 0, 0, []⟩ := ⟨⟨by show ((cs.map HNew).length : Int) ≤ _; rw [List.length_map]; exact hmx, fun x hx => by
    obtain ⟨c, hc, rfl⟩ := List.mem_map.1 hx
    exact HNew_OkHs (hok.2 c hc)⟩, ⟨by show ((0 : Nat) : Int) ≤ _; decide, fun _ q => by cases q⟩⟩
  repeat' (first | with_reducible apply And.intro | with_reducible intro _ | ((first | apply brB_split | apply aPickB_split | apply gB_split | apply adB_split) <;> intro hb <;> simp -implicitDefEqProofs only [hb, go_sem, hh] <;> try simp only [qz] at hb))
  all_goals first | rfl | skip
  refine run_le (Le.nilb 1003 0 1901 true 7 rfl rfl rfl) ?_
  simp -implicitDefEqProofs only [go_sem, hh]
  refine run_le (Le.nilb 1003 3 1902 true 3 rfl rfl rfl) (run_go ?_)
  simp -implicitDefEqProofs only [go_sem, hh]
  repeat' (first | with_reducible apply And.intro | with_reducible intro _ | ((first | apply brB_split | apply aPickB_split | apply gB_split | apply adB_split) <;> intro hb <;> simp -implicitDefEqProofs only [hb, go_sem, hh] <;> try simp only [qz] at hb))
  all_goals first | rfl | omega | skip
  refine run_loop [] (ι := {i : Nat // i ≤ cs.length}) (fun p => ⟨[(2, .pb 1002 0), (3, .pb 1003 0), (6, .t (.sl 3 (cs.map encCf))), (7, .t (.v (.int .i64 cs.length))), (8, .t (.v (.int .i64 p.1)))], [(1002, some (.box [.nil, .t (.v (.int .i64 0)), .t (.v (.int .i64 0)), .nil])), (1003, some (.box [.h 1901, .t (.v (.int .i64 0)), .t (.v (.int .i64 0)), .h 1902])), (1902, some (.arr true 3 [])), (1901, some (.arr true 7 (((cs.map HNew).take p.1).map encHs)))]⟩) (fun p => cs.length - p.1) ⟨0, by simp⟩ rfl ?_ ?_
  · simp -implicitDefEqProofs only [go_sem, hh]
    simp
  · rintro ⟨i, hi⟩
    have hlen : ((cs.map HNew).take i).length = i := by simp; omega
    by_cases hlt : (i : Int) < cs.length
    · have hc := hok.at (i := i) (by omega)
      simp -implicitDefEqProofs only [hlt, decide_true, Int.toNat_natCast, go_sem, hh]
      repeat' (first | with_reducible apply And.intro | with_reducible intro _ | ((first | apply brB_split | apply aPickB_split | apply gB_split | apply adB_split) <;> intro hb <;> simp -implicitDefEqProofs only [hb, go_sem, hh] <;> try simp only [qz] at hb))
      all_goals (try simp only [maxLen, Int.toNat_natCast] at *)
      all_goals first | rfl | omega | assumption | decide | skip
      refine run_le (Le.renb 1003 0 1017 1901 rfl rfl rfl rfl) (run_go ?_)
      simp -implicitDefEqProofs only [go_sem, hh]
      repeat' (first | with_reducible apply And.intro | with_reducible intro _ | ((first | apply brB_split | apply aPickB_split | apply gB_split | apply adB_split) <;> intro hb <;> simp -implicitDefEqProofs only [hb, go_sem, hh] <;> try simp only [qz] at hb))
      all_goals first | rfl | omega | decide | skip
      refine ⟨⟨i + 1, by omega⟩, by dsimp only; omega, ?_⟩
      simp -implicitDefEqProofs only [go_sem, hh]
      simp only [take_new (f := HNew) (show i < cs.length by omega)]
      repeat' (first | with_reducible apply And.intro | with_reducible intro _ | ((first | apply brB_split | apply aPickB_split | apply gB_split | apply adB_split) <;> intro hb <;> simp -implicitDefEqProofs only [hb, go_sem, hh] <;> try simp only [qz] at hb))
      all_goals first | rfl | (simp; done) | trace_state
    · have htk : (cs.map HNew).take i = cs.map HNew := List.take_of_length_le (by rw [List.length_map]; omega)
      simp -implicitDefEqProofs only [hlt, decide_false, htk, go_sem, hh]
      repeat' (first | with_reducible apply And.intro | with_reducible intro _ | ((first | apply brB_split | apply aPickB_split | apply gB_split | apply adB_split) <;> intro hb <;> simp -implicitDefEqProofs only [hb, go_sem, hh] <;> try simp only [qz] at hb))
      all_goals (try simp only [maxLen, Int.toNat_natCast] at *)
      all_goals first | rfl | omega | assumption | decide | exact hW | (rw [WNew_not hb]; rfl) | (rw [WNew_not hb]; done) | (rw [WNew_yes hb]; rfl) | (rw [WNew_yes hb]; done) | trace_state
end
def encBy (b : UInt8) : List T := [.v (.int .u8 b.toNat)]
def decBy : List T → Option UInt8
  | [.v (.int .u8 x)] => if 0 ≤ x ∧ x < 256 then some (UInt8.ofNat x.toNat) else none
  | _ => none
def EBy : Enc UInt8 where
  enc := encBy
  dec := decBy
  n := 1
  ed := fun b => by
    have := b.toNat_lt
    show (if 0 ≤ ((b.toNat : Nat) : Int) ∧ ((b.toNat : Nat) : Int) < 256 then some (UInt8.ofNat ((b.toNat : Nat) : Int).toNat) else none) = some b
    rw [if_pos (by omega), Int.toNat_natCast, UInt8.ofNat_toNat]
  de := fun c a h => by
    unfold decBy at h
    split at h
    · rename_i x
      split at h
      · rename_i q
        cases h
        show [T.v (.int .u8 x)] = [T.v (.int .u8 (((UInt8.ofNat x.toNat).toNat : Nat) : Int))]
        have : (UInt8.ofNat x.toNat).toNat = x.toNat := by simp; omega
        rw [this]
        congr 3
        omega
      · cases h
    · cases h
  len := fun _ => rfl
theorem encBy_eq (b : UInt8) : encBy b = [.v (.int .u8 b.toNat)] := rfl
theorem aIdx_By (xs : List UInt8) (n : Int) (s : AS) (K : Kt) : aIdx 1 (xs.map encBy) n s K = (0 ≤ n ∧ n < xs.length ∧ K (.t (.rop (encBy (xs.getD n.toNat default)))) s) := aIdx_map encBy xs 1 n s K fun _ => rfl
theorem EBy_enc : EBy.enc = encBy := rfl
theorem EBy_n : EBy.n = 1 := rfl
theorem decBys (xs : List UInt8) : EBy.decL (xs.map encBy) = some xs := EBy.decL_map xs
theorem len_By (xs : List UInt8) : (∀ c ∈ xs.map encBy, c.length = 1) = True := eq_true fun c hc => by
  obtain ⟨a, _, rfl⟩ := List.mem_map.1 hc; rfl
structure Rd where
  b : List UInt8
  p : Int
def obRdD : AV → Option Rd
  | .ob [.t (.sl 1 es), .t (.v (.int .i64 p))] => (EBy.decL es).map fun b => ⟨b, p⟩
  | _ => none
def ARd : AD Rd where
  enc r := .ob [.t (.sl 1 (r.b.map encBy)), .t (.v (.int .i64 r.p))]
  dec := obRdD
  ed := fun r => by
    show (EBy.decL (r.b.map encBy)).map _ = some r
    rw [decBys]; rfl
  de := fun x r h => by
    unfold obRdD at h
    split at h
    · rename_i es p
      cases hd : EBy.decL es with
      | none => rw [hd] at h; cases h
      | some b =>
        rw [hd] at h; cases h
        rw [show es = b.map encBy from EBy.decL_inv hd]
    · cases h
theorem ARd_enc (r : Rd) : ARd.enc r = .ob [.t (.sl 1 (r.b.map encBy)), .t (.v (.int .i64 r.p))] := rfl
theorem ARd_dec {es : List (List T)} {p : Int} : ARd.dec (.ob [.t (.sl 1 es), .t (.v (.int .i64 p))]) = (EBy.decL es).map fun b => ⟨b, p⟩ := rfl
theorem omap_some {α β : Type} {f : α → β} {a : α} : (some a).map f = some (f a) := rfl
theorem wrap_id {n : Int} (h : 0 ≤ n) (h1 : n < 9223372036854775808) : IntKind.wrap .i64 n = n := by
  have e : IntKind.wrap .i64 n = if ((true && decide (n % 18446744073709551616 ≥ 9223372036854775808)) = true) then n % 18446744073709551616 - 18446744073709551616 else n % 18446744073709551616 := rfl
  rw [e, if_neg (by simp; omega)]
  omega
theorem xor_nn {x y : Int} (h : 0 ≤ x) (h1 : x < 9223372036854775808) (k : 0 ≤ y) (k1 : y < 9223372036854775808) : 0 ≤ bits .xor .i64 x y := by
  have e : bits .xor .i64 x y = IntKind.wrap .i64 (((BitVec.ofInt 64 x ^^^ BitVec.ofInt 64 y).toNat : Nat) : Int) := rfl
  rw [e, BitVec.toNat_xor, BitVec.toNat_ofInt, BitVec.toNat_ofInt]
  have q : ((x % ((2 ^ 64 : Nat) : Int)).toNat ^^^ (y % ((2 ^ 64 : Nat) : Int)).toNat) < 2 ^ 63 := Nat.xor_lt_two_pow (by omega) (by omega)
  have q2 := Int.ofNat_lt.2 q
  rw [wrap_id (Int.natCast_nonneg _) q2]
  exact Int.natCast_nonneg _
def byN (b : List UInt8) (k : Int) : Int := (((b.getD k.toNat default).toNat : Nat) : Int)
theorem byN_b (b : List UInt8) (k : Int) : 0 ≤ byN b k ∧ byN b k ≤ 255 := by
  have := (b.getD k.toNat default).toNat_lt
  unfold byN; omega
theorem byN_f (b : List UInt8) (k : Int) : (((b.getD k.toNat default).toNat : Nat) : Int) = byN b k := rfl
def mixN (b : List UInt8) (k : Int) : Int := byN b (k % b.length) * 131 + byN b ((k * 7 + 3) % b.length) * 1117 + k * 29 + k / b.length * 53
theorem mixN_f (b : List UInt8) (k : Int) : byN b (k % b.length) * 131 + byN b ((k * 7 + 3) % b.length) * 1117 + k * 29 + k / b.length * 53 = mixN b k := rfl
def pkN (r : Rd) (n : Int) : Int := if n < 1 ∨ (r.b.length : Int) = 0 then 0 else if r.p < r.b.length then byN r.b r.p % n else bits .xor .i64 (mixN r.b r.p) (mixN r.b r.p / 64) % n
theorem div_b {k l : Int} (h : 0 ≤ k) (hl : 0 < l) : 0 ≤ k / l ∧ k / l ≤ k := ⟨Int.ediv_nonneg h (by omega), Int.ediv_le_self _ h⟩
theorem mixN_b {b : List UInt8} {k : Int} (h : 0 ≤ k) (h1 : k ≤ 1000000000) (h2 : ¬ (b.length : Int) = 0) : 0 ≤ mixN b k ∧ mixN b k ≤ 1000000000000 := by
  have q1 := byN_b b (k % b.length)
  have q2 := byN_b b ((k * 7 + 3) % b.length)
  have q3 := div_b (l := b.length) h (by omega)
  unfold mixN
  omega
theorem pkN_b {r : Rd} {n : Int} (h : 0 ≤ r.p) (h1 : r.p ≤ 1000000000) : 0 ≤ pkN r n ∧ (1 ≤ n → pkN r n < n) := by
  unfold pkN
  split
  · omega
  · rename_i q
    split
    · exact ⟨Int.emod_nonneg _ (by omega), fun _ => Int.emod_lt_of_pos _ (by omega)⟩
    · exact ⟨Int.emod_nonneg _ (by omega), fun _ => Int.emod_lt_of_pos _ (by omega)⟩
theorem pkN_0 {r : Rd} {n : Int} (h : n < 1 ∨ (r.b.length : Int) = 0) : pkN r n = 0 := if_pos h
theorem pkN_1 {r : Rd} {n : Int} (h0 : ¬ n < 1) (h : ¬ (r.b.length : Int) = 0) (h1 : r.p < r.b.length) : byN r.b r.p % n = pkN r n := by
  unfold pkN; rw [if_neg (by omega), if_pos h1]
theorem pkN_2 {r : Rd} {n : Int} (h0 : ¬ n < 1) (h : ¬ (r.b.length : Int) = 0) (h1 : ¬ r.p < r.b.length) : bits .xor .i64 (mixN r.b r.p) (mixN r.b r.p / 64) % n = pkN r n := by
  unfold pkN; rw [if_neg (by omega), if_neg h1]
def Rd.nx (r : Rd) (k : Int) : Rd := ⟨r.b, r.p + k⟩
theorem nx_p (r : Rd) (k : Int) : (r.nx k).p = r.p + k := rfl
theorem nx_b (r : Rd) (k : Int) : (r.nx k).b = r.b := rfl
theorem nx_eq (r : Rd) (k : Int) : (⟨r.b, r.p + k⟩ : Rd) = r.nx k := rfl
theorem ivk {x y : Int} (h : x = y) : T.v (.int .i64 x) = T.v (.int .i64 y) := by rw [h]
def c43 : Mt := ctM (lc ARd (lc AInt l0)) (fun p => 0 ≤ p.1.p ∧ p.1.p ≤ 1000000000) (fun p => ([ARd.enc (p.1.nx 1), AInt.enc p.2.1], .t (.v (.int .i64 (pkN p.1 p.2.1)))))
section
attribute [local go_sem] nx_p nx_b ARd_enc ARd_dec decBys omap_some encBy_eq aIdx_By EBy_enc EBy_n len_By List.length_map Int.add_sub_cancel byN_f mixN_f outP_ob outI_ob outZ_ob takeV_pb takeV_pb8 boxOf_b takeB_s outPb_s outIb_s outZb_s rv1_nil AS.opn AS.cls AS.nilb AS.renb AS.up Bool.not_false Bool.not_true List.set_set List.set_cons_zero List.set_cons_succ List.set_nil List.mem_singleton forall_eq
set_option maxHeartbeats 1600000 in
theorem good43 {G : Gt} (hG : OkG G) : Gd G 43 (muEnt c43) := by
  refine gM (dp := fun _ => true) (fn := Tryz.f43) (n := 2) (fun _ => rfl) (by kernel_rfl) rfl (by kernel_rfl) hG (Nat.le_of_ble_eq_true rfl) (by kernel_rfl) ?_
  rintro ⟨r, n, ⟨⟩⟩ hpre
  simp -implicitDefEqProofs only [Tryz.f43, go_sem] at hpre ⊢
  obtain ⟨h1, h2⟩ := hpre
  try dsimp only at h1 h2
  have g1 := byN_b r.b r.p
  have g2 := byN_b r.b (r.p % r.b.length)
  have g3 := byN_b r.b ((r.p * 7 + 3) % r.b.length)
  by_cases h0 : (r.b.length : Int) = 0
  · repeat' (first | with_reducible apply And.intro | with_reducible intro _ | ((first | apply brB_split | apply aPickB_split | apply gB_split | apply adB_split) <;> intro hb <;> simp -implicitDefEqProofs only [hb, go_sem] <;> try simp only [qz] at hb))
    all_goals (try simp only [maxLen, Int.toNat_natCast] at *)
    all_goals first | rfl | omega | (rw [pkN_0 (by omega)]; done) | contradiction
  · have g4 := div_b (l := r.b.length) h1 (by omega)
    have g5 := mixN_b h1 h2 h0
    have g6 := Int.emod_nonneg r.p h0
    have g7 := Int.emod_lt_of_pos r.p (b := r.b.length) (by omega)
    have g8 := Int.emod_nonneg (r.p * 7 + 3) h0
    have g9 := Int.emod_lt_of_pos (r.p * 7 + 3) (b := r.b.length) (by omega)
    have gx := div_b (l := 64) g5.1 (by decide)
    have gy := xor_nn (x := mixN r.b r.p) (y := mixN r.b r.p / 64) g5.1 (by omega) gx.1 (by omega)
    repeat' (first | with_reducible apply And.intro | with_reducible intro _ | ((first | apply brB_split | apply aPickB_split | apply gB_split | apply adB_split) <;> intro hb <;> simp -implicitDefEqProofs only [hb, go_sem] <;> try simp only [qz] at hb))
    all_goals (try simp only [maxLen, Int.toNat_natCast] at *)
    all_goals first | rfl | omega | (rw [pkN_0 (by omega)]; done) | with_reducible exact ivk (pkN_1 (by assumption) (by assumption) (by assumption)) | with_reducible exact ivk (pkN_2 (by assumption) (by assumption) (by assumption)) | contradiction
end
theorem ck_4 {x0 x1 x2 x3 : T} : chunk 1 4 [x0, x1, x2, x3] = [[x0], [x1], [x2], [x3]] := rfl
theorem ck_5 {x0 x1 x2 x3 x4 : T} : chunk 1 5 [x0, x1, x2, x3, x4] = [[x0], [x1], [x2], [x3], [x4]] := rfl
theorem ck_6 {x0 x1 x2 x3 x4 x5 : T} : chunk 1 6 [x0, x1, x2, x3, x4, x5] = [[x0], [x1], [x2], [x3], [x4], [x5]] := rfl
theorem ck_7 {x0 x1 x2 x3 x4 x5 x6 : T} : chunk 1 7 [x0, x1, x2, x3, x4, x5, x6] = [[x0], [x1], [x2], [x3], [x4], [x5], [x6]] := rfl
theorem ck_11 {x0 x1 x2 x3 x4 x5 x6 x7 x8 x9 x10 : T} : chunk 1 11 [x0, x1, x2, x3, x4, x5, x6, x7, x8, x9, x10] = [[x0], [x1], [x2], [x3], [x4], [x5], [x6], [x7], [x8], [x9], [x10]] := rfl
theorem ck_12 {x0 x1 x2 x3 x4 x5 x6 x7 x8 x9 x10 x11 : T} : chunk 1 12 [x0, x1, x2, x3, x4, x5, x6, x7, x8, x9, x10, x11] = [[x0], [x1], [x2], [x3], [x4], [x5], [x6], [x7], [x8], [x9], [x10], [x11]] := rfl
theorem nx_nx (r : Rd) (a b : Int) : (r.nx a).nx b = r.nx (a + b) := by unfold Rd.nx; simp only [Int.add_assoc]
theorem Rd_eta (r : Rd) : (⟨r.b, r.p⟩ : Rd) = r := rfl
theorem pp_add (r : Rd) (a b : Int) : r.p + a + b = r.p + (a + b) := Int.add_assoc _ _ _
theorem decS_c {a : ByteArray} {t : List (List T)} : EStr.decL ([.v (.string a)] :: t) = (EStr.decL t).map (a :: ·) := by
  show mapO EStr.dec _ = (mapO EStr.dec t).map _
  simp only [mapO, EStr_dec]
  cases mapO EStr.dec t <;> rfl
theorem decI_c {a : Int} {t : List (List T)} : EInt.decL ([.v (.int .i64 a)] :: t) = (EInt.decL t).map (a :: ·) := by
  show mapO EInt.dec _ = (mapO EInt.dec t).map _
  simp only [mapO, EInt_dec]
  cases mapO EInt.dec t <;> rfl
def ofS (r : Rd) (l : List ByteArray) : ByteArray := l.getD (pkN r l.length).toNat default
def ofI (r : Rd) (l : List Int) : Int := l.getD (pkN r l.length).toNat default
theorem ofS_mem {r : Rd} {l : List ByteArray} (h : 0 ≤ r.p) (h1 : r.p ≤ 1000000000) (hl : 1 ≤ l.length) : ofS r l ∈ l := by
  have := pkN_b (n := l.length) h h1
  exact getD_mem (by omega)
theorem ofI_mem {r : Rd} {l : List Int} (h : 0 ≤ r.p) (h1 : r.p ≤ 1000000000) (hl : 1 ≤ l.length) : ofI r l ∈ l := by
  have := pkN_b (n := l.length) h h1
  exact getD_mem (by omega)
def c88 : Mt := ctM (lc ARd (lc (EStr.aow true 1) l0)) (fun p => 0 ≤ p.1.p ∧ p.1.p ≤ 1000000000 ∧ 1 ≤ p.2.1.length ∧ p.2.1.length ≤ 1000) (fun p => ([ARd.enc (p.1.nx 1), (EStr.aow true 1).enc p.2.1], .t (.v (.string (ofS p.1 p.2.1)))))
section
attribute [local go_sem] c43 nx_p nx_b ARd_enc ARd_dec decBys omap_some nx_nx nx_eq Rd_eta pp_add outP_ob outI_ob outZ_ob takeV_pb takeV_pb8 boxOf_b takeB_s outPb_s outIb_s outZb_s rv1_nil List.length_map List.length_append List.length_cons List.length_nil List.map_append List.map_nil Nat.zero_add List.nil_append AS.opn AS.cls AS.nilb AS.renb AS.up Bool.not_false Bool.not_true List.set_set List.set_cons_zero List.set_cons_succ List.set_nil List.mem_singleton forall_eq aCell_map
set_option maxHeartbeats 800000 in
theorem good88 {G : Gt} (hG : OkG G) (hh : G.e 43 = muEnt c43) : Gd G 88 (muEnt c88) := by
  refine gM (dp := fun _ => true) (fn := Tryz.f88) (n := 2) (fun _ => rfl) (by kernel_rfl) rfl (by kernel_rfl) hG (Nat.le_of_ble_eq_true rfl) (by kernel_rfl) ?_
  rintro ⟨r, l, ⟨⟩⟩ hpre
  simp -implicitDefEqProofs only [Tryz.f88, go_sem, hh, Int.reduceAdd] at hpre ⊢
  obtain ⟨h1, h2, h3, h4⟩ := hpre
  try dsimp only at h1 h2 h3 h4
  have hb := pkN_b (n := l.length) h1 h2
  repeat' (first | with_reducible apply And.intro | with_reducible intro _ | ((first | apply brB_split | apply aPickB_split | apply gB_split | apply adB_split) <;> intro hb <;> simp -implicitDefEqProofs only [hb, go_sem, hh, Int.reduceAdd] <;> try simp only [qz] at hb))
  all_goals (try simp only [maxLen, Int.toNat_natCast] at *)
  all_goals first | rfl | omega | decide | assumption | trace_state
end
def domL : List ByteArray := [⟨#[111, 110, 101, 46, 111, 114, 103]⟩, ⟨#[116, 119, 111, 46, 111, 114, 103]⟩, ⟨#[104, 117, 98, 46, 110, 101, 116]⟩, ⟨#[120, 46, 99, 111, 109]⟩, ⟨#[102, 97, 114, 46, 99, 111, 109]⟩, ⟨#[111, 116, 104, 101, 114, 46, 99, 111, 109]⟩, ⟨#[97, 46, 111, 110, 101, 46, 111, 114, 103]⟩]
def usrL : List ByteArray := [⟨#[97]⟩, ⟨#[98]⟩, ⟨#[97, 110, 110]⟩, ⟨#[98, 111, 98, 55]⟩]
def linL : List ByteArray := [⟨#[104, 101, 108, 108, 111]⟩, ⟨#[]⟩, ⟨#[46]⟩, ⟨#[46, 46]⟩, ⟨#[46, 100, 111, 116]⟩, ⟨#[97, 32, 108, 111, 110, 103, 101, 114, 32, 108, 105, 110, 101, 32, 111, 102, 32, 116, 101, 120, 116]⟩, ⟨#[72, 111, 112, 58, 32, 111, 110, 101, 46, 111, 114, 103]⟩, ⟨#[72, 111, 112, 58, 32]⟩, ⟨#[73, 100, 58, 32, 55]⟩, ⟨#[110, 111, 116, 32, 100, 101, 108, 105, 118, 101, 114, 101, 100, 58]⟩, ⟨#[60, 97, 64, 111, 110, 101, 46, 111, 114, 103, 62]⟩, ⟨#[108, 105, 110, 101, 32, 116, 104, 97, 116, 32, 105, 115, 32, 101, 120, 97, 99, 116, 108, 121, 32, 102, 111, 114, 116, 121, 32, 98, 121, 116, 101, 115, 32, 108, 111, 110, 103, 46, 46, 33]⟩]
def domS (r : Rd) : ByteArray := ofS r domL
def linS (r : Rd) : ByteArray := ofS r linL
def adD (r : Rd) : Ad := ⟨ofS r usrL, domS (r.nx 1)⟩
def anyAd (r : Rd) : Ad × Rd :=
  if pkN (r.nx 2) 10 = 0 then (⟨ofS (r.nx 3) [⟨#[]⟩, ⟨#[65]⟩, ⟨#[116, 111, 111, 108, 111, 110, 103, 110, 97, 109, 101]⟩, ⟨#[97, 64, 98]⟩], (adD r).domain⟩, r.nx 4)
  else if pkN (r.nx 2) 10 = 1 then (⟨(adD r).user, ofS (r.nx 3) [⟨#[]⟩, ⟨#[97, 46, 46, 98]⟩, ⟨#[46, 97]⟩, ⟨#[97, 46, 98, 46, 99, 46, 100]⟩, ⟨#[85, 112, 46, 111, 114, 103]⟩]⟩, r.nx 4)
  else if pkN (r.nx 2) 10 = 2 then (⟨⟨#[]⟩, ⟨#[]⟩⟩, r.nx 3)
  else (adD r, r.nx 3)
theorem anyAd_0 {r : Rd} (h : pkN (r.nx 2) 10 = 0) : anyAd r = (⟨ofS (r.nx 3) [⟨#[]⟩, ⟨#[65]⟩, ⟨#[116, 111, 111, 108, 111, 110, 103, 110, 97, 109, 101]⟩, ⟨#[97, 64, 98]⟩], (adD r).domain⟩, r.nx 4) := if_pos h
theorem anyAd_1 {r : Rd} (h0 : ¬ pkN (r.nx 2) 10 = 0) (h : pkN (r.nx 2) 10 = 1) : anyAd r = (⟨(adD r).user, ofS (r.nx 3) [⟨#[]⟩, ⟨#[97, 46, 46, 98]⟩, ⟨#[46, 97]⟩, ⟨#[97, 46, 98, 46, 99, 46, 100]⟩, ⟨#[85, 112, 46, 111, 114, 103]⟩]⟩, r.nx 4) := by unfold anyAd; rw [if_neg h0, if_pos h]
theorem anyAd_2 {r : Rd} (h0 : ¬ pkN (r.nx 2) 10 = 0) (h1 : ¬ pkN (r.nx 2) 10 = 1) (h : pkN (r.nx 2) 10 = 2) : anyAd r = (⟨⟨#[]⟩, ⟨#[]⟩⟩, r.nx 3) := by unfold anyAd; rw [if_neg h0, if_neg h1, if_pos h]
theorem anyAd_3 {r : Rd} (h0 : ¬ pkN (r.nx 2) 10 = 0) (h1 : ¬ pkN (r.nx 2) 10 = 1) (h : ¬ pkN (r.nx 2) 10 = 2) : anyAd r = (adD r, r.nx 3) := by unfold anyAd; rw [if_neg h0, if_neg h1, if_neg h]
def bodN (r : Rd) (n : Nat) : List ByteArray := (List.range n).map fun (j : Nat) => linS (r.nx (j : Int))
theorem bodN_s (r : Rd) (n : Nat) : bodN r (n + 1) = bodN r n ++ [linS (r.nx n)] := by
  unfold bodN; rw [List.range_succ, List.map_append]; rfl
theorem bodN_len (r : Rd) (n : Nat) : (bodN r n).length = n := by unfold bodN; simp
def bodD (r : Rd) (m : Int) : List ByteArray := bodN (r.nx 1) (pkN r (m + 1)).toNat
def bodR (r : Rd) (m : Int) : Rd := r.nx (1 + pkN r (m + 1))
def opn (b : List UInt8) : Rd := ⟨if (b.length : Int) > 2000 then b.take 2000 else b, 0⟩
theorem opn_y {b : List UInt8} (h : (b.length : Int) > 2000) : opn b = ⟨b.take 2000, 0⟩ := by unfold opn; rw [if_pos h]
theorem opn_n {b : List UInt8} (h : ¬ (b.length : Int) > 2000) : opn b = ⟨b, 0⟩ := by unfold opn; rw [if_neg h]
theorem opn_p (b : List UInt8) : (opn b).p = 0 := rfl
theorem opn_f (b : List UInt8) : (⟨(opn b).b, 0⟩ : Rd) = opn b := rfl
theorem slBy {b : List UInt8} {k : Nat} : List.take k (b.map encBy) = (b.take k).map encBy := by rw [List.map_take]
theorem t2k : (2000 : Int).toNat = 2000 := rfl
def c23 : Ct := ctR (lc EBy.asl l0) (fun p => True) (fun p => ARd.enc (opn p.1))
section
attribute [local go_sem] EBy_enc EBy_n decBys len_By slBy t2k ARd_enc List.length_map List.drop_zero outP_ob outI_ob outZ_ob takeV_pb takeV_pb8 boxOf_b takeB_s outPb_s outIb_s outZb_s rv1_nil AS.opn AS.cls AS.nilb AS.renb AS.up Bool.not_false Bool.not_true List.set_set List.set_cons_zero List.set_cons_succ List.set_nil List.mem_singleton forall_eq
set_option maxHeartbeats 800000 in
theorem good23 {G : Gt} (hG : OkG G) : Gd G 23 (roEnt 1 c23) := by
  refine gR (dp := fun _ => true) (fn := Tryz.f23) (n := 1) (fun _ => rfl) (by kernel_rfl) rfl (by kernel_rfl) hG (Nat.le_of_ble_eq_true rfl) (by kernel_rfl) (by decide) (fun h => by cases h) ?_
  rintro ⟨b, ⟨⟩⟩ hpre
  dsimp only
  by_cases L : (b.length : Int) > 2000
  · rw [opn_y L]
    simp -implicitDefEqProofs only [Tryz.f23, L, decide_true, go_sem]
    repeat' (first | with_reducible apply And.intro | with_reducible intro _ | ((first | apply brB_split | apply aPickB_split | apply gB_split | apply adB_split) <;> intro hb <;> simp -implicitDefEqProofs only [hb, go_sem] <;> try simp only [qz] at hb))
    all_goals (try simp only [maxLen, Int.toNat_natCast] at *)
    all_goals first | rfl | omega | decide | assumption | (show pairsB _ = true; rfl) | trace_state
  · rw [opn_n L]
    simp -implicitDefEqProofs only [Tryz.f23, L, decide_false, go_sem]
    repeat' (first | with_reducible apply And.intro | with_reducible intro _ | ((first | apply brB_split | apply aPickB_split | apply gB_split | apply adB_split) <;> intro hb <;> simp -implicitDefEqProofs only [hb, go_sem] <;> try simp only [qz] at hb))
    all_goals (try simp only [maxLen, Int.toNat_natCast] at *)
    all_goals first | rfl | omega | decide | assumption | (show pairsB _ = true; rfl) | trace_state
end
theorem all_eqs {α : Type} [Inhabited α] {xs ys : List α} (i : Nat) (hl : xs.length = ys.length) (h : ∀ j, j < i → xs.getD j default = ys.getD j default) (hi : xs.length ≤ i) : xs = ys := by
  refine List.ext_getElem hl fun j h1 h2 => ?_
  have := h j (by omega)
  simpa [h1, h2] using this
theorem eq_step {α : Type} [Inhabited α] {xs ys : List α} {i : Nat} (hall : ∀ j, j < i → xs.getD j default = ys.getD j default) (h : xs.getD i default = ys.getD i default) : ∀ j, j < i + 1 → xs.getD j default = ys.getD j default := fun j hj => by
  by_cases e : j = i
  · subst e; exact h
  · exact hall j (by omega)
def c79 : Ct := ctR (lc EStr.asl (lc EStr.asl l0)) (fun p => True) (fun p => .t (.v (.bool (decide (p.1 = p.2.1)))))
section
attribute [local go_sem] List.length_map
set_option maxHeartbeats 800000 in
theorem good79 {G : Gt} (hG : OkG G) : Gd G 79 (roEnt 0 c79) := by
  refine gR (dp := fun _ => true) (fn := Tryz.f79) (n := 2) (fun _ => rfl) (by kernel_rfl) rfl (by kernel_rfl) hG (Nat.le_of_ble_eq_true rfl) (by kernel_rfl) (by decide) (fun _ _ => .v _) ?_
  rintro ⟨xs, ys, ⟨⟩⟩ hpre
  simp -implicitDefEqProofs only [Tryz.f79, go_sem] at hpre ⊢
  repeat' (first | with_reducible apply And.intro | with_reducible intro _ | ((first | apply brB_split | apply aPickB_split | apply gB_split | apply adB_split) <;> intro hb <;> simp -implicitDefEqProofs only [hb, go_sem] <;> try simp only [qz] at hb))
  all_goals (try simp only [maxLen] at *)
  all_goals first | rfl | omega | skip
  · have : ¬ xs = ys := fun e => hb (by rw [e])
    simp [this]
  · have hl : xs.length = ys.length := by omega
    refine run_loop [] (ι := {i : Nat // i ≤ xs.length ∧ ∀ j, j < i → xs.getD j default = ys.getD j default}) (fun p => ⟨[(0, .t (.sl 1 (xs.map encStr))), (1, .t (.sl 1 (ys.map encStr))), (5, .t (.v (.int .i64 p.1)))], []⟩) (fun p => xs.length - p.1) ⟨0, by simp, by simp⟩ rfl ?_ ?_
    · simp -implicitDefEqProofs only [go_sem]
      simp
    · rintro ⟨i, hi, hall⟩
      simp -implicitDefEqProofs only [go_sem]
      repeat' (first | with_reducible apply And.intro | with_reducible intro _ | ((first | apply brB_split | apply aPickB_split | apply gB_split | apply adB_split) <;> intro hb <;> simp -implicitDefEqProofs only [hb, go_sem] <;> try simp only [qz] at hb))
      all_goals (try simp only [maxLen, Int.toNat_natCast] at *)
      all_goals first
        | rfl
        | omega
        | decide
        | (show pairsB _ = true; rfl)
        | ((have hne : ¬ xs = ys := fun e => by subst e; first | exact hb rfl | (simp at hb; done)); simp [hne]; done)
        | (refine ⟨⟨i + 1, by omega, eq_step hall (by first | assumption | (simp [*] at *; done))⟩, by dsimp only; omega, ?_⟩
           simp -implicitDefEqProofs only [go_sem]
           simp
           done)
        | (have hxy := all_eqs i hl hall (by omega)
           simp [hxy]
           done)
        | trace_state
end
theorem adQ {a b : Ad} : (decide (a.user = b.user) && decide (a.domain = b.domain)) = decide (a = b) := by
  rw [← Bool.decide_and]; exact decide_eq_decide.2 Ad_ext.symm
theorem adN {a b : Ad} : ((true != (decide (a.user = b.user) && decide (a.domain = b.domain))) = true) = ¬ a = b := by
  rw [adQ]; by_cases h : a = b <;> simp [h]
theorem adN' {a b : Ad} : ((true != (decide (a.user = b.user) && decide (a.domain = b.domain))) = false) = (a = b) := by
  rw [adQ]; by_cases h : a = b <;> simp [h]
theorem rcQ {a b : Rc} : (decide (a.addr.user = b.addr.user) && decide (a.addr.domain = b.addr.domain) && decide (a.tries = b.tries) && decide (a.next = b.next)) = decide (a = b) := by
  rw [← Bool.decide_and, ← Bool.decide_and, ← Bool.decide_and]
  exact decide_eq_decide.2 (by rw [Rc_ext, Ad_ext]; simp [and_assoc])
theorem rcN1 {a b : Rc} : ((true != (decide (a.addr.user = b.addr.user) && decide (a.addr.domain = b.addr.domain) && decide (a.tries = b.tries) && decide (a.next = b.next))) = true) = ¬ a = b := by
  rw [rcQ]; by_cases h : a = b <;> simp [h]
theorem rcN0 {a b : Rc} : ((true != (decide (a.addr.user = b.addr.user) && decide (a.addr.domain = b.addr.domain) && decide (a.tries = b.tries) && decide (a.next = b.next))) = false) = (a = b) := by
  rw [rcQ]; by_cases h : a = b <;> simp [h]
def c34 : Ct := ctR (lc EIm.ag (lc EIm.ag l0)) (fun p => True) (fun p => .t (.v (.bool (decide (p.1 = p.2.1)))))
section
attribute [local go_sem] c79 List.length_map
set_option maxHeartbeats 1600000 in
theorem good34 {G : Gt} (hG : OkG G) (hh : G.e 79 = roEnt 0 c79) : Gd G 34 (roEnt 0 c34) := by
  refine gR (dp := fun _ => true) (fn := Tryz.f34) (n := 2) (fun _ => rfl) (by kernel_rfl) rfl (by kernel_rfl) hG (Nat.le_of_ble_eq_true rfl) (by kernel_rfl) (by decide) (fun _ _ => .v _) ?_
  rintro ⟨a, b, ⟨⟩⟩ hpre
  simp -implicitDefEqProofs only [Tryz.f34, go_sem, hh] at hpre ⊢
  repeat' (first | with_reducible apply And.intro | with_reducible intro _ | ((first | apply brB_split | apply aPickB_split | apply gB_split | apply adB_split) <;> intro hb <;> simp -implicitDefEqProofs only [hb, go_sem, hh] <;> try simp only [qz] at hb))
  all_goals (try simp only [maxLen, adN, adN'] at *)
  all_goals first
    | rfl
    | omega
    | ((have hne : ¬ a = b := fun e => by subst e; simp_all); simp [hne]; done)
    | skip
  have hid : a.id = b.id := by assumption
  have hbod : a.body = b.body := by assumption
  have hfr : a.frm = b.frm := by assumption
  have hl : a.to.length = b.to.length := by omega
  refine run_loop [] (ι := {i : Nat // i ≤ a.to.length ∧ ∀ j, j < i → a.to.getD j default = b.to.getD j default}) (fun p => ⟨[(2, .pb 1002 0), (3, .pb 1003 0), (5, .t (.v (.int .i64 p.1)))], [(1002, some (.box ((encIm a).map .t))), (1003, some (.box ((encIm b).map .t)))]⟩) (fun p => a.to.length - p.1) ⟨0, by simp, by simp⟩ rfl ?_ ?_
  · simp -implicitDefEqProofs only [go_sem, hh]
    simp
  · rintro ⟨i, hi, hall⟩
    simp -implicitDefEqProofs only [go_sem, hh]
    repeat' (first | with_reducible apply And.intro | with_reducible intro _ | ((first | apply brB_split | apply aPickB_split | apply gB_split | apply adB_split) <;> intro hb <;> simp -implicitDefEqProofs only [hb, go_sem, hh] <;> try simp only [qz] at hb))
    all_goals (try simp only [maxLen, Int.toNat_natCast, rcN1, rcN0] at *)
    all_goals first
      | rfl
      | omega
      | decide
      | (show pairsB _ = true; rfl)
      | ((have hne : ¬ a = b := fun e => by subst e; exact hb rfl); simp [hne]; done)
      | (refine ⟨⟨i + 1, by omega, eq_step hall (by assumption)⟩, by dsimp only; omega, ?_⟩
         simp -implicitDefEqProofs only [go_sem, hh]
         simp
         done)
      | (have hxy := all_eqs i hl hall (by omega)
         (have hab : a = b := by rw [Im_ext]; exact ⟨hid, hfr, hxy, hbod⟩); simp [hab]
         done)
      | trace_state
end
def c9 : Ct := ctR (lc ESp.ag (lc ESp.ag l0)) (fun p => True) (fun p => .t (.v (.bool (decide (p.1 = p.2.1)))))
section
attribute [local go_sem] c34 List.length_map qa qb
set_option maxHeartbeats 1600000 in
theorem good9 {G : Gt} (hG : OkG G) (hh : G.e 34 = roEnt 0 c34) : Gd G 9 (roEnt 0 c9) := by
  refine gR (dp := fun _ => true) (fn := Tryz.f9) (n := 2) (fun _ => rfl) (by kernel_rfl) rfl (by kernel_rfl) hG (Nat.le_of_ble_eq_true rfl) (by kernel_rfl) (by decide) (fun _ _ => .v _) ?_
  rintro ⟨a, b, ⟨⟩⟩ hpre
  simp -implicitDefEqProofs only [Tryz.f9, go_sem, hh] at hpre ⊢
  repeat' (first | with_reducible apply And.intro | with_reducible intro _ | ((first | apply brB_split | apply aPickB_split | apply gB_split | apply adB_split) <;> intro hb <;> simp -implicitDefEqProofs only [hb, go_sem, hh] <;> try simp only [qz] at hb))
  all_goals (try simp only [maxLen] at *)
  all_goals first
    | rfl
    | omega
    | ((have hne : ¬ a = b := fun e => by subst e; simp_all); simp [hne]; done)
    | skip
  have hid : a.last = b.last := by assumption
  have hl : a.items.length = b.items.length := by omega
  refine run_loop [] (ι := {i : Nat // i ≤ a.items.length ∧ ∀ j, j < i → a.items.getD j default = b.items.getD j default}) (fun p => ⟨[(2, .pb 1002 0), (3, .pb 1003 0), (5, .t (.v (.int .i64 p.1)))], [(1002, some (.box ((encSp a).map .t))), (1003, some (.box ((encSp b).map .t)))]⟩) (fun p => a.items.length - p.1) ⟨0, by simp, by simp⟩ rfl ?_ ?_
  · simp -implicitDefEqProofs only [go_sem, hh]
    simp
  · rintro ⟨i, hi, hall⟩
    simp -implicitDefEqProofs only [go_sem, hh]
    repeat' (first | with_reducible apply And.intro | with_reducible intro _ | ((first | apply brB_split | apply aPickB_split | apply gB_split | apply adB_split) <;> intro hb <;> simp -implicitDefEqProofs only [hb, go_sem, hh] <;> try simp only [qz] at hb))
    all_goals (try simp only [maxLen, Int.toNat_natCast] at *)
    all_goals first
      | rfl
      | omega
      | decide
      | (show pairsB _ = true; rfl)
      | ((have hne : ¬ a = b := fun e => by subst e; exact hb rfl); simp [hne]; done)
      | (refine ⟨⟨i + 1, by omega, eq_step hall (by assumption)⟩, by dsimp only; omega, ?_⟩
         simp -implicitDefEqProofs only [go_sem, hh]
         simp
         done)
      | (have hxy := all_eqs i hl hall (by omega)
         (have hab : a = b := by rw [Sp_ext]; exact ⟨hid, hxy⟩); simp [hab]
         done)
      | trace_state
end
theorem ckk_2_4 {x0 x1 x2 x3 x4 x5 x6 x7 : T} : chunk 2 4 [x0, x1, x2, x3, x4, x5, x6, x7] = [[x0, x1], [x2, x3], [x4, x5], [x6, x7]] := rfl
theorem ckk_3_2 {x0 x1 x2 x3 x4 x5 : T} : chunk 3 2 [x0, x1, x2, x3, x4, x5] = [[x0, x1, x2], [x3, x4, x5]] := rfl
theorem ckk_3_3 {x0 x1 x2 x3 x4 x5 x6 x7 x8 : T} : chunk 3 3 [x0, x1, x2, x3, x4, x5, x6, x7, x8] = [[x0, x1, x2], [x3, x4, x5], [x6, x7, x8]] := rfl
theorem ckk_2_3 {x0 x1 x2 x3 x4 x5 : T} : chunk 2 3 [x0, x1, x2, x3, x4, x5] = [[x0, x1], [x2, x3], [x4, x5]] := rfl
def cfsL (k : Int) : List Cf :=
  if k = 0 then [⟨⟨#[111, 110, 101, 46, 111, 114, 103]⟩, [⟨#[111, 110, 101, 46, 111, 114, 103]⟩, ⟨#[97, 46, 111, 110, 101, 46, 111, 114, 103]⟩], [⟨⟨#[116, 119, 111, 46, 111, 114, 103]⟩, ⟨#[116, 119, 111, 46, 111, 114, 103]⟩⟩, ⟨⟨#[110, 101, 116]⟩, ⟨#[104, 117, 98, 46, 110, 101, 116]⟩⟩, ⟨⟨#[99, 111, 109]⟩, ⟨#[104, 117, 98, 46, 110, 101, 116]⟩⟩]⟩, ⟨⟨#[116, 119, 111, 46, 111, 114, 103]⟩, [⟨#[116, 119, 111, 46, 111, 114, 103]⟩], [⟨⟨#[120, 46, 99, 111, 109]⟩, ⟨#[111, 110, 101, 46, 111, 114, 103]⟩⟩, ⟨⟨#[111, 110, 101, 46, 111, 114, 103]⟩, ⟨#[111, 110, 101, 46, 111, 114, 103]⟩⟩]⟩, ⟨⟨#[104, 117, 98, 46, 110, 101, 116]⟩, [⟨#[104, 117, 98, 46, 110, 101, 116]⟩, ⟨#[111, 116, 104, 101, 114, 46, 99, 111, 109]⟩], [⟨⟨#[111, 110, 101, 46, 111, 114, 103]⟩, ⟨#[111, 110, 101, 46, 111, 114, 103]⟩⟩, ⟨⟨#[116, 119, 111, 46, 111, 114, 103]⟩, ⟨#[116, 119, 111, 46, 111, 114, 103]⟩⟩, ⟨⟨#[102, 97, 114, 46, 99, 111, 109]⟩, ⟨#[103, 111, 110, 101, 46, 99, 111, 109]⟩⟩, ⟨⟨#[120, 46, 99, 111, 109]⟩, ⟨#[116, 119, 111, 46, 111, 114, 103]⟩⟩]⟩]
  else if k = 1 then [⟨⟨#[111, 110, 101, 46, 111, 114, 103]⟩, [⟨#[111, 110, 101, 46, 111, 114, 103]⟩, ⟨#[97, 46, 111, 110, 101, 46, 111, 114, 103]⟩], [⟨⟨#[116, 119, 111, 46, 111, 114, 103]⟩, ⟨#[116, 119, 111, 46, 111, 114, 103]⟩⟩, ⟨⟨#[110, 101, 116]⟩, ⟨#[104, 117, 98, 46, 110, 101, 116]⟩⟩, ⟨⟨#[99, 111, 109]⟩, ⟨#[104, 117, 98, 46, 110, 101, 116]⟩⟩]⟩, ⟨⟨#[116, 119, 111, 46, 111, 114, 103]⟩, [⟨#[116, 119, 111, 46, 111, 114, 103]⟩], [⟨⟨#[111, 114, 103]⟩, ⟨#[111, 110, 101, 46, 111, 114, 103]⟩⟩, ⟨⟨#[104, 117, 98, 46, 110, 101, 116]⟩, ⟨#[104, 117, 98, 46, 110, 101, 116]⟩⟩]⟩]
  else if k = 2 then [⟨⟨#[111, 110, 101, 46, 111, 114, 103]⟩, [⟨#[111, 110, 101, 46, 111, 114, 103]⟩, ⟨#[97, 46, 111, 110, 101, 46, 111, 114, 103]⟩], [⟨⟨#[116, 119, 111, 46, 111, 114, 103]⟩, ⟨#[116, 119, 111, 46, 111, 114, 103]⟩⟩, ⟨⟨#[110, 101, 116]⟩, ⟨#[104, 117, 98, 46, 110, 101, 116]⟩⟩]⟩, ⟨⟨#[116, 119, 111, 46, 111, 114, 103]⟩, [⟨#[116, 119, 111, 46, 111, 114, 103]⟩], [⟨⟨#[111, 114, 103]⟩, ⟨#[111, 110, 101, 46, 111, 114, 103]⟩⟩, ⟨⟨#[104, 117, 98, 46, 110, 101, 116]⟩, ⟨#[104, 117, 98, 46, 110, 101, 116]⟩⟩, ⟨⟨#[99, 111, 109]⟩, ⟨#[104, 117, 98, 46, 110, 101, 116]⟩⟩]⟩, ⟨⟨#[104, 117, 98, 46, 110, 101, 116]⟩, [⟨#[104, 117, 98, 46, 110, 101, 116]⟩, ⟨#[111, 116, 104, 101, 114, 46, 99, 111, 109]⟩], [⟨⟨#[111, 110, 101, 46, 111, 114, 103]⟩, ⟨#[111, 110, 101, 46, 111, 114, 103]⟩⟩, ⟨⟨#[116, 119, 111, 46, 111, 114, 103]⟩, ⟨#[116, 119, 111, 46, 111, 114, 103]⟩⟩, ⟨⟨#[102, 97, 114, 46, 99, 111, 109]⟩, ⟨#[103, 111, 110, 101, 46, 99, 111, 109]⟩⟩, ⟨⟨#[120, 46, 99, 111, 109]⟩, ⟨#[116, 119, 111, 46, 111, 114, 103]⟩⟩]⟩]
  else [⟨⟨#[111, 110, 101, 46, 111, 114, 103]⟩, [⟨#[111, 110, 101, 46, 111, 114, 103]⟩, ⟨#[97, 46, 111, 110, 101, 46, 111, 114, 103]⟩], [⟨⟨#[116, 119, 111, 46, 111, 114, 103]⟩, ⟨#[116, 119, 111, 46, 111, 114, 103]⟩⟩, ⟨⟨#[110, 101, 116]⟩, ⟨#[104, 117, 98, 46, 110, 101, 116]⟩⟩, ⟨⟨#[99, 111, 109]⟩, ⟨#[104, 117, 98, 46, 110, 101, 116]⟩⟩]⟩, ⟨⟨#[116, 119, 111, 46, 111, 114, 103]⟩, [⟨#[116, 119, 111, 46, 111, 114, 103]⟩], [⟨⟨#[111, 114, 103]⟩, ⟨#[111, 110, 101, 46, 111, 114, 103]⟩⟩, ⟨⟨#[104, 117, 98, 46, 110, 101, 116]⟩, ⟨#[104, 117, 98, 46, 110, 101, 116]⟩⟩]⟩, ⟨⟨#[104, 117, 98, 46, 110, 101, 116]⟩, [⟨#[104, 117, 98, 46, 110, 101, 116]⟩, ⟨#[111, 116, 104, 101, 114, 46, 99, 111, 109]⟩], [⟨⟨#[111, 110, 101, 46, 111, 114, 103]⟩, ⟨#[111, 110, 101, 46, 111, 114, 103]⟩⟩, ⟨⟨#[116, 119, 111, 46, 111, 114, 103]⟩, ⟨#[116, 119, 111, 46, 111, 114, 103]⟩⟩, ⟨⟨#[102, 97, 114, 46, 99, 111, 109]⟩, ⟨#[103, 111, 110, 101, 46, 99, 111, 109]⟩⟩, ⟨⟨#[120, 46, 99, 111, 109]⟩, ⟨#[116, 119, 111, 46, 111, 114, 103]⟩⟩]⟩]
def cfsD (r : Rd) : List Cf := cfsL (pkN r 5)
theorem cfsD_0 {r : Rd} (h : pkN r 5 = 0) : cfsD r = [⟨⟨#[111, 110, 101, 46, 111, 114, 103]⟩, [⟨#[111, 110, 101, 46, 111, 114, 103]⟩, ⟨#[97, 46, 111, 110, 101, 46, 111, 114, 103]⟩], [⟨⟨#[116, 119, 111, 46, 111, 114, 103]⟩, ⟨#[116, 119, 111, 46, 111, 114, 103]⟩⟩, ⟨⟨#[110, 101, 116]⟩, ⟨#[104, 117, 98, 46, 110, 101, 116]⟩⟩, ⟨⟨#[99, 111, 109]⟩, ⟨#[104, 117, 98, 46, 110, 101, 116]⟩⟩]⟩, ⟨⟨#[116, 119, 111, 46, 111, 114, 103]⟩, [⟨#[116, 119, 111, 46, 111, 114, 103]⟩], [⟨⟨#[120, 46, 99, 111, 109]⟩, ⟨#[111, 110, 101, 46, 111, 114, 103]⟩⟩, ⟨⟨#[111, 110, 101, 46, 111, 114, 103]⟩, ⟨#[111, 110, 101, 46, 111, 114, 103]⟩⟩]⟩, ⟨⟨#[104, 117, 98, 46, 110, 101, 116]⟩, [⟨#[104, 117, 98, 46, 110, 101, 116]⟩, ⟨#[111, 116, 104, 101, 114, 46, 99, 111, 109]⟩], [⟨⟨#[111, 110, 101, 46, 111, 114, 103]⟩, ⟨#[111, 110, 101, 46, 111, 114, 103]⟩⟩, ⟨⟨#[116, 119, 111, 46, 111, 114, 103]⟩, ⟨#[116, 119, 111, 46, 111, 114, 103]⟩⟩, ⟨⟨#[102, 97, 114, 46, 99, 111, 109]⟩, ⟨#[103, 111, 110, 101, 46, 99, 111, 109]⟩⟩, ⟨⟨#[120, 46, 99, 111, 109]⟩, ⟨#[116, 119, 111, 46, 111, 114, 103]⟩⟩]⟩] := by unfold cfsD cfsL; rw [if_pos h]
theorem cfsD_1 {r : Rd} (h : pkN r 5 = 1) : cfsD r = [⟨⟨#[111, 110, 101, 46, 111, 114, 103]⟩, [⟨#[111, 110, 101, 46, 111, 114, 103]⟩, ⟨#[97, 46, 111, 110, 101, 46, 111, 114, 103]⟩], [⟨⟨#[116, 119, 111, 46, 111, 114, 103]⟩, ⟨#[116, 119, 111, 46, 111, 114, 103]⟩⟩, ⟨⟨#[110, 101, 116]⟩, ⟨#[104, 117, 98, 46, 110, 101, 116]⟩⟩, ⟨⟨#[99, 111, 109]⟩, ⟨#[104, 117, 98, 46, 110, 101, 116]⟩⟩]⟩, ⟨⟨#[116, 119, 111, 46, 111, 114, 103]⟩, [⟨#[116, 119, 111, 46, 111, 114, 103]⟩], [⟨⟨#[111, 114, 103]⟩, ⟨#[111, 110, 101, 46, 111, 114, 103]⟩⟩, ⟨⟨#[104, 117, 98, 46, 110, 101, 116]⟩, ⟨#[104, 117, 98, 46, 110, 101, 116]⟩⟩]⟩] := by unfold cfsD cfsL; rw [if_neg (by omega), if_pos h]
theorem cfsD_2 {r : Rd} (h : pkN r 5 = 2) : cfsD r = [⟨⟨#[111, 110, 101, 46, 111, 114, 103]⟩, [⟨#[111, 110, 101, 46, 111, 114, 103]⟩, ⟨#[97, 46, 111, 110, 101, 46, 111, 114, 103]⟩], [⟨⟨#[116, 119, 111, 46, 111, 114, 103]⟩, ⟨#[116, 119, 111, 46, 111, 114, 103]⟩⟩, ⟨⟨#[110, 101, 116]⟩, ⟨#[104, 117, 98, 46, 110, 101, 116]⟩⟩]⟩, ⟨⟨#[116, 119, 111, 46, 111, 114, 103]⟩, [⟨#[116, 119, 111, 46, 111, 114, 103]⟩], [⟨⟨#[111, 114, 103]⟩, ⟨#[111, 110, 101, 46, 111, 114, 103]⟩⟩, ⟨⟨#[104, 117, 98, 46, 110, 101, 116]⟩, ⟨#[104, 117, 98, 46, 110, 101, 116]⟩⟩, ⟨⟨#[99, 111, 109]⟩, ⟨#[104, 117, 98, 46, 110, 101, 116]⟩⟩]⟩, ⟨⟨#[104, 117, 98, 46, 110, 101, 116]⟩, [⟨#[104, 117, 98, 46, 110, 101, 116]⟩, ⟨#[111, 116, 104, 101, 114, 46, 99, 111, 109]⟩], [⟨⟨#[111, 110, 101, 46, 111, 114, 103]⟩, ⟨#[111, 110, 101, 46, 111, 114, 103]⟩⟩, ⟨⟨#[116, 119, 111, 46, 111, 114, 103]⟩, ⟨#[116, 119, 111, 46, 111, 114, 103]⟩⟩, ⟨⟨#[102, 97, 114, 46, 99, 111, 109]⟩, ⟨#[103, 111, 110, 101, 46, 99, 111, 109]⟩⟩, ⟨⟨#[120, 46, 99, 111, 109]⟩, ⟨#[116, 119, 111, 46, 111, 114, 103]⟩⟩]⟩] := by unfold cfsD cfsL; rw [if_neg (by omega), if_neg (by omega), if_pos h]
theorem cfsD_3 {r : Rd} (h : ¬ pkN r 5 = 0 ∧ ¬ pkN r 5 = 1 ∧ ¬ pkN r 5 = 2) : cfsD r = [⟨⟨#[111, 110, 101, 46, 111, 114, 103]⟩, [⟨#[111, 110, 101, 46, 111, 114, 103]⟩, ⟨#[97, 46, 111, 110, 101, 46, 111, 114, 103]⟩], [⟨⟨#[116, 119, 111, 46, 111, 114, 103]⟩, ⟨#[116, 119, 111, 46, 111, 114, 103]⟩⟩, ⟨⟨#[110, 101, 116]⟩, ⟨#[104, 117, 98, 46, 110, 101, 116]⟩⟩, ⟨⟨#[99, 111, 109]⟩, ⟨#[104, 117, 98, 46, 110, 101, 116]⟩⟩]⟩, ⟨⟨#[116, 119, 111, 46, 111, 114, 103]⟩, [⟨#[116, 119, 111, 46, 111, 114, 103]⟩], [⟨⟨#[111, 114, 103]⟩, ⟨#[111, 110, 101, 46, 111, 114, 103]⟩⟩, ⟨⟨#[104, 117, 98, 46, 110, 101, 116]⟩, ⟨#[104, 117, 98, 46, 110, 101, 116]⟩⟩]⟩, ⟨⟨#[104, 117, 98, 46, 110, 101, 116]⟩, [⟨#[104, 117, 98, 46, 110, 101, 116]⟩, ⟨#[111, 116, 104, 101, 114, 46, 99, 111, 109]⟩], [⟨⟨#[111, 110, 101, 46, 111, 114, 103]⟩, ⟨#[111, 110, 101, 46, 111, 114, 103]⟩⟩, ⟨⟨#[116, 119, 111, 46, 111, 114, 103]⟩, ⟨#[116, 119, 111, 46, 111, 114, 103]⟩⟩, ⟨⟨#[102, 97, 114, 46, 99, 111, 109]⟩, ⟨#[103, 111, 110, 101, 46, 99, 111, 109]⟩⟩, ⟨⟨#[120, 46, 99, 111, 109]⟩, ⟨#[116, 119, 111, 46, 111, 114, 103]⟩⟩]⟩] := by unfold cfsD cfsL; rw [if_neg h.1, if_neg h.2.1, if_neg h.2.2]
def cfOk1 (c : Cf) : Bool := Nat.ble c.name.size 100 && (Nat.ble c.own.length 10 && (c.own.all (fun s => Nat.ble s.size 100) && (Nat.ble c.ways.length 10 && c.ways.all fun w => Nat.ble w.ends.size 100 && Nat.ble w.to.size 100)))
theorem cfsL_b (k : Int) : (cfsL k).all cfOk1 = true ∧ 2 ≤ (cfsL k).length ∧ (cfsL k).length ≤ 3 := by
  unfold cfsL
  split
  · exact ⟨by decide +kernel, by decide, by decide⟩
  · split
    · exact ⟨by decide +kernel, by decide, by decide⟩
    · split
      · exact ⟨by decide +kernel, by decide, by decide⟩
      · exact ⟨by decide +kernel, by decide, by decide⟩
def cfD (r : Rd) : Cf := (cfsD r).getD (pkN (r.nx 1) (cfsD r).length).toNat default
theorem cfD_b {r : Rd} (h : 0 ≤ r.p) (h1 : r.p ≤ 999999000) : cfOk1 (cfD r) = true := by
  have hb := pkN_b (r := r.nx 1) (n := (cfsD r).length) (by rw [nx_p]; omega) (by rw [nx_p]; omega)
  obtain ⟨h2, h3, h4⟩ := cfsL_b (pkN r 5)
  have e : cfsL (pkN r 5) = cfsD r := rfl
  rw [e] at h2 h3
  exact List.all_eq_true.1 h2 _ (getD_mem (by omega))
def anyCf (r : Rd) : Cf × Rd :=
  let c := cfD r
  let k := pkN (r.nx 2) 10
  if k = 0 then (⟨ofS (r.nx 3) [⟨#[]⟩, ⟨#[65]⟩, ⟨#[97, 46, 46, 98]⟩], c.own, c.ways⟩, r.nx 4)
  else if k = 1 then (⟨c.name, c.own ++ [⟨#[98, 46, 111, 114, 103]⟩, ⟨#[99, 46, 111, 114, 103]⟩], c.ways⟩, r.nx 3)
  else if k = 2 then (⟨c.name, c.own, c.ways ++ [⟨ofS (r.nx 3) [⟨#[]⟩, ⟨#[98, 46, 111, 114, 103]⟩, ⟨#[111, 110, 101, 46, 111, 114, 103]⟩], ⟨#[116, 119, 111, 46, 111, 114, 103]⟩⟩]⟩, r.nx 4)
  else (c, r.nx 3)
theorem anyCf_0 {r : Rd} (h : pkN (r.nx 2) 10 = 0) : anyCf r = (⟨ofS (r.nx 3) [⟨#[]⟩, ⟨#[65]⟩, ⟨#[97, 46, 46, 98]⟩], (cfD r).own, (cfD r).ways⟩, r.nx 4) := by unfold anyCf; dsimp only; rw [if_pos h]
theorem anyCf_1 {r : Rd} (h : pkN (r.nx 2) 10 = 1) : anyCf r = (⟨(cfD r).name, (cfD r).own ++ [⟨#[98, 46, 111, 114, 103]⟩, ⟨#[99, 46, 111, 114, 103]⟩], (cfD r).ways⟩, r.nx 3) := by unfold anyCf; dsimp only; rw [if_neg (by omega), if_pos h]
theorem anyCf_2 {r : Rd} (h : pkN (r.nx 2) 10 = 2) : anyCf r = (⟨(cfD r).name, (cfD r).own, (cfD r).ways ++ [⟨ofS (r.nx 3) [⟨#[]⟩, ⟨#[98, 46, 111, 114, 103]⟩, ⟨#[111, 110, 101, 46, 111, 114, 103]⟩], ⟨#[116, 119, 111, 46, 111, 114, 103]⟩⟩]⟩, r.nx 4) := by unfold anyCf; dsimp only; rw [if_neg (by omega), if_neg (by omega), if_pos h]
theorem anyCf_3 {r : Rd} (h : ¬ pkN (r.nx 2) 10 = 0 ∧ ¬ pkN (r.nx 2) 10 = 1 ∧ ¬ pkN (r.nx 2) 10 = 2) : anyCf r = (cfD r, r.nx 3) := by unfold anyCf; dsimp only; rw [if_neg h.1, if_neg h.2.1, if_neg h.2.2]
theorem cell_sl0 {n : Nat} {es : List (List T)} : cellAV false (.sl n es) = .t (.sl n es) := rfl
theorem cfD_f {r : Rd} : (cfsD r).getD (pkN (r.nx 1) (cfsD r).length).toNat default = cfD r := rfl
def c42 : Mt := ctM (lc ARd l0) (fun p => 0 ≤ p.1.p ∧ p.1.p ≤ 999990000) (fun p => ([ARd.enc (p.1.nx 1)], .o false 3 ((cfsD p.1).map encCf)))
section
attribute [local go_sem] c43 nx_p nx_b ARd_enc ARd_dec decBys omap_some nx_nx nx_eq Rd_eta pp_add outP_ob outI_ob outZ_ob takeV_pb takeV_pb8 boxOf_b takeB_s outPb_s outIb_s outZb_s rv1_nil List.length_map List.length_append List.length_cons List.length_nil List.map_append List.map_nil Nat.zero_add List.nil_append AS.opn AS.cls AS.nilb AS.renb AS.up Bool.not_false Bool.not_true List.set_set List.set_cons_zero List.set_cons_succ List.set_nil List.mem_singleton forall_eq decI_c aCell_map aSet_map ck_4 ck_5 ck_6 ck_7 ck_11 ck_12 ckk_2_4 ckk_3_2 ckk_3_3 ckk_2_3
set_option maxHeartbeats 6400000 in
theorem good42 {G : Gt} (hG : OkG G) (hh : G.e 43 = muEnt c43) : Gd G 42 (muEnt c42) := by
  refine gM (dp := fun n => !(Nat.beq n 36 || Nat.beq n 52)) (fn := Tryz.f42) (n := 1) (fun _ => rfl) (by kernel_rfl) rfl (by kernel_rfl) hG (Nat.le_of_ble_eq_true rfl) (by kernel_rfl) ?_
  rintro ⟨r, ⟨⟩⟩ hpre
  obtain ⟨h1, h2⟩ := hpre
  try dsimp only at h1 h2 ⊢
  by_cases c0 : pkN r 5 = 0
  · skip
    rw [cfsD_0 c0]
    simp -implicitDefEqProofs only [Tryz.f42, c0, eq_self, decide_true, decide_false, Int.reduceEq, go_sem, hh, Int.reduceAdd]
    repeat' (first | with_reducible apply And.intro | with_reducible intro _ | ((first | apply brB_split | apply aPickB_split | apply gB_split | apply adB_split) <;> intro hb <;> simp -implicitDefEqProofs only [hb, go_sem, hh, Int.reduceAdd] <;> try simp only [qz] at hb))
    all_goals (try simp only [maxLen, Int.toNat_natCast] at *)
    all_goals first | rfl | omega | decide | assumption | (show pairsB _ = true; rfl) | trace_state
  · by_cases c1 : pkN r 5 = 1
    · skip
      rw [cfsD_1 c1]
      simp -implicitDefEqProofs only [Tryz.f42, c1, eq_self, decide_true, decide_false, Int.reduceEq, go_sem, hh, Int.reduceAdd]
      repeat' (first | with_reducible apply And.intro | with_reducible intro _ | ((first | apply brB_split | apply aPickB_split | apply gB_split | apply adB_split) <;> intro hb <;> simp -implicitDefEqProofs only [hb, go_sem, hh, Int.reduceAdd] <;> try simp only [qz] at hb))
      all_goals (try simp only [maxLen, Int.toNat_natCast] at *)
      all_goals first | rfl | omega | decide | assumption | (show pairsB _ = true; rfl) | trace_state
    · by_cases c2 : pkN r 5 = 2
      · skip
        rw [cfsD_2 c2]
        simp -implicitDefEqProofs only [Tryz.f42, c2, eq_self, decide_true, decide_false, Int.reduceEq, go_sem, hh, Int.reduceAdd]
        repeat' (first | with_reducible apply And.intro | with_reducible intro _ | ((first | apply brB_split | apply aPickB_split | apply gB_split | apply adB_split) <;> intro hb <;> simp -implicitDefEqProofs only [hb, go_sem, hh, Int.reduceAdd] <;> try simp only [qz] at hb))
        all_goals (try simp only [maxLen, Int.toNat_natCast] at *)
        all_goals first | rfl | omega | decide | assumption | (show pairsB _ = true; rfl) | trace_state
      · skip
        rw [cfsD_3 ⟨c0, c1, c2⟩]
        simp -implicitDefEqProofs only [Tryz.f42, c0, c1, c2, eq_self, decide_true, decide_false, Int.reduceEq, go_sem, hh, Int.reduceAdd]
        repeat' (first | with_reducible apply And.intro | with_reducible intro _ | ((first | apply brB_split | apply aPickB_split | apply gB_split | apply adB_split) <;> intro hb <;> simp -implicitDefEqProofs only [hb, go_sem, hh, Int.reduceAdd] <;> try simp only [qz] at hb))
        all_goals (try simp only [maxLen, Int.toNat_natCast] at *)
        all_goals first | rfl | omega | decide | assumption | (show pairsB _ = true; rfl) | trace_state
end
def c87 : Mt := ctM (lc ARd l0) (fun p => 0 ≤ p.1.p ∧ p.1.p ≤ 999990000) (fun p => ([ARd.enc (p.1.nx 2)], ECf.ag.enc (cfD p.1)))
section
attribute [local go_sem] c43 c42 nx_p nx_b ARd_enc ARd_dec decBys omap_some nx_nx nx_eq Rd_eta pp_add outP_ob outI_ob outZ_ob takeV_pb takeV_pb8 boxOf_b takeB_s outPb_s outIb_s outZb_s rv1_nil List.length_map List.length_append List.length_cons List.length_nil List.map_append List.map_nil Nat.zero_add List.nil_append AS.opn AS.cls AS.nilb AS.renb AS.up Bool.not_false Bool.not_true List.set_set List.set_cons_zero List.set_cons_succ List.set_nil List.mem_singleton forall_eq cfD_f cell_sl0 aCell_map
set_option maxHeartbeats 1600000 in
theorem good87 {G : Gt} (hG : OkG G) (hh : G.e 43 = muEnt c43 ∧ G.e 42 = muEnt c42) : Gd G 87 (muEnt c87) := by
  refine gM (dp := fun _ => true) (fn := Tryz.f87) (n := 1) (fun _ => rfl) (by kernel_rfl) rfl (by kernel_rfl) hG (Nat.le_of_ble_eq_true rfl) (by kernel_rfl) ?_
  rintro ⟨r, ⟨⟩⟩ hpre
  obtain ⟨h1, h2⟩ := hpre
  try dsimp only at h1 h2 ⊢
  obtain ⟨q2, q3, q4⟩ := cfsL_b (pkN r 5)
  have e : cfsL (pkN r 5) = cfsD r := rfl
  rw [e] at q3 q4
  have hb := pkN_b (r := r.nx 1) (n := (cfsD r).length) (by rw [nx_p]; omega) (by rw [nx_p]; omega)
  simp -implicitDefEqProofs only [Tryz.f87, go_sem, hh, Int.reduceAdd]
  repeat' (first | with_reducible apply And.intro | with_reducible intro _ | ((first | apply brB_split | apply aPickB_split | apply gB_split | apply adB_split) <;> intro hb <;> simp -implicitDefEqProofs only [hb, go_sem, hh, Int.reduceAdd] <;> try simp only [qz] at hb))
  all_goals (try simp only [maxLen, Int.toNat_natCast] at *)
  all_goals first | rfl | omega | decide | assumption | (show pairsB _ = true; rfl) | trace_state
end
def c44 : Mt := ctM (lc ARd l0) (fun p => 0 ≤ p.1.p ∧ p.1.p ≤ 999980000) (fun p => ([ARd.enc (anyCf p.1).2], ECf.ag.enc (anyCf p.1).1))
section
attribute [local go_sem] c43 c88 c87 nx_p nx_b ARd_enc ARd_dec decBys omap_some nx_nx nx_eq Rd_eta pp_add outP_ob outI_ob outZ_ob takeV_pb takeV_pb8 boxOf_b takeB_s outPb_s outIb_s outZb_s rv1_nil List.length_map List.length_append List.length_cons List.length_nil List.map_append List.map_nil Nat.zero_add List.nil_append AS.opn AS.cls AS.nilb AS.renb AS.up Bool.not_false Bool.not_true List.set_set List.set_cons_zero List.set_cons_succ List.set_nil List.mem_singleton forall_eq cfD_f aCell_map decI_c decS_c ck_4 ck_5 ck_6 ck_7 ck_11 ck_12 ckk_2_4 ckk_3_2 ckk_3_3 ckk_2_3
set_option maxHeartbeats 6400000 in
theorem good44 {G : Gt} (hG : OkG G) (hh : G.e 43 = muEnt c43 ∧ G.e 88 = muEnt c88 ∧ G.e 87 = muEnt c87) : Gd G 44 (muEnt c44) := by
  refine gM (dp := fun _ => true) (fn := Tryz.f44) (n := 1) (fun _ => rfl) (by kernel_rfl) rfl (by kernel_rfl) hG (Nat.le_of_ble_eq_true rfl) (by kernel_rfl) ?_
  rintro ⟨r, ⟨⟩⟩ hpre
  obtain ⟨h1, h2⟩ := hpre
  try dsimp only at h1 h2 ⊢
  have hc := cfD_b h1 (show r.p ≤ 999999000 by omega)
  unfold cfOk1 at hc
  simp only [Bool.and_eq_true, Nat.ble_eq] at hc
  obtain ⟨z1, z2, z3, z4, z5⟩ := hc
  by_cases c0 : pkN (r.nx 2) 10 = 0
  · rw [anyCf_0 c0]
    simp -implicitDefEqProofs only [Tryz.f44, c0, eq_self, decide_true, decide_false, Int.reduceEq, go_sem, hh, Int.reduceAdd]
    repeat' (first | with_reducible apply And.intro | with_reducible intro _ | ((first | apply brB_split | apply aPickB_split | apply gB_split | apply adB_split) <;> intro hb <;> simp -implicitDefEqProofs only [hb, go_sem, hh, Int.reduceAdd] <;> try simp only [qz] at hb))
    all_goals (try simp only [maxLen, Int.toNat_natCast] at *)
    all_goals first | rfl | omega | decide | assumption | (show pairsB _ = true; rfl) | trace_state
  · by_cases c1 : pkN (r.nx 2) 10 = 1
    · rw [anyCf_1 c1]
      simp -implicitDefEqProofs only [Tryz.f44, c1, eq_self, decide_true, decide_false, Int.reduceEq, go_sem, hh, Int.reduceAdd]
      repeat' (first | with_reducible apply And.intro | with_reducible intro _ | ((first | apply brB_split | apply aPickB_split | apply gB_split | apply adB_split) <;> intro hb <;> simp -implicitDefEqProofs only [hb, go_sem, hh, Int.reduceAdd] <;> try simp only [qz] at hb))
      all_goals (try simp only [maxLen, Int.toNat_natCast] at *)
      all_goals first | rfl | omega | decide | assumption | (show pairsB _ = true; rfl) | (rename_i q; simp only [List.mem_cons, List.not_mem_nil, or_false] at q; rcases q with rfl | rfl <;> rfl) | trace_state
    · by_cases c2 : pkN (r.nx 2) 10 = 2
      · rw [anyCf_2 c2]
        simp -implicitDefEqProofs only [Tryz.f44, c2, eq_self, decide_true, decide_false, Int.reduceEq, go_sem, hh, Int.reduceAdd]
        repeat' (first | with_reducible apply And.intro | with_reducible intro _ | ((first | apply brB_split | apply aPickB_split | apply gB_split | apply adB_split) <;> intro hb <;> simp -implicitDefEqProofs only [hb, go_sem, hh, Int.reduceAdd] <;> try simp only [qz] at hb))
        all_goals (try simp only [maxLen, Int.toNat_natCast] at *)
        all_goals first | rfl | omega | decide | assumption | (show pairsB _ = true; rfl) | trace_state
      · rw [anyCf_3 ⟨c0, c1, c2⟩]
        simp -implicitDefEqProofs only [Tryz.f44, c0, c1, c2, eq_self, decide_true, decide_false, Int.reduceEq, go_sem, hh, Int.reduceAdd]
        repeat' (first | with_reducible apply And.intro | with_reducible intro _ | ((first | apply brB_split | apply aPickB_split | apply gB_split | apply adB_split) <;> intro hb <;> simp -implicitDefEqProofs only [hb, go_sem, hh, Int.reduceAdd] <;> try simp only [qz] at hb))
        all_goals (try simp only [maxLen, Int.toNat_natCast] at *)
        all_goals first | rfl | omega | decide | assumption | (show pairsB _ = true; rfl) | trace_state
end
def dwC (b : List UInt8) : List Cf := if pkN ⟨(opn b).b, 1⟩ 4 = 0 then cfsD (opn b) ++ [(anyCf ⟨(opn b).b, 2⟩).1] else cfsD (opn b)
theorem dwC_y {b : List UInt8} (h : pkN ⟨(opn b).b, 1⟩ 4 = 0) : dwC b = cfsD (opn b) ++ [(anyCf ⟨(opn b).b, 2⟩).1] := if_pos h
theorem dwC_n {b : List UInt8} (h : ¬ pkN ⟨(opn b).b, 1⟩ 4 = 0) : dwC b = cfsD (opn b) := if_neg h
def c13 : Ct := ctR (lc EBy.asl l0) (fun p => True) (fun p => ECf.asl.enc (dwC p.1))
section
attribute [local go_sem] c23 c42 c44 c43 EBy_enc EBy_n len_By opn_p opn_f List.length_map List.length_append List.length_cons List.length_nil List.map_append List.map_nil Nat.zero_add List.nil_append nx_p nx_b ARd_enc ARd_dec decBys omap_some nx_nx nx_eq Rd_eta pp_add outP_ob outI_ob outZ_ob takeV_pb takeV_pb8 boxOf_b takeB_s outPb_s outIb_s outZb_s rv1_nil AS.opn AS.cls AS.nilb AS.renb AS.up Bool.not_false Bool.not_true List.set_set List.set_cons_zero List.set_cons_succ List.set_nil List.mem_singleton forall_eq
set_option maxHeartbeats 1600000 in
theorem good13 {G : Gt} (hG : OkG G) (hh : G.e 23 = roEnt 1 c23 ∧ G.e 42 = muEnt c42 ∧ G.e 44 = muEnt c44 ∧ G.e 43 = muEnt c43) : Gd G 13 (roEnt 1 c13) := by
  refine gR (dp := fun n => !(Nat.beq n 15 || Nat.beq n 16)) (fn := Tryz.f13) (n := 1) (fun _ => rfl) (by kernel_rfl) rfl (by kernel_rfl) hG (Nat.le_of_ble_eq_true rfl) (by kernel_rfl) (by decide) (fun h => by cases h) ?_
  rintro ⟨b, ⟨⟩⟩ hpre
  dsimp only
  obtain ⟨q2, q3, q4⟩ := cfsL_b (pkN (opn b) 5)
  have e : cfsL (pkN (opn b) 5) = cfsD (opn b) := rfl
  rw [e] at q3 q4
  by_cases c : pkN ⟨(opn b).b, 1⟩ 4 = 0
  · rw [dwC_y c]
    simp -implicitDefEqProofs only [Tryz.f13, c, eq_self, decide_true, decide_false, go_sem, hh, Int.reduceAdd]
    repeat' (first | with_reducible apply And.intro | with_reducible intro _ | ((first | apply brB_split | apply aPickB_split | apply gB_split | apply adB_split) <;> intro hb <;> simp -implicitDefEqProofs only [hb, go_sem, hh, Int.reduceAdd] <;> try simp only [qz] at hb))
    all_goals (try simp only [maxLen, Int.toNat_natCast] at *)
    all_goals first | rfl | omega | decide | assumption | (show pairsB _ = true; rfl) | trace_state
  · rw [dwC_n c]
    simp -implicitDefEqProofs only [Tryz.f13, c, decide_false, go_sem, hh, Int.reduceAdd]
    repeat' (first | with_reducible apply And.intro | with_reducible intro _ | ((first | apply brB_split | apply aPickB_split | apply gB_split | apply adB_split) <;> intro hb <;> simp -implicitDefEqProofs only [hb, go_sem, hh, Int.reduceAdd] <;> try simp only [qz] at hb))
    all_goals (try simp only [maxLen, Int.toNat_natCast] at *)
    all_goals first | rfl | omega | decide | assumption | (show pairsB _ = true; rfl) | trace_state
end
end Go.V
