/- The row. No condition. -/
import Derived.Test.YtakcecnegfihkaaGreatDoorKB
import Derived.Lib.Bytealg
import Derived.Shelf.Abstract
import Derived.Shelf.RegionOpenPlain
import Derived.WalkKit
import Derived.Deep.LoopGhost
import Derived.Deep.RegionLaw
import Derived.Lib.Walk
import Derived.Sort.WalkB12
import Derived.Lib.SliceRun
import Derived.Lib.AppendZerosOnto
import Derived.Lib.Overlaps
import Derived.Test.YtakcecnegfihkaaGreatDoorXB
namespace Go.V
open Go Go.Proofs
set_option maxRecDepth 100000
set_option linter.unusedSimpArgs false
set_option linter.unusedVariables false
attribute [local go_sem_proc] Nat.reduceAdd Nat.reduceMul Nat.reduceLeDiff Nat.reduceEqDiff reduceCtorEq Nat.reduceSub Int.reduceNeg Nat.reduceMod Nat.reduceBEq Nat.reduceLT
attribute [local go_sem] aPickB.eq_1 aPickB.eq_2 aPick.eq_1 aBox.eq_1 aBox.eq_2 aAlloc.eq_1 aAlloc.eq_2 aLoadB.eq_1 aLoadB.eq_2 aLoadB.eq_3 aLoadB.eq_4 aLoadB.eq_5 aLoadA.eq_1 aLoadA.eq_2 aLoadA.eq_3 aLoadA.eq_4 aLoadA.eq_5 aLoadP.eq_1 aLoadP.eq_2 aLoadP.eq_3 aLoad.eq_1 aLoad.eq_2 aFAx.eq_1 aFAx.eq_2 aFAx.eq_3 aFA.eq_1 aFA.eq_2 aFx.eq_1 aF.eq_1 aF.eq_2 fld.eq_1 elT.eq_1 aIdxH.eq_1 aIdxH.eq_2 aIdxH.eq_3 aIdxH.eq_4 aIdxH.eq_5 aIdxP.eq_1 aIdxP.eq_2 aIndexAddr.eq_1 aIndexAddr.eq_2 aIndexAddr.eq_3 isStr.eq_1 aIndex.eq_1 aSlStr.eq_1 aSlRo.eq_1 aSlZ.eq_1 aSlZ.eq_2 aSlice.eq_1 aSlice.eq_2 aSlice.eq_3 bnd.eq_1 bnd.eq_2 aBuildO.eq_1 aBuildO.eq_2 aBuild.eq_1 aNewArr.eq_1 aNewArr.eq_2 aBS.eq_1 aBS.eq_2 aBuildSlice.eq_1 aBuildSlice.eq_2 aMakeSlice.eq_1 appDeep.eq_1 aApp2.eq_1 aAppend.eq_1 aAppend.eq_2 aStoreB.eq_1 aStoreA.eq_1 obFlat.eq_1 aStore2.eq_1 aStore2.eq_2 aStoreP.eq_1 aStoreP.eq_2 aStore.eq_1 aStore.eq_2 isShl.eq_1 isShl.eq_2 isBool.eq_1 aBinI.eq_1 aBinI.eq_2 aBinB.eq_1 aBinB.eq_2 aEq.eq_1 aEq.eq_2 aEq.eq_3 aEq.eq_4 aEqG.eq_1 aEqG.eq_2 aBin.eq_1 aBin.eq_2 aBin.eq_3 aBin.eq_4 aUn.eq_1 aUn.eq_2 aLenO.eq_1 aLenS.eq_1 aLenS.eq_2 aLenS.eq_3 aLenT.eq_1 aLen.eq_1 aLen.eq_2 aLen.eq_3 bytesOb.eq_1 bytesOb.eq_2 bytesOf.eq_1 bytesOf.eq_2 aNums.eq_1 aNums.eq_2 isU8.eq_1 aCvI.eq_1 aCvS.eq_1 aCvB.eq_1 aCvB.eq_2 aCvT.eq_1 aConv.eq_1 aConv.eq_2 aConv.eq_3 aConv.eq_4 aExO.eq_1 aExO.eq_2 aExtract.eq_1 aNil.eq_1 aNil.eq_2 aNil.eq_3 aCallS.eq_1 aCallS.eq_2 aCallR.eq_1 aCallR.eq_2 aCallK.eq_1 aCallK.eq_2 aCallK.eq_3 aCall.eq_1 aCall.eq_2 takeO.eq_1 AS.takeV.eq_1 AS.takeV.eq_2 AS.takeV.eq_3 AS.takeV.eq_4 AS.takeV.eq_5 AS.takeV.eq_6 AS.takeV.eq_7 AV.oldM.eq_1 AV.oldM.eq_2 AV.oldM.eq_3 AV.oldM.eq_4 AV.oldM.eq_5 AV.oldM.eq_6 AV.oldM.eq_7 AV.oldM.eq_8 AV.oldM.eq_9 AV.oldM.eq_10 AV.oldM.eq_11 AV.oldML.eq_1 AV.oldML.eq_2 subL.eq_1 subL.eq_2 back.eq_1 back.eq_2 back.eq_3 back.eq_4 backL.eq_1 backI.eq_1 backI.eq_2 backI.eq_3 backI.eq_4 backIL.eq_1 aBuiltin.eq_1 aBuiltin.eq_2 aBuiltin.eq_3 aCallee.eq_1 aCallee.eq_2 aCallee.eq_3 abin.eq_1 abin.eq_2 abin.eq_3 abin.eq_4 abin.eq_5 abin.eq_6 abin.eq_7 abin.eq_8 abin.eq_9 abin.eq_10 abin.eq_11 abin.eq_12 abin.eq_13 abin.eq_14 abin.eq_15 abin.eq_17 abin.eq_18 abin.eq_19 abin.eq_20 abin.eq_21 abin.eq_22 abin.eq_23 AS.ev.eq_1 AS.ev.eq_2 AS.ev.eq_3 AS.ev.eq_4 AS.evs.eq_1 AS.evs.eq_2 AS.evp.eq_1 AS.evp.eq_2 AS.put.eq_1 AS.put.eq_2 AS.remL.eq_1 AS.remL.eq_2 AV.has.eq_1 AV.has.eq_2 AV.has.eq_3 AV.has.eq_4 AV.has.eq_5 AV.has.eq_6 AV.has.eq_7 AV.has.eq_8 AV.has.eq_9 AV.has.eq_10 AV.has.eq_11 AV.hasL.eq_1 AV.hasL.eq_2 Ob.drop.eq_1 Ob.drop.eq_2 Ob.drop.eq_3 Ob.drop.eq_4 AV.cells.eq_1 AV.cells.eq_2 AV.cells.eq_3 AV.cells.eq_4 AV.cells.eq_5 AS.snapT.eq_1 AS.snapT.eq_2 AS.snapT.eq_3 AS.snapT.eq_4 AS.snapT.eq_5 AS.snapT.eq_6 AS.snapT.eq_7 AS.snap.eq_1 AS.snap.eq_2 mapO.eq_1 mapO.eq_2 intern.eq_1 intern.eq_2 intern.eq_3 intern.eq_4 intern.eq_5 intern.eq_6 intern.eq_7 intern.eq_8 intern.eq_9 intern.eq_10 intern.eq_11 internL.eq_1 internL.eq_2 zipSl.eq_1 zipSl.eq_2 AV.ids.eq_1 AV.ids.eq_2 AV.ids.eq_3 AV.ids.eq_4 AV.ids.eq_5 AV.ids.eq_6 AV.ids.eq_7 AV.ids.eq_8 AV.ids.eq_9 AV.ids.eq_10 AV.ids.eq_11 AV.idsL.eq_1 AV.idsL.eq_2 AV.sub.eq_1 AV.sub.eq_2 AV.sub.eq_3 AV.sub.eq_4 AV.sub.eq_5 AV.sub.eq_6 AV.sub.eq_7 AV.sub.eq_8 AV.sub.eq_9 AV.sub.eq_10 AV.sub.eq_11 AV.subL.eq_1 AV.subL.eq_2 AS.frzL.eq_1 AS.frzL.eq_2 AS.absT.eq_1 AS.absT.eq_2 AS.absT.eq_4 AS.absL.eq_1 AS.absL.eq_2 AS.absOk.eq_1 AS.absOkL.eq_1 AS.absOkL.eq_2 hid.eq_1 hids.eq_1 hids.eq_2 AS.appBase.eq_1 AS.appBase.eq_2 AS.appSrc.eq_1 appFits.eq_1 appFits.eq_2 appFits.eq_3 avFill.eq_1 avFill.eq_2 avc.eq_1 avc.eq_2 avc1.eq_1 Kd.agg.eq_1 Kd.agg.eq_2 okR.eq_1 okR.eq_2 okR.eq_3 okR.eq_4 okR.eq_5 okR.eq_6 okR.eq_7 okR.eq_8 zt.eq_1 rvB.eq_1 rvP.eq_1 rvA.eq_1 rvA.eq_2 rv1.eq_1 outTO.eq_1 outT.eq_1 outT.eq_2 outT.eq_3 outTn.eq_1 outOO.eq_1 outO.eq_1 outO.eq_2 boxOf.eq_1 outP.eq_1 outP.eq_2 outP.eq_3 outP.eq_4 outP.eq_5 outP.eq_6 outP.eq_7 outP.eq_8 outPL.eq_1 outPL.eq_2 outI.eq_1 outI.eq_2 outI.eq_3 outI.eq_4 outI.eq_5 outIL.eq_1 outZ.eq_1 outZ.eq_2 outZ.eq_3 outZ.eq_4 outZ.eq_5 outZL.eq_1 finO.eq_1 finO.eq_2 fin.eq_1 fin.eq_2 fin.eq_3 cellAV.eq_1 cellAV.eq_2 numsOf.eq_1 numsOf.eq_2 aop.eq_1 aop.eq_2 aop.eq_3 aop.eq_4 aop.eq_5 aop.eq_6 aop.eq_7 aop.eq_8 aop.eq_9 aop.eq_10 aop.eq_11 aop.eq_12 aop.eq_13 aop.eq_14 aop.eq_15 aop.eq_16 aop.eq_17 aop.eq_18 aop.eq_19 aop.eq_20 aop.eq_21 aop.eq_22 aop.eq_23 aop.eq_24 aop.eq_25 aop.eq_26 tmpsOf.eq_1 tmpsOf.eq_2 tmpsOf.eq_3 tmpsOf.eq_4 tmpsOf.eq_5 AV.refs.eq_1 AV.refs.eq_2 AV.refs.eq_3 AV.refs.eq_4 AV.refs.eq_5 AV.refs.eq_6 AV.refs.eq_7 AV.refs.eq_8 AV.refs.eq_9 AV.refs.eq_10 AV.refs.eq_11 AV.refsL.eq_1 AV.refsL.eq_2 refsT.eq_1 refsT.eq_2 refsO.eq_1 refsO.eq_2 refsO.eq_3 refsO.eq_4 refsO.eq_5 refsO.eq_6 refsB.eq_1 refsB.eq_2 clos.eq_1 clos.eq_2 keepL.eq_1 keepL.eq_2 AV.hasM.eq_1 AV.hasM.eq_2 AV.hasM.eq_3 AV.hasM.eq_4 AV.hasM.eq_5 AV.hasM.eq_6 AV.hasM.eq_7 AV.hasM.eq_8 AV.hasM.eq_9 AV.hasM.eq_10 AV.hasM.eq_11 AV.hasML.eq_1 AV.hasML.eq_2 Ob.dropM.eq_1 Ob.dropM.eq_2 Ob.dropM.eq_3 Ob.dropM.eq_4 nsC.eq_1 nsC.eq_2 okGuard.eq_1 okGuard.eq_2 AS.purges.eq_1 AS.purges.eq_2 dropMB.eq_1 dropMB.eq_2 newB.eq_1 newB.eq_2 ptB.eq_1 ptB.eq_2 lookC.eq_1 lookC.eq_2 dropB.eq_1 dropB.eq_2 leS.eq_1 leS.eq_2 leT.eq_1 leT.eq_2 AS.mvs.eq_1 AS.mvs.eq_2 AS.mvA.eq_1 AS.mvA.eq_2 AS.mvB.eq_1 aSetO.eq_1 aSetO.eq_2 aSh.eq_1 aSh.eq_2 arK.eq_1 aIdxA.eq_1 aIdxA.eq_2 arT.eq_1 aSlHB.eq_1 aSlHB.eq_2 aSlHO.eq_1 aSlHZ.eq_1 aSlHZ.eq_2 isSlT.eq_1 isNilC.eq_1 aNilO.eq_1 aNilX.eq_1 aNilX.eq_2 aNilX.eq_3 aNilC.eq_1 aNilC.eq_2 aBinQ.eq_1 aBinQ.eq_2 aMin.eq_1 flT.eq_1 flT.eq_2 flT.eq_3 mpT.eq_1 aMkMap.eq_1 aMkMap.eq_2 strA.eq_1 keyMK.eq_1 keyMK.eq_2 keyMK.eq_3 mkB.eq_1 mkB.eq_2 mkB.eq_3 aMp2.eq_1 aMp1.eq_1 aMp0.eq_1 aMapU.eq_1 aLk2.eq_1 aLk2.eq_2 aLk1.eq_1 aLk0.eq_1 aLookup.eq_1 aLenMO.eq_1 aLenM.eq_1 glV.eq_1 glV.eq_2 evG.eq_1 evG.eq_2 evG.eq_3 evG.eq_4 lkHitO.eq_1 lkHitO.eq_2 lkHitO.eq_3 lkHitO.eq_4 lkHit.eq_1 lkHit.eq_2 lkF.eq_1 lkF.eq_2 lkFind.eq_1 lkFind.eq_2 lkV.eq_1 lkV.eq_2 lkV.eq_3 lkV.eq_4 lkV.eq_5 AS.lkO.eq_1 AS.lkO.eq_2 AS.lkOf.eq_1 rawT.eq_1 rawT.eq_2 rawT.eq_3 rawT.eq_4 rawT.eq_5 rawT.eq_6 rawOf.eq_1 rawOf.eq_2 rawOf.eq_3 rawOf.eq_4 rawOf.eq_5 rawOf.eq_6 rawOf.eq_7 rawOf.eq_8 rawOf.eq_9 rawOf.eq_10 rawOf.eq_11 aLkR.eq_1 aLkR.eq_2 aLk.eq_1 aLk.eq_2 KL.eq_1 lkDrop.eq_1 lkDrop.eq_2 lkParO.eq_1 lkParO.eq_2 lkParO.eq_3 lkParO.eq_4 lkPar.eq_1 lkPar.eq_2 lkI.eq_1 lkI.eq_2 lkIds.eq_1 lkIds.eq_2 adLd.eq_1 run_nil run_b run_l run_skip run_label run_seq run_cond brV_b brB_t brB_f run_block run_exit run_ret run_region runX_nil runX_c runX_c' runX_b runX_b' runX_l runX_l' exB_t exB_f run_o run_op run_opg gV_b gV_t gB_tt gB_ff gB_tf gB_ft rs_eq kv KI aLenN aBS1 aApp1 aStore1 szOk gv gd s0 idOf look_cons lookC frzU_t frzU_f orT orF drop_any drop_nil drop_t drop_h drop_pb drop_pa drop_agg drop_tup drop_fn dropB kill_eq set_eq rem_eq re_eq up_eq get_eq ob_eq Ob.drop apl fpl plainTy AS.frz splice cond_true cond_false List.map_cons List.map_nil List.drop_zero List.drop_succ_cons List.drop_nil List.take_zero List.take_succ_cons List.take_nil List.getElem?_cons_zero List.getElem?_cons_succ List.getElem?_nil List.length_cons List.length_nil Option.map_some Option.map_none Option.bind_some Option.bind_none List.cons_append List.nil_append List.append_nil Option.getD_some Option.getD_none List.all_cons List.all_nil Bool.and_true Bool.true_and Bool.or_false Bool.false_or Bool.or_true Bool.true_or List.flatten_cons List.flatten_nil List.replicate_succ List.replicate_zero and_true true_and avOf_t avOf_f agg_bool agg_int agg_str agg_slice agg_struct agg_func agg_ptr agg_map avc_bool avc_int avc_str avc_fn avc1_bool avc1_int avc1_str avc1_fn zt_bool zt_int zt_str cells_nil cells_t cells_h cells_pb cells_fn snap_t snap_nil snap_h snap_pb snap_fn rv1_one rv1_two outI_t outI_oh outI_on outI_any outI_nil outZ_th outZ_tt outZ_tn outZ_o outZ_any outZ_nil outIL_nil outZL_nil finN finR ne_eq not_false_eq_true not_true_eq_false List.nodup_nil List.not_mem_nil false_implies implies_true eq_self true_or or_true Option.some.injEq shl_add shl_sub shl_mul shl_quo shl_rem shl_and shl_or shl_xor shl_andNot shl_eql shl_neq shl_lss shl_leq shl_gtr shl_geq shl_shr shl_shl appDeep_none appDeep_sn appSrc_h appSrc_nil fits_ft fits_tn fits_tf isStr_slice obFlat_box Nat.le_refl nbeq_self List.length_map updZ_s updZ_n dropM_eq purge_eq newIds_cons newIds_nil purgeT_nil purgeT_cons memN_cons memN_nil bd_d bd_c bd_g bd_p bd_t bd_o preds_nil preds_cons hasIns insB List.any_cons List.any_nil adK_eq adr_nil adG_eq kdOp noLen creates Op.operands Call.operands nsOf adT adI adJ plainB rst List.append_eq nsD_f nsD_n nsD_t nOf_0 nOf_1 nOf_2 chO_0 chO_1 chO_2 keepK_0 keepK_1 keepK_2 eqRes AS.mv fits KM aCallM notNew kdCall arK_i64 arK_i32 arK_u8 arK_u64 arT_sl isNilC_t isNilC_f isNilC_g isNilC_i isNilC_b isNilC_s isNilC_a isNilC_n andBF andBT aCallK_2 ble_dec hid_t hid_nil hid_any hid_pb hid_fn absOk_t absOk_nil absOk_pb absOk_h absOkO_1 decide_true decide_false Array.toList_append chunk_0 chunk_1 chunk_2 chunk_3 back_t back_nil back_ht backL_nil backI_t backI_nil backI_ht backIL_nil AS.mvJ nbeq_dec runR_f runR_t loadB Option.isSome_some Option.isSome_none nodup1 adr_none adr_some adO_s adV_b adV_t adB_tt adB_ff adB_tf adB_ft adS_eq lenL.eq_1 lenO.eq_1 lenO.eq_2 lenV.eq_1 lenV.eq_2 lenV.eq_3 lenV.eq_4 optN optS absT_ft
attribute [local go_sem] ty3 ty4 ty5 ty9 ty21 ty22 ty23 ty25 ty26 ty28 ty29 ty30 ty32 ty34 ty35 ty37 ty40 ty42 ty43 ty45 ty46 ty47 ty49 ty53 ty54 ty56 ty106 ty108 ty120 ty124 ty126 ty129 ty131 ty133 ty147 ty161 ty192 ty194 ty196 ty198 ty213 ty215 ty221 ty224 ty229 ty237 ty244 ty268 lv53 lv147 lv161 lv198 zb4 leS leT fits AS.mvs encStr_eq aIdx_str EStr_dec decStrs decStrs0 EStr_enc EStr_n encInt_eq aIdx_int EInt_dec decInts decInts0 EInt_enc EInt_n AllV_Int len_Int lc_enc l0_enc asl_enc ag_enc aow_enc ABool_enc AInt_enc AStr_enc AU8_enc ABool_dec AInt_dec AStr_dec AU8_dec asl_dec ag_dec aow_dec bind_some pr2.eq_1 l0_nil lc_cons unT.eq_1 K0.eq_1 M0.eq_1 KI AllV_Str len_Str ctR_eq ctM_eq ro_kd ro_ro mu_kd mu_mu encAd_eq aIdx_Ad EAd_dec decAds decAds0 EAd_enc EAd_n len_Ad Ad_eta AllV_Ad encMl_eq aIdx_Ml EMl_dec decMls decMls0 EMl_enc EMl_n len_Ml Ml_eta mkMl.eq_1 owMl_eq AMl_enc AMl_dec encRc_eq aIdx_Rc ERc_dec decRcs decRcs0 ERc_enc ERc_n len_Rc Rc_eta AllV_Rc encIm_eq aIdx_Im EIm_dec decIms decIms0 EIm_enc EIm_n len_Im Im_eta mkIm.eq_1 owIm_eq AIm_enc AIm_dec encSp_eq aIdx_Sp ESp_dec decSps decSps0 ESp_enc ESp_n len_Sp Sp_eta mkSp.eq_1 owSp_eq ASp_enc ASp_dec encWy_eq aIdx_Wy EWy_dec decWys decWys0 EWy_enc EWy_n len_Wy Wy_eta AllV_Wy encCf_eq aIdx_Cf ECf_dec decCfs decCfs0 ECf_enc ECf_n len_Cf Cf_eta mkCf.eq_1 owCf_eq ACf_enc ACf_dec encGm_eq aIdx_Gm EGm_dec decGms decGms0 EGm_enc EGm_n len_Gm Gm_eta mkGm.eq_1 owGm_eq AGm_enc AGm_dec encBx_eq aIdx_Bx EBx_dec decBxs decBxs0 EBx_enc EBx_n len_Bx Bx_eta mkBx.eq_1 owBx_eq ABx_enc ABx_dec encLs_eq aIdx_Ls ELs_dec decLss decLss0 ELs_enc ELs_n len_Ls Ls_eta AllV_Ls encHs_eq aIdx_Hs EHs_dec decHss decHss0 EHs_enc EHs_n len_Hs Hs_eta mkHs.eq_1 owHs_eq AHs_enc AHs_dec
theorem uT {p : Prop} (h : p) : T.v (Value.bool true) = T.v (Value.bool (bOf p)) := by rw [bOf_y h]
theorem uF {p : Prop} (h : ¬ p) : T.v (Value.bool false) = T.v (Value.bool (bOf p)) := by rw [bOf_n h]
theorem uE {p q : Prop} (h : p ↔ q) : T.v (Value.bool (bOf p)) = T.v (Value.bool (bOf q)) := by rw [bOf_congr h]
theorem uN {p q : Prop} (h : ¬ p ↔ q) : T.v (Value.bool (!bOf p)) = T.v (Value.bool (bOf q)) := by rw [bOf_not, bOf_congr h]
theorem uB {b : Bool} {q : Prop} (h : b = true ↔ q) : T.v (Value.bool b) = T.v (Value.bool (bOf q)) := by
  cases b
  · exact uF (fun q => by have := h.2 q; simp at this)
  · exact uT (h.1 rfl)
theorem uD {p q : Prop} [Decidable p] (h : p ↔ q) : T.v (Value.bool (decide p)) = T.v (Value.bool (bOf q)) := by rw [← bOf_d, bOf_congr h]
def cmpS (a b : ByteArray) : Int := Lib.compareBytes (bl a) (bl b)
theorem cmp_lt : ∀ a b : List UInt8, (Lib.compareBytes a b < 0) ↔ Op.bytesLess a b = true
  | [], [] => by simp [Lib.compareBytes, Op.bytesLess]
  | [], _ :: _ => by simp [Lib.compareBytes, Op.bytesLess]
  | _ :: _, [] => by simp [Lib.compareBytes, Op.bytesLess]
  | a :: x, b :: y => by
    have ih := cmp_lt x y
    simp only [Lib.compareBytes, Op.bytesLess, Bool.or_eq_true, Bool.and_eq_true, decide_eq_true_eq, beq_iff_eq]
    by_cases h1 : a < b
    · simp [h1]
    · by_cases h2 : b < a
      · have h3 : ¬ a = b := fun e => by subst e; exact absurd h2 (UInt8.lt_irrefl _)
        simp [h1, h2, h3]
      · have h3 : a = b := UInt8.le_antisymm (UInt8.not_lt.1 h2) (UInt8.not_lt.1 h1)
        have hir := UInt8.lt_irrefl b
        simp only [h3, hir, if_false, false_or, true_and]
        exact ih
theorem cmp_0 : ∀ a b : List UInt8, (Lib.compareBytes a b = 0) ↔ a = b
  | [], [] => by simp [Lib.compareBytes]
  | [], _ :: _ => by simp [Lib.compareBytes]
  | _ :: _, [] => by simp [Lib.compareBytes]
  | a :: x, b :: y => by
    have ih := cmp_0 x y
    simp only [Lib.compareBytes, List.cons.injEq]
    by_cases h1 : a < b
    · have h3 : ¬ a = b := fun e => by subst e; exact absurd h1 (UInt8.lt_irrefl _)
      simp [h1, h3]
    · by_cases h2 : b < a
      · have h3 : ¬ a = b := fun e => by subst e; exact absurd h2 (UInt8.lt_irrefl _)
        simp [h1, h2, h3]
      · have h3 : a = b := UInt8.le_antisymm (UInt8.not_lt.1 h2) (UInt8.not_lt.1 h1)
        simp only [h3, true_and]
        rw [if_neg (UInt8.lt_irrefl b), if_neg (UInt8.lt_irrefl b)]
        exact ih
theorem cmpS_lt (a b : ByteArray) : cmpS a b < 0 ↔ strLt a b = true := by
  unfold cmpS strLt
  rw [cmp_lt, toList_bl, toList_bl]
theorem cmpS_0 (a b : ByteArray) : cmpS a b = 0 ↔ a = b := by
  unfold cmpS
  rw [cmp_0]
  exact ⟨bl_inj, fun e => by rw [e]⟩
theorem cmpS_range : ∀ a b : List UInt8, -1 ≤ Lib.compareBytes a b ∧ Lib.compareBytes a b ≤ 1
  | [], [] => by simp [Lib.compareBytes]
  | [], _ :: _ => by simp [Lib.compareBytes]
  | _ :: _, [] => by simp [Lib.compareBytes]
  | a :: x, b :: y => by
    have ih := cmpS_range x y
    simp only [Lib.compareBytes]
    split
    · omega
    · split
      · omega
      · exact ih
def adLt (a b : Ad) : Prop := strLt a.domain b.domain = true ∨ (a.domain = b.domain ∧ strLt a.user b.user = true)
def byD (a b : Ad) : Int := if cmpS a.domain b.domain = 0 then cmpS a.user b.user else cmpS a.domain b.domain
theorem byD_lt (a b : Ad) : byD a b < 0 ↔ adLt a b := by
  unfold byD adLt
  by_cases h : cmpS a.domain b.domain = 0
  · rw [if_pos h, cmpS_lt]
    have h2 : ¬ strLt a.domain b.domain = true := fun q => by have := (cmpS_lt _ _).2 q; omega
    exact ⟨fun q => .inr ⟨(cmpS_0 _ _).1 h, q⟩, fun q => q.elim (fun q => absurd q h2) fun q => q.2⟩
  · rw [if_neg h, cmpS_lt]
    exact ⟨.inl, fun q => q.elim id fun q => absurd ((cmpS_0 _ _).2 q.1) h⟩
def orI : List Int → Int
  | [] => 0
  | x :: r => if x = 0 then orI r else x
theorem decI2 {x y : Int} : EInt.decL [[.v (.int .i64 x)], [.v (.int .i64 y)]] = some [x, y] := EInt.decL_map [x, y]
theorem orI_step {xs : List Int} {i : Nat} (h : i < xs.length) : orI (xs.drop i) = if xs.getD i default = 0 then orI (xs.drop (i + 1)) else xs.getD i default := by
  rw [getD_drop h]; rfl
def c220 : Ct := ctR (lc AStr (lc AStr l0)) (fun _ => True) (fun p => .t (.v (.int .i64 (cmpS p.1 p.2.1))))
theorem good220 (m : Int) : GoodX Tryz.prog m 220 c220 := GoodX.of (r := fun (p : ByteArray × ByteArray × Unit) => .int .i64 (cmpS p.1 p.2.1)) (fun _ => trivial) fun p _ => by
  obtain ⟨s, c, ⟨⟩⟩ := p
  intro w pr vs hgl hv
  have := two_args hv
  subst this
  have he : Extern.find Tryz.f220 = some Extern.BytealgCompare.compare := by kernel_rfl
  rw [run_callFunc_extern (fn := Tryz.f220) (by kernel_rfl) (by kernel_rfl) rfl (by kernel_rfl) he]
  have h := Lib.run_compareString (P := Tryz.prog) s c w
  rw [show ([Value.string s, Value.string c].toArray) = #[.string s, .string c] from rfl, h]
  rfl
def CfOk (c : Cf) : Prop := (∀ s ∈ c.own, Dom s) ∧ (∀ w ∈ c.ways, Dom w.ends ∧ Dom w.to) ∧ Dom c.name ∧ (c.own.length : Int) ≤ 3 ∧ (c.ways.length : Int) ≤ 4
def c203 : Ct := ctR (lc AStr (lc AStr l0)) (fun p => True) (fun p => .t (.v (.int .i64 (cmpS p.1 p.2.1))))
section
attribute [local go_sem] c220
theorem good203 {G : Gt} (hG : OkG G) (hh : G.e 220 = roEnt 3 c220) : Gd G 203 (roEnt 0 c203) := by
  refine gR (dp := fun _ => true) (fn := Tryz.f203) (n := 2) (fun _ => rfl) (by kernel_rfl) rfl (by kernel_rfl) hG (Nat.le_of_ble_eq_true rfl) (by kernel_rfl) (by decide) (fun _ _ => .v _) ?_
  rintro ⟨a, b, ⟨⟩⟩ hpre
  simp -implicitDefEqProofs only [Tryz.f203, go_sem, hh] at hpre ⊢
  repeat' (first | with_reducible apply And.intro | with_reducible intro _ | ((first | apply brB_split | apply aPickB_split | apply gB_split | apply adB_split) <;> intro hb <;> simp -implicitDefEqProofs only [hb, go_sem, hh] <;> try simp only [qz] at hb))
  all_goals first | rfl | omega | trace_state
end
def c175 : Ct := ctR (lc AStr (lc AStr l0)) (fun p => True) (fun p => .t (.v (.int .i64 (cmpS p.1 p.2.1))))
section
attribute [local go_sem] c203
theorem good175 {G : Gt} (hG : OkG G) (hh : G.e 203 = roEnt 0 c203) : Gd G 175 (roEnt 0 c175) := by
  refine gR (dp := fun _ => true) (fn := Tryz.f175) (n := 2) (fun _ => rfl) (by kernel_rfl) rfl (by kernel_rfl) hG (Nat.le_of_ble_eq_true rfl) (by kernel_rfl) (by decide) (fun _ _ => .v _) ?_
  rintro ⟨a, b, ⟨⟩⟩ hpre
  simp -implicitDefEqProofs only [Tryz.f175, go_sem, hh] at hpre ⊢
  repeat' (first | with_reducible apply And.intro | with_reducible intro _ | ((first | apply brB_split | apply aPickB_split | apply gB_split | apply adB_split) <;> intro hb <;> simp -implicitDefEqProofs only [hb, go_sem, hh] <;> try simp only [qz] at hb))
  all_goals first | rfl | omega | trace_state
end
def c174 : Ct := ctR (lc EInt.asl l0) (fun p => True) (fun p => .t (.v (.int .i64 (orI p.1))))
section
attribute [local go_sem] List.length_map
theorem good174 {G : Gt} (hG : OkG G) : Gd G 174 (roEnt 0 c174) := by
  refine gR (dp := fun _ => true) (fn := Tryz.f174) (n := 1) (fun _ => rfl) (by kernel_rfl) rfl (by kernel_rfl) hG (Nat.le_of_ble_eq_true rfl) (by kernel_rfl) (by decide) (fun _ _ => .v _) ?_
  rintro ⟨xs, ⟨⟩⟩ hpre
  simp -implicitDefEqProofs only [Tryz.f174, go_sem] at hpre ⊢
  repeat' (first | with_reducible apply And.intro | with_reducible intro _ | ((first | apply brB_split | apply aPickB_split | apply gB_split | apply adB_split) <;> intro hb <;> simp -implicitDefEqProofs only [hb, go_sem] <;> try simp only [qz] at hb))
  all_goals first | rfl | omega | skip
  refine run_loop [] (ι := {i : Nat // i ≤ xs.length ∧ orI xs = orI (xs.drop i)}) (fun p => ⟨[(3, .t (.v (.int .i64 0))), (6, .t (.sl 1 (xs.map encInt))), (7, .t (.v (.int .i64 xs.length))), (8, .t (.v (.int .i64 p.1)))], []⟩) (fun p => xs.length - p.1) ⟨0, by simp, rfl⟩ rfl ?_ ?_
  · simp -implicitDefEqProofs only [go_sem]
    simp
  · rintro ⟨i, hi, hor⟩
    by_cases hlt : (i : Int) < xs.length
    · have hs := orI_step (xs := xs) (i := i) (by omega)
      simp -implicitDefEqProofs only [hlt, decide_true, Int.toNat_natCast, go_sem]
      repeat' (first | with_reducible apply And.intro | with_reducible intro _ | ((first | apply brB_split | apply aPickB_split | apply gB_split | apply adB_split) <;> intro hb <;> simp -implicitDefEqProofs only [hb, go_sem] <;> try simp only [qz] at hb))
      all_goals (try simp only [maxLen] at *)
      all_goals first | rfl | omega | skip
      · rw [hor, hs, if_neg (by assumption)]
      · refine ⟨⟨i + 1, by omega, by rw [hor, hs, if_pos (by simpa using hb)]⟩, by dsimp only; omega, ?_⟩
        simp -implicitDefEqProofs only [go_sem]
        simp
    · simp -implicitDefEqProofs only [hlt, decide_false, go_sem]
      repeat' (first | with_reducible apply And.intro | with_reducible intro _ | ((first | apply brB_split | apply aPickB_split | apply gB_split | apply adB_split) <;> intro hb <;> simp -implicitDefEqProofs only [hb, go_sem] <;> try simp only [qz] at hb))
      all_goals first | rfl | omega | skip
      rw [hor, List.drop_eq_nil_of_le (by omega)]
      rfl
end
def c110 : Ct := ctR (lc EAd.ag (lc EAd.ag l0)) (fun p => True) (fun p => .t (.v (.int .i64 (byD p.1 p.2.1))))
section
attribute [local go_sem] c175 c174 decI2
theorem good110 {G : Gt} (hG : OkG G) (hh : G.e 175 = roEnt 0 c175 ∧ G.e 174 = roEnt 0 c174) : Gd G 110 (roEnt 0 c110) := by
  refine gR (dp := fun _ => true) (fn := Tryz.f110) (n := 2) (fun _ => rfl) (by kernel_rfl) rfl (by kernel_rfl) hG (Nat.le_of_ble_eq_true rfl) (by kernel_rfl) (by decide) (fun _ _ => .v _) ?_
  rintro ⟨a, b, ⟨⟩⟩ hpre
  simp -implicitDefEqProofs only [Tryz.f110, go_sem, hh] at hpre ⊢
  repeat' (first | with_reducible apply And.intro | with_reducible intro _ | ((first | apply brB_split | apply aPickB_split | apply gB_split | apply adB_split) <;> intro hb <;> simp -implicitDefEqProofs only [hb, go_sem, hh] <;> try simp only [qz] at hb))
  all_goals first | rfl | omega | skip
  all_goals
    refine congrArg (fun z => T.v (Value.int .i64 z)) ?_
    simp only [orI, byD]
    by_cases h : cmpS a.domain b.domain = 0
    · rw [if_pos h, if_pos h]
      by_cases h2 : cmpS a.user b.user = 0
      · rw [if_pos h2, h2]
      · rw [if_neg h2]
    · rw [if_neg h, if_neg h]
end
def c84 : Ct := ctR (lc EAd.ag (lc EAd.ag l0)) (fun p => True) (fun p => .t (.v (.bool (bOf (adLt p.1 p.2.1)))))
theorem good84 {G : Gt} (hG : OkG G) : Gd G 84 (roEnt 0 c84) := by
  refine gR (dp := fun _ => true) (fn := Tryz.f84) (n := 2) (fun _ => rfl) (by kernel_rfl) rfl (by kernel_rfl) hG (Nat.le_of_ble_eq_true rfl) (by kernel_rfl) (by decide) (fun _ _ => .v _) ?_
  rintro ⟨a, b, ⟨⟩⟩ hpre
  simp -implicitDefEqProofs only [Tryz.f84, go_sem] at hpre ⊢
  repeat' (first | with_reducible apply And.intro | with_reducible intro _ | ((first | apply brB_split | apply aPickB_split | apply gB_split | apply adB_split) <;> intro hb <;> simp -implicitDefEqProofs only [hb, go_sem] <;> try simp only [qz] at hb))
  all_goals first | rfl | omega | skip
  all_goals first
    | exact uT (.inl (by assumption))
    | exact uB ⟨fun q => .inr ⟨by assumption, q⟩, fun q => q.elim (fun q => by simp_all) fun q => q.2⟩
    | exact uF (fun q => q.elim (fun q => by simp_all) fun q => by simp_all)
    | trace_state
def BxOk (b : Bx) : Prop := (∀ g ∈ b.mails, (AdOk g.frm ∨ AdNull g.frm) ∧ BdOk g.body) ∧ AdOk b.addr
def BxAt (h : Hs) (j : Nat) : Prop := BxOk (h.boxes.getD j default) ∧ (0 < j → adLt (h.boxes.getD (j - 1) default).addr (h.boxes.getD j default).addr) ∧ (h.boxes.getD j default).addr.domain ∈ h.conf.own
def HsOk (h : Hs) : Prop := (∀ j, j < h.boxes.length → BxAt h j) ∧ CfOk h.conf ∧ SpOk h.spool
theorem bx_step {P : Nat → Prop} {i : Nat} (h : ∀ j, j < i → P j) (hi : P i) : ∀ j, j < i + 1 → P j := fun j hj => by
  by_cases e : j = i
  · rw [e]; exact hi
  · exact h j (by omega)
theorem not_mem {xs : List ByteArray} {a : ByteArray} (h : ∀ j, j < xs.length → ¬ xs.getD j default = a) : ¬ a ∈ xs := fun hm => by
  obtain ⟨j, hj, e⟩ := List.getElem_of_mem hm
  exact h j hj (by simp [hj, e])
def c86 : Ct := ctR (lc ECf.ag l0) (fun p => True) (fun p => .t (.v (.bool (bOf (CfOk p.1)))))
section
attribute [local go_sem] c154 bOf_t bOf_f List.length_map
set_option maxHeartbeats 1600000 in
theorem good86 {G : Gt} (hG : OkG G) (hh : G.e 154 = roEnt 0 c154) : Gd G 86 (roEnt 0 c86) := by
  refine gR (dp := fun _ => true) (fn := Tryz.f86) (n := 1) (fun _ => rfl) (by kernel_rfl) rfl (by kernel_rfl) hG (Nat.le_of_ble_eq_true rfl) (by kernel_rfl) (by decide) (fun _ _ => .v _) ?_
  rintro ⟨c, ⟨⟩⟩ hpre
  simp -implicitDefEqProofs only [Tryz.f86, go_sem, hh] at hpre ⊢
  refine run_loop [] (ι := {i : Nat // i ≤ c.own.length ∧ ∀ j, j < i → Dom (c.own.getD j default)}) (fun p => ⟨[(1, .pb 1001 0), (3, .t (.v (.int .i64 p.1)))], [(1001, some (.box ((encCf c).map .t)))]⟩) (fun p => c.own.length - p.1) ⟨0, by simp, by simp⟩ rfl ?_ ?_
  · simp -implicitDefEqProofs only [go_sem, hh]
    simp
  · rintro ⟨i, hi, hall⟩
    by_cases hlt : (i : Int) < c.own.length
    · simp -implicitDefEqProofs only [hlt, decide_true, Int.toNat_natCast, go_sem, hh]
      repeat' (first | with_reducible apply And.intro | with_reducible intro _ | ((first | apply brB_split | apply aPickB_split | apply gB_split | apply adB_split) <;> intro hb <;> simp -implicitDefEqProofs only [hb, go_sem, hh] <;> try simp only [qz] at hb))
      all_goals (try simp only [maxLen] at *)
      all_goals first | rfl | omega | skip
      · exact uF (fun h => hb (h.1 _ (getD_mem (by omega))))
      · refine ⟨⟨i + 1, by omega, bx_step hall hb⟩, by dsimp only; omega, ?_⟩
        simp -implicitDefEqProofs only [go_sem, hh]
        simp
    · have hA : ∀ s ∈ c.own, Dom s := mem_getD fun j hj => hall j (by omega)
      simp -implicitDefEqProofs only [hlt, decide_false, go_sem, hh]
      repeat' (first | with_reducible apply And.intro | with_reducible intro _ | ((first | apply brB_split | apply aPickB_split | apply gB_split | apply adB_split) <;> intro hb <;> simp -implicitDefEqProofs only [hb, go_sem, hh] <;> try simp only [qz] at hb))
      all_goals first | rfl | omega | skip
      refine run_loop [] (ι := {i : Nat // i ≤ c.ways.length ∧ ∀ j, j < i → Dom (c.ways.getD j default).ends ∧ Dom (c.ways.getD j default).to}) (fun p => ⟨[(1, .pb 1001 0), (4, .t (.v (.int .i64 p.1)))], [(1001, some (.box ((encCf c).map .t)))]⟩) (fun p => c.ways.length - p.1) ⟨0, by simp, by simp⟩ rfl ?_ ?_
      · simp -implicitDefEqProofs only [go_sem, hh]
        simp
      · rintro ⟨k, hk, hall2⟩
        by_cases hlt2 : (k : Int) < c.ways.length
        · simp -implicitDefEqProofs only [hlt2, decide_true, Int.toNat_natCast, go_sem, hh]
          repeat' (first | with_reducible apply And.intro | with_reducible intro _ | ((first | apply brB_split | apply aPickB_split | apply gB_split | apply adB_split) <;> intro hb <;> simp -implicitDefEqProofs only [hb, go_sem, hh] <;> try simp only [qz] at hb))
          all_goals (try simp only [maxLen] at *)
          all_goals first
            | rfl
            | omega
            | exact uF (fun h => hb (h.2.1 _ (getD_mem (by omega))).1)
            | exact uF (fun h => hb (h.2.1 _ (getD_mem (by omega))).2)
            | skip
          refine ⟨⟨k + 1, by omega, bx_step (P := fun j => Dom (c.ways.getD j default).ends ∧ Dom (c.ways.getD j default).to) hall2 ⟨by assumption, by assumption⟩⟩, by dsimp only; omega, ?_⟩
          simp -implicitDefEqProofs only [go_sem, hh]
          simp
        · have hB : ∀ w ∈ c.ways, Dom w.ends ∧ Dom w.to := mem_getD fun j hj => hall2 j (by omega)
          simp -implicitDefEqProofs only [hlt2, decide_false, go_sem, hh]
          repeat' (first | with_reducible apply And.intro | with_reducible intro _ | ((first | apply brB_split | apply aPickB_split | apply gB_split | apply adB_split) <;> intro hb <;> simp -implicitDefEqProofs only [hb, go_sem, hh] <;> try simp only [qz] at hb))
          all_goals first
            | rfl
            | omega
            | exact uD ⟨fun q => ⟨hA, hB, by assumption, by omega, q⟩, fun q => q.2.2.2.2⟩
            | exact uF (fun q => absurd q.2.2.1 (by assumption))
            | exact uF (fun q => by have h1 := q.2.2.2.1; have h2 := q.2.2.2.2; omega)
            | trace_state
end
def c85 : Ct := ctR (lc ECf.ag (lc EAd.ag l0)) (fun p => True) (fun p => .t (.v (.bool (bOf (p.2.1.domain ∈ p.1.own)))))
section
attribute [local go_sem] List.length_map
theorem good85 {G : Gt} (hG : OkG G) : Gd G 85 (roEnt 0 c85) := by
  refine gR (dp := fun _ => true) (fn := Tryz.f85) (n := 2) (fun _ => rfl) (by kernel_rfl) rfl (by kernel_rfl) hG (Nat.le_of_ble_eq_true rfl) (by kernel_rfl) (by decide) (fun _ _ => .v _) ?_
  rintro ⟨c, a, ⟨⟩⟩ hpre
  simp -implicitDefEqProofs only [Tryz.f85, go_sem] at hpre ⊢
  refine run_loop [] (ι := {i : Nat // i ≤ c.own.length ∧ ∀ j, j < i → ¬ c.own.getD j default = a.domain}) (fun p => ⟨[(2, .pb 1002 0), (3, .pb 1003 0), (5, .t (.v (.int .i64 p.1)))], [(1002, some (.box ((encCf c).map .t))), (1003, some (.box ((encAd a).map .t)))]⟩) (fun p => c.own.length - p.1) ⟨0, by simp, by simp⟩ rfl ?_ ?_
  · simp -implicitDefEqProofs only [go_sem]
    simp
  · rintro ⟨i, hi, hall⟩
    by_cases hlt : (i : Int) < c.own.length
    · simp -implicitDefEqProofs only [hlt, decide_true, Int.toNat_natCast, go_sem]
      repeat' (first | with_reducible apply And.intro | with_reducible intro _ | ((first | apply brB_split | apply aPickB_split | apply gB_split | apply adB_split) <;> intro hb <;> simp -implicitDefEqProofs only [hb, go_sem] <;> try simp only [qz] at hb))
      all_goals (try simp only [maxLen] at *)
      all_goals first | rfl | omega | skip
      · exact uT (by rw [← hb]; exact getD_mem (by omega))
      · refine ⟨⟨i + 1, by omega, bx_step hall hb⟩, by dsimp only; omega, ?_⟩
        simp -implicitDefEqProofs only [go_sem]
        simp
    · simp -implicitDefEqProofs only [hlt, decide_false, go_sem]
      repeat' (first | with_reducible apply And.intro | with_reducible intro _ | ((first | apply brB_split | apply aPickB_split | apply gB_split | apply adB_split) <;> intro hb <;> simp -implicitDefEqProofs only [hb, go_sem] <;> try simp only [qz] at hb))
      all_goals first | rfl | omega | skip
      exact uF (not_mem fun j hj => hall j (by omega))
end
def c83 : Ct := ctR (lc EBx.ag l0) (fun p => True) (fun p => .t (.v (.bool (bOf (BxOk p.1)))))
section
attribute [local go_sem] c92 c90 c91 bOf_t bOf_f List.length_map
set_option maxHeartbeats 1600000 in
theorem good83 {G : Gt} (hG : OkG G) (hh : G.e 92 = roEnt 0 c92 ∧ G.e 90 = roEnt 0 c90 ∧ G.e 91 = roEnt 0 c91) : Gd G 83 (roEnt 0 c83) := by
  refine gR (dp := fun _ => true) (fn := Tryz.f83) (n := 1) (fun _ => rfl) (by kernel_rfl) rfl (by kernel_rfl) hG (Nat.le_of_ble_eq_true rfl) (by kernel_rfl) (by decide) (fun _ _ => .v _) ?_
  rintro ⟨b, ⟨⟩⟩ hpre
  simp -implicitDefEqProofs only [Tryz.f83, go_sem, hh] at hpre ⊢
  refine run_loop [] (ι := {i : Nat // i ≤ b.mails.length ∧ ∀ j, j < i → (AdOk (b.mails.getD j default).frm ∨ AdNull (b.mails.getD j default).frm) ∧ BdOk (b.mails.getD j default).body}) (fun p => ⟨[(1, .pb 1001 0), (3, .t (.v (.int .i64 p.1)))], [(1001, some (.box ((encBx b).map .t)))]⟩) (fun p => b.mails.length - p.1) ⟨0, by simp, by simp⟩ rfl ?_ ?_
  · simp -implicitDefEqProofs only [go_sem, hh]
    simp
  · rintro ⟨i, hi, hall⟩
    by_cases hlt : (i : Int) < b.mails.length
    · simp -implicitDefEqProofs only [hlt, decide_true, Int.toNat_natCast, go_sem, hh]
      repeat' (first | with_reducible apply And.intro | with_reducible intro _ | ((first | apply brB_split | apply aPickB_split | apply gB_split | apply adB_split) <;> intro hb <;> simp -implicitDefEqProofs only [hb, go_sem, hh] <;> try simp only [qz] at hb))
      all_goals (try simp only [maxLen, Int.toNat_natCast] at *)
      all_goals first
        | rfl
        | omega
        | exact uF (fun h => absurd (h.1 (b.mails.getD i default) (getD_mem (by omega))).2 (by assumption))
        | exact uF (fun h => (h.1 (b.mails.getD i default) (getD_mem (by omega))).1.elim (fun q => absurd q (by assumption)) fun q => absurd q (by assumption))
        | skip
      all_goals
        refine ⟨⟨i + 1, by omega, bx_step (P := fun j => (AdOk (b.mails.getD j default).frm ∨ AdNull (b.mails.getD j default).frm) ∧ BdOk (b.mails.getD j default).body) hall ⟨by first | exact .inl (by assumption) | exact .inr (by assumption), by assumption⟩⟩, by dsimp only; omega, ?_⟩
        simp -implicitDefEqProofs only [go_sem, hh]
        simp
    · have hA : ∀ g ∈ b.mails, (AdOk g.frm ∨ AdNull g.frm) ∧ BdOk g.body := mem_getD (P := fun g : Gm => (AdOk g.frm ∨ AdNull g.frm) ∧ BdOk g.body) fun j hj => hall j (by omega)
      simp -implicitDefEqProofs only [hlt, decide_false, go_sem, hh]
      repeat' (first | with_reducible apply And.intro | with_reducible intro _ | ((first | apply brB_split | apply aPickB_split | apply gB_split | apply adB_split) <;> intro hb <;> simp -implicitDefEqProofs only [hb, go_sem, hh] <;> try simp only [qz] at hb))
      all_goals first | rfl | omega | exact uE ⟨fun q => ⟨hA, q⟩, fun q => q.2⟩ | trace_state
end
def c29 : Ct := ctR (lc EHs.ag l0) (fun p => True) (fun p => .t (.v (.bool (bOf (HsOk p.1)))))
section
attribute [local go_sem] c83 c84 c85 c86 c87 bOf_t bOf_f List.length_map
set_option maxHeartbeats 6400000 in
theorem good29 {G : Gt} (hG : OkG G) (hh : G.e 83 = roEnt 0 c83 ∧ G.e 84 = roEnt 0 c84 ∧ G.e 85 = roEnt 0 c85 ∧ G.e 86 = roEnt 0 c86 ∧ G.e 87 = roEnt 0 c87) : Gd G 29 (roEnt 0 c29) := by
  refine gR (dp := fun _ => true) (fn := Tryz.f29) (n := 1) (fun _ => rfl) (by kernel_rfl) rfl (by kernel_rfl) hG (Nat.le_of_ble_eq_true rfl) (by kernel_rfl) (by decide) (fun _ _ => .v _) ?_
  rintro ⟨h, ⟨⟩⟩ hpre
  simp -implicitDefEqProofs only [Tryz.f29, go_sem, hh] at hpre ⊢
  refine run_loop [] (ι := {i : Nat // i ≤ h.boxes.length ∧ ∀ j, j < i → BxAt h j}) (fun p => ⟨[(1, .pb 1001 0), (3, .t (.v (.int .i64 p.1)))], [(1001, some (.box ((encHs h).map .t)))]⟩) (fun p => h.boxes.length - p.1) ⟨0, by simp, by simp⟩ rfl ?_ ?_
  · simp -implicitDefEqProofs only [go_sem, hh]
    simp
  · rintro ⟨i, hi, hall⟩
    by_cases hlt : (i : Int) < h.boxes.length
    · simp -implicitDefEqProofs only [hlt, decide_true, Int.toNat_natCast, go_sem, hh]
      repeat' (first | with_reducible apply And.intro | with_reducible intro _ | ((first | apply brB_split | apply aPickB_split | apply gB_split | apply adB_split) <;> intro hb <;> simp -implicitDefEqProofs only [hb, go_sem, hh] <;> try simp only [qz] at hb))
      all_goals (try simp only [maxLen, Int.toNat_natCast] at *)
      all_goals have hnat : ((i : Int) - 1).toNat = i - 1 := by omega
      all_goals first
        | rfl
        | omega
        | exact uF (fun q => absurd (q.1 i (by omega)).1 (by assumption))
        | exact uF (fun q => absurd (q.1 i (by omega)).2.2 (by assumption))
        | exact uF (fun q => absurd ((q.1 i (by omega)).2.1 (by omega)) (by rw [← hnat]; assumption))
        | skip
      all_goals
        refine ⟨⟨i + 1, by omega, bx_step hall ⟨by assumption, fun _ => by first | (rw [← hnat]; assumption) | (exfalso; omega), by assumption⟩⟩, by dsimp only; omega, ?_⟩
        simp -implicitDefEqProofs only [go_sem, hh]
        simp
    · simp -implicitDefEqProofs only [hlt, decide_false, go_sem, hh]
      repeat' (first | with_reducible apply And.intro | with_reducible intro _ | ((first | apply brB_split | apply aPickB_split | apply gB_split | apply adB_split) <;> intro hb <;> simp -implicitDefEqProofs only [hb, go_sem, hh] <;> try simp only [qz] at hb))
      all_goals first
        | rfl
        | omega
        | exact uE ⟨fun q => ⟨fun j hj => hall j (by omega), by assumption, q⟩, fun q => q.2.2⟩
        | exact uF (fun q => absurd q.2.1 (by assumption))
        | trace_state
end
inductive FGm where
  | bad
def FGm.enc : FGm → AV
  | .bad  => .t (.fn 104 [])
def FGm.dec : AV → Option FGm
  | .t (.fn 104 []) => some (.bad )
  | _ => none
def FGm.sem : FGm → Gm → Prop
  | .bad , x => ¬ ((AdOk x.frm ∨ AdNull x.frm) ∧ BdOk x.body)
def FGm.pre : FGm → Gm → Prop
  | .bad , x => x.frm.domain.size ≤ 2000000 ∧ ∀ s ∈ x.body, s.size ≤ 2000000
def AFGm : AD FGm where
  enc := FGm.enc
  dec := FGm.dec
  ed := fun f => by cases f <;> rfl
  de := fun x f h => by
    unfold FGm.dec at h
    split at h <;> cases h <;> rfl
theorem AFGm_d0  : AFGm.dec (.t (.fn 104 [])) = some (.bad ) := rfl
theorem AFGm_e0  : AFGm.enc (.bad ) = .t (.fn 104 []) := rfl
def c104 : Ct := ctR (lc EGm.ag l0) (fun p => p.1.frm.domain.size ≤ 2000000 ∧ ∀ s ∈ p.1.body, s.size ≤ 2000000) (fun p => .t (.v (.bool (bOf (¬ ((AdOk p.1.frm ∨ AdNull p.1.frm) ∧ BdOk p.1.body))))))
section
attribute [local go_sem] c105 c106 ap_enc ap_dec AFn0_dec AFn0_enc Bool.not_true Bool.not_false ty213 lv53
theorem good104 {G : Gt} (hG : OkG G) (hh : G.e 105 = roEnt 0 c105 ∧ G.e 106 = roEnt 0 c106) : Gd G 104 (roEnt 0 c104) := by
  refine gR (dp := fun _ => true) (fn := Tryz.f104) (n := 1) (fun _ => rfl) (by kernel_rfl) rfl (by kernel_rfl) hG (Nat.le_of_ble_eq_true rfl) (by kernel_rfl) (by decide) (fun _ _ => .v _) ?_
  rintro ⟨x, ⟨⟩⟩ hpre
  simp -implicitDefEqProofs only [Tryz.f104, go_sem, hh] at hpre ⊢
  repeat' (first | with_reducible apply And.intro | with_reducible intro _ | ((first | apply brB_split | apply aPickB_split | apply gB_split | apply adB_split) <;> intro hb <;> simp -implicitDefEqProofs only [hb, go_sem, hh] <;> try simp only [qz] at hb))
  all_goals first | rfl | omega | exact hpre.1 | exact hpre.2 | exact hpre.2 _ (by assumption) | skip
  all_goals first
    | exact uT (fun h => absurd h.1 (by assumption))
    | exact uN ⟨fun h q => h q.2, fun h q => h ⟨by assumption, q⟩⟩
    | trace_state
end
def c173 : Ct := ctR (lc EGm.asl (lc AFGm l0)) (fun p => ∀ x ∈ p.1, p.2.1.pre x) (fun p => .t (.v (.int .i64 (ixP p.2.1.sem 0 p.1))))
section
attribute [local go_sem] c104 ap_enc ap_dec AFn0_dec AFn0_enc Bool.not_true Bool.not_false ty213 lv53 AFGm_d0 AFGm_e0
theorem good173 {G : Gt} (hG : OkG G) (hh : G.e 104 = roEnt 0 c104) : Gd G 173 (roEnt 0 c173) := by
  refine gR (dp := fun _ => true) (fn := Tryz.f173) (n := 2) (fun _ => rfl) (by kernel_rfl) rfl (by kernel_rfl) hG (Nat.le_of_ble_eq_true rfl) (by kernel_rfl) (by decide) (fun _ _ => .v _) ?_
  rintro ⟨xs, f, ⟨⟩⟩ hpre
  have hs := hpre
  dsimp only at hs ⊢
  cases f with
  | bad  =>
    simp -implicitDefEqProofs only [Tryz.f173, go_sem, hh]
    repeat' (first | with_reducible apply And.intro | with_reducible intro _ | ((first | apply brB_split | apply aPickB_split | apply gB_split | apply adB_split) <;> intro hb <;> simp -implicitDefEqProofs only [hb, go_sem, hh] <;> try simp only [qz] at hb))
    all_goals first | rfl | omega | skip
    refine run_loop [] (ι := {i : Nat // i ≤ xs.length ∧ ixP (FGm.sem (.bad )) 0 xs = ixP (FGm.sem (.bad )) i (xs.drop i)}) (fun p => ⟨[(0, .t (.sl 3 (xs.map encGm))), (1, .t (.fn 104 [])), (7, .t (.v (.int .i64 xs.length))), (8, .t (.v (.int .i64 p.1)))], []⟩) (fun p => xs.length - p.1) ⟨0, Nat.zero_le _, rfl⟩ rfl ?_ ?_
    · simp -implicitDefEqProofs only [go_sem, hh]
      try simp
    · rintro ⟨i, hi, hix⟩
      by_cases hlt : (i : Int) < xs.length
      · have hm : xs.getD (i : Int).toNat default ∈ xs := getD_mem (by omega)
        have hsz := hs _ hm
        cases hb : bOf (¬ ((AdOk (xs.getD (i : Int).toNat default).frm ∨ AdNull (xs.getD (i : Int).toNat default).frm) ∧ BdOk (xs.getD (i : Int).toNat default).body))
        · have hq := hb
          simp -implicitDefEqProofs only [hlt, hq, go_sem, hh]
          repeat' (first | with_reducible apply And.intro | with_reducible intro _ | ((first | apply brB_split | apply aPickB_split | apply gB_split | apply adB_split) <;> intro hb <;> simp -implicitDefEqProofs only [hb, go_sem, hh] <;> try simp only [qz] at hb))
          all_goals (try simp only [maxLen] at *)
          all_goals first | rfl | omega | with_reducible assumption | exact hsz | exact hsz.1 | exact hsz.2 | exact hsz.2 _ (by assumption) | exact hsz.2.1 | exact hsz.2.2.1 | exact hsz.2.2.2 | trivial | skip
          rw [bOf_f, Int.toNat_natCast] at hb
          refine ⟨⟨i + 1, by omega, ?_⟩, by dsimp only; omega, ?_⟩
          · rw [hix, ixP_no (p := FGm.sem (.bad )) (by omega) hb]
          · simp -implicitDefEqProofs only [go_sem, hh]
            try simp
        · have hq := hb
          simp -implicitDefEqProofs only [hlt, hq, go_sem, hh]
          repeat' (first | with_reducible apply And.intro | with_reducible intro _ | ((first | apply brB_split | apply aPickB_split | apply gB_split | apply adB_split) <;> intro hb <;> simp -implicitDefEqProofs only [hb, go_sem, hh] <;> try simp only [qz] at hb))
          all_goals (try simp only [maxLen] at *)
          all_goals first | rfl | omega | with_reducible assumption | exact hsz | exact hsz.1 | exact hsz.2 | exact hsz.2 _ (by assumption) | exact hsz.2.1 | exact hsz.2.2.1 | exact hsz.2.2.2 | trivial | skip
          rw [bOf_t, Int.toNat_natCast] at hb
          rw [hix, ixP_yes (p := FGm.sem (.bad )) (by omega) hb]
      · simp -implicitDefEqProofs only [hlt, go_sem, hh]
        repeat' (first | with_reducible apply And.intro | with_reducible intro _ | ((first | apply brB_split | apply aPickB_split | apply gB_split | apply adB_split) <;> intro hb <;> simp -implicitDefEqProofs only [hb, go_sem, hh] <;> try simp only [qz] at hb))
        all_goals first | rfl | omega | skip
        all_goals (rw [hix, ixP_end (by omega)])
end
def c109 : Ct := ctR (lc EGm.asl (lc AFGm l0)) (fun p => ∀ x ∈ p.1, p.2.1.pre x) (fun p => .t (.v (.bool (bOf (∃ x ∈ p.1, p.2.1.sem x)))))
section
attribute [local go_sem] c173 ap_enc ap_dec AFn0_dec AFn0_enc Bool.not_true Bool.not_false ty213 lv53 AFGm_d0 AFGm_e0
theorem good109 {G : Gt} (hG : OkG G) (hh : G.e 173 = roEnt 0 c173) : Gd G 109 (roEnt 0 c109) := by
  refine gR (dp := fun _ => true) (fn := Tryz.f109) (n := 2) (fun _ => rfl) (by kernel_rfl) rfl (by kernel_rfl) hG (Nat.le_of_ble_eq_true rfl) (by kernel_rfl) (by decide) (fun _ _ => .v _) ?_
  rintro ⟨xs, f, ⟨⟩⟩ hpre
  dsimp only at hpre ⊢
  cases f
  all_goals
    simp -implicitDefEqProofs only [Tryz.f109, go_sem, hh]
    repeat' (first | with_reducible apply And.intro | with_reducible intro _ | ((first | apply brB_split | apply aPickB_split | apply gB_split | apply adB_split) <;> intro hb <;> simp -implicitDefEqProofs only [hb, go_sem, hh] <;> try simp only [qz] at hb))
    all_goals first | rfl | omega | exact hpre | exact hpre _ (by assumption) | skip
    all_goals (rw [← bOf_congr (ixP_iff _ 0)]; rw [bOf_d])
end
inductive FWy where
  | way
def FWy.enc : FWy → AV
  | .way  => .t (.fn 164 [])
def FWy.dec : AV → Option FWy
  | .t (.fn 164 []) => some (.way )
  | _ => none
def FWy.sem : FWy → Wy → Prop
  | .way , x => ¬ (Dom x.ends ∧ Dom x.to)
def FWy.pre : FWy → Wy → Prop
  | .way , x => x.ends.size ≤ 2000000 ∧ x.to.size ≤ 2000000
def AFWy : AD FWy where
  enc := FWy.enc
  dec := FWy.dec
  ed := fun f => by cases f <;> rfl
  de := fun x f h => by
    unfold FWy.dec at h
    split at h <;> cases h <;> rfl
theorem AFWy_d0  : AFWy.dec (.t (.fn 164 [])) = some (.way ) := rfl
theorem AFWy_e0  : AFWy.enc (.way ) = .t (.fn 164 []) := rfl
def c164 : Ct := ctR (lc EWy.ag l0) (fun p => p.1.ends.size ≤ 2000000 ∧ p.1.to.size ≤ 2000000) (fun p => .t (.v (.bool (bOf (¬ (Dom p.1.ends ∧ Dom p.1.to))))))
section
attribute [local go_sem] c118 ap_enc ap_dec AFn0_dec AFn0_enc Bool.not_true Bool.not_false ty213 lv53
theorem good164 {G : Gt} (hG : OkG G) (hh : G.e 118 = roEnt 0 c118) : Gd G 164 (roEnt 0 c164) := by
  refine gR (dp := fun _ => true) (fn := Tryz.f164) (n := 1) (fun _ => rfl) (by kernel_rfl) rfl (by kernel_rfl) hG (Nat.le_of_ble_eq_true rfl) (by kernel_rfl) (by decide) (fun _ _ => .v _) ?_
  rintro ⟨x, ⟨⟩⟩ hpre
  simp -implicitDefEqProofs only [Tryz.f164, go_sem, hh] at hpre ⊢
  repeat' (first | with_reducible apply And.intro | with_reducible intro _ | ((first | apply brB_split | apply aPickB_split | apply gB_split | apply adB_split) <;> intro hb <;> simp -implicitDefEqProofs only [hb, go_sem, hh] <;> try simp only [qz] at hb))
  all_goals first | rfl | omega | exact hpre.1 | exact hpre.2 | exact hpre.2 _ (by assumption) | skip
  all_goals first
    | exact uT (fun h => absurd h.1 (by assumption))
    | exact uN ⟨fun h q => h q.2, fun h q => h ⟨by assumption, q⟩⟩
    | trace_state
end
def c200 : Ct := ctR (lc EWy.asl (lc AFWy l0)) (fun p => ∀ x ∈ p.1, p.2.1.pre x) (fun p => .t (.v (.int .i64 (ixP p.2.1.sem 0 p.1))))
section
attribute [local go_sem] c164 ap_enc ap_dec AFn0_dec AFn0_enc Bool.not_true Bool.not_false ty213 lv53 AFWy_d0 AFWy_e0
theorem good200 {G : Gt} (hG : OkG G) (hh : G.e 164 = roEnt 0 c164) : Gd G 200 (roEnt 0 c200) := by
  refine gR (dp := fun _ => true) (fn := Tryz.f200) (n := 2) (fun _ => rfl) (by kernel_rfl) rfl (by kernel_rfl) hG (Nat.le_of_ble_eq_true rfl) (by kernel_rfl) (by decide) (fun _ _ => .v _) ?_
  rintro ⟨xs, f, ⟨⟩⟩ hpre
  have hs := hpre
  dsimp only at hs ⊢
  cases f with
  | way  =>
    simp -implicitDefEqProofs only [Tryz.f200, go_sem, hh]
    repeat' (first | with_reducible apply And.intro | with_reducible intro _ | ((first | apply brB_split | apply aPickB_split | apply gB_split | apply adB_split) <;> intro hb <;> simp -implicitDefEqProofs only [hb, go_sem, hh] <;> try simp only [qz] at hb))
    all_goals first | rfl | omega | skip
    refine run_loop [] (ι := {i : Nat // i ≤ xs.length ∧ ixP (FWy.sem (.way )) 0 xs = ixP (FWy.sem (.way )) i (xs.drop i)}) (fun p => ⟨[(0, .t (.sl 2 (xs.map encWy))), (1, .t (.fn 164 [])), (7, .t (.v (.int .i64 xs.length))), (8, .t (.v (.int .i64 p.1)))], []⟩) (fun p => xs.length - p.1) ⟨0, Nat.zero_le _, rfl⟩ rfl ?_ ?_
    · simp -implicitDefEqProofs only [go_sem, hh]
      try simp
    · rintro ⟨i, hi, hix⟩
      by_cases hlt : (i : Int) < xs.length
      · have hm : xs.getD (i : Int).toNat default ∈ xs := getD_mem (by omega)
        have hsz := hs _ hm
        cases hb : bOf (¬ (Dom (xs.getD (i : Int).toNat default).ends ∧ Dom (xs.getD (i : Int).toNat default).to))
        · have hq := hb
          simp -implicitDefEqProofs only [hlt, hq, go_sem, hh]
          repeat' (first | with_reducible apply And.intro | with_reducible intro _ | ((first | apply brB_split | apply aPickB_split | apply gB_split | apply adB_split) <;> intro hb <;> simp -implicitDefEqProofs only [hb, go_sem, hh] <;> try simp only [qz] at hb))
          all_goals (try simp only [maxLen] at *)
          all_goals first | rfl | omega | with_reducible assumption | exact hsz | exact hsz.1 | exact hsz.2 | exact hsz.2 _ (by assumption) | exact hsz.2.1 | exact hsz.2.2.1 | exact hsz.2.2.2 | trivial | skip
          rw [bOf_f, Int.toNat_natCast] at hb
          refine ⟨⟨i + 1, by omega, ?_⟩, by dsimp only; omega, ?_⟩
          · rw [hix, ixP_no (p := FWy.sem (.way )) (by omega) hb]
          · simp -implicitDefEqProofs only [go_sem, hh]
            try simp
        · have hq := hb
          simp -implicitDefEqProofs only [hlt, hq, go_sem, hh]
          repeat' (first | with_reducible apply And.intro | with_reducible intro _ | ((first | apply brB_split | apply aPickB_split | apply gB_split | apply adB_split) <;> intro hb <;> simp -implicitDefEqProofs only [hb, go_sem, hh] <;> try simp only [qz] at hb))
          all_goals (try simp only [maxLen] at *)
          all_goals first | rfl | omega | with_reducible assumption | exact hsz | exact hsz.1 | exact hsz.2 | exact hsz.2 _ (by assumption) | exact hsz.2.1 | exact hsz.2.2.1 | exact hsz.2.2.2 | trivial | skip
          rw [bOf_t, Int.toNat_natCast] at hb
          rw [hix, ixP_yes (p := FWy.sem (.way )) (by omega) hb]
      · simp -implicitDefEqProofs only [hlt, go_sem, hh]
        repeat' (first | with_reducible apply And.intro | with_reducible intro _ | ((first | apply brB_split | apply aPickB_split | apply gB_split | apply adB_split) <;> intro hb <;> simp -implicitDefEqProofs only [hb, go_sem, hh] <;> try simp only [qz] at hb))
        all_goals first | rfl | omega | skip
        all_goals (rw [hix, ixP_end (by omega)])
end
def c166 : Ct := ctR (lc EWy.asl (lc AFWy l0)) (fun p => ∀ x ∈ p.1, p.2.1.pre x) (fun p => .t (.v (.bool (bOf (∃ x ∈ p.1, p.2.1.sem x)))))
section
attribute [local go_sem] c200 ap_enc ap_dec AFn0_dec AFn0_enc Bool.not_true Bool.not_false ty213 lv53 AFWy_d0 AFWy_e0
theorem good166 {G : Gt} (hG : OkG G) (hh : G.e 200 = roEnt 0 c200) : Gd G 166 (roEnt 0 c166) := by
  refine gR (dp := fun _ => true) (fn := Tryz.f166) (n := 2) (fun _ => rfl) (by kernel_rfl) rfl (by kernel_rfl) hG (Nat.le_of_ble_eq_true rfl) (by kernel_rfl) (by decide) (fun _ _ => .v _) ?_
  rintro ⟨xs, f, ⟨⟩⟩ hpre
  dsimp only at hpre ⊢
  cases f
  all_goals
    simp -implicitDefEqProofs only [Tryz.f166, go_sem, hh]
    repeat' (first | with_reducible apply And.intro | with_reducible intro _ | ((first | apply brB_split | apply aPickB_split | apply gB_split | apply adB_split) <;> intro hb <;> simp -implicitDefEqProofs only [hb, go_sem, hh] <;> try simp only [qz] at hb))
    all_goals first | rfl | omega | exact hpre | exact hpre _ (by assumption) | skip
    all_goals (rw [← bOf_congr (ixP_iff _ 0)]; rw [bOf_d])
end
def c202 : Ct := ctR (lc EStr.asl (lc AStr l0)) (fun p => True) (fun p => .t (.v (.int .i64 (ixP (fun s : ByteArray => s = p.2.1) 0 p.1))))
section
attribute [local go_sem] List.length_map
theorem good202 {G : Gt} (hG : OkG G) : Gd G 202 (roEnt 0 c202) := by
  refine gR (dp := fun _ => true) (fn := Tryz.f202) (n := 2) (fun _ => rfl) (by kernel_rfl) rfl (by kernel_rfl) hG (Nat.le_of_ble_eq_true rfl) (by kernel_rfl) (by decide) (fun _ _ => .v _) ?_
  rintro ⟨xs, a, ⟨⟩⟩ hpre
  simp -implicitDefEqProofs only [Tryz.f202, go_sem] at hpre ⊢
  repeat' (first | with_reducible apply And.intro | with_reducible intro _ | ((first | apply brB_split | apply aPickB_split | apply gB_split | apply adB_split) <;> intro hb <;> simp -implicitDefEqProofs only [hb, go_sem] <;> try simp only [qz] at hb))
  all_goals first | rfl | omega | skip
  refine run_loop [] (ι := {i : Nat // i ≤ xs.length ∧ ixP (fun s : ByteArray => s = a) 0 xs = ixP (fun s : ByteArray => s = a) i (xs.drop i)}) (fun p => ⟨[(0, .t (.sl 1 (xs.map encStr))), (1, .t (.v (.string a))), (7, .t (.v (.int .i64 xs.length))), (8, .t (.v (.int .i64 p.1)))], []⟩) (fun p => xs.length - p.1) ⟨0, by simp, rfl⟩ rfl ?_ ?_
  · simp -implicitDefEqProofs only [go_sem]
    simp
  · rintro ⟨i, hi, hix⟩
    by_cases hlt : (i : Int) < xs.length
    · simp -implicitDefEqProofs only [hlt, decide_true, Int.toNat_natCast, go_sem]
      repeat' (first | with_reducible apply And.intro | with_reducible intro _ | ((first | apply brB_split | apply aPickB_split | apply gB_split | apply adB_split) <;> intro hb <;> simp -implicitDefEqProofs only [hb, go_sem] <;> try simp only [qz] at hb))
      all_goals (try simp only [maxLen] at *)
      all_goals first | rfl | omega | skip
      · rw [hix, ixP_yes (p := fun s : ByteArray => s = a) (by omega) hb.symm]
      · refine ⟨⟨i + 1, by omega, by rw [hix, ixP_no (p := fun s : ByteArray => s = a) (by omega) (fun e => hb e.symm)]⟩, by dsimp only; omega, ?_⟩
        simp -implicitDefEqProofs only [go_sem]
        simp
    · simp -implicitDefEqProofs only [hlt, decide_false, go_sem]
      repeat' (first | with_reducible apply And.intro | with_reducible intro _ | ((first | apply brB_split | apply aPickB_split | apply gB_split | apply adB_split) <;> intro hb <;> simp -implicitDefEqProofs only [hb, go_sem] <;> try simp only [qz] at hb))
      all_goals first | rfl | omega | skip
      rw [hix, ixP_end (by omega)]
end
def c172 : Ct := ctR (lc EStr.asl (lc AStr l0)) (fun p => True) (fun p => .t (.v (.bool (bOf (p.2.1 ∈ p.1)))))
section
attribute [local go_sem] c202
theorem good172 {G : Gt} (hG : OkG G) (hh : G.e 202 = roEnt 0 c202) : Gd G 172 (roEnt 0 c172) := by
  refine gR (dp := fun _ => true) (fn := Tryz.f172) (n := 2) (fun _ => rfl) (by kernel_rfl) rfl (by kernel_rfl) hG (Nat.le_of_ble_eq_true rfl) (by kernel_rfl) (by decide) (fun _ _ => .v _) ?_
  rintro ⟨xs, a, ⟨⟩⟩ hpre
  simp -implicitDefEqProofs only [Tryz.f172, go_sem, hh] at hpre ⊢
  repeat' (first | with_reducible apply And.intro | with_reducible intro _ | ((first | apply brB_split | apply aPickB_split | apply gB_split | apply adB_split) <;> intro hb <;> simp -implicitDefEqProofs only [hb, go_sem, hh] <;> try simp only [qz] at hb))
  all_goals first | rfl | omega | skip
  refine uD ?_
  rw [ge_iff_le, ixP_iff]
  exact ⟨fun ⟨x, hx, e⟩ => e ▸ hx, fun h => ⟨a, h, rfl⟩⟩
end
def c108 : Ct := ctR (lc ECf.ag (lc AStr l0)) (fun p => True) (fun p => .t (.v (.bool (bOf (p.2.1 ∈ p.1.own)))))
section
attribute [local go_sem] c172
theorem good108 {G : Gt} (hG : OkG G) (hh : G.e 172 = roEnt 0 c172) : Gd G 108 (roEnt 0 c108) := by
  refine gR (dp := fun _ => true) (fn := Tryz.f108) (n := 2) (fun _ => rfl) (by kernel_rfl) rfl (by kernel_rfl) hG (Nat.le_of_ble_eq_true rfl) (by kernel_rfl) (by decide) (fun _ _ => .v _) ?_
  rintro ⟨c, a, ⟨⟩⟩ hpre
  simp -implicitDefEqProofs only [Tryz.f108, go_sem, hh] at hpre ⊢
  repeat' (first | with_reducible apply And.intro | with_reducible intro _ | ((first | apply brB_split | apply aPickB_split | apply gB_split | apply adB_split) <;> intro hb <;> simp -implicitDefEqProofs only [hb, go_sem, hh] <;> try simp only [qz] at hb))
  all_goals first | rfl | omega | trace_state
end
def c102 : Ct := ctR (lc ECf.ag l0) (fun p => OkCf p.1) (fun p => .t (.v (.bool (bOf (CfOk p.1)))))
section
attribute [local go_sem] c118 c165 c166 ap_enc ap_dec AFn0_dec AFn0_enc Bool.not_true Bool.not_false ty213 lv53 AFGm_d0 AFGm_e0 AFWy_d0 AFWy_e0 AFStr_d0 AFStr_e0 AFStr_d1 AFStr_e1 bOf_t bOf_f List.length_map
set_option maxHeartbeats 1600000 in
theorem good102 {G : Gt} (hG : OkG G) (hh : G.e 118 = roEnt 0 c118 ∧ G.e 165 = roEnt 0 c165 ∧ G.e 166 = roEnt 0 c166) : Gd G 102 (roEnt 0 c102) := by
  refine gR (dp := fun _ => true) (fn := Tryz.f102) (n := 1) (fun _ => rfl) (by kernel_rfl) rfl (by kernel_rfl) hG (Nat.le_of_ble_eq_true rfl) (by kernel_rfl) (by decide) (fun _ _ => .v _) ?_
  rintro ⟨c, ⟨⟩⟩ hpre
  simp -implicitDefEqProofs only [Tryz.f102, go_sem, hh] at hpre ⊢
  obtain ⟨z1, ⟨l1, z2⟩, ⟨l2, z3⟩⟩ := hpre
  have y1 : c.name.size ≤ 2000000 := by have : c.name.size ≤ 1048576 := z1; omega
  have y2 : ∀ x ∈ c.own, FStr.pre .dom x := fun x hx => by have : x.size ≤ 1048576 := z2 x hx; show x.size ≤ 2000000; omega
  have y3 : ∀ x ∈ c.ways, FWy.pre .way x := fun x hx => by
    have h1 : x.ends.size ≤ 1048576 := (z3 x hx).1
    have h2 : x.to.size ≤ 1048576 := (z3 x hx).2
    exact ⟨by omega, by omega⟩
  have e1 : (¬ ∃ x ∈ c.own, FStr.sem .dom x) ↔ ∀ s ∈ c.own, Dom s := ⟨fun h s hs => Classical.byContradiction fun q => h ⟨s, hs, q⟩, fun h ⟨s, hs, q⟩ => q (h s hs)⟩
  have e2 : (¬ ∃ x ∈ c.ways, FWy.sem .way x) ↔ ∀ w ∈ c.ways, Dom w.ends ∧ Dom w.to := ⟨fun h s hs => Classical.byContradiction fun q => h ⟨s, hs, q⟩, fun h ⟨s, hs, q⟩ => q (h s hs)⟩
  repeat' (first | with_reducible apply And.intro | with_reducible intro _ | ((first | apply brB_split | apply aPickB_split | apply gB_split | apply adB_split) <;> intro hb <;> simp -implicitDefEqProofs only [hb, go_sem, hh] <;> try simp only [qz] at hb))
  all_goals first | rfl | omega | assumption | exact y2 _ (by assumption) | exact y3 _ (by assumption) | skip
  all_goals first
    | exact uN (e2.trans ⟨fun q => ⟨e1.1 (by assumption), q, by assumption, by omega, by omega⟩, fun q => q.2.1⟩)
    | exact uF (fun q => absurd q.2.2.1 (by assumption))
    | exact uF (fun q => by have h1 := q.2.2.2.1; have h2 := q.2.2.2.2; omega)
    | exact uF (fun q => absurd hb (e1.2 q.1))
    | trace_state
end
def c41 : Ct := ctR (lc EHs.ag l0) (fun p => OkHs p.1) (fun p => .t (.v (.bool (bOf (HsOk p.1)))))
section
attribute [local go_sem] c102 c103 c107 c108 c109 c110 ap_enc ap_dec AFn0_dec AFn0_enc Bool.not_true Bool.not_false ty213 lv53 AFGm_d0 AFGm_e0 AFWy_d0 AFWy_e0 AFStr_d0 AFStr_e0 AFStr_d1 AFStr_e1 bOf_t bOf_f List.length_map
set_option maxHeartbeats 6400000 in
theorem good41 {G : Gt} (hG : OkG G) (hh : G.e 102 = roEnt 0 c102 ∧ G.e 103 = roEnt 0 c103 ∧ G.e 107 = roEnt 0 c107 ∧ G.e 108 = roEnt 0 c108 ∧ G.e 109 = roEnt 0 c109 ∧ G.e 110 = roEnt 0 c110) : Gd G 41 (roEnt 0 c41) := by
  refine gR (dp := fun _ => true) (fn := Tryz.f41) (n := 1) (fun _ => rfl) (by kernel_rfl) rfl (by kernel_rfl) hG (Nat.le_of_ble_eq_true rfl) (by kernel_rfl) (by decide) (fun _ _ => .v _) ?_
  rintro ⟨h, ⟨⟩⟩ hpre
  simp -implicitDefEqProofs only [Tryz.f41, go_sem, hh] at hpre ⊢
  obtain ⟨zc, zs, ⟨lb, zb⟩, zl⟩ := hpre
  have e1 : ∀ j, j < h.boxes.length → ((∃ x ∈ (h.boxes.getD j default).mails, FGm.sem .bad x) ↔ ¬ ∀ g ∈ (h.boxes.getD j default).mails, (AdOk g.frm ∨ AdNull g.frm) ∧ BdOk g.body) := fun j _ => ⟨fun ⟨s, hs, q⟩ f => q (f s hs), fun f => Classical.byContradiction fun q => f fun s hs => Classical.byContradiction fun r => q ⟨s, hs, r⟩⟩
  repeat' (first | with_reducible apply And.intro | with_reducible intro _ | ((first | apply brB_split | apply aPickB_split | apply gB_split | apply adB_split) <;> intro hb <;> simp -implicitDefEqProofs only [hb, go_sem, hh] <;> try simp only [qz] at hb))
  all_goals first
    | rfl
    | omega
    | assumption
    | exact uF (fun q => absurd q.2.1 (by assumption))
    | exact uF (fun q => absurd q.2.2 (by assumption))
    | skip
  all_goals
    refine run_loop [] (ι := {i : Nat // i ≤ h.boxes.length ∧ ∀ j, j < i → BxAt h j}) (fun p => ⟨[(1, .pb 1001 0), (3, .fn 104 []), (17, .t (.sl 3 (h.boxes.map encBx))), (18, .t (.v (.int .i64 h.boxes.length))), (19, .t (.v (.int .i64 p.1)))], [(1001, some (.box ((encHs h).map .t)))]⟩) (fun p => h.boxes.length - p.1) ⟨0, by simp, by simp⟩ rfl ?_ ?_
    · simp -implicitDefEqProofs only [go_sem, hh]
      simp
    · rintro ⟨i, hi, hall⟩
      by_cases hlt : (i : Int) < h.boxes.length
      · have hbx := zb _ (getD_mem (xs := h.boxes) (j := i) (by omega))
        obtain ⟨za, zm⟩ := hbx
        have y1 : (h.boxes.getD i default).addr.domain.size ≤ 2000000 := by have : (h.boxes.getD i default).addr.domain.size ≤ 1048576 := za.2; omega
        have y2 : ∀ x ∈ (h.boxes.getD i default).mails, FGm.pre .bad x := fun x hx => by
          obtain ⟨⟨_, g1⟩, ⟨_, g2⟩⟩ := zm.2 x hx
          refine ⟨by have : x.frm.domain.size ≤ 1048576 := g1; omega, fun s hs => ?_⟩
          have : s.size ≤ 1048576 := g2 s hs
          omega
        have e2 := e1 i (by omega)
        simp -implicitDefEqProofs only [hlt, decide_true, Int.toNat_natCast, go_sem, hh]
        repeat' (first | with_reducible apply And.intro | with_reducible intro _ | ((first | apply brB_split | apply aPickB_split | apply gB_split | apply adB_split) <;> intro hb <;> simp -implicitDefEqProofs only [hb, go_sem, hh] <;> try simp only [qz] at hb))
        all_goals (try simp only [maxLen, Int.toNat_natCast] at *)
        all_goals have hnat : ((i : Int) - 1).toNat = i - 1 := by omega
        all_goals first
          | rfl
          | omega
          | assumption
          | exact y2 _ (by assumption)
          | exact uF (fun q => absurd (q.1 i (by omega)).1.2 (by assumption))
          | exact uF (fun q => absurd (q.1 i (by omega)).2.2 (by assumption))
          | exact uF (fun q => absurd hb (fun f => e2.1 f (q.1 i (by omega)).1.1))
          | exact uF (fun q => by have h9 := (byD_lt _ _).2 ((q.1 i (by omega)).2.1 (by omega)); rw [← hnat] at h9; omega)
          | skip
        all_goals
          refine ⟨⟨i + 1, by omega, bx_step hall ⟨⟨Classical.byContradiction fun f => absurd (e2.2 f) (by assumption), by assumption⟩, fun _ => by first | (exact (byD_lt _ _).1 (by rw [← hnat]; omega)) | (exfalso; omega), by assumption⟩⟩, by dsimp only; omega, ?_⟩
          simp -implicitDefEqProofs only [go_sem, hh]
          simp
      · simp -implicitDefEqProofs only [hlt, decide_false, go_sem, hh]
        repeat' (first | with_reducible apply And.intro | with_reducible intro _ | ((first | apply brB_split | apply aPickB_split | apply gB_split | apply adB_split) <;> intro hb <;> simp -implicitDefEqProofs only [hb, go_sem, hh] <;> try simp only [qz] at hb))
        all_goals first | rfl | omega | exact uT ⟨fun j hj => hall j (by omega), by assumption, by assumption⟩ | trace_state
end
def pId : ByteArray := ⟨#[73, 100, 58, 32]⟩
def MkLine (s : ByteArray) : Prop := 4 < s.size ∧ s.extract 0 4 = pId
noncomputable def mkOf : List ByteArray → ByteArray
  | [] => ⟨#[]⟩
  | x :: r => bif bOf (MkLine x) then x else mkOf r
theorem mkOf_yes {xs : List ByteArray} {i : Nat} (h : i < xs.length) (ha : MkLine (xs.getD i default)) : mkOf (xs.drop i) = xs.getD i default := by
  rw [getD_drop h, mkOf, bOf_y ha]; rfl
theorem mkOf_no {xs : List ByteArray} {i : Nat} (h : i < xs.length) (ha : ¬ MkLine (xs.getD i default)) : mkOf (xs.drop i) = mkOf (xs.drop (i + 1)) := by
  rw [getD_drop h, mkOf, bOf_n ha]; rfl
theorem mkOf_end {xs : List ByteArray} {i : Nat} (h : xs.length ≤ i) : mkOf (xs.drop i) = ⟨#[]⟩ := by
  rw [List.drop_eq_nil_of_le h, mkOf]
def Pre (s p : ByteArray) : Prop := p.size ≤ s.size ∧ s.extract 0 p.size = p
theorem mk_pre (s : ByteArray) : (Pre s pId ∧ ¬ s = pId) ↔ MkLine s := by
  unfold Pre MkLine
  have h4 : pId.size = 4 := rfl
  rw [h4]
  constructor
  · rintro ⟨⟨h1, h2⟩, h3⟩
    refine ⟨?_, h2⟩
    by_cases e : s.size = 4
    · exfalso
      apply h3
      rw [← h2, ← e]
      exact (ByteArray.extract_zero_size).symm
    · omega
  · rintro ⟨h1, h2⟩
    exact ⟨⟨by omega, h2⟩, fun e => by rw [e] at h1; have : pId.size = 4 := rfl; omega⟩
def c187 : Ct := ctR (lc EStr.asl l0) (fun p => True) (fun p => .t (.v (.string (mkOf p.1))))
section
attribute [local go_sem] List.length_map
theorem good187 {G : Gt} (hG : OkG G) : Gd G 187 (roEnt 0 c187) := by
  refine gR (dp := fun _ => true) (fn := Tryz.f187) (n := 1) (fun _ => rfl) (by kernel_rfl) rfl (by kernel_rfl) hG (Nat.le_of_ble_eq_true rfl) (by kernel_rfl) (by decide) (fun _ _ => .v _) ?_
  rintro ⟨xs, ⟨⟩⟩ hpre
  simp -implicitDefEqProofs only [Tryz.f187, go_sem] at hpre ⊢
  refine run_loop [] (ι := {i : Nat // i ≤ xs.length ∧ mkOf xs = mkOf (xs.drop i)}) (fun p => ⟨[(0, .t (.sl 1 (xs.map encStr))), (3, .t (.v (.int .i64 p.1)))], []⟩) (fun p => xs.length - p.1) ⟨0, by simp, rfl⟩ rfl ?_ ?_
  · simp -implicitDefEqProofs only [go_sem]
    simp
  · rintro ⟨i, hi, hix⟩
    by_cases hlt : (i : Int) < xs.length
    · simp -implicitDefEqProofs only [hlt, decide_true, Int.toNat_natCast, go_sem]
      repeat' (first | with_reducible apply And.intro | with_reducible intro _ | ((first | apply brB_split | apply aPickB_split | apply gB_split | apply adB_split) <;> intro hb <;> simp -implicitDefEqProofs only [hb, go_sem] <;> try simp only [qz] at hb))
      all_goals (try simp only [maxLen, Int.toNat_natCast] at *)
      all_goals first
        | rfl
        | omega
        | (rw [hix, mkOf_yes (by omega) ⟨by omega, by assumption⟩]; done)
        | skip
      all_goals
        refine ⟨⟨i + 1, by omega, by rw [hix, mkOf_no (by omega) (fun h => by first | exact absurd h.2 (by assumption) | (have := h.1; omega))]⟩, by dsimp only; omega, ?_⟩
        simp -implicitDefEqProofs only [go_sem]
        simp
    · simp -implicitDefEqProofs only [hlt, decide_false, go_sem]
      repeat' (first | with_reducible apply And.intro | with_reducible intro _ | ((first | apply brB_split | apply aPickB_split | apply gB_split | apply adB_split) <;> intro hb <;> simp -implicitDefEqProofs only [hb, go_sem] <;> try simp only [qz] at hb))
      all_goals first | rfl | omega | skip
      rw [hix, mkOf_end (by omega)]
end
open Classical in
noncomputable def wayS (d : ByteArray) : Wy → List Wy → Wy
  | b, [] => b
  | b, w :: r => wayS d (if Ends d w.ends ∧ b.ends.size < w.ends.size then w else b) r
noncomputable def wayTo (c : Cf) (d : ByteArray) : ByteArray := (wayS d ⟨⟨#[]⟩, ⟨#[]⟩⟩ c.ways).to
theorem wayS_y {d : ByteArray} {b : Wy} {xs : List Wy} {i : Nat} (h : i < xs.length) (h1 : Ends d (xs.getD i default).ends) (h2 : b.ends.size < (xs.getD i default).ends.size) : wayS d b (xs.drop i) = wayS d (xs.getD i default) (xs.drop (i + 1)) := by
  rw [getD_drop h, wayS, if_pos ⟨h1, h2⟩]
theorem wayS_n {d : ByteArray} {b : Wy} {xs : List Wy} {i : Nat} (h : i < xs.length) (h1 : ¬ (Ends d (xs.getD i default).ends ∧ b.ends.size < (xs.getD i default).ends.size)) : wayS d b (xs.drop i) = wayS d b (xs.drop (i + 1)) := by
  rw [getD_drop h, wayS, if_neg h1]
theorem wayS_end {d : ByteArray} {b : Wy} {xs : List Wy} {i : Nat} (h : xs.length ≤ i) : wayS d b (xs.drop i) = b := by
  rw [List.drop_eq_nil_of_le h, wayS]
open Classical in
noncomputable def wayOf (c : Cf) (d : ByteArray) : ByteArray := if d ∈ c.own then ⟨#[]⟩ else wayTo c d
theorem wayOf_y {c : Cf} {d : ByteArray} (h : d ∈ c.own) : wayOf c d = ⟨#[]⟩ := if_pos h
theorem wayOf_n {c : Cf} {d : ByteArray} (h : ¬ d ∈ c.own) : wayOf c d = wayTo c d := if_neg h
def c93 : Ct := ctR (lc ECf.ag (lc AStr l0)) (fun p => True) (fun p => .t (.v (.string (wayTo p.1 p.2.1))))
section
attribute [local go_sem] c159 bOf_t bOf_f List.length_map
theorem good93 {G : Gt} (hG : OkG G) (hh : G.e 159 = roEnt 0 c159) : Gd G 93 (roEnt 0 c93) := by
  refine gR (dp := fun _ => true) (fn := Tryz.f93) (n := 2) (fun _ => rfl) (by kernel_rfl) rfl (by kernel_rfl) hG (Nat.le_of_ble_eq_true rfl) (by kernel_rfl) (by decide) (fun _ _ => .v _) ?_
  rintro ⟨c, d, ⟨⟩⟩ hpre
  simp -implicitDefEqProofs only [Tryz.f93, go_sem, hh] at hpre ⊢
  refine run_loop [] (ι := {p : Nat × Wy // p.1 ≤ c.ways.length ∧ wayTo c d = (wayS d p.2 (c.ways.drop p.1)).to}) (fun p => ⟨[(1, .t (.v (.string d))), (2, .pb 1002 0), (5, .t (.v (.string p.1.2.ends))), (6, .t (.v (.string p.1.2.to))), (7, .t (.v (.int .i64 p.1.1)))], [(1002, some (.box ((encCf c).map .t)))]⟩) (fun p => c.ways.length - p.1.1) ⟨(0, ⟨⟨#[]⟩, ⟨#[]⟩⟩), by simp, rfl⟩ rfl ?_ ?_
  · simp -implicitDefEqProofs only [go_sem, hh]
    simp
  · rintro ⟨⟨i, b⟩, hi, hw⟩
    dsimp only at hi hw ⊢
    by_cases hlt : (i : Int) < c.ways.length
    · simp -implicitDefEqProofs only [hlt, decide_true, Int.toNat_natCast, go_sem, hh]
      repeat' (first | with_reducible apply And.intro | with_reducible intro _ | ((first | apply brB_split | apply aPickB_split | apply gB_split | apply adB_split) <;> intro hb <;> simp -implicitDefEqProofs only [hb, go_sem, hh] <;> try simp only [qz] at hb))
      all_goals (try simp only [maxLen, Int.toNat_natCast] at *)
      all_goals first | rfl | omega | skip
      all_goals first
        | (refine ⟨⟨(i + 1, c.ways.getD i default), by dsimp only; omega, by dsimp only; rw [hw, wayS_y (by omega) (by assumption) (by omega)]⟩, by dsimp only; omega, ?_⟩
           simp -implicitDefEqProofs only [go_sem, hh]
           simp; done)
        | (refine ⟨⟨(i + 1, b), by dsimp only; omega, by dsimp only; rw [hw, wayS_n (by omega) (fun q => by first | exact absurd q.1 (by assumption) | (have := q.2; omega))]⟩, by dsimp only; omega, ?_⟩
           simp -implicitDefEqProofs only [go_sem, hh]
           simp; done)
        | trace_state
    · simp -implicitDefEqProofs only [hlt, decide_false, go_sem, hh]
      repeat' (first | with_reducible apply And.intro | with_reducible intro _ | ((first | apply brB_split | apply aPickB_split | apply gB_split | apply adB_split) <;> intro hb <;> simp -implicitDefEqProofs only [hb, go_sem, hh] <;> try simp only [qz] at hb))
      all_goals first | rfl | omega | (rw [hw, wayS_end (by omega)]; done) | trace_state
end
def c114 : Ct := ctR (lc ECf.ag (lc AStr l0)) (fun p => OkCf p.1 ∧ CfOk p.1 ∧ p.2.1.size ≤ 2000000 ∧ Dom p.2.1) (fun p => .t (.v (.string (wayOf p.1 p.2.1))))
section
attribute [local go_sem] c108 c178 bOf_t bOf_f List.length_map
set_option maxHeartbeats 800000 in
theorem good114 {G : Gt} (hG : OkG G) (hh : G.e 108 = roEnt 0 c108 ∧ G.e 178 = roEnt 0 c178) : Gd G 114 (roEnt 0 c114) := by
  refine gR (dp := fun _ => true) (fn := Tryz.f114) (n := 2) (fun _ => rfl) (by kernel_rfl) rfl (by kernel_rfl) hG (Nat.le_of_ble_eq_true rfl) (by kernel_rfl) (by decide) (fun _ _ => .v _) ?_
  rintro ⟨c, d, ⟨⟩⟩ hpre
  simp -implicitDefEqProofs only [Tryz.f114, go_sem, hh] at hpre ⊢
  obtain ⟨⟨_, _, ⟨lw, zw⟩⟩, hc, hd, hdd⟩ := hpre
  repeat' (first | with_reducible apply And.intro | with_reducible intro _ | ((first | apply brB_split | apply aPickB_split | apply gB_split | apply adB_split) <;> intro hb <;> simp -implicitDefEqProofs only [hb, go_sem, hh] <;> try simp only [qz] at hb))
  all_goals first | rfl | omega | (rw [wayOf_y hb]; done) | skip
  refine run_loop [] (ι := {p : Nat × Wy // p.1 ≤ c.ways.length ∧ wayTo c d = (wayS d p.2 (c.ways.drop p.1)).to}) (fun p => ⟨[(1, .t (.v (.string d))), (2, .pb 1002 0), (5, .pb 1005 0), (13, .t (.sl 2 (c.ways.map encWy))), (14, .t (.v (.int .i64 c.ways.length))), (15, .t (.v (.int .i64 p.1.1)))], [(1002, some (.box ((encCf c).map .t))), (1005, some (.box ((encWy p.1.2).map .t)))]⟩) (fun p => c.ways.length - p.1.1) ⟨(0, ⟨⟨#[]⟩, ⟨#[]⟩⟩), by simp, rfl⟩ rfl ?_ ?_
  · simp -implicitDefEqProofs only [go_sem, hh]
    simp
  · rintro ⟨⟨i, b⟩, hi, hw⟩
    dsimp only at hi hw ⊢
    by_cases hlt : (i : Int) < c.ways.length
    · have hm := getD_mem (xs := c.ways) (j := i) (by omega)
      have hz : (c.ways.getD i default).ends.size ≤ 1500000 := by have : (c.ways.getD i default).ends.size ≤ 1048576 := (zw _ hm).1; omega
      have hde := (hc.2.1 _ hm).1
      simp -implicitDefEqProofs only [hlt, decide_true, Int.toNat_natCast, go_sem, hh]
      repeat' (first | with_reducible apply And.intro | with_reducible intro _ | ((first | apply brB_split | apply aPickB_split | apply gB_split | apply adB_split) <;> intro hb <;> simp -implicitDefEqProofs only [hb, go_sem, hh] <;> try simp only [qz] at hb))
      all_goals (try simp only [maxLen, Int.toNat_natCast] at *)
      all_goals first | rfl | omega | skip
      all_goals first
        | (refine ⟨⟨(i + 1, c.ways.getD i default), by dsimp only; omega, by dsimp only; rw [hw, wayS_y (by omega) (And.right (And.right (by assumption))) (by omega)]⟩, by dsimp only; omega, ?_⟩
           simp -implicitDefEqProofs only [go_sem, hh]
           simp; done)
        | (refine ⟨⟨(i + 1, b), by dsimp only; omega, by dsimp only; rw [hw, wayS_n (by omega) (fun q => by first | exact absurd (And.intro hdd (And.intro hde q.1)) (by assumption) | (have := q.2; omega))]⟩, by dsimp only; omega, ?_⟩
           simp -implicitDefEqProofs only [go_sem, hh]
           simp; done)
        | trace_state
    · simp -implicitDefEqProofs only [hlt, decide_false, go_sem, hh]
      repeat' (first | with_reducible apply And.intro | with_reducible intro _ | ((first | apply brB_split | apply aPickB_split | apply gB_split | apply adB_split) <;> intro hb <;> simp -implicitDefEqProofs only [hb, go_sem, hh] <;> try simp only [qz] at hb))
      all_goals first | rfl | omega | (rw [wayOf_n (by assumption), hw, wayS_end (by omega)]; done) | trace_state
end
def Near (c : Cf) (to : ByteArray) (w : Int) (r : Rc) : Prop := r.next ≤ w ∧ ((r.addr.domain ∈ c.own ∧ to = ⟨#[]⟩) ∨ (¬ r.addr.domain ∈ c.own ∧ ¬ to = ⟨#[]⟩ ∧ wayTo c r.addr.domain = to))
noncomputable def partTo (c : Cf) (to : ByteArray) (w : Int) : List Rc → List Ad
  | [] => []
  | r :: t => bif bOf (Near c to w r) then r.addr :: partTo c to w t else partTo c to w t
section
variable {c : Cf} {to : ByteArray} {w : Int} {xs : List Rc} {i : Nat}
theorem part_y (h : i < xs.length) (hn : Near c to w (xs.getD i default)) : partTo c to w (xs.drop i) = (xs.getD i default).addr :: partTo c to w (xs.drop (i + 1)) := by
  rw [getD_drop h, partTo, bOf_y hn]; rfl
theorem part_n (h : i < xs.length) (hn : ¬ Near c to w (xs.getD i default)) : partTo c to w (xs.drop i) = partTo c to w (xs.drop (i + 1)) := by
  rw [getD_drop h, partTo, bOf_n hn]; rfl
theorem part_end (h : xs.length ≤ i) : partTo c to w (xs.drop i) = [] := by
  rw [List.drop_eq_nil_of_le h, partTo]
end
theorem part_len (c : Cf) (to : ByteArray) (w : Int) : ∀ xs : List Rc, (partTo c to w xs).length ≤ xs.length
  | [] => Nat.le_refl _
  | r :: t => by
    rw [partTo]
    have := part_len c to w t
    cases bOf (Near c to w r) <;> simp only [cond_true, cond_false, List.length_cons] <;> omega
theorem part_mem (c : Cf) (to : ByteArray) (w : Int) : ∀ xs : List Rc, ∀ a ∈ partTo c to w xs, ∃ r ∈ xs, r.addr = a ∧ Near c to w r
  | [], a, h => by cases h
  | r :: t, a, h => by
    rw [partTo] at h
    by_cases hn : Near c to w r
    · rw [bOf_y hn] at h
      rcases List.mem_cons.1 h with e | h
      · exact ⟨r, by simp, e.symm, hn⟩
      · obtain ⟨q, hq, he⟩ := part_mem c to w t a h
        exact ⟨q, by simp [hq], he⟩
    · rw [bOf_n hn] at h
      obtain ⟨q, hq, he⟩ := part_mem c to w t a h
      exact ⟨q, by simp [hq], he⟩
noncomputable def partM (c : Cf) (x : Im) (to : ByteArray) (w : Int) : Ml := ⟨x.frm, partTo c to w x.to, x.body⟩
def owMB (p : Ml × Bool) : AV := .tup [owMl p.1, .t (.v (.bool p.2))]
theorem owMB_solid (p : Ml × Bool) : Solid (owMB p) := .tup _ fun c hc => by
  simp only [List.mem_cons, List.not_mem_nil, or_false] at hc
  rcases hc with rfl | rfl
  · exact owMl_solid _
  · exact .v _
def noMl : Ml := ⟨⟨⟨#[]⟩, ⟨#[]⟩⟩, [], []⟩
open Classical in
noncomputable def HPart (h : Hs) (n : Int) (to : ByteArray) (w : Int) : Ml × Bool :=
  if HsOk h ∧ ¬ atIm h.spool n < 0 ∧ (to = ⟨#[]⟩ ∨ Dom to) ∧ ¬ partTo h.conf to w (theIm h.spool n).to = [] then (partM h.conf (theIm h.spool n) to w, true) else (noMl, false)
theorem HPart_y {h : Hs} {n : Int} {to : ByteArray} {w : Int} (q : HsOk h ∧ ¬ atIm h.spool n < 0 ∧ (to = ⟨#[]⟩ ∨ Dom to) ∧ ¬ partTo h.conf to w (theIm h.spool n).to = []) : HPart h n to w = (partM h.conf (theIm h.spool n) to w, true) := if_pos q
theorem HPart_n {h : Hs} {n : Int} {to : ByteArray} {w : Int} (q : ¬ (HsOk h ∧ ¬ atIm h.spool n < 0 ∧ (to = ⟨#[]⟩ ∨ Dom to) ∧ ¬ partTo h.conf to w (theIm h.spool n).to = [])) : HPart h n to w = (noMl, false) := if_neg q
theorem take_snoc1 {xs : List Ad} {a : Ad} : (xs ++ [a]).map encAd = xs.map encAd ++ [[.v (.string a.user), .v (.string a.domain)]] := by
  rw [List.map_append]; rfl
def c145 : Ct := ctR (lc EHs.ag (lc EIm.ag (lc AInt (lc AStr (lc AInt l0))))) (fun p => 0 ≤ p.2.2.1 ∧ p.2.2.1 < p.2.1.to.length) (fun p => .t (.v (.bool (bOf (Near p.1.conf p.2.2.2.1 p.2.2.2.2.1 (p.2.1.to.getD p.2.2.1.toNat default))))))
section
attribute [local go_sem] c85 c93 bOf_t bOf_f List.length_map
set_option maxHeartbeats 800000 in
theorem good145 {G : Gt} (hG : OkG G) (hh : G.e 85 = roEnt 0 c85 ∧ G.e 93 = roEnt 0 c93) : Gd G 145 (roEnt 0 c145) := by
  refine gR (dp := fun _ => true) (fn := Tryz.f145) (n := 5) (fun _ => rfl) (by kernel_rfl) rfl (by kernel_rfl) hG (Nat.le_of_ble_eq_true rfl) (by kernel_rfl) (by decide) (fun _ _ => .v _) ?_
  rintro ⟨h, x, k, to, w, ⟨⟩⟩ hpre
  simp -implicitDefEqProofs only [Tryz.f145, go_sem, hh] at hpre ⊢
  obtain ⟨hk0, hk1⟩ := hpre
  repeat' (first | with_reducible apply And.intro | with_reducible intro _ | ((first | apply brB_split | apply aPickB_split | apply gB_split | apply adB_split) <;> intro hb <;> simp -implicitDefEqProofs only [hb, go_sem, hh] <;> try simp only [qz] at hb))
  all_goals (try simp only [maxLen] at *)
  all_goals first
    | rfl
    | omega
    | exact uF (fun q => by have := q.1; omega)
    | exact uD ⟨fun q => ⟨by omega, .inl ⟨by assumption, q⟩⟩, fun q => q.2.elim (fun z => z.2) fun z => absurd (by assumption) z.1⟩
    | exact uD ⟨fun q => ⟨by omega, .inr ⟨by assumption, by simpa using hb, q⟩⟩, fun q => q.2.elim (fun z => absurd z.1 (by assumption)) fun z => z.2.2⟩
    | exact uF (fun q => q.2.elim (fun z => absurd z.1 (by assumption)) fun z => z.2.1 (by simpa using hb))
    | trace_state
end
theorem FIm_part {n : Int} : FIm.sem (.part n) = fun x : Im => x.id = n := rfl
theorem HsOk_rc {h : Hs} (hh : HsOk h) {i k : Nat} (hi : i < h.spool.items.length) (hk : k < (h.spool.items.getD i default).to.length) : Dom ((h.spool.items.getD i default).to.getD k default).addr.domain :=
  ((hh.2.2.1 _ (getD_mem hi)).1.1 _ (getD_mem hk)).1.2
theorem near_iff {c : Cf} {to : ByteArray} {w : Int} {r : Rc} (h : ¬ r.addr.domain ∈ c.own) : wayOf c r.addr.domain = wayTo c r.addr.domain := wayOf_n h
def c76 : Ct := ctR (lc EHs.ag (lc AInt (lc AStr (lc AInt l0)))) (fun p => OkHs p.1 ∧ p.2.2.1.size ≤ 2000000) (fun p => owMB (HPart p.1 p.2.1 p.2.2.1 p.2.2.2.1))
section
attribute [local go_sem] c136 c41 c118 c78 c108 c114 ap_enc ap_dec AFn0_dec AFn0_enc Bool.not_true Bool.not_false ty213 lv53 AFIm_d0 AFIm_e0 AFIm_d1 AFIm_e1 FIm_part bOf_t bOf_f List.length_map List.length_append List.length_cons List.length_nil List.map_nil Nat.zero_add List.nil_append owMB noMl partM AS.opn AS.cls AS.nilb AS.renb AS.up List.set_set List.set_cons_zero List.set_cons_succ List.set_nil List.mem_singleton forall_eq
set_option maxHeartbeats 3200000 in
theorem good76 {G : Gt} (hG : OkG G) (hh : G.e 136 = roEnt 0 c136 ∧ G.e 41 = roEnt 0 c41 ∧ G.e 118 = roEnt 0 c118 ∧ G.e 78 = roEnt 0 c78 ∧ G.e 108 = roEnt 0 c108 ∧ G.e 114 = roEnt 0 c114) : Gd G 76 (roEnt 0 c76) := by
  refine gR (dp := fun n => !(Nat.beq n 100006 || Nat.beq n 100012)) (fn := Tryz.f76) (n := 4) (fun _ => rfl) (by kernel_rfl) rfl (by kernel_rfl) hG (Nat.le_of_ble_eq_true rfl) (by kernel_rfl) (by decide) (fun _ p => owMB_solid _) ?_
  rintro ⟨h, n, to, w, ⟨⟩⟩ hpre
  obtain ⟨hok, hto⟩ := hpre
  dsimp only at hok hto ⊢
  have hok2 := hok
  obtain ⟨hcf, ⟨_, hsz⟩, _⟩ := hok2
  by_cases q1 : HsOk h
  · have b1 := bOf_y q1
    by_cases q2 : atIm h.spool n < 0
    · have q2' : ixP (fun x : Im => x.id = n) 0 h.spool.items < 0 := q2
      rw [HPart_n (fun q => q.2.1 q2)]
      simp -implicitDefEqProofs only [Tryz.f76, b1, q2', decide_true, go_sem, hh]
      repeat' (first | with_reducible apply And.intro | with_reducible intro _ | ((first | apply brB_split | apply aPickB_split | apply gB_split | apply adB_split) <;> intro hb <;> simp -implicitDefEqProofs only [hb, go_sem, hh] <;> try simp only [qz] at hb))
      all_goals first | rfl | omega | assumption | decide | exact trivial | contradiction | exact absurd (Or.inr (by assumption)) q3 | exact absurd (Or.inl (by assumption)) q3 | trace_state
    · have q2' : ¬ ixP (fun x : Im => x.id = n) 0 h.spool.items < 0 := q2
      obtain ⟨a0, a1⟩ := atIm_lt q2
      have a0' : 0 ≤ ixP (fun x : Im => x.id = n) 0 h.spool.items := a0
      have a1' : ixP (fun x : Im => x.id = n) 0 h.spool.items < h.spool.items.length := a1
      obtain ⟨ni, hni⟩ := Int.eq_ofNat_of_zero_le a0'
      have hT : theIm h.spool n = h.spool.items.getD ni default := by unfold theIm atIm; rw [hni]; rfl
      rw [hni] at q2' a0' a1'
      by_cases q3 : to = ⟨#[]⟩ ∨ Dom to
      · have hx := hsz _ (getD_mem (xs := h.spool.items) (j := ni) (by omega))
        obtain ⟨_, ⟨hl1, hzr⟩, ⟨hl2, _⟩⟩ := hx
        obtain ⟨R, hR⟩ : ∃ x, x = HPart h n to w := ⟨_, rfl⟩
        rw [← hR]
        have hRy : ¬ partTo h.conf to w (h.spool.items.getD ni default).to = [] → R = (partM h.conf (h.spool.items.getD ni default) to w, true) := fun q => by rw [hR, HPart_y ⟨q1, q2, q3, by rw [hT]; exact q⟩, hT]
        have hRn : partTo h.conf to w (h.spool.items.getD ni default).to = [] → R = (noMl, false) := fun q => by rw [hR, HPart_n (fun z => z.2.2.2 (by rw [hT]; exact q))]
        have hdm : (decide (to = ⟨#[]⟩) || bOf (Dom to)) = true := by
          rcases q3 with q | q
          · simp [q]
          · simp [bOf_y q]
        simp -implicitDefEqProofs only [Tryz.f76, b1, hni, q2', decide_false, Int.toNat_natCast, go_sem, hh]
        repeat' (first | with_reducible apply And.intro | with_reducible intro _ | ((first | apply brB_split | apply aPickB_split | apply gB_split | apply adB_split) <;> intro hb <;> simp -implicitDefEqProofs only [hb, go_sem, hh] <;> try simp only [qz] at hb))
        all_goals (try simp only [maxLen, Int.toNat_natCast] at *)
        all_goals first | rfl | omega | assumption | decide | exact trivial | contradiction | (exfalso; rcases q3 with q3 | q3 <;> contradiction) | skip
        all_goals
          refine run_le (Le.nilb 1012 2 1901 true 2 rfl rfl rfl) (run_go ?_)
          simp -implicitDefEqProofs only [go_sem, hh]
          repeat' (first | with_reducible apply And.intro | with_reducible intro _ | ((first | apply brB_split | apply aPickB_split | apply gB_split | apply adB_split) <;> intro hb <;> simp -implicitDefEqProofs only [hb, go_sem, hh] <;> try simp only [qz] at hb))
          all_goals first | rfl | omega | skip
          refine run_loop [] (ι := {p : Nat × List Ad // p.1 ≤ (h.spool.items.getD ni default).to.length ∧ p.2.length ≤ p.1 ∧ partTo h.conf to w (h.spool.items.getD ni default).to = p.2 ++ partTo h.conf to w ((h.spool.items.getD ni default).to.drop p.1)}) (fun p => ⟨[(2, .t (.v (.string to))), (3, .t (.v (.int .i64 w))), (4, .pb 1004 0), (8, .pb 1008 0), (12, .pb 1012 0), (51, .t (.sl 4 ((h.spool.items.getD ni default).to.map encRc))), (52, .t (.v (.int .i64 (h.spool.items.getD ni default).to.length))), (53, .t (.v (.int .i64 p.1.1)))], [(1004, some (.box ((encHs h).map .t))), (1008, some (.box [.t (.v (.string ⟨#[]⟩)), .t (.v (.string ⟨#[]⟩)), .nil, .nil])), (1012, some (.box [.t (.v (.string (h.spool.items.getD ni default).frm.user)), .t (.v (.string (h.spool.items.getD ni default).frm.domain)), .h 1901, .h 1048])), (1048, some (.arr true 1 ((h.spool.items.getD ni default).body.map encStr))), (1901, some (.arr true 2 (p.1.2.map encAd)))]⟩) (fun p => (h.spool.items.getD ni default).to.length - p.1.1) ⟨(0, []), by simp, by simp, rfl⟩ rfl ?_ ?_
          · simp -implicitDefEqProofs only [go_sem, hh]
            simp
          · rintro ⟨⟨i, L⟩, hi, hL, hq⟩
            dsimp only at hi hL hq ⊢
            by_cases hlt : (i : Int) < (h.spool.items.getD ni default).to.length
            · have hd := HsOk_rc q1 (i := ni) (k := i) (by omega) (by omega)
              have hd2 : ((h.spool.items.getD ni default).to.getD i default).addr.domain.size ≤ 2000000 := by have : ((h.spool.items.getD ni default).to.getD i default).addr.domain.size ≤ 1048576 := (hzr _ (getD_mem (by omega))).2; omega
              have hcf2 := q1.2.1
              by_cases hN : Near h.conf to w ((h.spool.items.getD ni default).to.getD i default)
              · have hN2 := hN
                obtain ⟨n1, n2⟩ := hN2
                rcases n2 with ⟨m1, m2⟩ | ⟨m1, m2, m3⟩
                · have c1 := bOf_y m1
                  have m2d := decide_eq_true m2
                  simp -implicitDefEqProofs only [hlt, c1, n1, m2d, decide_true, Int.toNat_natCast, go_sem, hh]
                  repeat' (first | with_reducible apply And.intro | with_reducible intro _ | ((first | apply brB_split | apply aPickB_split | apply gB_split | apply adB_split) <;> intro hb <;> simp -implicitDefEqProofs only [hb, go_sem, hh] <;> try simp only [qz] at hb))
                  all_goals (try simp only [maxLen, Int.toNat_natCast] at *)
                  all_goals first | rfl | omega | assumption | decide | skip
                  all_goals
                    refine run_le (Le.renb 1012 2 1097 1901 rfl rfl rfl rfl) (run_go ?_)
                    simp -implicitDefEqProofs only [go_sem, hh]
                    repeat' (first | with_reducible apply And.intro | with_reducible intro _ | ((first | apply brB_split | apply aPickB_split | apply gB_split | apply adB_split) <;> intro hb <;> simp -implicitDefEqProofs only [hb, go_sem, hh] <;> try simp only [qz] at hb))
                    all_goals first | rfl | omega | decide | skip
                    refine ⟨⟨(i + 1, L ++ [((h.spool.items.getD ni default).to.getD i default).addr]), by dsimp only; omega, by simp; omega, by dsimp only; rw [hq, part_y (by omega) (by assumption)]; simp⟩, by dsimp only; omega, ?_⟩
                    simp -implicitDefEqProofs only [go_sem, hh]
                    simp only [take_snoc1]
                    repeat' (first | with_reducible apply And.intro | with_reducible intro _ | ((first | apply brB_split | apply aPickB_split | apply gB_split | apply adB_split) <;> intro hb <;> simp -implicitDefEqProofs only [hb, go_sem, hh] <;> try simp only [qz] at hb))
                    all_goals first | rfl | (simp; done) | trace_state
                · have c1 := bOf_n m1
                  have c3 : wayOf h.conf ((h.spool.items.getD ni default).to.getD i default).addr.domain = to := by rw [wayOf_n m1]; exact m3
                  simp -implicitDefEqProofs only [hlt, c1, c3, n1, m2, decide_true, decide_false, Int.toNat_natCast, go_sem, hh]
                  repeat' (first | with_reducible apply And.intro | with_reducible intro _ | ((first | apply brB_split | apply aPickB_split | apply gB_split | apply adB_split) <;> intro hb <;> simp -implicitDefEqProofs only [hb, go_sem, hh] <;> try simp only [qz] at hb))
                  all_goals (try simp only [maxLen, Int.toNat_natCast] at *)
                  all_goals first | rfl | omega | assumption | decide | skip
                  all_goals
                    refine run_le (Le.renb 1012 2 1097 1901 rfl rfl rfl rfl) (run_go ?_)
                    simp -implicitDefEqProofs only [go_sem, hh]
                    repeat' (first | with_reducible apply And.intro | with_reducible intro _ | ((first | apply brB_split | apply aPickB_split | apply gB_split | apply adB_split) <;> intro hb <;> simp -implicitDefEqProofs only [hb, go_sem, hh] <;> try simp only [qz] at hb))
                    all_goals first | rfl | omega | decide | skip
                    refine ⟨⟨(i + 1, L ++ [((h.spool.items.getD ni default).to.getD i default).addr]), by dsimp only; omega, by simp; omega, by dsimp only; rw [hq, part_y (by omega) (by assumption)]; simp⟩, by dsimp only; omega, ?_⟩
                    simp -implicitDefEqProofs only [go_sem, hh]
                    simp only [take_snoc1]
                    repeat' (first | with_reducible apply And.intro | with_reducible intro _ | ((first | apply brB_split | apply aPickB_split | apply gB_split | apply adB_split) <;> intro hb <;> simp -implicitDefEqProofs only [hb, go_sem, hh] <;> try simp only [qz] at hb))
                    all_goals first | rfl | (simp; done) | trace_state
              · have hN2 : ∀ b : Bool, (b = true → Near h.conf to w ((h.spool.items.getD ni default).to.getD i default)) → b = false := fun b hb => by
                  cases b
                  · rfl
                  · exact absurd (hb rfl) hN
                simp -implicitDefEqProofs only [hlt, decide_true, Int.toNat_natCast, go_sem, hh]
                repeat' (first | with_reducible apply And.intro | with_reducible intro _ | ((first | apply brB_split | apply aPickB_split | apply gB_split | apply adB_split) <;> intro hb <;> simp -implicitDefEqProofs only [hb, go_sem, hh] <;> try simp only [qz] at hb))
                all_goals (try simp only [maxLen, Int.toNat_natCast] at *)
                all_goals first
                  | rfl
                  | omega
                  | assumption
                  | decide
                  | (exfalso; exact hN ⟨by omega, .inl ⟨by assumption, by assumption⟩⟩)
                  | (exfalso; exact hN ⟨by omega, .inr ⟨by assumption, by assumption, by rw [← wayOf_n (by assumption)]; assumption⟩⟩)
                  | skip
                all_goals
                  refine run_go ?_
                  simp -implicitDefEqProofs only [go_sem, hh]
                  repeat' (first | with_reducible apply And.intro | with_reducible intro _ | ((first | apply brB_split | apply aPickB_split | apply gB_split | apply adB_split) <;> intro hb <;> simp -implicitDefEqProofs only [hb, go_sem, hh] <;> try simp only [qz] at hb))
                  all_goals first | rfl | omega | decide | skip
                  refine ⟨⟨(i + 1, L), by dsimp only; omega, by dsimp only; omega, by dsimp only; rw [hq, part_n (by omega) (by assumption)]⟩, by dsimp only; omega, ?_⟩
                  simp -implicitDefEqProofs only [go_sem, hh]
                  simp
            · have hend : partTo h.conf to w (h.spool.items.getD ni default).to = L := by rw [hq, part_end (by omega), List.append_nil]
              rw [hend] at hRy hRn
              by_cases hL0 : L = []
              · rw [hRn hL0]
                subst hL0
                simp -implicitDefEqProofs only [hlt, decide_false, go_sem, hh]
                repeat' (first | with_reducible apply And.intro | with_reducible intro _ | ((first | apply brB_split | apply aPickB_split | apply gB_split | apply adB_split) <;> intro hb <;> simp -implicitDefEqProofs only [hb, go_sem, hh] <;> try simp only [qz] at hb))
                all_goals first | with_reducible rfl | omega | decide | exact absurd rfl (by assumption) | rfl | trace_state
              · rw [hRy hL0]
                have hL1 : ¬ (L.length : Int) = 0 := fun e => hL0 (List.eq_nil_of_length_eq_zero (by omega))
                simp -implicitDefEqProofs only [hlt, hL1, hend, decide_false, go_sem, hh]
                repeat' (first | with_reducible apply And.intro | with_reducible intro _ | ((first | apply brB_split | apply aPickB_split | apply gB_split | apply adB_split) <;> intro hb <;> simp -implicitDefEqProofs only [hb, go_sem, hh] <;> try simp only [qz] at hb))
                all_goals first | with_reducible rfl | omega | decide | exact absurd rfl (by assumption) | rfl | trace_state
      · have q5 : ¬ to = ⟨#[]⟩ := fun e => q3 (.inl e)
        have b5 := bOf_n (fun e => q3 (.inr e))
        rw [HPart_n (fun q => q3 q.2.2.1)]
        simp -implicitDefEqProofs only [Tryz.f76, b1, b5, hni, q5, decide_true, decide_false, go_sem, hh]
        repeat' (first | with_reducible apply And.intro | with_reducible intro _ | ((first | apply brB_split | apply aPickB_split | apply gB_split | apply adB_split) <;> intro hb <;> simp -implicitDefEqProofs only [hb, go_sem, hh] <;> try simp only [qz] at hb))
        all_goals first | rfl | omega | assumption | decide | exact trivial | contradiction | exact absurd (Or.inr (by assumption)) q3 | exact absurd (Or.inl (by assumption)) q3 | trace_state
  · have b1 := bOf_n q1
    rw [HPart_n (fun q => q1 q.1)]
    simp -implicitDefEqProofs only [Tryz.f76, b1, go_sem, hh]
    repeat' (first | with_reducible apply And.intro | with_reducible intro _ | ((first | apply brB_split | apply aPickB_split | apply gB_split | apply adB_split) <;> intro hb <;> simp -implicitDefEqProofs only [hb, go_sem, hh] <;> try simp only [qz] at hb))
    all_goals first | rfl | omega | assumption | decide | exact trivial | contradiction | exact absurd (Or.inr (by assumption)) q3 | exact absurd (Or.inl (by assumption)) q3 | trace_state
end
def adRc (w : Int) (a : Ad) : Rc := ⟨a, 0, w⟩
def adIm (s : Sp) (m : Ml) (w : Int) : Im := ⟨s.last + 1, m.frm, m.to.map (adRc w), m.body⟩
def adSp (s : Sp) (m : Ml) (w : Int) : Sp := ⟨s.last + 1, s.items ++ [adIm s m w]⟩
def Room (s : Sp) : Prop := (s.items.length : Int) < 10 ∧ s.last < 999
open Classical in
noncomputable def SAdd (s : Sp) (m : Ml) (w : Int) : Sp × Bool := if SpOk s then (if MlOk m ∧ (0 ≤ w ∧ w ≤ 9999) ∧ Room s then (adSp s m w, true) else (s, false)) else (⟨0, []⟩, false)
theorem SAdd_no {s : Sp} {m : Ml} {w : Int} (h : ¬ SpOk s) : SAdd s m w = (⟨0, []⟩, false) := by unfold SAdd; rw [if_neg h]
theorem SAdd_n {s : Sp} {m : Ml} {w : Int} (h : SpOk s) (h2 : ¬ (MlOk m ∧ (0 ≤ w ∧ w ≤ 9999) ∧ Room s)) : SAdd s m w = (s, false) := by unfold SAdd; rw [if_pos h, if_neg h2]
theorem SAdd_y {s : Sp} {m : Ml} {w : Int} (h : SpOk s) (h2 : MlOk m ∧ (0 ≤ w ∧ w ≤ 9999) ∧ Room s) : SAdd s m w = (adSp s m w, true) := by unfold SAdd; rw [if_pos h, if_pos h2]
theorem take_rc {xs : List Ad} {w : Int} {i : Nat} (h : i < xs.length) : ((xs.map (adRc w)).take (i + 1)).map encRc = ((xs.map (adRc w)).take i).map encRc ++ [[.v (.string (xs.getD i default).user), .v (.string (xs.getD i default).domain), .v (.int .i64 0), .v (.int .i64 w)]] := by
  have e : (xs.map (adRc w)).getD i default = adRc w (xs.getD i default) := by
    simp only [List.getD_eq_getElem?_getD, List.getElem?_map, List.getElem?_eq_getElem h, Option.map_some, Option.getD_some]
  rw [take_snoc_map encRc (by rw [List.length_map]; exact h), e]
  rfl
def c94 : Ct := ctR (lc ESp.ag l0) (fun p => True) (fun p => .t (.v (.bool (bOf (Room p.1)))))
section
attribute [local go_sem] List.length_map
theorem good94 {G : Gt} (hG : OkG G) : Gd G 94 (roEnt 0 c94) := by
  refine gR (dp := fun _ => true) (fn := Tryz.f94) (n := 1) (fun _ => rfl) (by kernel_rfl) rfl (by kernel_rfl) hG (Nat.le_of_ble_eq_true rfl) (by kernel_rfl) (by decide) (fun _ _ => .v _) ?_
  rintro ⟨s, ⟨⟩⟩ hpre
  simp -implicitDefEqProofs only [Tryz.f94, go_sem] at hpre ⊢
  repeat' (first | with_reducible apply And.intro | with_reducible intro _ | ((first | apply brB_split | apply aPickB_split | apply gB_split | apply adB_split) <;> intro hb <;> simp -implicitDefEqProofs only [hb, go_sem] <;> try simp only [qz] at hb))
  all_goals first
    | rfl
    | omega
    | (rw [← bOf_d, bOf_congr]; exact ⟨fun h => ⟨by assumption, h⟩, fun h => h.2⟩)
    | (rw [bOf_n]; rintro ⟨h1, h2⟩; contradiction)
    | (rw [bOf_y]; exact ⟨by assumption, by assumption⟩)
    | trace_state
end
def c97 : Ct := ctR (lc ESp.ag (lc EMl.ag (lc AInt l0))) (fun p => OkSp p.1 ∧ OkMl p.2.1 ∧ SpOk p.1) (fun p => .agg ((encSp (adSp p.1 p.2.1 p.2.2.1)).map .t))
section
attribute [local go_sem] tmap dmap List.take_length List.drop_zero List.length_take List.length_drop List.length_map List.length_append List.length_cons List.length_nil List.map_append List.map_nil List.map_cons List.nil_append Nat.zero_add List.mem_singleton forall_eq Bool.not_true Bool.not_false AS.opn AS.cls AS.nilb AS.renb List.set_set List.set_cons_zero List.set_cons_succ List.set_nil
set_option maxHeartbeats 1600000 in
theorem good97 {G : Gt} (hG : OkG G) : Gd G 97 (roEnt 1 c97) := by
  refine gR (dp := fun n => Nat.ble 100000 n && !(Nat.beq n 100002 || Nat.beq n 100004 || Nat.beq n 100007)) (fn := Tryz.f97) (n := 3) (fun _ => rfl) (by kernel_rfl) rfl (by kernel_rfl) hG (Nat.le_of_ble_eq_true rfl) (by kernel_rfl) (by decide) (fun h => by cases h) ?_
  rintro ⟨s, m, w, ⟨⟩⟩ hpre
  simp -implicitDefEqProofs only [Tryz.f97, go_sem] at hpre ⊢
  obtain ⟨hok, hml, hsp⟩ := hpre
  have hok' : OkL OkIm s.items := hok
  obtain ⟨_, ⟨hl1, _⟩, ⟨hl2, _⟩⟩ := hml
  obtain ⟨_, _, ⟨hs0, hs1⟩, hs2⟩ := hsp
  repeat' (first | with_reducible apply And.intro | with_reducible intro _ | ((first | apply brB_split | apply aPickB_split | apply gB_split | apply adB_split) <;> intro hb <;> simp -implicitDefEqProofs only [hb, go_sem] <;> try simp only [qz] at hb))
  all_goals (try simp only [maxLen] at *)
  all_goals first | rfl | omega | assumption | decide | skip
  all_goals
    refine run_le (Le.nilb 1007 3 1901 true 4 rfl rfl rfl) (run_go ?_)
    simp -implicitDefEqProofs only [go_sem]
    refine run_loop [] (ι := {i : Nat // i ≤ m.to.length}) (fun p => ⟨[(2, .t (.v (.int .i64 w))), (3, .pb 1003 0), (4, .pb 1004 0), (6, .pb 1006 0), (7, .pb 1007 0), (8, .t (.v (.int .i64 p.1)))], [(1003, some (.box [.t (.v (.int .i64 s.last)), .t (.sl 5 (s.items.map encIm))])), (1004, some (.box ((encMl m).map .t))), (1006, some (.box [.t (.v (.int .i64 0)), .nil])), (1007, some (.box [.t (.v (.int .i64 (s.last + 1))), .t (.v (.string m.frm.user)), .t (.v (.string m.frm.domain)), .h 1901, .h 1017])), (1017, some (.arr true 1 (m.body.map encStr))), (1901, some (.arr true 4 (((m.to.map (adRc w)).take p.1).map encRc)))]⟩) (fun p => m.to.length - p.1) ⟨0, by simp⟩ rfl ?_ ?_
    · simp -implicitDefEqProofs only [go_sem]
      simp
    · rintro ⟨i, hi⟩
      have hlen : ((m.to.map (adRc w)).take i).length = i := by simp; omega
      by_cases hlt : (i : Int) < m.to.length
      · simp -implicitDefEqProofs only [hlt, decide_true, Int.toNat_natCast, go_sem]
        repeat' (first | with_reducible apply And.intro | with_reducible intro _ | ((first | apply brB_split | apply aPickB_split | apply gB_split | apply adB_split) <;> intro hb <;> simp -implicitDefEqProofs only [hb, go_sem] <;> try simp only [qz] at hb))
        all_goals (try simp only [maxLen] at *)
        all_goals first | rfl | omega | assumption | decide | skip
        refine run_le (Le.renb 1007 3 1036 1901 rfl rfl rfl rfl) (run_go ?_)
        simp -implicitDefEqProofs only [go_sem]
        repeat' (first | with_reducible apply And.intro | with_reducible intro _ | ((first | apply brB_split | apply aPickB_split | apply gB_split | apply adB_split) <;> intro hb <;> simp -implicitDefEqProofs only [hb, go_sem] <;> try simp only [qz] at hb))
        all_goals first | rfl | omega | decide | skip
        refine ⟨⟨i + 1, by omega⟩, by dsimp only; omega, ?_⟩
        simp -implicitDefEqProofs only [go_sem]
        simp only [take_rc (show i < m.to.length by omega)]
        repeat' (first | with_reducible apply And.intro | with_reducible intro _ | ((first | apply brB_split | apply aPickB_split | apply gB_split | apply adB_split) <;> intro hb <;> simp -implicitDefEqProofs only [hb, go_sem] <;> try simp only [qz] at hb))
        all_goals first | rfl | (simp; done) | trace_state
      · simp -implicitDefEqProofs only [hlt, decide_false, go_sem]
        repeat' (first | with_reducible apply And.intro | with_reducible intro _ | ((first | apply brB_split | apply aPickB_split | apply gB_split | apply adB_split) <;> intro hb <;> simp -implicitDefEqProofs only [hb, go_sem] <;> try simp only [qz] at hb))
        all_goals first | rfl | omega | skip
        rw [List.take_of_length_le (by rw [List.length_map]; omega)]
        refine run_le (Le.frzL [1901, 1017]) (run_go ?_)
        simp -implicitDefEqProofs only [go_sem]
        repeat' (first | with_reducible apply And.intro | with_reducible intro _ | ((first | apply brB_split | apply aPickB_split | apply gB_split | apply adB_split) <;> intro hb <;> simp -implicitDefEqProofs only [hb, go_sem] <;> try simp only [qz] at hb))
        all_goals (try simp only [maxLen, List.take_length, List.drop_zero] at *)
        all_goals first | rfl | omega | assumption | decide | skip
        all_goals
          refine congrArg (T.sl 5) ?_
          simp only [adSp, adIm, List.map_append, List.map_cons, List.map_nil]
          rfl
end
end Go.V
namespace Go.V
open Go Go.Proofs
set_option maxRecDepth 100000
set_option linter.unusedSimpArgs false
set_option linter.unusedVariables false
attribute [local go_sem] aPickB.eq_1 aPickB.eq_2 aPick.eq_1 aBox.eq_1 aBox.eq_2 aAlloc.eq_1 aAlloc.eq_2 aLoadB.eq_1 aLoadB.eq_2 aLoadB.eq_3 aLoadB.eq_4 aLoadB.eq_5 aLoadA.eq_1 aLoadA.eq_2 aLoadA.eq_3 aLoadA.eq_4 aLoadA.eq_5 aLoadP.eq_1 aLoadP.eq_2 aLoadP.eq_3 aLoad.eq_1 aLoad.eq_2 aFAx.eq_1 aFAx.eq_2 aFAx.eq_3 aFA.eq_1 aFA.eq_2 aFx.eq_1 aF.eq_1 aF.eq_2 fld.eq_1 elT.eq_1 aIdxH.eq_1 aIdxH.eq_2 aIdxH.eq_3 aIdxH.eq_4 aIdxH.eq_5 aIdxP.eq_1 aIdxP.eq_2 aIndexAddr.eq_1 aIndexAddr.eq_2 aIndexAddr.eq_3 isStr.eq_1 aIndex.eq_1 aSlStr.eq_1 aSlRo.eq_1 aSlZ.eq_1 aSlZ.eq_2 aSlice.eq_1 aSlice.eq_2 aSlice.eq_3 bnd.eq_1 bnd.eq_2 aBuildO.eq_1 aBuildO.eq_2 aBuild.eq_1 aNewArr.eq_1 aNewArr.eq_2 aBS.eq_1 aBS.eq_2 aBuildSlice.eq_1 aBuildSlice.eq_2 aMakeSlice.eq_1 appDeep.eq_1 aApp2.eq_1 aAppend.eq_1 aAppend.eq_2 aStoreB.eq_1 aStoreA.eq_1 obFlat.eq_1 aStore2.eq_1 aStore2.eq_2 aStoreP.eq_1 aStoreP.eq_2 aStore.eq_1 aStore.eq_2 isShl.eq_1 isShl.eq_2 isBool.eq_1 aBinI.eq_1 aBinI.eq_2 aBinB.eq_1 aBinB.eq_2 aEq.eq_1 aEq.eq_2 aEq.eq_3 aEq.eq_4 aEqG.eq_1 aEqG.eq_2 aBin.eq_1 aBin.eq_2 aBin.eq_3 aBin.eq_4 aUn.eq_1 aUn.eq_2 aLenO.eq_1 aLenS.eq_1 aLenS.eq_2 aLenS.eq_3 aLenT.eq_1 aLen.eq_1 aLen.eq_2 aLen.eq_3 bytesOb.eq_1 bytesOb.eq_2 bytesOf.eq_1 bytesOf.eq_2 aNums.eq_1 aNums.eq_2 isU8.eq_1 aCvI.eq_1 aCvS.eq_1 aCvB.eq_1 aCvB.eq_2 aCvT.eq_1 aConv.eq_1 aConv.eq_2 aConv.eq_3 aConv.eq_4 aExO.eq_1 aExO.eq_2 aExtract.eq_1 aNil.eq_1 aNil.eq_2 aNil.eq_3 aCallS.eq_1 aCallS.eq_2 aCallR.eq_1 aCallR.eq_2 aCallK.eq_1 aCallK.eq_2 aCallK.eq_3 aCall.eq_1 aCall.eq_2 takeO.eq_1 AS.takeV.eq_1 AS.takeV.eq_2 AS.takeV.eq_3 AS.takeV.eq_4 AS.takeV.eq_5 AS.takeV.eq_6 AS.takeV.eq_7 AV.oldM.eq_1 AV.oldM.eq_2 AV.oldM.eq_3 AV.oldM.eq_4 AV.oldM.eq_5 AV.oldM.eq_6 AV.oldM.eq_7 AV.oldM.eq_8 AV.oldM.eq_9 AV.oldM.eq_10 AV.oldM.eq_11 AV.oldML.eq_1 AV.oldML.eq_2 subL.eq_1 subL.eq_2 back.eq_1 back.eq_2 back.eq_3 back.eq_4 backL.eq_1 backI.eq_1 backI.eq_2 backI.eq_3 backI.eq_4 backIL.eq_1 aBuiltin.eq_1 aBuiltin.eq_2 aBuiltin.eq_3 aCallee.eq_1 aCallee.eq_2 aCallee.eq_3 abin.eq_1 abin.eq_2 abin.eq_3 abin.eq_4 abin.eq_5 abin.eq_6 abin.eq_7 abin.eq_8 abin.eq_9 abin.eq_10 abin.eq_11 abin.eq_12 abin.eq_13 abin.eq_14 abin.eq_15 abin.eq_17 abin.eq_18 abin.eq_19 abin.eq_20 abin.eq_21 abin.eq_22 abin.eq_23 AS.ev.eq_1 AS.ev.eq_2 AS.ev.eq_3 AS.ev.eq_4 AS.evs.eq_1 AS.evs.eq_2 AS.evp.eq_1 AS.evp.eq_2 AS.put.eq_1 AS.put.eq_2 AS.remL.eq_1 AS.remL.eq_2 AV.has.eq_1 AV.has.eq_2 AV.has.eq_3 AV.has.eq_4 AV.has.eq_5 AV.has.eq_6 AV.has.eq_7 AV.has.eq_8 AV.has.eq_9 AV.has.eq_10 AV.has.eq_11 AV.hasL.eq_1 AV.hasL.eq_2 Ob.drop.eq_1 Ob.drop.eq_2 Ob.drop.eq_3 Ob.drop.eq_4 AV.cells.eq_1 AV.cells.eq_2 AV.cells.eq_3 AV.cells.eq_4 AV.cells.eq_5 AS.snapT.eq_1 AS.snapT.eq_2 AS.snapT.eq_3 AS.snapT.eq_4 AS.snapT.eq_5 AS.snapT.eq_6 AS.snapT.eq_7 AS.snap.eq_1 AS.snap.eq_2 mapO.eq_1 mapO.eq_2 intern.eq_1 intern.eq_2 intern.eq_3 intern.eq_4 intern.eq_5 intern.eq_6 intern.eq_7 intern.eq_8 intern.eq_9 intern.eq_10 intern.eq_11 internL.eq_1 internL.eq_2 zipSl.eq_1 zipSl.eq_2 AV.ids.eq_1 AV.ids.eq_2 AV.ids.eq_3 AV.ids.eq_4 AV.ids.eq_5 AV.ids.eq_6 AV.ids.eq_7 AV.ids.eq_8 AV.ids.eq_9 AV.ids.eq_10 AV.ids.eq_11 AV.idsL.eq_1 AV.idsL.eq_2 AV.sub.eq_1 AV.sub.eq_2 AV.sub.eq_3 AV.sub.eq_4 AV.sub.eq_5 AV.sub.eq_6 AV.sub.eq_7 AV.sub.eq_8 AV.sub.eq_9 AV.sub.eq_10 AV.sub.eq_11 AV.subL.eq_1 AV.subL.eq_2 AS.frzL.eq_1 AS.frzL.eq_2 AS.absT.eq_1 AS.absT.eq_2 AS.absT.eq_4 AS.absL.eq_1 AS.absL.eq_2 AS.absOk.eq_1 AS.absOkL.eq_1 AS.absOkL.eq_2 hid.eq_1 hids.eq_1 hids.eq_2 AS.appBase.eq_1 AS.appBase.eq_2 AS.appSrc.eq_1 appFits.eq_1 appFits.eq_2 appFits.eq_3 avFill.eq_1 avFill.eq_2 avc.eq_1 avc.eq_2 avc1.eq_1 Kd.agg.eq_1 Kd.agg.eq_2 okR.eq_1 okR.eq_2 okR.eq_3 okR.eq_4 okR.eq_5 okR.eq_6 okR.eq_7 okR.eq_8 zt.eq_1 rvB.eq_1 rvP.eq_1 rvA.eq_1 rvA.eq_2 rv1.eq_1 outTO.eq_1 outT.eq_1 outT.eq_2 outT.eq_3 outTn.eq_1 outOO.eq_1 outO.eq_1 outO.eq_2 boxOf.eq_1 outP.eq_1 outP.eq_2 outP.eq_3 outP.eq_4 outP.eq_5 outP.eq_6 outP.eq_7 outP.eq_8 outPL.eq_1 outPL.eq_2 outI.eq_1 outI.eq_2 outI.eq_3 outI.eq_4 outI.eq_5 outIL.eq_1 outZ.eq_1 outZ.eq_2 outZ.eq_3 outZ.eq_4 outZ.eq_5 outZL.eq_1 finO.eq_1 finO.eq_2 fin.eq_1 fin.eq_2 fin.eq_3 cellAV.eq_1 cellAV.eq_2 numsOf.eq_1 numsOf.eq_2 aop.eq_1 aop.eq_2 aop.eq_3 aop.eq_4 aop.eq_5 aop.eq_6 aop.eq_7 aop.eq_8 aop.eq_9 aop.eq_10 aop.eq_11 aop.eq_12 aop.eq_13 aop.eq_14 aop.eq_15 aop.eq_16 aop.eq_17 aop.eq_18 aop.eq_19 aop.eq_20 aop.eq_21 aop.eq_22 aop.eq_23 aop.eq_24 aop.eq_25 aop.eq_26 tmpsOf.eq_1 tmpsOf.eq_2 tmpsOf.eq_3 tmpsOf.eq_4 tmpsOf.eq_5 AV.refs.eq_1 AV.refs.eq_2 AV.refs.eq_3 AV.refs.eq_4 AV.refs.eq_5 AV.refs.eq_6 AV.refs.eq_7 AV.refs.eq_8 AV.refs.eq_9 AV.refs.eq_10 AV.refs.eq_11 AV.refsL.eq_1 AV.refsL.eq_2 refsT.eq_1 refsT.eq_2 refsO.eq_1 refsO.eq_2 refsO.eq_3 refsO.eq_4 refsO.eq_5 refsO.eq_6 refsB.eq_1 refsB.eq_2 clos.eq_1 clos.eq_2 keepL.eq_1 keepL.eq_2 AV.hasM.eq_1 AV.hasM.eq_2 AV.hasM.eq_3 AV.hasM.eq_4 AV.hasM.eq_5 AV.hasM.eq_6 AV.hasM.eq_7 AV.hasM.eq_8 AV.hasM.eq_9 AV.hasM.eq_10 AV.hasM.eq_11 AV.hasML.eq_1 AV.hasML.eq_2 Ob.dropM.eq_1 Ob.dropM.eq_2 Ob.dropM.eq_3 Ob.dropM.eq_4 nsC.eq_1 nsC.eq_2 okGuard.eq_1 okGuard.eq_2 AS.purges.eq_1 AS.purges.eq_2 dropMB.eq_1 dropMB.eq_2 newB.eq_1 newB.eq_2 ptB.eq_1 ptB.eq_2 lookC.eq_1 lookC.eq_2 dropB.eq_1 dropB.eq_2 leS.eq_1 leS.eq_2 leT.eq_1 leT.eq_2 AS.mvs.eq_1 AS.mvs.eq_2 AS.mvA.eq_1 AS.mvA.eq_2 AS.mvB.eq_1 aSetO.eq_1 aSetO.eq_2 aSh.eq_1 aSh.eq_2 arK.eq_1 aIdxA.eq_1 aIdxA.eq_2 arT.eq_1 aSlHB.eq_1 aSlHB.eq_2 aSlHO.eq_1 aSlHZ.eq_1 aSlHZ.eq_2 isSlT.eq_1 isNilC.eq_1 aNilO.eq_1 aNilX.eq_1 aNilX.eq_2 aNilX.eq_3 aNilC.eq_1 aNilC.eq_2 aBinQ.eq_1 aBinQ.eq_2 aMin.eq_1 flT.eq_1 flT.eq_2 flT.eq_3 mpT.eq_1 aMkMap.eq_1 aMkMap.eq_2 strA.eq_1 keyMK.eq_1 keyMK.eq_2 keyMK.eq_3 mkB.eq_1 mkB.eq_2 mkB.eq_3 aMp2.eq_1 aMp1.eq_1 aMp0.eq_1 aMapU.eq_1 aLk2.eq_1 aLk2.eq_2 aLk1.eq_1 aLk0.eq_1 aLookup.eq_1 aLenMO.eq_1 aLenM.eq_1 glV.eq_1 glV.eq_2 evG.eq_1 evG.eq_2 evG.eq_3 evG.eq_4 lkHitO.eq_1 lkHitO.eq_2 lkHitO.eq_3 lkHitO.eq_4 lkHit.eq_1 lkHit.eq_2 lkF.eq_1 lkF.eq_2 lkFind.eq_1 lkFind.eq_2 lkV.eq_1 lkV.eq_2 lkV.eq_3 lkV.eq_4 lkV.eq_5 AS.lkO.eq_1 AS.lkO.eq_2 AS.lkOf.eq_1 rawT.eq_1 rawT.eq_2 rawT.eq_3 rawT.eq_4 rawT.eq_5 rawT.eq_6 rawOf.eq_1 rawOf.eq_2 rawOf.eq_3 rawOf.eq_4 rawOf.eq_5 rawOf.eq_6 rawOf.eq_7 rawOf.eq_8 rawOf.eq_9 rawOf.eq_10 rawOf.eq_11 aLkR.eq_1 aLkR.eq_2 aLk.eq_1 aLk.eq_2 KL.eq_1 lkDrop.eq_1 lkDrop.eq_2 lkParO.eq_1 lkParO.eq_2 lkParO.eq_3 lkParO.eq_4 lkPar.eq_1 lkPar.eq_2 lkI.eq_1 lkI.eq_2 lkIds.eq_1 lkIds.eq_2 adLd.eq_1 run_nil run_b run_l run_skip run_label run_seq run_cond brV_b brB_t brB_f run_block run_exit run_ret run_region runX_nil runX_c runX_c' runX_b runX_b' runX_l runX_l' exB_t exB_f run_o run_op run_opg gV_b gV_t gB_tt gB_ff gB_tf gB_ft rs_eq kv KI aLenN aBS1 aApp1 aStore1 szOk gv gd s0 idOf look_cons lookC frzU_t frzU_f orT orF drop_any drop_nil drop_t drop_h drop_pb drop_pa drop_agg drop_tup drop_fn dropB kill_eq set_eq rem_eq re_eq up_eq get_eq ob_eq Ob.drop apl fpl plainTy AS.frz splice cond_true cond_false List.map_cons List.map_nil List.drop_zero List.drop_succ_cons List.drop_nil List.take_zero List.take_succ_cons List.take_nil List.getElem?_cons_zero List.getElem?_cons_succ List.getElem?_nil List.length_cons List.length_nil Option.map_some Option.map_none Option.bind_some Option.bind_none List.cons_append List.nil_append List.append_nil Option.getD_some Option.getD_none List.all_cons List.all_nil Bool.and_true Bool.true_and Bool.or_false Bool.false_or Bool.or_true Bool.true_or List.flatten_cons List.flatten_nil List.replicate_succ List.replicate_zero and_true true_and avOf_t avOf_f agg_bool agg_int agg_str agg_slice agg_struct agg_func agg_ptr agg_map avc_bool avc_int avc_str avc_fn avc1_bool avc1_int avc1_str avc1_fn zt_bool zt_int zt_str cells_nil cells_t cells_h cells_pb cells_fn snap_t snap_nil snap_h snap_pb snap_fn rv1_one rv1_two outI_t outI_oh outI_on outI_any outI_nil outZ_th outZ_tt outZ_tn outZ_o outZ_any outZ_nil outIL_nil outZL_nil finN finR ne_eq not_false_eq_true not_true_eq_false List.nodup_nil List.not_mem_nil false_implies implies_true eq_self true_or or_true Option.some.injEq shl_add shl_sub shl_mul shl_quo shl_rem shl_and shl_or shl_xor shl_andNot shl_eql shl_neq shl_lss shl_leq shl_gtr shl_geq shl_shr shl_shl appDeep_none appDeep_sn appSrc_h appSrc_nil fits_ft fits_tn fits_tf isStr_slice obFlat_box Nat.le_refl nbeq_self List.length_map updZ_s updZ_n dropM_eq purge_eq newIds_cons newIds_nil purgeT_nil purgeT_cons memN_cons memN_nil bd_d bd_c bd_g bd_p bd_t bd_o preds_nil preds_cons hasIns insB List.any_cons List.any_nil adK_eq adr_nil adG_eq kdOp noLen creates Op.operands Call.operands nsOf adT adI adJ plainB rst List.append_eq nsD_f nsD_n nsD_t nOf_0 nOf_1 nOf_2 chO_0 chO_1 chO_2 keepK_0 keepK_1 keepK_2 eqRes AS.mv fits KM aCallM notNew kdCall arK_i64 arK_i32 arK_u8 arK_u64 arT_sl isNilC_t isNilC_f isNilC_g isNilC_i isNilC_b isNilC_s isNilC_a isNilC_n andBF andBT aCallK_2 ble_dec hid_t hid_nil hid_any hid_pb hid_fn absOk_t absOk_nil absOk_pb absOk_h absOkO_1 decide_true decide_false Array.toList_append chunk_0 chunk_1 chunk_2 chunk_3 back_t back_nil back_ht backL_nil backI_t backI_nil backI_ht backIL_nil AS.mvJ nbeq_dec runR_f runR_t loadB Option.isSome_some Option.isSome_none nodup1 adr_none adr_some adO_s adV_b adV_t adB_tt adB_ff adB_tf adB_ft adS_eq lenL.eq_1 lenO.eq_1 lenO.eq_2 lenV.eq_1 lenV.eq_2 lenV.eq_3 lenV.eq_4 optN optS absT_ft
attribute [local go_sem] ty3 ty4 ty5 ty9 ty21 ty22 ty23 ty25 ty26 ty28 ty29 ty30 ty32 ty34 ty35 ty37 ty40 ty42 ty43 ty45 ty46 ty47 ty49 ty53 ty54 ty56 ty106 ty108 ty120 ty124 ty126 ty129 ty131 ty133 ty147 ty161 ty192 ty194 ty196 ty198 ty213 ty215 ty221 ty224 ty229 ty237 ty244 ty268 lv53 lv147 lv161 lv198 zb4 leS leT fits AS.mvs encStr_eq aIdx_str EStr_dec decStrs decStrs0 EStr_enc EStr_n encInt_eq aIdx_int EInt_dec decInts decInts0 EInt_enc EInt_n AllV_Int len_Int lc_enc l0_enc asl_enc ag_enc aow_enc ABool_enc AInt_enc AStr_enc AU8_enc ABool_dec AInt_dec AStr_dec AU8_dec asl_dec ag_dec aow_dec bind_some pr2.eq_1 l0_nil lc_cons unT.eq_1 K0.eq_1 M0.eq_1 KI AllV_Str len_Str ctR_eq ctM_eq ro_kd ro_ro mu_kd mu_mu encAd_eq aIdx_Ad EAd_dec decAds decAds0 EAd_enc EAd_n len_Ad Ad_eta AllV_Ad encMl_eq aIdx_Ml EMl_dec decMls decMls0 EMl_enc EMl_n len_Ml Ml_eta mkMl.eq_1 owMl_eq AMl_enc AMl_dec encRc_eq aIdx_Rc ERc_dec decRcs decRcs0 ERc_enc ERc_n len_Rc Rc_eta AllV_Rc encIm_eq aIdx_Im EIm_dec decIms decIms0 EIm_enc EIm_n len_Im Im_eta mkIm.eq_1 owIm_eq AIm_enc AIm_dec encSp_eq aIdx_Sp ESp_dec decSps decSps0 ESp_enc ESp_n len_Sp Sp_eta mkSp.eq_1 owSp_eq ASp_enc ASp_dec encWy_eq aIdx_Wy EWy_dec decWys decWys0 EWy_enc EWy_n len_Wy Wy_eta AllV_Wy encCf_eq aIdx_Cf ECf_dec decCfs decCfs0 ECf_enc ECf_n len_Cf Cf_eta mkCf.eq_1 owCf_eq ACf_enc ACf_dec encGm_eq aIdx_Gm EGm_dec decGms decGms0 EGm_enc EGm_n len_Gm Gm_eta mkGm.eq_1 owGm_eq AGm_enc AGm_dec encBx_eq aIdx_Bx EBx_dec decBxs decBxs0 EBx_enc EBx_n len_Bx Bx_eta mkBx.eq_1 owBx_eq ABx_enc ABx_dec encLs_eq aIdx_Ls ELs_dec decLss decLss0 ELs_enc ELs_n len_Ls Ls_eta AllV_Ls encHs_eq aIdx_Hs EHs_dec decHss decHss0 EHs_enc EHs_n len_Hs Hs_eta mkHs.eq_1 owHs_eq AHs_enc AHs_dec
theorem spA_byte {c x : UInt8} : ∀ {l : List UInt8}, x ∈ l → x = c ∨ ∃ w ∈ spA c l, x ∈ w
  | y :: r, h => by
    rw [spA]
    by_cases e : y = c
    · rw [if_pos e]
      rcases List.mem_cons.1 h with h | h
      · exact .inl (h.trans e)
      · rcases spA_byte h with q | ⟨w, hw, q⟩
        · exact .inl q
        · exact .inr ⟨w, by simp [hw], q⟩
    · rw [if_neg e]
      cases hs : spA c r with
      | nil => have := spA_len c r; rw [hs] at this; simp at this
      | cons a t =>
        rcases List.mem_cons.1 h with h | h
        · exact .inr ⟨y :: a, by simp, by simp [h]⟩
        · rcases spA_byte h with q | ⟨w, hw, q⟩
          · exact .inl q
          · rw [hs] at hw
            rcases List.mem_cons.1 hw with e2 | hw
            · exact .inr ⟨y :: a, by simp, by rw [e2] at q; simp [q]⟩
            · exact .inr ⟨w, by simp [hw], q⟩
theorem spA_size {c : UInt8} {B : Nat} : ∀ {l : List UInt8}, (∀ w ∈ spA c l, w.length ≤ B) → l.length + 1 ≤ (B + 1) * (spA c l).length
  | [], _ => by simp [spA]
  | y :: r, h => by
    rw [spA] at h ⊢
    by_cases e : y = c
    · rw [if_pos e] at h ⊢
      have := spA_size (c := c) (l := r) fun w hw => h w (by simp [hw])
      rw [List.length_cons, List.length_cons, Nat.mul_succ]
      omega
    · rw [if_neg e] at h ⊢
      cases hs : spA c r with
      | nil => have := spA_len c r; rw [hs] at this; simp at this
      | cons a t =>
        rw [hs] at h
        have h1 := h (y :: a) (by simp)
        have h3 : (∀ w ∈ spA c r, w.length ≤ B) ∨ True := .inr trivial
        have key : ∀ (l : List UInt8), l.length + 1 = ((spA c l).map fun w => w.length + 1).sum := fun l => by
          induction l with
          | nil => rfl
          | cons z q ih =>
            rw [spA]
            by_cases ez : z = c
            · rw [if_pos ez, List.map_cons, List.sum_cons, ← ih, List.length_cons, List.length_nil]; omega
            · rw [if_neg ez]
              cases hq : spA c q with
              | nil => have := spA_len c q; rw [hq] at this; simp at this
              | cons a' t' => rw [hq] at ih; simp only [List.map_cons, List.sum_cons, List.length_cons] at ih ⊢; omega
        have h2 := key r
        rw [hs] at h2
        have h4 : ∀ t : List (List UInt8), (∀ w ∈ t, w.length ≤ B) → (t.map fun w => w.length + 1).sum ≤ (B + 1) * t.length := fun t => by
          induction t with
          | nil => intro _; simp
          | cons w t ih =>
            intro hw
            have q1 := ih fun x hx => hw x (by simp [hx])
            have q2 := hw w (by simp)
            rw [List.map_cons, List.sum_cons, List.length_cons, Nat.mul_succ]; omega
        have h5 := h4 t fun w hw => h w (by simp [hw])
        simp only [List.map_cons, List.sum_cons, List.length_cons] at h1 h2 ⊢
        rw [Nat.mul_succ]
        omega
def LinL (l : List UInt8) : Prop := ∀ b ∈ l, 32 ≤ (b.toNat : Int) ∧ (b.toNat : Int) ≤ 126
instance (l : List UInt8) : Decidable (LinL l) := by unfold LinL; infer_instance
theorem byte_mem {s : ByteArray} {b : UInt8} (h : b ∈ bl s) : ∃ j, j < s.size ∧ byteAt s j = b.toNat := by
  obtain ⟨j, hj, e⟩ := List.getElem_of_mem h
  exact ⟨j, hj, by rw [byteAt_bl]; simp [hj, e]⟩
theorem mem_byte {s : ByteArray} {j : Nat} (h : j < s.size) : ∃ b ∈ bl s, byteAt s j = b.toNat := by
  have h' : j < (bl s).length := h
  exact ⟨(bl s)[j], List.getElem_mem h', by rw [byteAt_bl]; simp [h']⟩
theorem Lin_iff (s : ByteArray) : Lin s ↔ LinL (bl s) ∧ s.size ≤ 40 :=
  ⟨fun h => ⟨fun b hb => by
    obtain ⟨j, hj, e⟩ := byte_mem hb
    rw [← e]; exact h.1 j hj, h.2⟩, fun h => ⟨fun j hj => by
    obtain ⟨b, hb, e⟩ := mem_byte hj
    rw [e]; exact h.1 b hb, h.2⟩⟩
theorem LinL_app {a b : List UInt8} : LinL (a ++ b) ↔ LinL a ∧ LinL b :=
  ⟨fun h => ⟨fun x hx => h x (by simp [hx]), fun x hx => h x (by simp [hx])⟩, fun h x hx => (List.mem_append.1 hx).elim (h.1 x) (h.2 x)⟩
theorem Lbl_lin {s : ByteArray} (h : Lbl s) : LinL (bl s) ∧ s.size ≤ 8 := ⟨fun b hb => by
  obtain ⟨j, hj, e⟩ := byte_mem hb
  have := h.1 j hj
  rw [← e]; unfold isLc at this; omega, h.2.2⟩
theorem Dom_lin {s : ByteArray} (h : Dom s) : LinL (bl s) ∧ s.size ≤ 26 := by
  obtain ⟨h1, h2⟩ := (Dom_spl s).1 h
  have h3 : ∀ w ∈ spA 46 (bl s), Lbl (mB w) := fun w hw => h1 _ (List.mem_map_of_mem hw)
  refine ⟨fun b hb => ?_, ?_⟩
  · rcases spA_byte (c := 46) hb with e | ⟨w, hw, q⟩
    · rw [e]; decide
    · exact (Lbl_lin (h3 w hw)).1 b q
  · have h4 := spA_size (c := 46) (B := 8) (l := bl s) fun w hw => (h3 w hw).2.2
    have h5 : (spA 46 (bl s)).length ≤ 3 := by
      have : (spl s 46).length = (spA 46 (bl s)).length := List.length_map ..
      omega
    have h6 : (bl s).length = s.size := rfl
    have h7 : 9 * (spA 46 (bl s)).length ≤ 9 * 3 := Nat.mul_le_mul_left 9 h5
    omega
def hopS : ByteArray := ⟨#[72, 111, 112, 58, 32]⟩
def hopLine (n : ByteArray) : ByteArray := hopS ++ n
theorem hop_lin {n : ByteArray} (h : Dom n) : Lin (hopLine n) := by
  obtain ⟨h1, h2⟩ := Dom_lin h
  rw [Lin_iff]
  have e : bl (hopLine n) = [72, 111, 112, 58, 32] ++ bl n := bl_app _ _
  refine ⟨?_, ?_⟩
  · rw [e, LinL_app]
    exact ⟨by decide, h1⟩
  · have : (hopLine n).size = 5 + n.size := by rw [← bl_len, e, List.length_append, bl_len]; rfl
    omega
noncomputable def putA (a : Ad) : ByteArray := bif bOf (AdNull a) then ⟨#[60, 62]⟩ else ⟨#[60]⟩ ++ a.user ++ ⟨#[64]⟩ ++ a.domain ++ ⟨#[62]⟩
theorem putA_y {a : Ad} (h : AdNull a) : putA a = ⟨#[60, 62]⟩ := by unfold putA; rw [bOf_y h]; rfl
theorem putA_n {a : Ad} (h : ¬ AdNull a) : putA a = ⟨#[60]⟩ ++ a.user ++ ⟨#[64]⟩ ++ a.domain ++ ⟨#[62]⟩ := by unfold putA; rw [bOf_n h]; rfl
theorem putA_bl {a : Ad} (h : ¬ AdNull a) : bl (putA a) = [60] ++ bl a.user ++ [64] ++ bl a.domain ++ [62] := by
  rw [putA_n h]
  simp only [bl_app]
  rfl
theorem AdOk_nn {a : Ad} (h : AdOk a) : ¬ AdNull a := fun q => by
  have := h.1.2.1
  rw [q.1] at this
  exact absurd this (by decide)
theorem putA_lin {a : Ad} (h : AdOk a ∨ AdNull a) : Lin (putA a) := by
  by_cases hn : AdNull a
  · rw [putA_y hn, Lin_iff]
    exact ⟨by decide, by decide⟩
  · have ha := h.resolve_right hn
    obtain ⟨u1, u2⟩ := Lbl_lin ha.1
    obtain ⟨d1, d2⟩ := Dom_lin ha.2
    rw [Lin_iff, putA_bl hn]
    refine ⟨by simp only [LinL_app]; exact ⟨⟨⟨⟨by decide, u1⟩, by decide⟩, d1⟩, by decide⟩, ?_⟩
    have : (putA a).size = 3 + a.user.size + a.domain.size := by
      rw [← bl_len, putA_bl hn]
      simp only [List.length_append, List.length_cons, List.length_nil, bl_len]; omega
    omega
def hopMl (n : ByteArray) (m : Ml) : Ml := ⟨m.frm, m.to, hopLine n :: m.body⟩
def tkHs (h : Hs) (m : Ml) (w : Int) : Hs := ⟨h.conf, adSp h.spool (hopMl h.conf.name m) w, h.boxes, h.lost⟩
def noHs : Hs := ⟨⟨⟨#[]⟩, [], []⟩, ⟨0, []⟩, [], []⟩
section
variable {h : Hs} {m : Ml} {w : Int}
theorem hop_ok (q : Dom h.conf.name) (hm : MlOk m) (hl : m.body.length < 12) : MlOk (hopMl h.conf.name m) :=
  ⟨hm.1, hm.2.1, hm.2.2.1, hm.2.2.2.1, ⟨fun s hs => (List.mem_cons.1 hs).elim (fun e => by rw [e]; exact hop_lin q) (hm.2.2.2.2.1 s), by show (hopLine h.conf.name :: m.body).length ≤ 12; simp; omega⟩⟩
end
def roHB (p : Hs × Bool) : AV := .tup [.agg ((encHs p.1).map .t), .t (.v (.bool p.2))]
def owHB (p : Hs × Bool) : AV := .tup [owHs p.1, .t (.v (.bool p.2))]
theorem owHB_solid (p : Hs × Bool) : Solid (owHB p) := .tup _ fun c hc => by
  simp only [List.mem_cons, List.not_mem_nil, or_false] at hc
  rcases hc with rfl | rfl
  · exact owHs_solid _
  · exact .v _
theorem ixP_sat {α : Type} [Inhabited α] {p : α → Prop} : ∀ (xs : List α) (k : Nat), 0 ≤ ixP p k xs → p (xs.getD ((ixP p k xs).toNat - k) default)
  | [], k, h => absurd h (by rw [ixP]; omega)
  | x :: t, k, h => by
    rw [ixP] at h ⊢
    by_cases hx : p x
    · rw [bOf_y hx, cond_true, Int.toNat_natCast, Nat.sub_self]
      exact hx
    · rw [bOf_n hx, cond_false] at h ⊢
      have h1 := ixP_sat t (k + 1) h
      have h2 : (ixP p (k + 1) t).toNat - k = ((ixP p (k + 1) t).toNat - (k + 1)) + 1 := by
        rcases ixP_range p t (k + 1) with q | q <;> omega
      rw [h2]
      exact h1
theorem asc_pair {xs : List Im} : Asc xs ↔ (xs.map Im.id).Pairwise (· < ·) := by
  rw [List.pairwise_iff_getElem]
  constructor
  · intro h i j hi hj hij
    rw [List.length_map] at hi hj
    simp only [List.getElem_map]
    induction j with
    | zero => omega
    | succ j ih =>
      have h1 := h (j + 1) (by omega) hj
      simp only [Nat.add_sub_cancel, List.getD_eq_getElem?_getD, List.getElem?_eq_getElem hj, List.getElem?_eq_getElem (show j < xs.length by omega), Option.getD_some] at h1
      by_cases e : i = j
      · subst e; exact h1
      · have := ih (by omega) (by omega)
        omega
  · intro h j h0 hj
    have := h (j - 1) j (by rw [List.length_map]; omega) (by rw [List.length_map]; exact hj) (by omega)
    simp only [List.getElem_map] at this
    simp only [List.getD_eq_getElem?_getD, List.getElem?_eq_getElem hj, List.getElem?_eq_getElem (show j - 1 < xs.length by omega), Option.getD_some]
    exact this
theorem cut_sub {α : Type} (xs : List α) (i : Nat) : List.Sublist (xs.take i ++ xs.drop (i + 1)) xs := by
  have h : List.Sublist (xs.take i ++ xs.drop (i + 1)) (xs.take i ++ xs.drop i) := List.Sublist.append (List.Sublist.refl _) (by
    rw [← List.drop_drop]; exact List.drop_sublist 1 _)
  rwa [List.take_append_drop] at h
theorem cut_eq {α : Type} [Inhabited α] {xs : List α} {i : Nat} (h : i < xs.length) : xs = xs.take i ++ xs.getD i default :: xs.drop (i + 1) := by
  rw [← getD_drop h, List.take_append_drop]
theorem dnIm_ok {x : Im} {k : Nat} (h : ImOk x) (hk : k < x.to.length) (h2 : ¬ (dnIm x k).to = []) : ImOk (dnIm x k) := by
  have hs := cut_sub x.to k
  refine ⟨fun r hr => h.1 r (hs.subset hr), (hs.map Rc.addr).nodup h.2.1, h.2.2.1, h.2.2.2.1, ⟨?_, Nat.le_trans hs.length_le h.2.2.2.2.1.2⟩, h.2.2.2.2.2⟩
  exact Nat.pos_of_ne_zero fun e => h2 (List.eq_nil_of_length_eq_zero e)
theorem dnSp_SpOk {s : Sp} {i k : Nat} (h : SpOk s) (hi : i < s.items.length) (hk : k < (s.items.getD i default).to.length) : SpOk (dnSp s i k) := by
  have hx := h.1 _ (getD_mem hi)
  have hs := cut_sub s.items i
  have ha := asc_pair.1 h.2.1
  have hq := cut_eq hi
  show (∀ x ∈ dnL s.items i k, ImOk x ∧ x.id ≤ s.last) ∧ Asc (dnL s.items i k) ∧ (0 ≤ s.last ∧ s.last ≤ 999) ∧ (dnL s.items i k).length ≤ 10
  unfold dnL
  split
  · exact ⟨fun x hx => h.1 x (hs.subset hx), asc_pair.2 (ha.sublist (hs.map Im.id)), h.2.2.1, Nat.le_trans hs.length_le h.2.2.2⟩
  · rename_i hne
    refine ⟨fun x hm => ?_, asc_pair.2 ?_, h.2.2.1, ?_⟩
    · rcases List.mem_append.1 hm with hm | hm
      · exact h.1 x (List.mem_of_mem_take hm)
      · rcases List.mem_cons.1 hm with e | hm
        · rw [e]; exact ⟨dnIm_ok hx.1 hk hne, hx.2⟩
        · exact h.1 x (List.mem_of_mem_drop hm)
    · have e : (s.items.take i ++ dnIm (s.items.getD i default) k :: s.items.drop (i + 1)).map Im.id = s.items.map Im.id := by
        conv => rhs; rw [hq]
        simp only [List.map_append, List.map_cons]
        rfl
      rw [e]; exact ha
    · have e : (s.items.take i ++ dnIm (s.items.getD i default) k :: s.items.drop (i + 1)).length = s.items.length := by
        conv => rhs; rw [hq]
        simp only [List.length_append, List.length_cons]
      rw [e]; exact h.2.2.2
theorem gd_rc (l : List Rc) (k : Nat) (h : k < l.length) : l.getD k default = l[k] := by simp [h]
theorem ltSp_SpOk {s : Sp} {i k : Nat} {w : Int} (h : SpOk s) (hi : i < s.items.length) (hk : k < (s.items.getD i default).to.length) (hn : ¬ ltNo ((s.items.getD i default).to.getD k default) w) (hw : 0 ≤ w) : SpOk (ltSp s i k w) := by
  have hx := h.1 _ (getD_mem hi)
  have hr := hx.1.1 _ (getD_mem hk)
  have hn1 : ((s.items.getD i default).to.getD k default).tries + 1 < 4 := by unfold ltNo at hn; omega
  have hn2 : w + pau (((s.items.getD i default).to.getD k default).tries + 1) ≤ 9999 := by unfold ltNo at hn; omega
  have hp := (pau_le (t := ((s.items.getD i default).to.getD k default).tries + 1) (m := 3) (by omega)).1
  have hrc : RcOk (ltRc ((s.items.getD i default).to.getD k default) w) := ⟨hr.1, ⟨by have := hr.2.1.1; show 0 ≤ _ + 1; omega, by show _ + 1 ≤ 3; omega⟩, ⟨by show 0 ≤ w + _; omega, hn2⟩⟩
  have hadr : ((s.items.getD i default).to.set k (ltRc ((s.items.getD i default).to.getD k default) w)).map Rc.addr = (s.items.getD i default).to.map Rc.addr := by
    rw [List.map_set]
    have : (ltRc ((s.items.getD i default).to.getD k default) w).addr = ((s.items.getD i default).to.map Rc.addr)[k]'(by rw [List.length_map]; exact hk) := by
      rw [List.getElem_map]
      show ((s.items.getD i default).to.getD k default).addr = _
      rw [gd_rc _ _ hk]
    rw [this, List.set_getElem_self]
  have hx2 : ImOk (ltIm (s.items.getD i default) k w) := by
    refine ⟨fun r hm => ?_, ?_, hx.1.2.2.1, hx.1.2.2.2.1, ?_, hx.1.2.2.2.2.2⟩
    · rcases List.mem_or_eq_of_mem_set hm with hm | rfl
      · exact hx.1.1 r hm
      · exact hrc
    · show (((s.items.getD i default).to.set k _).map Rc.addr).Nodup
      rw [hadr]; exact hx.1.2.1
    · show 1 ≤ ((s.items.getD i default).to.set k _).length ∧ ((s.items.getD i default).to.set k _).length ≤ 4
      rw [List.length_set]; exact hx.1.2.2.2.2.1
  refine ⟨fun x hm => ?_, asc_pair.2 ?_, h.2.2.1, by show (s.items.set i _).length ≤ 10; rw [List.length_set]; exact h.2.2.2⟩
  · rcases List.mem_or_eq_of_mem_set hm with hm | rfl
    · exact h.1 x hm
    · exact ⟨hx2, hx.2⟩
  · have e : (s.items.set i (ltIm (s.items.getD i default) k w)).map Im.id = s.items.map Im.id := by
      rw [List.map_set]
      have : (ltIm (s.items.getD i default) k w).id = (s.items.map Im.id)[i]'(by rw [List.length_map]; exact hi) := by
        simp [ltIm, hi]
      rw [this, List.set_getElem_self]
    show ((s.items.set i _).map Im.id).Pairwise (· < ·)
    rw [e]; exact asc_pair.1 h.2.1
theorem adSp_SpOk {s : Sp} {m : Ml} {w : Int} (h : SpOk s) (hm : MlOk m) (hw : 0 ≤ w ∧ w ≤ 9999) (hr : Room s) : SpOk (adSp s m w) := by
  have hx : ImOk (adIm s m w) := by
    refine ⟨fun r hr => ?_, ?_, ?_, hm.2.2.1, ?_, hm.2.2.2.2⟩
    · obtain ⟨a, ha, rfl⟩ := List.mem_map.1 hr
      exact ⟨hm.1 a ha, by show 0 ≤ (0 : Int) ∧ (0 : Int) ≤ 3; decide, hw⟩
    · show ((m.to.map (adRc w)).map Rc.addr).Nodup
      have e : (m.to.map (adRc w)).map Rc.addr = m.to := by
        rw [List.map_map]; exact List.map_id'' (fun _ => rfl) _
      rw [e]; exact hm.2.1
    · have := h.2.2.1.1
      show 0 < s.last + 1; omega
    · show 1 ≤ (m.to.map (adRc w)).length ∧ (m.to.map (adRc w)).length ≤ 4
      rw [List.length_map]; exact hm.2.2.2.1
  have h1 := hr.1; have h2 := hr.2
  refine ⟨fun x hm => ?_, asc_pair.2 ?_, ?_, ?_⟩
  · rcases List.mem_append.1 hm with hm | hm
    · have := h.1 x hm
      exact ⟨this.1, by have := this.2; show x.id ≤ s.last + 1; omega⟩
    · rw [List.mem_singleton.1 hm]
      exact ⟨hx, Int.le_refl _⟩
  · show ((s.items ++ [adIm s m w]).map Im.id).Pairwise (· < ·)
    rw [List.map_append, List.pairwise_append]
    refine ⟨asc_pair.1 h.2.1, by simp, fun a ha b hb => ?_⟩
    obtain ⟨x, hx, rfl⟩ := List.mem_map.1 ha
    rw [List.map_cons, List.map_nil, List.mem_singleton] at hb
    rw [hb]
    have := (h.1 x hx).2
    show x.id < s.last + 1; omega
  · have := h.2.2.1.1
    show 0 ≤ s.last + 1 ∧ s.last + 1 ≤ 999; omega
  · show (s.items ++ [adIm s m w]).length ≤ 10
    rw [List.length_append]; simp; omega
theorem mkOf_mem : ∀ xs : List ByteArray, mkOf xs = ⟨#[]⟩ ∨ mkOf xs ∈ xs
  | [] => .inl rfl
  | x :: r => by
    rw [mkOf]
    cases bOf (MkLine x)
    · rw [cond_false]
      rcases mkOf_mem r with h | h
      · exact .inl h
      · exact .inr (by simp [h])
    · exact .inr (by simp)
def ndS : ByteArray := ⟨#[110, 111, 116, 32, 100, 101, 108, 105, 118, 101, 114, 101, 100, 58]⟩
noncomputable def bounceMl (x : Im) (a : Ad) : Ml := ⟨⟨⟨#[]⟩, ⟨#[]⟩⟩, [x.frm], ndS :: putA a :: (if mkOf x.body = ⟨#[]⟩ then [] else [mkOf x.body])⟩
theorem bounce_ok {x : Im} {a : Ad} (h : ImOk x) (ha : AdOk a) (hn : ¬ AdNull x.frm) : MlOk (bounceMl x a) := by
  refine ⟨fun b hb => ?_, by show [x.frm].Nodup; simp, .inr ⟨rfl, rfl⟩, by show 1 ≤ 1 ∧ 1 ≤ 4; decide, fun s hs => ?_, ?_⟩
  · rw [List.mem_singleton.1 hb]; exact h.2.2.2.1.resolve_right hn
  · rcases List.mem_cons.1 hs with e | hs
    · rw [e, Lin_iff]; exact ⟨by decide, by decide⟩
    · rcases List.mem_cons.1 hs with e | hs
      · rw [e]; exact putA_lin (.inl ha)
      · split at hs
        · cases hs
        · rename_i q
          rw [List.mem_singleton.1 hs]
          exact h.2.2.2.2.2.1 _ ((mkOf_mem x.body).resolve_left q)
  · show (ndS :: putA a :: _).length ≤ 12
    split <;> simp
open Classical in
noncomputable def giveHs (h : Hs) (x : Im) (a : Ad) (i k : Nat) (w : Int) : Hs :=
  if AdNull x.frm ∨ ¬ Room (dnSp h.spool i k) then ⟨h.conf, dnSp h.spool i k, h.boxes, h.lost ++ [⟨mkOf x.body, a⟩]⟩ else ⟨h.conf, adSp (dnSp h.spool i k) (bounceMl x a) w, h.boxes, h.lost⟩
def OutOk (h : Hs) (n : Int) (a : Ad) (out w : Int) : Prop := ¬ atIm h.spool n < 0 ∧ ¬ atRc (theIm h.spool n) a < 0 ∧ (2 ≤ out ∧ out ≤ 4) ∧ (0 ≤ w ∧ w ≤ 9999)
noncomputable def outHs (h : Hs) (i k : Nat) (a : Ad) (out w : Int) : Hs :=
  if out = 2 then ⟨h.conf, dnSp h.spool i k, h.boxes, h.lost⟩
  else if out = 3 ∧ ¬ ltNo ((h.spool.items.getD i default).to.getD k default) w then ⟨h.conf, ltSp h.spool i k w, h.boxes, h.lost⟩
  else giveHs h (h.spool.items.getD i default) a i k w
open Classical in
noncomputable def HOut (h : Hs) (n : Int) (a : Ad) (out w : Int) : Hs × Bool :=
  if HsOk h then (if OutOk h n a out w then (outHs h (atIm h.spool n).toNat (atRc (theIm h.spool n) a).toNat a out w, true) else (h, false)) else (noHs, false)
section
variable {h : Hs} {x : Im} {n : Int} {a : Ad} {out w : Int} {i k : Nat}
theorem give_l (q : AdNull x.frm ∨ ¬ Room (dnSp h.spool i k)) : giveHs h x a i k w = ⟨h.conf, dnSp h.spool i k, h.boxes, h.lost ++ [⟨mkOf x.body, a⟩]⟩ := if_pos q
theorem give_b (q : ¬ (AdNull x.frm ∨ ¬ Room (dnSp h.spool i k))) : giveHs h x a i k w = ⟨h.conf, adSp (dnSp h.spool i k) (bounceMl x a) w, h.boxes, h.lost⟩ := if_neg q
theorem HOut_no (q : ¬ HsOk h) : HOut h n a out w = (noHs, false) := if_neg q
theorem HOut_n (q : HsOk h) (z : ¬ OutOk h n a out w) : HOut h n a out w = (h, false) := by unfold HOut; rw [if_pos q, if_neg z]
theorem HOut_y (q : HsOk h) (z : OutOk h n a out w) : HOut h n a out w = (outHs h (atIm h.spool n).toNat (atRc (theIm h.spool n) a).toNat a out w, true) := by unfold HOut; rw [if_pos q, if_pos z]
theorem atRc_addr {x : Im} {a : Ad} (q : ¬ atRc x a < 0) : (x.to.getD (atRc x a).toNat default).addr = a := by
  have h1 := ixP_sat (p := fun r : Rc => r.addr = a) x.to 0 (by unfold atRc at q; omega)
  exact h1
theorem atIm_id {s : Sp} {n : Int} (q : ¬ atIm s n < 0) : (theIm s n).id = n := by
  have h1 := ixP_sat (p := fun x : Im => x.id = n) s.items 0 (by unfold atIm at q; omega)
  exact h1
end
end Go.V
namespace Go.V
open Go Go.Proofs
set_option maxRecDepth 100000
set_option linter.unusedSimpArgs false
set_option linter.unusedVariables false
attribute [local go_sem_proc] Nat.reduceAdd Nat.reduceMul Nat.reduceLeDiff Nat.reduceEqDiff reduceCtorEq Nat.reduceSub Int.reduceNeg Nat.reduceMod Nat.reduceBEq Nat.reduceLT
attribute [local go_sem] aPickB.eq_1 aPickB.eq_2 aPick.eq_1 aBox.eq_1 aBox.eq_2 aAlloc.eq_1 aAlloc.eq_2 aLoadB.eq_1 aLoadB.eq_2 aLoadB.eq_3 aLoadB.eq_4 aLoadB.eq_5 aLoadA.eq_1 aLoadA.eq_2 aLoadA.eq_3 aLoadA.eq_4 aLoadA.eq_5 aLoadP.eq_1 aLoadP.eq_2 aLoadP.eq_3 aLoad.eq_1 aLoad.eq_2 aFAx.eq_1 aFAx.eq_2 aFAx.eq_3 aFA.eq_1 aFA.eq_2 aFx.eq_1 aF.eq_1 aF.eq_2 fld.eq_1 elT.eq_1 aIdxH.eq_1 aIdxH.eq_2 aIdxH.eq_3 aIdxH.eq_4 aIdxH.eq_5 aIdxP.eq_1 aIdxP.eq_2 aIndexAddr.eq_1 aIndexAddr.eq_2 aIndexAddr.eq_3 isStr.eq_1 aIndex.eq_1 aSlStr.eq_1 aSlRo.eq_1 aSlZ.eq_1 aSlZ.eq_2 aSlice.eq_1 aSlice.eq_2 aSlice.eq_3 bnd.eq_1 bnd.eq_2 aBuildO.eq_1 aBuildO.eq_2 aBuild.eq_1 aNewArr.eq_1 aNewArr.eq_2 aBS.eq_1 aBS.eq_2 aBuildSlice.eq_1 aBuildSlice.eq_2 aMakeSlice.eq_1 appDeep.eq_1 aApp2.eq_1 aAppend.eq_1 aAppend.eq_2 aStoreB.eq_1 aStoreA.eq_1 obFlat.eq_1 aStore2.eq_1 aStore2.eq_2 aStoreP.eq_1 aStoreP.eq_2 aStore.eq_1 aStore.eq_2 isShl.eq_1 isShl.eq_2 isBool.eq_1 aBinI.eq_1 aBinI.eq_2 aBinB.eq_1 aBinB.eq_2 aEq.eq_1 aEq.eq_2 aEq.eq_3 aEq.eq_4 aEqG.eq_1 aEqG.eq_2 aBin.eq_1 aBin.eq_2 aBin.eq_3 aBin.eq_4 aUn.eq_1 aUn.eq_2 aLenO.eq_1 aLenS.eq_1 aLenS.eq_2 aLenS.eq_3 aLenT.eq_1 aLen.eq_1 aLen.eq_2 aLen.eq_3 bytesOb.eq_1 bytesOb.eq_2 bytesOf.eq_1 bytesOf.eq_2 aNums.eq_1 aNums.eq_2 isU8.eq_1 aCvI.eq_1 aCvS.eq_1 aCvB.eq_1 aCvB.eq_2 aCvT.eq_1 aConv.eq_1 aConv.eq_2 aConv.eq_3 aConv.eq_4 aExO.eq_1 aExO.eq_2 aExtract.eq_1 aNil.eq_1 aNil.eq_2 aNil.eq_3 aCallS.eq_1 aCallS.eq_2 aCallR.eq_1 aCallR.eq_2 aCallK.eq_1 aCallK.eq_2 aCallK.eq_3 aCall.eq_1 aCall.eq_2 takeO.eq_1 AS.takeV.eq_1 AS.takeV.eq_2 AS.takeV.eq_3 AS.takeV.eq_4 AS.takeV.eq_5 AS.takeV.eq_6 AS.takeV.eq_7 AV.oldM.eq_1 AV.oldM.eq_2 AV.oldM.eq_3 AV.oldM.eq_4 AV.oldM.eq_5 AV.oldM.eq_6 AV.oldM.eq_7 AV.oldM.eq_8 AV.oldM.eq_9 AV.oldM.eq_10 AV.oldM.eq_11 AV.oldML.eq_1 AV.oldML.eq_2 subL.eq_1 subL.eq_2 back.eq_1 back.eq_2 back.eq_3 back.eq_4 backL.eq_1 backI.eq_1 backI.eq_2 backI.eq_3 backI.eq_4 backIL.eq_1 aBuiltin.eq_1 aBuiltin.eq_2 aBuiltin.eq_3 aCallee.eq_1 aCallee.eq_2 aCallee.eq_3 abin.eq_1 abin.eq_2 abin.eq_3 abin.eq_4 abin.eq_5 abin.eq_6 abin.eq_7 abin.eq_8 abin.eq_9 abin.eq_10 abin.eq_11 abin.eq_12 abin.eq_13 abin.eq_14 abin.eq_15 abin.eq_17 abin.eq_18 abin.eq_19 abin.eq_20 abin.eq_21 abin.eq_22 abin.eq_23 AS.ev.eq_1 AS.ev.eq_2 AS.ev.eq_3 AS.ev.eq_4 AS.evs.eq_1 AS.evs.eq_2 AS.evp.eq_1 AS.evp.eq_2 AS.put.eq_1 AS.put.eq_2 AS.remL.eq_1 AS.remL.eq_2 AV.has.eq_1 AV.has.eq_2 AV.has.eq_3 AV.has.eq_4 AV.has.eq_5 AV.has.eq_6 AV.has.eq_7 AV.has.eq_8 AV.has.eq_9 AV.has.eq_10 AV.has.eq_11 AV.hasL.eq_1 AV.hasL.eq_2 Ob.drop.eq_1 Ob.drop.eq_2 Ob.drop.eq_3 Ob.drop.eq_4 AV.cells.eq_1 AV.cells.eq_2 AV.cells.eq_3 AV.cells.eq_4 AV.cells.eq_5 AS.snapT.eq_1 AS.snapT.eq_2 AS.snapT.eq_3 AS.snapT.eq_4 AS.snapT.eq_5 AS.snapT.eq_6 AS.snapT.eq_7 AS.snap.eq_1 AS.snap.eq_2 mapO.eq_1 mapO.eq_2 intern.eq_1 intern.eq_2 intern.eq_3 intern.eq_4 intern.eq_5 intern.eq_6 intern.eq_7 intern.eq_8 intern.eq_9 intern.eq_10 intern.eq_11 internL.eq_1 internL.eq_2 zipSl.eq_1 zipSl.eq_2 AV.ids.eq_1 AV.ids.eq_2 AV.ids.eq_3 AV.ids.eq_4 AV.ids.eq_5 AV.ids.eq_6 AV.ids.eq_7 AV.ids.eq_8 AV.ids.eq_9 AV.ids.eq_10 AV.ids.eq_11 AV.idsL.eq_1 AV.idsL.eq_2 AV.sub.eq_1 AV.sub.eq_2 AV.sub.eq_3 AV.sub.eq_4 AV.sub.eq_5 AV.sub.eq_6 AV.sub.eq_7 AV.sub.eq_8 AV.sub.eq_9 AV.sub.eq_10 AV.sub.eq_11 AV.subL.eq_1 AV.subL.eq_2 AS.frzL.eq_1 AS.frzL.eq_2 AS.absT.eq_1 AS.absT.eq_2 AS.absT.eq_4 AS.absL.eq_1 AS.absL.eq_2 AS.absOk.eq_1 AS.absOkL.eq_1 AS.absOkL.eq_2 hid.eq_1 hids.eq_1 hids.eq_2 AS.appBase.eq_1 AS.appBase.eq_2 AS.appSrc.eq_1 appFits.eq_1 appFits.eq_2 appFits.eq_3 avFill.eq_1 avFill.eq_2 avc.eq_1 avc.eq_2 avc1.eq_1 Kd.agg.eq_1 Kd.agg.eq_2 okR.eq_1 okR.eq_2 okR.eq_3 okR.eq_4 okR.eq_5 okR.eq_6 okR.eq_7 okR.eq_8 zt.eq_1 rvB.eq_1 rvP.eq_1 rvA.eq_1 rvA.eq_2 rv1.eq_1 outTO.eq_1 outT.eq_1 outT.eq_2 outT.eq_3 outTn.eq_1 outOO.eq_1 outO.eq_1 outO.eq_2 boxOf.eq_1 outP.eq_1 outP.eq_2 outP.eq_3 outP.eq_4 outP.eq_5 outP.eq_6 outP.eq_7 outP.eq_8 outPL.eq_1 outPL.eq_2 outI.eq_1 outI.eq_2 outI.eq_3 outI.eq_4 outI.eq_5 outIL.eq_1 outZ.eq_1 outZ.eq_2 outZ.eq_3 outZ.eq_4 outZ.eq_5 outZL.eq_1 finO.eq_1 finO.eq_2 fin.eq_1 fin.eq_2 fin.eq_3 cellAV.eq_1 cellAV.eq_2 numsOf.eq_1 numsOf.eq_2 aop.eq_1 aop.eq_2 aop.eq_3 aop.eq_4 aop.eq_5 aop.eq_6 aop.eq_7 aop.eq_8 aop.eq_9 aop.eq_10 aop.eq_11 aop.eq_12 aop.eq_13 aop.eq_14 aop.eq_15 aop.eq_16 aop.eq_17 aop.eq_18 aop.eq_19 aop.eq_20 aop.eq_21 aop.eq_22 aop.eq_23 aop.eq_24 aop.eq_25 aop.eq_26 tmpsOf.eq_1 tmpsOf.eq_2 tmpsOf.eq_3 tmpsOf.eq_4 tmpsOf.eq_5 AV.refs.eq_1 AV.refs.eq_2 AV.refs.eq_3 AV.refs.eq_4 AV.refs.eq_5 AV.refs.eq_6 AV.refs.eq_7 AV.refs.eq_8 AV.refs.eq_9 AV.refs.eq_10 AV.refs.eq_11 AV.refsL.eq_1 AV.refsL.eq_2 refsT.eq_1 refsT.eq_2 refsO.eq_1 refsO.eq_2 refsO.eq_3 refsO.eq_4 refsO.eq_5 refsO.eq_6 refsB.eq_1 refsB.eq_2 clos.eq_1 clos.eq_2 keepL.eq_1 keepL.eq_2 AV.hasM.eq_1 AV.hasM.eq_2 AV.hasM.eq_3 AV.hasM.eq_4 AV.hasM.eq_5 AV.hasM.eq_6 AV.hasM.eq_7 AV.hasM.eq_8 AV.hasM.eq_9 AV.hasM.eq_10 AV.hasM.eq_11 AV.hasML.eq_1 AV.hasML.eq_2 Ob.dropM.eq_1 Ob.dropM.eq_2 Ob.dropM.eq_3 Ob.dropM.eq_4 nsC.eq_1 nsC.eq_2 okGuard.eq_1 okGuard.eq_2 AS.purges.eq_1 AS.purges.eq_2 dropMB.eq_1 dropMB.eq_2 newB.eq_1 newB.eq_2 ptB.eq_1 ptB.eq_2 lookC.eq_1 lookC.eq_2 dropB.eq_1 dropB.eq_2 leS.eq_1 leS.eq_2 leT.eq_1 leT.eq_2 AS.mvs.eq_1 AS.mvs.eq_2 AS.mvA.eq_1 AS.mvA.eq_2 AS.mvB.eq_1 aSetO.eq_1 aSetO.eq_2 aSh.eq_1 aSh.eq_2 arK.eq_1 aIdxA.eq_1 aIdxA.eq_2 arT.eq_1 aSlHB.eq_1 aSlHB.eq_2 aSlHO.eq_1 aSlHZ.eq_1 aSlHZ.eq_2 isSlT.eq_1 isNilC.eq_1 aNilO.eq_1 aNilX.eq_1 aNilX.eq_2 aNilX.eq_3 aNilC.eq_1 aNilC.eq_2 aBinQ.eq_1 aBinQ.eq_2 aMin.eq_1 flT.eq_1 flT.eq_2 flT.eq_3 mpT.eq_1 aMkMap.eq_1 aMkMap.eq_2 strA.eq_1 keyMK.eq_1 keyMK.eq_2 keyMK.eq_3 mkB.eq_1 mkB.eq_2 mkB.eq_3 aMp2.eq_1 aMp1.eq_1 aMp0.eq_1 aMapU.eq_1 aLk2.eq_1 aLk2.eq_2 aLk1.eq_1 aLk0.eq_1 aLookup.eq_1 aLenMO.eq_1 aLenM.eq_1 glV.eq_1 glV.eq_2 evG.eq_1 evG.eq_2 evG.eq_3 evG.eq_4 lkHitO.eq_1 lkHitO.eq_2 lkHitO.eq_3 lkHitO.eq_4 lkHit.eq_1 lkHit.eq_2 lkF.eq_1 lkF.eq_2 lkFind.eq_1 lkFind.eq_2 lkV.eq_1 lkV.eq_2 lkV.eq_3 lkV.eq_4 lkV.eq_5 AS.lkO.eq_1 AS.lkO.eq_2 AS.lkOf.eq_1 rawT.eq_1 rawT.eq_2 rawT.eq_3 rawT.eq_4 rawT.eq_5 rawT.eq_6 rawOf.eq_1 rawOf.eq_2 rawOf.eq_3 rawOf.eq_4 rawOf.eq_5 rawOf.eq_6 rawOf.eq_7 rawOf.eq_8 rawOf.eq_9 rawOf.eq_10 rawOf.eq_11 aLkR.eq_1 aLkR.eq_2 aLk.eq_1 aLk.eq_2 KL.eq_1 lkDrop.eq_1 lkDrop.eq_2 lkParO.eq_1 lkParO.eq_2 lkParO.eq_3 lkParO.eq_4 lkPar.eq_1 lkPar.eq_2 lkI.eq_1 lkI.eq_2 lkIds.eq_1 lkIds.eq_2 adLd.eq_1 run_nil run_b run_l run_skip run_label run_seq run_cond brV_b brB_t brB_f run_block run_exit run_ret run_region runX_nil runX_c runX_c' runX_b runX_b' runX_l runX_l' exB_t exB_f run_o run_op run_opg gV_b gV_t gB_tt gB_ff gB_tf gB_ft rs_eq kv KI aLenN aBS1 aApp1 aStore1 szOk gv gd s0 idOf look_cons lookC frzU_t frzU_f orT orF drop_any drop_nil drop_t drop_h drop_pb drop_pa drop_agg drop_tup drop_fn dropB kill_eq set_eq rem_eq re_eq up_eq get_eq ob_eq Ob.drop apl fpl plainTy AS.frz splice cond_true cond_false List.map_cons List.map_nil List.drop_zero List.drop_succ_cons List.drop_nil List.take_zero List.take_succ_cons List.take_nil List.getElem?_cons_zero List.getElem?_cons_succ List.getElem?_nil List.length_cons List.length_nil Option.map_some Option.map_none Option.bind_some Option.bind_none List.cons_append List.nil_append List.append_nil Option.getD_some Option.getD_none List.all_cons List.all_nil Bool.and_true Bool.true_and Bool.or_false Bool.false_or Bool.or_true Bool.true_or List.flatten_cons List.flatten_nil List.replicate_succ List.replicate_zero and_true true_and avOf_t avOf_f agg_bool agg_int agg_str agg_slice agg_struct agg_func agg_ptr agg_map avc_bool avc_int avc_str avc_fn avc1_bool avc1_int avc1_str avc1_fn zt_bool zt_int zt_str cells_nil cells_t cells_h cells_pb cells_fn snap_t snap_nil snap_h snap_pb snap_fn rv1_one rv1_two outI_t outI_oh outI_on outI_any outI_nil outZ_th outZ_tt outZ_tn outZ_o outZ_any outZ_nil outIL_nil outZL_nil finN finR ne_eq not_false_eq_true not_true_eq_false List.nodup_nil List.not_mem_nil false_implies implies_true eq_self true_or or_true Option.some.injEq shl_add shl_sub shl_mul shl_quo shl_rem shl_and shl_or shl_xor shl_andNot shl_eql shl_neq shl_lss shl_leq shl_gtr shl_geq shl_shr shl_shl appDeep_none appDeep_sn appSrc_h appSrc_nil fits_ft fits_tn fits_tf isStr_slice obFlat_box Nat.le_refl nbeq_self List.length_map updZ_s updZ_n dropM_eq purge_eq newIds_cons newIds_nil purgeT_nil purgeT_cons memN_cons memN_nil bd_d bd_c bd_g bd_p bd_t bd_o preds_nil preds_cons hasIns insB List.any_cons List.any_nil adK_eq adr_nil adG_eq kdOp noLen creates Op.operands Call.operands nsOf adT adI adJ plainB rst List.append_eq nsD_f nsD_n nsD_t nOf_0 nOf_1 nOf_2 chO_0 chO_1 chO_2 keepK_0 keepK_1 keepK_2 eqRes AS.mv fits KM aCallM notNew kdCall arK_i64 arK_i32 arK_u8 arK_u64 arT_sl isNilC_t isNilC_f isNilC_g isNilC_i isNilC_b isNilC_s isNilC_a isNilC_n andBF andBT aCallK_2 ble_dec hid_t hid_nil hid_any hid_pb hid_fn absOk_t absOk_nil absOk_pb absOk_h absOkO_1 decide_true decide_false Array.toList_append chunk_0 chunk_1 chunk_2 chunk_3 back_t back_nil back_ht backL_nil backI_t backI_nil backI_ht backIL_nil AS.mvJ nbeq_dec runR_f runR_t loadB Option.isSome_some Option.isSome_none nodup1 adr_none adr_some adO_s adV_b adV_t adB_tt adB_ff adB_tf adB_ft adS_eq lenL.eq_1 lenO.eq_1 lenO.eq_2 lenV.eq_1 lenV.eq_2 lenV.eq_3 lenV.eq_4 optN optS absT_ft
attribute [local go_sem] ty3 ty4 ty5 ty9 ty21 ty22 ty23 ty25 ty26 ty28 ty29 ty30 ty32 ty34 ty35 ty37 ty40 ty42 ty43 ty45 ty46 ty47 ty49 ty53 ty54 ty56 ty106 ty108 ty120 ty124 ty126 ty129 ty131 ty133 ty147 ty161 ty192 ty194 ty196 ty198 ty213 ty215 ty221 ty224 ty229 ty237 ty244 ty268 lv53 lv147 lv161 lv198 zb4 leS leT fits AS.mvs encStr_eq aIdx_str EStr_dec decStrs decStrs0 EStr_enc EStr_n encInt_eq aIdx_int EInt_dec decInts decInts0 EInt_enc EInt_n AllV_Int len_Int lc_enc l0_enc asl_enc ag_enc aow_enc ABool_enc AInt_enc AStr_enc AU8_enc ABool_dec AInt_dec AStr_dec AU8_dec asl_dec ag_dec aow_dec bind_some pr2.eq_1 l0_nil lc_cons unT.eq_1 K0.eq_1 M0.eq_1 KI AllV_Str len_Str ctR_eq ctM_eq ro_kd ro_ro mu_kd mu_mu encAd_eq aIdx_Ad EAd_dec decAds decAds0 EAd_enc EAd_n len_Ad Ad_eta AllV_Ad encMl_eq aIdx_Ml EMl_dec decMls decMls0 EMl_enc EMl_n len_Ml Ml_eta mkMl.eq_1 owMl_eq AMl_enc AMl_dec encRc_eq aIdx_Rc ERc_dec decRcs decRcs0 ERc_enc ERc_n len_Rc Rc_eta AllV_Rc encIm_eq aIdx_Im EIm_dec decIms decIms0 EIm_enc EIm_n len_Im Im_eta mkIm.eq_1 owIm_eq AIm_enc AIm_dec encSp_eq aIdx_Sp ESp_dec decSps decSps0 ESp_enc ESp_n len_Sp Sp_eta mkSp.eq_1 owSp_eq ASp_enc ASp_dec encWy_eq aIdx_Wy EWy_dec decWys decWys0 EWy_enc EWy_n len_Wy Wy_eta AllV_Wy encCf_eq aIdx_Cf ECf_dec decCfs decCfs0 ECf_enc ECf_n len_Cf Cf_eta mkCf.eq_1 owCf_eq ACf_enc ACf_dec encGm_eq aIdx_Gm EGm_dec decGms decGms0 EGm_enc EGm_n len_Gm Gm_eta mkGm.eq_1 owGm_eq AGm_enc AGm_dec encBx_eq aIdx_Bx EBx_dec decBxs decBxs0 EBx_enc EBx_n len_Bx Bx_eta mkBx.eq_1 owBx_eq ABx_enc ABx_dec encLs_eq aIdx_Ls ELs_dec decLss decLss0 ELs_enc ELs_n len_Ls Ls_eta AllV_Ls encHs_eq aIdx_Hs EHs_dec decHss decHss0 EHs_enc EHs_n len_Hs Hs_eta mkHs.eq_1 owHs_eq AHs_enc AHs_dec
def c176 : Ct := ctR (lc EWy.asl l0) (fun p => (p.1.length : Int) ≤ 1048576) (fun p => .o true 2 (p.1.map encWy))
section
attribute [local go_sem] aNil_n aNil_c List.length_map List.nil_append List.map_nil List.map_cons List.length_cons List.length_nil
theorem good176 {G : Gt} (hG : OkG G) : Gd G 176 (roEnt 0 c176) := by
  refine gR (dp := fun _ => true) (fn := Tryz.f176) (n := 1) (fun _ => rfl) (by kernel_rfl) rfl (by kernel_rfl) hG (Nat.le_of_ble_eq_true rfl) (by kernel_rfl) (by decide) (fun _ _ => .deep _ _) ?_
  rintro ⟨xs, ⟨⟩⟩ hpre
  dsimp only at hpre ⊢
  cases xs with
  | nil =>
    simp -implicitDefEqProofs only [Tryz.f176, go_sem]
    repeat' (first | with_reducible apply And.intro | with_reducible intro _ | ((first | apply brB_split | apply aPickB_split | apply gB_split | apply adB_split) <;> intro hb <;> simp -implicitDefEqProofs only [hb, go_sem] <;> try simp only [qz] at hb))
    all_goals (try simp only [maxLen, List.length_map] at *)
    all_goals first | rfl | omega | exact of_eq_true (AllV_Wy []) | (simp; done) | skip
  | cons x xs =>
    simp only [List.length_cons] at hpre
    simp -implicitDefEqProofs only [Tryz.f176, go_sem]
    repeat' (first | with_reducible apply And.intro | with_reducible intro _ | ((first | apply brB_split | apply aPickB_split | apply gB_split | apply adB_split) <;> intro hb <;> simp -implicitDefEqProofs only [hb, go_sem] <;> try simp only [qz] at hb))
    all_goals (try simp only [maxLen, List.length_map] at *)
    all_goals first | rfl | omega | exact of_eq_true (AllV_Wy (x :: xs)) | exact of_eq_true (len_Wy (x :: xs)) _ (by assumption) | (simp; done) | skip
end
def c113 : Ct := ctR (lc ELs.asl l0) (fun p => (p.1.length : Int) ≤ 1048576) (fun p => .o true 3 (p.1.map encLs))
section
attribute [local go_sem] aNil_n aNil_c List.length_map List.nil_append List.map_nil List.map_cons List.length_cons List.length_nil
theorem good113 {G : Gt} (hG : OkG G) : Gd G 113 (roEnt 0 c113) := by
  refine gR (dp := fun _ => true) (fn := Tryz.f113) (n := 1) (fun _ => rfl) (by kernel_rfl) rfl (by kernel_rfl) hG (Nat.le_of_ble_eq_true rfl) (by kernel_rfl) (by decide) (fun _ _ => .deep _ _) ?_
  rintro ⟨xs, ⟨⟩⟩ hpre
  dsimp only at hpre ⊢
  cases xs with
  | nil =>
    simp -implicitDefEqProofs only [Tryz.f113, go_sem]
    repeat' (first | with_reducible apply And.intro | with_reducible intro _ | ((first | apply brB_split | apply aPickB_split | apply gB_split | apply adB_split) <;> intro hb <;> simp -implicitDefEqProofs only [hb, go_sem] <;> try simp only [qz] at hb))
    all_goals (try simp only [maxLen, List.length_map] at *)
    all_goals first | rfl | omega | exact of_eq_true (AllV_Ls []) | (simp; done) | skip
  | cons x xs =>
    simp only [List.length_cons] at hpre
    simp -implicitDefEqProofs only [Tryz.f113, go_sem]
    repeat' (first | with_reducible apply And.intro | with_reducible intro _ | ((first | apply brB_split | apply aPickB_split | apply gB_split | apply adB_split) <;> intro hb <;> simp -implicitDefEqProofs only [hb, go_sem] <;> try simp only [qz] at hb))
    all_goals (try simp only [maxLen, List.length_map] at *)
    all_goals first | rfl | omega | exact of_eq_true (AllV_Ls (x :: xs)) | exact of_eq_true (len_Ls (x :: xs)) _ (by assumption) | (simp; done) | skip
end
def c88 : Ct := ctR (lc ECf.ag l0) (fun p => OkCf p.1) (fun p => owCf p.1)
section
attribute [local go_sem] List.length_map List.map_nil List.length_nil List.nil_append Nat.zero_add
theorem good88 {G : Gt} (hG : OkG G) : Gd G 88 (roEnt 0 c88) := by
  refine gR (dp := fun _ => true) (fn := Tryz.f88) (n := 1) (fun _ => rfl) (by kernel_rfl) rfl (by kernel_rfl) hG (Nat.le_of_ble_eq_true rfl) (by kernel_rfl) (by decide) (fun _ p => owCf_solid _) ?_
  rintro ⟨x, ⟨⟩⟩ hpre
  simp -implicitDefEqProofs only [Tryz.f88, go_sem] at hpre ⊢
  obtain ⟨_, ⟨h1, _⟩, ⟨h2, _⟩⟩ := hpre
  repeat' (first | with_reducible apply And.intro | with_reducible intro _ | ((first | apply brB_split | apply aPickB_split | apply gB_split | apply adB_split) <;> intro hb <;> simp -implicitDefEqProofs only [hb, go_sem] <;> try simp only [qz] at hb))
  all_goals (try simp only [maxLen, List.length_map, List.length_nil] at *)
  all_goals first | rfl | omega | (simp_all; done) | trace_state
end
def c111 : Ct := ctR (lc ECf.ag l0) (fun p => OkCf p.1) (fun p => owCf p.1)
section
attribute [local go_sem] c78 c176 List.length_map
theorem good111 {G : Gt} (hG : OkG G) (hh : G.e 78 = roEnt 0 c78 ∧ G.e 176 = roEnt 0 c176) : Gd G 111 (roEnt 0 c111) := by
  refine gR (dp := fun _ => true) (fn := Tryz.f111) (n := 1) (fun _ => rfl) (by kernel_rfl) rfl (by kernel_rfl) hG (Nat.le_of_ble_eq_true rfl) (by kernel_rfl) (by decide) (fun _ p => owCf_solid _) ?_
  rintro ⟨x, ⟨⟩⟩ hpre
  simp -implicitDefEqProofs only [Tryz.f111, go_sem, hh] at hpre ⊢
  obtain ⟨_, ⟨h1, _⟩, ⟨h2, _⟩⟩ := hpre
  repeat' (first | with_reducible apply And.intro | with_reducible intro _ | ((first | apply brB_split | apply aPickB_split | apply gB_split | apply adB_split) <;> intro hb <;> simp -implicitDefEqProofs only [hb, go_sem, hh] <;> try simp only [qz] at hb))
  all_goals (try simp only [maxLen, List.length_map] at *)
  all_goals first | rfl | omega | (simp_all; done) | trace_state
end
def c42 : Ct := ctR (lc EHs.ag l0) (fun p => OkHs p.1) (fun p => owHs p.1)
section
attribute [local go_sem] c78 c111 c112 c113 List.length_map List.length_append List.length_cons List.length_nil List.map_append List.map_nil Nat.zero_add List.nil_append AS.opn AS.cls AS.nilb AS.renb AS.up Bool.not_false Bool.not_true List.set_set List.set_cons_zero List.set_cons_succ List.set_nil List.mem_singleton forall_eq
set_option maxHeartbeats 3200000 in
theorem good42 {G : Gt} (hG : OkG G) (hh : G.e 78 = roEnt 0 c78 ∧ G.e 111 = roEnt 0 c111 ∧ G.e 112 = roEnt 0 c112 ∧ G.e 113 = roEnt 0 c113) : Gd G 42 (roEnt 0 c42) := by
  refine gR (dp := fun _ => true) (fn := Tryz.f42) (n := 1) (fun _ => rfl) (by kernel_rfl) rfl (by kernel_rfl) hG (Nat.le_of_ble_eq_true rfl) (by kernel_rfl) (by decide) (fun _ p => owHs_solid _) ?_
  rintro ⟨h, ⟨⟩⟩ hpre
  simp -implicitDefEqProofs only [Tryz.f42, go_sem, hh] at hpre ⊢
  obtain ⟨zc, zs, ⟨lb, zb⟩, ⟨ll, zl⟩⟩ := hpre
  repeat' (first | with_reducible apply And.intro | with_reducible intro _ | ((first | apply brB_split | apply aPickB_split | apply gB_split | apply adB_split) <;> intro hb <;> simp -implicitDefEqProofs only [hb, go_sem, hh] <;> try simp only [qz] at hb))
  all_goals first | rfl | omega | decide | skip
  refine run_loop [(3, 1903, true, 3)] (ι := {i : Nat // i ≤ h.boxes.length}) (fun p => ⟨[(1, .pb 1001 0), (2, .pb 1002 0), (3, .h 1903), (10, .t (.sl 3 (h.boxes.map encBx))), (11, .t (.v (.int .i64 h.boxes.length))), (12, .t (.v (.int .i64 p.1)))], [(1001, some (.box ((encHs h).map .t))), (1002, some (.box [.t (.v (.string ⟨#[]⟩)), .nil, .nil, .t (.v (.int .i64 0)), .nil, .nil, .nil])), (1903, some (.arr true 3 ((h.boxes.take p.1).map encBx)))]⟩) (fun p => h.boxes.length - p.1) ⟨0, by simp⟩ rfl ?_ ?_
  · simp -implicitDefEqProofs only [go_sem, hh]
    simp
  · rintro ⟨i, hi⟩
    have hlen : (h.boxes.take i).length = i := by simp; omega
    by_cases hlt : (i : Int) < h.boxes.length
    · skip
      have hbx := zb _ (getD_mem (xs := h.boxes) (j := i) (by omega))
      obtain ⟨_, ⟨lm, zm⟩⟩ := hbx
      simp -implicitDefEqProofs only [hlt, decide_true, Int.toNat_natCast, go_sem, hh]
      repeat' (first | with_reducible apply And.intro | with_reducible intro _ | ((first | apply brB_split | apply aPickB_split | apply gB_split | apply adB_split) <;> intro hb <;> simp -implicitDefEqProofs only [hb, go_sem, hh] <;> try simp only [qz] at hb))
      all_goals (try simp only [maxLen] at *)
      all_goals first | rfl | omega | assumption | decide | skip
      refine run_loop [(6, 1906, true, 3)] (ι := {k : Nat // k ≤ (h.boxes.getD i default).mails.length}) (fun p => ⟨[(1, .pb 1001 0), (2, .pb 1002 0), (3, .h 1903), (5, .pb 1005 0), (6, .h 1906), (10, .t (.sl 3 (h.boxes.map encBx))), (11, .t (.v (.int .i64 h.boxes.length))), (12, .t (.v (.int .i64 i))), (17, .t (.sl 3 ((h.boxes.getD i default).mails.map encGm))), (18, .t (.v (.int .i64 (h.boxes.getD i default).mails.length))), (19, .t (.v (.int .i64 p.1)))], [(1001, some (.box ((encHs h).map .t))), (1002, some (.box [.t (.v (.string ⟨#[]⟩)), .nil, .nil, .t (.v (.int .i64 0)), .nil, .nil, .nil])), (1903, some (.arr true 3 ((h.boxes.take i).map encBx))), (1005, some (.box ((encBx (h.boxes.getD i default)).map .t))), (1906, some (.arr true 3 (((h.boxes.getD i default).mails.take p.1).map encGm)))]⟩) (fun p => (h.boxes.getD i default).mails.length - p.1) ⟨0, by simp⟩ rfl ?_ ?_
      · simp -implicitDefEqProofs only [go_sem, hh]
        simp
      · rintro ⟨k, hk⟩
        have hlen2 : ((h.boxes.getD i default).mails.take k).length = k := by rw [List.length_take]; omega
        by_cases hlt2 : (k : Int) < (h.boxes.getD i default).mails.length
        · obtain ⟨_, ⟨lg, _⟩⟩ := zm _ (getD_mem (xs := (h.boxes.getD i default).mails) (j := k) (by omega))
          simp -implicitDefEqProofs only [hlt2, decide_true, Int.toNat_natCast, go_sem, hh]
          repeat' (first | with_reducible apply And.intro | with_reducible intro _ | ((first | apply brB_split | apply aPickB_split | apply gB_split | apply adB_split) <;> intro hb <;> simp -implicitDefEqProofs only [hb, go_sem, hh] <;> try simp only [qz] at hb))
          all_goals (try simp only [maxLen] at *)
          all_goals first | rfl | omega | assumption | decide | skip
          refine ⟨⟨k + 1, by omega⟩, by dsimp only; omega, ?_⟩
          simp -implicitDefEqProofs only [go_sem, hh]
          simp only [take_snoc_map encGm (show k < (h.boxes.getD i default).mails.length by omega)]
          repeat' (first | with_reducible apply And.intro | with_reducible intro _ | ((first | apply brB_split | apply aPickB_split | apply gB_split | apply adB_split) <;> intro hb <;> simp -implicitDefEqProofs only [hb, go_sem, hh] <;> try simp only [qz] at hb))
          all_goals first | rfl | (simp; done) | trace_state
        · have htk : (h.boxes.getD i default).mails.take k = (h.boxes.getD i default).mails := List.take_of_length_le (by omega)
          simp -implicitDefEqProofs only [hlt2, htk, decide_false, Int.toNat_natCast, go_sem, hh]
          repeat' (first | with_reducible apply And.intro | with_reducible intro _ | ((first | apply brB_split | apply aPickB_split | apply gB_split | apply adB_split) <;> intro hb <;> simp -implicitDefEqProofs only [hb, go_sem, hh] <;> try simp only [qz] at hb))
          all_goals (try simp only [maxLen] at *)
          all_goals first | rfl | omega | assumption | decide | skip
          refine ⟨⟨i + 1, by omega⟩, by dsimp only; omega, ?_⟩
          simp -implicitDefEqProofs only [go_sem, hh]
          simp only [take_snoc_map encBx (show i < h.boxes.length by omega)]
          repeat' (first | with_reducible apply And.intro | with_reducible intro _ | ((first | apply brB_split | apply aPickB_split | apply gB_split | apply adB_split) <;> intro hb <;> simp -implicitDefEqProofs only [hb, go_sem, hh] <;> try simp only [qz] at hb))
          all_goals first | rfl | (simp; done) | trace_state
    · have htk : h.boxes.take i = h.boxes := List.take_of_length_le (by omega)
      simp -implicitDefEqProofs only [hlt, htk, decide_false, go_sem, hh]
      repeat' (first | with_reducible apply And.intro | with_reducible intro _ | ((first | apply brB_split | apply aPickB_split | apply gB_split | apply adB_split) <;> intro hb <;> simp -implicitDefEqProofs only [hb, go_sem, hh] <;> try simp only [qz] at hb))
      all_goals (try simp only [maxLen] at *)
      all_goals first | rfl | omega | assumption | decide | exact ⟨zc, zs, ⟨lb, zb⟩, ⟨ll, zl⟩⟩ | rfl | trace_state
end
def c30 : Ct := ctR (lc EHs.ag l0) (fun p => OkHs p.1) (fun p => owHs p.1)
section
attribute [local go_sem] c88 c89 List.length_map List.length_append List.length_cons List.length_nil List.map_append List.map_nil Nat.zero_add List.nil_append AS.opn AS.cls AS.nilb AS.renb AS.up Bool.not_false Bool.not_true List.set_set List.set_cons_zero List.set_cons_succ List.set_nil List.mem_singleton forall_eq
set_option maxHeartbeats 6400000 in
theorem good30 {G : Gt} (hG : OkG G) (hh : G.e 88 = roEnt 0 c88 ∧ G.e 89 = roEnt 0 c89) : Gd G 30 (roEnt 0 c30) := by
  refine gR (dp := fun n => !(Nat.beq n 100002 || Nat.beq n 100004 || Nat.beq n 100006 || Nat.beq n 100008)) (fn := Tryz.f30) (n := 1) (fun _ => rfl) (by kernel_rfl) rfl (by kernel_rfl) hG (Nat.le_of_ble_eq_true rfl) (by kernel_rfl) (by decide) (fun _ p => owHs_solid _) ?_
  rintro ⟨h, ⟨⟩⟩ hpre
  simp -implicitDefEqProofs only [Tryz.f30, go_sem, hh] at hpre ⊢
  obtain ⟨zc, zs, ⟨lb, zb⟩, ⟨ll, zl⟩⟩ := hpre
  repeat' (first | with_reducible apply And.intro | with_reducible intro _ | ((first | apply brB_split | apply aPickB_split | apply gB_split | apply adB_split) <;> intro hb <;> simp -implicitDefEqProofs only [hb, go_sem, hh] <;> try simp only [qz] at hb))
  all_goals (try simp only [maxLen] at *)
  all_goals first | rfl | omega | assumption | decide | skip
  refine run_le (Le.nilb 1003 5 1905 true 3 rfl rfl rfl) (run_go ?_)
  simp -implicitDefEqProofs only [go_sem, hh]
  refine run_loop [] (ι := {i : Nat // i ≤ h.boxes.length}) (fun p => ⟨[(1, .pb 1001 0), (2, .pb 1002 0), (3, .pb 1003 0), (4, .t (.v (.int .i64 p.1)))], [(1001, some (.box ((encHs h).map .t))), (1002, some (.box [.t (.v (.string ⟨#[]⟩)), .nil, .nil, .t (.v (.int .i64 0)), .nil, .nil, .nil])), (1003, some (.box [.t (.v (.string h.conf.name)), .h 1009, .h 2009, .t (.v (.int .i64 h.spool.last)), .h 1012, .h 1905, .h 1016])), (1009, some (.arr true 1 (h.conf.own.map encStr))), (2009, some (.arr true 2 (h.conf.ways.map encWy))), (1012, some (.arr true 5 (h.spool.items.map encIm))), (1016, some (.arr true 3 (h.lost.map encLs))), (1905, some (.arr true 3 ((h.boxes.take p.1).map encBx)))]⟩) (fun p => h.boxes.length - p.1) ⟨0, by simp⟩ rfl ?_ ?_
  · simp -implicitDefEqProofs only [go_sem, hh]
    simp
  · rintro ⟨i, hi⟩
    have hlen : (h.boxes.take i).length = i := by simp; omega
    by_cases hlt : (i : Int) < h.boxes.length
    · skip
      have hbx := zb _ (getD_mem (xs := h.boxes) (j := i) (by omega))
      obtain ⟨_, ⟨lm, zm⟩⟩ := hbx
      simp -implicitDefEqProofs only [hlt, decide_true, Int.toNat_natCast, go_sem, hh]
      repeat' (first | with_reducible apply And.intro | with_reducible intro _ | ((first | apply brB_split | apply aPickB_split | apply gB_split | apply adB_split) <;> intro hb <;> simp -implicitDefEqProofs only [hb, go_sem, hh] <;> try simp only [qz] at hb))
      all_goals (try simp only [maxLen] at *)
      all_goals first | rfl | omega | assumption | decide | skip
      refine run_le (Le.nilb 1005 2 1906 true 3 rfl rfl rfl) (run_go ?_)
      simp -implicitDefEqProofs only [go_sem, hh]
      repeat' (first | with_reducible apply And.intro | with_reducible intro _ | ((first | apply brB_split | apply aPickB_split | apply gB_split | apply adB_split) <;> intro hb <;> simp -implicitDefEqProofs only [hb, go_sem, hh] <;> try simp only [qz] at hb))
      all_goals first | rfl | omega | decide | skip
      refine run_loop [] (ι := {k : Nat // k ≤ (h.boxes.getD i default).mails.length}) (fun p => ⟨[(1, .pb 1001 0), (2, .pb 1002 0), (3, .pb 1003 0), (4, .t (.v (.int .i64 i))), (5, .pb 1005 0), (6, .t (.v (.int .i64 p.1)))], [(1001, some (.box ((encHs h).map .t))), (1002, some (.box [.t (.v (.string ⟨#[]⟩)), .nil, .nil, .t (.v (.int .i64 0)), .nil, .nil, .nil])), (1003, some (.box [.t (.v (.string h.conf.name)), .h 1009, .h 2009, .t (.v (.int .i64 h.spool.last)), .h 1012, .h 1905, .h 1016])), (1009, some (.arr true 1 (h.conf.own.map encStr))), (2009, some (.arr true 2 (h.conf.ways.map encWy))), (1012, some (.arr true 5 (h.spool.items.map encIm))), (1016, some (.arr true 3 (h.lost.map encLs))), (1905, some (.arr true 3 ((h.boxes.take i).map encBx))), (1005, some (.box [.t (.v (.string (h.boxes.getD i default).addr.user)), .t (.v (.string (h.boxes.getD i default).addr.domain)), .h 1906])), (1906, some (.arr true 3 (((h.boxes.getD i default).mails.take p.1).map encGm)))]⟩) (fun p => (h.boxes.getD i default).mails.length - p.1) ⟨0, by simp⟩ rfl ?_ ?_
      · simp -implicitDefEqProofs only [go_sem, hh]
        simp
      · rintro ⟨k, hk⟩
        have hlen2 : ((h.boxes.getD i default).mails.take k).length = k := by rw [List.length_take]; omega
        by_cases hlt2 : (k : Int) < (h.boxes.getD i default).mails.length
        · obtain ⟨_, ⟨lg, _⟩⟩ := zm _ (getD_mem (xs := (h.boxes.getD i default).mails) (j := k) (by omega))
          simp -implicitDefEqProofs only [hlt2, decide_true, Int.toNat_natCast, go_sem, hh]
          repeat' (first | with_reducible apply And.intro | with_reducible intro _ | ((first | apply brB_split | apply aPickB_split | apply gB_split | apply adB_split) <;> intro hb <;> simp -implicitDefEqProofs only [hb, go_sem, hh] <;> try simp only [qz] at hb))
          all_goals (try simp only [maxLen, Int.toNat_natCast] at *)
          all_goals first | rfl | omega | assumption | decide | skip
          refine run_le (Le.renb 1005 2 1069 1906 rfl rfl rfl rfl) (run_go ?_)
          simp -implicitDefEqProofs only [go_sem, hh]
          repeat' (first | with_reducible apply And.intro | with_reducible intro _ | ((first | apply brB_split | apply aPickB_split | apply gB_split | apply adB_split) <;> intro hb <;> simp -implicitDefEqProofs only [hb, go_sem, hh] <;> try simp only [qz] at hb))
          all_goals first | rfl | omega | decide | skip
          refine ⟨⟨k + 1, by omega⟩, by dsimp only; omega, ?_⟩
          simp -implicitDefEqProofs only [go_sem, hh]
          simp only [take_snoc_map encGm (show k < (h.boxes.getD i default).mails.length by omega)]
          repeat' (first | with_reducible apply And.intro | with_reducible intro _ | ((first | apply brB_split | apply aPickB_split | apply gB_split | apply adB_split) <;> intro hb <;> simp -implicitDefEqProofs only [hb, go_sem, hh] <;> try simp only [qz] at hb))
          all_goals first | rfl | (simp; done) | trace_state
        · have htk : (h.boxes.getD i default).mails.take k = (h.boxes.getD i default).mails := List.take_of_length_le (by omega)
          simp -implicitDefEqProofs only [hlt2, htk, decide_false, Int.toNat_natCast, go_sem, hh]
          repeat' (first | with_reducible apply And.intro | with_reducible intro _ | ((first | apply brB_split | apply aPickB_split | apply gB_split | apply adB_split) <;> intro hb <;> simp -implicitDefEqProofs only [hb, go_sem, hh] <;> try simp only [qz] at hb))
          all_goals (try simp only [maxLen] at *)
          all_goals first | rfl | omega | assumption | decide | skip
          refine run_le (Le.renb 1003 5 1075 1905 rfl rfl rfl rfl) (run_go ?_)
          simp -implicitDefEqProofs only [go_sem, hh]
          repeat' (first | with_reducible apply And.intro | with_reducible intro _ | ((first | apply brB_split | apply aPickB_split | apply gB_split | apply adB_split) <;> intro hb <;> simp -implicitDefEqProofs only [hb, go_sem, hh] <;> try simp only [qz] at hb))
          all_goals first | rfl | omega | decide | skip
          refine ⟨⟨i + 1, by omega⟩, by dsimp only; omega, ?_⟩
          simp -implicitDefEqProofs only [go_sem, hh]
          simp only [take_snoc_map encBx (show i < h.boxes.length by omega)]
          repeat' (first | with_reducible apply And.intro | with_reducible intro _ | ((first | apply brB_split | apply aPickB_split | apply gB_split | apply adB_split) <;> intro hb <;> simp -implicitDefEqProofs only [hb, go_sem, hh] <;> try simp only [qz] at hb))
          all_goals first | rfl | (simp; done) | trace_state
    · have htk : h.boxes.take i = h.boxes := List.take_of_length_le (by omega)
      simp -implicitDefEqProofs only [hlt, htk, decide_false, go_sem, hh]
      repeat' (first | with_reducible apply And.intro | with_reducible intro _ | ((first | apply brB_split | apply aPickB_split | apply gB_split | apply adB_split) <;> intro hb <;> simp -implicitDefEqProofs only [hb, go_sem, hh] <;> try simp only [qz] at hb))
      all_goals (try simp only [maxLen] at *)
      all_goals first | rfl | omega | assumption | decide | rfl | trace_state
end
def c208 : Ct := ctR (lc EAd.ag l0) (fun p => p.1.user.size ≤ 2000000 ∧ p.1.domain.size ≤ 2000000) (fun p => .t (.v (.string (putA p.1))))
section
attribute [local go_sem] c91
theorem good208 {G : Gt} (hG : OkG G) (hh : G.e 91 = roEnt 0 c91) : Gd G 208 (roEnt 0 c208) := by
  refine gR (dp := fun _ => true) (fn := Tryz.f208) (n := 1) (fun _ => rfl) (by kernel_rfl) rfl (by kernel_rfl) hG (Nat.le_of_ble_eq_true rfl) (by kernel_rfl) (by decide) (fun _ _ => .v _) ?_
  rintro ⟨a, ⟨⟩⟩ hpre
  simp -implicitDefEqProofs only [Tryz.f208, go_sem, hh] at hpre ⊢
  obtain ⟨h1, h2⟩ := hpre
  have e1 : (#[60] : Array UInt8).size = 1 := rfl
  have e2 : (#[64] : Array UInt8).size = 1 := rfl
  have e3 : (#[62] : Array UInt8).size = 1 := rfl
  repeat' (first | with_reducible apply And.intro | with_reducible intro _ | ((first | apply brB_split | apply aPickB_split | apply gB_split | apply adB_split) <;> intro hb <;> simp -implicitDefEqProofs only [hb, go_sem, hh] <;> try simp only [qz] at hb))
  all_goals (try simp only [maxLen] at *)
  all_goals first
    | rfl
    | omega
    | (rw [putA_y (by assumption)]; done)
    | (rw [putA_n hb]; done)
    | trace_state
end
theorem decB2 {a b : ByteArray} : EStr.decL [[.v (.string a)], [.v (.string b)]] = some [a, b] := EStr.decL_map [a, b]
theorem decB3 {a b c : ByteArray} : EStr.decL [[.v (.string a)], [.v (.string b)], [.v (.string c)]] = some [a, b, c] := EStr.decL_map [a, b, c]
theorem decA1 {a : Ad} : EAd.decL [[.v (.string a.user), .v (.string a.domain)]] = some [a] := EAd.decL_map [a]
theorem bounce_e {x : Im} {a : Ad} (h : mkOf x.body = ⟨#[]⟩) : bounceMl x a = ⟨⟨⟨#[]⟩, ⟨#[]⟩⟩, [x.frm], [ndS, putA a]⟩ := by unfold bounceMl; rw [if_pos h]
theorem bounce_m {x : Im} {a : Ad} (h : ¬ mkOf x.body = ⟨#[]⟩) : bounceMl x a = ⟨⟨⟨#[]⟩, ⟨#[]⟩⟩, [x.frm], [ndS, putA a, mkOf x.body]⟩ := by unfold bounceMl; rw [if_neg h]
theorem bounce_len {x : Im} {a : Ad} : (bounceMl x a).body.length ≤ 3 := by
  unfold bounceMl
  split <;> simp
theorem bounce_OkMl {x : Im} {a : Ad} (hox : OkIm x) (ha : AdOk a) : OkMl (bounceMl x a) := by
  refine ⟨⟨by show 0 ≤ 1048576; decide, by show 0 ≤ 1048576; decide⟩, ⟨by show ((1 : Nat) : Int) ≤ 1048576; decide, fun b hb => by rw [List.mem_singleton.1 hb]; exact hox.1⟩, ⟨by have := bounce_len (x := x) (a := a); omega, fun s hs => ?_⟩⟩
  unfold bounceMl at hs
  rcases List.mem_cons.1 hs with e | hs
  · rw [e]; show 14 ≤ 1048576; decide
  · rcases List.mem_cons.1 hs with e | hs
    · rw [e]
      have := (putA_lin (.inl ha)).2
      show (putA a).size ≤ 1048576
      omega
    · split at hs
      · cases hs
      · rename_i q
        rw [List.mem_singleton.1 hs]
        exact hox.2.2.2 _ ((mkOf_mem x.body).resolve_left q)
theorem mem_cut {α : Type} {xs : List α} {i j : Nat} {y : α} (h : y ∈ xs.take i ++ xs.drop j) : y ∈ xs := by
  rcases List.mem_append.1 h with h | h
  · exact List.mem_of_mem_take h
  · exact List.mem_of_mem_drop h
theorem OkL_sub {α : Type} {p : α → Prop} {xs ys : List α} (h : OkL p xs) (hl : ys.length ≤ xs.length) (hs : ∀ y ∈ ys, p y) : OkL p ys := ⟨by have := h.1; omega, hs⟩
theorem dnSp_ok {s : Sp} {i k : Nat} (h : OkSp s) (hi : i < s.items.length) : OkSp (dnSp s i k) := by
  have h' : OkL OkIm s.items := h
  show OkL OkIm (dnL s.items i k)
  have hx := h'.at hi
  have hx2 : OkIm (dnIm (s.items.getD i default) k) := ⟨hx.1, OkL_sub hx.2.1 (by simp [dnIm]; omega) (fun y hy => hx.2.1.2 y (mem_cut hy)), hx.2.2⟩
  unfold dnL
  split
  · exact OkL_sub h' (by simp; omega) fun y hy => h'.2 y (mem_cut hy)
  · refine OkL_sub h' (by simp; omega) fun y hy => ?_
    rcases List.mem_append.1 hy with hy | hy
    · exact h'.2 y (List.mem_of_mem_take hy)
    · rcases List.mem_cons.1 hy with e | hy
      · rw [e]; exact hx2
      · exact h'.2 y (List.mem_of_mem_drop hy)
def c188 : Ct := ctR (lc EIm.ag (lc EAd.ag l0)) (fun p => p.2.1.user.size ≤ 2000000 ∧ p.2.1.domain.size ≤ 2000000) (fun p => owMl (bounceMl p.1 p.2.1))
section
attribute [local go_sem] c208 c187 List.length_map List.length_append List.length_cons List.length_nil List.map_append List.map_nil Nat.zero_add List.nil_append AS.opn AS.cls AS.nilb AS.renb AS.up Bool.not_false Bool.not_true List.set_set List.set_cons_zero List.set_cons_succ List.set_nil List.mem_singleton forall_eq
set_option maxHeartbeats 800000 in
theorem good188 {G : Gt} (hG : OkG G) (hh : G.e 208 = roEnt 0 c208 ∧ G.e 187 = roEnt 0 c187) : Gd G 188 (roEnt 0 c188) := by
  refine gR (dp := fun _ => true) (fn := Tryz.f188) (n := 2) (fun _ => rfl) (by kernel_rfl) rfl (by kernel_rfl) hG (Nat.le_of_ble_eq_true rfl) (by kernel_rfl) (by decide) (fun _ p => owMl_solid _) ?_
  rintro ⟨x, a, ⟨⟩⟩ hpre
  obtain ⟨h1, h2'⟩ := hpre
  dsimp only at h1 h2' ⊢
  by_cases hm : mkOf x.body = ⟨#[]⟩
  · rw [bounce_e hm]
    have dm := decide_eq_true hm
    simp -implicitDefEqProofs only [Tryz.f188, dm, go_sem, hh]
    repeat' (first | with_reducible apply And.intro | with_reducible intro _ | ((first | apply brB_split | apply aPickB_split | apply gB_split | apply adB_split) <;> intro hb <;> simp -implicitDefEqProofs only [hb, go_sem, hh] <;> try simp only [qz] at hb))
    all_goals (try simp only [maxLen] at *)
    all_goals first | with_reducible assumption | rfl | omega | contradiction | decide | (simp; done) | trace_state
  · rw [bounce_m hm]
    have dm := decide_eq_false hm
    simp -implicitDefEqProofs only [Tryz.f188, dm, go_sem, hh]
    repeat' (first | with_reducible apply And.intro | with_reducible intro _ | ((first | apply brB_split | apply aPickB_split | apply gB_split | apply adB_split) <;> intro hb <;> simp -implicitDefEqProofs only [hb, go_sem, hh] <;> try simp only [qz] at hb))
    all_goals (try simp only [maxLen] at *)
    all_goals first | with_reducible assumption | rfl | omega | contradiction | decide | (simp; done) | trace_state
end
open Classical in
noncomputable def BncOf (x : Im) (a : Ad) : Ml × Bool := if ¬ AdNull x.frm ∧ AdOk a ∧ ImOk x then (bounceMl x a, true) else (⟨⟨⟨#[]⟩, ⟨#[]⟩⟩, [], []⟩, false)
theorem BncOf_y {x : Im} {a : Ad} (h : ¬ AdNull x.frm ∧ AdOk a ∧ ImOk x) : BncOf x a = (bounceMl x a, true) := if_pos h
theorem BncOf_n {x : Im} {a : Ad} (h : ¬ (¬ AdNull x.frm ∧ AdOk a ∧ ImOk x)) : BncOf x a = (⟨⟨⟨#[]⟩, ⟨#[]⟩⟩, [], []⟩, false) := if_neg h
def owMB' (p : Ml × Bool) : AV := .tup [owMl p.1, .t (.v (.bool p.2))]
theorem owMB'_solid (p : Ml × Bool) : Solid (owMB' p) := .tup _ fun c hc => by
  simp only [List.mem_cons, List.not_mem_nil, or_false] at hc
  rcases hc with rfl | rfl
  · exact owMl_solid _
  · exact .v _
theorem give_spool {h : Hs} {n : Int} {a : Ad} (q : SpOk h.spool) (hi : ¬ atIm h.spool n < 0) (hk : ¬ atRc (theIm h.spool n) a < 0) : SpOk (dnSp h.spool (atIm h.spool n).toNat (atRc (theIm h.spool n) a).toNat) := by
  have h1 := atIm_lt hi
  have h2 := atRc_lt hk
  exact dnSp_SpOk q (by omega) (by unfold theIm at h2; unfold theIm; omega)
theorem at_same {h : Hs} {i : Nat} (hi : i < h.spool.items.length) : h.spool.items.getD i default ∈ h.spool.items := getD_mem hi
def c135 : Ct := ctR (lc EHs.ag (lc AInt (lc AInt (lc AInt l0)))) (fun p => OkHs p.1 ∧ SpOk p.1.spool ∧ (0 ≤ p.2.1 ∧ p.2.1 < p.1.spool.items.length) ∧ (0 ≤ p.2.2.1 ∧ p.2.2.1 < (p.1.spool.items.getD p.2.1.toNat default).to.length)) (fun p => .agg ((encHs (giveHs p.1 (p.1.spool.items.getD p.2.1.toNat default) ((p.1.spool.items.getD p.2.1.toNat default).to.getD p.2.2.1.toNat default).addr p.2.1.toNat p.2.2.1.toNat p.2.2.2.1)).map .t))
section
attribute [local go_sem] c133 c91 c94 c187 c188 c97 tmap dmap List.take_length List.drop_zero List.length_take List.length_drop List.length_map List.length_append List.length_cons List.length_nil List.map_append List.map_nil List.map_cons List.nil_append Nat.zero_add List.mem_singleton forall_eq Bool.not_true Bool.not_false bOf_t bOf_f AS.opn AS.cls AS.nilb AS.renb AS.up List.set_set List.set_cons_zero List.set_cons_succ List.set_nil
set_option maxHeartbeats 3200000 in
theorem good135 {G : Gt} (hG : OkG G) (hh : G.e 133 = roEnt 1 c133 ∧ G.e 91 = roEnt 0 c91 ∧ G.e 94 = roEnt 0 c94 ∧ G.e 187 = roEnt 0 c187 ∧ G.e 188 = roEnt 0 c188 ∧ G.e 97 = roEnt 1 c97) : Gd G 135 (roEnt 1 c135) := by
  refine gR (dp := fun n => Nat.ble 100000 n) (fn := Tryz.f135) (n := 4) (fun _ => rfl) (by kernel_rfl) rfl (by kernel_rfl) hG (Nat.le_of_ble_eq_true rfl) (by kernel_rfl) (by decide) (fun h => by cases h) ?_
  rintro ⟨h, i, k, w, ⟨⟩⟩ hpre
  obtain ⟨hok, hsp, ⟨hi0, hi1⟩, ⟨hk0, hk1⟩⟩ := hpre
  dsimp only at hok hsp hi0 hi1 hk0 hk1 ⊢
  obtain ⟨ni, rfl⟩ := Int.eq_ofNat_of_zero_le hi0
  obtain ⟨nk, rfl⟩ := Int.eq_ofNat_of_zero_le hk0
  simp only [Int.toNat_natCast] at *
  have hi2 : ni < h.spool.items.length := by omega
  have hk2 : nk < (h.spool.items.getD ni default).to.length := by omega
  have hsd := dnSp_SpOk hsp hi2 hk2
  have hos := hok.2.1
  have hod := dnSp_ok (k := nk) hos hi2
  have hll := hok.2.2.2.1
  have hx := hsp.1 _ (getD_mem hi2)
  have hox := hos.2 _ (getD_mem hi2)
  have hoa := hox.2.1.2 _ (getD_mem hk2)
  have hau : ((h.spool.items.getD ni default).to.getD nk default).addr.user.size ≤ 2000000 := by have : ((h.spool.items.getD ni default).to.getD nk default).addr.user.size ≤ 1048576 := hoa.1; omega
  have had : ((h.spool.items.getD ni default).to.getD nk default).addr.domain.size ≤ 2000000 := by have : ((h.spool.items.getD ni default).to.getD nk default).addr.domain.size ≤ 1048576 := hoa.2; omega
  have hob : OkMl (bounceMl (h.spool.items.getD ni default) ((h.spool.items.getD ni default).to.getD nk default).addr) := bounce_OkMl hox (hx.1.1 _ (getD_mem hk2)).1
  by_cases q : AdNull (h.spool.items.getD ni default).frm ∨ ¬ Room (dnSp h.spool ni nk)
  · rw [give_l q]
    by_cases q1 : AdNull (h.spool.items.getD ni default).frm
    · have b1 := bOf_y q1
      simp -implicitDefEqProofs only [Tryz.f135, b1, Int.toNat_natCast, go_sem, hh]
      repeat' (first | with_reducible apply And.intro | with_reducible intro _ | ((first | apply brB_split | apply aPickB_split | apply gB_split | apply adB_split) <;> intro hb <;> simp -implicitDefEqProofs only [hb, go_sem, hh] <;> try simp only [qz] at hb))
      all_goals (try simp only [maxLen] at *)
      all_goals first | with_reducible assumption | rfl | omega | contradiction | decide | (simp; done) | trace_state
    · have b1 := bOf_n q1
      have b2 := bOf_n (q.resolve_left q1)
      simp -implicitDefEqProofs only [Tryz.f135, b1, b2, Int.toNat_natCast, go_sem, hh]
      repeat' (first | with_reducible apply And.intro | with_reducible intro _ | ((first | apply brB_split | apply aPickB_split | apply gB_split | apply adB_split) <;> intro hb <;> simp -implicitDefEqProofs only [hb, go_sem, hh] <;> try simp only [qz] at hb))
      all_goals (try simp only [maxLen] at *)
      all_goals first | with_reducible assumption | rfl | omega | contradiction | decide | (simp; done) | trace_state
  · rw [give_b q]
    have q1 : ¬ AdNull (h.spool.items.getD ni default).frm := fun z => q (.inl z)
    have q2 : Room (dnSp h.spool ni nk) := Classical.byContradiction fun z => q (.inr z)
    have b1 := bOf_n q1
    have b2 := bOf_y q2
    simp -implicitDefEqProofs only [Tryz.f135, b1, b2, Int.toNat_natCast, go_sem, hh]
    repeat' (first | with_reducible apply And.intro | with_reducible intro _ | ((first | apply brB_split | apply aPickB_split | apply gB_split | apply adB_split) <;> intro hb <;> simp -implicitDefEqProofs only [hb, go_sem, hh] <;> try simp only [qz] at hb))
    all_goals (try simp only [maxLen] at *)
    all_goals first | with_reducible assumption | rfl | omega | contradiction | decide | trace_state
end
def c68 : Ct := ctR (lc EHs.ag (lc AInt (lc EAd.ag (lc AInt (lc AInt l0))))) (fun p => OkSp p.1.spool ∧ SpOk p.1.spool ∧ ¬ atIm p.1.spool p.2.1 < 0 ∧ ¬ atRc (theIm p.1.spool p.2.1) p.2.2.1 < 0 ∧ (p.2.2.2.1 = 2 ∨ (OkHs p.1 ∧ 0 ≤ p.2.2.2.2.1 ∧ p.2.2.2.2.1 ≤ 9999))) (fun p => .agg ((encHs (outHs p.1 (atIm p.1.spool p.2.1).toNat (atRc (theIm p.1.spool p.2.1) p.2.2.1).toNat p.2.2.1 p.2.2.2.1 p.2.2.2.2.1)).map .t))
section
attribute [local go_sem] c66 c67 c133 c134 c135 tmap dmap List.take_length List.drop_zero List.length_take List.length_drop List.length_map List.length_append List.length_cons List.length_nil List.map_append List.map_nil List.map_cons List.nil_append Nat.zero_add List.mem_singleton forall_eq Bool.not_true Bool.not_false roSB AS.opn AS.cls AS.nilb AS.renb AS.up List.set_set List.set_cons_zero List.set_cons_succ List.set_nil
set_option maxHeartbeats 3200000 in
theorem good68 {G : Gt} (hG : OkG G) (hh : G.e 66 = roEnt 0 c66 ∧ G.e 67 = roEnt 0 c67 ∧ G.e 133 = roEnt 1 c133 ∧ G.e 134 = roEnt 1 c134 ∧ G.e 135 = roEnt 1 c135) : Gd G 68 (roEnt 1 c68) := by
  refine gR (dp := fun n => Nat.ble 100000 n) (fn := Tryz.f68) (n := 5) (fun _ => rfl) (by kernel_rfl) rfl (by kernel_rfl) hG (Nat.le_of_ble_eq_true rfl) (by kernel_rfl) (by decide) (fun h => by cases h) ?_
  rintro ⟨h, n, a, out, w, ⟨⟩⟩ hpre
  obtain ⟨hos, hsp, hi, hk, hw'⟩ := hpre
  dsimp only at hos hsp hi hk hw' ⊢
  have hi' : ¬ (ixP (fun x : Im => x.id = n) 0 h.spool.items) < 0 := hi
  obtain ⟨i0, i1⟩ := atIm_lt hi
  have i0' : 0 ≤ (ixP (fun x : Im => x.id = n) 0 h.spool.items) := i0
  have i1' : (ixP (fun x : Im => x.id = n) 0 h.spool.items) < h.spool.items.length := i1
  have hk' : ¬ (ixP (fun r : Rc => r.addr = a) 0 (h.spool.items.getD (ixP (fun x : Im => x.id = n) 0 h.spool.items).toNat default).to) < 0 := hk
  obtain ⟨k0, k1⟩ := atRc_lt hk
  have k0' : 0 ≤ (ixP (fun r : Rc => r.addr = a) 0 (h.spool.items.getD (ixP (fun x : Im => x.id = n) 0 h.spool.items).toNat default).to) := k0
  have k1' : (ixP (fun r : Rc => r.addr = a) 0 (h.spool.items.getD (ixP (fun x : Im => x.id = n) 0 h.spool.items).toNat default).to) < (h.spool.items.getD (ixP (fun x : Im => x.id = n) 0 h.spool.items).toNat default).to.length := k1
  have hadr : ((h.spool.items.getD (ixP (fun x : Im => x.id = n) 0 h.spool.items).toNat default).to.getD (ixP (fun r : Rc => r.addr = a) 0 (h.spool.items.getD (ixP (fun x : Im => x.id = n) 0 h.spool.items).toNat default).to).toNat default).addr = a := atRc_addr hk
  obtain ⟨R, hR⟩ : ∃ x, x = outHs h (atIm h.spool n).toNat (atRc (theIm h.spool n) a).toNat a out w := ⟨_, rfl⟩
  rw [← hR]
  by_cases o2 : out = 2
  · have hR2 : R = ⟨h.conf, dnSp h.spool (ixP (fun x : Im => x.id = n) 0 h.spool.items).toNat (ixP (fun r : Rc => r.addr = a) 0 (h.spool.items.getD (ixP (fun x : Im => x.id = n) 0 h.spool.items).toNat default).to).toNat, h.boxes, h.lost⟩ := by rw [hR]; unfold outHs; rw [if_pos o2]; rfl
    rw [hR2]
    have d2 := decide_eq_true o2
    simp -implicitDefEqProofs only [Tryz.f68, d2, go_sem, hh]
    repeat' (first | with_reducible apply And.intro | with_reducible intro _ | ((first | apply brB_split | apply aPickB_split | apply gB_split | apply adB_split) <;> intro hb <;> simp -implicitDefEqProofs only [hb, go_sem, hh] <;> try simp only [qz] at hb))
    all_goals first | with_reducible assumption | rfl | omega | contradiction | decide | trace_state
  · have d2 := decide_eq_false o2
    obtain ⟨hok, hw⟩ := hw'.resolve_left o2
    by_cases o3 : out = 3
    · have d3 := decide_eq_true o3
      by_cases hl : ltNo ((h.spool.items.getD (ixP (fun x : Im => x.id = n) 0 h.spool.items).toNat default).to.getD (ixP (fun r : Rc => r.addr = a) 0 (h.spool.items.getD (ixP (fun x : Im => x.id = n) 0 h.spool.items).toNat default).to).toNat default) w
      · have hR2 : R = giveHs h (h.spool.items.getD (ixP (fun x : Im => x.id = n) 0 h.spool.items).toNat default) ((h.spool.items.getD (ixP (fun x : Im => x.id = n) 0 h.spool.items).toNat default).to.getD (ixP (fun r : Rc => r.addr = a) 0 (h.spool.items.getD (ixP (fun x : Im => x.id = n) 0 h.spool.items).toNat default).to).toNat default).addr (ixP (fun x : Im => x.id = n) 0 h.spool.items).toNat (ixP (fun r : Rc => r.addr = a) 0 (h.spool.items.getD (ixP (fun x : Im => x.id = n) 0 h.spool.items).toNat default).to).toNat w := by
          rw [hR, hadr]; unfold outHs
          rw [if_neg o2, if_neg (fun z => z.2 hl)]; rfl
        have hS : SLat h.spool (ixP (fun x : Im => x.id = n) 0 h.spool.items).toNat (ixP (fun r : Rc => r.addr = a) 0 (h.spool.items.getD (ixP (fun x : Im => x.id = n) 0 h.spool.items).toNat default).to).toNat w = (h.spool, false) := by unfold SLat; rw [if_pos hl]
        rw [hR2]
        simp -implicitDefEqProofs only [Tryz.f68, d2, d3, hS, go_sem, hh]
        repeat' (first | with_reducible apply And.intro | with_reducible intro _ | ((first | apply brB_split | apply aPickB_split | apply gB_split | apply adB_split) <;> intro hb <;> simp -implicitDefEqProofs only [hb, go_sem, hh] <;> try simp only [qz] at hb))
        all_goals first | with_reducible assumption | rfl | omega | contradiction | decide | trace_state
      · have hR2 : R = ⟨h.conf, ltSp h.spool (ixP (fun x : Im => x.id = n) 0 h.spool.items).toNat (ixP (fun r : Rc => r.addr = a) 0 (h.spool.items.getD (ixP (fun x : Im => x.id = n) 0 h.spool.items).toNat default).to).toNat w, h.boxes, h.lost⟩ := by
          rw [hR]; unfold outHs
          rw [if_neg o2, if_pos ⟨o3, hl⟩]; rfl
        have hS : SLat h.spool (ixP (fun x : Im => x.id = n) 0 h.spool.items).toNat (ixP (fun r : Rc => r.addr = a) 0 (h.spool.items.getD (ixP (fun x : Im => x.id = n) 0 h.spool.items).toNat default).to).toNat w = (ltSp h.spool (ixP (fun x : Im => x.id = n) 0 h.spool.items).toNat (ixP (fun r : Rc => r.addr = a) 0 (h.spool.items.getD (ixP (fun x : Im => x.id = n) 0 h.spool.items).toNat default).to).toNat w, true) := by unfold SLat; rw [if_neg hl]
        rw [hR2]
        simp -implicitDefEqProofs only [Tryz.f68, d2, d3, hS, go_sem, hh]
        repeat' (first | with_reducible apply And.intro | with_reducible intro _ | ((first | apply brB_split | apply aPickB_split | apply gB_split | apply adB_split) <;> intro hb <;> simp -implicitDefEqProofs only [hb, go_sem, hh] <;> try simp only [qz] at hb))
        all_goals first | with_reducible assumption | rfl | omega | contradiction | decide | trace_state
    · have d3 := decide_eq_false o3
      have hR2 : R = giveHs h (h.spool.items.getD (ixP (fun x : Im => x.id = n) 0 h.spool.items).toNat default) ((h.spool.items.getD (ixP (fun x : Im => x.id = n) 0 h.spool.items).toNat default).to.getD (ixP (fun r : Rc => r.addr = a) 0 (h.spool.items.getD (ixP (fun x : Im => x.id = n) 0 h.spool.items).toNat default).to).toNat default).addr (ixP (fun x : Im => x.id = n) 0 h.spool.items).toNat (ixP (fun r : Rc => r.addr = a) 0 (h.spool.items.getD (ixP (fun x : Im => x.id = n) 0 h.spool.items).toNat default).to).toNat w := by
        rw [hR, hadr]; unfold outHs
        rw [if_neg o2, if_neg (fun z => o3 z.1)]; rfl
      rw [hR2]
      simp -implicitDefEqProofs only [Tryz.f68, d2, d3, go_sem, hh]
      repeat' (first | with_reducible apply And.intro | with_reducible intro _ | ((first | apply brB_split | apply aPickB_split | apply gB_split | apply adB_split) <;> intro hb <;> simp -implicitDefEqProofs only [hb, go_sem, hh] <;> try simp only [qz] at hb))
      all_goals first | with_reducible assumption | rfl | omega | contradiction | decide | trace_state
end
end Go.V
namespace Go.V
open Go Go.Proofs Go.Shelf Go.RowKit Go.Lib Go.Sort
set_option maxRecDepth 1000000
set_option linter.unusedSimpArgs false
set_option linter.unusedVariables false
theorem run_copyAt {P : Program} (w : World) (t ty e : TypeId) (i : TypeInfo) (ht : P.underlying t = some (.slice e)) (hi : P.info? e = some i) (g o dLen dCap : Nat) (cur : Array Value) (et : TypeId) (hg : w.heap[g]? = some (.cells cur et (0, 0)))
    (a : Addr) (sLen sCap : Nat) (news : List Value) (hl : news.length = Nat.min sLen dLen * i.size) (hnews : ∀ j u, news[j]? = some u → w.cell? (a.add j) = some u) (h1 : ∀ u ∈ news, u.oneCell' = true) (hfit : o + news.length ≤ cur.size) :
    (Builtin.copy_ #[t, t] ty #[.slice (some ⟨g, o, none⟩) dLen dCap, .slice (some a) sLen sCap]).run P w = .ok (goInt (Nat.min sLen dLen)) (w.setRow g (Go.V.splice cur.toList o news).toArray) := by
  have hfc := run_firstCells_some (P := P) w i.size (Nat.min sLen dLen) a sLen sCap news hl hnews
  have hst := run_storeCells_at P g o et news 0 cur w hg (by simpa using hfit) h1
  simp only [Nat.add_zero, List.append_assoc] at hst
  simp [Builtin.copy_, run_underlying ht, sizeOf, typeInfo, hi, Builtin.lenOf, hfc, hst, Go.V.splice]
theorem step_copyAt {P : Program} {ops : Array Oper} {o : Oper} {a : Act} {w : World} {K : Act → World → Prop} {Q : Exit → Act → World → Prop} {E : Prop}
    (hg : o.guard = none) (s x : Operand) (t : TypeId) (hop : o.op = Op.call { callee := Callee.builtin Builtin.copy, args := #[s, x], argTypes := #[t, t] })
    (r : Value) (W' : World) (hrun : (Builtin.copy_ #[t, t] o.type #[a.eval s, a.eval x]).run P w = .ok r W')
    (hK : K (a.put o.dst r) W') :
    if Region.wanted o (yielded ops a.tmps) = true then Oper.wp P o a w K Q else E := by
  have hw : Region.wanted o (yielded ops a.tmps) = true := by simp [Region.wanted, hg]
  rw [if_pos hw]
  unfold Oper.wp
  simp [execOp, hop, resolve, invoke, builtin, hrun, Result.andThen]
  exact hK
theorem step_copyAt2 {P : Program} {ops : Array Oper} {o : Oper} {a : Act} {w : World} {K : Act → World → Prop} {Q : Exit → Act → World → Prop} {E : Prop}
    (hg : o.guard = none) (s x : Operand) (t : TypeId) (hop : o.op = Op.call { callee := Callee.builtin Builtin.copy, args := #[s, x], argTypes := #[t, t] }) (v u : Value) (hd : a.eval s = v) (hs : a.eval x = u)
    {r : Value} {W' : World} (hrun : (Builtin.copy_ #[t, t] o.type #[v, u]).run P w = .ok r W')
    (hK : K (a.put o.dst r) W') :
    if Region.wanted o (yielded ops a.tmps) = true then Oper.wp P o a w K Q else E := by
  subst hd hs
  exact step_copyAt hg s x t hop r W' hrun hK
theorem wpList_copyAt {P : Program} {w : World} {ops : Array Oper} {rest : List Oper} {o : Oper} {a : Act} {Q : Exit → Act → World → Prop} (hgd : o.guard = none) (d s : Operand) (t : TypeId)
    (ho : o.op = .call { callee := .builtin .copy, args := #[d, s], argTypes := #[t, t] }) (v u : Value) (hd : a.eval d = v) (hs : a.eval s = u) {r : Value} {W' : World}
    (hr : (Builtin.copy_ #[t, t] o.type #[v, u]).run P w = .ok r W') (h : wpList P ops Q rest (a.put o.dst r) W') : wpList P ops Q (o :: rest) a w :=
  wpList_plain hgd fun _ hK => by
    unfold Oper.wp execOp
    simp only [ho, resolve, invoke, builtin, Sem.run_bind, Sem.run_pure, Result.andThen_ok, List.map_toArray, List.map_cons, List.map_nil, hd, hs, hr]
    exact hK _ _ h
def InsEnd (n i len : Nat) (old vs : List Value) (b : Option Nat) (w : World) (e : Ending) (w' : World) : Prop :=
  ∃ (B cap : Nat) (cur : Array Value) (et : TypeId), e = .returned (.slice (some ⟨B, 0, none⟩) (len + 1) cap) ∧ len + 1 ≤ cap ∧ cap ≤ maxLen ∧ w'.heap[B]? = some (.cells cur et (0, 0)) ∧ cur.size = cap * n ∧
    cur.toList.take ((len + 1) * n) = old.take (i * n) ++ (vs ++ old.drop (i * n)) ∧ w'.os = w.os ∧ w'.tape = w.tape ∧ w'.output = w.output ∧ w.heap.size ≤ w'.heap.size ∧ B < w'.heap.size ∧ (b = some B ∨ w.heap.size ≤ B) ∧
    ∀ c, c < w.heap.size → b ≠ some c → w'.heap[c]? = w.heap[c]?
structure InsIn (n : Nat) (w : World) (vb vcap : Nat) (vs : List Value) (len cap : Nat) (old : List Value) : Prop where
  hv : ∃ vcur vet, w.heap[vb]? = some (.cells vcur vet (0, 0)) ∧ vcur.size = vcap * n ∧ vcur.toList.take n = vs
  vc : 1 ≤ vcap
  vl : vs.length = n
  v1 : ∀ u ∈ vs, u.oneCell' = true
  lc : len ≤ cap
  cm : cap ≤ maxLen
  lm : len ≤ 4000000
  ol : old.length = len * n
  o1 : ∀ u ∈ old, u.oneCell' = true
def InsRaw (P : Program) (f : FuncId) (n : Nat) : Prop :=
  (∀ (w : World) (vb vcap : Nat) (vs : List Value), InsIn n w vb vcap vs 0 0 [] → Calls P f #[.slice none 0 0, .int .i64 0, .slice (some ⟨vb, 0, none⟩) 1 vcap] w (InsEnd n 0 0 [] vs none w)) ∧
  ∀ (w : World) (b len cap i : Nat) (cur : Array Value) (et : TypeId) (old : List Value) (vb vcap : Nat) (vs : List Value), w.heap[b]? = some (.cells cur et (0, 0)) → cur.size = cap * n → cur.toList.take (len * n) = old → vb ≠ b → i ≤ len → InsIn n w vb vcap vs len cap old →
    Calls P f #[.slice (some ⟨b, 0, none⟩) len cap, .int .i64 i, .slice (some ⟨vb, 0, none⟩) 1 vcap] w (InsEnd n i len old vs (some b) w)
theorem zc_size (z : Array Value) (k : Nat) : (Builtin.zeroCells z k).size = k * z.size := by simp [Builtin.zeroCells]
theorem insEnd_new {n i len cap : Nat} {old vs : List Value} {b : Option Nat} {w : World} {cur : Array Value} {et : TypeId} (h1 : len + 1 ≤ cap) (h2 : cap ≤ maxLen) (h3 : cur.size = cap * n) (h4 : cur.toList.take ((len + 1) * n) = old.take (i * n) ++ (vs ++ old.drop (i * n))) :
    InsEnd n i len old vs b w (.returned (.slice (some ⟨w.heap.size, 0, none⟩) (len + 1) cap)) (w.drew.alloc (.cells cur et)) := by
  have hs : (w.drew.alloc (.cells cur et)).heap.size = w.heap.size + 1 := by show (w.heap.push _).size = _; rw [Array.size_push]
  refine ⟨w.heap.size, cap, cur, et, rfl, h1, h2, ?_, h3, h4, rfl, rfl, rfl, by omega, by omega, .inr (Nat.le_refl _), fun c hc _ => ?_⟩
  · show (w.heap.push _)[w.heap.size]? = _
    rw [Array.getElem?_push_size]
  · show (w.heap.push _)[c]? = _
    rw [Array.getElem?_push_lt hc]
    simp [hc]
theorem insEnd_row {n i len cap b : Nat} {old vs : List Value} {w w' : World} {cur : Array Value} {et : TypeId} (hb : b < w.heap.size) (h1 : len + 1 ≤ cap) (h2 : cap ≤ maxLen) (h3 : cur.size = cap * n) (h4 : cur.toList.take ((len + 1) * n) = old.take (i * n) ++ (vs ++ old.drop (i * n)))
    (o1 : w'.os = w.os) (o2 : w'.tape = w.tape) (o3 : w'.output = w.output) (o4 : w'.heap.size = w.heap.size) (o5 : w'.heap[b]? = some (.cells cur et (0, 0))) (o6 : ∀ c, c ≠ b → w'.heap[c]? = w.heap[c]?) :
    InsEnd n i len old vs (some b) w (.returned (.slice (some ⟨b, 0, none⟩) (len + 1) cap)) w' :=
  ⟨b, cap, cur, et, rfl, h1, h2, o5, h3, h4, o1, o2, o3, by omega, by omega, .inl rfl, fun c _ hc => o6 c fun e => hc (by rw [e])⟩
theorem DpL.ones {w : World} {ts : List T} {vs : List Value} {G : List Nat} (hr : DpL w ts vs G) : ∀ u ∈ vs, u.oneCell' = true := fun u hu => by
  obtain ⟨k, hk, rfl⟩ := List.getElem_of_mem hu
  have hk2 : k < ts.length := by rw [hr.len]; exact hk
  obtain ⟨v, _, _, _, q1, q2, _⟩ := hr.at (List.getElem?_eq_getElem hk2)
  rw [List.getElem?_eq_getElem hk, Option.some.injEq] at q1
  rw [q1]; exact q2.one
theorem con_ins {P : Program} {m : Int} {f : FuncId} {n : Nat} (hraw : InsRaw P f n) (es : List (List T)) (x x' : List T) (hx : ∀ (w : World) (v : List Value) (F : List Nat), DpL w x v F → DpL w x' v F) (hx' : x'.length = x.length) (i : Nat) (hi : i ≤ es.length) (hlm : es.length ≤ 4000000) :
    Con P m f [.o true n es, .t (.v (.int .i64 i)), .o true n [x]] [.any, .t (.v (.int .i64 i)), .any] (.o true n (es.take i ++ (x' :: es.drop i))) := by
  intro w pr vs F hgl hA hnd hF hpr
  cases hA with
  | cons _ v0 _ _ F0 _ h0 hA =>
  cases hA with
  | cons _ v1 _ _ F1 _ h1 hA =>
  cases hA with
  | cons _ v2 _ _ F2 _ h2 hA =>
  cases hA with
  | nil =>
  cases h1 with
  | t _ _ h1 =>
  cases h1 with
  | v _ g1 =>
  cases h0 with
  | o _ _ _ _ _ ha =>
  cases h2 with
  | o _ _ _ _ _ hb =>
  simp only [List.append_nil, List.nil_append] at hnd hF ⊢
  rcases hb with ⟨hb, _, _⟩ | ⟨vb, vlen, vcap, vcur, vet, vv, Gv, rfl, vl, vc, vm, vn, vg, vs', vt, rfl, vr⟩
  · cases hb
  obtain rfl : vlen = 1 := by simp at vl; omega
  have vr : DpL w [x].flatten vv Gv := vr
  have vvl : vv.length = n := by rw [← vr.len, flat_lenN vn]; simp
  have hin : ∀ {len cap : Nat} {old : List Value}, len ≤ cap → cap ≤ maxLen → len ≤ 4000000 → old.length = len * n → (∀ u ∈ old, u.oneCell' = true) → InsIn n w vb vcap vv len cap old := fun {len cap old} a1 a2 a3 a4 a5 =>
    ⟨⟨vcur, vet, vg, vs', by rw [Nat.one_mul] at vt; exact vt⟩, vc, vvl, vr.ones, a1, a2, a3, a4, a5⟩
  obtain ⟨hn0, hn2, hdis⟩ := List.nodup_append.1 hnd
  obtain ⟨ob, G, ov, hr, hGF, hGn, hob, hn, hcall⟩ : ∃ (ob : Option Nat) (G : List Nat) (ov : List Value), DpL w es.flatten ov G ∧ (∀ c ∈ G, c ∈ F0) ∧ G.Nodup ∧ (∀ b, ob = some b → b ∈ F0 ∧ b ∉ G) ∧ (∀ y ∈ es, y.length = n) ∧ Calls P f #[v0, .int .i64 i, .slice (some ⟨vb, 0, none⟩) 1 vcap] w (InsEnd n i es.length ov vv ob w) := by
    rcases ha with ⟨rfl, rfl, rfl⟩ | ⟨b, len, cap, cur, et, ov, G, rfl, hl, hc, hm, hn, hg, hs, hv, rfl, hr⟩
    · obtain rfl : i = 0 := by simpa using hi
      exact ⟨none, [], [], .nil, fun _ h => h, List.nodup_nil, (fun b h => by cases h), (fun y h => by cases h), hraw.1 w vb vcap vv (hin (Nat.le_refl _) (by unfold maxLen; omega) (by omega) (by simp) (fun u h => by cases h))⟩
    · have hr : DpL w es.flatten ov G := hr
      have hvl : ov.length = len * n := by rw [← hr.len, flat_lenN hn, hl]
      refine ⟨some b, G, ov, hr, fun c h => List.mem_cons_of_mem _ h, (List.nodup_cons.1 hn0).2, fun b' h => by cases h; exact ⟨by simp, (List.nodup_cons.1 hn0).1⟩, hn, ?_⟩
      subst hl
      exact hraw.2 w b _ cap i cur et ov vb vcap vv hg hs hv (fun e => hdis b (by simp) vb (by simp) e.symm) (by omega) (hin hc hm (by omega) hvl hr.ones)
  refine Calls.mono hcall fun e w' hq => ?_
  obtain ⟨B, cap', cur', et', he, c1, c2, c3, c4, c5, o1, o2, o3, o4, o6, o7, o8⟩ := hq
  have hovl : ov.length = es.length * n := by rw [← hr.len, flat_lenN hn]
  have e1 : i * n ≤ es.length * n := Nat.mul_le_mul_right n hi
  have l1 : (es.take i).flatten.length = i * n := by rw [flat_lenN fun x hx => hn x (List.mem_of_mem_take hx), List.length_take]; congr 1; omega
  have hr2 : DpL w ((es.take i).flatten ++ (es.drop i).flatten) (ov.take (i * n) ++ ov.drop (i * n)) G := by
    rw [← List.flatten_append, List.take_append_drop, List.take_append_drop]; exact hr
  obtain ⟨G1, G3, rfl, d1, d3⟩ := DpL.split hr2 (by rw [l1, List.length_take]; omega)
  have hlt : ∀ c ∈ G1 ++ (Gv ++ G3), c ∈ F0 ++ vb :: Gv ∧ c < w.heap.size ∧ ob ≠ some c := fun c hc => by
    have h3 : c ∈ G1 ++ G3 ∨ c ∈ Gv := by
      simp only [List.mem_append] at hc ⊢
      exact hc.elim (fun h => .inl (.inl h)) fun h => h.elim .inr fun h => .inl (.inr h)
    have h1 : c ∈ F0 ++ vb :: Gv := h3.elim (fun h => List.mem_append_left _ (hGF c h)) fun h => List.mem_append_right _ (List.mem_cons_of_mem _ h)
    refine ⟨h1, (hF c h1).1, fun e => ?_⟩
    obtain ⟨q1, q2⟩ := hob c e
    exact h3.elim q2 fun h => hdis c q1 c (List.mem_cons_of_mem _ h) rfl
  have hd : DpL w' (es.take i ++ (x' :: es.drop i)).flatten (ov.take (i * n) ++ (vv ++ ov.drop (i * n))) (G1 ++ (Gv ++ G3)) := by
    rw [List.flatten_append, List.flatten_cons]
    have vr' : DpL w x' vv Gv := hx _ _ _ (by simpa using vr)
    exact (d1.append (vr'.append d3)).keep fun c hc => o8 c (hlt c hc).2.1 (hlt c hc).2.2
  have hBn : B ∉ G1 ++ (Gv ++ G3) := fun h => by
    have := hlt B h
    rcases o7 with q | q
    · exact this.2.2 q
    · omega
  have hndG : (G1 ++ (Gv ++ G3)).Nodup := by
    have h1 : (G1 ++ G3 ++ Gv).Nodup := List.nodup_append.2 ⟨hGn, (List.nodup_cons.1 hn2).2, fun a ha b hb => hdis a (hGF a ha) b (List.mem_cons_of_mem _ hb)⟩
    rw [List.append_assoc] at h1
    exact (List.Perm.append_left G1 List.perm_append_comm).nodup_iff.1 h1
  refine ⟨_, pr, [], B :: (G1 ++ (Gv ++ G3)), he, ⟨o1, o2, o3, o4, fun k hk hk2 => o8 k hk fun e => hk2 (List.mem_append_left _ (hob k e).1)⟩, fun _ h => h, fun _ h => .inl h, fun c hc => Nat.lt_of_lt_of_le (hpr c hc) o4, .cons _ _ _ _ [] [] (.any _) (.cons _ _ _ _ [] [] (.t _ _ (.v _ g1)) (.cons _ _ _ _ [] [] (.any _) .nil)), .o _ _ _ _ _ (.inr ⟨B, es.length + 1, cap', cur', et', _, G1 ++ (Gv ++ G3), rfl, ?_, c1, c2, ?_, c3, c4, c5, rfl, hd⟩), List.nodup_cons.2 ⟨hBn, hndG⟩, fun c hc => ?_⟩
  · simp; omega
  · intro y hy
    rcases List.mem_append.1 hy with hy | hy
    · exact hn y (List.mem_of_mem_take hy)
    · rcases List.mem_cons.1 hy with rfl | hy
      · rw [hx']; exact vn _ (by simp)
      · exact hn y (List.mem_of_mem_drop hy)
  · simp only [List.nil_append] at hc
    rcases List.mem_cons.1 hc with rfl | hc
    · rcases o7 with q | q
      · have h1 := List.mem_append_left (vb :: Gv) (hob c q).1
        exact ⟨o6, (hF c h1).2, .inr h1⟩
      · exact ⟨o6, fun h => by have := hpr c h; omega, .inl q⟩
    · have h1 := (hlt c hc).1
      exact ⟨by have := (hF c h1).1; omega, (hF c h1).2, .inr h1⟩
theorem func150 : Tryz.prog.funcs[150]? = some Tryz.f150 := by kernel_rfl
theorem nt150 : Tryz.f150.ntmps = 95 := rfl
theorem func191 : Tryz.prog.funcs[191]? = some Tryz.f191 := by kernel_rfl
noncomputable def inf150 : TypeInfo := (Tryz.prog.info? 133).get (by kernel_rfl)
theorem inf150_is : Tryz.prog.info? 133 = some inf150 := by kernel_rfl
theorem inf150_size : inf150.size = 3 := by kernel_rfl
theorem inf150_bytes : inf150.bytes = 56 := by kernel_rfl
theorem inf150_zero : inf150.zero = some (.agg #[.string ⟨#[]⟩, .string ⟨#[]⟩, .slice none 0 0]) := by kernel_rfl
set_option maxHeartbeats 4000000 in
theorem ins150_new : ∀ (w : World) (base : Option Addr) (len cap : Nat) (old : List Value) (vb vcap : Nat) (vs : List Value) (b : Option Nat), InsIn 3 w vb vcap vs len cap old → cap < len + 1 → (base = none → len = 0 ∧ cap = 0) → (∀ a, base = some a → ∀ j v, old[j]? = some v → w.cell? (a.add j) = some v) →
    Calls Tryz.prog 150 #[.slice base len cap, .int .i64 len, .slice (some ⟨vb, 0, none⟩) 1 vcap] w (InsEnd 3 len len old vs b w) := by
  intro w base len cap old vb vcap vs b H hroom hnil hcs
  have t0 : Tryz.prog.underlying 0 = some (TypeDesc.tuple #[]) := by kernel_rfl
  have a0 : ∀ w, (isAgg 0).run Tryz.prog w = .ok false w := run_isAgg_plain t0 rfl
  have t3 : Tryz.prog.underlying 3 = some (.int .i64) := by kernel_rfl
  have a3 : ∀ w, (isAgg 3).run Tryz.prog w = .ok false w := run_isAgg_plain t3 rfl
  have t4 : Tryz.prog.underlying 4 = some .bool := by kernel_rfl
  have a4 : ∀ w, (isAgg 4).run Tryz.prog w = .ok false w := run_isAgg_plain t4 rfl
  have tS : Tryz.prog.underlying 46 = some (.slice 133) := by kernel_rfl
  have aS : ∀ w, (isAgg 46).run Tryz.prog w = .ok false w := run_isAgg_plain tS rfl
  have zE : ∀ w, (Go.sizeOf 133).run Tryz.prog w = .ok 3 w := fun w => by kernel_rfl
  have mixed : Tryz.prog.follows .mixedOrders = true := by kernel_rfl
  obtain ⟨⟨vcur, vet, hvb, hvs, hvt⟩, vc, vl, v1, lc, cm, lm, ol, o1⟩ := H
  have hz1 : ¬ ((1 : Int) = 0) := by omega
  have hsrc : Src Tryz.prog inf150.size 46 (.slice (some ⟨vb, 0, none⟩) 1 vcap) 1 vs w := by
    rw [inf150_size]
    exact Src.ofSlice w tS ⟨vb, 0, none⟩ 1 vcap vs (by omega) (fun j u hj => by
      rw [Addr.add_lit]
      simp only [World.cell?, hvb, Nat.zero_add]
      rw [← hvt] at hj
      exact take_get hj) v1
  have hold : (Builtin.firstCells inf150.size len (.slice base len cap)).run Tryz.prog w.drew = .ok old.toArray w.drew := by
    rw [inf150_size]
    cases base with
    | none =>
      obtain ⟨rfl, rfl⟩ := hnil rfl
      rw [List.length_eq_zero_iff.1 (by omega : old.length = 0)]
      exact run_firstCells_none w.drew 3 0 0 0
    | some a => exact run_firstCells_some w.drew 3 len a len cap old (by omega) (fun j v hj => hcs a rfl j v hj)
  have hrun : Hid (∀ ty, (Builtin.append_ #[46, 46] ty #[.slice base len cap, .slice (some ⟨vb, 0, none⟩) 1 vcap]).run Tryz.prog w = _) := fun ty =>
    run_append_grow_src w 46 46 ty 133 inf150 _ tS inf150_is inf150_zero base len cap old hold _ 1 vs hsrc hroom (by omega) (by rw [inf150_bytes]; exact growslice_fits hroom (by omega))
  obtain ⟨G, hG⟩ : ∃ G, G = grownCap w (len + 1) cap 133 := ⟨_, rfl⟩
  have hGn : len + 1 ≤ G := by rw [hG]; exact grownCap_ge w _ _ _
  have hGm : G ≤ maxLen := by rw [hG]; exact grownCap_le_maxLen w (len + 1) cap 133 (by unfold maxLen; omega)
  rw [← hG] at hrun
  obtain ⟨cur, hcur⟩ : ∃ cur, cur = (old ++ vs).toArray ++ Builtin.zeroCells (Value.cells (.agg #[.string ⟨#[]⟩, .string ⟨#[]⟩, .slice none 0 0])) (G - (len + 1)) := ⟨_, rfl⟩
  rw [← hcur] at hrun
  have hcs1 : cur.size = G * 3 := by
    rw [hcur, Array.size_append, List.size_toArray, List.length_append, ol, vl, zc_size]
    show len * 3 + 3 + (G - (len + 1)) * 3 = G * 3
    omega
  have hct : cur.toList.take ((len + 1) * 3) = old.take (len * 3) ++ (vs ++ old.drop (len * 3)) := by
    rw [hcur, Array.toList_append, List.toList_toArray, List.take_append_of_le_length (by rw [List.length_append, ol, vl]; omega), List.take_of_length_le (by rw [List.length_append, ol, vl]; omega), List.take_of_length_le (by omega), List.drop_of_length_le (by omega), List.append_nil]
  have X : Hid (InsEnd 3 len len old vs b w (.returned (.slice (some ⟨w.heap.size, 0, none⟩) (len + 1) G)) (w.drew.alloc (.cells cur 133))) := insEnd_new hGn hGm hcs1 hct
  clear hct hcs1 hcur hG hold hsrc hvb hvs hvt ol o1 v1 vl
  go_enter func150, nt150
  cases base with
  | none =>
    obtain ⟨rfl, rfl⟩ := hnil rfl
    go_wp2_with (at_builtin; refine Lib.wpList_append_run _ rfl _ _ _ _ rfl _ _ rfl rfl _ _ (hrun.out _) ?_)
    go_ret
    exact X.out
  | some a =>
    obtain ⟨ab, ao, asp⟩ := a
    go_wp2_with (at_builtin; refine Lib.wpList_append_run _ rfl _ _ _ _ rfl _ _ rfl rfl _ _ (hrun.out _) ?_)
    all_goals (go_ret; exact X.out)
set_option maxHeartbeats 4000000 in
theorem ins150_room : ∀ (w : World) (b len cap : Nat) (cur : Array Value) (et : TypeId) (old : List Value) (vb vcap : Nat) (vs : List Value), w.heap[b]? = some (.cells cur et (0, 0)) → cur.size = cap * 3 → cur.toList.take (len * 3) = old → vb ≠ b → InsIn 3 w vb vcap vs len cap old → len + 1 ≤ cap →
    Calls Tryz.prog 150 #[.slice (some ⟨b, 0, none⟩) len cap, .int .i64 len, .slice (some ⟨vb, 0, none⟩) 1 vcap] w (InsEnd 3 len len old vs (some b) w) := by
  intro w b len cap cur et old vb vcap vs hb hs hold hne H hroom
  have t0 : Tryz.prog.underlying 0 = some (TypeDesc.tuple #[]) := by kernel_rfl
  have a0 : ∀ w, (isAgg 0).run Tryz.prog w = .ok false w := run_isAgg_plain t0 rfl
  have t3 : Tryz.prog.underlying 3 = some (.int .i64) := by kernel_rfl
  have a3 : ∀ w, (isAgg 3).run Tryz.prog w = .ok false w := run_isAgg_plain t3 rfl
  have t4 : Tryz.prog.underlying 4 = some .bool := by kernel_rfl
  have a4 : ∀ w, (isAgg 4).run Tryz.prog w = .ok false w := run_isAgg_plain t4 rfl
  have tS : Tryz.prog.underlying 46 = some (.slice 133) := by kernel_rfl
  have aS : ∀ w, (isAgg 46).run Tryz.prog w = .ok false w := run_isAgg_plain tS rfl
  have zE : ∀ w, (Go.sizeOf 133).run Tryz.prog w = .ok 3 w := fun w => by kernel_rfl
  have mixed : Tryz.prog.follows .mixedOrders = true := by kernel_rfl
  obtain ⟨⟨vcur, vet, hvb, hvs, hvt⟩, vc, vl, v1, lc, cm, lm, ol, o1⟩ := H
  have hz1 : ¬ ((1 : Int) = 0) := by omega
  have hcl : cur.toList.length = cap * 3 := by simp [hs]
  have hbw : b < w.heap.size := by
    rcases Nat.lt_or_ge b w.heap.size with h | h
    · exact h
    · rw [Array.getElem?_eq_none h] at hb; cases hb
  obtain ⟨W1, hW1⟩ : ∃ W1, W1 = w.setRow b (Go.V.splice cur.toList (len * 3) vs).toArray := ⟨_, rfl⟩
  have hap : Hid (∀ ty, (Builtin.append_ #[46, 46] ty #[.slice (some ⟨b, 0, none⟩) len cap, .slice (some ⟨vb, 0, none⟩) 1 vcap]).run Tryz.prog w = .ok (.slice (some ⟨b, 0, none⟩) (len + 1) cap) W1) := fun ty => by
    have := run_appendAt (P := Tryz.prog) w 46 ty 133 inf150 tS inf150_is b len cap cur et hb ⟨vb, 0, none⟩ 1 vcap vs (by rw [inf150_size]; omega) (fun j u hj => by
      rw [Addr.add_lit]
      simp only [World.cell?, hvb, Nat.zero_add]
      rw [← hvt] at hj
      exact take_get hj) v1 hroom (by rw [inf150_size, vl, hs]; omega)
    rw [inf150_size] at this
    rw [hW1]; exact this
  have hl1 : (Go.V.splice cur.toList (len * 3) vs).length = cap * 3 := by rw [splice_len (by omega), hcl]
  have hct : (Go.V.splice cur.toList (len * 3) vs).toArray.toList.take ((len + 1) * 3) = old.take (len * 3) ++ (vs ++ old.drop (len * 3)) := by
    rw [List.toList_toArray, show (len + 1) * 3 = len * 3 + vs.length by omega, take_splice2 (by omega), hold, List.take_of_length_le (by omega), List.drop_of_length_le (by omega), List.append_nil]
  have X : Hid (InsEnd 3 len len old vs (some b) w (.returned (.slice (some ⟨b, 0, none⟩) (len + 1) cap)) W1) := insEnd_row hbw hroom cm (by rw [List.size_toArray, hl1]) hct (by rw [hW1]; rfl) (by rw [hW1]; rfl) (by rw [hW1]; rfl) (by rw [hW1]; simp [World.setRow]) (by rw [hW1]; exact setRow_heap w b _ _ et _ hb) (fun c hc => by rw [hW1]; exact setRow_other w b c _ hc)
  clear hct hl1 hW1 hb hvb hvs hvt hcl hs hold ol o1 v1 vl
  go_enter func150, nt150
  go_wp2_with (at_builtin; refine Lib.wpList_append_run _ rfl _ _ _ _ rfl _ _ rfl rfl _ _ (hap.out _) ?_)
  go_ret
  exact X.out
set_option maxHeartbeats 4000000 in
theorem ins150_shift : ∀ (w : World) (b len cap i : Nat) (cur : Array Value) (et : TypeId) (old : List Value) (vb vcap : Nat) (vs : List Value), w.heap[b]? = some (.cells cur et (0, 0)) → cur.size = cap * 3 → cur.toList.take (len * 3) = old → vb ≠ b → InsIn 3 w vb vcap vs len cap old → len + 1 ≤ cap → i < len →
    Calls Tryz.prog 150 #[.slice (some ⟨b, 0, none⟩) len cap, .int .i64 i, .slice (some ⟨vb, 0, none⟩) 1 vcap] w (InsEnd 3 i len old vs (some b) w) := by
  intro w b len cap i cur et old vb vcap vs hb hs hold hne H hroom hil
  have t0 : Tryz.prog.underlying 0 = some (TypeDesc.tuple #[]) := by kernel_rfl
  have a0 : ∀ w, (isAgg 0).run Tryz.prog w = .ok false w := run_isAgg_plain t0 rfl
  have t3 : Tryz.prog.underlying 3 = some (.int .i64) := by kernel_rfl
  have a3 : ∀ w, (isAgg 3).run Tryz.prog w = .ok false w := run_isAgg_plain t3 rfl
  have t4 : Tryz.prog.underlying 4 = some .bool := by kernel_rfl
  have a4 : ∀ w, (isAgg 4).run Tryz.prog w = .ok false w := run_isAgg_plain t4 rfl
  have tS : Tryz.prog.underlying 46 = some (.slice 133) := by kernel_rfl
  have aS : ∀ w, (isAgg 46).run Tryz.prog w = .ok false w := run_isAgg_plain tS rfl
  have zE : ∀ w, (Go.sizeOf 133).run Tryz.prog w = .ok 3 w := fun w => by kernel_rfl
  have mixed : Tryz.prog.follows .mixedOrders = true := by kernel_rfl
  obtain ⟨⟨vcur, vet, hvb, hvs, hvt⟩, vc, vl, v1, lc, cm, lm, ol, o1⟩ := H
  have hz1 : ¬ ((1 : Int) = 0) := by omega
  have hcl : cur.toList.length = cap * 3 := by simp [hs]
  have hbw : b < w.heap.size := by
    rcases Nat.lt_or_ge b w.heap.size with h | h
    · exact h
    · rw [Array.getElem?_eq_none h] at hb; cases hb
  have hov : ∀ lb cb, (callFunc 191 #[.slice (some ⟨vb, 0, none⟩) 1 vcap, .slice (some ⟨b, (i + 1) * 3, none⟩) lb cb]).run Tryz.prog w = .ok (.value (.bool false)) w := fun lb cb => by
    have hsa : w.shape? vb = some (vet, vcur.size) := by simp [World.shape?, hvb]
    have hsb : w.shape? b = some (et, cur.size) := by simp [World.shape?, hb]
    rw [run_callFunc_extern func191 (by kernel_rfl) (by kernel_rfl) (by kernel_rfl) (e := Extern.SlicesOverlaps.overlaps #[46, 46] #[4]) (by kernel_rfl),
      Lib.run_overlaps_apart w 46 4 133 tS 3 zE ⟨vb, 0, none⟩ ⟨b, (i + 1) * 3, none⟩ 1 vcap lb cb hne vet et vcur.size cur.size hsa hsb (by omega) (by simp [World.frozen?, hvb]) (by simp [World.frozen?, hvb])]
    rfl
  obtain ⟨L1, hL1⟩ : ∃ L1, L1 = Go.V.splice cur.toList ((i + 1) * 3) (old.drop (i * 3)) := ⟨_, rfl⟩
  obtain ⟨W1, hW1⟩ : ∃ W1, W1 = w.drew.setRow b L1.toArray := ⟨_, rfl⟩
  have hod : (old.drop (i * 3)).length = (len - i) * 3 := by rw [List.length_drop, ol]; omega
  have hl1 : L1.length = cap * 3 := by rw [hL1, splice_len (by omega), hcl]
  have hb1 : W1.heap[b]? = some (.cells L1.toArray et (0, 0)) := by rw [hW1]; exact setRow_heap w.drew b _ _ et _ hb
  have hv1 : W1.heap[vb]? = some (.cells vcur vet (0, 0)) := by rw [hW1, setRow_other w.drew b vb _ hne]; exact hvb
  have hcp1 : Hid (∀ ty dc sc, (Builtin.copy_ #[46, 46] ty #[.slice (some ⟨b, (i + 1) * 3, none⟩) (len - i) dc, .slice (some ⟨b, i * 3, none⟩) (len + 1 - i) sc]).run Tryz.prog w.drew = .ok (goInt (Nat.min (len + 1 - i) (len - i))) W1) := fun ty dc sc => by
    rw [hW1, hL1]
    refine run_copyAt w.drew 46 ty 133 inf150 tS inf150_is b ((i + 1) * 3) (len - i) dc cur et hb ⟨b, i * 3, none⟩ (len + 1 - i) sc (old.drop (i * 3)) (by rw [inf150_size, hod, show Nat.min (len + 1 - i) (len - i) = len - i by simp only [Nat.min_def]; split <;> omega]) (fun j u hj => ?_) (fun u hu => o1 u (List.mem_of_mem_drop hu)) (by omega)
    rw [List.getElem?_drop, ← hold] at hj
    rw [Addr.add_lit]
    show w.cell? _ = _
    simp only [World.cell?, hb]
    exact take_get hj
  obtain ⟨W2, hW2⟩ : ∃ W2, W2 = W1.setRow b (Go.V.splice L1 (i * 3) vs).toArray := ⟨_, rfl⟩
  have hcp2 : Hid (∀ ty dc, (Builtin.copy_ #[46, 46] ty #[.slice (some ⟨b, i * 3, none⟩) (len + 1 - i) dc, .slice (some ⟨vb, 0, none⟩) 1 vcap]).run Tryz.prog W1 = .ok (goInt (Nat.min 1 (len + 1 - i))) W2) := fun ty dc => by
    have := run_copyAt W1 46 ty 133 inf150 tS inf150_is b (i * 3) (len + 1 - i) dc L1.toArray et hb1 ⟨vb, 0, none⟩ 1 vcap vs (by rw [inf150_size, vl, show Nat.min 1 (len + 1 - i) = 1 by simp only [Nat.min_def]; split <;> omega]) (fun j u hj => by
      rw [Addr.add_lit]
      simp only [World.cell?, hv1, Nat.zero_add]
      rw [← hvt] at hj
      exact take_get hj) v1 (by rw [List.size_toArray, hl1]; omega)
    rw [List.toList_toArray] at this
    rw [hW2]; exact this
  have hl2 : (Go.V.splice L1 (i * 3) vs).length = cap * 3 := by rw [splice_len (by omega), hl1]
  have hct : (Go.V.splice L1 (i * 3) vs).toArray.toList.take ((len + 1) * 3) = old.take (i * 3) ++ (vs ++ old.drop (i * 3)) := by
    rw [List.toList_toArray]
    have e1 : Go.V.splice L1 (i * 3) vs = L1.take (i * 3) ++ (vs ++ L1.drop ((i + 1) * 3)) := by
      unfold Go.V.splice
      rw [vl, show i * 3 + 3 = (i + 1) * 3 by omega]
    have e2 : L1.take (i * 3) = old.take (i * 3) := by
      rw [hL1, take_splice (by omega) (by omega), ← hold, List.take_take, Nat.min_eq_left (by omega)]
    have e3 : L1.drop ((i + 1) * 3) = old.drop (i * 3) ++ cur.toList.drop ((len + 1) * 3) := by
      rw [hL1]
      unfold Go.V.splice
      rw [List.drop_append_of_le_length (by rw [List.length_take]; omega), List.drop_of_length_le (by rw [List.length_take]; omega), List.nil_append, hod, show (i + 1) * 3 + (len - i) * 3 = (len + 1) * 3 by omega]
    rw [e1, e2, e3, ← List.append_assoc vs, ← List.append_assoc, List.take_append_of_le_length (by simp only [List.length_append, List.length_take, hod, vl, ol]; omega), List.take_of_length_le (by simp only [List.length_append, List.length_take, hod, vl, ol]; omega)]
  have X : Hid (InsEnd 3 i len old vs (some b) w (.returned (.slice (some ⟨b, 0, none⟩) (len + 1) cap)) W2) := insEnd_row hbw hroom cm (by rw [List.size_toArray, hl2]) hct (by rw [hW2, hW1]; rfl) (by rw [hW2, hW1]; rfl) (by rw [hW2, hW1]; rfl) (by rw [hW2, hW1]; simp [World.setRow]) (by rw [hW2]; exact setRow_heap W1 b _ _ et _ hb1) (fun c hc => by rw [hW2, setRow_other W1 b c _ hc, hW1, setRow_other w.drew b c _ hc]; rfl)
  have hz2 : ¬ ((i : Int) = (len : Int)) := by omega
  have hw1 : IntKind.i64.wrap ((i : Int) + 1) = (i : Int) + 1 := by rw [IntKind.wrap_i64]; omega
  have hw2 : IntKind.i64.wrap ((len : Int) + 1) = (len : Int) + 1 := by rw [IntKind.wrap_i64]; omega
  have hc1 : ¬ (cap = i) := by omega
  have hc2 : ¬ (cap = i + 1) := by omega
  have hcc : ¬ ((len : Int) + 1 > (cap : Int)) := by omega
  have hb1 : (0 : Int) ≤ (i : Int) + 1 := by omega
  have hin : i ≤ len := by omega
  have hb3 : i ≤ len + 1 := by omega
  clear hct hl1 hl2 hL1 hW1 hW2 hb hb1 hv1 hvb hvs hvt hcl hs hold ol o1 v1 vl hod
  go_enter func150, nt150
  go_wp2_with (simp only [hov])
  have hb1 : (0 : Int) ≤ (i : Int) + 1 := by omega
  have hb2 : (i : Int) ≤ (len : Int) + 1 := by omega
  have htn : ((i : Int) + 1).toNat = i + 1 := by omega
  go_region_law_o (refine step_copyAt2 rfl (.tmp 73) (.tmp 76) 46 rfl (.slice (some ⟨b, (i + 1) * 3, none⟩) (len - i) (cap - (i + 1))) (.slice (some ⟨b, i * 3, none⟩) (len + 1 - i) (cap - i)) (by simp [Act.eval, Act.put]) (by simp [Act.eval, Act.put]) (hcp1.out _ _ _) ?_)
  go_wp2_with (refine wpList_copyAt rfl _ _ 46 rfl _ _ rfl rfl (hcp2.out _ _) ?_)
  go_ret
  exact X.out
set_option maxHeartbeats 4000000 in
theorem ins150_grow : ∀ (w : World) (b len cap i : Nat) (cur : Array Value) (et : TypeId) (old : List Value) (vb vcap : Nat) (vs : List Value), w.heap[b]? = some (.cells cur et (0, 0)) → cur.toList.take (len * 3) = old → InsIn 3 w vb vcap vs len cap old → cap < len + 1 → i < len →
    Calls Tryz.prog 150 #[.slice (some ⟨b, 0, none⟩) len cap, .int .i64 i, .slice (some ⟨vb, 0, none⟩) 1 vcap] w (InsEnd 3 i len old vs (some b) w) := by
  intro w b len cap i cur et old vb vcap vs hb hold H hroom hil
  have t0 : Tryz.prog.underlying 0 = some (TypeDesc.tuple #[]) := by kernel_rfl
  have a0 : ∀ w, (isAgg 0).run Tryz.prog w = .ok false w := run_isAgg_plain t0 rfl
  have t3 : Tryz.prog.underlying 3 = some (.int .i64) := by kernel_rfl
  have a3 : ∀ w, (isAgg 3).run Tryz.prog w = .ok false w := run_isAgg_plain t3 rfl
  have t4 : Tryz.prog.underlying 4 = some .bool := by kernel_rfl
  have a4 : ∀ w, (isAgg 4).run Tryz.prog w = .ok false w := run_isAgg_plain t4 rfl
  have tS : Tryz.prog.underlying 46 = some (.slice 133) := by kernel_rfl
  have aS : ∀ w, (isAgg 46).run Tryz.prog w = .ok false w := run_isAgg_plain tS rfl
  have zE : ∀ w, (Go.sizeOf 133).run Tryz.prog w = .ok 3 w := fun w => by kernel_rfl
  have mixed : Tryz.prog.follows .mixedOrders = true := by kernel_rfl
  obtain ⟨⟨vcur, vet, hvb, hvs, hvt⟩, vc, vl, v1, lc, cm, lm, ol, o1⟩ := H
  have hz1 : ¬ ((1 : Int) = 0) := by omega
  have hlt : ∀ (c : Nat) (o : _), w.heap[c]? = some o → c < w.heap.size := fun c o h => by
    rcases Nat.lt_or_ge c w.heap.size with h' | h'
    · exact h'
    · rw [Array.getElem?_eq_none h'] at h; cases h
  have hbw := hlt _ _ hb
  have hvw := hlt _ _ hvb
  have hik : i + (len + 1 - i) = len + 1 := by omega
  have hot : (old.take (i * 3)).length = i * 3 := by rw [List.length_take]; omega
  have hod : (old.drop (i * 3)).length = (len - i) * 3 := by rw [List.length_drop, ol]; omega
  have hold' : (Builtin.firstCells inf150.size i (.slice (some ⟨b, 0, none⟩) i cap)).run Tryz.prog w.drew = .ok (old.take (i * 3)).toArray w.drew := by
    rw [inf150_size]
    exact run_firstCells_some w.drew 3 i ⟨b, 0, none⟩ i cap (old.take (i * 3)) hot (fun j v hj => by
      rw [← hold, List.take_take, Nat.min_eq_left (by omega)] at hj
      rw [Addr.add_lit]
      show w.cell? _ = _
      simp only [World.cell?, hb, Nat.zero_add]
      exact take_get hj)
  have hrz : Hid (∀ ty, (Builtin.append_ #[46, 3] ty #[.slice (some ⟨b, 0, none⟩) i cap, .int .i64 ((len : Int) + 1 - (i : Int))]).run Tryz.prog w = .ok (.slice (some ⟨w.heap.size, 0, none⟩) (len + 1) (grownCap w (len + 1) cap 133)) (w.drew.alloc (.cells ((old.take (i * 3)).toArray ++ Builtin.zeroCells (Value.cells (.agg #[.string ⟨#[]⟩, .string ⟨#[]⟩, .slice none 0 0])) (len + 1 - i) ++ Builtin.zeroCells (Value.cells (.agg #[.string ⟨#[]⟩, .string ⟨#[]⟩, .slice none 0 0])) (grownCap w (len + 1) cap 133 - (len + 1))) 133))) := fun ty => by
    have h := Lib.run_append_grow_zeros w 46 3 ty 133 inf150 _ .i64 .i64 tS t3 inf150_is inf150_zero (some ⟨b, 0, none⟩) i cap (old.take (i * 3)) hold' (len + 1 - i) (by omega) (by rw [inf150_size]; omega) (by omega) (by omega) (by rw [inf150_bytes]; omega) (by rw [inf150_bytes, hik]; exact growslice_fits hroom (by omega))
    rw [hik] at h
    rw [show (len : Int) + 1 - (i : Int) = ((len + 1 - i : Nat) : Int) by omega]
    exact h
  obtain ⟨G, hG⟩ : ∃ G, G = grownCap w (len + 1) cap 133 := ⟨_, rfl⟩
  have hGn : len + 1 ≤ G := by rw [hG]; exact grownCap_ge w _ _ _
  have hGm : G ≤ maxLen := by rw [hG]; exact grownCap_le_maxLen w (len + 1) cap 133 (by unfold maxLen; omega)
  rw [← hG] at hrz
  obtain ⟨row, hrow⟩ : ∃ row, row = (old.take (i * 3)).toArray ++ Builtin.zeroCells (Value.cells (.agg #[.string ⟨#[]⟩, .string ⟨#[]⟩, .slice none 0 0])) (len + 1 - i) ++ Builtin.zeroCells (Value.cells (.agg #[.string ⟨#[]⟩, .string ⟨#[]⟩, .slice none 0 0])) (G - (len + 1)) := ⟨_, rfl⟩
  rw [← hrow] at hrz
  have hrs : row.size = G * 3 := by
    rw [hrow, Array.size_append, Array.size_append, List.size_toArray, hot, zc_size, zc_size]
    show i * 3 + (len + 1 - i) * 3 + (G - (len + 1)) * 3 = G * 3
    omega
  have hrl : row.toList.length = G * 3 := by simp [hrs]
  have hrt : row.toList.take (i * 3) = old.take (i * 3) := by
    rw [hrow, Array.toList_append, Array.toList_append, List.toList_toArray, List.append_assoc, List.take_append_of_le_length (by omega), List.take_of_length_le (by omega)]
  clear hrow
  obtain ⟨W0, hW0⟩ : ∃ W0, W0 = w.drew.alloc (.cells row 133) := ⟨_, rfl⟩
  rw [← hW0] at hrz
  have hs0 : W0.heap.size = w.heap.size + 1 := by rw [hW0]; show (w.heap.push _).size = _; rw [Array.size_push]
  have hn0 : W0.heap[w.heap.size]? = some (.cells row 133 (0, 0)) := by
    rw [hW0]; show (w.heap.push _)[w.heap.size]? = _
    rw [Array.getElem?_push_size]
  have hp0 : ∀ c, c < w.heap.size → W0.heap[c]? = w.heap[c]? := fun c hc => by
    rw [hW0]; show (w.heap.push _)[c]? = _
    rw [Array.getElem?_push_lt hc]
    simp [hc]
  obtain ⟨L1, hL1⟩ : ∃ L1, L1 = Go.V.splice row.toList (i * 3) vs := ⟨_, rfl⟩
  have hl1 : L1.length = G * 3 := by rw [hL1, splice_len (by omega), hrl]
  obtain ⟨W1, hW1⟩ : ∃ W1, W1 = W0.setRow w.heap.size L1.toArray := ⟨_, rfl⟩
  have hn1 : W1.heap[w.heap.size]? = some (.cells L1.toArray 133 (0, 0)) := by rw [hW1]; exact setRow_heap W0 _ _ _ _ _ hn0
  have hp1 : ∀ c, c < w.heap.size → W1.heap[c]? = w.heap[c]? := fun c hc => by rw [hW1, setRow_other W0 _ c _ (by omega)]; exact hp0 c hc
  have hcpA : Hid (∀ ty dc, (Builtin.copy_ #[46, 46] ty #[.slice (some ⟨w.heap.size, i * 3, none⟩) (len + 1 - i) dc, .slice (some ⟨vb, 0, none⟩) 1 vcap]).run Tryz.prog W0 = .ok (goInt (Nat.min 1 (len + 1 - i))) W1) := fun ty dc => by
    have := run_copyAt W0 46 ty 133 inf150 tS inf150_is w.heap.size (i * 3) (len + 1 - i) dc row _ hn0 ⟨vb, 0, none⟩ 1 vcap vs (by rw [inf150_size, vl, show Nat.min 1 (len + 1 - i) = 1 by simp only [Nat.min_def]; split <;> omega]) (fun j u hj => by
      rw [Addr.add_lit]
      simp only [World.cell?, hp0 vb hvw, hvb, Nat.zero_add]
      rw [← hvt] at hj
      exact take_get hj) v1 (by omega)
    rw [hW1, hL1]; exact this
  obtain ⟨L2, hL2⟩ : ∃ L2, L2 = Go.V.splice L1 ((i + 1) * 3) (old.drop (i * 3)) := ⟨_, rfl⟩
  have hl2 : L2.length = G * 3 := by rw [hL2, splice_len (by omega), hl1]
  obtain ⟨W2, hW2⟩ : ∃ W2, W2 = W1.drew.setRow w.heap.size L2.toArray := ⟨_, rfl⟩
  have hcpB : Hid (∀ ty dc sc, (Builtin.copy_ #[46, 46] ty #[.slice (some ⟨w.heap.size, (i + 1) * 3, none⟩) (len - i) dc, .slice (some ⟨b, i * 3, none⟩) (len - i) sc]).run Tryz.prog W1.drew = .ok (goInt (Nat.min (len - i) (len - i))) W2) := fun ty dc sc => by
    have := run_copyAt W1.drew 46 ty 133 inf150 tS inf150_is w.heap.size ((i + 1) * 3) (len - i) dc L1.toArray _ hn1 ⟨b, i * 3, none⟩ (len - i) sc (old.drop (i * 3)) (by rw [inf150_size, hod, show Nat.min (len - i) (len - i) = len - i by simp only [Nat.min_def]; split <;> omega]) (fun j u hj => by
      rw [List.getElem?_drop, ← hold] at hj
      rw [Addr.add_lit]
      show W1.cell? _ = _
      simp only [World.cell?, hp1 b hbw, hb]
      exact take_get hj) (fun u hu => o1 u (List.mem_of_mem_drop hu)) (by rw [List.size_toArray]; omega)
    rw [List.toList_toArray, ← hL2] at this
    rw [hW2]; exact this
  have hct : L2.toArray.toList.take ((len + 1) * 3) = old.take (i * 3) ++ (vs ++ old.drop (i * 3)) := by
    rw [List.toList_toArray, hL2, show (len + 1) * 3 = (i + 1) * 3 + (old.drop (i * 3)).length by omega, take_splice2 (by omega), hL1, show (i + 1) * 3 = i * 3 + vs.length by omega, take_splice2 (by omega), hrt, List.append_assoc]
  have X : Hid (InsEnd 3 i len old vs (some b) w (.returned (.slice (some ⟨w.heap.size, 0, none⟩) (len + 1) G)) W2) :=
    ⟨w.heap.size, G, L2.toArray, 133, rfl, hGn, hGm, by rw [hW2]; exact setRow_heap W1.drew _ _ _ _ _ hn1, by rw [List.size_toArray, hl2], hct, by rw [hW2, hW1, hW0]; rfl, by rw [hW2, hW1, hW0]; rfl, by rw [hW2, hW1, hW0]; rfl,
      by rw [hW2, hW1, hW0]; simp [World.setRow], by rw [hW2, hW1, hW0]; simp [World.setRow], .inr (Nat.le_refl _), fun c hc _ => by rw [hW2, setRow_other W1.drew _ c _ (by omega)]; exact hp1 c hc⟩
  have hz2 : ¬ ((i : Int) = (len : Int)) := by omega
  have hz3 : (cap : Int) < (len : Int) + 1 := by omega
  have hw1 : IntKind.i64.wrap ((i : Int) + 1) = (i : Int) + 1 := by rw [IntKind.wrap_i64]; omega
  have hw2 : IntKind.i64.wrap ((len : Int) + 1) = (len : Int) + 1 := by rw [IntKind.wrap_i64]; omega
  have hw3 : IntKind.i64.wrap ((len : Int) + 1 - (i : Int)) = (len : Int) + 1 - (i : Int) := by rw [IntKind.wrap_i64]; omega
  have hGi : ¬ (G = i) := by omega
  have hGim : ¬ (G = i + 1) := by omega
  have hci : ¬ (cap = i) := by omega
  have hb1 : (0 : Int) ≤ (i : Int) + 1 := by omega
  have hin : i ≤ len := by omega
  have htn : ((i : Int) + 1).toNat = i + 1 := by omega
  have hb3 : (i : Int) ≤ (len : Int) := by omega
  have hb4 : (i : Int) ≤ (len : Int) + 1 := by omega
  clear hct hl2 hL2 hW2 hL1 hl1 hW1 hW0 hn1 hp1 hn0 hp0 hs0 hrt hrl hrs hG hold' hod hot hb hvb hvs hvt hold ol o1 v1 vl hlt hik
  go_enter func150, nt150
  go_wp2_with (first
    | (at_builtin; refine Lib.wpList_append_run _ rfl _ _ _ _ rfl _ _ rfl rfl _ _ (hrz.out _) ?_)
    | (refine wpList_copyAt rfl _ _ 46 rfl _ _ rfl rfl (hcpA.out _ _) ?_))
  have hb1 : (0 : Int) ≤ (i : Int) + 1 := by omega
  have hb3 : (i : Int) ≤ (len : Int) := by omega
  have htn : ((i : Int) + 1).toNat = i + 1 := by omega
  go_region_law_o (refine step_copyAt2 rfl (.tmp 50) (.tmp 53) 46 rfl (.slice (some ⟨w.heap.size, (i + 1) * 3, none⟩) (len - i) (G - (i + 1))) (.slice (some ⟨b, i * 3, none⟩) (len - i) (cap - i)) (by simp [Act.eval, Act.put]) (by simp [Act.eval, Act.put]) (hcpB.out _ _ _) ?_)
  go_wp2
  go_ret
  exact X.out
theorem ins150 : InsRaw Tryz.prog 150 3 := by
  refine ⟨fun w vb vcap vs H => ins150_new w none 0 0 [] vb vcap vs none H (by omega) (fun _ => ⟨rfl, rfl⟩) (fun a h => by cases h), fun w b len cap i cur et old vb vcap vs hb hs hold hne hi H => ?_⟩
  rcases Nat.lt_or_ge i len with h | h
  · rcases Nat.lt_or_ge cap (len + 1) with h2 | h2
    · exact ins150_grow w b len cap i cur et old vb vcap vs hb hold H h2 h
    · exact ins150_shift w b len cap i cur et old vb vcap vs hb hs hold hne H h2 h
  · obtain rfl : i = len := by omega
    rcases Nat.lt_or_ge cap (i + 1) with h2 | h2
    · exact ins150_new w (some ⟨b, 0, none⟩) i cap old vb vcap vs (some b) H h2 (fun h => by cases h) (fun a ha j v hj => by
        cases ha
        rw [← hold] at hj
        rw [Addr.add_lit]
        simp only [World.cell?, hb, Nat.zero_add]
        exact take_get hj)
    · exact ins150_room w b i cap cur et old vb vcap vs hb hs hold hne H h2
theorem nilBx (a : Ad) (w : World) (v : List Value) (F : List Nat) (h : DpL w [.v (.string a.user), .v (.string a.domain), .sl 0 []] v F) : DpL w (encBx ⟨a, []⟩) v F := by
  cases h with
  | cons _ _ _ _ _ _ h1 h =>
  cases h with
  | cons _ _ _ _ _ _ h2 h =>
  cases h with
  | cons _ _ _ _ _ _ h3 h =>
  cases h with
  | nil =>
  cases h3 with
  | sl _ _ _ _ _ _ _ _ _ _ _ _ _ _ _ _ _ h0 => exact absurd rfl h0
  | nil => exact .cons _ _ _ _ _ _ h1 (.cons _ _ _ _ _ _ h2 (.cons _ _ _ _ _ _ (.nil 3) .nil))
def ABxND : AV → Option Ad
  | .o true 3 [[.v (.string u), .v (.string d), .sl 0 []]] => some ⟨u, d⟩
  | _ => none
def ABxN : AD Ad where
  enc a := .o true 3 [[.v (.string a.user), .v (.string a.domain), .sl 0 []]]
  dec := ABxND
  ed := fun a => rfl
  de := fun x a h => by
    unfold ABxND at h
    split at h <;> cases h
    rfl
theorem ABxN_dec (u d : ByteArray) : ABxN.dec (.o true 3 [[.v (.string u), .v (.string d), .sl 0 []]]) = some ⟨u, d⟩ := rfl
theorem ABxN_enc (a : Ad) : ABxN.enc a = .o true 3 [[.v (.string a.user), .v (.string a.domain), .sl 0 []]] := rfl
def insBx (xs : List Bx) (i : Nat) (a : Ad) : List Bx := xs.take i ++ ([⟨a, []⟩] ++ xs.drop i)
def c150 : Mt := ctM (lc (EBx.aow true 3) (lc AInt (lc ABxN l0))) (fun p => 0 ≤ p.2.1 ∧ p.2.1 ≤ p.1.length ∧ p.1.length ≤ 4000000) (fun p => ([.any, .t (.v (.int .i64 p.2.1)), .any], .o true 3 ((insBx p.1 p.2.1.toNat p.2.2.1).map encBx)))
theorem good150 {G : Gt} (hG : OkG G) : Gd G 150 (muEnt c150) := Good.ofM (by kernel_rfl) fun ⟨xs, i, v, _⟩ h => by
  obtain ⟨h0, h1, h2⟩ := h
  dsimp only at h0 h1 h2 ⊢
  obtain ⟨a, rfl⟩ := Int.eq_ofNat_of_zero_le h0
  have := con_ins (m := G.m) ins150 (xs.map encBx) _ (encBx ⟨v, []⟩) (nilBx v) rfl a (by rw [List.length_map]; omega) (by rw [List.length_map]; omega)
  rw [← List.map_take, ← List.map_drop, ← List.map_cons, ← List.map_append] at this
  exact this
end Go.V
namespace Go.V
open Go Go.Proofs
set_option maxRecDepth 100000
set_option linter.unusedSimpArgs false
set_option linter.unusedVariables false
attribute [local go_sem_proc] Nat.reduceAdd Nat.reduceMul Nat.reduceLeDiff Nat.reduceEqDiff reduceCtorEq Nat.reduceSub Int.reduceNeg Nat.reduceMod Nat.reduceBEq Nat.reduceLT
attribute [local go_sem] aPickB.eq_1 aPickB.eq_2 aPick.eq_1 aBox.eq_1 aBox.eq_2 aAlloc.eq_1 aAlloc.eq_2 aLoadB.eq_1 aLoadB.eq_2 aLoadB.eq_3 aLoadB.eq_4 aLoadB.eq_5 aLoadA.eq_1 aLoadA.eq_2 aLoadA.eq_3 aLoadA.eq_4 aLoadA.eq_5 aLoadP.eq_1 aLoadP.eq_2 aLoadP.eq_3 aLoad.eq_1 aLoad.eq_2 aFAx.eq_1 aFAx.eq_2 aFAx.eq_3 aFA.eq_1 aFA.eq_2 aFx.eq_1 aF.eq_1 aF.eq_2 fld.eq_1 elT.eq_1 aIdxH.eq_1 aIdxH.eq_2 aIdxH.eq_3 aIdxH.eq_4 aIdxH.eq_5 aIdxP.eq_1 aIdxP.eq_2 aIndexAddr.eq_1 aIndexAddr.eq_2 aIndexAddr.eq_3 isStr.eq_1 aIndex.eq_1 aSlStr.eq_1 aSlRo.eq_1 aSlZ.eq_1 aSlZ.eq_2 aSlice.eq_1 aSlice.eq_2 aSlice.eq_3 bnd.eq_1 bnd.eq_2 aBuildO.eq_1 aBuildO.eq_2 aBuild.eq_1 aNewArr.eq_1 aNewArr.eq_2 aBS.eq_1 aBS.eq_2 aBuildSlice.eq_1 aBuildSlice.eq_2 aMakeSlice.eq_1 appDeep.eq_1 aApp2.eq_1 aAppend.eq_1 aAppend.eq_2 aStoreB.eq_1 aStoreA.eq_1 obFlat.eq_1 aStore2.eq_1 aStore2.eq_2 aStoreP.eq_1 aStoreP.eq_2 aStore.eq_1 aStore.eq_2 isShl.eq_1 isShl.eq_2 isBool.eq_1 aBinI.eq_1 aBinI.eq_2 aBinB.eq_1 aBinB.eq_2 aEq.eq_1 aEq.eq_2 aEq.eq_3 aEq.eq_4 aEqG.eq_1 aEqG.eq_2 aBin.eq_1 aBin.eq_2 aBin.eq_3 aBin.eq_4 aUn.eq_1 aUn.eq_2 aLenO.eq_1 aLenS.eq_1 aLenS.eq_2 aLenS.eq_3 aLenT.eq_1 aLen.eq_1 aLen.eq_2 aLen.eq_3 bytesOb.eq_1 bytesOb.eq_2 bytesOf.eq_1 bytesOf.eq_2 aNums.eq_1 aNums.eq_2 isU8.eq_1 aCvI.eq_1 aCvS.eq_1 aCvB.eq_1 aCvB.eq_2 aCvT.eq_1 aConv.eq_1 aConv.eq_2 aConv.eq_3 aConv.eq_4 aExO.eq_1 aExO.eq_2 aExtract.eq_1 aNil.eq_1 aNil.eq_2 aNil.eq_3 aCallS.eq_1 aCallS.eq_2 aCallR.eq_1 aCallR.eq_2 aCallK.eq_1 aCallK.eq_2 aCallK.eq_3 aCall.eq_1 aCall.eq_2 takeO.eq_1 AS.takeV.eq_1 AS.takeV.eq_2 AS.takeV.eq_3 AS.takeV.eq_4 AS.takeV.eq_5 AS.takeV.eq_6 AS.takeV.eq_7 AV.oldM.eq_1 AV.oldM.eq_2 AV.oldM.eq_3 AV.oldM.eq_4 AV.oldM.eq_5 AV.oldM.eq_6 AV.oldM.eq_7 AV.oldM.eq_8 AV.oldM.eq_9 AV.oldM.eq_10 AV.oldM.eq_11 AV.oldML.eq_1 AV.oldML.eq_2 subL.eq_1 subL.eq_2 back.eq_1 back.eq_2 back.eq_3 back.eq_4 backL.eq_1 backI.eq_1 backI.eq_2 backI.eq_3 backI.eq_4 backIL.eq_1 aBuiltin.eq_1 aBuiltin.eq_2 aBuiltin.eq_3 aCallee.eq_1 aCallee.eq_2 aCallee.eq_3 abin.eq_1 abin.eq_2 abin.eq_3 abin.eq_4 abin.eq_5 abin.eq_6 abin.eq_7 abin.eq_8 abin.eq_9 abin.eq_10 abin.eq_11 abin.eq_12 abin.eq_13 abin.eq_14 abin.eq_15 abin.eq_17 abin.eq_18 abin.eq_19 abin.eq_20 abin.eq_21 abin.eq_22 abin.eq_23 AS.ev.eq_1 AS.ev.eq_2 AS.ev.eq_3 AS.ev.eq_4 AS.evs.eq_1 AS.evs.eq_2 AS.evp.eq_1 AS.evp.eq_2 AS.put.eq_1 AS.put.eq_2 AS.remL.eq_1 AS.remL.eq_2 AV.has.eq_1 AV.has.eq_2 AV.has.eq_3 AV.has.eq_4 AV.has.eq_5 AV.has.eq_6 AV.has.eq_7 AV.has.eq_8 AV.has.eq_9 AV.has.eq_10 AV.has.eq_11 AV.hasL.eq_1 AV.hasL.eq_2 Ob.drop.eq_1 Ob.drop.eq_2 Ob.drop.eq_3 Ob.drop.eq_4 AV.cells.eq_1 AV.cells.eq_2 AV.cells.eq_3 AV.cells.eq_4 AV.cells.eq_5 AS.snapT.eq_1 AS.snapT.eq_2 AS.snapT.eq_3 AS.snapT.eq_4 AS.snapT.eq_5 AS.snapT.eq_6 AS.snapT.eq_7 AS.snap.eq_1 AS.snap.eq_2 mapO.eq_1 mapO.eq_2 intern.eq_1 intern.eq_2 intern.eq_3 intern.eq_4 intern.eq_5 intern.eq_6 intern.eq_7 intern.eq_8 intern.eq_9 intern.eq_10 intern.eq_11 internL.eq_1 internL.eq_2 zipSl.eq_1 zipSl.eq_2 AV.ids.eq_1 AV.ids.eq_2 AV.ids.eq_3 AV.ids.eq_4 AV.ids.eq_5 AV.ids.eq_6 AV.ids.eq_7 AV.ids.eq_8 AV.ids.eq_9 AV.ids.eq_10 AV.ids.eq_11 AV.idsL.eq_1 AV.idsL.eq_2 AV.sub.eq_1 AV.sub.eq_2 AV.sub.eq_3 AV.sub.eq_4 AV.sub.eq_5 AV.sub.eq_6 AV.sub.eq_7 AV.sub.eq_8 AV.sub.eq_9 AV.sub.eq_10 AV.sub.eq_11 AV.subL.eq_1 AV.subL.eq_2 AS.frzL.eq_1 AS.frzL.eq_2 AS.absT.eq_1 AS.absT.eq_2 AS.absT.eq_4 AS.absL.eq_1 AS.absL.eq_2 AS.absOk.eq_1 AS.absOkL.eq_1 AS.absOkL.eq_2 hid.eq_1 hids.eq_1 hids.eq_2 AS.appBase.eq_1 AS.appBase.eq_2 AS.appSrc.eq_1 appFits.eq_1 appFits.eq_2 appFits.eq_3 avFill.eq_1 avFill.eq_2 avc.eq_1 avc.eq_2 avc1.eq_1 Kd.agg.eq_1 Kd.agg.eq_2 okR.eq_1 okR.eq_2 okR.eq_3 okR.eq_4 okR.eq_5 okR.eq_6 okR.eq_7 okR.eq_8 zt.eq_1 rvB.eq_1 rvP.eq_1 rvA.eq_1 rvA.eq_2 rv1.eq_1 outTO.eq_1 outT.eq_1 outT.eq_2 outT.eq_3 outTn.eq_1 outOO.eq_1 outO.eq_1 outO.eq_2 boxOf.eq_1 outP.eq_1 outP.eq_2 outP.eq_3 outP.eq_4 outP.eq_5 outP.eq_6 outP.eq_7 outP.eq_8 outPL.eq_1 outPL.eq_2 outI.eq_1 outI.eq_2 outI.eq_3 outI.eq_4 outI.eq_5 outIL.eq_1 outZ.eq_1 outZ.eq_2 outZ.eq_3 outZ.eq_4 outZ.eq_5 outZL.eq_1 finO.eq_1 finO.eq_2 fin.eq_1 fin.eq_2 fin.eq_3 cellAV.eq_1 cellAV.eq_2 numsOf.eq_1 numsOf.eq_2 aop.eq_1 aop.eq_2 aop.eq_3 aop.eq_4 aop.eq_5 aop.eq_6 aop.eq_7 aop.eq_8 aop.eq_9 aop.eq_10 aop.eq_11 aop.eq_12 aop.eq_13 aop.eq_14 aop.eq_15 aop.eq_16 aop.eq_17 aop.eq_18 aop.eq_19 aop.eq_20 aop.eq_21 aop.eq_22 aop.eq_23 aop.eq_24 aop.eq_25 aop.eq_26 tmpsOf.eq_1 tmpsOf.eq_2 tmpsOf.eq_3 tmpsOf.eq_4 tmpsOf.eq_5 AV.refs.eq_1 AV.refs.eq_2 AV.refs.eq_3 AV.refs.eq_4 AV.refs.eq_5 AV.refs.eq_6 AV.refs.eq_7 AV.refs.eq_8 AV.refs.eq_9 AV.refs.eq_10 AV.refs.eq_11 AV.refsL.eq_1 AV.refsL.eq_2 refsT.eq_1 refsT.eq_2 refsO.eq_1 refsO.eq_2 refsO.eq_3 refsO.eq_4 refsO.eq_5 refsO.eq_6 refsB.eq_1 refsB.eq_2 clos.eq_1 clos.eq_2 keepL.eq_1 keepL.eq_2 AV.hasM.eq_1 AV.hasM.eq_2 AV.hasM.eq_3 AV.hasM.eq_4 AV.hasM.eq_5 AV.hasM.eq_6 AV.hasM.eq_7 AV.hasM.eq_8 AV.hasM.eq_9 AV.hasM.eq_10 AV.hasM.eq_11 AV.hasML.eq_1 AV.hasML.eq_2 Ob.dropM.eq_1 Ob.dropM.eq_2 Ob.dropM.eq_3 Ob.dropM.eq_4 nsC.eq_1 nsC.eq_2 okGuard.eq_1 okGuard.eq_2 AS.purges.eq_1 AS.purges.eq_2 dropMB.eq_1 dropMB.eq_2 newB.eq_1 newB.eq_2 ptB.eq_1 ptB.eq_2 lookC.eq_1 lookC.eq_2 dropB.eq_1 dropB.eq_2 leS.eq_1 leS.eq_2 leT.eq_1 leT.eq_2 AS.mvs.eq_1 AS.mvs.eq_2 AS.mvA.eq_1 AS.mvA.eq_2 AS.mvB.eq_1 aSetO.eq_1 aSetO.eq_2 aSh.eq_1 aSh.eq_2 arK.eq_1 aIdxA.eq_1 aIdxA.eq_2 arT.eq_1 aSlHB.eq_1 aSlHB.eq_2 aSlHO.eq_1 aSlHZ.eq_1 aSlHZ.eq_2 isSlT.eq_1 isNilC.eq_1 aNilO.eq_1 aNilX.eq_1 aNilX.eq_2 aNilX.eq_3 aNilC.eq_1 aNilC.eq_2 aBinQ.eq_1 aBinQ.eq_2 aMin.eq_1 flT.eq_1 flT.eq_2 flT.eq_3 mpT.eq_1 aMkMap.eq_1 aMkMap.eq_2 strA.eq_1 keyMK.eq_1 keyMK.eq_2 keyMK.eq_3 mkB.eq_1 mkB.eq_2 mkB.eq_3 aMp2.eq_1 aMp1.eq_1 aMp0.eq_1 aMapU.eq_1 aLk2.eq_1 aLk2.eq_2 aLk1.eq_1 aLk0.eq_1 aLookup.eq_1 aLenMO.eq_1 aLenM.eq_1 glV.eq_1 glV.eq_2 evG.eq_1 evG.eq_2 evG.eq_3 evG.eq_4 lkHitO.eq_1 lkHitO.eq_2 lkHitO.eq_3 lkHitO.eq_4 lkHit.eq_1 lkHit.eq_2 lkF.eq_1 lkF.eq_2 lkFind.eq_1 lkFind.eq_2 lkV.eq_1 lkV.eq_2 lkV.eq_3 lkV.eq_4 lkV.eq_5 AS.lkO.eq_1 AS.lkO.eq_2 AS.lkOf.eq_1 rawT.eq_1 rawT.eq_2 rawT.eq_3 rawT.eq_4 rawT.eq_5 rawT.eq_6 rawOf.eq_1 rawOf.eq_2 rawOf.eq_3 rawOf.eq_4 rawOf.eq_5 rawOf.eq_6 rawOf.eq_7 rawOf.eq_8 rawOf.eq_9 rawOf.eq_10 rawOf.eq_11 aLkR.eq_1 aLkR.eq_2 aLk.eq_1 aLk.eq_2 KL.eq_1 lkDrop.eq_1 lkDrop.eq_2 lkParO.eq_1 lkParO.eq_2 lkParO.eq_3 lkParO.eq_4 lkPar.eq_1 lkPar.eq_2 lkI.eq_1 lkI.eq_2 lkIds.eq_1 lkIds.eq_2 adLd.eq_1 run_nil run_b run_l run_skip run_label run_seq run_cond brV_b brB_t brB_f run_block run_exit run_ret run_region runX_nil runX_c runX_c' runX_b runX_b' runX_l runX_l' exB_t exB_f run_o run_op run_opg gV_b gV_t gB_tt gB_ff gB_tf gB_ft rs_eq kv KI aLenN aBS1 aApp1 aStore1 szOk gv gd s0 idOf look_cons lookC frzU_t frzU_f orT orF drop_any drop_nil drop_t drop_h drop_pb drop_pa drop_agg drop_tup drop_fn dropB kill_eq set_eq rem_eq re_eq up_eq get_eq ob_eq Ob.drop apl fpl plainTy AS.frz splice cond_true cond_false List.map_cons List.map_nil List.drop_zero List.drop_succ_cons List.drop_nil List.take_zero List.take_succ_cons List.take_nil List.getElem?_cons_zero List.getElem?_cons_succ List.getElem?_nil List.length_cons List.length_nil Option.map_some Option.map_none Option.bind_some Option.bind_none List.cons_append List.nil_append List.append_nil Option.getD_some Option.getD_none List.all_cons List.all_nil Bool.and_true Bool.true_and Bool.or_false Bool.false_or Bool.or_true Bool.true_or List.flatten_cons List.flatten_nil List.replicate_succ List.replicate_zero and_true true_and avOf_t avOf_f agg_bool agg_int agg_str agg_slice agg_struct agg_func agg_ptr agg_map avc_bool avc_int avc_str avc_fn avc1_bool avc1_int avc1_str avc1_fn zt_bool zt_int zt_str cells_nil cells_t cells_h cells_pb cells_fn snap_t snap_nil snap_h snap_pb snap_fn rv1_one rv1_two outI_t outI_oh outI_on outI_any outI_nil outZ_th outZ_tt outZ_tn outZ_o outZ_any outZ_nil outIL_nil outZL_nil finN finR ne_eq not_false_eq_true not_true_eq_false List.nodup_nil List.not_mem_nil false_implies implies_true eq_self true_or or_true Option.some.injEq shl_add shl_sub shl_mul shl_quo shl_rem shl_and shl_or shl_xor shl_andNot shl_eql shl_neq shl_lss shl_leq shl_gtr shl_geq shl_shr shl_shl appDeep_none appDeep_sn appSrc_h appSrc_nil fits_ft fits_tn fits_tf isStr_slice obFlat_box Nat.le_refl nbeq_self List.length_map updZ_s updZ_n dropM_eq purge_eq newIds_cons newIds_nil purgeT_nil purgeT_cons memN_cons memN_nil bd_d bd_c bd_g bd_p bd_t bd_o preds_nil preds_cons hasIns insB List.any_cons List.any_nil adK_eq adr_nil adG_eq kdOp noLen creates Op.operands Call.operands nsOf adT adI adJ plainB rst List.append_eq nsD_f nsD_n nsD_t nOf_0 nOf_1 nOf_2 chO_0 chO_1 chO_2 keepK_0 keepK_1 keepK_2 eqRes AS.mv fits KM aCallM notNew kdCall arK_i64 arK_i32 arK_u8 arK_u64 arT_sl isNilC_t isNilC_f isNilC_g isNilC_i isNilC_b isNilC_s isNilC_a isNilC_n andBF andBT aCallK_2 ble_dec hid_t hid_nil hid_any hid_pb hid_fn absOk_t absOk_nil absOk_pb absOk_h absOkO_1 decide_true decide_false Array.toList_append chunk_0 chunk_1 chunk_2 chunk_3 back_t back_nil back_ht backL_nil backI_t backI_nil backI_ht backIL_nil AS.mvJ nbeq_dec runR_f runR_t loadB Option.isSome_some Option.isSome_none nodup1 adr_none adr_some adO_s adV_b adV_t adB_tt adB_ff adB_tf adB_ft adS_eq lenL.eq_1 lenO.eq_1 lenO.eq_2 lenV.eq_1 lenV.eq_2 lenV.eq_3 lenV.eq_4 optN optS absT_ft
attribute [local go_sem] ty3 ty4 ty5 ty9 ty21 ty22 ty23 ty25 ty26 ty28 ty29 ty30 ty32 ty34 ty35 ty37 ty40 ty42 ty43 ty45 ty46 ty47 ty49 ty53 ty54 ty56 ty106 ty108 ty120 ty124 ty126 ty129 ty131 ty133 ty147 ty161 ty192 ty194 ty196 ty198 ty213 ty215 ty221 ty224 ty229 ty237 ty244 ty268 lv53 lv147 lv161 lv198 zb4 leS leT fits AS.mvs encStr_eq aIdx_str EStr_dec decStrs decStrs0 EStr_enc EStr_n encInt_eq aIdx_int EInt_dec decInts decInts0 EInt_enc EInt_n AllV_Int len_Int lc_enc l0_enc asl_enc ag_enc aow_enc ABool_enc AInt_enc AStr_enc AU8_enc ABool_dec AInt_dec AStr_dec AU8_dec asl_dec ag_dec aow_dec bind_some pr2.eq_1 l0_nil lc_cons unT.eq_1 K0.eq_1 M0.eq_1 KI AllV_Str len_Str ctR_eq ctM_eq ro_kd ro_ro mu_kd mu_mu encAd_eq aIdx_Ad EAd_dec decAds decAds0 EAd_enc EAd_n len_Ad Ad_eta AllV_Ad encMl_eq aIdx_Ml EMl_dec decMls decMls0 EMl_enc EMl_n len_Ml Ml_eta mkMl.eq_1 owMl_eq AMl_enc AMl_dec encRc_eq aIdx_Rc ERc_dec decRcs decRcs0 ERc_enc ERc_n len_Rc Rc_eta AllV_Rc encIm_eq aIdx_Im EIm_dec decIms decIms0 EIm_enc EIm_n len_Im Im_eta mkIm.eq_1 owIm_eq AIm_enc AIm_dec encSp_eq aIdx_Sp ESp_dec decSps decSps0 ESp_enc ESp_n len_Sp Sp_eta mkSp.eq_1 owSp_eq ASp_enc ASp_dec encWy_eq aIdx_Wy EWy_dec decWys decWys0 EWy_enc EWy_n len_Wy Wy_eta AllV_Wy encCf_eq aIdx_Cf ECf_dec decCfs decCfs0 ECf_enc ECf_n len_Cf Cf_eta mkCf.eq_1 owCf_eq ACf_enc ACf_dec encGm_eq aIdx_Gm EGm_dec decGms decGms0 EGm_enc EGm_n len_Gm Gm_eta mkGm.eq_1 owGm_eq AGm_enc AGm_dec encBx_eq aIdx_Bx EBx_dec decBxs decBxs0 EBx_enc EBx_n len_Bx Bx_eta mkBx.eq_1 owBx_eq ABx_enc ABx_dec encLs_eq aIdx_Ls ELs_dec decLss decLss0 ELs_enc ELs_n len_Ls Ls_eta AllV_Ls encHs_eq aIdx_Hs EHs_dec decHss decHss0 EHs_enc EHs_n len_Hs Hs_eta mkHs.eq_1 owHs_eq AHs_enc AHs_dec
def kS (bs : List Bx) (a : Ad) : Nat := (bs.takeWhile fun b => decide (byD b.addr a < 0)).length
def PartB (bs : List Bx) (a : Ad) : Prop := ∀ j, kS bs a ≤ j → j < bs.length → ¬ byD (bs.getD j default).addr a < 0
theorem kS_le (a : Ad) : ∀ (bs : List Bx), kS bs a ≤ bs.length
  | [] => by simp [kS]
  | b :: t => by
    have := kS_le a t
    unfold kS at this ⊢
    rw [List.takeWhile_cons]
    split
    · simpa using this
    · simp
theorem kS_lt (a : Ad) : ∀ (bs : List Bx) {j : Nat}, j < kS bs a → byD (bs.getD j default).addr a < 0
  | [], j, h => by simp [kS] at h
  | b :: t, j, h => by
    unfold kS at h
    rw [List.takeWhile_cons] at h
    split at h
    · rename_i hb
      cases j with
      | zero => simpa using hb
      | succ j =>
        have := kS_lt a t (j := j) (by unfold kS; simpa using h)
        simpa using this
    · simp at h
theorem kS_at (a : Ad) : ∀ (bs : List Bx), kS bs a < bs.length → ¬ byD (bs.getD (kS bs a) default).addr a < 0
  | [], h => by simp at h
  | b :: t, h => by
    by_cases hb : byD b.addr a < 0
    · have e : kS (b :: t) a = kS t a + 1 := by unfold kS; rw [List.takeWhile_cons, if_pos (decide_eq_true hb), List.length_cons]
      rw [e] at h ⊢
      have := kS_at a t (by simpa using h)
      simpa using this
    · have e : kS (b :: t) a = 0 := by unfold kS; rw [List.takeWhile_cons, if_neg (by simpa using hb)]; rfl
      rw [e]
      simpa using hb
def fndB (bs : List Bx) (a : Ad) : Bool := decide (kS bs a < bs.length) && decide (byD (bs.getD (kS bs a) default).addr a = 0)
def rIB (p : Int × Bool) : AV := .tup [.t (.v (.int .i64 p.1)), .t (.v (.bool p.2))]
theorem rIB_solid (p : Int × Bool) : Solid (rIB p) := .tup _ fun c hc => by
  simp only [List.mem_cons, List.not_mem_nil, or_false] at hc
  rcases hc with rfl | rfl
  · exact .v _
  · exact .v _
theorem half_eq {i j : Nat} : ((i : Int) + (j : Int)) / 2 = (((i + j) / 2 : Nat) : Int) := by omega
theorem half_toNat {i j : Nat} : ((((i + j) / 2 : Nat) : Int)).toNat = (i + j) / 2 := Int.toNat_natCast _
def c149 : Ct := ctR (lc EBx.ag (lc EAd.ag l0)) (fun p => True) (fun p => .t (.v (.int .i64 (byD p.1.addr p.2.1))))
section
attribute [local go_sem] c110
theorem good149 {G : Gt} (hG : OkG G) (hh : G.e 110 = roEnt 0 c110) : Gd G 149 (roEnt 0 c149) := by
  refine gR (dp := fun _ => true) (fn := Tryz.f149) (n := 2) (fun _ => rfl) (by kernel_rfl) rfl (by kernel_rfl) hG (Nat.le_of_ble_eq_true rfl) (by kernel_rfl) (by decide) (fun _ _ => .v _) ?_
  rintro ⟨b, a, ⟨⟩⟩ hpre
  simp -implicitDefEqProofs only [Tryz.f149, go_sem, hh] at hpre ⊢
  repeat' (first | with_reducible apply And.intro | with_reducible intro _ | ((first | apply brB_split | apply aPickB_split | apply gB_split | apply adB_split) <;> intro hb <;> simp -implicitDefEqProofs only [hb, go_sem, hh] <;> try simp only [qz] at hb))
  all_goals first | rfl | omega | trace_state
end
def c148 : Ct := ctR (lc EBx.asl (lc EAd.ag (lc (AFn0 149) l0))) (fun p => PartB p.1 p.2.1 ∧ p.1.length ≤ 4000000) (fun p => rIB (kS p.1 p.2.1, fndB p.1 p.2.1))
section
attribute [local go_sem] c149 AFn0_dec AFn0_enc rIB.eq_1 List.length_map
set_option maxHeartbeats 1600000 in
theorem good148 {G : Gt} (hG : OkG G) (hh : G.e 149 = roEnt 0 c149) : Gd G 148 (roEnt 0 c148) := by
  refine gR (dp := fun _ => true) (fn := Tryz.f148) (n := 3) (fun _ => rfl) (by kernel_rfl) rfl (by kernel_rfl) hG (Nat.le_of_ble_eq_true rfl) (by kernel_rfl) (by decide) (fun _ p => rIB_solid _) ?_
  rintro ⟨xs, a, u, ⟨⟩⟩ hpre
  obtain ⟨hpt, hlen⟩ := hpre
  dsimp only at hpt hlen ⊢
  have hkl := kS_le a xs
  simp -implicitDefEqProofs only [Tryz.f148, go_sem, hh]
  repeat' (first | with_reducible apply And.intro | with_reducible intro _ | ((first | apply brB_split | apply aPickB_split | apply gB_split | apply adB_split) <;> intro hb <;> simp -implicitDefEqProofs only [hb, go_sem, hh] <;> try simp only [qz] at hb))
  all_goals first | rfl | omega | skip
  refine run_loop [] (ι := {p : Nat × Nat // p.1 ≤ kS xs a ∧ kS xs a ≤ p.2 ∧ p.2 ≤ xs.length}) (fun p => ⟨[(0, .t (.sl 3 (xs.map encBx))), (2, .t (.fn 149 [])), (4, .pb 1004 0), (8, .t (.v (.int .i64 xs.length))), (9, .t (.v (.int .i64 p.1.1))), (10, .t (.v (.int .i64 p.1.2)))], [(1004, some (.box [.t (.v (.string a.user)), .t (.v (.string a.domain))]))]⟩) (fun p => p.1.2 - p.1.1) ⟨(0, xs.length), Nat.zero_le _, hkl, Nat.le_refl _⟩ rfl ?_ ?_
  · simp -implicitDefEqProofs only [go_sem, hh]
    try simp
  · rintro ⟨⟨i, j⟩, hi, hj, hn⟩
    dsimp only at hi hj hn ⊢
    by_cases hlt : (i : Int) < (j : Int)
    · obtain ⟨m, hm⟩ : ∃ m, m = (i + j) / 2 := ⟨_, rfl⟩
      have hmi : i ≤ m := by omega
      have hmj : m < j := by omega
      have he : ((i : Int) + (j : Int)) / 2 ^ Int.toNat 1 = (m : Int) := by
        rw [show (2 : Int) ^ Int.toNat 1 = 2 from rfl]
        omega
      have hp0 : (0 : Int) ≤ (i : Int) + (j : Int) := by omega
      by_cases hb : byD (xs.getD m default).addr a < 0
      · have hkm : m < kS xs a := Classical.byContradiction fun z => hpt m (by omega) (by omega) hb
        simp -implicitDefEqProofs only [hlt, hb, he, decide_true, Int.toNat_natCast, go_sem, hh]
        repeat' (first | with_reducible apply And.intro | with_reducible intro _ | ((first | apply brB_split | apply aPickB_split | apply gB_split | apply adB_split) <;> intro hb <;> simp -implicitDefEqProofs only [hb, go_sem, hh] <;> try simp only [qz] at hb))
        all_goals (try simp only [maxLen] at *)
        all_goals first | rfl | omega | contradiction | skip
        refine ⟨⟨(m + 1, j), by dsimp only; omega⟩, by dsimp only; omega, ?_⟩
        simp -implicitDefEqProofs only [go_sem, hh]
        try simp
      · have hkm : kS xs a ≤ m := Classical.byContradiction fun z => hb (kS_lt a xs (by omega))
        simp -implicitDefEqProofs only [hlt, hb, he, decide_true, decide_false, Int.toNat_natCast, go_sem, hh]
        repeat' (first | with_reducible apply And.intro | with_reducible intro _ | ((first | apply brB_split | apply aPickB_split | apply gB_split | apply adB_split) <;> intro hb <;> simp -implicitDefEqProofs only [hb, go_sem, hh] <;> try simp only [qz] at hb))
        all_goals (try simp only [maxLen] at *)
        all_goals first | rfl | omega | contradiction | skip
        refine ⟨⟨(i, m), by dsimp only; omega⟩, by dsimp only; omega, ?_⟩
        simp -implicitDefEqProofs only [go_sem, hh]
        try simp
    · obtain rfl : j = i := by omega
      obtain rfl : j = kS xs a := by omega
      by_cases hl : ((kS xs a : Nat) : Int) < (xs.length : Int)
      · have hf : fndB xs a = decide (byD (xs.getD (kS xs a) default).addr a = 0) := by
          unfold fndB
          rw [decide_eq_true (show kS xs a < xs.length by omega)]; rfl
        rw [hf]
        simp -implicitDefEqProofs only [hlt, hl, decide_true, decide_false, Int.toNat_natCast, go_sem, hh]
        repeat' (first | with_reducible apply And.intro | with_reducible intro _ | ((first | apply brB_split | apply aPickB_split | apply gB_split | apply adB_split) <;> intro hb <;> simp -implicitDefEqProofs only [hb, go_sem, hh] <;> try simp only [qz] at hb))
        all_goals (try simp only [maxLen] at *)
        all_goals first | rfl | omega | contradiction | trace_state
      · have hf : fndB xs a = false := by
          unfold fndB
          rw [decide_eq_false (show ¬ kS xs a < xs.length by omega)]; rfl
        rw [hf]
        simp -implicitDefEqProofs only [hlt, hl, decide_true, decide_false, Int.toNat_natCast, go_sem, hh]
        repeat' (first | with_reducible apply And.intro | with_reducible intro _ | ((first | apply brB_split | apply aPickB_split | apply gB_split | apply adB_split) <;> intro hb <;> simp -implicitDefEqProofs only [hb, go_sem, hh] <;> try simp only [qz] at hb))
        all_goals (try simp only [maxLen] at *)
        all_goals first | rfl | omega | contradiction | trace_state
end
def cellsA : AV → List AV
  | .agg cs => cs
  | _ => []
def obHsD : AV → Option Hs
  | .ob cs => owHsD (.agg cs)
  | _ => none
def AHsp : AD Hs where
  enc a := .ob (cellsA (owHs a))
  dec := obHsD
  ed := fun a => AHs.ed a
  de := fun x a h => by
    unfold obHsD at h
    split at h
    · rename_i cs
      have h1 : AV.agg cs = owHs a := AHs.de _ _ h
      show AV.ob cs = .ob (cellsA (owHs a))
      rw [← h1]; rfl
    · cases h
theorem AHsp_enc (a : Hs) : AHsp.enc a = .ob [.t (.v (.string a.conf.name)), .o true 1 (a.conf.own.map encStr), .o true 2 (a.conf.ways.map encWy), .t (.v (.int .i64 a.spool.last)), .o true 5 (a.spool.items.map encIm), .o true 3 (a.boxes.map encBx), .o true 3 (a.lost.map encLs)] := rfl
theorem AHsp_dec {x0 : ByteArray} {x1 : List (List T)} {x2 : List (List T)} {x3 : Int} {x4 : List (List T)} {x5 : List (List T)} {x6 : List (List T)} : AHsp.dec (.ob [.t (.v (.string x0)), .o true 1 x1, .o true 2 x2, .t (.v (.int .i64 x3)), .o true 5 x4, .o true 3 x5, .o true 3 x6]) = mkHs x0 x3 (EStr.decL x1) (EWy.decL x2) (EIm.decL x4) (EBx.decL x5) (ELs.decL x6) := rfl
theorem byD_0 (a b : Ad) : byD a b = 0 ↔ a = b := by
  unfold byD
  obtain ⟨u, d⟩ := a
  obtain ⟨v, e⟩ := b
  by_cases h : cmpS d e = 0
  · rw [if_pos h, cmpS_0]
    have := (cmpS_0 _ _).1 h
    exact ⟨fun q => by have q : u = v := q; rw [q, this], fun q => by injection q⟩
  · rw [if_neg h]
    exact ⟨fun q => absurd q h, fun q => by injection q with _ q; exact absurd ((cmpS_0 _ _).2 q) h⟩
def boxIn (bs : List Bx) (a : Ad) (g : Gm) : List Bx :=
  if fndB bs a = true then bs.set (kS bs a) ⟨(bs.getD (kS bs a) default).addr, (bs.getD (kS bs a) default).mails ++ [g]⟩
  else bs.take (kS bs a) ++ (⟨a, [g]⟩ :: bs.drop (kS bs a))
theorem boxIn_y {bs : List Bx} {a : Ad} {g : Gm} (h : fndB bs a = true) : boxIn bs a g = bs.set (kS bs a) ⟨(bs.getD (kS bs a) default).addr, (bs.getD (kS bs a) default).mails ++ [g]⟩ := if_pos h
theorem boxIn_n {bs : List Bx} {a : Ad} {g : Gm} (h : fndB bs a = false) : boxIn bs a g = bs.take (kS bs a) ++ (⟨a, [g]⟩ :: bs.drop (kS bs a)) := if_neg (by rw [h]; decide)
theorem fndB_lt {bs : List Bx} {a : Ad} (h : fndB bs a = true) : kS bs a < bs.length := by
  unfold fndB at h
  simp only [Bool.and_eq_true, decide_eq_true_eq] at h
  exact h.1
theorem bx_put {bs : List Bx} {k : Nat} {u d : ByteArray} {ms : List Gm} {g : Gm} : (bs.map encBx).set k [.v (.string u), .v (.string d), .sl 3 (ms.map encGm ++ [[.v (.string g.frm.user), .v (.string g.frm.domain), .sl 1 (g.body.map encStr)]])] = (bs.set k ⟨⟨u, d⟩, ms ++ [g]⟩).map encBx := by
  have h : encBx ⟨⟨u, d⟩, ms ++ [g]⟩ = [.v (.string u), .v (.string d), .sl 3 (ms.map encGm ++ [[.v (.string g.frm.user), .v (.string g.frm.domain), .sl 1 (g.body.map encStr)]])] := by
    show [_, _, T.sl 3 ((ms ++ [g]).map encGm)] = _
    rw [List.map_append]; rfl
  rw [← h, List.map_set]
theorem bx_put0 {bs : List Bx} {k : Nat} {u d : ByteArray} {g : Gm} : (bs.map encBx).set k [.v (.string u), .v (.string d), .sl 3 [[.v (.string g.frm.user), .v (.string g.frm.domain), .sl 1 (g.body.map encStr)]]] = (bs.set k ⟨⟨u, d⟩, [g]⟩).map encBx := bx_put (ms := [])
def boxE (bs : List Bx) (a : Ad) : List Bx := insBx bs (kS bs a) a
theorem boxE_len (bs : List Bx) (a : Ad) : (boxE bs a).length = bs.length + 1 := by
  have := kS_le a bs
  unfold boxE insBx
  simp only [List.length_append, List.length_take, List.length_drop, List.length_cons, List.length_nil]; omega
theorem boxE_at (bs : List Bx) (a : Ad) : (boxE bs a).getD (kS bs a) default = ⟨a, []⟩ := by
  have := kS_le a bs
  unfold boxE insBx
  rw [List.getD_eq_getElem?_getD, List.getElem?_append_right (by rw [List.length_take]; omega), List.length_take, Nat.min_eq_left this, Nat.sub_self]
  rfl
theorem boxE_set (bs : List Bx) (a : Ad) (y : Bx) : (boxE bs a).set (kS bs a) y = bs.take (kS bs a) ++ (y :: bs.drop (kS bs a)) := by
  have := kS_le a bs
  unfold boxE insBx
  rw [List.set_append_right _ _ (by rw [List.length_take]; omega), List.length_take, Nat.min_eq_left this, Nat.sub_self]
  rfl
def c77 : Mt := ctM (lc AHsp (lc EAd.ag (lc AGm l0))) (fun p => PartB p.1.boxes p.2.1 ∧ p.1.boxes.length ≤ 3000000 ∧ ∀ b ∈ p.1.boxes, b.mails.length ≤ 3000000) (fun p => ([AHsp.enc ⟨p.1.conf, p.1.spool, boxIn p.1.boxes p.2.1 p.2.2.1, p.1.lost⟩, EAd.ag.enc p.2.1, .agg [.t (.v (.string p.2.2.1.frm.user)), .t (.v (.string p.2.2.1.frm.domain)), .any]], .tup []))
section
attribute [local go_sem] c148 c150 AHsp_enc AHsp_dec AFn0_dec AFn0_enc rIB.eq_1 ABxN_dec ABxN_enc back_ha backI_ha outP_ob outI_ob outZ_ob takeV_pb takeV_pb8 boxOf_b takeB_s outPb_s outIb_s outZb_s rv1_nil List.length_map List.length_append List.length_cons List.length_nil List.map_append List.map_nil Nat.zero_add List.nil_append AS.opn AS.cls AS.nilb AS.renb AS.up Bool.not_false Bool.not_true List.set_set List.set_cons_zero List.set_cons_succ List.set_nil List.mem_singleton forall_eq
set_option maxHeartbeats 3200000 in
theorem good77 {G : Gt} (hG : OkG G) (hh : G.e 148 = roEnt 0 c148 ∧ G.e 150 = muEnt c150) : Gd G 77 (muEnt c77) := by
  refine gM (dp := fun n => !(Nat.beq n 100004)) (fn := Tryz.f77) (n := 3) (fun _ => rfl) (by kernel_rfl) rfl (by kernel_rfl) hG (Nat.le_of_ble_eq_true rfl) (by kernel_rfl) ?_
  rintro ⟨h, a, g, ⟨⟩⟩ hpre
  obtain ⟨hpt, hl1, hl2⟩ := hpre
  dsimp only at hpt hl1 hl2 ⊢
  have hkl := kS_le a h.boxes
  obtain ⟨k, hk⟩ : ∃ k, k = kS h.boxes a := ⟨_, rfl⟩
  cases hf : fndB h.boxes a
  · have hk2 : k < (insBx h.boxes k a).length := by have := boxE_len h.boxes a; unfold boxE at this; rw [← hk] at this; omega
    have hat : (insBx h.boxes k a).getD k default = ⟨a, []⟩ := by rw [hk]; exact boxE_at h.boxes a
    have hst : ∀ y, (insBx h.boxes k a).set k y = h.boxes.take k ++ (y :: h.boxes.drop k) := fun y => by rw [hk]; exact boxE_set h.boxes a y
    have hk3 : k < ((insBx h.boxes k a).map encBx).length := by rw [List.length_map]; exact hk2
    rw [boxIn_n hf, ← hk, ← hst]
    simp -implicitDefEqProofs only [Tryz.f77, hf, ← hk, Int.toNat_natCast, go_sem, hh]
    repeat' (first | with_reducible apply And.intro | with_reducible intro _ | ((first | apply brB_split | apply aPickB_split | apply gB_split | apply adB_split) <;> intro hb <;> simp -implicitDefEqProofs only [hb, go_sem, hh] <;> try simp only [qz] at hb))
    all_goals (try simp only [maxLen] at *)
    all_goals first | with_reducible assumption | rfl | omega | contradiction | decide | skip
    refine run_open 1028 1901 2901 k 2 rfl (map_get encBx hk2) rfl rfl fun x => run_go ?_
    simp -implicitDefEqProofs only [aCell_set hk3, aSet_set hk3, hat, Int.toNat_natCast, go_sem, hh]
    repeat' (first | with_reducible apply And.intro | with_reducible intro _ | ((first | apply brB_split | apply aPickB_split | apply gB_split | apply adB_split) <;> intro hb <;> simp -implicitDefEqProofs only [hb, go_sem, hh] <;> try simp only [qz] at hb))
    all_goals (try simp only [maxLen] at *)
    all_goals first | with_reducible assumption | rfl | omega | contradiction | decide | (simp; omega) | exact bx_put | exact bx_put0 | trace_state
  · have hlt := fndB_lt hf
    rw [← hk] at hlt
    have hk3 : k < (h.boxes.map encBx).length := by rw [List.length_map]; exact hlt
    have hml := hl2 _ (getD_mem hlt)
    rw [boxIn_y hf, ← hk]
    simp -implicitDefEqProofs only [Tryz.f77, hf, ← hk, Int.toNat_natCast, go_sem, hh]
    repeat' (first | with_reducible apply And.intro | with_reducible intro _ | ((first | apply brB_split | apply aPickB_split | apply gB_split | apply adB_split) <;> intro hb <;> simp -implicitDefEqProofs only [hb, go_sem, hh] <;> try simp only [qz] at hb))
    all_goals (try simp only [maxLen] at *)
    all_goals first | with_reducible assumption | rfl | omega | contradiction | decide | skip
    refine run_open 5900 1901 2901 k 2 rfl (map_get encBx hlt) rfl rfl fun x => run_go ?_
    simp -implicitDefEqProofs only [aCell_set hk3, aSet_set hk3, Int.toNat_natCast, go_sem, hh]
    repeat' (first | with_reducible apply And.intro | with_reducible intro _ | ((first | apply brB_split | apply aPickB_split | apply gB_split | apply adB_split) <;> intro hb <;> simp -implicitDefEqProofs only [hb, go_sem, hh] <;> try simp only [qz] at hb))
    all_goals (try simp only [maxLen] at *)
    all_goals first | with_reducible assumption | rfl | omega | contradiction | decide | (simp; omega) | exact bx_put | exact bx_put0 | trace_state
end
end Go.V
namespace Go.V
open Go Go.Proofs
set_option maxRecDepth 100000
set_option linter.unusedSimpArgs false
set_option linter.unusedVariables false
attribute [local go_sem] aPickB.eq_1 aPickB.eq_2 aPick.eq_1 aBox.eq_1 aBox.eq_2 aAlloc.eq_1 aAlloc.eq_2 aLoadB.eq_1 aLoadB.eq_2 aLoadB.eq_3 aLoadB.eq_4 aLoadB.eq_5 aLoadA.eq_1 aLoadA.eq_2 aLoadA.eq_3 aLoadA.eq_4 aLoadA.eq_5 aLoadP.eq_1 aLoadP.eq_2 aLoadP.eq_3 aLoad.eq_1 aLoad.eq_2 aFAx.eq_1 aFAx.eq_2 aFAx.eq_3 aFA.eq_1 aFA.eq_2 aFx.eq_1 aF.eq_1 aF.eq_2 fld.eq_1 elT.eq_1 aIdxH.eq_1 aIdxH.eq_2 aIdxH.eq_3 aIdxH.eq_4 aIdxH.eq_5 aIdxP.eq_1 aIdxP.eq_2 aIndexAddr.eq_1 aIndexAddr.eq_2 aIndexAddr.eq_3 isStr.eq_1 aIndex.eq_1 aSlStr.eq_1 aSlRo.eq_1 aSlZ.eq_1 aSlZ.eq_2 aSlice.eq_1 aSlice.eq_2 aSlice.eq_3 bnd.eq_1 bnd.eq_2 aBuildO.eq_1 aBuildO.eq_2 aBuild.eq_1 aNewArr.eq_1 aNewArr.eq_2 aBS.eq_1 aBS.eq_2 aBuildSlice.eq_1 aBuildSlice.eq_2 aMakeSlice.eq_1 appDeep.eq_1 aApp2.eq_1 aAppend.eq_1 aAppend.eq_2 aStoreB.eq_1 aStoreA.eq_1 obFlat.eq_1 aStore2.eq_1 aStore2.eq_2 aStoreP.eq_1 aStoreP.eq_2 aStore.eq_1 aStore.eq_2 isShl.eq_1 isShl.eq_2 isBool.eq_1 aBinI.eq_1 aBinI.eq_2 aBinB.eq_1 aBinB.eq_2 aEq.eq_1 aEq.eq_2 aEq.eq_3 aEq.eq_4 aEqG.eq_1 aEqG.eq_2 aBin.eq_1 aBin.eq_2 aBin.eq_3 aBin.eq_4 aUn.eq_1 aUn.eq_2 aLenO.eq_1 aLenS.eq_1 aLenS.eq_2 aLenS.eq_3 aLenT.eq_1 aLen.eq_1 aLen.eq_2 aLen.eq_3 bytesOb.eq_1 bytesOb.eq_2 bytesOf.eq_1 bytesOf.eq_2 aNums.eq_1 aNums.eq_2 isU8.eq_1 aCvI.eq_1 aCvS.eq_1 aCvB.eq_1 aCvB.eq_2 aCvT.eq_1 aConv.eq_1 aConv.eq_2 aConv.eq_3 aConv.eq_4 aExO.eq_1 aExO.eq_2 aExtract.eq_1 aNil.eq_1 aNil.eq_2 aNil.eq_3 aCallS.eq_1 aCallS.eq_2 aCallR.eq_1 aCallR.eq_2 aCallK.eq_1 aCallK.eq_2 aCallK.eq_3 aCall.eq_1 aCall.eq_2 takeO.eq_1 AS.takeV.eq_1 AS.takeV.eq_2 AS.takeV.eq_3 AS.takeV.eq_4 AS.takeV.eq_5 AS.takeV.eq_6 AS.takeV.eq_7 AV.oldM.eq_1 AV.oldM.eq_2 AV.oldM.eq_3 AV.oldM.eq_4 AV.oldM.eq_5 AV.oldM.eq_6 AV.oldM.eq_7 AV.oldM.eq_8 AV.oldM.eq_9 AV.oldM.eq_10 AV.oldM.eq_11 AV.oldML.eq_1 AV.oldML.eq_2 subL.eq_1 subL.eq_2 back.eq_1 back.eq_2 back.eq_3 back.eq_4 backL.eq_1 backI.eq_1 backI.eq_2 backI.eq_3 backI.eq_4 backIL.eq_1 aBuiltin.eq_1 aBuiltin.eq_2 aBuiltin.eq_3 aCallee.eq_1 aCallee.eq_2 aCallee.eq_3 abin.eq_1 abin.eq_2 abin.eq_3 abin.eq_4 abin.eq_5 abin.eq_6 abin.eq_7 abin.eq_8 abin.eq_9 abin.eq_10 abin.eq_11 abin.eq_12 abin.eq_13 abin.eq_14 abin.eq_15 abin.eq_17 abin.eq_18 abin.eq_19 abin.eq_20 abin.eq_21 abin.eq_22 abin.eq_23 AS.ev.eq_1 AS.ev.eq_2 AS.ev.eq_3 AS.ev.eq_4 AS.evs.eq_1 AS.evs.eq_2 AS.evp.eq_1 AS.evp.eq_2 AS.put.eq_1 AS.put.eq_2 AS.remL.eq_1 AS.remL.eq_2 AV.has.eq_1 AV.has.eq_2 AV.has.eq_3 AV.has.eq_4 AV.has.eq_5 AV.has.eq_6 AV.has.eq_7 AV.has.eq_8 AV.has.eq_9 AV.has.eq_10 AV.has.eq_11 AV.hasL.eq_1 AV.hasL.eq_2 Ob.drop.eq_1 Ob.drop.eq_2 Ob.drop.eq_3 Ob.drop.eq_4 AV.cells.eq_1 AV.cells.eq_2 AV.cells.eq_3 AV.cells.eq_4 AV.cells.eq_5 AS.snapT.eq_1 AS.snapT.eq_2 AS.snapT.eq_3 AS.snapT.eq_4 AS.snapT.eq_5 AS.snapT.eq_6 AS.snapT.eq_7 AS.snap.eq_1 AS.snap.eq_2 mapO.eq_1 mapO.eq_2 intern.eq_1 intern.eq_2 intern.eq_3 intern.eq_4 intern.eq_5 intern.eq_6 intern.eq_7 intern.eq_8 intern.eq_9 intern.eq_10 intern.eq_11 internL.eq_1 internL.eq_2 zipSl.eq_1 zipSl.eq_2 AV.ids.eq_1 AV.ids.eq_2 AV.ids.eq_3 AV.ids.eq_4 AV.ids.eq_5 AV.ids.eq_6 AV.ids.eq_7 AV.ids.eq_8 AV.ids.eq_9 AV.ids.eq_10 AV.ids.eq_11 AV.idsL.eq_1 AV.idsL.eq_2 AV.sub.eq_1 AV.sub.eq_2 AV.sub.eq_3 AV.sub.eq_4 AV.sub.eq_5 AV.sub.eq_6 AV.sub.eq_7 AV.sub.eq_8 AV.sub.eq_9 AV.sub.eq_10 AV.sub.eq_11 AV.subL.eq_1 AV.subL.eq_2 AS.frzL.eq_1 AS.frzL.eq_2 AS.absT.eq_1 AS.absT.eq_2 AS.absT.eq_4 AS.absL.eq_1 AS.absL.eq_2 AS.absOk.eq_1 AS.absOkL.eq_1 AS.absOkL.eq_2 hid.eq_1 hids.eq_1 hids.eq_2 AS.appBase.eq_1 AS.appBase.eq_2 AS.appSrc.eq_1 appFits.eq_1 appFits.eq_2 appFits.eq_3 avFill.eq_1 avFill.eq_2 avc.eq_1 avc.eq_2 avc1.eq_1 Kd.agg.eq_1 Kd.agg.eq_2 okR.eq_1 okR.eq_2 okR.eq_3 okR.eq_4 okR.eq_5 okR.eq_6 okR.eq_7 okR.eq_8 zt.eq_1 rvB.eq_1 rvP.eq_1 rvA.eq_1 rvA.eq_2 rv1.eq_1 outTO.eq_1 outT.eq_1 outT.eq_2 outT.eq_3 outTn.eq_1 outOO.eq_1 outO.eq_1 outO.eq_2 boxOf.eq_1 outP.eq_1 outP.eq_2 outP.eq_3 outP.eq_4 outP.eq_5 outP.eq_6 outP.eq_7 outP.eq_8 outPL.eq_1 outPL.eq_2 outI.eq_1 outI.eq_2 outI.eq_3 outI.eq_4 outI.eq_5 outIL.eq_1 outZ.eq_1 outZ.eq_2 outZ.eq_3 outZ.eq_4 outZ.eq_5 outZL.eq_1 finO.eq_1 finO.eq_2 fin.eq_1 fin.eq_2 fin.eq_3 cellAV.eq_1 cellAV.eq_2 numsOf.eq_1 numsOf.eq_2 aop.eq_1 aop.eq_2 aop.eq_3 aop.eq_4 aop.eq_5 aop.eq_6 aop.eq_7 aop.eq_8 aop.eq_9 aop.eq_10 aop.eq_11 aop.eq_12 aop.eq_13 aop.eq_14 aop.eq_15 aop.eq_16 aop.eq_17 aop.eq_18 aop.eq_19 aop.eq_20 aop.eq_21 aop.eq_22 aop.eq_23 aop.eq_24 aop.eq_25 aop.eq_26 tmpsOf.eq_1 tmpsOf.eq_2 tmpsOf.eq_3 tmpsOf.eq_4 tmpsOf.eq_5 AV.refs.eq_1 AV.refs.eq_2 AV.refs.eq_3 AV.refs.eq_4 AV.refs.eq_5 AV.refs.eq_6 AV.refs.eq_7 AV.refs.eq_8 AV.refs.eq_9 AV.refs.eq_10 AV.refs.eq_11 AV.refsL.eq_1 AV.refsL.eq_2 refsT.eq_1 refsT.eq_2 refsO.eq_1 refsO.eq_2 refsO.eq_3 refsO.eq_4 refsO.eq_5 refsO.eq_6 refsB.eq_1 refsB.eq_2 clos.eq_1 clos.eq_2 keepL.eq_1 keepL.eq_2 AV.hasM.eq_1 AV.hasM.eq_2 AV.hasM.eq_3 AV.hasM.eq_4 AV.hasM.eq_5 AV.hasM.eq_6 AV.hasM.eq_7 AV.hasM.eq_8 AV.hasM.eq_9 AV.hasM.eq_10 AV.hasM.eq_11 AV.hasML.eq_1 AV.hasML.eq_2 Ob.dropM.eq_1 Ob.dropM.eq_2 Ob.dropM.eq_3 Ob.dropM.eq_4 nsC.eq_1 nsC.eq_2 okGuard.eq_1 okGuard.eq_2 AS.purges.eq_1 AS.purges.eq_2 dropMB.eq_1 dropMB.eq_2 newB.eq_1 newB.eq_2 ptB.eq_1 ptB.eq_2 lookC.eq_1 lookC.eq_2 dropB.eq_1 dropB.eq_2 leS.eq_1 leS.eq_2 leT.eq_1 leT.eq_2 AS.mvs.eq_1 AS.mvs.eq_2 AS.mvA.eq_1 AS.mvA.eq_2 AS.mvB.eq_1 aSetO.eq_1 aSetO.eq_2 aSh.eq_1 aSh.eq_2 arK.eq_1 aIdxA.eq_1 aIdxA.eq_2 arT.eq_1 aSlHB.eq_1 aSlHB.eq_2 aSlHO.eq_1 aSlHZ.eq_1 aSlHZ.eq_2 isSlT.eq_1 isNilC.eq_1 aNilO.eq_1 aNilX.eq_1 aNilX.eq_2 aNilX.eq_3 aNilC.eq_1 aNilC.eq_2 aBinQ.eq_1 aBinQ.eq_2 aMin.eq_1 flT.eq_1 flT.eq_2 flT.eq_3 mpT.eq_1 aMkMap.eq_1 aMkMap.eq_2 strA.eq_1 keyMK.eq_1 keyMK.eq_2 keyMK.eq_3 mkB.eq_1 mkB.eq_2 mkB.eq_3 aMp2.eq_1 aMp1.eq_1 aMp0.eq_1 aMapU.eq_1 aLk2.eq_1 aLk2.eq_2 aLk1.eq_1 aLk0.eq_1 aLookup.eq_1 aLenMO.eq_1 aLenM.eq_1 glV.eq_1 glV.eq_2 evG.eq_1 evG.eq_2 evG.eq_3 evG.eq_4 lkHitO.eq_1 lkHitO.eq_2 lkHitO.eq_3 lkHitO.eq_4 lkHit.eq_1 lkHit.eq_2 lkF.eq_1 lkF.eq_2 lkFind.eq_1 lkFind.eq_2 lkV.eq_1 lkV.eq_2 lkV.eq_3 lkV.eq_4 lkV.eq_5 AS.lkO.eq_1 AS.lkO.eq_2 AS.lkOf.eq_1 rawT.eq_1 rawT.eq_2 rawT.eq_3 rawT.eq_4 rawT.eq_5 rawT.eq_6 rawOf.eq_1 rawOf.eq_2 rawOf.eq_3 rawOf.eq_4 rawOf.eq_5 rawOf.eq_6 rawOf.eq_7 rawOf.eq_8 rawOf.eq_9 rawOf.eq_10 rawOf.eq_11 aLkR.eq_1 aLkR.eq_2 aLk.eq_1 aLk.eq_2 KL.eq_1 lkDrop.eq_1 lkDrop.eq_2 lkParO.eq_1 lkParO.eq_2 lkParO.eq_3 lkParO.eq_4 lkPar.eq_1 lkPar.eq_2 lkI.eq_1 lkI.eq_2 lkIds.eq_1 lkIds.eq_2 adLd.eq_1 run_nil run_b run_l run_skip run_label run_seq run_cond brV_b brB_t brB_f run_block run_exit run_ret run_region runX_nil runX_c runX_c' runX_b runX_b' runX_l runX_l' exB_t exB_f run_o run_op run_opg gV_b gV_t gB_tt gB_ff gB_tf gB_ft rs_eq kv KI aLenN aBS1 aApp1 aStore1 szOk gv gd s0 idOf look_cons lookC frzU_t frzU_f orT orF drop_any drop_nil drop_t drop_h drop_pb drop_pa drop_agg drop_tup drop_fn dropB kill_eq set_eq rem_eq re_eq up_eq get_eq ob_eq Ob.drop apl fpl plainTy AS.frz splice cond_true cond_false List.map_cons List.map_nil List.drop_zero List.drop_succ_cons List.drop_nil List.take_zero List.take_succ_cons List.take_nil List.getElem?_cons_zero List.getElem?_cons_succ List.getElem?_nil List.length_cons List.length_nil Option.map_some Option.map_none Option.bind_some Option.bind_none List.cons_append List.nil_append List.append_nil Option.getD_some Option.getD_none List.all_cons List.all_nil Bool.and_true Bool.true_and Bool.or_false Bool.false_or Bool.or_true Bool.true_or List.flatten_cons List.flatten_nil List.replicate_succ List.replicate_zero and_true true_and avOf_t avOf_f agg_bool agg_int agg_str agg_slice agg_struct agg_func agg_ptr agg_map avc_bool avc_int avc_str avc_fn avc1_bool avc1_int avc1_str avc1_fn zt_bool zt_int zt_str cells_nil cells_t cells_h cells_pb cells_fn snap_t snap_nil snap_h snap_pb snap_fn rv1_one rv1_two outI_t outI_oh outI_on outI_any outI_nil outZ_th outZ_tt outZ_tn outZ_o outZ_any outZ_nil outIL_nil outZL_nil finN finR ne_eq not_false_eq_true not_true_eq_false List.nodup_nil List.not_mem_nil false_implies implies_true eq_self true_or or_true Option.some.injEq shl_add shl_sub shl_mul shl_quo shl_rem shl_and shl_or shl_xor shl_andNot shl_eql shl_neq shl_lss shl_leq shl_gtr shl_geq shl_shr shl_shl appDeep_none appDeep_sn appSrc_h appSrc_nil fits_ft fits_tn fits_tf isStr_slice obFlat_box Nat.le_refl nbeq_self List.length_map updZ_s updZ_n dropM_eq purge_eq newIds_cons newIds_nil purgeT_nil purgeT_cons memN_cons memN_nil bd_d bd_c bd_g bd_p bd_t bd_o preds_nil preds_cons hasIns insB List.any_cons List.any_nil adK_eq adr_nil adG_eq kdOp noLen creates Op.operands Call.operands nsOf adT adI adJ plainB rst List.append_eq nsD_f nsD_n nsD_t nOf_0 nOf_1 nOf_2 chO_0 chO_1 chO_2 keepK_0 keepK_1 keepK_2 eqRes AS.mv fits KM aCallM notNew kdCall arK_i64 arK_i32 arK_u8 arK_u64 arT_sl isNilC_t isNilC_f isNilC_g isNilC_i isNilC_b isNilC_s isNilC_a isNilC_n andBF andBT aCallK_2 ble_dec hid_t hid_nil hid_any hid_pb hid_fn absOk_t absOk_nil absOk_pb absOk_h absOkO_1 decide_true decide_false Array.toList_append chunk_0 chunk_1 chunk_2 chunk_3 back_t back_nil back_ht backL_nil backI_t backI_nil backI_ht backIL_nil AS.mvJ nbeq_dec runR_f runR_t loadB Option.isSome_some Option.isSome_none nodup1 adr_none adr_some adO_s adV_b adV_t adB_tt adB_ff adB_tf adB_ft adS_eq lenL.eq_1 lenO.eq_1 lenO.eq_2 lenV.eq_1 lenV.eq_2 lenV.eq_3 lenV.eq_4 optN optS absT_ft
attribute [local go_sem] ty3 ty4 ty5 ty9 ty21 ty22 ty23 ty25 ty26 ty28 ty29 ty30 ty32 ty34 ty35 ty37 ty40 ty42 ty43 ty45 ty46 ty47 ty49 ty53 ty54 ty56 ty106 ty108 ty120 ty124 ty126 ty129 ty131 ty133 ty147 ty161 ty192 ty194 ty196 ty198 ty213 ty215 ty221 ty224 ty229 ty237 ty244 ty268 lv53 lv147 lv161 lv198 zb4 leS leT fits AS.mvs encStr_eq aIdx_str EStr_dec decStrs decStrs0 EStr_enc EStr_n encInt_eq aIdx_int EInt_dec decInts decInts0 EInt_enc EInt_n AllV_Int len_Int lc_enc l0_enc asl_enc ag_enc aow_enc ABool_enc AInt_enc AStr_enc AU8_enc ABool_dec AInt_dec AStr_dec AU8_dec asl_dec ag_dec aow_dec bind_some pr2.eq_1 l0_nil lc_cons unT.eq_1 K0.eq_1 M0.eq_1 KI AllV_Str len_Str ctR_eq ctM_eq ro_kd ro_ro mu_kd mu_mu encAd_eq aIdx_Ad EAd_dec decAds decAds0 EAd_enc EAd_n len_Ad Ad_eta AllV_Ad encMl_eq aIdx_Ml EMl_dec decMls decMls0 EMl_enc EMl_n len_Ml Ml_eta mkMl.eq_1 owMl_eq AMl_enc AMl_dec encRc_eq aIdx_Rc ERc_dec decRcs decRcs0 ERc_enc ERc_n len_Rc Rc_eta AllV_Rc encIm_eq aIdx_Im EIm_dec decIms decIms0 EIm_enc EIm_n len_Im Im_eta mkIm.eq_1 owIm_eq AIm_enc AIm_dec encSp_eq aIdx_Sp ESp_dec decSps decSps0 ESp_enc ESp_n len_Sp Sp_eta mkSp.eq_1 owSp_eq ASp_enc ASp_dec encWy_eq aIdx_Wy EWy_dec decWys decWys0 EWy_enc EWy_n len_Wy Wy_eta AllV_Wy encCf_eq aIdx_Cf ECf_dec decCfs decCfs0 ECf_enc ECf_n len_Cf Cf_eta mkCf.eq_1 owCf_eq ACf_enc ACf_dec encGm_eq aIdx_Gm EGm_dec decGms decGms0 EGm_enc EGm_n len_Gm Gm_eta mkGm.eq_1 owGm_eq AGm_enc AGm_dec encBx_eq aIdx_Bx EBx_dec decBxs decBxs0 EBx_enc EBx_n len_Bx Bx_eta mkBx.eq_1 owBx_eq ABx_enc ABx_dec encLs_eq aIdx_Ls ELs_dec decLss decLss0 ELs_enc ELs_n len_Ls Ls_eta AllV_Ls encHs_eq aIdx_Hs EHs_dec decHss decHss0 EHs_enc EHs_n len_Hs Hs_eta mkHs.eq_1 owHs_eq AHs_enc AHs_dec
def Todo (s : Sp) (n : Int) (a : Ad) : Prop := ¬ atIm s n < 0 ∧ ¬ atRc (theIm s n) a < 0
theorem Todo_mem {s : Sp} {n : Int} {a : Ad} (q : Todo s n a) : ∃ x ∈ s.items, x.id = n ∧ ∃ r ∈ x.to, r.addr = a := by
  have h1 := atIm_lt q.1
  have h2 := atRc_lt q.2
  exact ⟨theIm s n, getD_mem (by omega), atIm_id q.1, _, getD_mem (by omega), atRc_addr q.2⟩
theorem id_uniq : ∀ {xs : List Im}, (xs.map Im.id).Pairwise (· < ·) → ∀ {x y : Im}, x ∈ xs → y ∈ xs → x.id = y.id → x = y
  | z :: t, h, x, y, hx, hy, e => by
    rw [List.map_cons, List.pairwise_cons] at h
    rcases List.mem_cons.1 hx with q | q
    · rcases List.mem_cons.1 hy with r | r
      · rw [q, r]
      · have := h.1 _ (List.mem_map_of_mem (f := Im.id) r); rw [q] at e; omega
    · rcases List.mem_cons.1 hy with r | r
      · have := h.1 _ (List.mem_map_of_mem (f := Im.id) q); rw [r] at e; omega
      · exact id_uniq h.2 q r e
theorem Todo_of {s : Sp} (h : SpOk s) {x : Im} (hx : x ∈ s.items) {r : Rc} (hr : r ∈ x.to) : Todo s x.id r.addr ∧ theIm s x.id = x := by
  have h1 : ¬ atIm s x.id < 0 := by
    have : 0 ≤ atIm s x.id := (ixP_iff s.items 0).2 ⟨x, hx, rfl⟩
    omega
  have h2 := atIm_lt h1
  have h3 : theIm s x.id = x := id_uniq (asc_pair.1 h.2.1) (getD_mem (by omega)) hx (atIm_id h1)
  refine ⟨⟨h1, ?_⟩, h3⟩
  rw [h3]
  have : 0 ≤ atRc x r.addr := (ixP_iff x.to 0).2 ⟨r, hr, rfl⟩
  omega
theorem Todo_dn {s : Sp} {n n' : Int} {a a' : Ad} (h : SpOk s) (q : Todo s n a) (q' : Todo s n' a') (ne : ¬ (n = n' ∧ a = a')) : Todo (dnSp s (atIm s n).toNat (atRc (theIm s n) a).toNat) n' a' := by
  obtain ⟨x, hx, e1, r, hr, e2⟩ := Todo_mem q'
  have i1 := atIm_lt q.1
  have k1 := atRc_lt q.2
  have ei := atIm_id q.1
  have ek := atRc_addr q.2
  obtain ⟨i, hi⟩ : ∃ i, i = (atIm s n).toNat := ⟨_, rfl⟩
  obtain ⟨k, hk⟩ : ∃ k, k = (atRc (theIm s n) a).toNat := ⟨_, rfl⟩
  have hX : s.items.getD i default = theIm s n := by rw [hi]; rfl
  have hil : i < s.items.length := by omega
  have hkl : k < (s.items.getD i default).to.length := by rw [hX]; omega
  rw [← hi, ← hk]
  rw [← hk] at ek
  have hok := dnSp_SpOk h hil hkl
  suffices hs : ∃ y ∈ (dnSp s i k).items, y.id = n' ∧ ∃ r ∈ y.to, r.addr = a' by
    obtain ⟨y, hy, f1, r, hr, f2⟩ := hs
    rw [← f1, ← f2]
    exact (Todo_of hok hy hr).1
  show ∃ y ∈ dnL s.items i k, y.id = n' ∧ ∃ r ∈ y.to, r.addr = a'
  have hx2 := hx
  rw [cut_eq hil] at hx2
  have hout : x ∈ s.items.take i ++ s.items.drop (i + 1) → ∃ y ∈ dnL s.items i k, y.id = n' ∧ ∃ r ∈ y.to, r.addr = a' := fun hm => by
    refine ⟨x, ?_, e1, r, hr, e2⟩
    unfold dnL
    split
    · exact hm
    · rcases List.mem_append.1 hm with hm | hm
      · exact List.mem_append_left _ hm
      · exact List.mem_append_right _ (List.mem_cons_of_mem _ hm)
  rcases List.mem_append.1 hx2 with hm | hm
  · exact hout (List.mem_append_left _ hm)
  · rcases List.mem_cons.1 hm with hm | hm
    · rw [hX] at hm
      subst hm
      have hr2 := hr
      rw [cut_eq (xs := (theIm s n).to) (i := k) (by rw [← hX]; exact hkl)] at hr2
      have hin : r ∈ (dnIm (theIm s n) k).to := by
        show r ∈ (theIm s n).to.take k ++ (theIm s n).to.drop (k + 1)
        rcases List.mem_append.1 hr2 with hm | hm
        · exact List.mem_append_left _ hm
        · rcases List.mem_cons.1 hm with hm | hm
          · exact absurd ⟨ei.symm.trans e1, by rw [← e2, hm]; exact ek.symm⟩ ne
          · exact List.mem_append_right _ hm
      refine ⟨dnIm (theIm s n) k, ?_, e1, r, hin, e2⟩
      unfold dnL
      rw [hX, if_neg (fun e => by rw [e] at hin; cases hin)]
      exact List.mem_append_right _ (by simp)
    · exact hout (List.mem_append_right _ hm)
theorem cmp_neg : ∀ a b : List UInt8, Lib.compareBytes b a = - Lib.compareBytes a b
  | [], [] => by simp [Lib.compareBytes]
  | [], _ :: _ => by simp [Lib.compareBytes]
  | _ :: _, [] => by simp [Lib.compareBytes]
  | a :: x, b :: y => by
    have ih := cmp_neg x y
    simp only [Lib.compareBytes]
    by_cases h1 : a < b
    · have h2 : ¬ b < a := fun h => absurd (UInt8.lt_trans h1 h) (UInt8.lt_irrefl _)
      simp [h1, h2]
    · by_cases h2 : b < a
      · simp [h1, h2]
      · simp [h1, h2, ih]
theorem cmp_trans : ∀ a b c : List UInt8, Lib.compareBytes a b < 0 → Lib.compareBytes b c < 0 → Lib.compareBytes a c < 0
  | [], b, [], h1, h2 => by
    have := cmp_neg [] b
    rw [this] at h2; omega
  | [], _, _ :: _, _, _ => by simp [Lib.compareBytes]
  | _ :: _, [], _, h1, _ => by simp [Lib.compareBytes] at h1
  | _ :: _, _ :: _, [], _, h2 => by simp [Lib.compareBytes] at h2
  | a :: x, b :: y, c :: z, h1, h2 => by
    have ih := cmp_trans x y z
    simp only [Lib.compareBytes] at h1 h2 ⊢
    by_cases e1 : a < b
    · by_cases e2 : b < c
      · rw [if_pos (UInt8.lt_trans e1 e2)]; decide
      · rw [if_neg e2] at h2
        split at h2
        · omega
        · have : b = c := UInt8.le_antisymm (UInt8.not_lt.1 (by assumption)) (UInt8.not_lt.1 e2)
          rw [← this, if_pos e1]; decide
    · rw [if_neg e1] at h1
      split at h1
      · omega
      · have e3 : a = b := UInt8.le_antisymm (UInt8.not_lt.1 (by assumption)) (UInt8.not_lt.1 e1)
        subst e3
        split
        · decide
        · rename_i q
          rw [if_neg q] at h2
          split at h2
          · omega
          · rename_i q2
            rw [if_neg q2]
            exact ih h1 h2
theorem byD_neg (a b : Ad) : byD b a = - byD a b := by
  unfold byD cmpS
  rw [cmp_neg (bl a.domain) (bl b.domain), cmp_neg (bl a.user) (bl b.user)]
  by_cases h : Lib.compareBytes (bl a.domain) (bl b.domain) = 0
  · rw [if_pos h, if_pos (by omega)]
  · rw [if_neg h, if_neg (by omega)]
theorem byD_trans {a b c : Ad} (h1 : byD a b < 0) (h2 : byD b c < 0) : byD a c < 0 := by
  unfold byD at *
  by_cases e1 : cmpS a.domain b.domain = 0
  · have f1 := (cmpS_0 _ _).1 e1
    rw [if_pos e1] at h1
    rw [f1]
    by_cases e2 : cmpS b.domain c.domain = 0
    · rw [if_pos e2] at h2 ⊢
      exact cmp_trans _ _ _ h1 h2
    · rw [if_neg e2] at h2 ⊢
      exact h2
  · rw [if_neg e1] at h1
    by_cases e2 : cmpS b.domain c.domain = 0
    · have f2 := (cmpS_0 _ _).1 e2
      rw [← f2, if_neg e1]
      exact h1
    · rw [if_neg e2] at h2
      have h3 : cmpS a.domain c.domain < 0 := cmp_trans _ _ _ h1 h2
      rw [if_neg (by omega)]
      exact h3
def SortB (bs : List Bx) : Prop := bs.Pairwise fun b c => byD b.addr c.addr < 0
theorem SortB_part {bs : List Bx} (h : SortB bs) (a : Ad) : PartB bs a := fun j h1 h2 hb => by
  have h3 : kS bs a < bs.length := by omega
  have h4 := kS_at a bs h3
  by_cases e : j = kS bs a
  · rw [e] at hb; exact h4 hb
  · have h5 := List.pairwise_iff_getElem.1 h (kS bs a) j h3 h2 (by omega)
    have g1 : bs.getD (kS bs a) default = bs[kS bs a] := by simp [h3]
    have g2 : bs.getD j default = bs[j] := by simp [h2]
    rw [g1] at h4
    rw [g2] at hb
    exact h4 (byD_trans h5 hb)
theorem boxIn_sort {bs : List Bx} {a : Ad} {g : Gm} (h : SortB bs) : SortB (boxIn bs a g) := by
  cases hf : fndB bs a
  · rw [boxIn_n hf]
    have hp := SortB_part h a
    have hb : SortB (bs.take (kS bs a) ++ bs.drop (kS bs a)) := by rw [List.take_append_drop]; exact h
    obtain ⟨p1, p2, p3⟩ := List.pairwise_append.1 hb
    have lo : ∀ b ∈ bs.take (kS bs a), byD b.addr a < 0 := fun b hm => by
      obtain ⟨j, hj, rfl⟩ := List.getElem_of_mem hm
      rw [List.length_take] at hj
      have := kS_lt a bs (j := j) (by omega)
      rw [List.getElem_take]
      simpa [show j < bs.length by omega] using this
    have hi : ∀ b ∈ bs.drop (kS bs a), byD a b.addr < 0 := fun b hm => by
      obtain ⟨j, hj, rfl⟩ := List.getElem_of_mem hm
      rw [List.length_drop] at hj
      have hk : kS bs a < bs.length := by omega
      have n1 := hp (kS bs a + j) (by omega) (by omega)
      have g2 : bs.getD (kS bs a + j) default = bs[kS bs a + j] := by simp [show kS bs a + j < bs.length by omega]
      rw [g2] at n1
      rw [List.getElem_drop]
      have n2 := byD_neg a (bs[kS bs a + j]).addr
      by_cases z : byD (bs[kS bs a + j]).addr a = 0
      · exfalso
        by_cases hj0 : j = 0
        · subst hj0
          unfold fndB at hf
          simp only [Bool.and_eq_false_iff, decide_eq_false_iff_not] at hf
          rcases hf with hf | hf
          · exact hf hk
          · exact hf (by rw [← z]; simp [hk])
        · have h5 := List.pairwise_iff_getElem.1 h (kS bs a) (kS bs a + j) hk (by omega) (by omega)
          have e := (byD_0 _ _).1 z
          rw [e] at h5
          have n3 := kS_at a bs hk
          have g1 : bs.getD (kS bs a) default = bs[kS bs a] := by simp [hk]
          rw [g1] at n3
          exact n3 h5
      · omega
    exact List.pairwise_append.2 ⟨p1, List.pairwise_cons.2 ⟨hi, p2⟩, fun b hb c hc => by
      rcases List.mem_cons.1 hc with rfl | hc
      · exact lo b hb
      · exact p3 b hb c hc⟩
  · rw [boxIn_y hf]
    have hlt := fndB_lt hf
    have h' : (bs.map Bx.addr).Pairwise fun x y => byD x y < 0 := List.pairwise_map.2 h
    have e : (bs.set (kS bs a) ⟨(bs.getD (kS bs a) default).addr, (bs.getD (kS bs a) default).mails ++ [g]⟩).map Bx.addr = bs.map Bx.addr := by
      rw [List.map_set]
      have : (⟨(bs.getD (kS bs a) default).addr, (bs.getD (kS bs a) default).mails ++ [g]⟩ : Bx).addr = (bs.map Bx.addr)[kS bs a]'(by rw [List.length_map]; exact hlt) := by
        rw [List.getElem_map]
        show (bs.getD (kS bs a) default).addr = _
        simp [hlt]
      rw [this, List.set_getElem_self]
    exact List.pairwise_map.1 (e ▸ h')
theorem adj_sort {bs : List Bx} (h : ∀ j, 0 < j → j < bs.length → adLt (bs.getD (j - 1) default).addr (bs.getD j default).addr) : SortB bs := by
  refine List.pairwise_iff_getElem.2 fun i j hi hj hij => ?_
  induction j with
  | zero => omega
  | succ j ih =>
    have h1 := (byD_lt _ _).2 (h (j + 1) (by omega) hj)
    simp only [Nat.add_sub_cancel, List.getD_eq_getElem?_getD, List.getElem?_eq_getElem hj, List.getElem?_eq_getElem (show j < bs.length by omega), Option.getD_some] at h1
    by_cases e : i = j
    · subst e; exact h1
    · exact byD_trans (ih (by omega) (by omega)) h1
theorem boxIn_len (bs : List Bx) (a : Ad) (g : Gm) : (boxIn bs a g).length ≤ bs.length + 1 := by
  have := kS_le a bs
  cases hf : fndB bs a
  · rw [boxIn_n hf]; simp only [List.length_append, List.length_take, List.length_cons, List.length_drop]; omega
  · rw [boxIn_y hf, List.length_set]; omega
theorem boxIn_mails {bs : List Bx} {a : Ad} {g : Gm} {M : Nat} (h : ∀ b ∈ bs, b.mails.length ≤ M) : ∀ b ∈ boxIn bs a g, b.mails.length ≤ M + 1 := fun b hb => by
  cases hf : fndB bs a
  · rw [boxIn_n hf] at hb
    rcases List.mem_append.1 hb with hb | hb
    · have := h b (List.mem_of_mem_take hb); omega
    · rcases List.mem_cons.1 hb with hb | hb
      · rw [hb]; show 1 ≤ M + 1; omega
      · have := h b (List.mem_of_mem_drop hb); omega
  · rw [boxIn_y hf] at hb
    rcases List.mem_or_eq_of_mem_set hb with hb | hb
    · have := h b hb; omega
    · rw [hb]
      have := h _ (getD_mem (fndB_lt hf))
      show (_ ++ [g]).length ≤ _
      rw [List.length_append, List.length_singleton]; omega
noncomputable def keep1 (h : Hs) (x : Im) (a : Ad) : Hs := ⟨h.conf, (SDone h.spool x.id a).1, boxIn h.boxes a ⟨x.frm, x.body⟩, h.lost⟩
noncomputable def keepR (x : Im) : List Ad → Hs → Hs
  | [], h => h
  | a :: r, h => keepR x r (keep1 h x a)
noncomputable def keepI (c : Cf) (w : Int) : List Im → Hs → Hs
  | [], h => h
  | x :: t, h => keepI c w t (keepR x (partTo c ⟨#[]⟩ w x.to) h)
noncomputable def prs (c : Cf) (w : Int) (x : Im) (rs : List Rc) : List (Int × Ad) := (partTo c ⟨#[]⟩ w rs).map fun a => (x.id, a)
noncomputable def allP (c : Cf) (w : Int) : List Im → List (Int × Ad)
  | [] => []
  | x :: t => prs c w x x.to ++ allP c w t
structure Kp (c : Cf) (g : Hs) (R : List (Int × Ad)) : Prop where
  cf : g.conf = c
  sp : SpOk g.spool
  os : OkSp g.spool
  so : SortB g.boxes
  td : ∀ p ∈ R, Todo g.spool p.1 p.2
  nd : R.Nodup
  b1 : g.boxes.length + R.length ≤ 3000000
  b2 : ∀ b ∈ g.boxes, b.mails.length + R.length ≤ 3000000
theorem Kp.done {c : Cf} {g : Hs} {x : Im} {a : Ad} {R : List (Int × Ad)} (h : Kp c g ((x.id, a) :: R)) : SDone g.spool x.id a = (dnSp g.spool (atIm g.spool x.id).toNat (atRc (theIm g.spool x.id) a).toNat, true) :=
  SDone_y h.sp (h.td (x.id, a) (by simp)).1 (h.td (x.id, a) (by simp)).2
theorem Kp.step {c : Cf} {g : Hs} {x : Im} {a : Ad} {R : List (Int × Ad)} (h : Kp c g ((x.id, a) :: R)) : Kp c (keep1 g x a) R := by
  have q : Todo g.spool x.id a := h.td (x.id, a) (by simp)
  have i1 := atIm_lt q.1
  have k1 := atRc_lt q.2
  have hD := h.done
  have hil : (atIm g.spool x.id).toNat < g.spool.items.length := by omega
  have hkl : (atRc (theIm g.spool x.id) a).toNat < (g.spool.items.getD (atIm g.spool x.id).toNat default).to.length := by
    show _ < (theIm g.spool x.id).to.length
    omega
  have hs : (keep1 g x a).spool = dnSp g.spool (atIm g.spool x.id).toNat (atRc (theIm g.spool x.id) a).toNat := by unfold keep1; rw [hD]
  have hb1 := h.b1
  rw [List.length_cons] at hb1
  refine ⟨h.cf, by rw [hs]; exact dnSp_SpOk h.sp hil hkl, by rw [hs]; exact dnSp_ok h.os hil, boxIn_sort h.so, fun p hp => ?_, (List.nodup_cons.1 h.nd).2, ?_, fun b hb => ?_⟩
  · rw [hs]
    refine Todo_dn h.sp q (h.td p (List.mem_cons_of_mem _ hp)) fun e => (List.nodup_cons.1 h.nd).1 ?_
    obtain ⟨p1, p2⟩ := p
    rw [e.1, e.2]; exact hp
  · have := boxIn_len g.boxes a ⟨x.frm, x.body⟩
    show (boxIn _ _ _).length + _ ≤ _
    omega
  · have := boxIn_mails (M := 3000000 - (R.length + 1)) (g := ⟨x.frm, x.body⟩) (a := a) (fun b hb => by have := h.b2 b hb; rw [List.length_cons] at this; omega) b hb
    omega
theorem prs_y {c : Cf} {w : Int} {x : Im} {rs : List Rc} {i : Nat} (h : i < rs.length) (hn : Near c ⟨#[]⟩ w (rs.getD i default)) : prs c w x (rs.drop i) = (x.id, (rs.getD i default).addr) :: prs c w x (rs.drop (i + 1)) := by
  unfold prs; rw [part_y h hn]; rfl
theorem prs_n {c : Cf} {w : Int} {x : Im} {rs : List Rc} {i : Nat} (h : i < rs.length) (hn : ¬ Near c ⟨#[]⟩ w (rs.getD i default)) : prs c w x (rs.drop i) = prs c w x (rs.drop (i + 1)) := by
  unfold prs; rw [part_n h hn]
theorem prs_end {c : Cf} {w : Int} {x : Im} {rs : List Rc} {i : Nat} (h : rs.length ≤ i) : prs c w x (rs.drop i) = [] := by
  unfold prs; rw [part_end h]; rfl
theorem allP_drop {c : Cf} {w : Int} {xs : List Im} {i : Nat} (h : i < xs.length) : allP c w (xs.drop i) = prs c w (xs.getD i default) (xs.getD i default).to ++ allP c w (xs.drop (i + 1)) := by
  rw [getD_drop h]; rfl
theorem keepI_drop {c : Cf} {w : Int} {xs : List Im} {i : Nat} {g : Hs} (h : i < xs.length) : keepI c w (xs.drop i) g = keepI c w (xs.drop (i + 1)) (keepR (xs.getD i default) (partTo c ⟨#[]⟩ w (xs.getD i default).to) g) := by
  rw [getD_drop h]; rfl
theorem part_sub (c : Cf) (w : Int) : ∀ rs : List Rc, List.Sublist (partTo c ⟨#[]⟩ w rs) (rs.map Rc.addr)
  | [] => .slnil
  | r :: t => by
    rw [partTo]
    cases bOf (Near c ⟨#[]⟩ w r)
    · exact .cons _ (part_sub c w t)
    · exact .cons_cons _ (part_sub c w t)
theorem allP_mem {c : Cf} {w : Int} : ∀ {xs : List Im} {p : Int × Ad}, p ∈ allP c w xs → ∃ x ∈ xs, p.1 = x.id ∧ ∃ r ∈ x.to, r.addr = p.2
  | x :: t, p, h => by
    rw [allP] at h
    rcases List.mem_append.1 h with h | h
    · unfold prs at h
      obtain ⟨a, ha, rfl⟩ := List.mem_map.1 h
      obtain ⟨r, hr, e, _⟩ := part_mem c ⟨#[]⟩ w _ a ha
      exact ⟨x, by simp, rfl, r, hr, e⟩
    · obtain ⟨y, hy, q⟩ := allP_mem h
      exact ⟨y, by simp [hy], q⟩
theorem allP_nodup {c : Cf} {w : Int} : ∀ {xs : List Im}, (xs.map Im.id).Pairwise (· < ·) → (∀ x ∈ xs, (x.to.map Rc.addr).Nodup) → (allP c w xs).Nodup
  | [], _, _ => List.nodup_nil
  | x :: t, h1, h2 => by
    rw [List.map_cons, List.pairwise_cons] at h1
    rw [allP]
    refine List.nodup_append.2 ⟨?_, allP_nodup h1.2 fun y hy => h2 y (by simp [hy]), fun p hp q hq e => ?_⟩
    · unfold prs
      have h3 := (part_sub c w x.to).nodup (h2 x (by simp))
      exact List.pairwise_map.2 (h3.imp fun {a b} ne e => ne (by injection e))
    · subst e
      unfold prs at hp
      obtain ⟨a, _, rfl⟩ := List.mem_map.1 hp
      obtain ⟨y, hy, e, _⟩ := allP_mem hq
      have := h1.1 y.id (List.mem_map_of_mem hy)
      have e : x.id = y.id := e
      omega
theorem allP_len {c : Cf} {w : Int} : ∀ {xs : List Im}, (∀ x ∈ xs, x.to.length ≤ 4) → (allP c w xs).length ≤ 4 * xs.length
  | [], _ => by simp [allP]
  | x :: t, h => by
    rw [allP, List.length_append, List.length_cons]
    have h1 := allP_len (c := c) (w := w) fun y hy => h y (List.mem_cons_of_mem x hy)
    have h2 := part_len c ⟨#[]⟩ w x.to
    have h3 := h x (by simp)
    have h4 : (prs c w x x.to).length = (partTo c ⟨#[]⟩ w x.to).length := List.length_map _
    omega
theorem Kp_start {h : Hs} {w : Int} (q : HsOk h) (ok : OkHs h) : Kp h.conf h (allP h.conf w h.spool.items) := by
  obtain ⟨q1, q2, q3⟩ := q
  have hl := allP_len (c := h.conf) (w := w) (xs := h.spool.items) fun x hx => (q3.1 x hx).1.2.2.2.2.1.2
  have h10 := q3.2.2.2
  have hb := ok.2.2.1
  refine ⟨rfl, q3, ok.2.1, adj_sort fun j h0 hj => (q1 j hj).2.1 h0, fun p hp => ?_, allP_nodup (asc_pair.1 q3.2.1) fun x hx => (q3.1 x hx).1.2.1, ?_, fun b hbm => ?_⟩
  · obtain ⟨x, hx, e, r, hr, e2⟩ := allP_mem hp
    rw [e, ← e2]
    exact (Todo_of q3 hx hr).1
  · have : (h.boxes.length : Int) ≤ 1048576 := hb.1
    omega
  · have : (b.mails.length : Int) ≤ 1048576 := (hb.2 b hbm).2.1
    omega
open Classical in
noncomputable def HKeep (h : Hs) (w : Int) : Hs := if HsOk h then keepI h.conf w h.spool.items h else noHs
theorem HKeep_y {h : Hs} {w : Int} (q : HsOk h) : HKeep h w = keepI h.conf w h.spool.items h := if_pos q
theorem HKeep_n {h : Hs} {w : Int} (q : ¬ HsOk h) : HKeep h w = noHs := if_neg q
end Go.V
