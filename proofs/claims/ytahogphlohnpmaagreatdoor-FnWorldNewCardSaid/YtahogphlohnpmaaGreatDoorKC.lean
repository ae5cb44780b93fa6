/- The row. No condition. -/
import Derived.Test.YtahogphlohnpmaaGreatDoorKB
import Derived.Test.YtahogphlohnpmaaGreatDoorKA
import Derived.ProofKit
import Derived.Carry
import Derived.WalkKit
import Derived.Test.YtahogphlohnpmaaGreatDoorCards
import Derived.Test.YtahogphlohnpmaaGreatDoorTie
import Derived.OpenShut
import Derived.Deep.DeepHandedRow
namespace Go.V
open Go Go.Proofs
set_option maxRecDepth 100000
set_option linter.unusedSimpArgs false
set_option linter.unusedVariables false
attribute [local go_sem_proc] Nat.reduceAdd Nat.reduceMul Nat.reduceLeDiff Nat.reduceEqDiff reduceCtorEq Nat.reduceSub Int.reduceNeg Nat.reduceMod Nat.reduceBEq Nat.reduceLT
attribute [local go_sem] aPickB.eq_1 aPickB.eq_2 aPick.eq_1 aBox.eq_1 aBox.eq_2 aAlloc.eq_1 aAlloc.eq_2 aLoadB.eq_1 aLoadB.eq_2 aLoadB.eq_3 aLoadB.eq_4 aLoadB.eq_5 aLoadA.eq_1 aLoadA.eq_2 aLoadA.eq_3 aLoadA.eq_4 aLoadA.eq_5 aLoadP.eq_1 aLoadP.eq_2 aLoadP.eq_3 aLoad.eq_1 aLoad.eq_2 aFAx.eq_1 aFAx.eq_2 aFAx.eq_3 aFA.eq_1 aFA.eq_2 aFx.eq_1 aF.eq_1 aF.eq_2 fld.eq_1 elT.eq_1 aIdxH.eq_1 aIdxH.eq_2 aIdxH.eq_3 aIdxH.eq_4 aIdxH.eq_5 aIdxP.eq_1 aIdxP.eq_2 aIndexAddr.eq_1 aIndexAddr.eq_2 aIndexAddr.eq_3 isStr.eq_1 aIndex.eq_1 aSlStr.eq_1 aSlRo.eq_1 aSlZ.eq_1 aSlZ.eq_2 aSlice.eq_1 aSlice.eq_2 aSlice.eq_3 bnd.eq_1 bnd.eq_2 aBuildO.eq_1 aBuildO.eq_2 aBuild.eq_1 aNewArr.eq_1 aNewArr.eq_2 aBS.eq_1 aBS.eq_2 aBuildSlice.eq_1 aBuildSlice.eq_2 aMakeSlice.eq_1 appDeep.eq_1 aApp2.eq_1 aAppend.eq_1 aAppend.eq_2 aStoreB.eq_1 aStoreA.eq_1 obFlat.eq_1 aStore2.eq_1 aStore2.eq_2 aStoreP.eq_1 aStoreP.eq_2 aStore.eq_1 aStore.eq_2 isShl.eq_1 isShl.eq_2 isBool.eq_1 aBinI.eq_1 aBinI.eq_2 aBinB.eq_1 aBinB.eq_2 aEq.eq_1 aEq.eq_2 aEq.eq_3 aEq.eq_4 aEqG.eq_1 aEqG.eq_2 aBin.eq_1 aBin.eq_2 aBin.eq_3 aBin.eq_4 aUn.eq_1 aUn.eq_2 aLenO.eq_1 aLenS.eq_1 aLenS.eq_2 aLenS.eq_3 aLenT.eq_1 aLen.eq_1 aLen.eq_2 aLen.eq_3 bytesOb.eq_1 bytesOb.eq_2 bytesOf.eq_1 bytesOf.eq_2 aNums.eq_1 aNums.eq_2 isU8.eq_1 aCvI.eq_1 aCvS.eq_1 aCvB.eq_1 aCvB.eq_2 aCvT.eq_1 aConv.eq_1 aConv.eq_2 aConv.eq_3 aConv.eq_4 aExO.eq_1 aExO.eq_2 aExtract.eq_1 aNil.eq_1 aNil.eq_2 aNil.eq_3 aCallS.eq_1 aCallS.eq_2 aCallR.eq_1 aCallR.eq_2 aCallK.eq_1 aCallK.eq_2 aCallK.eq_3 aCall.eq_1 aCall.eq_2 takeO.eq_1 AS.takeV.eq_1 AS.takeV.eq_2 AS.takeV.eq_3 AS.takeV.eq_4 AS.takeV.eq_5 AS.takeV.eq_6 AS.takeV.eq_7 AV.oldM.eq_1 AV.oldM.eq_2 AV.oldM.eq_3 AV.oldM.eq_4 AV.oldM.eq_5 AV.oldM.eq_6 AV.oldM.eq_7 AV.oldM.eq_8 AV.oldM.eq_9 AV.oldM.eq_10 AV.oldM.eq_11 AV.oldML.eq_1 AV.oldML.eq_2 subL.eq_1 subL.eq_2 back.eq_1 back.eq_2 back.eq_3 back.eq_4 backL.eq_1 backI.eq_1 backI.eq_2 backI.eq_3 backI.eq_4 backIL.eq_1 aBuiltin.eq_1 aBuiltin.eq_2 aBuiltin.eq_3 aCallee.eq_1 aCallee.eq_2 aCallee.eq_3 abin.eq_1 abin.eq_2 abin.eq_3 abin.eq_4 abin.eq_5 abin.eq_6 abin.eq_7 abin.eq_8 abin.eq_9 abin.eq_10 abin.eq_11 abin.eq_12 abin.eq_13 abin.eq_14 abin.eq_15 abin.eq_17 abin.eq_18 abin.eq_19 abin.eq_20 abin.eq_21 abin.eq_22 abin.eq_23 AS.ev.eq_1 AS.ev.eq_2 AS.ev.eq_3 AS.ev.eq_4 AS.evs.eq_1 AS.evs.eq_2 AS.evp.eq_1 AS.evp.eq_2 AS.put.eq_1 AS.put.eq_2 AS.remL.eq_1 AS.remL.eq_2 AV.has.eq_1 AV.has.eq_2 AV.has.eq_3 AV.has.eq_4 AV.has.eq_5 AV.has.eq_6 AV.has.eq_7 AV.has.eq_8 AV.has.eq_9 AV.has.eq_10 AV.has.eq_11 AV.hasL.eq_1 AV.hasL.eq_2 Ob.drop.eq_1 Ob.drop.eq_2 Ob.drop.eq_3 Ob.drop.eq_4 AV.cells.eq_1 AV.cells.eq_2 AV.cells.eq_3 AV.cells.eq_4 AV.cells.eq_5 AS.snapT.eq_1 AS.snapT.eq_2 AS.snapT.eq_3 AS.snapT.eq_4 AS.snapT.eq_5 AS.snapT.eq_6 AS.snapT.eq_7 AS.snap.eq_1 AS.snap.eq_2 mapO.eq_1 mapO.eq_2 intern.eq_1 intern.eq_2 intern.eq_3 intern.eq_4 intern.eq_5 intern.eq_6 intern.eq_7 intern.eq_8 intern.eq_9 intern.eq_10 intern.eq_11 internL.eq_1 internL.eq_2 zipSl.eq_1 zipSl.eq_2 AV.ids.eq_1 AV.ids.eq_2 AV.ids.eq_3 AV.ids.eq_4 AV.ids.eq_5 AV.ids.eq_6 AV.ids.eq_7 AV.ids.eq_8 AV.ids.eq_9 AV.ids.eq_10 AV.ids.eq_11 AV.idsL.eq_1 AV.idsL.eq_2 AV.sub.eq_1 AV.sub.eq_2 AV.sub.eq_3 AV.sub.eq_4 AV.sub.eq_5 AV.sub.eq_6 AV.sub.eq_7 AV.sub.eq_8 AV.sub.eq_9 AV.sub.eq_10 AV.sub.eq_11 AV.subL.eq_1 AV.subL.eq_2 AS.frzL.eq_1 AS.frzL.eq_2 AS.absT.eq_1 AS.absT.eq_2 AS.absT.eq_4 AS.absL.eq_1 AS.absL.eq_2 AS.absOk.eq_1 AS.absOkL.eq_1 AS.absOkL.eq_2 hid.eq_1 hids.eq_1 hids.eq_2 AS.appBase.eq_1 AS.appBase.eq_2 AS.appSrc.eq_1 appFits.eq_1 appFits.eq_2 appFits.eq_3 avFill.eq_1 avFill.eq_2 avc.eq_1 avc.eq_2 avc1.eq_1 Kd.agg.eq_1 Kd.agg.eq_2 okR.eq_1 okR.eq_2 okR.eq_3 okR.eq_4 okR.eq_5 okR.eq_6 okR.eq_7 okR.eq_8 zt.eq_1 rvB.eq_1 rvP.eq_1 rvA.eq_1 rvA.eq_2 rv1.eq_1 outTO.eq_1 outT.eq_1 outT.eq_2 outT.eq_3 outTn.eq_1 outOO.eq_1 outO.eq_1 outO.eq_2 boxOf.eq_1 outP.eq_1 outP.eq_2 outP.eq_3 outP.eq_4 outP.eq_5 outP.eq_6 outP.eq_7 outP.eq_8 outPL.eq_1 outPL.eq_2 outI.eq_1 outI.eq_2 outI.eq_3 outI.eq_4 outI.eq_5 outIL.eq_1 outZ.eq_1 outZ.eq_2 outZ.eq_3 outZ.eq_4 outZ.eq_5 outZL.eq_1 finO.eq_1 finO.eq_2 fin.eq_1 fin.eq_2 fin.eq_3 cellAV.eq_1 cellAV.eq_2 numsOf.eq_1 numsOf.eq_2 aop.eq_1 aop.eq_2 aop.eq_3 aop.eq_4 aop.eq_5 aop.eq_6 aop.eq_7 aop.eq_8 aop.eq_9 aop.eq_10 aop.eq_11 aop.eq_12 aop.eq_13 aop.eq_14 aop.eq_15 aop.eq_16 aop.eq_17 aop.eq_18 aop.eq_19 aop.eq_20 aop.eq_21 aop.eq_22 aop.eq_23 aop.eq_24 aop.eq_25 aop.eq_26 tmpsOf.eq_1 tmpsOf.eq_2 tmpsOf.eq_3 tmpsOf.eq_4 tmpsOf.eq_5 AV.refs.eq_1 AV.refs.eq_2 AV.refs.eq_3 AV.refs.eq_4 AV.refs.eq_5 AV.refs.eq_6 AV.refs.eq_7 AV.refs.eq_8 AV.refs.eq_9 AV.refs.eq_10 AV.refs.eq_11 AV.refsL.eq_1 AV.refsL.eq_2 refsT.eq_1 refsT.eq_2 refsO.eq_1 refsO.eq_2 refsO.eq_3 refsO.eq_4 refsO.eq_5 refsO.eq_6 refsB.eq_1 refsB.eq_2 clos.eq_1 clos.eq_2 keepL.eq_1 keepL.eq_2 AV.hasM.eq_1 AV.hasM.eq_2 AV.hasM.eq_3 AV.hasM.eq_4 AV.hasM.eq_5 AV.hasM.eq_6 AV.hasM.eq_7 AV.hasM.eq_8 AV.hasM.eq_9 AV.hasM.eq_10 AV.hasM.eq_11 AV.hasML.eq_1 AV.hasML.eq_2 Ob.dropM.eq_1 Ob.dropM.eq_2 Ob.dropM.eq_3 Ob.dropM.eq_4 nsC.eq_1 nsC.eq_2 okGuard.eq_1 okGuard.eq_2 AS.purges.eq_1 AS.purges.eq_2 dropMB.eq_1 dropMB.eq_2 newB.eq_1 newB.eq_2 ptB.eq_1 ptB.eq_2 lookC.eq_1 lookC.eq_2 dropB.eq_1 dropB.eq_2 leS.eq_1 leS.eq_2 leT.eq_1 leT.eq_2 AS.mvs.eq_1 AS.mvs.eq_2 AS.mvA.eq_1 AS.mvA.eq_2 AS.mvB.eq_1 aSetO.eq_1 aSetO.eq_2 aSh.eq_1 aSh.eq_2 arK.eq_1 aIdxA.eq_1 aIdxA.eq_2 arT.eq_1 aSlHB.eq_1 aSlHB.eq_2 aSlHO.eq_1 aSlHZ.eq_1 aSlHZ.eq_2 isSlT.eq_1 isNilC.eq_1 aNilO.eq_1 aNilX.eq_1 aNilX.eq_2 aNilX.eq_3 aNilC.eq_1 aNilC.eq_2 aBinQ.eq_1 aBinQ.eq_2 aMin.eq_1 flT.eq_1 flT.eq_2 flT.eq_3 mpT.eq_1 aMkMap.eq_1 aMkMap.eq_2 strA.eq_1 keyMK.eq_1 keyMK.eq_2 keyMK.eq_3 mkB.eq_1 mkB.eq_2 mkB.eq_3 aMp2.eq_1 aMp1.eq_1 aMp0.eq_1 aMapU.eq_1 aLk2.eq_1 aLk2.eq_2 aLk1.eq_1 aLk0.eq_1 aLookup.eq_1 aLenMO.eq_1 aLenM.eq_1 glV.eq_1 glV.eq_2 evG.eq_1 evG.eq_2 evG.eq_3 evG.eq_4 lkHitO.eq_1 lkHitO.eq_2 lkHitO.eq_3 lkHitO.eq_4 lkHit.eq_1 lkHit.eq_2 lkF.eq_1 lkF.eq_2 lkFind.eq_1 lkFind.eq_2 lkV.eq_1 lkV.eq_2 lkV.eq_3 lkV.eq_4 lkV.eq_5 AS.lkO.eq_1 AS.lkO.eq_2 AS.lkOf.eq_1 rawT.eq_1 rawT.eq_2 rawT.eq_3 rawT.eq_4 rawT.eq_5 rawT.eq_6 rawOf.eq_1 rawOf.eq_2 rawOf.eq_3 rawOf.eq_4 rawOf.eq_5 rawOf.eq_6 rawOf.eq_7 rawOf.eq_8 rawOf.eq_9 rawOf.eq_10 rawOf.eq_11 aLkR.eq_1 aLkR.eq_2 aLk.eq_1 aLk.eq_2 KL.eq_1 lkDrop.eq_1 lkDrop.eq_2 lkParO.eq_1 lkParO.eq_2 lkParO.eq_3 lkParO.eq_4 lkPar.eq_1 lkPar.eq_2 lkI.eq_1 lkI.eq_2 lkIds.eq_1 lkIds.eq_2 adLd.eq_1 run_nil run_b run_l run_skip run_label run_seq run_cond brV_b brB_t brB_f run_block run_exit run_ret run_region runX_nil runX_c runX_c' runX_b runX_b' runX_l runX_l' exB_t exB_f run_o run_op run_opg gV_b gV_t gB_tt gB_ff gB_tf gB_ft rs_eq kv KI aLenN aBS1 aApp1 aStore1 szOk gv gd s0 idOf look_cons lookC frzU_t frzU_f orT orF drop_any drop_nil drop_t drop_h drop_pb drop_pa drop_agg drop_tup drop_fn dropB kill_eq set_eq rem_eq re_eq up_eq get_eq ob_eq Ob.drop apl fpl plainTy AS.frz splice cond_true cond_false List.map_cons List.map_nil List.drop_zero List.drop_succ_cons List.drop_nil List.take_zero List.take_succ_cons List.take_nil List.getElem?_cons_zero List.getElem?_cons_succ List.getElem?_nil List.length_cons List.length_nil Option.map_some Option.map_none Option.bind_some Option.bind_none List.cons_append List.nil_append List.append_nil Option.getD_some Option.getD_none List.all_cons List.all_nil Bool.and_true Bool.true_and Bool.or_false Bool.false_or Bool.or_true Bool.true_or List.flatten_cons List.flatten_nil List.replicate_succ List.replicate_zero and_true true_and avOf_t avOf_f agg_bool agg_int agg_str agg_slice agg_struct agg_func agg_ptr agg_map avc_bool avc_int avc_str avc_fn avc1_bool avc1_int avc1_str avc1_fn zt_bool zt_int zt_str cells_nil cells_t cells_h cells_pb cells_fn snap_t snap_nil snap_h snap_pb snap_fn rv1_one rv1_two outI_t outI_oh outI_on outI_any outI_nil outZ_th outZ_tt outZ_tn outZ_o outZ_any outZ_nil outIL_nil outZL_nil finN finR ne_eq not_false_eq_true not_true_eq_false List.nodup_nil List.not_mem_nil false_implies implies_true eq_self true_or or_true Option.some.injEq shl_add shl_sub shl_mul shl_quo shl_rem shl_and shl_or shl_xor shl_andNot shl_eql shl_neq shl_lss shl_leq shl_gtr shl_geq shl_shr shl_shl appDeep_none appDeep_sn appSrc_h appSrc_nil fits_ft fits_tn fits_tf isStr_slice obFlat_box Nat.le_refl nbeq_self List.length_map updZ_s updZ_n dropM_eq purge_eq newIds_cons newIds_nil purgeT_nil purgeT_cons memN_cons memN_nil bd_d bd_c bd_g bd_p bd_t bd_o preds_nil preds_cons hasIns insB List.any_cons List.any_nil adK_eq adr_nil adG_eq kdOp noLen creates Op.operands Call.operands nsOf adT adI adJ plainB rst List.append_eq nsD_f nsD_n nsD_t nOf_0 nOf_1 nOf_2 chO_0 chO_1 chO_2 keepK_0 keepK_1 keepK_2 eqRes AS.mv fits KM aCallM notNew kdCall arK_i64 arK_i32 arK_u8 arK_u64 arT_sl isNilC_t isNilC_f isNilC_g isNilC_i isNilC_b isNilC_s isNilC_a isNilC_n andBF andBT aCallK_2 ble_dec hid_t hid_nil hid_any hid_pb hid_fn absOk_t absOk_nil absOk_pb absOk_h absOkO_1 decide_true decide_false Array.toList_append chunk_0 chunk_1 chunk_2 chunk_3 back_t back_nil back_ht backL_nil backI_t backI_nil backI_ht backIL_nil AS.mvJ nbeq_dec runR_f runR_t loadB Option.isSome_some Option.isSome_none nodup1 adr_none adr_some adO_s adV_b adV_t adB_tt adB_ff adB_tf adB_ft adS_eq lenL.eq_1 lenO.eq_1 lenO.eq_2 lenV.eq_1 lenV.eq_2 lenV.eq_3 lenV.eq_4 optN optS absT_ft
attribute [local go_sem] ty3 ty4 ty5 ty9 ty21 ty22 ty23 ty25 ty27 ty28 ty29 ty31 ty33 ty43 ty45 ty46 ty48 ty54 ty57 ty59 ty60 ty62 ty73 ty75 ty91 ty96 ty98 ty101 ty104 ty120 ty125 ty129 ty146 ty166 ty207 ty220 ty237 lv27 lv91 lv104 lv120 zb4 leS leT fits AS.mvs encStr_eq aIdx_str EStr_dec decStrs decStrs0 EStr_enc EStr_n encInt_eq aIdx_int EInt_dec decInts decInts0 EInt_enc EInt_n AllV_Int len_Int lc_enc l0_enc asl_enc ag_enc aow_enc ABool_enc AInt_enc AStr_enc AU8_enc ABool_dec AInt_dec AStr_dec AU8_dec asl_dec ag_dec aow_dec bind_some pr2.eq_1 l0_nil lc_cons unT.eq_1 K0.eq_1 M0.eq_1 KI AllV_Str len_Str ctR_eq ctM_eq ro_kd ro_ro mu_kd mu_mu encAd_eq aIdx_Ad EAd_dec decAds decAds0 EAd_enc EAd_n len_Ad Ad_eta AllV_Ad encRc_eq aIdx_Rc ERc_dec decRcs decRcs0 ERc_enc ERc_n len_Rc Rc_eta AllV_Rc encIm_eq aIdx_Im EIm_dec decIms decIms0 EIm_enc EIm_n len_Im Im_eta mkIm.eq_1 owIm_eq AIm_enc AIm_dec encSp_eq aIdx_Sp ESp_dec decSps decSps0 ESp_enc ESp_n len_Sp Sp_eta mkSp.eq_1 owSp_eq ASp_enc ASp_dec encWy_eq aIdx_Wy EWy_dec decWys decWys0 EWy_enc EWy_n len_Wy Wy_eta AllV_Wy encCf_eq aIdx_Cf ECf_dec decCfs decCfs0 ECf_enc ECf_n len_Cf Cf_eta mkCf.eq_1 owCf_eq ACf_enc ACf_dec encGm_eq aIdx_Gm EGm_dec decGms decGms0 EGm_enc EGm_n len_Gm Gm_eta mkGm.eq_1 owGm_eq AGm_enc AGm_dec encBx_eq aIdx_Bx EBx_dec decBxs decBxs0 EBx_enc EBx_n len_Bx Bx_eta mkBx.eq_1 owBx_eq ABx_enc ABx_dec encLs_eq aIdx_Ls ELs_dec decLss decLss0 ELs_enc ELs_n len_Ls Ls_eta AllV_Ls encHs_eq aIdx_Hs EHs_dec decHss decHss0 EHs_enc EHs_n len_Hs Hs_eta mkHs.eq_1 owHs_eq AHs_enc AHs_dec encWd_eq aIdx_Wd EWd_dec decWds decWds0 EWd_enc EWd_n len_Wd Wd_eta mkWd.eq_1 owWd_eq AWd_enc AWd_dec
theorem lsQ {a b : Ls} : (decide (a.mark = b.mark) && decide (a.addr.user = b.addr.user) && decide (a.addr.domain = b.addr.domain)) = decide (a = b) := by
  rw [← Bool.decide_and, ← Bool.decide_and]
  exact decide_eq_decide.2 (by rw [Ls_ext, Ad_ext]; simp [and_assoc])
theorem lsN1 {a b : Ls} : ((true != (decide (a.mark = b.mark) && decide (a.addr.user = b.addr.user) && decide (a.addr.domain = b.addr.domain))) = true) = ¬ a = b := by
  rw [lsQ]; by_cases h : a = b <;> simp [h]
theorem lsN0 {a b : Ls} : ((true != (decide (a.mark = b.mark) && decide (a.addr.user = b.addr.user) && decide (a.addr.domain = b.addr.domain))) = false) = (a = b) := by
  rw [lsQ]; by_cases h : a = b <;> simp [h]
theorem wyQ {a b : Wy} : (decide (a.ends = b.ends) && decide (a.to = b.to)) = decide (a = b) := by
  rw [← Bool.decide_and]
  exact decide_eq_decide.2 (by rw [Wy_ext])
theorem wyN1 {a b : Wy} : ((true != (decide (a.ends = b.ends) && decide (a.to = b.to))) = true) = ¬ a = b := by
  rw [wyQ]; by_cases h : a = b <;> simp [h]
theorem wyN0 {a b : Wy} : ((true != (decide (a.ends = b.ends) && decide (a.to = b.to))) = false) = (a = b) := by
  rw [wyQ]; by_cases h : a = b <;> simp [h]
def c19 : Ct := ctR (lc EInt.asl (lc EInt.asl l0)) (fun p => True) (fun p => .t (.v (.bool (decide (p.1 = p.2.1)))))
section
attribute [local go_sem] List.length_map
set_option maxHeartbeats 1600000 in
theorem good19 {G : Gt} (hG : OkG G) : Gd G 19 (roEnt 0 c19) := by
  refine gR (dp := fun _ => true) (fn := Tryz.f19) (n := 2) (fun _ => rfl) (by kernel_rfl) rfl (by kernel_rfl) hG (Nat.le_of_ble_eq_true rfl) (by kernel_rfl) (by decide) (fun _ _ => .v _) ?_
  rintro ⟨xs, ys, ⟨⟩⟩ hpre
  simp -implicitDefEqProofs only [Tryz.f19, go_sem] at hpre ⊢
  repeat' (first | with_reducible apply And.intro | with_reducible intro _ | ((first | apply brB_split | apply aPickB_split | apply gB_split | apply adB_split) <;> intro hb <;> simp -implicitDefEqProofs only [hb, go_sem] <;> try simp only [qz] at hb))
  all_goals (try simp only [maxLen] at *)
  all_goals first | rfl | omega | skip
  · have : ¬ xs = ys := fun e => hb (by rw [e])
    simp [this]
  · have hl : xs.length = ys.length := by omega
    refine run_loop [] (ι := {i : Nat // i ≤ xs.length ∧ ∀ j, j < i → xs.getD j default = ys.getD j default}) (fun p => ⟨[(0, .t (.sl 1 (xs.map encInt))), (1, .t (.sl 1 (ys.map encInt))), (5, .t (.v (.int .i64 p.1)))], []⟩) (fun p => xs.length - p.1) ⟨0, by simp, by simp⟩ rfl ?_ ?_
    · simp -implicitDefEqProofs only [go_sem]
      simp
    · rintro ⟨i, hi, hall⟩
      simp -implicitDefEqProofs only [go_sem]
      repeat' (first | with_reducible apply And.intro | with_reducible intro _ | ((first | apply brB_split | apply aPickB_split | apply gB_split | apply adB_split) <;> intro hb <;> simp -implicitDefEqProofs only [hb, go_sem] <;> try simp only [qz] at hb))
      all_goals (try simp only [maxLen, Int.toNat_natCast] at *)
      all_goals first
        | rfl
        | omega
        | decide
        | (show pairsB _ = true; rfl)
        | ((have hne : ¬ xs = ys := fun e => by subst e; first | exact hb rfl | (simp at hb; done) | (simp_all; done)); simp [hne]; done)
        | (refine ⟨⟨i + 1, by omega, eq_step hall (by first | assumption | (simp [*] at *; done))⟩, by dsimp only; omega, ?_⟩
           simp -implicitDefEqProofs only [go_sem]
           simp
           done)
        | (have hxy := all_eqs i hl hall (by omega)
           simp [hxy]
           done)
        | trace_state
end
def c46 : Ct := ctR (lc ELs.asl (lc ELs.asl l0)) (fun p => True) (fun p => .t (.v (.bool (decide (p.1 = p.2.1)))))
section
attribute [local go_sem] List.length_map
set_option maxHeartbeats 1600000 in
theorem good46 {G : Gt} (hG : OkG G) : Gd G 46 (roEnt 0 c46) := by
  refine gR (dp := fun _ => true) (fn := Tryz.f46) (n := 2) (fun _ => rfl) (by kernel_rfl) rfl (by kernel_rfl) hG (Nat.le_of_ble_eq_true rfl) (by kernel_rfl) (by decide) (fun _ _ => .v _) ?_
  rintro ⟨xs, ys, ⟨⟩⟩ hpre
  simp -implicitDefEqProofs only [Tryz.f46, go_sem] at hpre ⊢
  repeat' (first | with_reducible apply And.intro | with_reducible intro _ | ((first | apply brB_split | apply aPickB_split | apply gB_split | apply adB_split) <;> intro hb <;> simp -implicitDefEqProofs only [hb, go_sem] <;> try simp only [qz] at hb))
  all_goals (try simp only [maxLen] at *)
  all_goals first | rfl | omega | skip
  · have : ¬ xs = ys := fun e => hb (by rw [e])
    simp [this]
  · have hl : xs.length = ys.length := by omega
    refine run_loop [] (ι := {i : Nat // i ≤ xs.length ∧ ∀ j, j < i → xs.getD j default = ys.getD j default}) (fun p => ⟨[(0, .t (.sl 3 (xs.map encLs))), (1, .t (.sl 3 (ys.map encLs))), (5, .t (.v (.int .i64 p.1)))], []⟩) (fun p => xs.length - p.1) ⟨0, by simp, by simp⟩ rfl ?_ ?_
    · simp -implicitDefEqProofs only [go_sem]
      simp
    · rintro ⟨i, hi, hall⟩
      simp -implicitDefEqProofs only [go_sem]
      repeat' (first | with_reducible apply And.intro | with_reducible intro _ | ((first | apply brB_split | apply aPickB_split | apply gB_split | apply adB_split) <;> intro hb <;> simp -implicitDefEqProofs only [hb, go_sem] <;> try simp only [qz] at hb))
      all_goals (try simp only [maxLen, Int.toNat_natCast, lsN1, lsN0] at *)
      all_goals first
        | rfl
        | omega
        | decide
        | (show pairsB _ = true; rfl)
        | ((have hne : ¬ xs = ys := fun e => by subst e; first | exact hb rfl | (simp at hb; done) | (simp_all; done)); simp [hne]; done)
        | (refine ⟨⟨i + 1, by omega, eq_step hall (by first | assumption | (simp [*] at *; done))⟩, by dsimp only; omega, ?_⟩
           simp -implicitDefEqProofs only [go_sem]
           simp
           done)
        | (have hxy := all_eqs i hl hall (by omega)
           simp [hxy]
           done)
        | trace_state
end
def c92 : Ct := ctR (lc EGm.asl (lc EGm.asl l0)) (fun p => True) (fun p => .t (.v (.bool (decide (p.1 = p.2.1)))))
section
attribute [local go_sem] c79 List.length_map
set_option maxHeartbeats 1600000 in
theorem good92 {G : Gt} (hG : OkG G) (hh : G.e 79 = roEnt 0 c79) : Gd G 92 (roEnt 0 c92) := by
  refine gR (dp := fun _ => true) (fn := Tryz.f92) (n := 2) (fun _ => rfl) (by kernel_rfl) rfl (by kernel_rfl) hG (Nat.le_of_ble_eq_true rfl) (by kernel_rfl) (by decide) (fun _ _ => .v _) ?_
  rintro ⟨xs, ys, ⟨⟩⟩ hpre
  simp -implicitDefEqProofs only [Tryz.f92, go_sem, hh] at hpre ⊢
  repeat' (first | with_reducible apply And.intro | with_reducible intro _ | ((first | apply brB_split | apply aPickB_split | apply gB_split | apply adB_split) <;> intro hb <;> simp -implicitDefEqProofs only [hb, go_sem, hh] <;> try simp only [qz] at hb))
  all_goals (try simp only [maxLen] at *)
  all_goals first | rfl | omega | skip
  · have : ¬ xs = ys := fun e => hb (by rw [e])
    simp [this]
  · have hl : xs.length = ys.length := by omega
    refine run_loop [] (ι := {i : Nat // i ≤ xs.length ∧ ∀ j, j < i → xs.getD j default = ys.getD j default}) (fun p => ⟨[(0, .t (.sl 3 (xs.map encGm))), (1, .t (.sl 3 (ys.map encGm))), (5, .t (.v (.int .i64 p.1)))], []⟩) (fun p => xs.length - p.1) ⟨0, by simp, by simp⟩ rfl ?_ ?_
    · simp -implicitDefEqProofs only [go_sem, hh]
      simp
    · rintro ⟨i, hi, hall⟩
      simp -implicitDefEqProofs only [go_sem, hh]
      repeat' (first | with_reducible apply And.intro | with_reducible intro _ | ((first | apply brB_split | apply aPickB_split | apply gB_split | apply adB_split) <;> intro hb <;> simp -implicitDefEqProofs only [hb, go_sem, hh] <;> try simp only [qz] at hb))
      all_goals (try simp only [maxLen, Int.toNat_natCast, adN, adN'] at *)
      all_goals first
        | rfl
        | omega
        | decide
        | (show pairsB _ = true; rfl)
        | ((have hne : ¬ xs = ys := fun e => by subst e; first | exact hb rfl | (simp at hb; done) | (simp_all; done)); simp [hne]; done)
        | (refine ⟨⟨i + 1, by omega, eq_step hall (by rw [Gm_ext]; exact ⟨by assumption, by assumption⟩)⟩, by dsimp only; omega, ?_⟩
           simp -implicitDefEqProofs only [go_sem, hh]
           simp
           done)
        | (have hxy := all_eqs i hl hall (by omega)
           simp [hxy]
           done)
        | trace_state
end
def c91 : Ct := ctR (lc ECf.ag (lc ECf.ag l0)) (fun p => True) (fun p => .t (.v (.bool (decide (p.1 = p.2.1)))))
section
attribute [local go_sem] c79 List.length_map
set_option maxHeartbeats 3200000 in
theorem good91 {G : Gt} (hG : OkG G) (hh : G.e 79 = roEnt 0 c79) : Gd G 91 (roEnt 0 c91) := by
  refine gR (dp := fun _ => true) (fn := Tryz.f91) (n := 2) (fun _ => rfl) (by kernel_rfl) rfl (by kernel_rfl) hG (Nat.le_of_ble_eq_true rfl) (by kernel_rfl) (by decide) (fun _ _ => .v _) ?_
  rintro ⟨a, b, ⟨⟩⟩ hpre
  simp -implicitDefEqProofs only [Tryz.f91, go_sem, hh] at hpre ⊢
  repeat' (first | with_reducible apply And.intro | with_reducible intro _ | ((first | apply brB_split | apply aPickB_split | apply gB_split | apply adB_split) <;> intro hb <;> simp -implicitDefEqProofs only [hb, go_sem, hh] <;> try simp only [qz] at hb))
  all_goals (try simp only [maxLen] at *)
  all_goals first
    | rfl
    | omega
    | ((have hne : ¬ a = b := fun e => by subst e; simp_all); simp [hne]; done)
    | skip
  have h0 : a.name = b.name := by assumption
  have h1 : a.own = b.own := by assumption
  have hl : a.ways.length = b.ways.length := by omega
  refine run_loop [] (ι := {i : Nat // i ≤ a.ways.length ∧ ∀ j, j < i → a.ways.getD j default = b.ways.getD j default}) (fun p => ⟨[(2, .pb 1002 0), (3, .pb 1003 0), (5, .t (.v (.int .i64 p.1)))], [(1002, some (.box ((encCf a).map .t))), (1003, some (.box ((encCf b).map .t)))]⟩) (fun p => a.ways.length - p.1) ⟨0, by simp, by simp⟩ rfl ?_ ?_
  · simp -implicitDefEqProofs only [go_sem, hh]
    simp
  · rintro ⟨i, hi, hall⟩
    simp -implicitDefEqProofs only [go_sem, hh]
    repeat' (first | with_reducible apply And.intro | with_reducible intro _ | ((first | apply brB_split | apply aPickB_split | apply gB_split | apply adB_split) <;> intro hb <;> simp -implicitDefEqProofs only [hb, go_sem, hh] <;> try simp only [qz] at hb))
    all_goals (try simp only [maxLen, Int.toNat_natCast, wyN1, wyN0] at *)
    all_goals first
      | rfl
      | omega
      | decide
      | (show pairsB _ = true; rfl)
      | ((have hne : ¬ a = b := fun e => by subst e; first | exact hb rfl | simp_all); simp [hne]; done)
      | (refine ⟨⟨i + 1, by omega, eq_step hall (by assumption)⟩, by dsimp only; omega, ?_⟩
         simp -implicitDefEqProofs only [go_sem, hh]
         simp
         done)
      | (have hxy := all_eqs i hl hall (by omega)
         (have hab : a = b := by rw [Cf_ext]; exact ⟨h0, h1, hxy⟩); simp [hab]
         done)
      | trace_state
end
def c47 : Ct := ctR (lc EHs.ag (lc EHs.ag l0)) (fun p => True) (fun p => .t (.v (.bool (decide (p.1 = p.2.1)))))
section
attribute [local go_sem] c91 c9 c46 c92 List.length_map
set_option maxHeartbeats 3200000 in
theorem good47 {G : Gt} (hG : OkG G) (hh : G.e 91 = roEnt 0 c91 ∧ G.e 9 = roEnt 0 c9 ∧ G.e 46 = roEnt 0 c46 ∧ G.e 92 = roEnt 0 c92) : Gd G 47 (roEnt 0 c47) := by
  refine gR (dp := fun _ => true) (fn := Tryz.f47) (n := 2) (fun _ => rfl) (by kernel_rfl) rfl (by kernel_rfl) hG (Nat.le_of_ble_eq_true rfl) (by kernel_rfl) (by decide) (fun _ _ => .v _) ?_
  rintro ⟨a, b, ⟨⟩⟩ hpre
  simp -implicitDefEqProofs only [Tryz.f47, go_sem, hh] at hpre ⊢
  repeat' (first | with_reducible apply And.intro | with_reducible intro _ | ((first | apply brB_split | apply aPickB_split | apply gB_split | apply adB_split) <;> intro hb <;> simp -implicitDefEqProofs only [hb, go_sem, hh] <;> try simp only [qz] at hb))
  all_goals (try simp only [maxLen] at *)
  all_goals first
    | rfl
    | omega
    | ((have hne : ¬ a = b := fun e => by subst e; simp_all); simp [hne]; done)
    | skip
  have h0 : a.conf = b.conf := by assumption
  have h1 : a.spool = b.spool := by assumption
  have h2 : a.lost = b.lost := by assumption
  have hl : a.boxes.length = b.boxes.length := by omega
  refine run_loop [] (ι := {i : Nat // i ≤ a.boxes.length ∧ ∀ j, j < i → a.boxes.getD j default = b.boxes.getD j default}) (fun p => ⟨[(2, .pb 1002 0), (3, .pb 1003 0), (5, .t (.v (.int .i64 p.1)))], [(1002, some (.box ((encHs a).map .t))), (1003, some (.box ((encHs b).map .t)))]⟩) (fun p => a.boxes.length - p.1) ⟨0, by simp, by simp⟩ rfl ?_ ?_
  · simp -implicitDefEqProofs only [go_sem, hh]
    simp
  · rintro ⟨i, hi, hall⟩
    simp -implicitDefEqProofs only [go_sem, hh]
    repeat' (first | with_reducible apply And.intro | with_reducible intro _ | ((first | apply brB_split | apply aPickB_split | apply gB_split | apply adB_split) <;> intro hb <;> simp -implicitDefEqProofs only [hb, go_sem, hh] <;> try simp only [qz] at hb))
    all_goals (try simp only [maxLen, Int.toNat_natCast, adN, adN'] at *)
    all_goals first
      | rfl
      | omega
      | decide
      | (show pairsB _ = true; rfl)
      | ((have hne : ¬ a = b := fun e => by subst e; first | exact hb rfl | simp_all); simp [hne]; done)
      | (refine ⟨⟨i + 1, by omega, eq_step hall (by rw [Bx_ext]; exact ⟨by assumption, by assumption⟩)⟩, by dsimp only; omega, ?_⟩
         simp -implicitDefEqProofs only [go_sem, hh]
         simp
         done)
      | (have hxy := all_eqs i hl hall (by omega)
         (have hab : a = b := by rw [Hs_ext]; exact ⟨h0, h1, hxy, h2⟩); simp [hab]
         done)
      | trace_state
end
def c15 : Ct := ctR (lc EWd.ag (lc EWd.ag l0)) (fun p => True) (fun p => .t (.v (.bool (decide (p.1 = p.2.1)))))
section
attribute [local go_sem] c46 c47 List.length_map
set_option maxHeartbeats 3200000 in
theorem good15 {G : Gt} (hG : OkG G) (hh : G.e 46 = roEnt 0 c46 ∧ G.e 47 = roEnt 0 c47) : Gd G 15 (roEnt 0 c15) := by
  refine gR (dp := fun _ => true) (fn := Tryz.f15) (n := 2) (fun _ => rfl) (by kernel_rfl) rfl (by kernel_rfl) hG (Nat.le_of_ble_eq_true rfl) (by kernel_rfl) (by decide) (fun _ _ => .v _) ?_
  rintro ⟨a, b, ⟨⟩⟩ hpre
  simp -implicitDefEqProofs only [Tryz.f15, go_sem, hh] at hpre ⊢
  repeat' (first | with_reducible apply And.intro | with_reducible intro _ | ((first | apply brB_split | apply aPickB_split | apply gB_split | apply adB_split) <;> intro hb <;> simp -implicitDefEqProofs only [hb, go_sem, hh] <;> try simp only [qz] at hb))
  all_goals (try simp only [maxLen] at *)
  all_goals first
    | rfl
    | omega
    | ((have hne : ¬ a = b := fun e => by subst e; simp_all); simp [hne]; done)
    | skip
  have h0 : a.now = b.now := by assumption
  have h1 : a.marks = b.marks := by assumption
  have h2 : a.given = b.given := by assumption
  have hl : a.hosts.length = b.hosts.length := by omega
  refine run_loop [] (ι := {i : Nat // i ≤ a.hosts.length ∧ ∀ j, j < i → a.hosts.getD j default = b.hosts.getD j default}) (fun p => ⟨[(2, .pb 1002 0), (3, .pb 1003 0), (5, .t (.v (.int .i64 p.1)))], [(1002, some (.box ((encWd a).map .t))), (1003, some (.box ((encWd b).map .t)))]⟩) (fun p => a.hosts.length - p.1) ⟨0, by simp, by simp⟩ rfl ?_ ?_
  · simp -implicitDefEqProofs only [go_sem, hh]
    simp
  · rintro ⟨i, hi, hall⟩
    simp -implicitDefEqProofs only [go_sem, hh]
    repeat' (first | with_reducible apply And.intro | with_reducible intro _ | ((first | apply brB_split | apply aPickB_split | apply gB_split | apply adB_split) <;> intro hb <;> simp -implicitDefEqProofs only [hb, go_sem, hh] <;> try simp only [qz] at hb))
    all_goals (try simp only [maxLen, Int.toNat_natCast] at *)
    all_goals first
      | rfl
      | omega
      | decide
      | (show pairsB _ = true; rfl)
      | ((have hne : ¬ a = b := fun e => by subst e; first | exact hb rfl | simp_all); simp [hne]; done)
      | (refine ⟨⟨i + 1, by omega, eq_step hall (by assumption)⟩, by dsimp only; omega, ?_⟩
         simp -implicitDefEqProofs only [go_sem, hh]
         simp
         done)
      | (have hxy := all_eqs i hl hall (by omega)
         (have hab : a = b := by rw [Wd_ext]; exact ⟨hxy, h0, h1, h2⟩); simp [hab]
         done)
      | trace_state
end
theorem cfOk1_ok {c : Cf} (h : cfOk1 c = true) : OkCf c ∧ c.own.length ≤ 10 ∧ c.ways.length ≤ 10 := by
  unfold cfOk1 at h
  simp only [Bool.and_eq_true, Nat.ble_eq, List.all_eq_true] at h
  obtain ⟨z1, z2, z3, z4, z5⟩ := h
  exact ⟨⟨by show c.name.size ≤ 1048576; omega, ⟨by omega, fun s hs => by have := z3 s hs; show s.size ≤ 1048576; omega⟩, ⟨by omega, fun w hw => ⟨by have := (z5 w hw).1; show w.ends.size ≤ 1048576; omega, by have := (z5 w hw).2; show w.to.size ≤ 1048576; omega⟩⟩⟩, z2, z4⟩
theorem of3 {r : Rd} {l : List ByteArray} (h0 : 0 ≤ r.p) (h1 : r.p ≤ 1000000000) (hl : l.all (fun s => Nat.ble s.size 100) = true) (hn : 1 ≤ l.length) : OkStr (ofS r l) := by
  have := List.all_eq_true.1 hl _ (ofS_mem h0 h1 hn)
  simp only [Nat.ble_eq] at this
  show (ofS r l).size ≤ 1048576
  omega
theorem anyCf_ok {r : Rd} (h : 0 ≤ r.p) (h1 : r.p ≤ 999980000) : OkCf (anyCf r).1 := by
  obtain ⟨z, z1, z2⟩ := cfOk1_ok (cfD_b h (show r.p ≤ 999999000 by omega))
  by_cases c0 : pkN (r.nx 2) 10 = 0
  · rw [anyCf_0 c0]; exact ⟨of3 (by rw [nx_p]; omega) (by rw [nx_p]; omega) (by decide +kernel) (by decide), z.2.1, z.2.2⟩
  · by_cases c1 : pkN (r.nx 2) 10 = 1
    · rw [anyCf_1 c1]
      refine ⟨z.1, ⟨by show ((_ ++ _ : List ByteArray).length : Int) ≤ _; rw [List.length_append]; simp; omega, fun s hs => ?_⟩, z.2.2⟩
      rcases List.mem_append.1 hs with hs | hs
      · exact z.2.1.2 s hs
      · simp only [List.mem_cons, List.not_mem_nil, or_false] at hs
        rcases hs with rfl | rfl <;> (show ByteArray.size _ ≤ 1048576; decide)
    · by_cases c2 : pkN (r.nx 2) 10 = 2
      · rw [anyCf_2 c2]
        refine ⟨z.1, z.2.1, ⟨by show ((_ ++ _ : List Wy).length : Int) ≤ _; rw [List.length_append]; simp; omega, fun s hs => ?_⟩⟩
        rcases List.mem_append.1 hs with hs | hs
        · exact z.2.2.2 s hs
        · simp only [List.mem_singleton] at hs
          subst hs
          exact ⟨of3 (by rw [nx_p]; omega) (by rw [nx_p]; omega) (by decide +kernel) (by decide), by show (⟨#[116, 119, 111, 46, 111, 114, 103]⟩ : ByteArray).size ≤ 1048576; decide⟩
      · rw [anyCf_3 ⟨c0, c1, c2⟩]; exact z
theorem dwC_ok (b : List UInt8) : OkL OkCf (dwC b) := by
  obtain ⟨q2, q3, q4⟩ := cfsL_b (pkN (opn b) 5)
  have e : cfsL (pkN (opn b) 5) = cfsD (opn b) := rfl
  rw [e] at q2 q3 q4
  have hc : ∀ c ∈ cfsD (opn b), OkCf c := fun c hc => (cfOk1_ok (List.all_eq_true.1 q2 c hc)).1
  by_cases c : pkN ⟨(opn b).b, 1⟩ 4 = 0
  · rw [dwC_y c]
    refine ⟨by rw [List.length_append]; simp; omega, fun x hx => ?_⟩
    rcases List.mem_append.1 hx with hx | hx
    · exact hc x hx
    · simp only [List.mem_singleton] at hx
      subst hx
      exact anyCf_ok (by show (0 : Int) ≤ 2; decide) (by show (2 : Int) ≤ 999980000; decide)
  · rw [dwC_n c]; exact ⟨by omega, hc⟩
theorem sum0 {N : Hs → Int} (h : ∀ c, N (newHs c) = 0) : ∀ cs : List Cf, sumL N (cs.map newHs) = 0
  | [] => rfl
  | c :: r => by show N (newHs c) + sumL N (r.map newHs) = 0; rw [h, sum0 h r]; rfl
theorem wn_facts {cs : List Cf} (hz : OkL OkCf cs) : OkWd (WNew cs) ∧ ((WNew cs).hosts.length = 0 ∨ (WdOk (WNew cs) ∧ (WNew cs).hosts.length = cs.length ∧ LKept (WNew cs) = 0 ∧ LMany (WNew cs) = [0, 0, 0, 0])) := by
  by_cases h : (∀ c ∈ cs, CfOk c) ∧ WdOk (newWd cs)
  · rw [WNew_y h]
    refine ⟨⟨⟨by show ((cs.map newHs).length : Int) ≤ _; rw [List.length_map]; exact hz.1, fun x hx => ?_⟩, ⟨by show ((0 : Nat) : Int) ≤ _; decide, fun _ q => by cases q⟩⟩, .inr ⟨h.2, by show (cs.map newHs).length = _; rw [List.length_map], by rw [LKept_y h.2]; rfl, ?_⟩⟩
    · obtain ⟨c, hc, rfl⟩ := List.mem_map.1 hx
      exact newHs_ok (hz.2 c hc)
    · rw [LMany_y h.2]
      have e : (newWd cs).hosts = cs.map newHs := rfl
      rw [e, sum0 (N := itN) (fun _ => rfl), sum0 (N := mnN) (fun c => by show SMany ⟨0, []⟩ = 0; rw [SMany_y (show SpOk ⟨0, []⟩ from ⟨fun x hx => (by cases hx), fun j _ hj => absurd hj (Nat.not_lt_zero _), ⟨by decide, by decide⟩, Nat.zero_le _⟩)]; rfl), sum0 (N := bxN) (fun _ => rfl), sum0 (N := loN) (fun _ => rfl)]
  · rw [WNew_n h]
    exact ⟨⟨⟨by show ((0 : Nat) : Int) ≤ _; decide, fun _ q => by cases q⟩, ⟨by show ((0 : Nat) : Int) ≤ _; decide, fun _ q => by cases q⟩⟩, .inl rfl⟩
def c4 : Ct := ctR (lc EBy.asl l0) (fun p => True) (fun p => .t (.v (.bool true)))
section
attribute [local go_sem] c13 c14 c16 c15 c17 c18 c20 c19 EBy_enc EBy_n decBys len_By bOf_t bOf_f decI_c ck_4 ck_5 ck_6 ck_7 ck_11 ck_12 tmap dmap List.take_length List.drop_zero List.length_take List.length_drop List.length_map List.length_append List.length_cons List.length_nil List.map_append List.map_nil List.map_cons List.nil_append Nat.zero_add List.mem_singleton forall_eq Bool.not_true Bool.not_false
set_option maxHeartbeats 6400000 in
theorem good4 {G : Gt} (hG : OkG G) (hh : G.e 13 = roEnt 1 c13 ∧ G.e 14 = roEnt 0 c14 ∧ G.e 16 = roEnt 0 c16 ∧ G.e 15 = roEnt 0 c15 ∧ G.e 17 = roEnt 0 c17 ∧ G.e 18 = roEnt 0 c18 ∧ G.e 20 = roEnt 0 c20 ∧ G.e 19 = roEnt 0 c19) : Gd G 4 (roEnt 0 c4) := by
  refine gR (dp := fun _ => true) (fn := Tryz.f4) (n := 1) (fun _ => rfl) (by kernel_rfl) rfl (by kernel_rfl) hG (Nat.le_of_ble_eq_true rfl) (by kernel_rfl) (by decide) (fun _ _ => .v _) ?_
  rintro ⟨b, ⟨⟩⟩ hpre
  try dsimp only
  have zc := dwC_ok b
  obtain ⟨zw, hk⟩ := wn_facts zc
  obtain ⟨W, hr⟩ : ∃ W, WNew (dwC b) = W := ⟨_, rfl⟩
  rw [hr] at zw hk
  have zl := zw.1.1
  by_cases L : (b.length : Int) > 1048576
  · simp -implicitDefEqProofs only [Tryz.f4, L, decide_true, go_sem, hh]
    repeat' (first | with_reducible apply And.intro | with_reducible intro _ | ((first | apply brB_split | apply aPickB_split | apply gB_split | apply adB_split) <;> intro hb <;> simp -implicitDefEqProofs only [hb, go_sem, hh] <;> try simp only [qz] at hb))
    all_goals first | rfl | omega
  · rcases hk with h | ⟨h1, h2, h3, h4⟩
    · have h' : (W.hosts.length : Int) = 0 := by omega
      simp -implicitDefEqProofs only [Tryz.f4, L, hr, h', eq_self, decide_true, decide_false, go_sem, hh]
      repeat' (first | with_reducible apply And.intro | with_reducible intro _ | ((first | apply brB_split | apply aPickB_split | apply gB_split | apply adB_split) <;> intro hb <;> simp -implicitDefEqProofs only [hb, go_sem, hh] <;> try simp only [qz] at hb))
      all_goals (try simp only [maxLen, Int.toNat_natCast, bOf_t, bOf_f, qa, qb] at *)
      all_goals first | with_reducible rfl | omega | decide | assumption | (show pairsB _ = true; rfl) | contradiction | (rw [decide_eq_true (by omega)]; done) | (simp at *; done) | (simp [h4]; done) | trace_state
    · by_cases h' : (W.hosts.length : Int) = 0
      · skip
        simp -implicitDefEqProofs only [Tryz.f4, L, hr, h', eq_self, decide_true, decide_false, go_sem, hh]
        repeat' (first | with_reducible apply And.intro | with_reducible intro _ | ((first | apply brB_split | apply aPickB_split | apply gB_split | apply adB_split) <;> intro hb <;> simp -implicitDefEqProofs only [hb, go_sem, hh] <;> try simp only [qz] at hb))
        all_goals (try simp only [maxLen, Int.toNat_natCast, bOf_t, bOf_f, qa, qb] at *)
        all_goals first | with_reducible rfl | omega | decide | assumption | (show pairsB _ = true; rfl) | contradiction | (rw [decide_eq_true (by omega)]; done) | (simp at *; done) | (simp [h4]; done) | trace_state
      · have b1 := bOf_y h1
        simp -implicitDefEqProofs only [Tryz.f4, L, hr, h', b1, h3, h4, eq_self, decide_true, decide_false, go_sem, hh]
        repeat' (first | with_reducible apply And.intro | with_reducible intro _ | ((first | apply brB_split | apply aPickB_split | apply gB_split | apply adB_split) <;> intro hb <;> simp -implicitDefEqProofs only [hb, go_sem, hh] <;> try simp only [qz] at hb))
        all_goals (try simp only [maxLen, Int.toNat_natCast, bOf_t, bOf_f, qa, qb] at *)
        all_goals first | with_reducible rfl | omega | decide | assumption | (show pairsB _ = true; rfl) | contradiction | (rw [decide_eq_true (by omega)]; done) | (simp at *; done) | (simp [h4]; done) | trace_state
end
end Go.V
namespace Go.V
open Go Go.Proofs Go.ChangeShapes Go.WideShapes Go.ChangeAt Go.RowKit
set_option maxRecDepth 100000
section
variable {H : Type} {enc : TypeId × Value → H} {W : World} {P : Program}
def pW (W : World) : Nat → Prop := fun b => b < W.heap.size
def RdT (P : Program) (W : World) (enc : TypeId × Value → H) (t : TypeId) (q : List T → Prop) : Prop :=
  ∀ (n : Nat) (cs : List Value) (x : DataW H × List MemPlace), DataW.trod enc P W 0 (fun _ => true) true n t cs = some x → ∃ ts, q ts ∧ RoL W (pW W) ts cs
theorem RdT.str {t : TypeId} (u : P.underlying t = some .string) : RdT P W enc t fun ts => ∃ s, ts = [.v (.string s)] := fun n cs x h => by
  obtain ⟨s, rfl, _, hs⟩ := DataW.trod_string u h
  exact ⟨_, ⟨s, rfl⟩, .cons _ _ _ _ (.v _ hs) .nil⟩
theorem RdT.int {t : TypeId} (u : P.underlying t = some (.int .i64)) : RdT P W enc t fun ts => ∃ k, ts = [.v (.int .i64 k)] := fun n cs x h => by
  obtain ⟨k, rfl, _, hs⟩ := DataW.trod_int u h
  exact ⟨_, ⟨k, rfl⟩, .cons _ _ _ _ (.v _ trivial) .nil⟩
theorem fieldAt {fs : Array Field} {l : List (TypeId × Nat)} (hl : (fs.toList.map fun f => (f.type, f.offset)) = l) {i : Nat} {t : TypeId} {o : Nat} (hi : l[i]? = some (t, o)) : ∃ f, fs[i]? = some f ∧ f.type = t ∧ f.offset = o := by
  rw [← hl, List.getElem?_map] at hi
  cases hf : fs.toList[i]? with
  | none => rw [hf] at hi; cases hi
  | some f =>
    rw [hf] at hi
    simp only [Option.map_some, Option.some.injEq, Prod.mk.injEq] at hi
    exact ⟨f, by rw [← Array.getElem?_toList]; exact hf, hi.1, hi.2⟩
theorem RdT.field {t : TypeId} {fs : Array Field} (u : P.underlying t = some (.struct fs)) {n : Nat} {cs : List Value} {x : DataW H × List MemPlace} (h : DataW.trod enc P W 0 (fun _ => true) true n t cs = some x)
    {l : List (TypeId × Nat)} (hl : (fs.toList.map fun f => (f.type, f.offset)) = l) {i : Nat} {ft : TypeId} {o k : Nat} (hi : l[i]? = some (ft, o)) (hk : P.cellsOf ft = k) {q : List T → Prop} (hr : RdT P W enc ft q) :
    ∃ ts, q ts ∧ RoL W (pW W) ts ((cs.drop o).take k) := by
  obtain ⟨xs, m, rfl, _, _, hxs, hf⟩ := DataW.trod_struct u h
  obtain ⟨f, h1, h2, h3⟩ := fieldAt hl hi
  have h4 := hf i f h1
  rw [h2, h3, hk] at h4
  have hlt : i < xs.length := by
    rw [hxs]
    exact (Array.getElem?_eq_some_iff.1 h1).1
  rw [List.getElem?_eq_getElem hlt] at h4
  exact hr _ _ _ h4
theorem RdT.len {t : TypeId} {fs : Array Field} (u : P.underlying t = some (.struct fs)) {n : Nat} {cs : List Value} {x : DataW H × List MemPlace} (h : DataW.trod enc P W 0 (fun _ => true) true n t cs = some x) : cs.length = P.cellsOf t := by
  obtain ⟨xs, m, rfl, _, h3, _, _⟩ := DataW.trod_struct u h
  exact h3
theorem RdT.slice {α : Type} (E : Enc α) {t e : TypeId} (u : P.underlying t = some (.slice e)) (hn : P.cellsOf e = E.n) (h0 : 0 < E.n) (he : RdT P W enc e fun ts => ∃ a, ts = E.enc a) :
    RdT P W enc t fun ts => ∃ xs : List α, ts = [.sl E.n (xs.map E.enc)] := fun n cs x h => by
  rcases DataW.trod_slice u h with ⟨rfl, _⟩ | ⟨a, len, cap, elems, rest, m, rfl, rfl, _, _, hlc, hcm, hel, hes, _⟩
  · exact ⟨_, ⟨[], rfl⟩, .cons _ _ _ _ (.nil _) .nil⟩
  · rw [hn] at hes
    have key : ∀ k, k ≤ len → ∃ (xs : List α) (vs : List Value), xs.length = k ∧ vs.length = k * E.n ∧ RoL W (pW W) (xs.map E.enc).flatten vs ∧ (0 < k → a.block < W.heap.size) ∧ ∀ j v, vs[j]? = some v → W.cell? (a.add j) = some v := fun k => by
      induction k with
      | zero => exact fun _ => ⟨[], [], rfl, by simp, .nil, fun h => absurd h (Nat.lt_irrefl _), fun j v hj => by simp at hj⟩
      | succ k ih =>
        intro hk
        obtain ⟨xs, vs, h1, h2, h3, h4, h5⟩ := ih (by omega)
        have h6 := hes k (by omega)
        rw [List.getElem?_eq_getElem (by omega)] at h6
        obtain ⟨cs, h7, h8⟩ := Option.bind_eq_some_iff.1 h6
        obtain ⟨ts, ⟨y, rfl⟩, h9⟩ := he _ _ _ h8
        obtain ⟨q1, q2, q3⟩ := World.cells?_some h7
        have hb : a.block < W.heap.size := by
          have := World.cells?_block h7 h0
          rwa [block_add] at this
        refine ⟨xs ++ [y], vs ++ cs, by simp [h1], ?_, ?_, fun _ => hb, fun j v hj => ?_⟩
        · have : cs.length = E.n := by rw [← h9.len, E.len]
          rw [List.length_append, h2, this, Nat.succ_mul]
        · rw [List.map_append, List.flatten_append]
          exact h3.append (by simpa using h9)
        · by_cases hj2 : j < vs.length
          · rw [List.getElem?_append_left hj2] at hj
            exact h5 j v hj
          · rw [List.getElem?_append_right (by omega)] at hj
            have hjl : j - vs.length < E.n := by
              have := (List.getElem?_eq_some_iff.1 hj).1
              have h10 : cs.length = E.n := by rw [← h9.len, E.len]
              omega
            have := q3 (j - vs.length) hjl
            rw [add_add'] at this
            rw [show j = k * E.n + (j - vs.length) from by omega, this]
            exact hj
    obtain ⟨xs, vs, h1, h2, h3, h4, h5⟩ := key len (Nat.le_refl _)
    refine ⟨_, ⟨xs, rfl⟩, .cons _ _ _ _ (.sl E.n _ a len cap vs (by simp [h1]) hlc hcm (fun hne => ?_) (fun c hc => ?_) h5 h3) .nil⟩
    · refine h4 ?_
      rcases Nat.eq_zero_or_pos len with h | h
      · exact absurd (by rw [List.eq_nil_of_length_eq_zero (h1.trans h)]; rfl) hne
      · exact h
    · obtain ⟨y, _, rfl⟩ := List.mem_map.1 hc
      exact E.len y
theorem RoL.cut {W : World} {pr : Nat → Prop} {ts ts' : List T} {cs : List Value} (o k : Nat) (h1 : RoL W pr ts ((cs.drop o).take k)) (h2 : RoL W pr ts' (cs.drop (o + k))) : RoL W pr (ts ++ ts') (cs.drop o) := by
  have e : cs.drop o = (cs.drop o).take k ++ cs.drop (o + k) := by rw [← List.drop_drop, List.take_append_drop]
  rw [e]
  exact h1.append h2
theorem RoL.stop {W : World} {pr : Nat → Prop} {cs : List Value} {n : Nat} (h : cs.length = n) : RoL W pr [] (cs.drop n) := by
  rw [List.drop_of_length_le (by omega)]
  exact .nil
end
end Go.V
namespace Go.Proofs.YtahogphlohnpmaaGreatDoor
open Go Go.Proofs Go.ChangeShapes Go.WideShapes Go.ChangeAt Go.RowKit
set_option maxRecDepth 100000
theorem own : ownKnob Tryz.prog.godebug = none := by kernel_rfl
def flatD : Nat → DataW Unit → List Value
  | 0, _ => []
  | _ + 1, .lit (.int k v) => [.int k v]
  | n + 1, .agg xs => xs.flatMap (flatD n)
  | _ + 1, _ => []
noncomputable def gOf (n : String) : Nat := (Tryz.prog.globalNamed n).getD 0
noncomputable def layAt (n : String) (d : DataW Unit) (h : Array Obj) : Array Obj := h.modify (gOf n) fun
  | .cells _ t frozen => .cells (flatD 5 d).toArray t frozen
  | o => o
noncomputable def laidWorld (os : Os) : World :=
  { World.holding Tryz.prog os ⟨#[], #[], []⟩ with heap := layAt "unicode/utf8.first" Rows.laid_unicode_utf8_first (layAt "unicode/utf8.acceptRanges" Rows.laid_unicode_utf8_acceptRanges (World.holding Tryz.prog os ⟨#[], #[], []⟩).heap) }
noncomputable def args0 : Array Value := #[.slice none 0 0]
theorem laid_met (os : Os) : laidMet Tryz.prog Rows.fnWorldNewRow.laid ((laidWorld os).forCall (fun _ _ => 0) ⟨#[], args0, []⟩).memory :=
  laidMet_of_run' 8 (by kernel_rfl) (by kernel_rfl)
theorem reads (os : Os) {H : Type} (enc : TypeId × Value → H) : ∃ places, DataW.whole enc Tryz.prog ((laidWorld os).forCall (fun _ _ => 0) ⟨#[], args0, []⟩).memory Tryz.f4.params.toList Rows.fnWorldNewSpec.vars false args0.toList 8 = some ([.nil], [], places) :=
  ⟨[], by kernel_rfl⟩
theorem func4 : Tryz.prog.funcs[4]? = some Tryz.f4 := by kernel_rfl
def Every : Prop := ∀ (H : Type) (enc : TypeId × Value → H) (W : World) (base : Nat) (args : Array Value) (ds gs : List (DataW H)) (before : List MemPlace)
    (_ : ∀ (j : Nat) t v, Tryz.f4.params[j]? = some t → args[j]? = some v → Value.okWide Tryz.prog W .any base t v)
    (_ : DataW.Whole enc Tryz.prog Tryz.f4.params.toList Rows.fnWorldNewSpec.vars false W args.toList ds gs before) (_ : W.ShapedOpen Tryz.prog),
    Calls Tryz.prog 4 args W fun e W' => ∃ v, e = .returned v ∧ Rows.fnWorldNewSpec.post enc Tryz.prog Tryz.f4 false true false false W args v W'
theorem lifted (hE : Every) (os : Os) (started : os.Started) (H : Type) (enc : TypeId × Value → H) (F : Stop.Interp) :
    ReturnsInHanded {} Tryz.checked os 4 .any ((OpenSpec.ofChange Rows.fnWorldNewSpec).preRow enc Tryz.prog Tryz.f4 Rows.fnWorldNewRow.domain false Rows.fnWorldNewRow.laid) (((OpenSpec.ofChange Rows.fnWorldNewSpec).at F).post enc Tryz.prog Tryz.f4 false true false false) := by
  obtain ⟨places, hx⟩ := reads os enc
  refine returnsInHanded_of_row (C := Tryz.checked) (s := OpenSpec.ofChange Rows.fnWorldNewSpec) own started (by kernel_rfl) func4
    (witness_row_at (enc := enc) (C := Tryz.checked) false (laidWorld os) args0 rfl (by kernel_rfl) (by kernel_rfl) (by kernel_rfl)
      (OpenSpec.preRow_of_cond 8 hx (by kernel_rfl) (fun k hk => by cases hk) (by kernel_rfl) (laid_met os))) ?_
  intro W base args ds gs before hval hW _ _ _ _ hS _
  exact hE H enc W base args ds gs before hval hW hS
theorem said (hE : Every) : Rows.FnWorldNewSaid :=
  OpenClaim.holds_of_cond 4 Tryz.f4 rfl rfl rfl rfl rfl rfl rfl ⟨rfl, rfl, rfl, rfl, rfl⟩ rfl rfl rfl rfl rfl (by kernel_rfl) func4 (by kernel_rfl)
    (of_decide_eq_true (by kernel_rfl)) (by unfold Func.isWrapper; first | (rw [if_pos (by decide +kernel)]; kernel_rfl) | (rw [if_neg (by decide +kernel)]; exact ⟨rfl, rfl⟩))
    (fun os started H enc _ F => by rw [OpenClaim.pre_eq_preRow]; exact lifted hE os started H enc F)
theorem params4 : Tryz.f4.params = #[22] := rfl
theorem plain (f : FuncId) (fn : Func) (hf : Tryz.pinned.checked.prog.funcNamed "loop.example/satchel/laws.FnWorldNew" = some f) (hfn : Tryz.pinned.checked.prog.funcs[f]? = some fn) :
    false = Tryz.pinned.checked.prog.looks [] ∧ ∀ (j : Nat) t, fn.params[j]? = some t → Tryz.pinned.checked.prog.wantsStandIn t = false := by
  obtain rfl : f = 4 := Option.some.inj ((show Tryz.prog.funcNamed "loop.example/satchel/laws.FnWorldNew" = some 4 by kernel_rfl).symm.trans hf) |>.symm
  obtain rfl : fn = Tryz.f4 := (Option.some.inj (func4.symm.trans hfn)).symm
  refine ⟨by kernel_rfl, fun j t ht => ?_⟩
  rw [params4] at ht
  have hm : t ∈ [22] := by simpa using Array.mem_of_getElem? ht
  have hall : ([22].all fun u => !Tryz.prog.wantsStandIn u) = true := by kernel_rfl
  exact (show Tryz.prog.wantsStandIn t = false by simpa using List.all_eq_true.1 hall t hm)
theorem card_of (hE : Every) : Rows.FnWorldNewCardSaid :=
  Claim7.holds_tied_plain_at .later [] _ _ _ _ (said hE) (fun _ h => by cases h) (by kernel_rfl) (fun _ h => by cases h) fnWorldNew_row_tie rfl ⟨rfl, rfl⟩ (by kernel_rfl) rfl plain (by kernel_rfl)
end Go.Proofs.YtahogphlohnpmaaGreatDoor
namespace Go.V
open Go Go.Proofs Go.ChangeShapes Go.WideShapes Go.ChangeAt Go.RowKit
set_option maxRecDepth 100000
set_option linter.unusedVariables false
set_option maxHeartbeats 4000000 in
theorem con4 (m : Int) (b : List UInt8) : Con Tryz.prog m 4 ((lc EBy.asl l0).enc (b, ())) ((lc EBy.asl l0).enc (b, ())) (.t (.v (.bool true))) := by
  have g0 : GOk Tryz.prog (Gof m []) ∧ GDet (Gof m []) := GOk_nil
  have g1 := GOk_cons g0 (good23 g0)
  have g2 := GOk_cons g1 (good43 g1)
  have g3 := GOk_cons g2 (good42 g2 rfl)
  have g4 := GOk_cons g3 (good88 g3 rfl)
  have g5 := GOk_cons g4 (good87 g4 ⟨rfl, rfl⟩)
  have g6 := GOk_cons g5 (good44 g5 ⟨rfl, rfl, rfl⟩)
  have g7 := GOk_cons g6 (good13 g6 ⟨rfl, rfl, rfl, rfl⟩)
  have g8 := GOk_consX g7 (good196 m)
  have g9 := GOk_cons g8 (good181 g8 rfl)
  have g10 := GOk_consX g9 (good223 m)
  have g11 := GOk_cons g10 (good214 g10 rfl)
  have g12 := GOk_consX g11 (good213 m)
  have g13 := GOk_cons g12 (good212 g12)
  have g14 := GOk_cons g13 (good224 g13)
  have g15 := GOk_cons g14 (good215 g14 rfl)
  have g16 := GOk_cons g15 (good197 g15 ⟨rfl, rfl, rfl, rfl⟩)
  have g17 := GOk_cons g16 (good182 g16 rfl)
  have g18 := GOk_cons g17 (good162 g17 ⟨rfl, rfl⟩)
  have g19 := GOk_cons g18 (good130 g18 rfl)
  have g20 := GOk_cons g19 (good36 g19)
  have g21 := GOk_cons g20 (good157 g20)
  have g22 := GOk_cons g21 (good176 g21)
  have g23 := GOk_cons g22 (good158 g22 rfl)
  have g24 := GOk_cons g23 (good159 g23 rfl)
  have g25 := GOk_cons g24 (good129 g24 ⟨rfl, rfl, rfl⟩)
  have g26 := GOk_cons g25 (good83 g25 ⟨rfl, rfl⟩)
  have g27 := GOk_cons g26 (good84 g26 ⟨rfl, rfl⟩)
  have g28 := GOk_cons g27 (good128 g27)
  have g29 := GOk_cons g28 (good127 g28 rfl)
  have g30 := GOk_cons g29 (good132 g29 rfl)
  have g31 := GOk_cons g30 (good166 g30)
  have g32 := GOk_cons g31 (good184 g31 rfl)
  have g33 := GOk_cons g32 (good168 g32 rfl)
  have g34 := GOk_cons g33 (good167 g33 ⟨rfl, rfl⟩)
  have g35 := GOk_cons g34 (good154 g34 ⟨rfl, rfl, rfl⟩)
  have g36 := GOk_cons g35 (good126 g35 rfl)
  have g37 := GOk_cons g36 (good133 g36 rfl)
  have g38 := GOk_cons g37 (good163 g37 rfl)
  have g39 := GOk_cons g38 (good134 g38 rfl)
  have g40 := GOk_cons g39 (good89 g39 ⟨rfl, rfl, rfl⟩)
  have g41 := GOk_cons g40 (good64 g40)
  have g42 := GOk_cons g41 (good135 g41)
  have g43 := GOk_cons g42 (good90 g42 ⟨rfl, rfl⟩)
  have g44 := GOk_cons g43 (good45 g43 ⟨rfl, rfl⟩)
  have g45 := GOk_cons g44 (good37 g44 ⟨rfl, rfl⟩)
  have g46 := GOk_cons g45 (good40 g45 rfl)
  have g47 := GOk_cons g46 (good41 g46)
  have g48 := GOk_cons g47 (good80 g47 ⟨rfl, rfl⟩)
  have g49 := GOk_cons g48 (good81 g48)
  have g50 := GOk_cons g49 (good82 g49 rfl)
  have g51 := GOk_cons g50 (good35 g50 ⟨rfl, rfl, rfl, rfl, rfl, rfl⟩)
  have g52 := GOk_cons g51 (good10 g51 ⟨rfl, rfl⟩)
  have g53 := GOk_cons g52 (good164 g52)
  have g54 := GOk_cons g53 (good140 g53 rfl)
  have g55 := GOk_cons g54 (good98 g54 rfl)
  have g56 := GOk_cons g55 (good97 g55 ⟨rfl, rfl⟩)
  have g57 := GOk_cons g56 (good141 g56 rfl)
  have g58 := GOk_cons g57 (good99 g57 rfl)
  have g59 := GOk_consX g58 (good183 m)
  have g60 := GOk_cons g59 (good165 g59 rfl)
  have g61 := GOk_cons g60 (good143 g60 rfl)
  have g62 := GOk_cons g61 (good142 g61)
  have g63 := GOk_cons g62 (good100 g62 ⟨rfl, rfl⟩)
  have g64 := GOk_cons g63 (good51 g63 ⟨rfl, rfl, rfl, rfl, rfl, rfl⟩)
  have g65 := GOk_cons g64 (good144 g64 rfl)
  have g66 := GOk_cons g65 (good101 g65 rfl)
  have g67 := GOk_cons g66 (good52 g66 ⟨rfl, rfl⟩)
  have g68 := GOk_cons g67 (good53 g67)
  have g69 := GOk_cons g68 (good17 g68 ⟨rfl, rfl, rfl, rfl, rfl, rfl⟩)
  have g70 := GOk_cons g69 (good14 g69 ⟨rfl, rfl⟩)
  have g71 := GOk_cons g70 (good136 g70)
  have g72 := GOk_cons g71 (good71 g71)
  have g73 := GOk_cons g72 (good123 g72 rfl)
  have g74 := GOk_cons g73 (good93 g73 ⟨rfl, rfl⟩)
  have g75 := GOk_cons g74 (good48 g74 rfl)
  have g76 := GOk_cons g75 (good49 g75)
  have g77 := GOk_cons g76 (good96 g76)
  have g78 := GOk_cons g77 (good122 g77 rfl)
  have g79 := GOk_cons g78 (good74 g78 ⟨rfl, rfl⟩)
  have g80 := GOk_cons g79 (good72 g79)
  have g81 := GOk_cons g80 (good137 g80 ⟨rfl, rfl, rfl⟩)
  have g82 := GOk_cons g81 (good138 g81)
  have g83 := GOk_cons g82 (good139 g82)
  have g84 := GOk_cons g83 (good121 g83 ⟨rfl, rfl⟩)
  have g85 := GOk_cons g84 (good70 g84 ⟨rfl, rfl, rfl, rfl, rfl⟩)
  have g86 := GOk_cons g85 (good30 g85 ⟨rfl, rfl⟩)
  have g87 := GOk_cons g86 (good94 g86 ⟨rfl, rfl, rfl, rfl, rfl⟩)
  have g88 := GOk_cons g87 (good95 g87)
  have g89 := GOk_cons g88 (good50 g88 ⟨rfl, rfl, rfl, rfl, rfl⟩)
  have g90 := GOk_cons g89 (good16 g89 ⟨rfl, rfl, rfl⟩)
  have g91 := GOk_cons g90 (good46 g90)
  have g92 := GOk_cons g91 (good79 g91)
  have g93 := GOk_cons g92 (good91 g92 rfl)
  have g94 := GOk_cons g93 (good34 g93 rfl)
  have g95 := GOk_cons g94 (good9 g94 rfl)
  have g96 := GOk_cons g95 (good92 g95 rfl)
  have g97 := GOk_cons g96 (good47 g96 ⟨rfl, rfl, rfl, rfl⟩)
  have g98 := GOk_cons g97 (good15 g97 ⟨rfl, rfl⟩)
  have g99 := GOk_cons g98 (good145 g98 rfl)
  have g100 := GOk_cons g99 (good198 g99)
  have g101 := GOk_cons g100 (good186 g100 rfl)
  have g102 := GOk_cons g101 (good170 g101 rfl)
  have g103 := GOk_cons g102 (good185 g102 rfl)
  have g104 := GOk_cons g103 (good169 g103 rfl)
  have g105 := GOk_cons g104 (good171 g104 rfl)
  have g106 := GOk_cons g105 (good146 g105 ⟨rfl, rfl, rfl, rfl, rfl⟩)
  have g107 := GOk_cons g106 (good103 g106 ⟨rfl, rfl, rfl⟩)
  have g108 := GOk_cons g107 (good105 g107)
  have g109 := GOk_cons g108 (good119 g108 rfl)
  have g110 := GOk_cons g109 (good104 g109 rfl)
  have g111 := GOk_cons g110 (good106 g110 ⟨rfl, rfl⟩)
  have g112 := GOk_cons g111 (good108 g111)
  have g113 := GOk_cons g112 (good147 g112 rfl)
  have g114 := GOk_cons g113 (good107 g113 rfl)
  have g115 := GOk_cons g114 (good56 g114 ⟨rfl, rfl, rfl, rfl, rfl⟩)
  have g116 := GOk_cons g115 (good55 g115 rfl)
  have g117 := GOk_cons g116 (good102 g116 rfl)
  have g118 := GOk_cons g117 (good54 g117 rfl)
  have g119 := GOk_cons g118 (good18 g118 ⟨rfl, rfl⟩)
  have g120 := GOk_cons g119 (good11 g119 rfl)
  have g121 := GOk_cons g120 (good20 g120 ⟨rfl, rfl⟩)
  have g122 := GOk_cons g121 (good19 g121)
  have hg := good4 g122 ⟨rfl, rfl, rfl, rfl, rfl, rfl, rfl, rfl⟩
  obtain ⟨res, h1, _, h3, _⟩ := hg.ro ((lc EBy.asl l0).enc (b, ())) (fun r => r = .t (.v (.bool true))) (by
    show c4 _ _
    rw [c4, ctR_eq, (lc EBy.asl l0).ed]
    exact ⟨trivial, rfl⟩)
  rw [h1] at h3
  exact h3
section
variable {H : Type} {enc : TypeId × Value → H} {W : World}
noncomputable def fsOf (t : TypeId) : Array Field := match Tryz.prog.underlying t with | some (.struct fs) => fs | _ => #[]
theorem v3 : Tryz.prog.underlying 3 = some (.int .i64) := by kernel_rfl
theorem w3 : Tryz.prog.cellsOf 3 = 1 := by kernel_rfl
theorem rdInt : RdT Tryz.prog W enc 3 fun ts => ∃ a, ts = EInt.enc a := fun n cs x h => RdT.int v3 n cs x h
theorem v5 : Tryz.prog.underlying 5 = some (.int .u8) := by kernel_rfl
theorem w5 : Tryz.prog.cellsOf 5 = 1 := by kernel_rfl
theorem rdBy : RdT Tryz.prog W enc 5 fun ts => ∃ a, ts = EBy.enc a := fun n cs x h => by
  obtain ⟨k, rfl, _, hs⟩ := DataW.trod_int v5 h
  have hb : 0 ≤ k ∧ k < 256 := by
    have e : (Lit.int .u8 k).wf = (decide ((0 : Int) ≤ k) && decide (k ≤ 255)) := rfl
    rw [e] at hs
    simp at hs
    omega
  refine ⟨_, ⟨UInt8.ofNat k.toNat, rfl⟩, .cons _ _ _ _ ?_ .nil⟩
  have e4 : (((UInt8.ofNat k.toNat).toNat : Nat) : Int) = k := by
    have : (UInt8.ofNat k.toNat).toNat = k.toNat := by simp; omega
    omega
  rw [e4]
  exact .v _ trivial
theorem v22 : Tryz.prog.underlying 22 = some (.slice 5) := by kernel_rfl
theorem w22 : Tryz.prog.cellsOf 22 = 1 := by kernel_rfl
theorem glOk_of (h : W.ShapedOpen Tryz.prog) : ∃ m, GlOk m W (pW W) := by
  obtain ⟨cs, h1, h2, h3⟩ := h.1 0 #[.int .i64 0] 3 (Nat.lt_of_lt_of_le (Nat.lt_succ_self 0) (Nat.le_of_ble_eq_true (by kernel_rfl))) (by kernel_rfl)
  obtain ⟨ts, t1, _, t3⟩ := h3 (by kernel_rfl)
  have hts : ts = [3] := Option.some.inj (t1.symm.trans (by kernel_rfl))
  subst hts
  have hsz : cs.size = 1 := h2
  have h0 : cs[0]? = some cs[0] := Array.getElem?_eq_getElem (by omega)
  obtain ⟨u, hu, hok⟩ := t3 0 _ h0
  simp at hu
  subst hu
  unfold Cell.ok at hok
  rw [v3] at hok
  generalize cs[0] = v at h0 hok
  have hb : (0 : Nat) < W.heap.size := (Array.getElem?_eq_some_iff.1 h1).1
  cases v with
  | int k n =>
    have hk : k = .i64 := hok.1
    subst hk
    refine ⟨n, .rop _ _ [.int .i64 n] (fun _ => hb) (fun j u hj => ?_) (.cons _ _ _ _ (.v _ trivial) .nil)⟩
    cases j with
    | zero =>
      simp at hj
      subst hj
      simp [World.cell?, Addr.add, glb, h1, h0]
    | succ j => simp at hj
  | _ => exact hok.elim
end
theorem every : YtahogphlohnpmaaGreatDoor.Every := by
  intro H enc W base args ds gs before hval0 hW hS
  have hval : ∀ (j : Nat) t v, Tryz.f4.params[j]? = some t → args[j]? = some v → Value.okWide Tryz.prog W .any base t v := hval0
  have hW' := hW
  obtain ⟨p, q, hA0, hV, rfl, hfz, hnd⟩ := hW
  have hA : DataW.TrodAll enc Tryz.prog W 0 (fun _ => true) true [22] args.toList ds p := hA0
  rw [YtahogphlohnpmaaGreatDoor.params4] at hval
  obtain ⟨u0, d0, rfl, rfl, h0⟩ := trodAll_one hA
  obtain ⟨rfl, rfl⟩ := trodVars_none hV
  have hlt : ∀ x ∈ (p) ++ [], x.block < W.heap.size := fun x hx => hW'.lt x hx
  have k0 := h0
  obtain ⟨n0, t0⟩ := h0
  obtain ⟨_, ⟨b, rfl⟩, r0⟩ := (RdT.slice EBy v22 w5 (by decide) rdBy) _ _ _ t0
  have e0 : u0.cells.toList = [u0] := by
    have := hval 0 22 u0 rfl rfl
    unfold Value.okWide at this
    rw [v22] at this
    cases u0 with
    | agg cs => simp only [Cell.okWide, v22, Cell.ok] at this
    | _ => rfl
  rw [e0] at r0
  have r0' : Ro W (pW W) (.sl 1 (b.map EBy.enc)) u0 := by
    cases r0 with | cons _ _ _ _ h _ => exact h
  have a0 : AHas ρ0 W (pW W) (.t (.sl 1 (b.map EBy.enc))) u0 [] := .t _ _ r0'
  obtain ⟨m, hgl⟩ := glOk_of hS
  have hargs : AHasL ρ0 W (pW W) ((lc EBy.asl l0).enc (b, ())) [u0] [] := .cons _ _ _ _ [] [] a0 .nil
  have hcall := con4 m b W (pW W) [u0] [] hgl hargs .nil (fun b hb => by cases hb) (fun b hb => hb)
  refine Calls.mono hcall fun e W' hq => ?_
  obtain ⟨v, pr', G, F, he, hfr, _, _, _, _, hv, _, _⟩ := hq
  obtain ⟨rfl, _⟩ := hv.val
  have hb : Below W.heap.size W W' := ⟨hfr.os, hfr.tape, hfr.output, hfr.size, fun k hk => hfr.block k hk (by simp)⟩
  refine ⟨_, he, _, _, _, [], p, [], hW', ?_, ?_, rfl, hb.frame _, fun h => by cases h⟩
  · exact trodAll_mk1 (shut_bool (show Tryz.prog.underlying 4 = some .bool by kernel_rfl) _)
  · have := trodAll_mk1 (Below.trod (by kernel_rfl) (by kernel_rfl) (of_decide_eq_true (by kernel_rfl)) k0 hb fun x hx => hlt x (by simp [hx]))
    exact this
end Go.V
namespace Go.Proofs.YtahogphlohnpmaaGreatDoor
theorem fnWorldNew_card : Rows.FnWorldNewCardSaid := card_of Go.V.every
end Go.Proofs.YtahogphlohnpmaaGreatDoor
