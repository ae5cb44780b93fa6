/- The row. No condition. -/
import Derived.Test.YtakcecnegfihkaaGreatDoorKC
import Derived.Test.YtakcecnegfihkaaGreatDoorXB
import Derived.Test.YtakcecnegfihkaaGreatDoorKA
import Derived.ProofKit
import Derived.Carry
import Derived.WalkKit
import Derived.Test.YtakcecnegfihkaaGreatDoorCards
import Derived.Test.YtakcecnegfihkaaGreatDoorTie
import Derived.OpenShut
import Derived.Deep.DeepHandedRow
namespace Go.V
open Go Go.Proofs
set_option maxRecDepth 100000
set_option linter.unusedSimpArgs false
set_option linter.unusedVariables false
attribute [local go_sem_proc] Nat.reduceAdd Nat.reduceMul Nat.reduceLeDiff Nat.reduceEqDiff reduceCtorEq Nat.reduceSub Int.reduceNeg Nat.reduceMod Nat.reduceBEq Nat.reduceLT
attribute [local go_sem] aPickB.eq_1 aPickB.eq_2 aPick.eq_1 aBox.eq_1 aBox.eq_2 aAlloc.eq_1 aAlloc.eq_2 aLoadB.eq_1 aLoadB.eq_2 aLoadB.eq_3 aLoadB.eq_4 aLoadB.eq_5 aLoadA.eq_1 aLoadA.eq_2 aLoadA.eq_3 aLoadA.eq_4 aLoadA.eq_5 aLoadP.eq_1 aLoadP.eq_2 aLoadP.eq_3 aLoad.eq_1 aLoad.eq_2 aFAx.eq_1 aFAx.eq_2 aFAx.eq_3 aFA.eq_1 aFA.eq_2 aFx.eq_1 aF.eq_1 aF.eq_2 fld.eq_1 elT.eq_1 aIdxH.eq_1 aIdxH.eq_2 aIdxH.eq_3 aIdxH.eq_4 aIdxH.eq_5 aIdxP.eq_1 aIdxP.eq_2 aIndexAddr.eq_1 aIndexAddr.eq_2 aIndexAddr.eq_3 isStr.eq_1 aIndex.eq_1 aSlStr.eq_1 aSlRo.eq_1 aSlZ.eq_1 aSlZ.eq_2 aSlice.eq_1 aSlice.eq_2 aSlice.eq_3 bnd.eq_1 bnd.eq_2 aBuildO.eq_1 aBuildO.eq_2 aBuild.eq_1 aNewArr.eq_1 aNewArr.eq_2 aBS.eq_1 aBS.eq_2 aBuildSlice.eq_1 aBuildSlice.eq_2 aMakeSlice.eq_1 appDeep.eq_1 aApp2.eq_1 aAppend.eq_1 aAppend.eq_2 aStoreB.eq_1 aStoreA.eq_1 obFlat.eq_1 aStore2.eq_1 aStore2.eq_2 aStoreP.eq_1 aStoreP.eq_2 aStore.eq_1 aStore.eq_2 isShl.eq_1 isShl.eq_2 isBool.eq_1 aBinI.eq_1 aBinI.eq_2 aBinB.eq_1 aBinB.eq_2 aEq.eq_1 aEq.eq_2 aEq.eq_3 aEq.eq_4 aEqG.eq_1 aEqG.eq_2 aBin.eq_1 aBin.eq_2 aBin.eq_3 aBin.eq_4 aUn.eq_1 aUn.eq_2 aLenO.eq_1 aLenS.eq_1 aLenS.eq_2 aLenS.eq_3 aLenT.eq_1 aLen.eq_1 aLen.eq_2 aLen.eq_3 bytesOb.eq_1 bytesOb.eq_2 bytesOf.eq_1 bytesOf.eq_2 aNums.eq_1 aNums.eq_2 isU8.eq_1 aCvI.eq_1 aCvS.eq_1 aCvB.eq_1 aCvB.eq_2 aCvT.eq_1 aConv.eq_1 aConv.eq_2 aConv.eq_3 aConv.eq_4 aExO.eq_1 aExO.eq_2 aExtract.eq_1 aNil.eq_1 aNil.eq_2 aNil.eq_3 aCallS.eq_1 aCallS.eq_2 aCallR.eq_1 aCallR.eq_2 aCallK.eq_1 aCallK.eq_2 aCallK.eq_3 aCall.eq_1 aCall.eq_2 takeO.eq_1 AS.takeV.eq_1 AS.takeV.eq_2 AS.takeV.eq_3 AS.takeV.eq_4 AS.takeV.eq_5 AS.takeV.eq_6 AS.takeV.eq_7 AV.oldM.eq_1 AV.oldM.eq_2 AV.oldM.eq_3 AV.oldM.eq_4 AV.oldM.eq_5 AV.oldM.eq_6 AV.oldM.eq_7 AV.oldM.eq_8 AV.oldM.eq_9 AV.oldM.eq_10 AV.oldM.eq_11 AV.oldML.eq_1 AV.oldML.eq_2 subL.eq_1 subL.eq_2 back.eq_1 back.eq_2 back.eq_3 back.eq_4 backL.eq_1 backI.eq_1 backI.eq_2 backI.eq_3 backI.eq_4 backIL.eq_1 aBuiltin.eq_1 aBuiltin.eq_2 aBuiltin.eq_3 aCallee.eq_1 aCallee.eq_2 aCallee.eq_3 abin.eq_1 abin.eq_2 abin.eq_3 abin.eq_4 abin.eq_5 abin.eq_6 abin.eq_7 abin.eq_8 abin.eq_9 abin.eq_10 abin.eq_11 abin.eq_12 abin.eq_13 abin.eq_14 abin.eq_15 abin.eq_17 abin.eq_18 abin.eq_19 abin.eq_20 abin.eq_21 abin.eq_22 abin.eq_23 AS.ev.eq_1 AS.ev.eq_2 AS.ev.eq_3 AS.ev.eq_4 AS.evs.eq_1 AS.evs.eq_2 AS.evp.eq_1 AS.evp.eq_2 AS.put.eq_1 AS.put.eq_2 AS.remL.eq_1 AS.remL.eq_2 AV.has.eq_1 AV.has.eq_2 AV.has.eq_3 AV.has.eq_4 AV.has.eq_5 AV.has.eq_6 AV.has.eq_7 AV.has.eq_8 AV.has.eq_9 AV.has.eq_10 AV.has.eq_11 AV.hasL.eq_1 AV.hasL.eq_2 Ob.drop.eq_1 Ob.drop.eq_2 Ob.drop.eq_3 Ob.drop.eq_4 AV.cells.eq_1 AV.cells.eq_2 AV.cells.eq_3 AV.cells.eq_4 AV.cells.eq_5 AS.snapT.eq_1 AS.snapT.eq_2 AS.snapT.eq_3 AS.snapT.eq_4 AS.snapT.eq_5 AS.snapT.eq_6 AS.snapT.eq_7 AS.snap.eq_1 AS.snap.eq_2 mapO.eq_1 mapO.eq_2 intern.eq_1 intern.eq_2 intern.eq_3 intern.eq_4 intern.eq_5 intern.eq_6 intern.eq_7 intern.eq_8 intern.eq_9 intern.eq_10 intern.eq_11 internL.eq_1 internL.eq_2 zipSl.eq_1 zipSl.eq_2 AV.ids.eq_1 AV.ids.eq_2 AV.ids.eq_3 AV.ids.eq_4 AV.ids.eq_5 AV.ids.eq_6 AV.ids.eq_7 AV.ids.eq_8 AV.ids.eq_9 AV.ids.eq_10 AV.ids.eq_11 AV.idsL.eq_1 AV.idsL.eq_2 AV.sub.eq_1 AV.sub.eq_2 AV.sub.eq_3 AV.sub.eq_4 AV.sub.eq_5 AV.sub.eq_6 AV.sub.eq_7 AV.sub.eq_8 AV.sub.eq_9 AV.sub.eq_10 AV.sub.eq_11 AV.subL.eq_1 AV.subL.eq_2 AS.frzL.eq_1 AS.frzL.eq_2 AS.absT.eq_1 AS.absT.eq_2 AS.absT.eq_4 AS.absL.eq_1 AS.absL.eq_2 AS.absOk.eq_1 AS.absOkL.eq_1 AS.absOkL.eq_2 hid.eq_1 hids.eq_1 hids.eq_2 AS.appBase.eq_1 AS.appBase.eq_2 AS.appSrc.eq_1 appFits.eq_1 appFits.eq_2 appFits.eq_3 avFill.eq_1 avFill.eq_2 avc.eq_1 avc.eq_2 avc1.eq_1 Kd.agg.eq_1 Kd.agg.eq_2 okR.eq_1 okR.eq_2 okR.eq_3 okR.eq_4 okR.eq_5 okR.eq_6 okR.eq_7 okR.eq_8 zt.eq_1 rvB.eq_1 rvP.eq_1 rvA.eq_1 rvA.eq_2 rv1.eq_1 outTO.eq_1 outT.eq_1 outT.eq_2 outT.eq_3 outTn.eq_1 outOO.eq_1 outO.eq_1 outO.eq_2 boxOf.eq_1 outP.eq_1 outP.eq_2 outP.eq_3 outP.eq_4 outP.eq_5 outP.eq_6 outP.eq_7 outP.eq_8 outPL.eq_1 outPL.eq_2 outI.eq_1 outI.eq_2 outI.eq_3 outI.eq_4 outI.eq_5 outIL.eq_1 outZ.eq_1 outZ.eq_2 outZ.eq_3 outZ.eq_4 outZ.eq_5 outZL.eq_1 finO.eq_1 finO.eq_2 fin.eq_1 fin.eq_2 fin.eq_3 cellAV.eq_1 cellAV.eq_2 numsOf.eq_1 numsOf.eq_2 aop.eq_1 aop.eq_2 aop.eq_3 aop.eq_4 aop.eq_5 aop.eq_6 aop.eq_7 aop.eq_8 aop.eq_9 aop.eq_10 aop.eq_11 aop.eq_12 aop.eq_13 aop.eq_14 aop.eq_15 aop.eq_16 aop.eq_17 aop.eq_18 aop.eq_19 aop.eq_20 aop.eq_21 aop.eq_22 aop.eq_23 aop.eq_24 aop.eq_25 aop.eq_26 tmpsOf.eq_1 tmpsOf.eq_2 tmpsOf.eq_3 tmpsOf.eq_4 tmpsOf.eq_5 AV.refs.eq_1 AV.refs.eq_2 AV.refs.eq_3 AV.refs.eq_4 AV.refs.eq_5 AV.refs.eq_6 AV.refs.eq_7 AV.refs.eq_8 AV.refs.eq_9 AV.refs.eq_10 AV.refs.eq_11 AV.refsL.eq_1 AV.refsL.eq_2 refsT.eq_1 refsT.eq_2 refsO.eq_1 refsO.eq_2 refsO.eq_3 refsO.eq_4 refsO.eq_5 refsO.eq_6 refsB.eq_1 refsB.eq_2 clos.eq_1 clos.eq_2 keepL.eq_1 keepL.eq_2 AV.hasM.eq_1 AV.hasM.eq_2 AV.hasM.eq_3 AV.hasM.eq_4 AV.hasM.eq_5 AV.hasM.eq_6 AV.hasM.eq_7 AV.hasM.eq_8 AV.hasM.eq_9 AV.hasM.eq_10 AV.hasM.eq_11 AV.hasML.eq_1 AV.hasML.eq_2 Ob.dropM.eq_1 Ob.dropM.eq_2 Ob.dropM.eq_3 Ob.dropM.eq_4 nsC.eq_1 nsC.eq_2 okGuard.eq_1 okGuard.eq_2 AS.purges.eq_1 AS.purges.eq_2 dropMB.eq_1 dropMB.eq_2 newB.eq_1 newB.eq_2 ptB.eq_1 ptB.eq_2 lookC.eq_1 lookC.eq_2 dropB.eq_1 dropB.eq_2 leS.eq_1 leS.eq_2 leT.eq_1 leT.eq_2 AS.mvs.eq_1 AS.mvs.eq_2 AS.mvA.eq_1 AS.mvA.eq_2 AS.mvB.eq_1 aSetO.eq_1 aSetO.eq_2 aSh.eq_1 aSh.eq_2 arK.eq_1 aIdxA.eq_1 aIdxA.eq_2 arT.eq_1 aSlHB.eq_1 aSlHB.eq_2 aSlHO.eq_1 aSlHZ.eq_1 aSlHZ.eq_2 isSlT.eq_1 isNilC.eq_1 aNilO.eq_1 aNilX.eq_1 aNilX.eq_2 aNilX.eq_3 aNilC.eq_1 aNilC.eq_2 aBinQ.eq_1 aBinQ.eq_2 aMin.eq_1 flT.eq_1 flT.eq_2 flT.eq_3 mpT.eq_1 aMkMap.eq_1 aMkMap.eq_2 strA.eq_1 keyMK.eq_1 keyMK.eq_2 keyMK.eq_3 mkB.eq_1 mkB.eq_2 mkB.eq_3 aMp2.eq_1 aMp1.eq_1 aMp0.eq_1 aMapU.eq_1 aLk2.eq_1 aLk2.eq_2 aLk1.eq_1 aLk0.eq_1 aLookup.eq_1 aLenMO.eq_1 aLenM.eq_1 glV.eq_1 glV.eq_2 evG.eq_1 evG.eq_2 evG.eq_3 evG.eq_4 lkHitO.eq_1 lkHitO.eq_2 lkHitO.eq_3 lkHitO.eq_4 lkHit.eq_1 lkHit.eq_2 lkF.eq_1 lkF.eq_2 lkFind.eq_1 lkFind.eq_2 lkV.eq_1 lkV.eq_2 lkV.eq_3 lkV.eq_4 lkV.eq_5 AS.lkO.eq_1 AS.lkO.eq_2 AS.lkOf.eq_1 rawT.eq_1 rawT.eq_2 rawT.eq_3 rawT.eq_4 rawT.eq_5 rawT.eq_6 rawOf.eq_1 rawOf.eq_2 rawOf.eq_3 rawOf.eq_4 rawOf.eq_5 rawOf.eq_6 rawOf.eq_7 rawOf.eq_8 rawOf.eq_9 rawOf.eq_10 rawOf.eq_11 aLkR.eq_1 aLkR.eq_2 aLk.eq_1 aLk.eq_2 KL.eq_1 lkDrop.eq_1 lkDrop.eq_2 lkParO.eq_1 lkParO.eq_2 lkParO.eq_3 lkParO.eq_4 lkPar.eq_1 lkPar.eq_2 lkI.eq_1 lkI.eq_2 lkIds.eq_1 lkIds.eq_2 adLd.eq_1 run_nil run_b run_l run_skip run_label run_seq run_cond brV_b brB_t brB_f run_block run_exit run_ret run_region runX_nil runX_c runX_c' runX_b runX_b' runX_l runX_l' exB_t exB_f run_o run_op run_opg gV_b gV_t gB_tt gB_ff gB_tf gB_ft rs_eq kv KI aLenN aBS1 aApp1 aStore1 szOk gv gd s0 idOf look_cons lookC frzU_t frzU_f orT orF drop_any drop_nil drop_t drop_h drop_pb drop_pa drop_agg drop_tup drop_fn dropB kill_eq set_eq rem_eq re_eq up_eq get_eq ob_eq Ob.drop apl fpl plainTy AS.frz splice cond_true cond_false List.map_cons List.map_nil List.drop_zero List.drop_succ_cons List.drop_nil List.take_zero List.take_succ_cons List.take_nil List.getElem?_cons_zero List.getElem?_cons_succ List.getElem?_nil List.length_cons List.length_nil Option.map_some Option.map_none Option.bind_some Option.bind_none List.cons_append List.nil_append List.append_nil Option.getD_some Option.getD_none List.all_cons List.all_nil Bool.and_true Bool.true_and Bool.or_false Bool.false_or Bool.or_true Bool.true_or List.flatten_cons List.flatten_nil List.replicate_succ List.replicate_zero and_true true_and avOf_t avOf_f agg_bool agg_int agg_str agg_slice agg_struct agg_func agg_ptr agg_map avc_bool avc_int avc_str avc_fn avc1_bool avc1_int avc1_str avc1_fn zt_bool zt_int zt_str cells_nil cells_t cells_h cells_pb cells_fn snap_t snap_nil snap_h snap_pb snap_fn rv1_one rv1_two outI_t outI_oh outI_on outI_any outI_nil outZ_th outZ_tt outZ_tn outZ_o outZ_any outZ_nil outIL_nil outZL_nil finN finR ne_eq not_false_eq_true not_true_eq_false List.nodup_nil List.not_mem_nil false_implies implies_true eq_self true_or or_true Option.some.injEq shl_add shl_sub shl_mul shl_quo shl_rem shl_and shl_or shl_xor shl_andNot shl_eql shl_neq shl_lss shl_leq shl_gtr shl_geq shl_shr shl_shl appDeep_none appDeep_sn appSrc_h appSrc_nil fits_ft fits_tn fits_tf isStr_slice obFlat_box Nat.le_refl nbeq_self List.length_map updZ_s updZ_n dropM_eq purge_eq newIds_cons newIds_nil purgeT_nil purgeT_cons memN_cons memN_nil bd_d bd_c bd_g bd_p bd_t bd_o preds_nil preds_cons hasIns insB List.any_cons List.any_nil adK_eq adr_nil adG_eq kdOp noLen creates Op.operands Call.operands nsOf adT adI adJ plainB rst List.append_eq nsD_f nsD_n nsD_t nOf_0 nOf_1 nOf_2 chO_0 chO_1 chO_2 keepK_0 keepK_1 keepK_2 eqRes AS.mv fits KM aCallM notNew kdCall arK_i64 arK_i32 arK_u8 arK_u64 arT_sl isNilC_t isNilC_f isNilC_g isNilC_i isNilC_b isNilC_s isNilC_a isNilC_n andBF andBT aCallK_2 ble_dec hid_t hid_nil hid_any hid_pb hid_fn absOk_t absOk_nil absOk_pb absOk_h absOkO_1 decide_true decide_false Array.toList_append chunk_0 chunk_1 chunk_2 chunk_3 back_t back_nil back_ht backL_nil backI_t backI_nil backI_ht backIL_nil AS.mvJ nbeq_dec runR_f runR_t loadB Option.isSome_some Option.isSome_none nodup1 adr_none adr_some adO_s adV_b adV_t adB_tt adB_ff adB_tf adB_ft adS_eq lenL.eq_1 lenO.eq_1 lenO.eq_2 lenV.eq_1 lenV.eq_2 lenV.eq_3 lenV.eq_4 optN optS absT_ft
attribute [local go_sem] ty3 ty4 ty5 ty9 ty21 ty22 ty23 ty25 ty26 ty28 ty29 ty30 ty32 ty34 ty35 ty37 ty40 ty42 ty43 ty45 ty46 ty47 ty49 ty53 ty54 ty56 ty106 ty108 ty120 ty124 ty126 ty129 ty131 ty133 ty147 ty161 ty192 ty194 ty196 ty198 ty213 ty215 ty221 ty224 ty229 ty237 ty244 ty268 lv53 lv147 lv161 lv198 zb4 leS leT fits AS.mvs encStr_eq aIdx_str EStr_dec decStrs decStrs0 EStr_enc EStr_n encInt_eq aIdx_int EInt_dec decInts decInts0 EInt_enc EInt_n AllV_Int len_Int lc_enc l0_enc asl_enc ag_enc aow_enc ABool_enc AInt_enc AStr_enc AU8_enc ABool_dec AInt_dec AStr_dec AU8_dec asl_dec ag_dec aow_dec bind_some pr2.eq_1 l0_nil lc_cons unT.eq_1 K0.eq_1 M0.eq_1 KI AllV_Str len_Str ctR_eq ctM_eq ro_kd ro_ro mu_kd mu_mu encAd_eq aIdx_Ad EAd_dec decAds decAds0 EAd_enc EAd_n len_Ad Ad_eta AllV_Ad encMl_eq aIdx_Ml EMl_dec decMls decMls0 EMl_enc EMl_n len_Ml Ml_eta mkMl.eq_1 owMl_eq AMl_enc AMl_dec encRc_eq aIdx_Rc ERc_dec decRcs decRcs0 ERc_enc ERc_n len_Rc Rc_eta AllV_Rc encIm_eq aIdx_Im EIm_dec decIms decIms0 EIm_enc EIm_n len_Im Im_eta mkIm.eq_1 owIm_eq AIm_enc AIm_dec encSp_eq aIdx_Sp ESp_dec decSps decSps0 ESp_enc ESp_n len_Sp Sp_eta mkSp.eq_1 owSp_eq ASp_enc ASp_dec encWy_eq aIdx_Wy EWy_dec decWys decWys0 EWy_enc EWy_n len_Wy Wy_eta AllV_Wy encCf_eq aIdx_Cf ECf_dec decCfs decCfs0 ECf_enc ECf_n len_Cf Cf_eta mkCf.eq_1 owCf_eq ACf_enc ACf_dec encGm_eq aIdx_Gm EGm_dec decGms decGms0 EGm_enc EGm_n len_Gm Gm_eta mkGm.eq_1 owGm_eq AGm_enc AGm_dec encBx_eq aIdx_Bx EBx_dec decBxs decBxs0 EBx_enc EBx_n len_Bx Bx_eta mkBx.eq_1 owBx_eq ABx_enc ABx_dec encLs_eq aIdx_Ls ELs_dec decLss decLss0 ELs_enc ELs_n len_Ls Ls_eta AllV_Ls encHs_eq aIdx_Hs EHs_dec decHss decHss0 EHs_enc EHs_n len_Hs Hs_eta mkHs.eq_1 owHs_eq AHs_enc AHs_dec
def c146 : Ct := ctR (lc EHs.ag (lc EAd.ag (lc EIm.ag l0))) (fun p => p.1.boxes.length ≤ 3000000 ∧ (∀ b ∈ p.1.boxes, b.mails.length ≤ 3000000) ∧ p.2.2.1.body.length ≤ 3000000) (fun p => .agg ((encHs ⟨p.1.conf, p.1.spool, boxIn p.1.boxes p.2.1 ⟨p.2.2.1.frm, p.2.2.1.body⟩, p.1.lost⟩).map .t))
section
attribute [local go_sem] c84 tmap dmap List.take_length List.drop_zero List.length_take List.length_drop List.length_map List.length_append List.length_cons List.length_nil List.map_append List.map_nil List.map_cons List.nil_append Nat.zero_add List.mem_singleton forall_eq Bool.not_true Bool.not_false bOf_t bOf_f AS.opn AS.cls AS.nilb AS.renb AS.up List.set_set List.set_cons_zero List.set_cons_succ List.set_nil
set_option maxHeartbeats 3200000 in
theorem good146 {G : Gt} (hG : OkG G) (hh : G.e 84 = roEnt 0 c84) : Gd G 146 (roEnt 1 c146) := by
  refine gR (dp := fun n => Nat.ble 100000 n) (fn := Tryz.f146) (n := 3) (fun _ => rfl) (by kernel_rfl) rfl (by kernel_rfl) hG (Nat.le_of_ble_eq_true rfl) (by kernel_rfl) (by decide) (fun h => by cases h) ?_
  rintro ⟨h, a, x, ⟨⟩⟩ hpre
  obtain ⟨hl1, hl2, hl3⟩ := hpre
  dsimp only at hl1 hl2 hl3 ⊢
  have hkl := kS_le a h.boxes
  simp -implicitDefEqProofs only [Tryz.f146, go_sem, hh]
  repeat' (first | with_reducible apply And.intro | with_reducible intro _ | ((first | apply brB_split | apply aPickB_split | apply gB_split | apply adB_split) <;> intro hb <;> simp -implicitDefEqProofs only [hb, go_sem, hh] <;> try simp only [qz] at hb))
  all_goals (try simp only [maxLen] at *)
  all_goals first | with_reducible assumption | rfl | omega | contradiction | decide | skip
  refine run_loop [] (ι := {i : Nat // i ≤ kS h.boxes a}) (fun p => ⟨[(3, .pb 1003 0), (4, .pb 1004 0), (5, .pb 1005 0), (6, .pb 1006 0), (7, .t (.v (.int .i64 p.1)))], [(1003, some (.box ((encHs h).map .t))), (1004, some (.box ((encAd a).map .t))), (1005, some (.box ((encIm x).map .t))), (1006, some (.box [.t (.v (.string ⟨#[]⟩)), .nil, .nil, .t (.v (.int .i64 0)), .nil, .nil, .nil]))]⟩) (fun p => kS h.boxes a - p.1) ⟨0, Nat.zero_le _⟩ rfl ?_ ?_
  · simp -implicitDefEqProofs only [go_sem, hh]
    try simp
  · rintro ⟨i, hi⟩
    dsimp only at hi ⊢
    by_cases hlt : i < kS h.boxes a
    · have hil : (i : Int) < h.boxes.length := by omega
      have b1 := bOf_y ((byD_lt _ _).1 (kS_lt a h.boxes hlt))
      simp -implicitDefEqProofs only [hil, b1, decide_true, Int.toNat_natCast, go_sem, hh]
      repeat' (first | with_reducible apply And.intro | with_reducible intro _ | ((first | apply brB_split | apply aPickB_split | apply gB_split | apply adB_split) <;> intro hb <;> simp -implicitDefEqProofs only [hb, go_sem, hh] <;> try simp only [qz] at hb))
      all_goals (try simp only [maxLen] at *)
      all_goals first | with_reducible assumption | rfl | omega | contradiction | decide | skip
      refine ⟨⟨i + 1, by omega⟩, by dsimp only; omega, ?_⟩
      simp -implicitDefEqProofs only [go_sem, hh]
      try simp
    · have hk : i = kS h.boxes a := by omega
      have e1 : ((i : Int) + 1).toNat = i + 1 := by omega
      by_cases hil : (i : Int) < h.boxes.length
      · have hkb : kS h.boxes a < h.boxes.length := by omega
        have b1 := bOf_n (fun z => kS_at a h.boxes hkb ((byD_lt _ _).2 z))
        rw [← hk] at b1
        have hml := hl2 _ (getD_mem (xs := h.boxes) (j := i) (by omega))
        by_cases hf : (h.boxes.getD i default).addr = a
        · have hF : fndB h.boxes a = true := by
            unfold fndB
            rw [decide_eq_true hkb, ← hk, decide_eq_true ((byD_0 _ _).2 hf)]; rfl
          have hB : boxIn h.boxes a ⟨x.frm, x.body⟩ = h.boxes.set i ⟨(h.boxes.getD i default).addr, (h.boxes.getD i default).mails ++ [⟨x.frm, x.body⟩]⟩ := by rw [boxIn_y hF, ← hk]
          rw [hB]
          have he : (false != (decide ((h.boxes.getD i default).addr.user = a.user) && decide ((h.boxes.getD i default).addr.domain = a.domain))) = true := by rw [hf]; simp
          rw [hf]
          simp -implicitDefEqProofs only [hil, b1, he, decide_true, Int.toNat_natCast, e1, go_sem, hh]
          repeat' (first | with_reducible apply And.intro | with_reducible intro _ | ((first | apply brB_split | apply aPickB_split | apply gB_split | apply adB_split) <;> intro hb <;> simp -implicitDefEqProofs only [hb, go_sem, hh] <;> try simp only [qz] at hb))
          all_goals (try simp only [maxLen, e1, Int.toNat_natCast, List.take_length, List.drop_zero] at *)
          all_goals first | with_reducible assumption | rfl | omega | contradiction | decide | (refine congrArg (T.sl 3) ?_; first | (simp; done) | (rw [List.set_eq_take_append_cons_drop, if_pos (by omega)]; simp [encBx, encGm]; done)) | trace_state
        · have he : (false != (decide ((h.boxes.getD i default).addr.user = a.user) && decide ((h.boxes.getD i default).addr.domain = a.domain))) = false := by
            cases hq : (decide ((h.boxes.getD i default).addr.user = a.user) && decide ((h.boxes.getD i default).addr.domain = a.domain))
            · rfl
            · simp only [Bool.and_eq_true, decide_eq_true_eq] at hq
              exact absurd (show (⟨(h.boxes.getD i default).addr.user, (h.boxes.getD i default).addr.domain⟩ : Ad) = a by rw [hq.1, hq.2]) hf
          have hF : fndB h.boxes a = false := by
            unfold fndB
            rw [decide_eq_true hkb, ← hk, decide_eq_false (fun z => hf ((byD_0 _ _).1 z))]; rfl
          have hB : boxIn h.boxes a ⟨x.frm, x.body⟩ = h.boxes.take i ++ (⟨a, [⟨x.frm, x.body⟩]⟩ :: h.boxes.drop i) := by rw [boxIn_n hF, ← hk]
          rw [hB]
          simp -implicitDefEqProofs only [hil, b1, he, decide_true, Int.toNat_natCast, e1, go_sem, hh]
          repeat' (first | with_reducible apply And.intro | with_reducible intro _ | ((first | apply brB_split | apply aPickB_split | apply gB_split | apply adB_split) <;> intro hb <;> simp -implicitDefEqProofs only [hb, go_sem, hh] <;> try simp only [qz] at hb))
          all_goals (try simp only [maxLen, e1, Int.toNat_natCast, List.take_length, List.drop_zero] at *)
          all_goals first | with_reducible assumption | rfl | omega | contradiction | decide | (refine congrArg (T.sl 3) ?_; first | (simp; done) | (rw [List.set_eq_take_append_cons_drop, if_pos (by omega)]; simp [encBx, encGm]; done)) | trace_state
      · have hF : fndB h.boxes a = false := by
          unfold fndB
          rw [decide_eq_false (by omega)]; rfl
        have hB : boxIn h.boxes a ⟨x.frm, x.body⟩ = h.boxes.take i ++ (⟨a, [⟨x.frm, x.body⟩]⟩ :: h.boxes.drop i) := by rw [boxIn_n hF, ← hk]
        rw [hB]
        simp -implicitDefEqProofs only [hil, decide_false, Int.toNat_natCast, e1, go_sem, hh]
        repeat' (first | with_reducible apply And.intro | with_reducible intro _ | ((first | apply brB_split | apply aPickB_split | apply gB_split | apply adB_split) <;> intro hb <;> simp -implicitDefEqProofs only [hb, go_sem, hh] <;> try simp only [qz] at hb))
        all_goals (try simp only [maxLen, e1, Int.toNat_natCast, List.take_length, List.drop_zero] at *)
        all_goals first | with_reducible assumption | rfl | omega | contradiction | decide | (refine congrArg (T.sl 3) ?_; simp; done) | trace_state
end
theorem out_keep {g : Hs} {x : Im} {a : Ad} {w : Int} {R : List (Int × Ad)} (h : Kp g.conf g ((x.id, a) :: R)) : outHs ⟨g.conf, g.spool, boxIn g.boxes a ⟨x.frm, x.body⟩, g.lost⟩ (atIm g.spool x.id).toNat (atRc (theIm g.spool x.id) a).toNat a 2 w = keep1 g x a := by
  unfold outHs
  rw [if_pos rfl]
  unfold keep1
  rw [h.done]
def c75 : Ct := ctR (lc EHs.ag (lc AInt l0)) (fun p => HsOk p.1 ∧ OkHs p.1) (fun p => .agg ((encHs (keepI p.1.conf p.2.1 p.1.spool.items p.1)).map .t))
section
attribute [local go_sem] c145 c146 c68 tmap dmap List.take_length List.drop_zero List.length_take List.length_drop List.length_map List.length_append List.length_cons List.length_nil List.map_append List.map_nil List.map_cons List.nil_append Nat.zero_add List.mem_singleton forall_eq Bool.not_true Bool.not_false bOf_t bOf_f AS.opn AS.cls AS.nilb AS.renb AS.up List.set_set List.set_cons_zero List.set_cons_succ List.set_nil
set_option maxHeartbeats 6400000 in
theorem good75 {G : Gt} (hG : OkG G) (hh : G.e 145 = roEnt 0 c145 ∧ G.e 146 = roEnt 1 c146 ∧ G.e 68 = roEnt 1 c68) : Gd G 75 (roEnt 1 c75) := by
  refine gR (dp := fun n => Nat.ble 100000 n) (fn := Tryz.f75) (n := 2) (fun _ => rfl) (by kernel_rfl) rfl (by kernel_rfl) hG (Nat.le_of_ble_eq_true rfl) (by kernel_rfl) (by decide) (fun h => by cases h) ?_
  rintro ⟨h, w, ⟨⟩⟩ hpre
  obtain ⟨hq, hok⟩ := hpre
  dsimp only at hq hok ⊢
  have hmx : (h.spool.items.length : Int) ≤ 1048576 := hok.2.1.1
  simp -implicitDefEqProofs only [Tryz.f75, go_sem, hh]
  repeat' (first | with_reducible apply And.intro | with_reducible intro _ | ((first | apply brB_split | apply aPickB_split | apply gB_split | apply adB_split) <;> intro hb <;> simp -implicitDefEqProofs only [hb, go_sem, hh] <;> try simp only [qz] at hb))
  all_goals (try simp only [maxLen] at *)
  all_goals first | with_reducible assumption | rfl | omega | contradiction | decide | skip
  refine run_loop [] (ι := {p : Nat × Hs // p.1 ≤ h.spool.items.length ∧ Kp h.conf p.2 (allP h.conf w (h.spool.items.drop p.1)) ∧ keepI h.conf w h.spool.items h = keepI h.conf w (h.spool.items.drop p.1) p.2}) (fun p => ⟨[(1, .t (.v (.int .i64 w))), (2, .pb 1002 0), (4, .pb 1004 0), (5, .t (.sl 5 (h.spool.items.map encIm))), (6, .t (.v (.int .i64 p.1.1)))], [(1002, some (.box ((encHs p.1.2).map .t))), (1004, some (.box [.t (.v (.string ⟨#[]⟩)), .nil, .nil, .t (.v (.int .i64 0)), .nil, .nil, .nil]))]⟩) (fun p => h.spool.items.length - p.1.1) ⟨(0, h), Nat.zero_le _, Kp_start hq hok, rfl⟩ rfl ?_ ?_
  · simp -implicitDefEqProofs only [go_sem, hh]
    try simp
  · rintro ⟨⟨i, g⟩, hi, hK, he⟩
    dsimp only at hi hK he ⊢
    by_cases hlt : (i : Int) < h.spool.items.length
    · have hil : i < h.spool.items.length := by omega
      obtain ⟨x, hx⟩ : ∃ x, x = h.spool.items.getD i default := ⟨_, rfl⟩
      have hxo := hok.2.1.2 _ (getD_mem hil)
      rw [← hx] at hxo
      have hxl : (x.to.length : Int) ≤ 1048576 := hxo.2.1.1
      have hxb : (x.body.length : Int) ≤ 1048576 := hxo.2.2.1
      rw [allP_drop hil, ← hx] at hK
      rw [keepI_drop hil, ← hx] at he
      simp -implicitDefEqProofs only [hlt, decide_true, Int.toNat_natCast, ← hx, go_sem, hh]
      repeat' (first | with_reducible apply And.intro | with_reducible intro _ | ((first | apply brB_split | apply aPickB_split | apply gB_split | apply adB_split) <;> intro hb <;> simp -implicitDefEqProofs only [hb, go_sem, hh] <;> try simp only [qz] at hb))
      all_goals (try simp only [maxLen] at *)
      all_goals first | with_reducible assumption | rfl | omega | contradiction | decide | skip
      refine run_loop [] (ι := {p : Nat × Hs // p.1 ≤ x.to.length ∧ Kp h.conf p.2 (prs h.conf w x (x.to.drop p.1) ++ allP h.conf w (h.spool.items.drop (i + 1))) ∧ keepI h.conf w h.spool.items h = keepI h.conf w (h.spool.items.drop (i + 1)) (keepR x (partTo h.conf ⟨#[]⟩ w (x.to.drop p.1)) p.2)}) (fun p => ⟨[(1, .t (.v (.int .i64 w))), (2, .pb 1002 0), (4, .pb 1004 0), (5, .t (.sl 5 (h.spool.items.map encIm))), (6, .t (.v (.int .i64 i))), (7, .t (.v (.int .i64 p.1.1)))], [(1002, some (.box ((encHs p.1.2).map .t))), (1004, some (.box [.t (.v (.string ⟨#[]⟩)), .nil, .nil, .t (.v (.int .i64 0)), .nil, .nil, .nil]))]⟩) (fun p => x.to.length - p.1.1) ⟨(0, g), Nat.zero_le _, hK, he⟩ rfl ?_ ?_
      · simp -implicitDefEqProofs only [go_sem, hh]
        try simp
      · rintro ⟨⟨k, g⟩, hk, hK, he⟩
        dsimp only at hk hK he ⊢
        by_cases hlk : (k : Int) < x.to.length
        · have hkl : k < x.to.length := by omega
          have hcf := hK.cf
          by_cases hn : Near h.conf ⟨#[]⟩ w (x.to.getD k default)
          · have b1 := bOf_y hn
            rw [← hcf] at b1
            rw [prs_y hkl hn, List.cons_append] at hK
            rw [part_y hkl hn] at he
            have hst := hK.step
            have hbb := hK.b1
            have hbm := hK.b2
            have hos := hK.os
            have hsp := hK.sp
            have htd := hK.td (x.id, (x.to.getD k default).addr) (by simp)
            have hout := out_keep (w := w) (hcf ▸ hK)
            simp -implicitDefEqProofs only [hlt, hlk, b1, hout, decide_true, Int.toNat_natCast, ← hx, go_sem, hh]
            repeat' (first | with_reducible apply And.intro | with_reducible intro _ | ((first | apply brB_split | apply aPickB_split | apply gB_split | apply adB_split) <;> intro hb <;> simp -implicitDefEqProofs only [hb, go_sem, hh] <;> try simp only [qz] at hb))
            all_goals (try simp only [maxLen] at *)
            all_goals first | with_reducible assumption | rfl | omega | contradiction | decide | exact htd.1 | exact htd.2 | (have := hbm _ (by assumption); omega) | skip
            all_goals first | (refine ⟨⟨(k + 1, keep1 g x (x.to.getD k default).addr), by dsimp only; omega, hst, he⟩, by dsimp only; omega, ?_⟩) | trace_state
            all_goals simp -implicitDefEqProofs only [go_sem, hh]
            all_goals (try simp)
          · have b1 := bOf_n hn
            rw [← hcf] at b1
            rw [prs_n hkl hn] at hK
            rw [part_n hkl hn] at he
            simp -implicitDefEqProofs only [hlt, hlk, b1, decide_true, Int.toNat_natCast, ← hx, go_sem, hh]
            repeat' (first | with_reducible apply And.intro | with_reducible intro _ | ((first | apply brB_split | apply aPickB_split | apply gB_split | apply adB_split) <;> intro hb <;> simp -implicitDefEqProofs only [hb, go_sem, hh] <;> try simp only [qz] at hb))
            all_goals (try simp only [maxLen] at *)
            all_goals first | with_reducible assumption | rfl | omega | contradiction | decide | skip
            refine ⟨⟨(k + 1, g), by dsimp only; omega, hK, he⟩, by dsimp only; omega, ?_⟩
            simp -implicitDefEqProofs only [go_sem, hh]
            try simp
        · rw [prs_end (by omega), List.nil_append] at hK
          rw [part_end (by omega)] at he
          simp -implicitDefEqProofs only [hlt, hlk, decide_true, decide_false, Int.toNat_natCast, ← hx, go_sem, hh]
          repeat' (first | with_reducible apply And.intro | with_reducible intro _ | ((first | apply brB_split | apply aPickB_split | apply gB_split | apply adB_split) <;> intro hb <;> simp -implicitDefEqProofs only [hb, go_sem, hh] <;> try simp only [qz] at hb))
          all_goals (try simp only [maxLen] at *)
          all_goals first | with_reducible assumption | rfl | omega | contradiction | decide | skip
          refine ⟨⟨(i + 1, g), by dsimp only; omega, hK, he⟩, by dsimp only; omega, ?_⟩
          simp -implicitDefEqProofs only [go_sem, hh]
          try simp
    · have he2 : keepI h.conf w h.spool.items h = g := by rw [he, List.drop_eq_nil_of_le (by omega)]; rfl
      simp -implicitDefEqProofs only [hlt, decide_false, he2, go_sem, hh]
      repeat' (first | with_reducible apply And.intro | with_reducible intro _ | ((first | apply brB_split | apply aPickB_split | apply gB_split | apply adB_split) <;> intro hb <;> simp -implicitDefEqProofs only [hb, go_sem, hh] <;> try simp only [qz] at hb))
      all_goals (try simp only [maxLen] at *)
      all_goals first | with_reducible assumption | rfl | omega | contradiction | decide | trace_state
end
def c21 : Ct := ctR (lc EHs.ag (lc AInt l0)) (fun p => OkHs p.1) (fun p => .agg ((encHs (HKeep p.1 p.2.1)).map .t))
section
attribute [local go_sem] c29 c30 c75 tmap dmap List.take_length List.drop_zero List.length_take List.length_drop List.length_map List.length_append List.length_cons List.length_nil List.map_append List.map_nil List.map_cons List.nil_append Nat.zero_add List.mem_singleton forall_eq Bool.not_true Bool.not_false noHs bOf_t bOf_f AS.opn AS.cls AS.nilb AS.renb AS.up List.set_set List.set_cons_zero List.set_cons_succ List.set_nil
set_option maxHeartbeats 3200000 in
theorem good21 {G : Gt} (hG : OkG G) (hh : G.e 29 = roEnt 0 c29 ∧ G.e 30 = roEnt 0 c30 ∧ G.e 75 = roEnt 1 c75) : Gd G 21 (roEnt 1 c21) := by
  refine gR (dp := fun n => Nat.ble 100000 n) (fn := Tryz.f21) (n := 2) (fun _ => rfl) (by kernel_rfl) rfl (by kernel_rfl) hG (Nat.le_of_ble_eq_true rfl) (by kernel_rfl) (by decide) (fun h => by cases h) ?_
  rintro ⟨h, w, ⟨⟩⟩ hpre
  have hok : OkHs h := hpre
  dsimp only
  by_cases q : HsOk h
  · have b1 := bOf_y q
    rw [HKeep_y q]
    simp -implicitDefEqProofs only [Tryz.f21, b1, go_sem, hh]
    repeat' (first | with_reducible apply And.intro | with_reducible intro _ | ((first | apply brB_split | apply aPickB_split | apply gB_split | apply adB_split) <;> intro hb <;> simp -implicitDefEqProofs only [hb, go_sem, hh] <;> try simp only [qz] at hb))
    all_goals (try simp only [maxLen] at *)
    all_goals first | with_reducible assumption | rfl | omega | contradiction | decide | exact ⟨q, hok⟩ | trace_state
  · have b1 := bOf_n q
    rw [HKeep_n q]
    simp -implicitDefEqProofs only [Tryz.f21, b1, go_sem, hh]
    repeat' (first | with_reducible apply And.intro | with_reducible intro _ | ((first | apply brB_split | apply aPickB_split | apply gB_split | apply adB_split) <;> intro hb <;> simp -implicitDefEqProofs only [hb, go_sem, hh] <;> try simp only [qz] at hb))
    all_goals (try simp only [maxLen] at *)
    all_goals first | with_reducible assumption | rfl | omega | contradiction | decide | trace_state
end
def c22 : Ct := ctR (lc EHs.ag (lc AInt l0)) (fun p => OkHs p.1) (fun p => owHs (HKeep p.1 p.2.1))
section
attribute [local go_sem] c41 c42 c76 c78 c77 c72 AHsp_enc AHsp_dec owSB owMB.eq_1 noHs bOf_t bOf_f back_ha backI_ha aCell_map aSet_map outP_ob outI_ob outZ_ob takeV_pb takeV_pb8 boxOf_b takeB_s outPb_s outIb_s outZb_s rv1_nil List.length_map List.length_append List.length_cons List.length_nil List.map_append List.map_nil Nat.zero_add List.nil_append AS.opn AS.cls AS.nilb AS.renb AS.up Bool.not_false Bool.not_true List.set_set List.set_cons_zero List.set_cons_succ List.set_nil List.mem_singleton forall_eq
set_option maxHeartbeats 6400000 in
theorem good22 {G : Gt} (hG : OkG G) (hh : G.e 41 = roEnt 0 c41 ∧ G.e 42 = roEnt 0 c42 ∧ G.e 76 = roEnt 0 c76 ∧ G.e 78 = roEnt 0 c78 ∧ G.e 77 = muEnt c77 ∧ G.e 72 = roEnt 0 c72) : Gd G 22 (roEnt 0 c22) := by
  refine gR (dp := fun n => !(Nat.beq n 100004 || Nat.beq n 100014)) (fn := Tryz.f22) (n := 2) (fun _ => rfl) (by kernel_rfl) rfl (by kernel_rfl) hG (Nat.le_of_ble_eq_true rfl) (by kernel_rfl) (by decide) (fun _ p => owHs_solid _) ?_
  rintro ⟨h, w, ⟨⟩⟩ hpre
  have hok : OkHs h := hpre
  have hmx : (h.spool.items.length : Int) ≤ 1048576 := hok.2.1.1
  dsimp only
  by_cases q : HsOk h
  · have b1 := bOf_y q
    have he2 := HKeep_y (w := w) q
    simp -implicitDefEqProofs only [Tryz.f22, b1, go_sem, hh]
    repeat' (first | with_reducible apply And.intro | with_reducible intro _ | ((first | apply brB_split | apply aPickB_split | apply gB_split | apply adB_split) <;> intro hb <;> simp -implicitDefEqProofs only [hb, go_sem, hh] <;> try simp only [qz] at hb))
    all_goals (try simp only [maxLen] at *)
    all_goals first | with_reducible assumption | rfl | omega | contradiction | decide | skip
    refine run_le (Le.renb 1005 1 1017 1901 rfl rfl rfl rfl) ?_
    refine run_le (Le.renb 1005 2 2017 1902 rfl rfl rfl rfl) ?_
    refine run_le (Le.renb 1005 4 3017 1903 rfl rfl rfl rfl) ?_
    refine run_le (Le.renb 1005 5 4017 1904 rfl rfl rfl rfl) ?_
    refine run_le (Le.renb 1005 6 5017 1905 rfl rfl rfl rfl) ?_
    refine run_go ?_
    simp -implicitDefEqProofs only [go_sem, hh]
    intro _
    refine run_loop [] (ι := {p : Nat × Hs // p.1 ≤ h.spool.items.length ∧ Kp h.conf p.2 (allP h.conf w (h.spool.items.drop p.1)) ∧ keepI h.conf w h.spool.items h = keepI h.conf w (h.spool.items.drop p.1) p.2}) (fun p => ⟨[(1, .t (.v (.int .i64 w))), (2, .pb 1002 0), (4, .pb 1004 0), (5, .pb 1005 0), (20, .t (.sl 5 (h.spool.items.map encIm))), (21, .t (.v (.int .i64 h.spool.items.length))), (22, .t (.v (.int .i64 p.1.1)))], [(1002, some (.box ((encHs h).map .t))), (1004, some (.box [.t (.v (.string ⟨#[]⟩)), .nil, .nil, .t (.v (.int .i64 0)), .nil, .nil, .nil])), (1005, some (.box [.t (.v (.string p.1.2.conf.name)), .h 1901, .h 1902, .t (.v (.int .i64 p.1.2.spool.last)), .h 1903, .h 1904, .h 1905])), (1901, some (.arr true 1 (p.1.2.conf.own.map encStr))), (1902, some (.arr true 2 (p.1.2.conf.ways.map encWy))), (1903, some (.arr true 5 (p.1.2.spool.items.map encIm))), (1904, some (.arr true 3 (p.1.2.boxes.map encBx))), (1905, some (.arr true 3 (p.1.2.lost.map encLs)))]⟩) (fun p => h.spool.items.length - p.1.1) ⟨(0, h), Nat.zero_le _, Kp_start q hok, rfl⟩ rfl ?_ ?_
    · simp -implicitDefEqProofs only [go_sem, hh]
      try simp
    · rintro ⟨⟨i, g⟩, hi, hK, he⟩
      dsimp only at hi hK he ⊢
      by_cases hlt : (i : Int) < h.spool.items.length
      · have hil : i < h.spool.items.length := by omega
        obtain ⟨x, hx⟩ : ∃ x, x = h.spool.items.getD i default := ⟨_, rfl⟩
        have hxm := getD_mem hil
        rw [← hx] at hxm
        have hxo := hok.2.1.2 _ hxm
        have hxi := (q.2.2.1 _ hxm).1
        rw [allP_drop hil, ← hx] at hK
        rw [keepI_drop hil, ← hx] at he
        have hat : ¬ atIm h.spool x.id < 0 ∧ theIm h.spool x.id = x := by
          obtain ⟨r, hr⟩ : ∃ r, r ∈ x.to := ⟨_, getD_mem (xs := x.to) (j := 0) (by have := hxi.2.2.2.2.1.1; omega)⟩
          have := Todo_of q.2.2 hxm hr
          exact ⟨this.1.1, this.2⟩
        by_cases hp : partTo h.conf ⟨#[]⟩ w x.to = []
        · have hP : HPart h x.id ⟨#[]⟩ w = (noMl, false) := HPart_n (fun z => z.2.2.2 (by rw [hat.2]; exact hp))
          simp -implicitDefEqProofs only [hlt, hP, decide_true, Int.toNat_natCast, ← hx, go_sem, hh]
          repeat' (first | with_reducible apply And.intro | with_reducible intro _ | ((first | apply brB_split | apply aPickB_split | apply gB_split | apply adB_split) <;> intro hb <;> simp -implicitDefEqProofs only [hb, go_sem, hh] <;> try simp only [qz] at hb))
          all_goals (try simp only [maxLen] at *)
          all_goals first | with_reducible assumption | rfl | omega | contradiction | decide | skip
          have he3 : keepI h.conf w h.spool.items h = keepI h.conf w (h.spool.items.drop (i + 1)) g := by rw [he, hp]; rfl
          have hK3 : Kp h.conf g (allP h.conf w (h.spool.items.drop (i + 1))) := by
            have : prs h.conf w x x.to = [] := by unfold prs; rw [hp]; rfl
            rw [this] at hK; exact hK
          refine ⟨⟨(i + 1, g), by dsimp only; omega, hK3, he3⟩, by dsimp only; omega, ?_⟩
          simp -implicitDefEqProofs only [go_sem, hh]
          try simp
        · obtain ⟨ads, has⟩ : ∃ ads, ads = partTo h.conf ⟨#[]⟩ w x.to := ⟨_, rfl⟩
          have hP : HPart h x.id ⟨#[]⟩ w = (⟨x.frm, ads, x.body⟩, true) := by rw [HPart_y ⟨q, hat.1, .inl rfl, by rw [hat.2]; exact hp⟩, hat.2, has]; rfl
          have hal : ads.length ≤ 4 := by rw [has]; exact Nat.le_trans (part_len _ _ _ _) hxi.2.2.2.2.1.2
          unfold prs at hK
          rw [← has] at he hK
          simp -implicitDefEqProofs only [hlt, hP, decide_true, Int.toNat_natCast, ← hx, go_sem, hh]
          repeat' (first | with_reducible apply And.intro | with_reducible intro _ | ((first | apply brB_split | apply aPickB_split | apply gB_split | apply adB_split) <;> intro hb <;> simp -implicitDefEqProofs only [hb, go_sem, hh] <;> try simp only [qz] at hb))
          all_goals (try simp only [maxLen] at *)
          all_goals first | with_reducible assumption | rfl | omega | contradiction | decide | skip
          refine run_loop [] (ι := {p : Nat × Hs // p.1 ≤ ads.length ∧ Kp h.conf p.2 ((ads.drop p.1).map (fun a => (x.id, a)) ++ allP h.conf w (h.spool.items.drop (i + 1))) ∧ keepI h.conf w h.spool.items h = keepI h.conf w (h.spool.items.drop (i + 1)) (keepR x (ads.drop p.1) p.2)}) (fun p => ⟨[(1, .t (.v (.int .i64 w))), (2, .pb 1002 0), (4, .pb 1004 0), (5, .pb 1005 0), (20, .t (.sl 5 (h.spool.items.map encIm))), (21, .t (.v (.int .i64 h.spool.items.length))), (22, .t (.v (.int .i64 i))), (7, .pb 1007 0), (8, .pb 1008 0), (37, .h 1031), (38, .t (.v (.int .i64 ads.length))), (39, .t (.v (.int .i64 p.1.1)))], [(1002, some (.box ((encHs h).map .t))), (1004, some (.box [.t (.v (.string ⟨#[]⟩)), .nil, .nil, .t (.v (.int .i64 0)), .nil, .nil, .nil])), (1005, some (.box [.t (.v (.string p.1.2.conf.name)), .h 1901, .h 1902, .t (.v (.int .i64 p.1.2.spool.last)), .h 1903, .h 1904, .h 1905])), (1901, some (.arr true 1 (p.1.2.conf.own.map encStr))), (1902, some (.arr true 2 (p.1.2.conf.ways.map encWy))), (1903, some (.arr true 5 (p.1.2.spool.items.map encIm))), (1904, some (.arr true 3 (p.1.2.boxes.map encBx))), (1905, some (.arr true 3 (p.1.2.lost.map encLs))), (1007, some (.box ((encIm x).map .t))), (1008, some (.box [.t (.v (.string x.frm.user)), .t (.v (.string x.frm.domain)), .h 1031, .h 2031])), (1031, some (.arr true 2 (ads.map encAd))), (2031, some (.arr true 1 (x.body.map encStr)))]⟩) (fun p => ads.length - p.1.1) ⟨(0, g), Nat.zero_le _, hK, he⟩ rfl ?_ ?_
          · simp -implicitDefEqProofs only [go_sem, hh]
            try simp
          · rintro ⟨⟨k, g⟩, hk, hK, he⟩
            dsimp only at hk hK he ⊢
            by_cases hlk : (k : Int) < ads.length
            · have hkl : k < ads.length := by omega
              have hcf := hK.cf
              rw [getD_drop hkl] at hK he
              rw [List.map_cons, List.cons_append] at hK
              have hst := hK.step
              have hbb := hK.b1
              have hbm := hK.b2
              have hos := hK.os
              have hsb := SortB_part hK.so (ads.getD k default)
              have hD := hK.done
              simp -implicitDefEqProofs only [hlt, hlk, decide_true, Int.toNat_natCast, ← hx, go_sem, hh]
              repeat' (first | with_reducible apply And.intro | with_reducible intro _ | ((first | apply brB_split | apply aPickB_split | apply gB_split | apply adB_split) <;> intro hb <;> simp -implicitDefEqProofs only [hb, go_sem, hh] <;> try simp only [qz] at hb))
              all_goals (try simp only [maxLen] at *)
              all_goals first | with_reducible assumption | rfl | omega | contradiction | decide | exact hxo.2.2.1 | exact hxo.2.2.2 | (have := hbm _ (by assumption); omega) | skip
              refine run_le (Le.renb 1005 1 1050 1901 rfl rfl rfl rfl) ?_
              refine run_le (Le.renb 1005 2 2050 1902 rfl rfl rfl rfl) ?_
              refine run_le (Le.renb 1005 4 1057 1903 rfl rfl rfl rfl) ?_
              refine run_le (Le.renb 1005 5 4050 1904 rfl rfl rfl rfl) ?_
              refine run_le (Le.renb 1005 6 5050 1905 rfl rfl rfl rfl) ?_
              refine run_go ?_
              simp -implicitDefEqProofs only [go_sem, hh]
              repeat' (first | with_reducible apply And.intro | with_reducible intro _ | ((first | apply brB_split | apply aPickB_split | apply gB_split | apply adB_split) <;> intro hb <;> simp -implicitDefEqProofs only [hb, go_sem, hh] <;> try simp only [qz] at hb))
              all_goals (try simp only [maxLen] at *)
              all_goals first | omega | skip
              refine ⟨⟨(k + 1, keep1 g x (ads.getD k default)), by dsimp only; omega, hst, he⟩, by dsimp only; omega, ?_⟩
              simp -implicitDefEqProofs only [go_sem, hh]
              simp only [keep1]
              try simp
            · rw [List.drop_eq_nil_of_le (show ads.length ≤ k by omega)] at hK he
              simp -implicitDefEqProofs only [hlk, decide_false, go_sem, hh]
              repeat' (first | with_reducible apply And.intro | with_reducible intro _ | ((first | apply brB_split | apply aPickB_split | apply gB_split | apply adB_split) <;> intro hb <;> simp -implicitDefEqProofs only [hb, go_sem, hh] <;> try simp only [qz] at hb))
              all_goals (try simp only [maxLen] at *)
              all_goals first | with_reducible assumption | rfl | omega | contradiction | decide | skip
              refine ⟨⟨(i + 1, g), by dsimp only; omega, hK, he⟩, by dsimp only; omega, ?_⟩
              simp -implicitDefEqProofs only [go_sem, hh]
              try simp
      · have he2' : keepI h.conf w h.spool.items h = g := by rw [he, List.drop_eq_nil_of_le (by omega)]; rfl
        rw [he2'] at he2
        simp -implicitDefEqProofs only [hlt, decide_false, he2, go_sem, hh]
        repeat' (first | with_reducible apply And.intro | with_reducible intro _ | ((first | apply brB_split | apply aPickB_split | apply gB_split | apply adB_split) <;> intro hb <;> simp -implicitDefEqProofs only [hb, go_sem, hh] <;> try simp only [qz] at hb))
        all_goals (try simp only [maxLen] at *)
        all_goals first | with_reducible assumption | rfl | omega | contradiction | decide | trace_state
  · have b1 := bOf_n q
    rw [HKeep_n q]
    simp -implicitDefEqProofs only [Tryz.f22, b1, go_sem, hh]
    repeat' (first | with_reducible apply And.intro | with_reducible intro _ | ((first | apply brB_split | apply aPickB_split | apply gB_split | apply adB_split) <;> intro hb <;> simp -implicitDefEqProofs only [hb, go_sem, hh] <;> try simp only [qz] at hb))
    all_goals (try simp only [maxLen] at *)
    all_goals first | with_reducible assumption | rfl | omega | contradiction | decide | trace_state
end
end Go.V
namespace Go.V
open Go Go.Proofs
set_option maxRecDepth 100000
set_option linter.unusedSimpArgs false
set_option linter.unusedVariables false
attribute [local go_sem] aPickB.eq_1 aPickB.eq_2 aPick.eq_1 aBox.eq_1 aBox.eq_2 aAlloc.eq_1 aAlloc.eq_2 aLoadB.eq_1 aLoadB.eq_2 aLoadB.eq_3 aLoadB.eq_4 aLoadB.eq_5 aLoadA.eq_1 aLoadA.eq_2 aLoadA.eq_3 aLoadA.eq_4 aLoadA.eq_5 aLoadP.eq_1 aLoadP.eq_2 aLoadP.eq_3 aLoad.eq_1 aLoad.eq_2 aFAx.eq_1 aFAx.eq_2 aFAx.eq_3 aFA.eq_1 aFA.eq_2 aFx.eq_1 aF.eq_1 aF.eq_2 fld.eq_1 elT.eq_1 aIdxH.eq_1 aIdxH.eq_2 aIdxH.eq_3 aIdxH.eq_4 aIdxH.eq_5 aIdxP.eq_1 aIdxP.eq_2 aIndexAddr.eq_1 aIndexAddr.eq_2 aIndexAddr.eq_3 isStr.eq_1 aIndex.eq_1 aSlStr.eq_1 aSlRo.eq_1 aSlZ.eq_1 aSlZ.eq_2 aSlice.eq_1 aSlice.eq_2 aSlice.eq_3 bnd.eq_1 bnd.eq_2 aBuildO.eq_1 aBuildO.eq_2 aBuild.eq_1 aNewArr.eq_1 aNewArr.eq_2 aBS.eq_1 aBS.eq_2 aBuildSlice.eq_1 aBuildSlice.eq_2 aMakeSlice.eq_1 appDeep.eq_1 aApp2.eq_1 aAppend.eq_1 aAppend.eq_2 aStoreB.eq_1 aStoreA.eq_1 obFlat.eq_1 aStore2.eq_1 aStore2.eq_2 aStoreP.eq_1 aStoreP.eq_2 aStore.eq_1 aStore.eq_2 isShl.eq_1 isShl.eq_2 isBool.eq_1 aBinI.eq_1 aBinI.eq_2 aBinB.eq_1 aBinB.eq_2 aEq.eq_1 aEq.eq_2 aEq.eq_3 aEq.eq_4 aEqG.eq_1 aEqG.eq_2 aBin.eq_1 aBin.eq_2 aBin.eq_3 aBin.eq_4 aUn.eq_1 aUn.eq_2 aLenO.eq_1 aLenS.eq_1 aLenS.eq_2 aLenS.eq_3 aLenT.eq_1 aLen.eq_1 aLen.eq_2 aLen.eq_3 bytesOb.eq_1 bytesOb.eq_2 bytesOf.eq_1 bytesOf.eq_2 aNums.eq_1 aNums.eq_2 isU8.eq_1 aCvI.eq_1 aCvS.eq_1 aCvB.eq_1 aCvB.eq_2 aCvT.eq_1 aConv.eq_1 aConv.eq_2 aConv.eq_3 aConv.eq_4 aExO.eq_1 aExO.eq_2 aExtract.eq_1 aNil.eq_1 aNil.eq_2 aNil.eq_3 aCallS.eq_1 aCallS.eq_2 aCallR.eq_1 aCallR.eq_2 aCallK.eq_1 aCallK.eq_2 aCallK.eq_3 aCall.eq_1 aCall.eq_2 takeO.eq_1 AS.takeV.eq_1 AS.takeV.eq_2 AS.takeV.eq_3 AS.takeV.eq_4 AS.takeV.eq_5 AS.takeV.eq_6 AS.takeV.eq_7 AV.oldM.eq_1 AV.oldM.eq_2 AV.oldM.eq_3 AV.oldM.eq_4 AV.oldM.eq_5 AV.oldM.eq_6 AV.oldM.eq_7 AV.oldM.eq_8 AV.oldM.eq_9 AV.oldM.eq_10 AV.oldM.eq_11 AV.oldML.eq_1 AV.oldML.eq_2 subL.eq_1 subL.eq_2 back.eq_1 back.eq_2 back.eq_3 back.eq_4 backL.eq_1 backI.eq_1 backI.eq_2 backI.eq_3 backI.eq_4 backIL.eq_1 aBuiltin.eq_1 aBuiltin.eq_2 aBuiltin.eq_3 aCallee.eq_1 aCallee.eq_2 aCallee.eq_3 abin.eq_1 abin.eq_2 abin.eq_3 abin.eq_4 abin.eq_5 abin.eq_6 abin.eq_7 abin.eq_8 abin.eq_9 abin.eq_10 abin.eq_11 abin.eq_12 abin.eq_13 abin.eq_14 abin.eq_15 abin.eq_17 abin.eq_18 abin.eq_19 abin.eq_20 abin.eq_21 abin.eq_22 abin.eq_23 AS.ev.eq_1 AS.ev.eq_2 AS.ev.eq_3 AS.ev.eq_4 AS.evs.eq_1 AS.evs.eq_2 AS.evp.eq_1 AS.evp.eq_2 AS.put.eq_1 AS.put.eq_2 AS.remL.eq_1 AS.remL.eq_2 AV.has.eq_1 AV.has.eq_2 AV.has.eq_3 AV.has.eq_4 AV.has.eq_5 AV.has.eq_6 AV.has.eq_7 AV.has.eq_8 AV.has.eq_9 AV.has.eq_10 AV.has.eq_11 AV.hasL.eq_1 AV.hasL.eq_2 Ob.drop.eq_1 Ob.drop.eq_2 Ob.drop.eq_3 Ob.drop.eq_4 AV.cells.eq_1 AV.cells.eq_2 AV.cells.eq_3 AV.cells.eq_4 AV.cells.eq_5 AS.snapT.eq_1 AS.snapT.eq_2 AS.snapT.eq_3 AS.snapT.eq_4 AS.snapT.eq_5 AS.snapT.eq_6 AS.snapT.eq_7 AS.snap.eq_1 AS.snap.eq_2 mapO.eq_1 mapO.eq_2 intern.eq_1 intern.eq_2 intern.eq_3 intern.eq_4 intern.eq_5 intern.eq_6 intern.eq_7 intern.eq_8 intern.eq_9 intern.eq_10 intern.eq_11 internL.eq_1 internL.eq_2 zipSl.eq_1 zipSl.eq_2 AV.ids.eq_1 AV.ids.eq_2 AV.ids.eq_3 AV.ids.eq_4 AV.ids.eq_5 AV.ids.eq_6 AV.ids.eq_7 AV.ids.eq_8 AV.ids.eq_9 AV.ids.eq_10 AV.ids.eq_11 AV.idsL.eq_1 AV.idsL.eq_2 AV.sub.eq_1 AV.sub.eq_2 AV.sub.eq_3 AV.sub.eq_4 AV.sub.eq_5 AV.sub.eq_6 AV.sub.eq_7 AV.sub.eq_8 AV.sub.eq_9 AV.sub.eq_10 AV.sub.eq_11 AV.subL.eq_1 AV.subL.eq_2 AS.frzL.eq_1 AS.frzL.eq_2 AS.absT.eq_1 AS.absT.eq_2 AS.absT.eq_4 AS.absL.eq_1 AS.absL.eq_2 AS.absOk.eq_1 AS.absOkL.eq_1 AS.absOkL.eq_2 hid.eq_1 hids.eq_1 hids.eq_2 AS.appBase.eq_1 AS.appBase.eq_2 AS.appSrc.eq_1 appFits.eq_1 appFits.eq_2 appFits.eq_3 avFill.eq_1 avFill.eq_2 avc.eq_1 avc.eq_2 avc1.eq_1 Kd.agg.eq_1 Kd.agg.eq_2 okR.eq_1 okR.eq_2 okR.eq_3 okR.eq_4 okR.eq_5 okR.eq_6 okR.eq_7 okR.eq_8 zt.eq_1 rvB.eq_1 rvP.eq_1 rvA.eq_1 rvA.eq_2 rv1.eq_1 outTO.eq_1 outT.eq_1 outT.eq_2 outT.eq_3 outTn.eq_1 outOO.eq_1 outO.eq_1 outO.eq_2 boxOf.eq_1 outP.eq_1 outP.eq_2 outP.eq_3 outP.eq_4 outP.eq_5 outP.eq_6 outP.eq_7 outP.eq_8 outPL.eq_1 outPL.eq_2 outI.eq_1 outI.eq_2 outI.eq_3 outI.eq_4 outI.eq_5 outIL.eq_1 outZ.eq_1 outZ.eq_2 outZ.eq_3 outZ.eq_4 outZ.eq_5 outZL.eq_1 finO.eq_1 finO.eq_2 fin.eq_1 fin.eq_2 fin.eq_3 cellAV.eq_1 cellAV.eq_2 numsOf.eq_1 numsOf.eq_2 aop.eq_1 aop.eq_2 aop.eq_3 aop.eq_4 aop.eq_5 aop.eq_6 aop.eq_7 aop.eq_8 aop.eq_9 aop.eq_10 aop.eq_11 aop.eq_12 aop.eq_13 aop.eq_14 aop.eq_15 aop.eq_16 aop.eq_17 aop.eq_18 aop.eq_19 aop.eq_20 aop.eq_21 aop.eq_22 aop.eq_23 aop.eq_24 aop.eq_25 aop.eq_26 tmpsOf.eq_1 tmpsOf.eq_2 tmpsOf.eq_3 tmpsOf.eq_4 tmpsOf.eq_5 AV.refs.eq_1 AV.refs.eq_2 AV.refs.eq_3 AV.refs.eq_4 AV.refs.eq_5 AV.refs.eq_6 AV.refs.eq_7 AV.refs.eq_8 AV.refs.eq_9 AV.refs.eq_10 AV.refs.eq_11 AV.refsL.eq_1 AV.refsL.eq_2 refsT.eq_1 refsT.eq_2 refsO.eq_1 refsO.eq_2 refsO.eq_3 refsO.eq_4 refsO.eq_5 refsO.eq_6 refsB.eq_1 refsB.eq_2 clos.eq_1 clos.eq_2 keepL.eq_1 keepL.eq_2 AV.hasM.eq_1 AV.hasM.eq_2 AV.hasM.eq_3 AV.hasM.eq_4 AV.hasM.eq_5 AV.hasM.eq_6 AV.hasM.eq_7 AV.hasM.eq_8 AV.hasM.eq_9 AV.hasM.eq_10 AV.hasM.eq_11 AV.hasML.eq_1 AV.hasML.eq_2 Ob.dropM.eq_1 Ob.dropM.eq_2 Ob.dropM.eq_3 Ob.dropM.eq_4 nsC.eq_1 nsC.eq_2 okGuard.eq_1 okGuard.eq_2 AS.purges.eq_1 AS.purges.eq_2 dropMB.eq_1 dropMB.eq_2 newB.eq_1 newB.eq_2 ptB.eq_1 ptB.eq_2 lookC.eq_1 lookC.eq_2 dropB.eq_1 dropB.eq_2 leS.eq_1 leS.eq_2 leT.eq_1 leT.eq_2 AS.mvs.eq_1 AS.mvs.eq_2 AS.mvA.eq_1 AS.mvA.eq_2 AS.mvB.eq_1 aSetO.eq_1 aSetO.eq_2 aSh.eq_1 aSh.eq_2 arK.eq_1 aIdxA.eq_1 aIdxA.eq_2 arT.eq_1 aSlHB.eq_1 aSlHB.eq_2 aSlHO.eq_1 aSlHZ.eq_1 aSlHZ.eq_2 isSlT.eq_1 isNilC.eq_1 aNilO.eq_1 aNilX.eq_1 aNilX.eq_2 aNilX.eq_3 aNilC.eq_1 aNilC.eq_2 aBinQ.eq_1 aBinQ.eq_2 aMin.eq_1 flT.eq_1 flT.eq_2 flT.eq_3 mpT.eq_1 aMkMap.eq_1 aMkMap.eq_2 strA.eq_1 keyMK.eq_1 keyMK.eq_2 keyMK.eq_3 mkB.eq_1 mkB.eq_2 mkB.eq_3 aMp2.eq_1 aMp1.eq_1 aMp0.eq_1 aMapU.eq_1 aLk2.eq_1 aLk2.eq_2 aLk1.eq_1 aLk0.eq_1 aLookup.eq_1 aLenMO.eq_1 aLenM.eq_1 glV.eq_1 glV.eq_2 evG.eq_1 evG.eq_2 evG.eq_3 evG.eq_4 lkHitO.eq_1 lkHitO.eq_2 lkHitO.eq_3 lkHitO.eq_4 lkHit.eq_1 lkHit.eq_2 lkF.eq_1 lkF.eq_2 lkFind.eq_1 lkFind.eq_2 lkV.eq_1 lkV.eq_2 lkV.eq_3 lkV.eq_4 lkV.eq_5 AS.lkO.eq_1 AS.lkO.eq_2 AS.lkOf.eq_1 rawT.eq_1 rawT.eq_2 rawT.eq_3 rawT.eq_4 rawT.eq_5 rawT.eq_6 rawOf.eq_1 rawOf.eq_2 rawOf.eq_3 rawOf.eq_4 rawOf.eq_5 rawOf.eq_6 rawOf.eq_7 rawOf.eq_8 rawOf.eq_9 rawOf.eq_10 rawOf.eq_11 aLkR.eq_1 aLkR.eq_2 aLk.eq_1 aLk.eq_2 KL.eq_1 lkDrop.eq_1 lkDrop.eq_2 lkParO.eq_1 lkParO.eq_2 lkParO.eq_3 lkParO.eq_4 lkPar.eq_1 lkPar.eq_2 lkI.eq_1 lkI.eq_2 lkIds.eq_1 lkIds.eq_2 adLd.eq_1 run_nil run_b run_l run_skip run_label run_seq run_cond brV_b brB_t brB_f run_block run_exit run_ret run_region runX_nil runX_c runX_c' runX_b runX_b' runX_l runX_l' exB_t exB_f run_o run_op run_opg gV_b gV_t gB_tt gB_ff gB_tf gB_ft rs_eq kv KI aLenN aBS1 aApp1 aStore1 szOk gv gd s0 idOf look_cons lookC frzU_t frzU_f orT orF drop_any drop_nil drop_t drop_h drop_pb drop_pa drop_agg drop_tup drop_fn dropB kill_eq set_eq rem_eq re_eq up_eq get_eq ob_eq Ob.drop apl fpl plainTy AS.frz splice cond_true cond_false List.map_cons List.map_nil List.drop_zero List.drop_succ_cons List.drop_nil List.take_zero List.take_succ_cons List.take_nil List.getElem?_cons_zero List.getElem?_cons_succ List.getElem?_nil List.length_cons List.length_nil Option.map_some Option.map_none Option.bind_some Option.bind_none List.cons_append List.nil_append List.append_nil Option.getD_some Option.getD_none List.all_cons List.all_nil Bool.and_true Bool.true_and Bool.or_false Bool.false_or Bool.or_true Bool.true_or List.flatten_cons List.flatten_nil List.replicate_succ List.replicate_zero and_true true_and avOf_t avOf_f agg_bool agg_int agg_str agg_slice agg_struct agg_func agg_ptr agg_map avc_bool avc_int avc_str avc_fn avc1_bool avc1_int avc1_str avc1_fn zt_bool zt_int zt_str cells_nil cells_t cells_h cells_pb cells_fn snap_t snap_nil snap_h snap_pb snap_fn rv1_one rv1_two outI_t outI_oh outI_on outI_any outI_nil outZ_th outZ_tt outZ_tn outZ_o outZ_any outZ_nil outIL_nil outZL_nil finN finR ne_eq not_false_eq_true not_true_eq_false List.nodup_nil List.not_mem_nil false_implies implies_true eq_self true_or or_true Option.some.injEq shl_add shl_sub shl_mul shl_quo shl_rem shl_and shl_or shl_xor shl_andNot shl_eql shl_neq shl_lss shl_leq shl_gtr shl_geq shl_shr shl_shl appDeep_none appDeep_sn appSrc_h appSrc_nil fits_ft fits_tn fits_tf isStr_slice obFlat_box Nat.le_refl nbeq_self List.length_map updZ_s updZ_n dropM_eq purge_eq newIds_cons newIds_nil purgeT_nil purgeT_cons memN_cons memN_nil bd_d bd_c bd_g bd_p bd_t bd_o preds_nil preds_cons hasIns insB List.any_cons List.any_nil adK_eq adr_nil adG_eq kdOp noLen creates Op.operands Call.operands nsOf adT adI adJ plainB rst List.append_eq nsD_f nsD_n nsD_t nOf_0 nOf_1 nOf_2 chO_0 chO_1 chO_2 keepK_0 keepK_1 keepK_2 eqRes AS.mv fits KM aCallM notNew kdCall arK_i64 arK_i32 arK_u8 arK_u64 arT_sl isNilC_t isNilC_f isNilC_g isNilC_i isNilC_b isNilC_s isNilC_a isNilC_n andBF andBT aCallK_2 ble_dec hid_t hid_nil hid_any hid_pb hid_fn absOk_t absOk_nil absOk_pb absOk_h absOkO_1 decide_true decide_false Array.toList_append chunk_0 chunk_1 chunk_2 chunk_3 back_t back_nil back_ht backL_nil backI_t backI_nil backI_ht backIL_nil AS.mvJ nbeq_dec runR_f runR_t loadB Option.isSome_some Option.isSome_none nodup1 adr_none adr_some adO_s adV_b adV_t adB_tt adB_ff adB_tf adB_ft adS_eq lenL.eq_1 lenO.eq_1 lenO.eq_2 lenV.eq_1 lenV.eq_2 lenV.eq_3 lenV.eq_4 optN optS absT_ft
attribute [local go_sem] ty3 ty4 ty5 ty9 ty21 ty22 ty23 ty25 ty26 ty28 ty29 ty30 ty32 ty34 ty35 ty37 ty40 ty42 ty43 ty45 ty46 ty47 ty49 ty53 ty54 ty56 ty106 ty108 ty120 ty124 ty126 ty129 ty131 ty133 ty147 ty161 ty192 ty194 ty196 ty198 ty213 ty215 ty221 ty224 ty229 ty237 ty244 ty268 lv53 lv147 lv161 lv198 zb4 leS leT fits AS.mvs encStr_eq aIdx_str EStr_dec decStrs decStrs0 EStr_enc EStr_n encInt_eq aIdx_int EInt_dec decInts decInts0 EInt_enc EInt_n AllV_Int len_Int lc_enc l0_enc asl_enc ag_enc aow_enc ABool_enc AInt_enc AStr_enc AU8_enc ABool_dec AInt_dec AStr_dec AU8_dec asl_dec ag_dec aow_dec bind_some pr2.eq_1 l0_nil lc_cons unT.eq_1 K0.eq_1 M0.eq_1 KI AllV_Str len_Str ctR_eq ctM_eq ro_kd ro_ro mu_kd mu_mu encAd_eq aIdx_Ad EAd_dec decAds decAds0 EAd_enc EAd_n len_Ad Ad_eta AllV_Ad encMl_eq aIdx_Ml EMl_dec decMls decMls0 EMl_enc EMl_n len_Ml Ml_eta mkMl.eq_1 owMl_eq AMl_enc AMl_dec encRc_eq aIdx_Rc ERc_dec decRcs decRcs0 ERc_enc ERc_n len_Rc Rc_eta AllV_Rc encIm_eq aIdx_Im EIm_dec decIms decIms0 EIm_enc EIm_n len_Im Im_eta mkIm.eq_1 owIm_eq AIm_enc AIm_dec encSp_eq aIdx_Sp ESp_dec decSps decSps0 ESp_enc ESp_n len_Sp Sp_eta mkSp.eq_1 owSp_eq ASp_enc ASp_dec encWy_eq aIdx_Wy EWy_dec decWys decWys0 EWy_enc EWy_n len_Wy Wy_eta AllV_Wy encCf_eq aIdx_Cf ECf_dec decCfs decCfs0 ECf_enc ECf_n len_Cf Cf_eta mkCf.eq_1 owCf_eq ACf_enc ACf_dec encGm_eq aIdx_Gm EGm_dec decGms decGms0 EGm_enc EGm_n len_Gm Gm_eta mkGm.eq_1 owGm_eq AGm_enc AGm_dec encBx_eq aIdx_Bx EBx_dec decBxs decBxs0 EBx_enc EBx_n len_Bx Bx_eta mkBx.eq_1 owBx_eq ABx_enc ABx_dec encLs_eq aIdx_Ls ELs_dec decLss decLss0 ELs_enc ELs_n len_Ls Ls_eta AllV_Ls encHs_eq aIdx_Hs EHs_dec decHss decHss0 EHs_enc EHs_n len_Hs Hs_eta mkHs.eq_1 owHs_eq AHs_enc AHs_dec
def fewB {α : Type} (f : α → Int → Int) (e : α → Int → Int) (c : Int) : Prop := ∀ a l k, 0 ≤ f a l → e a k ≤ k + c + 100 * (l - f a l)
theorem bStr : fewB szStr eStr 1 := fun a l k h => by unfold szStr eStr; omega
theorem bInt_list (xs : List Int) (k : Int) : eS eInt k xs = k + xs.length := by
  induction xs generalizing k with
  | nil => simp [eS]
  | cons x r ih => simp only [eS, ih, eInt, List.length_cons]; omega
theorem bF {α : Type} {f e : α → Int → Int} {c : Int} (hb : fewB f e c) : ∀ (xs : List α) (l k : Int), 0 ≤ szF f l xs → eS e k xs ≤ k + c * xs.length + 100 * (l - szF f l xs)
  | [], l, k, _ => by simp [eS, szF]
  | x :: r, l, k, h => by
    rw [szF] at h ⊢
    by_cases h1 : f x l < 0
    · rw [if_pos h1] at h; omega
    · rw [if_neg h1] at h ⊢
      have q1 := hb x l k (by omega)
      have q2 := bF hb r (f x l) (e x k) h
      have e1 : c * ((r.length + 1 : Nat) : Int) = c * r.length + c := by rw [Int.natCast_add, Int.mul_add]; simp
      simp only [eS, List.length_cons]
      omega
theorem bL {α : Type} {f e : α → Int → Int} {c : Int} (hb : fewB f e c) (hc : c ≤ 100) (xs : List α) (l k : Int) (h : 0 ≤ szL f xs l) : eS e k xs ≤ k + 100 * (l - szL f xs l) := by
  unfold szL at h ⊢
  by_cases h1 : l - xs.length < 0
  · rw [if_pos h1] at h; omega
  · rw [if_neg h1] at h ⊢
    have q := bF hb xs (l - xs.length) k h
    have q2 : c * (xs.length : Int) ≤ 100 * xs.length := Int.mul_le_mul_of_nonneg_right hc (by omega)
    omega
def uAd (a : Ad) (k : Int) : Int := ((k + 1) + 1)
theorem uAd_b : fewB szAd uAd 2 := fun a l k h => by
  by_cases z0 : (l - a.user.size) < 0
  · unfold szAd at h; rw [if_pos z0] at h; omega
  · skip
    by_cases z1 : ((l - a.user.size) - a.domain.size) < 0
    · unfold szAd at h; rw [if_neg z0, if_pos z1] at h; omega
    · skip
      have hs : szAd a l = ((l - a.user.size) - a.domain.size) := by unfold szAd; rw [if_neg z0, if_neg z1]
      rw [hs]
      unfold uAd
      omega
def uRc (a : Rc) (k : Int) : Int := (((uAd a.addr k) + 1) + 1)
theorem uRc_b : fewB szRc uRc 4 := fun a l k h => by
  by_cases z0 : (szAd a.addr l) < 0
  · unfold szRc at h; rw [if_pos z0] at h; omega
  · skip
    have hs : szRc a l = (szAd a.addr l) := by unfold szRc; rw [if_neg z0]
    rw [hs]
    have b0 := uAd_b a.addr l k (by omega)
    unfold uRc
    omega
def uIm (a : Im) (k : Int) : Int := (eS eStr (eS uRc (uAd a.frm (k + 1)) a.to) a.body)
theorem uIm_b : fewB szIm uIm 3 := fun a l k h => by
  by_cases z0 : (szAd a.frm l) < 0
  · unfold szIm at h; rw [if_pos z0] at h; omega
  · skip
    by_cases z1 : (szL szRc a.to (szAd a.frm l)) < 0
    · unfold szIm at h; rw [if_neg z0, if_pos z1] at h; omega
    · skip
      by_cases z2 : (szL szStr a.body (szL szRc a.to (szAd a.frm l))) < 0
      · unfold szIm at h; rw [if_neg z0, if_neg z1, if_pos z2] at h; omega
      · skip
        have hs : szIm a l = (szL szStr a.body (szL szRc a.to (szAd a.frm l))) := by unfold szIm; rw [if_neg z0, if_neg z1, if_neg z2]
        rw [hs]
        have b0 := uAd_b a.frm l (k + 1) (by omega)
        have b1 := bL uRc_b (by decide) a.to (szAd a.frm l) (uAd a.frm (k + 1)) (by omega)
        have b2 := bL bStr (by decide) a.body (szL szRc a.to (szAd a.frm l)) (eS uRc (uAd a.frm (k + 1)) a.to) (by omega)
        unfold uIm
        omega
def uSp (a : Sp) (k : Int) : Int := (eS uIm (k + 1) a.items)
theorem uSp_b : fewB szSp uSp 1 := fun a l k h => by
  by_cases z0 : (szL szIm a.items l) < 0
  · unfold szSp at h; rw [if_pos z0] at h; omega
  · skip
    have hs : szSp a l = (szL szIm a.items l) := by unfold szSp; rw [if_neg z0]
    rw [hs]
    have b0 := bL uIm_b (by decide) a.items l (k + 1) (by omega)
    unfold uSp
    omega
def uWy (a : Wy) (k : Int) : Int := ((k + 1) + 1)
theorem uWy_b : fewB szWy uWy 2 := fun a l k h => by
  by_cases z0 : (l - a.ends.size) < 0
  · unfold szWy at h; rw [if_pos z0] at h; omega
  · skip
    by_cases z1 : ((l - a.ends.size) - a.to.size) < 0
    · unfold szWy at h; rw [if_neg z0, if_pos z1] at h; omega
    · skip
      have hs : szWy a l = ((l - a.ends.size) - a.to.size) := by unfold szWy; rw [if_neg z0, if_neg z1]
      rw [hs]
      unfold uWy
      omega
def uCf (a : Cf) (k : Int) : Int := (eS uWy (eS eStr (k + 1) a.own) a.ways)
theorem uCf_b : fewB szCf uCf 1 := fun a l k h => by
  by_cases z0 : (l - a.name.size) < 0
  · unfold szCf at h; rw [if_pos z0] at h; omega
  · skip
    by_cases z1 : (szL szStr a.own (l - a.name.size)) < 0
    · unfold szCf at h; rw [if_neg z0, if_pos z1] at h; omega
    · skip
      by_cases z2 : (szL szWy a.ways (szL szStr a.own (l - a.name.size))) < 0
      · unfold szCf at h; rw [if_neg z0, if_neg z1, if_pos z2] at h; omega
      · skip
        have hs : szCf a l = (szL szWy a.ways (szL szStr a.own (l - a.name.size))) := by unfold szCf; rw [if_neg z0, if_neg z1, if_neg z2]
        rw [hs]
        have b0 := bL bStr (by decide) a.own (l - a.name.size) (k + 1) (by omega)
        have b1 := bL uWy_b (by decide) a.ways (szL szStr a.own (l - a.name.size)) (eS eStr (k + 1) a.own) (by omega)
        unfold uCf
        omega
def uGm (a : Gm) (k : Int) : Int := (eS eStr (uAd a.frm k) a.body)
theorem uGm_b : fewB szGm uGm 2 := fun a l k h => by
  by_cases z0 : (szAd a.frm l) < 0
  · unfold szGm at h; rw [if_pos z0] at h; omega
  · skip
    by_cases z1 : (szL szStr a.body (szAd a.frm l)) < 0
    · unfold szGm at h; rw [if_neg z0, if_pos z1] at h; omega
    · skip
      have hs : szGm a l = (szL szStr a.body (szAd a.frm l)) := by unfold szGm; rw [if_neg z0, if_neg z1]
      rw [hs]
      have b0 := uAd_b a.frm l k (by omega)
      have b1 := bL bStr (by decide) a.body (szAd a.frm l) (uAd a.frm k) (by omega)
      unfold uGm
      omega
def uBx (a : Bx) (k : Int) : Int := (eS uGm (uAd a.addr k) a.mails)
theorem uBx_b : fewB szBx uBx 2 := fun a l k h => by
  by_cases z0 : (szAd a.addr l) < 0
  · unfold szBx at h; rw [if_pos z0] at h; omega
  · skip
    by_cases z1 : (szL szGm a.mails (szAd a.addr l)) < 0
    · unfold szBx at h; rw [if_neg z0, if_pos z1] at h; omega
    · skip
      have hs : szBx a l = (szL szGm a.mails (szAd a.addr l)) := by unfold szBx; rw [if_neg z0, if_neg z1]
      rw [hs]
      have b0 := uAd_b a.addr l k (by omega)
      have b1 := bL uGm_b (by decide) a.mails (szAd a.addr l) (uAd a.addr k) (by omega)
      unfold uBx
      omega
def uLs (a : Ls) (k : Int) : Int := (uAd a.addr (k + 1))
theorem uLs_b : fewB szLs uLs 3 := fun a l k h => by
  by_cases z0 : (l - a.mark.size) < 0
  · unfold szLs at h; rw [if_pos z0] at h; omega
  · skip
    by_cases z1 : (szAd a.addr (l - a.mark.size)) < 0
    · unfold szLs at h; rw [if_neg z0, if_pos z1] at h; omega
    · skip
      have hs : szLs a l = (szAd a.addr (l - a.mark.size)) := by unfold szLs; rw [if_neg z0, if_neg z1]
      rw [hs]
      have b0 := uAd_b a.addr (l - a.mark.size) (k + 1) (by omega)
      unfold uLs
      omega
def uHs (a : Hs) (k : Int) : Int := (eS uLs (eS uBx (uSp a.spool (uCf a.conf k)) a.boxes) a.lost)
theorem uHs_b : fewB szHs uHs 2 := fun a l k h => by
  by_cases z0 : (szCf a.conf l) < 0
  · unfold szHs at h; rw [if_pos z0] at h; omega
  · skip
    by_cases z1 : (szSp a.spool (szCf a.conf l)) < 0
    · unfold szHs at h; rw [if_neg z0, if_pos z1] at h; omega
    · skip
      by_cases z2 : (szL szBx a.boxes (szSp a.spool (szCf a.conf l))) < 0
      · unfold szHs at h; rw [if_neg z0, if_neg z1, if_pos z2] at h; omega
      · skip
        by_cases z3 : (szL szLs a.lost (szL szBx a.boxes (szSp a.spool (szCf a.conf l)))) < 0
        · unfold szHs at h; rw [if_neg z0, if_neg z1, if_neg z2, if_pos z3] at h; omega
        · skip
          have hs : szHs a l = (szL szLs a.lost (szL szBx a.boxes (szSp a.spool (szCf a.conf l)))) := by unfold szHs; rw [if_neg z0, if_neg z1, if_neg z2, if_neg z3]
          rw [hs]
          have b0 := uCf_b a.conf l k (by omega)
          have b1 := uSp_b a.spool (szCf a.conf l) (uCf a.conf k) (by omega)
          have b2 := bL uBx_b (by decide) a.boxes (szSp a.spool (szCf a.conf l)) (uSp a.spool (uCf a.conf k)) (by omega)
          have b3 := bL uLs_b (by decide) a.lost (szL szBx a.boxes (szSp a.spool (szCf a.conf l))) (eS uBx (uSp a.spool (uCf a.conf k)) a.boxes) (by omega)
          unfold uHs
          omega
theorem fSp_few (a : Sp) (l k : Int) (h : 0 ≤ szSp a l) : fSp a k ≤ k + 100 * (l - szSp a l) := by
  by_cases z0 : (szL szIm a.items l) < 0
  · unfold szSp at h; rw [if_pos z0] at h; omega
  · skip
    have hs : szSp a l = (szL szIm a.items l) := by unfold szSp; rw [if_neg z0]
    rw [hs]
    have b0 := bL uIm_b (by decide) a.items l k (by omega)
    show (eS uIm k a.items) ≤ _
    omega
theorem fCf_few (a : Cf) (l k : Int) (h : 0 ≤ szCf a l) : fCf a k ≤ k + 100 * (l - szCf a l) := by
  by_cases z0 : (l - a.name.size) < 0
  · unfold szCf at h; rw [if_pos z0] at h; omega
  · skip
    by_cases z1 : (szL szStr a.own (l - a.name.size)) < 0
    · unfold szCf at h; rw [if_neg z0, if_pos z1] at h; omega
    · skip
      by_cases z2 : (szL szWy a.ways (szL szStr a.own (l - a.name.size))) < 0
      · unfold szCf at h; rw [if_neg z0, if_neg z1, if_pos z2] at h; omega
      · skip
        have hs : szCf a l = (szL szWy a.ways (szL szStr a.own (l - a.name.size))) := by unfold szCf; rw [if_neg z0, if_neg z1, if_neg z2]
        rw [hs]
        have b0 := bL bStr (by decide) a.own (l - a.name.size) k (by omega)
        have b1 := bL uWy_b (by decide) a.ways (szL szStr a.own (l - a.name.size)) (eS eStr k a.own) (by omega)
        show (eS uWy (eS eStr k a.own) a.ways) ≤ _
        omega
theorem fHs_few (a : Hs) (l k : Int) (h : 0 ≤ szHs a l) : fHs a k ≤ k + 100 * (l - szHs a l) := by
  by_cases z0 : (szCf a.conf l) < 0
  · unfold szHs at h; rw [if_pos z0] at h; omega
  · skip
    by_cases z1 : (szSp a.spool (szCf a.conf l)) < 0
    · unfold szHs at h; rw [if_neg z0, if_pos z1] at h; omega
    · skip
      by_cases z2 : (szL szBx a.boxes (szSp a.spool (szCf a.conf l))) < 0
      · unfold szHs at h; rw [if_neg z0, if_neg z1, if_pos z2] at h; omega
      · skip
        by_cases z3 : (szL szLs a.lost (szL szBx a.boxes (szSp a.spool (szCf a.conf l)))) < 0
        · unfold szHs at h; rw [if_neg z0, if_neg z1, if_neg z2, if_pos z3] at h; omega
        · skip
          have hs : szHs a l = (szL szLs a.lost (szL szBx a.boxes (szSp a.spool (szCf a.conf l)))) := by unfold szHs; rw [if_neg z0, if_neg z1, if_neg z2, if_neg z3]
          rw [hs]
          have b0 := fCf_few a.conf l k (by omega)
          have b1 := fSp_few a.spool (szCf a.conf l) (fCf a.conf k) (by omega)
          have b2 := bL uBx_b (by decide) a.boxes (szSp a.spool (szCf a.conf l)) (fSp a.spool (fCf a.conf k)) (by omega)
          have b3 := bL uLs_b (by decide) a.lost (szL szBx a.boxes (szSp a.spool (szCf a.conf l))) (eS uBx (fSp a.spool (fCf a.conf k)) a.boxes) (by omega)
          show (eS uLs (eS uBx (fSp a.spool (fCf a.conf k)) a.boxes) a.lost) ≤ _
          omega
end Go.V
namespace Go.V
open Go Go.Proofs
set_option maxRecDepth 100000
set_option linter.unusedSimpArgs false
set_option linter.unusedVariables false
attribute [local go_sem_proc] Nat.reduceAdd Nat.reduceMul Nat.reduceLeDiff Nat.reduceEqDiff reduceCtorEq Nat.reduceSub Int.reduceNeg Nat.reduceMod Nat.reduceBEq Nat.reduceLT
attribute [local go_sem] aPickB.eq_1 aPickB.eq_2 aPick.eq_1 aBox.eq_1 aBox.eq_2 aAlloc.eq_1 aAlloc.eq_2 aLoadB.eq_1 aLoadB.eq_2 aLoadB.eq_3 aLoadB.eq_4 aLoadB.eq_5 aLoadA.eq_1 aLoadA.eq_2 aLoadA.eq_3 aLoadA.eq_4 aLoadA.eq_5 aLoadP.eq_1 aLoadP.eq_2 aLoadP.eq_3 aLoad.eq_1 aLoad.eq_2 aFAx.eq_1 aFAx.eq_2 aFAx.eq_3 aFA.eq_1 aFA.eq_2 aFx.eq_1 aF.eq_1 aF.eq_2 fld.eq_1 elT.eq_1 aIdxH.eq_1 aIdxH.eq_2 aIdxH.eq_3 aIdxH.eq_4 aIdxH.eq_5 aIdxP.eq_1 aIdxP.eq_2 aIndexAddr.eq_1 aIndexAddr.eq_2 aIndexAddr.eq_3 isStr.eq_1 aIndex.eq_1 aSlStr.eq_1 aSlRo.eq_1 aSlZ.eq_1 aSlZ.eq_2 aSlice.eq_1 aSlice.eq_2 aSlice.eq_3 bnd.eq_1 bnd.eq_2 aBuildO.eq_1 aBuildO.eq_2 aBuild.eq_1 aNewArr.eq_1 aNewArr.eq_2 aBS.eq_1 aBS.eq_2 aBuildSlice.eq_1 aBuildSlice.eq_2 aMakeSlice.eq_1 appDeep.eq_1 aApp2.eq_1 aAppend.eq_1 aAppend.eq_2 aStoreB.eq_1 aStoreA.eq_1 obFlat.eq_1 aStore2.eq_1 aStore2.eq_2 aStoreP.eq_1 aStoreP.eq_2 aStore.eq_1 aStore.eq_2 isShl.eq_1 isShl.eq_2 isBool.eq_1 aBinI.eq_1 aBinI.eq_2 aBinB.eq_1 aBinB.eq_2 aEq.eq_1 aEq.eq_2 aEq.eq_3 aEq.eq_4 aEqG.eq_1 aEqG.eq_2 aBin.eq_1 aBin.eq_2 aBin.eq_3 aBin.eq_4 aUn.eq_1 aUn.eq_2 aLenO.eq_1 aLenS.eq_1 aLenS.eq_2 aLenS.eq_3 aLenT.eq_1 aLen.eq_1 aLen.eq_2 aLen.eq_3 bytesOb.eq_1 bytesOb.eq_2 bytesOf.eq_1 bytesOf.eq_2 aNums.eq_1 aNums.eq_2 isU8.eq_1 aCvI.eq_1 aCvS.eq_1 aCvB.eq_1 aCvB.eq_2 aCvT.eq_1 aConv.eq_1 aConv.eq_2 aConv.eq_3 aConv.eq_4 aExO.eq_1 aExO.eq_2 aExtract.eq_1 aNil.eq_1 aNil.eq_2 aNil.eq_3 aCallS.eq_1 aCallS.eq_2 aCallR.eq_1 aCallR.eq_2 aCallK.eq_1 aCallK.eq_2 aCallK.eq_3 aCall.eq_1 aCall.eq_2 takeO.eq_1 AS.takeV.eq_1 AS.takeV.eq_2 AS.takeV.eq_3 AS.takeV.eq_4 AS.takeV.eq_5 AS.takeV.eq_6 AS.takeV.eq_7 AV.oldM.eq_1 AV.oldM.eq_2 AV.oldM.eq_3 AV.oldM.eq_4 AV.oldM.eq_5 AV.oldM.eq_6 AV.oldM.eq_7 AV.oldM.eq_8 AV.oldM.eq_9 AV.oldM.eq_10 AV.oldM.eq_11 AV.oldML.eq_1 AV.oldML.eq_2 subL.eq_1 subL.eq_2 back.eq_1 back.eq_2 back.eq_3 back.eq_4 backL.eq_1 backI.eq_1 backI.eq_2 backI.eq_3 backI.eq_4 backIL.eq_1 aBuiltin.eq_1 aBuiltin.eq_2 aBuiltin.eq_3 aCallee.eq_1 aCallee.eq_2 aCallee.eq_3 abin.eq_1 abin.eq_2 abin.eq_3 abin.eq_4 abin.eq_5 abin.eq_6 abin.eq_7 abin.eq_8 abin.eq_9 abin.eq_10 abin.eq_11 abin.eq_12 abin.eq_13 abin.eq_14 abin.eq_15 abin.eq_17 abin.eq_18 abin.eq_19 abin.eq_20 abin.eq_21 abin.eq_22 abin.eq_23 AS.ev.eq_1 AS.ev.eq_2 AS.ev.eq_3 AS.ev.eq_4 AS.evs.eq_1 AS.evs.eq_2 AS.evp.eq_1 AS.evp.eq_2 AS.put.eq_1 AS.put.eq_2 AS.remL.eq_1 AS.remL.eq_2 AV.has.eq_1 AV.has.eq_2 AV.has.eq_3 AV.has.eq_4 AV.has.eq_5 AV.has.eq_6 AV.has.eq_7 AV.has.eq_8 AV.has.eq_9 AV.has.eq_10 AV.has.eq_11 AV.hasL.eq_1 AV.hasL.eq_2 Ob.drop.eq_1 Ob.drop.eq_2 Ob.drop.eq_3 Ob.drop.eq_4 AV.cells.eq_1 AV.cells.eq_2 AV.cells.eq_3 AV.cells.eq_4 AV.cells.eq_5 AS.snapT.eq_1 AS.snapT.eq_2 AS.snapT.eq_3 AS.snapT.eq_4 AS.snapT.eq_5 AS.snapT.eq_6 AS.snapT.eq_7 AS.snap.eq_1 AS.snap.eq_2 mapO.eq_1 mapO.eq_2 intern.eq_1 intern.eq_2 intern.eq_3 intern.eq_4 intern.eq_5 intern.eq_6 intern.eq_7 intern.eq_8 intern.eq_9 intern.eq_10 intern.eq_11 internL.eq_1 internL.eq_2 zipSl.eq_1 zipSl.eq_2 AV.ids.eq_1 AV.ids.eq_2 AV.ids.eq_3 AV.ids.eq_4 AV.ids.eq_5 AV.ids.eq_6 AV.ids.eq_7 AV.ids.eq_8 AV.ids.eq_9 AV.ids.eq_10 AV.ids.eq_11 AV.idsL.eq_1 AV.idsL.eq_2 AV.sub.eq_1 AV.sub.eq_2 AV.sub.eq_3 AV.sub.eq_4 AV.sub.eq_5 AV.sub.eq_6 AV.sub.eq_7 AV.sub.eq_8 AV.sub.eq_9 AV.sub.eq_10 AV.sub.eq_11 AV.subL.eq_1 AV.subL.eq_2 AS.frzL.eq_1 AS.frzL.eq_2 AS.absT.eq_1 AS.absT.eq_2 AS.absT.eq_4 AS.absL.eq_1 AS.absL.eq_2 AS.absOk.eq_1 AS.absOkL.eq_1 AS.absOkL.eq_2 hid.eq_1 hids.eq_1 hids.eq_2 AS.appBase.eq_1 AS.appBase.eq_2 AS.appSrc.eq_1 appFits.eq_1 appFits.eq_2 appFits.eq_3 avFill.eq_1 avFill.eq_2 avc.eq_1 avc.eq_2 avc1.eq_1 Kd.agg.eq_1 Kd.agg.eq_2 okR.eq_1 okR.eq_2 okR.eq_3 okR.eq_4 okR.eq_5 okR.eq_6 okR.eq_7 okR.eq_8 zt.eq_1 rvB.eq_1 rvP.eq_1 rvA.eq_1 rvA.eq_2 rv1.eq_1 outTO.eq_1 outT.eq_1 outT.eq_2 outT.eq_3 outTn.eq_1 outOO.eq_1 outO.eq_1 outO.eq_2 boxOf.eq_1 outP.eq_1 outP.eq_2 outP.eq_3 outP.eq_4 outP.eq_5 outP.eq_6 outP.eq_7 outP.eq_8 outPL.eq_1 outPL.eq_2 outI.eq_1 outI.eq_2 outI.eq_3 outI.eq_4 outI.eq_5 outIL.eq_1 outZ.eq_1 outZ.eq_2 outZ.eq_3 outZ.eq_4 outZ.eq_5 outZL.eq_1 finO.eq_1 finO.eq_2 fin.eq_1 fin.eq_2 fin.eq_3 cellAV.eq_1 cellAV.eq_2 numsOf.eq_1 numsOf.eq_2 aop.eq_1 aop.eq_2 aop.eq_3 aop.eq_4 aop.eq_5 aop.eq_6 aop.eq_7 aop.eq_8 aop.eq_9 aop.eq_10 aop.eq_11 aop.eq_12 aop.eq_13 aop.eq_14 aop.eq_15 aop.eq_16 aop.eq_17 aop.eq_18 aop.eq_19 aop.eq_20 aop.eq_21 aop.eq_22 aop.eq_23 aop.eq_24 aop.eq_25 aop.eq_26 tmpsOf.eq_1 tmpsOf.eq_2 tmpsOf.eq_3 tmpsOf.eq_4 tmpsOf.eq_5 AV.refs.eq_1 AV.refs.eq_2 AV.refs.eq_3 AV.refs.eq_4 AV.refs.eq_5 AV.refs.eq_6 AV.refs.eq_7 AV.refs.eq_8 AV.refs.eq_9 AV.refs.eq_10 AV.refs.eq_11 AV.refsL.eq_1 AV.refsL.eq_2 refsT.eq_1 refsT.eq_2 refsO.eq_1 refsO.eq_2 refsO.eq_3 refsO.eq_4 refsO.eq_5 refsO.eq_6 refsB.eq_1 refsB.eq_2 clos.eq_1 clos.eq_2 keepL.eq_1 keepL.eq_2 AV.hasM.eq_1 AV.hasM.eq_2 AV.hasM.eq_3 AV.hasM.eq_4 AV.hasM.eq_5 AV.hasM.eq_6 AV.hasM.eq_7 AV.hasM.eq_8 AV.hasM.eq_9 AV.hasM.eq_10 AV.hasM.eq_11 AV.hasML.eq_1 AV.hasML.eq_2 Ob.dropM.eq_1 Ob.dropM.eq_2 Ob.dropM.eq_3 Ob.dropM.eq_4 nsC.eq_1 nsC.eq_2 okGuard.eq_1 okGuard.eq_2 AS.purges.eq_1 AS.purges.eq_2 dropMB.eq_1 dropMB.eq_2 newB.eq_1 newB.eq_2 ptB.eq_1 ptB.eq_2 lookC.eq_1 lookC.eq_2 dropB.eq_1 dropB.eq_2 leS.eq_1 leS.eq_2 leT.eq_1 leT.eq_2 AS.mvs.eq_1 AS.mvs.eq_2 AS.mvA.eq_1 AS.mvA.eq_2 AS.mvB.eq_1 aSetO.eq_1 aSetO.eq_2 aSh.eq_1 aSh.eq_2 arK.eq_1 aIdxA.eq_1 aIdxA.eq_2 arT.eq_1 aSlHB.eq_1 aSlHB.eq_2 aSlHO.eq_1 aSlHZ.eq_1 aSlHZ.eq_2 isSlT.eq_1 isNilC.eq_1 aNilO.eq_1 aNilX.eq_1 aNilX.eq_2 aNilX.eq_3 aNilC.eq_1 aNilC.eq_2 aBinQ.eq_1 aBinQ.eq_2 aMin.eq_1 flT.eq_1 flT.eq_2 flT.eq_3 mpT.eq_1 aMkMap.eq_1 aMkMap.eq_2 strA.eq_1 keyMK.eq_1 keyMK.eq_2 keyMK.eq_3 mkB.eq_1 mkB.eq_2 mkB.eq_3 aMp2.eq_1 aMp1.eq_1 aMp0.eq_1 aMapU.eq_1 aLk2.eq_1 aLk2.eq_2 aLk1.eq_1 aLk0.eq_1 aLookup.eq_1 aLenMO.eq_1 aLenM.eq_1 glV.eq_1 glV.eq_2 evG.eq_1 evG.eq_2 evG.eq_3 evG.eq_4 lkHitO.eq_1 lkHitO.eq_2 lkHitO.eq_3 lkHitO.eq_4 lkHit.eq_1 lkHit.eq_2 lkF.eq_1 lkF.eq_2 lkFind.eq_1 lkFind.eq_2 lkV.eq_1 lkV.eq_2 lkV.eq_3 lkV.eq_4 lkV.eq_5 AS.lkO.eq_1 AS.lkO.eq_2 AS.lkOf.eq_1 rawT.eq_1 rawT.eq_2 rawT.eq_3 rawT.eq_4 rawT.eq_5 rawT.eq_6 rawOf.eq_1 rawOf.eq_2 rawOf.eq_3 rawOf.eq_4 rawOf.eq_5 rawOf.eq_6 rawOf.eq_7 rawOf.eq_8 rawOf.eq_9 rawOf.eq_10 rawOf.eq_11 aLkR.eq_1 aLkR.eq_2 aLk.eq_1 aLk.eq_2 KL.eq_1 lkDrop.eq_1 lkDrop.eq_2 lkParO.eq_1 lkParO.eq_2 lkParO.eq_3 lkParO.eq_4 lkPar.eq_1 lkPar.eq_2 lkI.eq_1 lkI.eq_2 lkIds.eq_1 lkIds.eq_2 adLd.eq_1 run_nil run_b run_l run_skip run_label run_seq run_cond brV_b brB_t brB_f run_block run_exit run_ret run_region runX_nil runX_c runX_c' runX_b runX_b' runX_l runX_l' exB_t exB_f run_o run_op run_opg gV_b gV_t gB_tt gB_ff gB_tf gB_ft rs_eq kv KI aLenN aBS1 aApp1 aStore1 szOk gv gd s0 idOf look_cons lookC frzU_t frzU_f orT orF drop_any drop_nil drop_t drop_h drop_pb drop_pa drop_agg drop_tup drop_fn dropB kill_eq set_eq rem_eq re_eq up_eq get_eq ob_eq Ob.drop apl fpl plainTy AS.frz splice cond_true cond_false List.map_cons List.map_nil List.drop_zero List.drop_succ_cons List.drop_nil List.take_zero List.take_succ_cons List.take_nil List.getElem?_cons_zero List.getElem?_cons_succ List.getElem?_nil List.length_cons List.length_nil Option.map_some Option.map_none Option.bind_some Option.bind_none List.cons_append List.nil_append List.append_nil Option.getD_some Option.getD_none List.all_cons List.all_nil Bool.and_true Bool.true_and Bool.or_false Bool.false_or Bool.or_true Bool.true_or List.flatten_cons List.flatten_nil List.replicate_succ List.replicate_zero and_true true_and avOf_t avOf_f agg_bool agg_int agg_str agg_slice agg_struct agg_func agg_ptr agg_map avc_bool avc_int avc_str avc_fn avc1_bool avc1_int avc1_str avc1_fn zt_bool zt_int zt_str cells_nil cells_t cells_h cells_pb cells_fn snap_t snap_nil snap_h snap_pb snap_fn rv1_one rv1_two outI_t outI_oh outI_on outI_any outI_nil outZ_th outZ_tt outZ_tn outZ_o outZ_any outZ_nil outIL_nil outZL_nil finN finR ne_eq not_false_eq_true not_true_eq_false List.nodup_nil List.not_mem_nil false_implies implies_true eq_self true_or or_true Option.some.injEq shl_add shl_sub shl_mul shl_quo shl_rem shl_and shl_or shl_xor shl_andNot shl_eql shl_neq shl_lss shl_leq shl_gtr shl_geq shl_shr shl_shl appDeep_none appDeep_sn appSrc_h appSrc_nil fits_ft fits_tn fits_tf isStr_slice obFlat_box Nat.le_refl nbeq_self List.length_map updZ_s updZ_n dropM_eq purge_eq newIds_cons newIds_nil purgeT_nil purgeT_cons memN_cons memN_nil bd_d bd_c bd_g bd_p bd_t bd_o preds_nil preds_cons hasIns insB List.any_cons List.any_nil adK_eq adr_nil adG_eq kdOp noLen creates Op.operands Call.operands nsOf adT adI adJ plainB rst List.append_eq nsD_f nsD_n nsD_t nOf_0 nOf_1 nOf_2 chO_0 chO_1 chO_2 keepK_0 keepK_1 keepK_2 eqRes AS.mv fits KM aCallM notNew kdCall arK_i64 arK_i32 arK_u8 arK_u64 arT_sl isNilC_t isNilC_f isNilC_g isNilC_i isNilC_b isNilC_s isNilC_a isNilC_n andBF andBT aCallK_2 ble_dec hid_t hid_nil hid_any hid_pb hid_fn absOk_t absOk_nil absOk_pb absOk_h absOkO_1 decide_true decide_false Array.toList_append chunk_0 chunk_1 chunk_2 chunk_3 back_t back_nil back_ht backL_nil backI_t backI_nil backI_ht backIL_nil AS.mvJ nbeq_dec runR_f runR_t loadB Option.isSome_some Option.isSome_none nodup1 adr_none adr_some adO_s adV_b adV_t adB_tt adB_ff adB_tf adB_ft adS_eq lenL.eq_1 lenO.eq_1 lenO.eq_2 lenV.eq_1 lenV.eq_2 lenV.eq_3 lenV.eq_4 optN optS absT_ft
attribute [local go_sem] ty3 ty4 ty5 ty9 ty21 ty22 ty23 ty25 ty26 ty28 ty29 ty30 ty32 ty34 ty35 ty37 ty40 ty42 ty43 ty45 ty46 ty47 ty49 ty53 ty54 ty56 ty106 ty108 ty120 ty124 ty126 ty129 ty131 ty133 ty147 ty161 ty192 ty194 ty196 ty198 ty213 ty215 ty221 ty224 ty229 ty237 ty244 ty268 lv53 lv147 lv161 lv198 zb4 leS leT fits AS.mvs encStr_eq aIdx_str EStr_dec decStrs decStrs0 EStr_enc EStr_n encInt_eq aIdx_int EInt_dec decInts decInts0 EInt_enc EInt_n AllV_Int len_Int lc_enc l0_enc asl_enc ag_enc aow_enc ABool_enc AInt_enc AStr_enc AU8_enc ABool_dec AInt_dec AStr_dec AU8_dec asl_dec ag_dec aow_dec bind_some pr2.eq_1 l0_nil lc_cons unT.eq_1 K0.eq_1 M0.eq_1 KI AllV_Str len_Str ctR_eq ctM_eq ro_kd ro_ro mu_kd mu_mu encAd_eq aIdx_Ad EAd_dec decAds decAds0 EAd_enc EAd_n len_Ad Ad_eta AllV_Ad encMl_eq aIdx_Ml EMl_dec decMls decMls0 EMl_enc EMl_n len_Ml Ml_eta mkMl.eq_1 owMl_eq AMl_enc AMl_dec encRc_eq aIdx_Rc ERc_dec decRcs decRcs0 ERc_enc ERc_n len_Rc Rc_eta AllV_Rc encIm_eq aIdx_Im EIm_dec decIms decIms0 EIm_enc EIm_n len_Im Im_eta mkIm.eq_1 owIm_eq AIm_enc AIm_dec encSp_eq aIdx_Sp ESp_dec decSps decSps0 ESp_enc ESp_n len_Sp Sp_eta mkSp.eq_1 owSp_eq ASp_enc ASp_dec encWy_eq aIdx_Wy EWy_dec decWys decWys0 EWy_enc EWy_n len_Wy Wy_eta AllV_Wy encCf_eq aIdx_Cf ECf_dec decCfs decCfs0 ECf_enc ECf_n len_Cf Cf_eta mkCf.eq_1 owCf_eq ACf_enc ACf_dec encGm_eq aIdx_Gm EGm_dec decGms decGms0 EGm_enc EGm_n len_Gm Gm_eta mkGm.eq_1 owGm_eq AGm_enc AGm_dec encBx_eq aIdx_Bx EBx_dec decBxs decBxs0 EBx_enc EBx_n len_Bx Bx_eta mkBx.eq_1 owBx_eq ABx_enc ABx_dec encLs_eq aIdx_Ls ELs_dec decLss decLss0 ELs_enc ELs_n len_Ls Ls_eta AllV_Ls encHs_eq aIdx_Hs EHs_dec decHss decHss0 EHs_enc EHs_n len_Hs Hs_eta mkHs.eq_1 owHs_eq AHs_enc AHs_dec
def shf {α : Type} (e : α → Int → Int) : Prop := ∀ a k d, e a (k + d) = e a k + d
section
variable {α : Type} {e : α → Int → Int}
theorem eS_shf (h : shf e) : ∀ (xs : List α) (k d : Int), eS e (k + d) xs = eS e k xs + d
  | [], _, _ => rfl
  | x :: r, k, d => by simp only [eS]; rw [h x k d, eS_shf h r]
def wt (e : α → Int → Int) (xs : List α) : Int := eS e 0 xs
theorem eS_wt (h : shf e) (xs : List α) (k : Int) : eS e k xs = k + wt e xs := by
  have := eS_shf h xs 0 k
  unfold wt; rw [Int.zero_add] at this; omega
theorem wt_cons (h : shf e) (x : α) (xs : List α) : wt e (x :: xs) = e x 0 + wt e xs := by
  show eS e (e x 0) xs = _
  exact eS_wt h xs _
theorem wt_app (h : shf e) (xs ys : List α) : wt e (xs ++ ys) = wt e xs + wt e ys := by
  unfold wt; rw [eS_app]; exact eS_wt h ys _
theorem wt_nn (h : shf e) (hi : incr e) (xs : List α) : 0 ≤ wt e xs := eS_le hi xs 0
theorem wt_sub (h : shf e) (hi : incr e) {xs ys : List α} (q : List.Sublist xs ys) : wt e xs ≤ wt e ys := by
  induction q with
  | slnil => exact Int.le_refl _
  | cons a _ ih => rw [wt_cons h]; have := hi a 0; omega
  | cons_cons a _ ih => rw [wt_cons h, wt_cons h]; omega
theorem wt_le (h : shf e) {B : Int} : ∀ {xs : List α}, (∀ x ∈ xs, e x 0 ≤ B) → wt e xs ≤ B * xs.length
  | [], _ => by simp [wt, eS]
  | x :: r, q => by
    have h1 := q x (by simp)
    have h2 := wt_le h (xs := r) fun y hy => q y (by simp [hy])
    rw [wt_cons h, List.length_cons]
    have e1 : B * ((r.length + 1 : Nat) : Int) = B * r.length + B := by rw [Int.natCast_add, Int.mul_add]; simp
    omega
end
theorem sStr : shf eStr := fun a k d => by unfold eStr; omega
theorem sAd : shf eAd := fun a k d => by
  unfold eAd
  omega
theorem sRc : shf eRc := fun a k d => by
  unfold eRc
  omega
theorem sIm : shf eIm := fun a k d => by
  unfold eIm
  simp only [eS_wt sRc, eS_wt sStr]
  omega
theorem sSp : shf eSp := fun a k d => by
  unfold eSp
  simp only [eS_wt sIm]
  omega
theorem sWy : shf eWy := fun a k d => by
  unfold eWy
  omega
theorem sCf : shf eCf := fun a k d => by
  unfold eCf
  simp only [eS_wt sStr, eS_wt sWy]
  omega
theorem sGm : shf eGm := fun a k d => by
  unfold eGm
  simp only [eS_wt sStr]
  omega
theorem sBx : shf eBx := fun a k d => by
  unfold eBx
  simp only [eS_wt sGm]
  omega
theorem sLs : shf eLs := fun a k d => by
  unfold eLs
  omega
theorem sHs : shf eHs := fun a k d => by
  unfold eHs
  simp only [eS_wt sStr, eS_wt sWy, eS_wt sIm, eS_wt sBx, eS_wt sLs]
  omega
theorem fHs_wt (a : Hs) (k : Int) : fHs a k = k + (wt eStr a.conf.own + wt eWy a.conf.ways + wt eIm a.spool.items + wt eBx a.boxes + wt eLs a.lost) := by
  unfold fHs
  simp only [eS_wt sStr, eS_wt sWy, eS_wt sIm, eS_wt sBx, eS_wt sLs]
  omega
theorem dnIm_wt (x : Im) (k : Nat) : eIm (dnIm x k) 0 ≤ eIm x 0 := by
  unfold eIm
  simp only [eS_wt sRc, eS_wt sStr]
  have h1 : wt eRc (dnIm x k).to ≤ wt eRc x.to := wt_sub sRc eRc_inc (cut_sub x.to k)
  have h2 : (dnIm x k).body = x.body := rfl
  rw [h2]; omega
theorem done_wt (s : Sp) (n : Int) (a : Ad) : wt eIm (SDone s n a).1.items ≤ wt eIm s.items := by
  by_cases h : SpOk s
  · by_cases hi : atIm s n < 0
    · rw [SDone_i h hi]; exact Int.le_refl _
    · by_cases hk : atRc (theIm s n) a < 0
      · rw [SDone_k h hi hk]; exact Int.le_refl _
      · rw [SDone_y h hi hk]
        have hl := atIm_lt hi
        obtain ⟨i, hin⟩ : ∃ i, i = (atIm s n).toNat := ⟨_, rfl⟩
        obtain ⟨k, hkn⟩ : ∃ k, k = (atRc (theIm s n) a).toNat := ⟨_, rfl⟩
        rw [← hin, ← hkn]
        have hil : i < s.items.length := by omega
        show wt eIm (dnL s.items i k) ≤ _
        unfold dnL
        split
        · exact wt_sub sIm eIm_inc (cut_sub s.items i)
        · conv => rhs; rw [cut_eq hil]
          rw [wt_app sIm, wt_app sIm, wt_cons sIm, wt_cons sIm]
          have := dnIm_wt (s.items.getD i default) k
          omega
  · rw [SDone_no h]; exact wt_nn sIm eIm_inc _
theorem bx1_wt {a : Ad} {ms : List Gm} : eBx ⟨a, ms⟩ 0 = 2 + wt eGm ms := by
  unfold eBx
  rw [eS_wt sGm]
  have e : wt eGm ({ addr := a, mails := ms } : Bx).mails = wt eGm ms := rfl
  omega
theorem boxIn_wt (bs : List Bx) (a : Ad) (g : Gm) : wt eBx (boxIn bs a g) ≤ wt eBx bs + 2 + eGm g 0 := by
  have e0 : wt eGm ([] : List Gm) = 0 := rfl
  cases hf : fndB bs a
  · rw [boxIn_n hf, wt_app sBx, wt_cons sBx, bx1_wt, wt_cons sGm]
    have : wt eBx bs = wt eBx (bs.take (kS bs a)) + wt eBx (bs.drop (kS bs a)) := by rw [← wt_app sBx, List.take_append_drop]
    omega
  · have hl := fndB_lt hf
    rw [boxIn_y hf, List.set_eq_take_append_cons_drop, if_pos hl, wt_app sBx, wt_cons sBx, bx1_wt, wt_app sGm, wt_cons sGm]
    conv => rhs; rw [cut_eq hl]
    rw [wt_app sBx, wt_cons sBx, show eBx (bs.getD (kS bs a) default) 0 = 2 + wt eGm (bs.getD (kS bs a) default).mails from bx1_wt]
    omega
theorem gm_wt {f : Ad} {b : List ByteArray} (h : b.length ≤ 12) : eGm ⟨f, b⟩ 0 ≤ 14 := by
  unfold eGm
  simp only [eS_wt sStr]
  have := wt_le sStr (B := 1) (xs := b) fun r _ => by unfold eStr; omega
  omega
theorem keep1_f {h : Hs} {x : Im} {a : Ad} (hb : x.body.length ≤ 12) : fHs (keep1 h x a) 1 ≤ fHs h 1 + 16 := by
  rw [fHs_wt, fHs_wt]
  show 1 + (wt eStr h.conf.own + wt eWy h.conf.ways + wt eIm (SDone h.spool x.id a).1.items + wt eBx (boxIn h.boxes a ⟨x.frm, x.body⟩) + wt eLs h.lost) ≤ _
  have h1 := done_wt h.spool x.id a
  have h2 := boxIn_wt h.boxes a ⟨x.frm, x.body⟩
  have h3 := gm_wt (f := x.frm) hb
  omega
theorem keepR_f {x : Im} (hb : x.body.length ≤ 12) : ∀ (l : List Ad) (h : Hs), fHs (keepR x l h) 1 ≤ fHs h 1 + 16 * l.length
  | [], h => by show fHs h 1 ≤ _; simp
  | a :: r, h => by
    have h1 := keepR_f hb r (keep1 h x a)
    have h2 := keep1_f (h := h) (a := a) hb
    show fHs (keepR x r (keep1 h x a)) 1 ≤ _
    rw [List.length_cons]; omega
theorem keepI_f {c : Cf} {w : Int} : ∀ (xs : List Im) (h : Hs), (∀ x ∈ xs, x.to.length ≤ 4 ∧ x.body.length ≤ 12) → fHs (keepI c w xs h) 1 ≤ fHs h 1 + 64 * xs.length
  | [], h, _ => by show fHs h 1 ≤ _; simp
  | x :: t, h, q => by
    have hx := q x (by simp)
    have h1 := keepI_f t (keepR x (partTo c ⟨#[]⟩ w x.to) h) (c := c) (w := w) fun y hy => q y (by simp [hy])
    have h2 := keepR_f hx.2 (partTo c ⟨#[]⟩ w x.to) h
    have h3 := part_len c ⟨#[]⟩ w x.to
    show fHs (keepI c w t (keepR x (partTo c ⟨#[]⟩ w x.to) h)) 1 ≤ _
    rw [List.length_cons]; omega
theorem HKeep_f {h : Hs} {w : Int} : fHs (HKeep h w) 1 ≤ fHs h 1 + 1000 := by
  have h0 : 1 ≤ fHs h 1 := fHs_inc h 1
  by_cases q : HsOk h
  · rw [HKeep_y q]
    have h1 := keepI_f (c := h.conf) (w := w) h.spool.items h fun x hx => ⟨(q.2.2.1 x hx).1.2.2.2.2.1.2, (q.2.2.1 x hx).1.2.2.2.2.2.2⟩
    have h2 := q.2.2.2.2.2
    omega
  · rw [HKeep_n q]
    have : fHs noHs 1 = 1 := rfl
    omega
def c5 : Ct := ctR (lc EHs.ag (lc AInt l0)) (fun p => True) (fun p => .t (.v (.bool true)))
section
attribute [local go_sem] c6 c9 c12 c14 c16 c21 c22 Bool.not_true Bool.not_false nHs
set_option maxHeartbeats 8000000 in
theorem good5 {G : Gt} (hG : OkG G) (hh : G.e 6 = roEnt 0 c6 ∧ G.e 9 = roEnt 0 c9 ∧ G.e 12 = roEnt 0 c12 ∧ G.e 14 = muEnt c14 ∧ G.e 16 = roEnt 0 c16 ∧ G.e 21 = roEnt 1 c21 ∧ G.e 22 = roEnt 0 c22) : Gd G 5 (roEnt 0 c5) := by
  refine gR (dp := fun _ => true) (fn := Tryz.f5) (n := 2) (fun _ => rfl) (by kernel_rfl) rfl (by kernel_rfl) hG (Nat.le_of_ble_eq_true rfl) (by kernel_rfl) (by decide) (fun _ _ => .v _) ?_
  rintro ⟨h, w, ⟨⟩⟩ hpre
  by_cases h0s : szHs h 1048576 < 0
  · simp -implicitDefEqProofs only [Tryz.f5, decide_eq_true h0s, go_sem, hh]
    repeat' (first | with_reducible apply And.intro | with_reducible intro _ | ((first | apply brB_split | apply aPickB_split | apply gB_split | apply adB_split) <;> intro hb <;> simp -implicitDefEqProofs only [hb, go_sem, hh] <;> try simp only [qz] at hb))
    all_goals first | rfl | omega | skip
  · have d0s := decide_eq_false h0s
    have ho0 := szHs_ok h 1048576 (by omega) (by omega) (by omega)
    have hz0 := szHs_le h 1048576
    have hk0 := fHs_few h 1048576 1 (by omega)
    have hn0 := fHs_inc h 1
    obtain ⟨r0, hr⟩ : ∃ x, x = HKeep h w := ⟨_, rfl⟩
    have hq := HKeep_f (h := h) (w := w)
    rw [← hr] at hq
    have hr' := hr.symm
    have hmr0 : hHs (nHs r0 1) 1 = fHs r0 1 := hHs_n r0 1 (by decide)
    have hir0 : fHs (nHs r0 1) 1 = fHs r0 1 := by unfold fHs nHs; simp only [eS_idem mStr_idem, eS_idem mWy_idem, eS_idem mIm_idem, eS_idem mBx_idem, eS_idem mLs_idem]
    have hpr0 := fHs_inc r0 1
    simp only [nHs] at hmr0 hir0
    simp -implicitDefEqProofs only [Tryz.f5, d0s, go_sem, hr', hmr0, hir0, hh]
    repeat' (first | with_reducible apply And.intro | with_reducible intro _ | ((first | apply brB_split | apply aPickB_split | apply gB_split | apply adB_split) <;> intro hb <;> simp -implicitDefEqProofs only [hb, go_sem, hr', hmr0, hir0, hh] <;> try simp only [qz] at hb))
    all_goals first | rfl | omega | with_reducible assumption | exact absurd rfl (by assumption) | (simp at *; done) | trace_state
end
end Go.V
namespace Go.V
open Go Go.Proofs Go.ChangeShapes Go.WideShapes Go.ChangeAt Go.RowKit
set_option maxRecDepth 100000
section
variable {H : Type} {enc : TypeId × Value → H} {W : World} {P : Program}
def pW (W : World) : Nat → Prop := fun b => b < W.heap.size
def Rd (P : Program) (W : World) (enc : TypeId × Value → H) (t : TypeId) (q : List T → Prop) : Prop :=
  ∀ (n : Nat) (cs : List Value) (x : DataW H × List MemPlace), DataW.trod enc P W 0 (fun _ => true) true n t cs = some x → ∃ ts, q ts ∧ RoL W (pW W) ts cs
theorem Rd.str {t : TypeId} (u : P.underlying t = some .string) : Rd P W enc t fun ts => ∃ s, ts = [.v (.string s)] := fun n cs x h => by
  obtain ⟨s, rfl, _, hs⟩ := DataW.trod_string u h
  exact ⟨_, ⟨s, rfl⟩, .cons _ _ _ _ (.v _ hs) .nil⟩
theorem Rd.int {t : TypeId} (u : P.underlying t = some (.int .i64)) : Rd P W enc t fun ts => ∃ k, ts = [.v (.int .i64 k)] := fun n cs x h => by
  obtain ⟨k, rfl, _, hs⟩ := DataW.trod_int u h
  exact ⟨_, ⟨k, rfl⟩, .cons _ _ _ _ (.v _ trivial) .nil⟩
theorem fieldAt {fs : Array Field} {l : List (TypeId × Nat)} (hl : (fs.toList.map fun f => (f.type, f.offset)) = l) {i : Nat} {t : TypeId} {o : Nat} (hi : l[i]? = some (t, o)) : ∃ f, fs[i]? = some f ∧ f.type = t ∧ f.offset = o := by
  rw [← hl, List.getElem?_map] at hi
  cases hf : fs.toList[i]? with
  | none => rw [hf] at hi; cases hi
  | some f =>
    rw [hf] at hi
    simp only [Option.map_some, Option.some.injEq, Prod.mk.injEq] at hi
    exact ⟨f, by rw [← Array.getElem?_toList]; exact hf, hi.1, hi.2⟩
theorem Rd.field {t : TypeId} {fs : Array Field} (u : P.underlying t = some (.struct fs)) {n : Nat} {cs : List Value} {x : DataW H × List MemPlace} (h : DataW.trod enc P W 0 (fun _ => true) true n t cs = some x)
    {l : List (TypeId × Nat)} (hl : (fs.toList.map fun f => (f.type, f.offset)) = l) {i : Nat} {ft : TypeId} {o k : Nat} (hi : l[i]? = some (ft, o)) (hk : P.cellsOf ft = k) {q : List T → Prop} (hr : Rd P W enc ft q) :
    ∃ ts, q ts ∧ RoL W (pW W) ts ((cs.drop o).take k) := by
  obtain ⟨xs, m, rfl, _, _, hxs, hf⟩ := DataW.trod_struct u h
  obtain ⟨f, h1, h2, h3⟩ := fieldAt hl hi
  have h4 := hf i f h1
  rw [h2, h3, hk] at h4
  have hlt : i < xs.length := by
    rw [hxs]
    exact (Array.getElem?_eq_some_iff.1 h1).1
  rw [List.getElem?_eq_getElem hlt] at h4
  exact hr _ _ _ h4
theorem Rd.len {t : TypeId} {fs : Array Field} (u : P.underlying t = some (.struct fs)) {n : Nat} {cs : List Value} {x : DataW H × List MemPlace} (h : DataW.trod enc P W 0 (fun _ => true) true n t cs = some x) : cs.length = P.cellsOf t := by
  obtain ⟨xs, m, rfl, _, h3, _, _⟩ := DataW.trod_struct u h
  exact h3
theorem Rd.slice {α : Type} (E : Enc α) {t e : TypeId} (u : P.underlying t = some (.slice e)) (hn : P.cellsOf e = E.n) (h0 : 0 < E.n) (he : Rd P W enc e fun ts => ∃ a, ts = E.enc a) :
    Rd P W enc t fun ts => ∃ xs : List α, ts = [.sl E.n (xs.map E.enc)] := fun n cs x h => by
  rcases DataW.trod_slice u h with ⟨rfl, _⟩ | ⟨a, len, cap, elems, rest, m, rfl, rfl, _, _, hlc, hcm, hel, hes, _⟩
  · exact ⟨_, ⟨[], rfl⟩, .cons _ _ _ _ (.nil _) .nil⟩
  · rw [hn] at hes
    have key : ∀ k, k ≤ len → ∃ (xs : List α) (vs : List Value), xs.length = k ∧ vs.length = k * E.n ∧ RoL W (pW W) (xs.map E.enc).flatten vs ∧ (0 < k → a.block < W.heap.size) ∧ ∀ j v, vs[j]? = some v → W.cell? (a.add j) = some v := fun k => by
      induction k with
      | zero => exact fun _ => ⟨[], [], rfl, by simp, .nil, fun h => absurd h (Nat.lt_irrefl _), fun j v hj => by simp at hj⟩
      | succ k ih =>
        intro hk
        obtain ⟨xs, vs, h1, h2, h3, h4, h5⟩ := ih (by omega)
        have h6 := hes k (by omega)
        rw [List.getElem?_eq_getElem (by omega)] at h6
        obtain ⟨cs, h7, h8⟩ := Option.bind_eq_some_iff.1 h6
        obtain ⟨ts, ⟨y, rfl⟩, h9⟩ := he _ _ _ h8
        obtain ⟨q1, q2, q3⟩ := World.cells?_some h7
        have hb : a.block < W.heap.size := by
          have := World.cells?_block h7 h0
          rwa [block_add] at this
        refine ⟨xs ++ [y], vs ++ cs, by simp [h1], ?_, ?_, fun _ => hb, fun j v hj => ?_⟩
        · have : cs.length = E.n := by rw [← h9.len, E.len]
          rw [List.length_append, h2, this, Nat.succ_mul]
        · rw [List.map_append, List.flatten_append]
          exact h3.append (by simpa using h9)
        · by_cases hj2 : j < vs.length
          · rw [List.getElem?_append_left hj2] at hj
            exact h5 j v hj
          · rw [List.getElem?_append_right (by omega)] at hj
            have hjl : j - vs.length < E.n := by
              have := (List.getElem?_eq_some_iff.1 hj).1
              have h10 : cs.length = E.n := by rw [← h9.len, E.len]
              omega
            have := q3 (j - vs.length) hjl
            rw [add_add'] at this
            rw [show j = k * E.n + (j - vs.length) from by omega, this]
            exact hj
    obtain ⟨xs, vs, h1, h2, h3, h4, h5⟩ := key len (Nat.le_refl _)
    refine ⟨_, ⟨xs, rfl⟩, .cons _ _ _ _ (.sl E.n _ a len cap vs (by simp [h1]) hlc hcm (fun hne => ?_) (fun c hc => ?_) h5 h3) .nil⟩
    · refine h4 ?_
      rcases Nat.eq_zero_or_pos len with h | h
      · exact absurd (by rw [List.eq_nil_of_length_eq_zero (h1.trans h)]; rfl) hne
      · exact h
    · obtain ⟨y, _, rfl⟩ := List.mem_map.1 hc
      exact E.len y
theorem RoL.cut {W : World} {pr : Nat → Prop} {ts ts' : List T} {cs : List Value} (o k : Nat) (h1 : RoL W pr ts ((cs.drop o).take k)) (h2 : RoL W pr ts' (cs.drop (o + k))) : RoL W pr (ts ++ ts') (cs.drop o) := by
  have e : cs.drop o = (cs.drop o).take k ++ cs.drop (o + k) := by rw [← List.drop_drop, List.take_append_drop]
  rw [e]
  exact h1.append h2
theorem RoL.stop {W : World} {pr : Nat → Prop} {cs : List Value} {n : Nat} (h : cs.length = n) : RoL W pr [] (cs.drop n) := by
  rw [List.drop_of_length_le (by omega)]
  exact .nil
end
end Go.V
namespace Go.Proofs.YtakcecnegfihkaaGreatDoor
open Go Go.Proofs Go.ChangeShapes Go.WideShapes Go.ChangeAt Go.RowKit
set_option maxRecDepth 100000
theorem own : ownKnob Tryz.prog.godebug = none := by kernel_rfl
def flatD : Nat → DataW Unit → List Value
  | 0, _ => []
  | _ + 1, .lit (.int k v) => [.int k v]
  | n + 1, .agg xs => xs.flatMap (flatD n)
  | _ + 1, _ => []
noncomputable def gOf (n : String) : Nat := (Tryz.prog.globalNamed n).getD 0
noncomputable def layAt (n : String) (d : DataW Unit) (h : Array Obj) : Array Obj := h.modify (gOf n) fun
  | .cells _ t frozen => .cells (flatD 5 d).toArray t frozen
  | o => o
noncomputable def laidWorld (os : Os) : World :=
  { World.holding Tryz.prog os ⟨#[], #[], []⟩ with heap := layAt "unicode/utf8.first" Rows.laid_unicode_utf8_first (layAt "unicode/utf8.acceptRanges" Rows.laid_unicode_utf8_acceptRanges (World.holding Tryz.prog os ⟨#[], #[], []⟩).heap) }
noncomputable def args0 : Array Value := #[.agg #[.string ⟨#[]⟩, .slice none 0 0, .slice none 0 0, .int .i64 0, .slice none 0 0, .slice none 0 0, .slice none 0 0], .int .i64 0]
theorem laid_met (os : Os) : laidMet Tryz.prog Rows.fnExactHostKeepRow.laid ((laidWorld os).forCall (fun _ _ => 0) ⟨#[], args0, []⟩).memory :=
  laidMet_of_run' 8 (by kernel_rfl) (by kernel_rfl)
theorem reads (os : Os) {H : Type} (enc : TypeId × Value → H) : ∃ places, DataW.whole enc Tryz.prog ((laidWorld os).forCall (fun _ _ => 0) ⟨#[], args0, []⟩).memory Tryz.f5.params.toList Rows.fnExactHostKeepSpec.vars false args0.toList 8 = some ([.agg [.agg [.lit (.string []), .nil, .nil], .agg [.lit (.int .i64 0), .nil], .nil, .nil], .lit (.int .i64 0)], [], places) :=
  ⟨[], by kernel_rfl⟩
theorem func5 : Tryz.prog.funcs[5]? = some Tryz.f5 := by kernel_rfl
def Every : Prop := ∀ (H : Type) (enc : TypeId × Value → H) (W : World) (base : Nat) (args : Array Value) (ds gs : List (DataW H)) (before : List MemPlace)
    (_ : ∀ (j : Nat) t v, Tryz.f5.params[j]? = some t → args[j]? = some v → Value.okWide Tryz.prog W .any base t v)
    (_ : DataW.Whole enc Tryz.prog Tryz.f5.params.toList Rows.fnExactHostKeepSpec.vars false W args.toList ds gs before) (_ : W.ShapedOpen Tryz.prog),
    Calls Tryz.prog 5 args W fun e W' => ∃ v, e = .returned v ∧ Rows.fnExactHostKeepSpec.post enc Tryz.prog Tryz.f5 false true false false W args v W'
theorem lifted (hE : Every) (os : Os) (started : os.Started) (H : Type) (enc : TypeId × Value → H) (F : Stop.Interp) :
    ReturnsInHanded {} Tryz.checked os 5 .any ((OpenSpec.ofChange Rows.fnExactHostKeepSpec).preRow enc Tryz.prog Tryz.f5 Rows.fnExactHostKeepRow.domain false Rows.fnExactHostKeepRow.laid) (((OpenSpec.ofChange Rows.fnExactHostKeepSpec).at F).post enc Tryz.prog Tryz.f5 false true false false) := by
  obtain ⟨places, hx⟩ := reads os enc
  refine returnsInHanded_of_row (C := Tryz.checked) (s := OpenSpec.ofChange Rows.fnExactHostKeepSpec) own started (by kernel_rfl) func5
    (witness_row_at (enc := enc) (C := Tryz.checked) false (laidWorld os) args0 rfl (by kernel_rfl) (by kernel_rfl) (by kernel_rfl)
      (OpenSpec.preRow_of_cond 8 hx (by kernel_rfl) (fun k hk => by cases hk) (by kernel_rfl) (laid_met os))) ?_
  intro W base args ds gs before hval hW _ _ _ _ hS _
  exact hE H enc W base args ds gs before hval hW hS
theorem said (hE : Every) : Rows.FnExactHostKeepSaid :=
  OpenClaim.holds_of_cond 5 Tryz.f5 rfl rfl rfl rfl rfl rfl rfl ⟨rfl, rfl, rfl, rfl, rfl⟩ rfl rfl rfl rfl rfl (by kernel_rfl) func5 (by kernel_rfl)
    (of_decide_eq_true (by kernel_rfl)) (by unfold Func.isWrapper; first | (rw [if_pos (by decide +kernel)]; kernel_rfl) | (rw [if_neg (by decide +kernel)]; exact ⟨rfl, rfl⟩))
    (fun os started H enc _ F => by rw [OpenClaim.pre_eq_preRow]; exact lifted hE os started H enc F)
theorem params5 : Tryz.f5.params = #[32, 3] := rfl
theorem plain (f : FuncId) (fn : Func) (hf : Tryz.pinned.checked.prog.funcNamed "loop.example/satchel/laws.FnExactHostKeep" = some f) (hfn : Tryz.pinned.checked.prog.funcs[f]? = some fn) :
    false = Tryz.pinned.checked.prog.looks [] ∧ ∀ (j : Nat) t, fn.params[j]? = some t → Tryz.pinned.checked.prog.wantsStandIn t = false := by
  obtain rfl : f = 5 := Option.some.inj ((show Tryz.prog.funcNamed "loop.example/satchel/laws.FnExactHostKeep" = some 5 by kernel_rfl).symm.trans hf) |>.symm
  obtain rfl : fn = Tryz.f5 := (Option.some.inj (func5.symm.trans hfn)).symm
  refine ⟨by kernel_rfl, fun j t ht => ?_⟩
  rw [params5] at ht
  have hm : t ∈ [32, 3] := by simpa using Array.mem_of_getElem? ht
  have hall : ([32, 3].all fun u => !Tryz.prog.wantsStandIn u) = true := by kernel_rfl
  exact (show Tryz.prog.wantsStandIn t = false by simpa using List.all_eq_true.1 hall t hm)
theorem card_of (hE : Every) : Rows.FnExactHostKeepCardSaid :=
  Claim7.holds_tied_plain_at .later [] _ _ _ _ (said hE) (fun _ h => by cases h) (by kernel_rfl) (fun _ h => by cases h) fnExactHostKeep_row_tie rfl ⟨rfl, rfl⟩ (by kernel_rfl) rfl plain (by kernel_rfl)
end Go.Proofs.YtakcecnegfihkaaGreatDoor
namespace Go.V
open Go Go.Proofs Go.ChangeShapes Go.WideShapes Go.ChangeAt Go.RowKit
set_option maxRecDepth 100000
set_option linter.unusedVariables false
set_option maxHeartbeats 4000000 in
theorem con5 (m : Int) (h : Hs) (w : Int) : Con Tryz.prog m 5 ((lc EHs.ag (lc AInt l0)).enc (h, w, ())) ((lc EHs.ag (lc AInt l0)).enc (h, w, ())) (.t (.v (.bool true))) := by
  have g0 : GOk Tryz.prog (Gof m []) ∧ GDet (Gof m []) := GOk_nil
  have g1 := GOk_cons g0 (good17 g0)
  have g2 := GOk_cons g1 (good28 g1)
  have g3 := GOk_cons g2 (good194 g2 ⟨rfl, rfl⟩)
  have g4 := GOk_cons g3 (good153 g3 rfl)
  have g5 := GOk_cons g4 (good81 g4 ⟨rfl, rfl⟩)
  have g6 := GOk_cons g5 (good25 g5 rfl)
  have g7 := GOk_cons g6 (good151 g6)
  have g8 := GOk_cons g7 (good79 g7 rfl)
  have g9 := GOk_cons g8 (good23 g8 ⟨rfl, rfl⟩)
  have g10 := GOk_cons g9 (good82 g9 rfl)
  have g11 := GOk_cons g10 (good26 g10 rfl)
  have g12 := GOk_cons g11 (good211 g11 rfl)
  have g13 := GOk_cons g12 (good193 g12 rfl)
  have g14 := GOk_cons g13 (good152 g13 ⟨rfl, rfl, rfl⟩)
  have g15 := GOk_cons g14 (good80 g14 rfl)
  have g16 := GOk_cons g15 (good24 g15 rfl)
  have g17 := GOk_cons g16 (good6 g16 ⟨rfl, rfl, rfl, rfl⟩)
  have g18 := GOk_cons g17 (good19 g17)
  have g19 := GOk_cons g18 (good40 g18)
  have g20 := GOk_cons g19 (good198 g19 ⟨rfl, rfl⟩)
  have g21 := GOk_cons g20 (good162 g20 rfl)
  have g22 := GOk_cons g21 (good100 g21 ⟨rfl, rfl⟩)
  have g23 := GOk_cons g22 (good37 g22 rfl)
  have g24 := GOk_cons g23 (good160 g23)
  have g25 := GOk_cons g24 (good98 g24 rfl)
  have g26 := GOk_cons g25 (good35 g25 ⟨rfl, rfl⟩)
  have g27 := GOk_cons g26 (good101 g26 rfl)
  have g28 := GOk_cons g27 (good38 g27 rfl)
  have g29 := GOk_cons g28 (good212 g28 rfl)
  have g30 := GOk_cons g29 (good197 g29 rfl)
  have g31 := GOk_cons g30 (good161 g30 ⟨rfl, rfl, rfl⟩)
  have g32 := GOk_cons g31 (good99 g31 rfl)
  have g33 := GOk_cons g32 (good36 g32 rfl)
  have g34 := GOk_cons g33 (good9 g33 ⟨rfl, rfl, rfl, rfl⟩)
  have g35 := GOk_cons g34 (good53 g34)
  have g36 := GOk_cons g35 (good55 g35)
  have g37 := GOk_cons g36 (good207 g36 ⟨rfl, rfl⟩)
  have g38 := GOk_cons g37 (good183 g37 rfl)
  have g39 := GOk_cons g38 (good123 g38 ⟨rfl, rfl⟩)
  have g40 := GOk_cons g39 (good51 g39 rfl)
  have g41 := GOk_cons g40 (good181 g40)
  have g42 := GOk_cons g41 (good121 g41 rfl)
  have g43 := GOk_cons g42 (good49 g42 ⟨rfl, rfl⟩)
  have g44 := GOk_cons g43 (good124 g43 rfl)
  have g45 := GOk_cons g44 (good52 g44 rfl)
  have g46 := GOk_cons g45 (good225 g45 rfl)
  have g47 := GOk_cons g46 (good206 g46 rfl)
  have g48 := GOk_cons g47 (good182 g47 ⟨rfl, rfl, rfl⟩)
  have g49 := GOk_cons g48 (good122 g48 rfl)
  have g50 := GOk_cons g49 (good50 g49 rfl)
  have g51 := GOk_cons g50 (good12 g50 ⟨rfl, rfl, rfl, rfl⟩)
  have g52 := GOk_cons g51 (good127 g51)
  have g53 := GOk_cons g52 (good61 g52 rfl)
  have g54 := GOk_cons g53 (good128 g53 ⟨rfl, rfl⟩)
  have g55 := GOk_cons g54 (good58 g54 ⟨rfl, rfl⟩)
  have g56 := GOk_cons g55 (good125 g55 rfl)
  have g57 := GOk_cons g56 (good56 g56 ⟨rfl, rfl⟩)
  have g58 := GOk_cons g57 (good59 g57 rfl)
  have g59 := GOk_cons g58 (good184 g58 rfl)
  have g60 := GOk_cons g59 (good126 g59 ⟨rfl, rfl, rfl⟩)
  have g61 := GOk_cons g60 (good57 g60 rfl)
  have g62 := GOk_cons g61 (good14 g61 ⟨rfl, rfl, rfl, rfl⟩)
  have g63 := GOk_cons g62 (good129 g62 rfl)
  have g64 := GOk_cons g63 (good132 g63 ⟨rfl, rfl⟩)
  have g65 := GOk_cons g64 (good64 g64 ⟨rfl, rfl⟩)
  have g66 := GOk_cons g65 (good130 g65 rfl)
  have g67 := GOk_cons g66 (good62 g66 ⟨rfl, rfl⟩)
  have g68 := GOk_cons g67 (good65 g67 rfl)
  have g69 := GOk_cons g68 (good185 g68 rfl)
  have g70 := GOk_cons g69 (good131 g69 ⟨rfl, rfl, rfl⟩)
  have g71 := GOk_cons g70 (good63 g70 rfl)
  have g72 := GOk_cons g71 (good16 g71 ⟨rfl, rfl, rfl, rfl⟩)
  have g73 := GOk_cons g72 (good158 g72)
  have g74 := GOk_cons g73 (good92 g73 rfl)
  have g75 := GOk_cons g74 (good32 g74)
  have g76 := GOk_cons g75 (good157 g75 rfl)
  have g77 := GOk_cons g76 (good195 g76)
  have g78 := GOk_cons g77 (good154 g77 ⟨rfl, rfl⟩)
  have g79 := GOk_cons g78 (good90 g78 ⟨rfl, rfl⟩)
  have g80 := GOk_cons g79 (good91 g79)
  have g81 := GOk_cons g80 (good83 g80 ⟨rfl, rfl, rfl⟩)
  have g82 := GOk_cons g81 (good84 g81)
  have g83 := GOk_cons g82 (good85 g82)
  have g84 := GOk_cons g83 (good86 g83 rfl)
  have g85 := GOk_cons g84 (good196 g84 ⟨rfl, rfl⟩)
  have g86 := GOk_cons g85 (good155 g85 ⟨rfl, rfl, rfl, rfl, rfl⟩)
  have g87 := GOk_cons g86 (good87 g86 ⟨rfl, rfl⟩)
  have g88 := GOk_cons g87 (good29 g87 ⟨rfl, rfl, rfl, rfl, rfl⟩)
  have g89 := GOk_cons g88 (good88 g88)
  have g90 := GOk_cons g89 (good156 g89)
  have g91 := GOk_cons g90 (good89 g90 rfl)
  have g92 := GOk_cons g91 (good30 g91 ⟨rfl, rfl⟩)
  have g93 := GOk_cons g92 (good159 g92)
  have g94 := GOk_cons g93 (good93 g93 rfl)
  have g95 := GOk_cons g94 (good145 g94 ⟨rfl, rfl⟩)
  have g96 := GOk_cons g95 (good146 g95 rfl)
  have g97 := GOk_cons g96 (good66 g96)
  have g98 := GOk_cons g97 (good67 g97)
  have g99 := GOk_cons g98 (good133 g98 rfl)
  have g100 := GOk_cons g99 (good186 g99)
  have g101 := GOk_cons g100 (good134 g100 ⟨rfl, rfl⟩)
  have g102 := GOk_cons g101 (good94 g101)
  have g103 := GOk_cons g102 (good187 g102)
  have g104 := GOk_cons g103 (good208 g103 rfl)
  have g105 := GOk_cons g104 (good188 g104 ⟨rfl, rfl⟩)
  have g106 := GOk_cons g105 (good97 g105)
  have g107 := GOk_cons g106 (good135 g106 ⟨rfl, rfl, rfl, rfl, rfl, rfl⟩)
  have g108 := GOk_cons g107 (good68 g107 ⟨rfl, rfl, rfl, rfl, rfl⟩)
  have g109 := GOk_cons g108 (good75 g108 ⟨rfl, rfl, rfl⟩)
  have g110 := GOk_cons g109 (good21 g109 ⟨rfl, rfl, rfl⟩)
  have g111 := GOk_consX g110 (good232 m)
  have g112 := GOk_cons g111 (good223 g111 rfl)
  have g113 := GOk_consX g112 (good243 m)
  have g114 := GOk_cons g113 (good237 g113 rfl)
  have g115 := GOk_consX g114 (good238 m)
  have g116 := GOk_cons g115 (good239 g115)
  have g117 := GOk_cons g116 (good244 g116)
  have g118 := GOk_cons g117 (good240 g117 rfl)
  have g119 := GOk_cons g118 (good233 g118 ⟨rfl, rfl, rfl, rfl⟩)
  have g120 := GOk_cons g119 (good224 g119 rfl)
  have g121 := GOk_cons g120 (good205 g120 ⟨rfl, rfl⟩)
  have g122 := GOk_cons g121 (good179 g121 rfl)
  have g123 := GOk_cons g122 (good70 g122)
  have g124 := GOk_cons g123 (good215 g123)
  have g125 := GOk_cons g124 (good227 g124)
  have g126 := GOk_cons g125 (good216 g125 rfl)
  have g127 := GOk_cons g126 (good217 g126 rfl)
  have g128 := GOk_cons g127 (good201 g127 ⟨rfl, rfl, rfl⟩)
  have g129 := GOk_cons g128 (good171 g128 ⟨rfl, rfl⟩)
  have g130 := GOk_cons g129 (good118 g129 ⟨rfl, rfl⟩)
  have g131 := GOk_cons g130 (good170 g130)
  have g132 := GOk_cons g131 (good169 g131 rfl)
  have g133 := GOk_cons g132 (good163 g132 rfl)
  have g134 := GOk_cons g133 (good199 g133 ⟨rfl, rfl⟩)
  have g135 := GOk_cons g134 (good165 g134 rfl)
  have g136 := GOk_cons g135 (good164 g135 rfl)
  have g137 := GOk_cons g136 (good200 g136 rfl)
  have g138 := GOk_cons g137 (good166 g137 rfl)
  have g139 := GOk_cons g138 (good102 g138 ⟨rfl, rfl, rfl⟩)
  have g140 := GOk_cons g139 (good107 g139 ⟨rfl, rfl⟩)
  have g141 := GOk_cons g140 (good71 g140 rfl)
  have g142 := GOk_cons g141 (good168 g141)
  have g143 := GOk_cons g142 (good105 g142 ⟨rfl, rfl⟩)
  have g144 := GOk_cons g143 (good116 g143)
  have g145 := GOk_cons g144 (good106 g144 rfl)
  have g146 := GOk_cons g145 (good167 g145 ⟨rfl, rfl, rfl, rfl, rfl, rfl⟩)
  have g147 := GOk_cons g146 (good103 g146 ⟨rfl, rfl⟩)
  have g148 := GOk_cons g147 (good202 g147)
  have g149 := GOk_cons g148 (good172 g148 rfl)
  have g150 := GOk_cons g149 (good108 g149 rfl)
  have g151 := GOk_cons g150 (good104 g150 ⟨rfl, rfl⟩)
  have g152 := GOk_cons g151 (good173 g151 rfl)
  have g153 := GOk_cons g152 (good109 g152 rfl)
  have g154 := GOk_consX g153 (good220 m)
  have g155 := GOk_cons g154 (good203 g154 rfl)
  have g156 := GOk_cons g155 (good175 g155 rfl)
  have g157 := GOk_cons g156 (good174 g156)
  have g158 := GOk_cons g157 (good110 g157 ⟨rfl, rfl⟩)
  have g159 := GOk_cons g158 (good41 g158 ⟨rfl, rfl, rfl, rfl, rfl, rfl⟩)
  have g160 := GOk_cons g159 (good78 g159)
  have g161 := GOk_cons g160 (good176 g160)
  have g162 := GOk_cons g161 (good111 g161 ⟨rfl, rfl⟩)
  have g163 := GOk_cons g162 (good177 g162)
  have g164 := GOk_cons g163 (good112 g163 ⟨rfl, rfl⟩)
  have g165 := GOk_cons g164 (good113 g164)
  have g166 := GOk_cons g165 (good42 g165 ⟨rfl, rfl, rfl, rfl⟩)
  have g167 := GOk_cons g166 (good137 g166)
  have g168 := GOk_cons g167 (good147 g167)
  have g169 := GOk_cons g168 (good136 g168 ⟨rfl, rfl⟩)
  have g170 := GOk_cons g169 (good221 g169)
  have g171 := GOk_cons g170 (good204 g170 rfl)
  have g172 := GOk_cons g171 (good178 g171 ⟨rfl, rfl⟩)
  have g173 := GOk_cons g172 (good114 g172 ⟨rfl, rfl⟩)
  have g174 := GOk_cons g173 (good76 g173 ⟨rfl, rfl, rfl, rfl, rfl, rfl⟩)
  have g175 := GOk_cons g174 (good149 g174 rfl)
  have g176 := GOk_cons g175 (good148 g175 rfl)
  have g177 := GOk_cons g176 (good150 g176)
  have g178 := GOk_cons g177 (good77 g177 ⟨rfl, rfl⟩)
  have g179 := GOk_cons g178 (good139 g178)
  have g180 := GOk_cons g179 (good138 g179 rfl)
  have g181 := GOk_cons g180 (good69 g180 ⟨rfl, rfl⟩)
  have g182 := GOk_cons g181 (good140 g181)
  have g183 := GOk_cons g182 (good141 g182)
  have g184 := GOk_cons g183 (good72 g183 ⟨rfl, rfl, rfl, rfl, rfl⟩)
  have g185 := GOk_cons g184 (good22 g184 ⟨rfl, rfl, rfl, rfl, rfl, rfl⟩)
  have hg := good5 g185 ⟨rfl, rfl, rfl, rfl, rfl, rfl, rfl⟩
  obtain ⟨res, h1, _, h3, _⟩ := hg.ro ((lc EHs.ag (lc AInt l0)).enc (h, w, ())) (fun r => r = .t (.v (.bool true))) (by
    show c5 _ _
    rw [c5, ctR_eq, (lc EHs.ag (lc AInt l0)).ed]
    exact ⟨trivial, rfl⟩)
  rw [h1] at h3
  exact h3
section
variable {H : Type} {enc : TypeId × Value → H} {W : World}
noncomputable def fsOf (t : TypeId) : Array Field := match Tryz.prog.underlying t with | some (.struct fs) => fs | _ => #[]
theorem v9 : Tryz.prog.underlying 9 = some .string := by kernel_rfl
theorem w9 : Tryz.prog.cellsOf 9 = 1 := by kernel_rfl
theorem rdStr : Rd Tryz.prog W enc 9 fun ts => ∃ a, ts = EStr.enc a := fun n cs x h => Rd.str v9 n cs x h
theorem v22 : Tryz.prog.underlying 22 = some (.slice 9) := by kernel_rfl
theorem w22 : Tryz.prog.cellsOf 22 = 1 := by kernel_rfl
theorem v192 : Tryz.prog.underlying 192 = some (.struct (fsOf 192)) := by kernel_rfl
theorem l192 : ((fsOf 192).toList.map fun f => (f.type, f.offset)) = [(9, 0), (9, 1)] := by kernel_rfl
theorem w192 : Tryz.prog.cellsOf 192 = 2 := by kernel_rfl
theorem rdWy : Rd Tryz.prog W enc 192 fun ts => ∃ a, ts = EWy.enc a := fun n cs x h => by
  have hl := Rd.len v192 h
  rw [w192] at hl
  obtain ⟨_, ⟨a0, rfl⟩, h0⟩ := Rd.field v192 h l192 (i := 0) rfl w9 (Rd.str v9)
  obtain ⟨_, ⟨a1, rfl⟩, h1⟩ := Rd.field v192 h l192 (i := 1) rfl w9 (Rd.str v9)
  exact ⟨_, ⟨⟨a0, a1⟩, rfl⟩, (RoL.cut 0 1 h0 (RoL.cut 1 1 h1 (RoL.stop hl)))⟩
theorem v23 : Tryz.prog.underlying 23 = some (.slice 192) := by kernel_rfl
theorem w23 : Tryz.prog.cellsOf 23 = 1 := by kernel_rfl
theorem v25 : Tryz.prog.underlying 25 = some (.struct (fsOf 25)) := by kernel_rfl
theorem l25 : ((fsOf 25).toList.map fun f => (f.type, f.offset)) = [(9, 0), (22, 1), (23, 2)] := by kernel_rfl
theorem w25 : Tryz.prog.cellsOf 25 = 3 := by kernel_rfl
theorem rdCf : Rd Tryz.prog W enc 25 fun ts => ∃ a, ts = ECf.enc a := fun n cs x h => by
  have hl := Rd.len v25 h
  rw [w25] at hl
  obtain ⟨_, ⟨a0, rfl⟩, h0⟩ := Rd.field v25 h l25 (i := 0) rfl w9 (Rd.str v9)
  obtain ⟨_, ⟨a1, rfl⟩, h1⟩ := Rd.field v25 h l25 (i := 1) rfl w22 (Rd.slice EStr v22 w9 (by decide) rdStr)
  obtain ⟨_, ⟨a2, rfl⟩, h2⟩ := Rd.field v25 h l25 (i := 2) rfl w23 (Rd.slice EWy v23 w192 (by decide) rdWy)
  exact ⟨_, ⟨⟨a0, a1, a2⟩, rfl⟩, (RoL.cut 0 1 h0 (RoL.cut 1 1 h1 (RoL.cut 2 1 h2 (RoL.stop hl))))⟩
theorem v3 : Tryz.prog.underlying 3 = some (.int .i64) := by kernel_rfl
theorem w3 : Tryz.prog.cellsOf 3 = 1 := by kernel_rfl
theorem rdInt : Rd Tryz.prog W enc 3 fun ts => ∃ a, ts = EInt.enc a := fun n cs x h => Rd.int v3 n cs x h
theorem v34 : Tryz.prog.underlying 34 = some (.struct (fsOf 34)) := by kernel_rfl
theorem l34 : ((fsOf 34).toList.map fun f => (f.type, f.offset)) = [(9, 0), (9, 1)] := by kernel_rfl
theorem w34 : Tryz.prog.cellsOf 34 = 2 := by kernel_rfl
theorem rdAd : Rd Tryz.prog W enc 34 fun ts => ∃ a, ts = EAd.enc a := fun n cs x h => by
  have hl := Rd.len v34 h
  rw [w34] at hl
  obtain ⟨_, ⟨a0, rfl⟩, h0⟩ := Rd.field v34 h l34 (i := 0) rfl w9 (Rd.str v9)
  obtain ⟨_, ⟨a1, rfl⟩, h1⟩ := Rd.field v34 h l34 (i := 1) rfl w9 (Rd.str v9)
  exact ⟨_, ⟨⟨a0, a1⟩, rfl⟩, (RoL.cut 0 1 h0 (RoL.cut 1 1 h1 (RoL.stop hl)))⟩
theorem v244 : Tryz.prog.underlying 244 = some (.struct (fsOf 244)) := by kernel_rfl
theorem l244 : ((fsOf 244).toList.map fun f => (f.type, f.offset)) = [(34, 0), (3, 2), (3, 3)] := by kernel_rfl
theorem w244 : Tryz.prog.cellsOf 244 = 4 := by kernel_rfl
theorem rdRc : Rd Tryz.prog W enc 244 fun ts => ∃ a, ts = ERc.enc a := fun n cs x h => by
  have hl := Rd.len v244 h
  rw [w244] at hl
  obtain ⟨_, ⟨a0, rfl⟩, h0⟩ := Rd.field v244 h l244 (i := 0) rfl w34 (rdAd)
  obtain ⟨_, ⟨a1, rfl⟩, h1⟩ := Rd.field v244 h l244 (i := 1) rfl w3 (Rd.int v3)
  obtain ⟨_, ⟨a2, rfl⟩, h2⟩ := Rd.field v244 h l244 (i := 2) rfl w3 (Rd.int v3)
  exact ⟨_, ⟨⟨a0, a1, a2⟩, rfl⟩, (RoL.cut 0 2 h0 (RoL.cut 2 1 h1 (RoL.cut 3 1 h2 (RoL.stop hl))))⟩
theorem v194 : Tryz.prog.underlying 194 = some (.slice 244) := by kernel_rfl
theorem w194 : Tryz.prog.cellsOf 194 = 1 := by kernel_rfl
theorem v196 : Tryz.prog.underlying 196 = some (.struct (fsOf 196)) := by kernel_rfl
theorem l196 : ((fsOf 196).toList.map fun f => (f.type, f.offset)) = [(3, 0), (34, 1), (194, 3), (22, 4)] := by kernel_rfl
theorem w196 : Tryz.prog.cellsOf 196 = 5 := by kernel_rfl
theorem rdIm : Rd Tryz.prog W enc 196 fun ts => ∃ a, ts = EIm.enc a := fun n cs x h => by
  have hl := Rd.len v196 h
  rw [w196] at hl
  obtain ⟨_, ⟨a0, rfl⟩, h0⟩ := Rd.field v196 h l196 (i := 0) rfl w3 (Rd.int v3)
  obtain ⟨_, ⟨a1, rfl⟩, h1⟩ := Rd.field v196 h l196 (i := 1) rfl w34 (rdAd)
  obtain ⟨_, ⟨a2, rfl⟩, h2⟩ := Rd.field v196 h l196 (i := 2) rfl w194 (Rd.slice ERc v194 w244 (by decide) rdRc)
  obtain ⟨_, ⟨a3, rfl⟩, h3⟩ := Rd.field v196 h l196 (i := 3) rfl w22 (Rd.slice EStr v22 w9 (by decide) rdStr)
  exact ⟨_, ⟨⟨a0, a1, a2, a3⟩, rfl⟩, (RoL.cut 0 1 h0 (RoL.cut 1 2 h1 (RoL.cut 3 1 h2 (RoL.cut 4 1 h3 (RoL.stop hl)))))⟩
theorem v26 : Tryz.prog.underlying 26 = some (.slice 196) := by kernel_rfl
theorem w26 : Tryz.prog.cellsOf 26 = 1 := by kernel_rfl
theorem v28 : Tryz.prog.underlying 28 = some (.struct (fsOf 28)) := by kernel_rfl
theorem l28 : ((fsOf 28).toList.map fun f => (f.type, f.offset)) = [(3, 0), (26, 1)] := by kernel_rfl
theorem w28 : Tryz.prog.cellsOf 28 = 2 := by kernel_rfl
theorem rdSp : Rd Tryz.prog W enc 28 fun ts => ∃ a, ts = ESp.enc a := fun n cs x h => by
  have hl := Rd.len v28 h
  rw [w28] at hl
  obtain ⟨_, ⟨a0, rfl⟩, h0⟩ := Rd.field v28 h l28 (i := 0) rfl w3 (Rd.int v3)
  obtain ⟨_, ⟨a1, rfl⟩, h1⟩ := Rd.field v28 h l28 (i := 1) rfl w26 (Rd.slice EIm v26 w196 (by decide) rdIm)
  exact ⟨_, ⟨⟨a0, a1⟩, rfl⟩, (RoL.cut 0 1 h0 (RoL.cut 1 1 h1 (RoL.stop hl)))⟩
theorem v229 : Tryz.prog.underlying 229 = some (.struct (fsOf 229)) := by kernel_rfl
theorem l229 : ((fsOf 229).toList.map fun f => (f.type, f.offset)) = [(34, 0), (22, 2)] := by kernel_rfl
theorem w229 : Tryz.prog.cellsOf 229 = 3 := by kernel_rfl
theorem rdGm : Rd Tryz.prog W enc 229 fun ts => ∃ a, ts = EGm.enc a := fun n cs x h => by
  have hl := Rd.len v229 h
  rw [w229] at hl
  obtain ⟨_, ⟨a0, rfl⟩, h0⟩ := Rd.field v229 h l229 (i := 0) rfl w34 (rdAd)
  obtain ⟨_, ⟨a1, rfl⟩, h1⟩ := Rd.field v229 h l229 (i := 1) rfl w22 (Rd.slice EStr v22 w9 (by decide) rdStr)
  exact ⟨_, ⟨⟨a0, a1⟩, rfl⟩, (RoL.cut 0 2 h0 (RoL.cut 2 1 h1 (RoL.stop hl)))⟩
theorem v124 : Tryz.prog.underlying 124 = some (.slice 229) := by kernel_rfl
theorem w124 : Tryz.prog.cellsOf 124 = 1 := by kernel_rfl
theorem v126 : Tryz.prog.underlying 126 = some (.struct (fsOf 126)) := by kernel_rfl
theorem l126 : ((fsOf 126).toList.map fun f => (f.type, f.offset)) = [(34, 0), (124, 2)] := by kernel_rfl
theorem w126 : Tryz.prog.cellsOf 126 = 3 := by kernel_rfl
theorem rdBx : Rd Tryz.prog W enc 126 fun ts => ∃ a, ts = EBx.enc a := fun n cs x h => by
  have hl := Rd.len v126 h
  rw [w126] at hl
  obtain ⟨_, ⟨a0, rfl⟩, h0⟩ := Rd.field v126 h l126 (i := 0) rfl w34 (rdAd)
  obtain ⟨_, ⟨a1, rfl⟩, h1⟩ := Rd.field v126 h l126 (i := 1) rfl w124 (Rd.slice EGm v124 w229 (by decide) rdGm)
  exact ⟨_, ⟨⟨a0, a1⟩, rfl⟩, (RoL.cut 0 2 h0 (RoL.cut 2 1 h1 (RoL.stop hl)))⟩
theorem v29 : Tryz.prog.underlying 29 = some (.slice 126) := by kernel_rfl
theorem w29 : Tryz.prog.cellsOf 29 = 1 := by kernel_rfl
theorem v129 : Tryz.prog.underlying 129 = some (.struct (fsOf 129)) := by kernel_rfl
theorem l129 : ((fsOf 129).toList.map fun f => (f.type, f.offset)) = [(9, 0), (34, 1)] := by kernel_rfl
theorem w129 : Tryz.prog.cellsOf 129 = 3 := by kernel_rfl
theorem rdLs : Rd Tryz.prog W enc 129 fun ts => ∃ a, ts = ELs.enc a := fun n cs x h => by
  have hl := Rd.len v129 h
  rw [w129] at hl
  obtain ⟨_, ⟨a0, rfl⟩, h0⟩ := Rd.field v129 h l129 (i := 0) rfl w9 (Rd.str v9)
  obtain ⟨_, ⟨a1, rfl⟩, h1⟩ := Rd.field v129 h l129 (i := 1) rfl w34 (rdAd)
  exact ⟨_, ⟨⟨a0, a1⟩, rfl⟩, (RoL.cut 0 1 h0 (RoL.cut 1 2 h1 (RoL.stop hl)))⟩
theorem v30 : Tryz.prog.underlying 30 = some (.slice 129) := by kernel_rfl
theorem w30 : Tryz.prog.cellsOf 30 = 1 := by kernel_rfl
theorem v32 : Tryz.prog.underlying 32 = some (.struct (fsOf 32)) := by kernel_rfl
theorem l32 : ((fsOf 32).toList.map fun f => (f.type, f.offset)) = [(25, 0), (28, 3), (29, 5), (30, 6)] := by kernel_rfl
theorem w32 : Tryz.prog.cellsOf 32 = 7 := by kernel_rfl
theorem rdHs : Rd Tryz.prog W enc 32 fun ts => ∃ a, ts = EHs.enc a := fun n cs x h => by
  have hl := Rd.len v32 h
  rw [w32] at hl
  obtain ⟨_, ⟨a0, rfl⟩, h0⟩ := Rd.field v32 h l32 (i := 0) rfl w25 (rdCf)
  obtain ⟨_, ⟨a1, rfl⟩, h1⟩ := Rd.field v32 h l32 (i := 1) rfl w28 (rdSp)
  obtain ⟨_, ⟨a2, rfl⟩, h2⟩ := Rd.field v32 h l32 (i := 2) rfl w29 (Rd.slice EBx v29 w126 (by decide) rdBx)
  obtain ⟨_, ⟨a3, rfl⟩, h3⟩ := Rd.field v32 h l32 (i := 3) rfl w30 (Rd.slice ELs v30 w129 (by decide) rdLs)
  exact ⟨_, ⟨⟨a0, a1, a2, a3⟩, rfl⟩, (RoL.cut 0 3 h0 (RoL.cut 3 2 h1 (RoL.cut 5 1 h2 (RoL.cut 6 1 h3 (RoL.stop hl)))))⟩
theorem glOk_of (h : W.ShapedOpen Tryz.prog) : ∃ m, GlOk m W (pW W) := by
  obtain ⟨cs, h1, h2, h3⟩ := h.1 0 #[.int .i64 0] 3 (Nat.lt_of_lt_of_le (Nat.lt_succ_self 0) (Nat.le_of_ble_eq_true (by kernel_rfl))) (by kernel_rfl)
  obtain ⟨ts, t1, _, t3⟩ := h3 (by kernel_rfl)
  have hts : ts = [3] := Option.some.inj (t1.symm.trans (by kernel_rfl))
  subst hts
  have hsz : cs.size = 1 := h2
  have h0 : cs[0]? = some cs[0] := Array.getElem?_eq_getElem (by omega)
  obtain ⟨u, hu, hok⟩ := t3 0 _ h0
  simp at hu
  subst hu
  unfold Cell.ok at hok
  rw [v3] at hok
  generalize cs[0] = v at h0 hok
  have hb : (0 : Nat) < W.heap.size := (Array.getElem?_eq_some_iff.1 h1).1
  cases v with
  | int k n =>
    have hk : k = .i64 := hok.1
    subst hk
    refine ⟨n, .rop _ _ [.int .i64 n] (fun _ => hb) (fun j u hj => ?_) (.cons _ _ _ _ (.v _ trivial) .nil)⟩
    cases j with
    | zero =>
      simp at hj
      subst hj
      simp [World.cell?, Addr.add, glb, h1, h0]
    | succ j => simp at hj
  | _ => exact hok.elim
end
theorem every : YtakcecnegfihkaaGreatDoor.Every := by
  intro H enc W base args ds gs before hval0 hW hS
  have hval : ∀ (j : Nat) t v, Tryz.f5.params[j]? = some t → args[j]? = some v → Value.okWide Tryz.prog W .any base t v := hval0
  have hW' := hW
  obtain ⟨p, q, hA0, hV, rfl, hfz, hnd⟩ := hW
  have hA : DataW.TrodAll enc Tryz.prog W 0 (fun _ => true) true [32, 3] args.toList ds p := hA0
  rw [YtakcecnegfihkaaGreatDoor.params5] at hval
  obtain ⟨u0, u1, d0, d1, p0, p1, rfl, rfl, rfl, h0, h1⟩ := trodAll_two hA
  obtain ⟨rfl, rfl⟩ := trodVars_none hV
  have hlt : ∀ x ∈ (p0 ++ p1) ++ [], x.block < W.heap.size := fun x hx => hW'.lt x hx
  have k0 := h0
  obtain ⟨n0, t0⟩ := h0
  obtain ⟨_, ⟨h, rfl⟩, r0⟩ := (rdHs) _ _ _ t0
  have k1 := h1
  obtain ⟨n1, t1⟩ := h1
  obtain ⟨_, ⟨w, rfl⟩, r1⟩ := (Rd.int v3) _ _ _ t1
  obtain ⟨cs0, rfl, _, _⟩ : ∃ cs, u0 = .agg cs ∧ cs.size = Tryz.prog.cellsOf 32 ∧ _ := by
    have := hval 0 32 u0 rfl rfl
    unfold Value.okWide at this
    rw [v32] at this
    exact this
  have r0' : RoL W (pW W) (EHs.enc h) cs0.toList := r0
  have a0 : AHas ρ0 W (pW W) (.agg ((EHs.enc h).map .t)) (.agg cs0) [] := by
    have ha : AHas ρ0 W (pW W) (.agg ((EHs.enc h).map .t)) (.agg cs0.toList.toArray) [] := .agg _ _ _ r0'.t r0'.ones
    rwa [Array.toArray_toList] at ha
  have e1 : u1.cells.toList = [u1] := by
    have := hval 1 3 u1 rfl rfl
    unfold Value.okWide at this
    rw [v3] at this
    cases u1 with
    | agg cs => simp only [Cell.okWide, v3, Cell.ok] at this
    | _ => rfl
  rw [e1] at r1
  have r1' : Ro W (pW W) (.v (.int .i64 w)) u1 := by
    cases r1 with | cons _ _ _ _ h _ => exact h
  have a1 : AHas ρ0 W (pW W) (.t (.v (.int .i64 w))) u1 [] := .t _ _ r1'
  obtain ⟨m, hgl⟩ := glOk_of hS
  have hargs : AHasL ρ0 W (pW W) ((lc EHs.ag (lc AInt l0)).enc (h, w, ())) [.agg cs0, u1] [] := .cons _ _ _ _ [] [] a0 (.cons _ _ _ _ [] [] a1 .nil)
  have hcall := con5 m h w W (pW W) [.agg cs0, u1] [] hgl hargs .nil (fun b hb => by cases hb) (fun b hb => hb)
  refine Calls.mono hcall fun e W' hq => ?_
  obtain ⟨v, pr', G, F, he, hfr, _, _, _, _, hv, _, _⟩ := hq
  obtain ⟨rfl, _⟩ := hv.val
  have hb : Below W.heap.size W W' := ⟨hfr.os, hfr.tape, hfr.output, hfr.size, fun k hk => hfr.block k hk (by simp)⟩
  refine ⟨_, he, _, _, _, [], p0 ++ p1, [], hW', ?_, ?_, rfl, hb.frame _, fun h => by cases h⟩
  · exact trodAll_mk1 (shut_bool (show Tryz.prog.underlying 4 = some .bool by kernel_rfl) _)
  · have := trodAll_mk2 (Below.trod (by kernel_rfl) (by kernel_rfl) (of_decide_eq_true (by kernel_rfl)) k0 hb fun x hx => hlt x (by simp [hx])) (Below.trod (by kernel_rfl) (by kernel_rfl) (of_decide_eq_true (by kernel_rfl)) k1 hb fun x hx => hlt x (by simp [hx]))
    exact this
end Go.V
namespace Go.Proofs.YtakcecnegfihkaaGreatDoor
theorem fnExactHostKeep_card : Rows.FnExactHostKeepCardSaid := card_of Go.V.every
end Go.Proofs.YtakcecnegfihkaaGreatDoor
