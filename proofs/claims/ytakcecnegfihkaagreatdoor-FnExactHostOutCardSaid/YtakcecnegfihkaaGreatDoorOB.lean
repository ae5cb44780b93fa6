/- The row. No condition. -/
import Derived.Test.YtakcecnegfihkaaGreatDoorOA
import Derived.Lib.IndexMore
import Derived.Lib.IndexEntry
import Derived.Lib.RabinKarpLaws
import Derived.Lib.Split
namespace Go.V
open Go Go.Proofs
set_option maxRecDepth 100000
set_option linter.unusedSimpArgs false
set_option linter.unusedVariables false
attribute [local go_sem] aPickB.eq_1 aPickB.eq_2 aPick.eq_1 aBox.eq_1 aBox.eq_2 aAlloc.eq_1 aAlloc.eq_2 aLoadB.eq_1 aLoadB.eq_2 aLoadB.eq_3 aLoadB.eq_4 aLoadB.eq_5 aLoadA.eq_1 aLoadA.eq_2 aLoadA.eq_3 aLoadA.eq_4 aLoadA.eq_5 aLoadP.eq_1 aLoadP.eq_2 aLoadP.eq_3 aLoad.eq_1 aLoad.eq_2 aFAx.eq_1 aFAx.eq_2 aFAx.eq_3 aFA.eq_1 aFA.eq_2 aFx.eq_1 aF.eq_1 aF.eq_2 fld.eq_1 elT.eq_1 aIdxH.eq_1 aIdxH.eq_2 aIdxH.eq_3 aIdxH.eq_4 aIdxH.eq_5 aIdxP.eq_1 aIdxP.eq_2 aIndexAddr.eq_1 aIndexAddr.eq_2 aIndexAddr.eq_3 isStr.eq_1 aIndex.eq_1 aSlStr.eq_1 aSlRo.eq_1 aSlZ.eq_1 aSlZ.eq_2 aSlice.eq_1 aSlice.eq_2 aSlice.eq_3 bnd.eq_1 bnd.eq_2 aBuildO.eq_1 aBuildO.eq_2 aBuild.eq_1 aNewArr.eq_1 aNewArr.eq_2 aBS.eq_1 aBS.eq_2 aBuildSlice.eq_1 aBuildSlice.eq_2 aMakeSlice.eq_1 appDeep.eq_1 aApp2.eq_1 aAppend.eq_1 aAppend.eq_2 aStoreB.eq_1 aStoreA.eq_1 obFlat.eq_1 aStore2.eq_1 aStore2.eq_2 aStoreP.eq_1 aStoreP.eq_2 aStore.eq_1 aStore.eq_2 isShl.eq_1 isShl.eq_2 isBool.eq_1 aBinI.eq_1 aBinI.eq_2 aBinB.eq_1 aBinB.eq_2 aEq.eq_1 aEq.eq_2 aEq.eq_3 aEq.eq_4 aEqG.eq_1 aEqG.eq_2 aBin.eq_1 aBin.eq_2 aBin.eq_3 aBin.eq_4 aUn.eq_1 aUn.eq_2 aLenO.eq_1 aLenS.eq_1 aLenS.eq_2 aLenS.eq_3 aLenT.eq_1 aLen.eq_1 aLen.eq_2 aLen.eq_3 bytesOb.eq_1 bytesOb.eq_2 bytesOf.eq_1 bytesOf.eq_2 aNums.eq_1 aNums.eq_2 isU8.eq_1 aCvI.eq_1 aCvS.eq_1 aCvB.eq_1 aCvB.eq_2 aCvT.eq_1 aConv.eq_1 aConv.eq_2 aConv.eq_3 aConv.eq_4 aExO.eq_1 aExO.eq_2 aExtract.eq_1 aNil.eq_1 aNil.eq_2 aNil.eq_3 aCallS.eq_1 aCallS.eq_2 aCallR.eq_1 aCallR.eq_2 aCallK.eq_1 aCallK.eq_2 aCallK.eq_3 aCall.eq_1 aCall.eq_2 takeO.eq_1 AS.takeV.eq_1 AS.takeV.eq_2 AS.takeV.eq_3 AS.takeV.eq_4 AS.takeV.eq_5 AS.takeV.eq_6 AS.takeV.eq_7 AV.oldM.eq_1 AV.oldM.eq_2 AV.oldM.eq_3 AV.oldM.eq_4 AV.oldM.eq_5 AV.oldM.eq_6 AV.oldM.eq_7 AV.oldM.eq_8 AV.oldM.eq_9 AV.oldM.eq_10 AV.oldM.eq_11 AV.oldML.eq_1 AV.oldML.eq_2 subL.eq_1 subL.eq_2 back.eq_1 back.eq_2 back.eq_3 back.eq_4 backL.eq_1 backI.eq_1 backI.eq_2 backI.eq_3 backI.eq_4 backIL.eq_1 aBuiltin.eq_1 aBuiltin.eq_2 aBuiltin.eq_3 aCallee.eq_1 aCallee.eq_2 aCallee.eq_3 abin.eq_1 abin.eq_2 abin.eq_3 abin.eq_4 abin.eq_5 abin.eq_6 abin.eq_7 abin.eq_8 abin.eq_9 abin.eq_10 abin.eq_11 abin.eq_12 abin.eq_13 abin.eq_14 abin.eq_15 abin.eq_17 abin.eq_18 abin.eq_19 abin.eq_20 abin.eq_21 abin.eq_22 abin.eq_23 AS.ev.eq_1 AS.ev.eq_2 AS.ev.eq_3 AS.ev.eq_4 AS.evs.eq_1 AS.evs.eq_2 AS.evp.eq_1 AS.evp.eq_2 AS.put.eq_1 AS.put.eq_2 AS.remL.eq_1 AS.remL.eq_2 AV.has.eq_1 AV.has.eq_2 AV.has.eq_3 AV.has.eq_4 AV.has.eq_5 AV.has.eq_6 AV.has.eq_7 AV.has.eq_8 AV.has.eq_9 AV.has.eq_10 AV.has.eq_11 AV.hasL.eq_1 AV.hasL.eq_2 Ob.drop.eq_1 Ob.drop.eq_2 Ob.drop.eq_3 Ob.drop.eq_4 AV.cells.eq_1 AV.cells.eq_2 AV.cells.eq_3 AV.cells.eq_4 AV.cells.eq_5 AS.snapT.eq_1 AS.snapT.eq_2 AS.snapT.eq_3 AS.snapT.eq_4 AS.snapT.eq_5 AS.snapT.eq_6 AS.snapT.eq_7 AS.snap.eq_1 AS.snap.eq_2 mapO.eq_1 mapO.eq_2 intern.eq_1 intern.eq_2 intern.eq_3 intern.eq_4 intern.eq_5 intern.eq_6 intern.eq_7 intern.eq_8 intern.eq_9 intern.eq_10 intern.eq_11 internL.eq_1 internL.eq_2 zipSl.eq_1 zipSl.eq_2 AV.ids.eq_1 AV.ids.eq_2 AV.ids.eq_3 AV.ids.eq_4 AV.ids.eq_5 AV.ids.eq_6 AV.ids.eq_7 AV.ids.eq_8 AV.ids.eq_9 AV.ids.eq_10 AV.ids.eq_11 AV.idsL.eq_1 AV.idsL.eq_2 AV.sub.eq_1 AV.sub.eq_2 AV.sub.eq_3 AV.sub.eq_4 AV.sub.eq_5 AV.sub.eq_6 AV.sub.eq_7 AV.sub.eq_8 AV.sub.eq_9 AV.sub.eq_10 AV.sub.eq_11 AV.subL.eq_1 AV.subL.eq_2 AS.frzL.eq_1 AS.frzL.eq_2 AS.absT.eq_1 AS.absT.eq_2 AS.absT.eq_4 AS.absL.eq_1 AS.absL.eq_2 AS.absOk.eq_1 AS.absOkL.eq_1 AS.absOkL.eq_2 hid.eq_1 hids.eq_1 hids.eq_2 AS.appBase.eq_1 AS.appBase.eq_2 AS.appSrc.eq_1 appFits.eq_1 appFits.eq_2 appFits.eq_3 avFill.eq_1 avFill.eq_2 avc.eq_1 avc.eq_2 avc1.eq_1 Kd.agg.eq_1 Kd.agg.eq_2 okR.eq_1 okR.eq_2 okR.eq_3 okR.eq_4 okR.eq_5 okR.eq_6 okR.eq_7 okR.eq_8 zt.eq_1 rvB.eq_1 rvP.eq_1 rvA.eq_1 rvA.eq_2 rv1.eq_1 outTO.eq_1 outT.eq_1 outT.eq_2 outT.eq_3 outTn.eq_1 outOO.eq_1 outO.eq_1 outO.eq_2 boxOf.eq_1 outP.eq_1 outP.eq_2 outP.eq_3 outP.eq_4 outP.eq_5 outP.eq_6 outP.eq_7 outP.eq_8 outPL.eq_1 outPL.eq_2 outI.eq_1 outI.eq_2 outI.eq_3 outI.eq_4 outI.eq_5 outIL.eq_1 outZ.eq_1 outZ.eq_2 outZ.eq_3 outZ.eq_4 outZ.eq_5 outZL.eq_1 finO.eq_1 finO.eq_2 fin.eq_1 fin.eq_2 fin.eq_3 cellAV.eq_1 cellAV.eq_2 numsOf.eq_1 numsOf.eq_2 aop.eq_1 aop.eq_2 aop.eq_3 aop.eq_4 aop.eq_5 aop.eq_6 aop.eq_7 aop.eq_8 aop.eq_9 aop.eq_10 aop.eq_11 aop.eq_12 aop.eq_13 aop.eq_14 aop.eq_15 aop.eq_16 aop.eq_17 aop.eq_18 aop.eq_19 aop.eq_20 aop.eq_21 aop.eq_22 aop.eq_23 aop.eq_24 aop.eq_25 aop.eq_26 tmpsOf.eq_1 tmpsOf.eq_2 tmpsOf.eq_3 tmpsOf.eq_4 tmpsOf.eq_5 AV.refs.eq_1 AV.refs.eq_2 AV.refs.eq_3 AV.refs.eq_4 AV.refs.eq_5 AV.refs.eq_6 AV.refs.eq_7 AV.refs.eq_8 AV.refs.eq_9 AV.refs.eq_10 AV.refs.eq_11 AV.refsL.eq_1 AV.refsL.eq_2 refsT.eq_1 refsT.eq_2 refsO.eq_1 refsO.eq_2 refsO.eq_3 refsO.eq_4 refsO.eq_5 refsO.eq_6 refsB.eq_1 refsB.eq_2 clos.eq_1 clos.eq_2 keepL.eq_1 keepL.eq_2 AV.hasM.eq_1 AV.hasM.eq_2 AV.hasM.eq_3 AV.hasM.eq_4 AV.hasM.eq_5 AV.hasM.eq_6 AV.hasM.eq_7 AV.hasM.eq_8 AV.hasM.eq_9 AV.hasM.eq_10 AV.hasM.eq_11 AV.hasML.eq_1 AV.hasML.eq_2 Ob.dropM.eq_1 Ob.dropM.eq_2 Ob.dropM.eq_3 Ob.dropM.eq_4 nsC.eq_1 nsC.eq_2 okGuard.eq_1 okGuard.eq_2 AS.purges.eq_1 AS.purges.eq_2 dropMB.eq_1 dropMB.eq_2 newB.eq_1 newB.eq_2 ptB.eq_1 ptB.eq_2 lookC.eq_1 lookC.eq_2 dropB.eq_1 dropB.eq_2 leS.eq_1 leS.eq_2 leT.eq_1 leT.eq_2 AS.mvs.eq_1 AS.mvs.eq_2 AS.mvA.eq_1 AS.mvA.eq_2 AS.mvB.eq_1 aSetO.eq_1 aSetO.eq_2 aSh.eq_1 aSh.eq_2 arK.eq_1 aIdxA.eq_1 aIdxA.eq_2 arT.eq_1 aSlHB.eq_1 aSlHB.eq_2 aSlHO.eq_1 aSlHZ.eq_1 aSlHZ.eq_2 isSlT.eq_1 isNilC.eq_1 aNilO.eq_1 aNilX.eq_1 aNilX.eq_2 aNilX.eq_3 aNilC.eq_1 aNilC.eq_2 aBinQ.eq_1 aBinQ.eq_2 aMin.eq_1 flT.eq_1 flT.eq_2 flT.eq_3 mpT.eq_1 aMkMap.eq_1 aMkMap.eq_2 strA.eq_1 keyMK.eq_1 keyMK.eq_2 keyMK.eq_3 mkB.eq_1 mkB.eq_2 mkB.eq_3 aMp2.eq_1 aMp1.eq_1 aMp0.eq_1 aMapU.eq_1 aLk2.eq_1 aLk2.eq_2 aLk1.eq_1 aLk0.eq_1 aLookup.eq_1 aLenMO.eq_1 aLenM.eq_1 glV.eq_1 glV.eq_2 evG.eq_1 evG.eq_2 evG.eq_3 evG.eq_4 lkHitO.eq_1 lkHitO.eq_2 lkHitO.eq_3 lkHitO.eq_4 lkHit.eq_1 lkHit.eq_2 lkF.eq_1 lkF.eq_2 lkFind.eq_1 lkFind.eq_2 lkV.eq_1 lkV.eq_2 lkV.eq_3 lkV.eq_4 lkV.eq_5 AS.lkO.eq_1 AS.lkO.eq_2 AS.lkOf.eq_1 rawT.eq_1 rawT.eq_2 rawT.eq_3 rawT.eq_4 rawT.eq_5 rawT.eq_6 rawOf.eq_1 rawOf.eq_2 rawOf.eq_3 rawOf.eq_4 rawOf.eq_5 rawOf.eq_6 rawOf.eq_7 rawOf.eq_8 rawOf.eq_9 rawOf.eq_10 rawOf.eq_11 aLkR.eq_1 aLkR.eq_2 aLk.eq_1 aLk.eq_2 KL.eq_1 lkDrop.eq_1 lkDrop.eq_2 lkParO.eq_1 lkParO.eq_2 lkParO.eq_3 lkParO.eq_4 lkPar.eq_1 lkPar.eq_2 lkI.eq_1 lkI.eq_2 lkIds.eq_1 lkIds.eq_2 adLd.eq_1 run_nil run_b run_l run_skip run_label run_seq run_cond brV_b brB_t brB_f run_block run_exit run_ret run_region runX_nil runX_c runX_c' runX_b runX_b' runX_l runX_l' exB_t exB_f run_o run_op run_opg gV_b gV_t gB_tt gB_ff gB_tf gB_ft rs_eq kv KI aLenN aBS1 aApp1 aStore1 szOk gv gd s0 idOf look_cons lookC frzU_t frzU_f orT orF drop_any drop_nil drop_t drop_h drop_pb drop_pa drop_agg drop_tup drop_fn dropB kill_eq set_eq rem_eq re_eq up_eq get_eq ob_eq Ob.drop apl fpl plainTy AS.frz splice cond_true cond_false List.map_cons List.map_nil List.drop_zero List.drop_succ_cons List.drop_nil List.take_zero List.take_succ_cons List.take_nil List.getElem?_cons_zero List.getElem?_cons_succ List.getElem?_nil List.length_cons List.length_nil Option.map_some Option.map_none Option.bind_some Option.bind_none List.cons_append List.nil_append List.append_nil Option.getD_some Option.getD_none List.all_cons List.all_nil Bool.and_true Bool.true_and Bool.or_false Bool.false_or Bool.or_true Bool.true_or List.flatten_cons List.flatten_nil List.replicate_succ List.replicate_zero and_true true_and avOf_t avOf_f agg_bool agg_int agg_str agg_slice agg_struct agg_func agg_ptr agg_map avc_bool avc_int avc_str avc_fn avc1_bool avc1_int avc1_str avc1_fn zt_bool zt_int zt_str cells_nil cells_t cells_h cells_pb cells_fn snap_t snap_nil snap_h snap_pb snap_fn rv1_one rv1_two outI_t outI_oh outI_on outI_any outI_nil outZ_th outZ_tt outZ_tn outZ_o outZ_any outZ_nil outIL_nil outZL_nil finN finR ne_eq not_false_eq_true not_true_eq_false List.nodup_nil List.not_mem_nil false_implies implies_true eq_self true_or or_true Option.some.injEq shl_add shl_sub shl_mul shl_quo shl_rem shl_and shl_or shl_xor shl_andNot shl_eql shl_neq shl_lss shl_leq shl_gtr shl_geq shl_shr shl_shl appDeep_none appDeep_sn appSrc_h appSrc_nil fits_ft fits_tn fits_tf isStr_slice obFlat_box Nat.le_refl nbeq_self List.length_map updZ_s updZ_n dropM_eq purge_eq newIds_cons newIds_nil purgeT_nil purgeT_cons memN_cons memN_nil bd_d bd_c bd_g bd_p bd_t bd_o preds_nil preds_cons hasIns insB List.any_cons List.any_nil adK_eq adr_nil adG_eq kdOp noLen creates Op.operands Call.operands nsOf adT adI adJ plainB rst List.append_eq nsD_f nsD_n nsD_t nOf_0 nOf_1 nOf_2 chO_0 chO_1 chO_2 keepK_0 keepK_1 keepK_2 eqRes AS.mv fits KM aCallM notNew kdCall arK_i64 arK_i32 arK_u8 arK_u64 arT_sl isNilC_t isNilC_f isNilC_g isNilC_i isNilC_b isNilC_s isNilC_a isNilC_n andBF andBT aCallK_2 ble_dec hid_t hid_nil hid_any hid_pb hid_fn absOk_t absOk_nil absOk_pb absOk_h absOkO_1 decide_true decide_false Array.toList_append chunk_0 chunk_1 chunk_2 chunk_3 back_t back_nil back_ht backL_nil backI_t backI_nil backI_ht backIL_nil AS.mvJ nbeq_dec runR_f runR_t loadB Option.isSome_some Option.isSome_none nodup1 adr_none adr_some adO_s adV_b adV_t adB_tt adB_ff adB_tf adB_ft adS_eq lenL.eq_1 lenO.eq_1 lenO.eq_2 lenV.eq_1 lenV.eq_2 lenV.eq_3 lenV.eq_4 optN optS absT_ft
attribute [local go_sem] ty3 ty4 ty5 ty9 ty21 ty22 ty23 ty25 ty26 ty28 ty29 ty30 ty32 ty34 ty35 ty37 ty40 ty42 ty43 ty45 ty46 ty47 ty49 ty53 ty54 ty56 ty106 ty108 ty120 ty124 ty126 ty129 ty131 ty133 ty147 ty161 ty192 ty194 ty196 ty198 ty213 ty215 ty221 ty224 ty229 ty237 ty244 ty268 lv53 lv147 lv161 lv198 zb4 leS leT fits AS.mvs encStr_eq aIdx_str EStr_dec decStrs decStrs0 EStr_enc EStr_n encInt_eq aIdx_int EInt_dec decInts decInts0 EInt_enc EInt_n AllV_Int len_Int lc_enc l0_enc asl_enc ag_enc aow_enc ABool_enc AInt_enc AStr_enc AU8_enc ABool_dec AInt_dec AStr_dec AU8_dec asl_dec ag_dec aow_dec bind_some pr2.eq_1 l0_nil lc_cons unT.eq_1 K0.eq_1 M0.eq_1 KI AllV_Str len_Str ctR_eq ctM_eq ro_kd ro_ro mu_kd mu_mu encAd_eq aIdx_Ad EAd_dec decAds decAds0 EAd_enc EAd_n len_Ad Ad_eta AllV_Ad encMl_eq aIdx_Ml EMl_dec decMls decMls0 EMl_enc EMl_n len_Ml Ml_eta mkMl.eq_1 owMl_eq AMl_enc AMl_dec encRc_eq aIdx_Rc ERc_dec decRcs decRcs0 ERc_enc ERc_n len_Rc Rc_eta AllV_Rc encIm_eq aIdx_Im EIm_dec decIms decIms0 EIm_enc EIm_n len_Im Im_eta mkIm.eq_1 owIm_eq AIm_enc AIm_dec encSp_eq aIdx_Sp ESp_dec decSps decSps0 ESp_enc ESp_n len_Sp Sp_eta mkSp.eq_1 owSp_eq ASp_enc ASp_dec encWy_eq aIdx_Wy EWy_dec decWys decWys0 EWy_enc EWy_n len_Wy Wy_eta AllV_Wy encCf_eq aIdx_Cf ECf_dec decCfs decCfs0 ECf_enc ECf_n len_Cf Cf_eta mkCf.eq_1 owCf_eq ACf_enc ACf_dec encGm_eq aIdx_Gm EGm_dec decGms decGms0 EGm_enc EGm_n len_Gm Gm_eta mkGm.eq_1 owGm_eq AGm_enc AGm_dec encBx_eq aIdx_Bx EBx_dec decBxs decBxs0 EBx_enc EBx_n len_Bx Bx_eta mkBx.eq_1 owBx_eq ABx_enc ABx_dec encLs_eq aIdx_Ls ELs_dec decLss decLss0 ELs_enc ELs_n len_Ls Ls_eta AllV_Ls encHs_eq aIdx_Hs EHs_dec decHss decHss0 EHs_enc EHs_n len_Hs Hs_eta mkHs.eq_1 owHs_eq AHs_enc AHs_dec
def dig (k : Nat) : ByteArray := if k = 0 then ⟨#[]⟩ else dig (k / 10) ++ strOf [48 + (k : Int) % 10]
termination_by k
decreasing_by omega
def mkT (k : Int) : ByteArray := if k ≤ 0 then ⟨#[109, 48]⟩ else ⟨#[109]⟩ ++ dig k.toNat
theorem dig_size : ∀ (n k : Nat), k < 10 ^ n → (dig k).size ≤ n
  | 0, k, h => by
    have : k = 0 := by simp at h; omega
    subst this
    rw [dig]; exact Nat.le_refl _
  | n + 1, k, h => by
    rw [dig]
    split
    · exact Nat.zero_le _
    · rw [ByteArray.size_append]
      have := dig_size n (k / 10) (by rw [Nat.pow_succ] at h; omega)
      have h2 : (strOf [48 + (k : Int) % 10]).size = 1 := rfl
      omega
theorem dig_step {k : Nat} (h : 0 < k) (out : ByteArray) : dig k ++ out = dig (k / 10) ++ (strOf [48 + (k : Int) % 10] ++ out) := by
  rw [dig, if_neg (by omega), ByteArray.append_assoc]
theorem dig_zero (out : ByteArray) : dig 0 ++ out = out := by
  rw [dig, if_pos rfl]; exact ByteArray.empty_append
def c127 : Ct := ctR (lc AInt l0) (fun p => p.1 ≤ 1000000000000000) (fun p => .t (.v (.string (mkT p.1))))
theorem good127 {G : Gt} (hG : OkG G) : Gd G 127 (roEnt 0 c127) := by
  refine gR (dp := fun _ => true) (fn := Tryz.f127) (n := 1) (fun _ => rfl) (by kernel_rfl) rfl (by kernel_rfl) hG (Nat.le_of_ble_eq_true rfl) (by kernel_rfl) (by decide) (fun _ _ => .v _) ?_
  rintro ⟨k, ⟨⟩⟩ hpre
  simp -implicitDefEqProofs only [Tryz.f127, go_sem, Nat.reduceAdd, Nat.reduceMul, Nat.reduceLeDiff, Nat.reduceEqDiff, reduceCtorEq, Nat.reduceSub, Int.reduceNeg, Nat.reduceMod, Nat.reduceBEq, Nat.reduceLT] at hpre ⊢
  repeat' (first | with_reducible apply And.intro | with_reducible intro _ | ((first | apply brB_split | apply aPickB_split | apply gB_split | apply adB_split) <;> intro hb <;> simp -implicitDefEqProofs only [hb, go_sem, Nat.reduceAdd, Nat.reduceMul, Nat.reduceLeDiff, Nat.reduceEqDiff, reduceCtorEq, Nat.reduceSub, Int.reduceNeg, Nat.reduceMod, Nat.reduceBEq, Nat.reduceLT] <;> try simp only [qz] at hb))
  all_goals (try simp only [maxLen] at *)
  · simp [mkT, hb]
  · refine run_loop [] (ι := {p : Nat × ByteArray // dig k.toNat = dig p.1 ++ p.2 ∧ p.1 ≤ 1000000000000000}) (fun p => ⟨[(0, .t (.v (.int .i64 p.1.1))), (3, .t (.v (.string p.1.2)))], []⟩) (fun p => p.1.1) ⟨(k.toNat, ⟨#[]⟩), by simp only []; exact ByteArray.append_empty.symm, by simp only []; omega⟩ rfl ?_ ?_
    · simp -implicitDefEqProofs only [go_sem, Nat.reduceAdd, Nat.reduceMul, Nat.reduceLeDiff, Nat.reduceEqDiff, reduceCtorEq, Nat.reduceSub, Int.reduceNeg, Nat.reduceMod, Nat.reduceBEq, Nat.reduceLT]
      simp; omega
    · rintro ⟨⟨m, out⟩, hm, hk⟩
      have hs : out.size ≤ 16 := by
        have h1 := dig_size 16 k.toNat (by omega)
        have h2 := congrArg ByteArray.size hm
        simp only [ByteArray.size_append] at h2
        omega
      simp -implicitDefEqProofs only [go_sem, Nat.reduceAdd, Nat.reduceMul, Nat.reduceLeDiff, Nat.reduceEqDiff, reduceCtorEq, Nat.reduceSub, Int.reduceNeg, Nat.reduceMod, Nat.reduceBEq, Nat.reduceLT]
      repeat' (first | with_reducible apply And.intro | with_reducible intro _ | ((first | apply brB_split | apply aPickB_split | apply gB_split | apply adB_split) <;> intro hb <;> simp -implicitDefEqProofs only [hb, go_sem, Nat.reduceAdd, Nat.reduceMul, Nat.reduceLeDiff, Nat.reduceEqDiff, reduceCtorEq, Nat.reduceSub, Int.reduceNeg, Nat.reduceMod, Nat.reduceBEq, Nat.reduceLT] <;> try simp only [qz] at hb))
      all_goals (try simp only [maxLen, Int.toNat_natCast] at *)
      all_goals first | rfl | omega | skip
      · have : (strOf [48 + (m : Int) % 10]).size = 1 := rfl
        omega
      · refine ⟨⟨(m / 10, strOf [48 + (m : Int) % 10] ++ out), ?_, by simp only []; omega⟩, by simp only []; omega, ?_⟩
        · rw [hm]; exact dig_step (by omega) out
        · simp -implicitDefEqProofs only [go_sem, Nat.reduceAdd, Nat.reduceMul, Nat.reduceLeDiff, Nat.reduceEqDiff, reduceCtorEq, Nat.reduceSub, Int.reduceNeg, Nat.reduceMod, Nat.reduceBEq, Nat.reduceLT]
          simp
      · show 1 + out.size ≤ _
        omega
      · have : m = 0 := by omega
        subst this
        rw [mkT, if_neg (by omega), hm, dig_zero]
section
variable {α : Type} (mk : α → Int → α) (e : α → Int → Int)
def mkS : Int → List α → List α
  | _, [] => []
  | k, x :: r => mk x k :: mkS (e x k) r
def eS : Int → List α → Int
  | k, [] => k
  | k, x :: r => eS (e x k) r
def incr : Prop := ∀ a k, k ≤ e a k
def idem : Prop := ∀ a k, mk (mk a k) k = mk a k ∧ e (mk a k) k = e a k
variable {mk e}
theorem eS_le (h : incr e) : ∀ (xs : List α) (k : Int), k ≤ eS e k xs
  | [], k => Int.le_refl _
  | x :: r, k => Int.le_trans (h x k) (eS_le h r _)
theorem eS_app : ∀ (xs ys : List α) (k : Int), eS e k (xs ++ ys) = eS e (eS e k xs) ys
  | [], _, _ => rfl
  | x :: r, ys, k => eS_app r ys _
theorem mkS_app : ∀ (xs ys : List α) (k : Int), mkS mk e k (xs ++ ys) = mkS mk e k xs ++ mkS mk e (eS e k xs) ys
  | [], _, _ => rfl
  | x :: r, ys, k => by simp only [List.cons_append, mkS, eS, mkS_app r ys _]
theorem mkS_len : ∀ (xs : List α) (k : Int), (mkS mk e k xs).length = xs.length
  | [], _ => rfl
  | x :: r, k => by simp only [mkS, List.length_cons, mkS_len r _]
theorem eS_idem (h : idem mk e) : ∀ (xs : List α) (k : Int), eS e k (mkS mk e k xs) = eS e k xs
  | [], _ => rfl
  | x :: r, k => by simp only [mkS, eS, (h x k).2, eS_idem h r _]
theorem mkS_idem (h : idem mk e) : ∀ (xs : List α) (k : Int), mkS mk e k (mkS mk e k xs) = mkS mk e k xs
  | [], _ => rfl
  | x :: r, k => by simp only [mkS, (h x k).1, (h x k).2, mkS_idem h r _]
def mkTo (mk : α → Int → α) (e : α → Int → Int) (k : Int) (xs : List α) (i : Nat) : List α := mkS mk e k (xs.take i) ++ xs.drop i
theorem mkTo_len {k : Int} {xs : List α} {i : Nat} (h : i ≤ xs.length) : (mkTo mk e k xs i).length = xs.length := by simp [mkTo, mkS_len]; omega
theorem mkTo_0 (k : Int) (xs : List α) : mkTo mk e k xs 0 = xs := by simp [mkTo, mkS]
theorem mkTo_end {k : Int} {xs : List α} {i : Nat} (h : xs.length ≤ i) : mkTo mk e k xs i = mkS mk e k xs := by simp [mkTo, List.take_of_length_le h, List.drop_of_length_le h]
set_option linter.unusedSectionVars false
variable [Inhabited α]
theorem mkTo_at {k : Int} {xs : List α} {i : Nat} (h : i < xs.length) : (mkTo mk e k xs i).getD i default = xs.getD i default := by
  have e1 : (mkS mk e k (xs.take i)).length = i := by rw [mkS_len]; simp; omega
  unfold mkTo
  simp only [List.getD_eq_getElem?_getD]
  rw [List.getElem?_append_right (by omega), e1, Nat.sub_self]
  simp
theorem eS_to {k : Int} {xs : List α} {i : Nat} (h : i < xs.length) : eS e k (xs.take (i + 1)) = e (xs.getD i default) (eS e k (xs.take i)) := by
  rw [List.take_succ_eq_append_getElem h, eS_app]
  simp [eS, h]
theorem mkTo_set {k : Int} {xs : List α} {i : Nat} (h : i < xs.length) {y : α} (hy : y = mk (xs.getD i default) (eS e k (xs.take i))) : (mkTo mk e k xs i).set i y = mkTo mk e k xs (i + 1) := by
  have e1 : (mkS mk e k (xs.take i)).length = i := by rw [mkS_len]; simp; omega
  unfold mkTo
  rw [List.set_append_right _ _ (by omega), e1, Nat.sub_self, List.take_succ_eq_append_getElem h, mkS_app, List.append_assoc, List.drop_eq_getElem_cons h, List.set_cons_zero, hy]
  simp [mkS, h]
theorem eS_take {k : Int} (hi : incr e) (xs : List α) (i : Nat) : k ≤ eS e k (xs.take i) ∧ eS e k (xs.take i) ≤ eS e k xs := by
  refine ⟨eS_le hi _ _, ?_⟩
  have h := eS_app (e := e) (xs.take i) (xs.drop i) k
  rw [List.take_append_drop] at h
  rw [h]; exact eS_le hi _ _
open Classical in
noncomputable def hS (mk : α → Int → α) (e : α → Int → Int) (xs : List α) (k : Int) : Int := if xs = mkS mk e k xs then eS e k xs else -1
theorem hS_mk (h : idem mk e) (xs : List α) (k : Int) : hS mk e (mkS mk e k xs) k = eS e k xs := by
  unfold hS; rw [mkS_idem h, if_pos rfl, eS_idem h]
theorem mkS_at {k : Int} {xs : List α} {i : Nat} (h : i < xs.length) : (mkS mk e k xs).getD i default = mk (xs.getD i default) (eS e k (xs.take i)) := by
  have h1 : xs = xs.take i ++ xs.drop i := (List.take_append_drop i xs).symm
  have e1 : (mkS mk e k (xs.take i)).length = i := by rw [mkS_len]; simp; omega
  have h2 := mkS_app (mk := mk) (e := e) (xs.take i) (xs.drop i) k
  rw [List.take_append_drop] at h2
  rw [h2]
  simp only [List.getD_eq_getElem?_getD]
  rw [List.getElem?_append_right (by omega), e1, Nat.sub_self, List.drop_eq_getElem_cons h]
  simp [mkS, h]
theorem hS_no {xs : List α} {k : Int} {i : Nat} (h : i < xs.length) (hne : ¬ xs.getD i default = mk (xs.getD i default) (eS e k (xs.take i))) : hS mk e xs k = -1 := by
  unfold hS
  rw [if_neg]
  intro q
  apply hne
  rw [← mkS_at (mk := mk) h, ← q]
theorem hS_yes {xs : List α} {k : Int} (hall : ∀ j, j < xs.length → xs.getD j default = mk (xs.getD j default) (eS e k (xs.take j))) : hS mk e xs k = eS e k xs := by
  unfold hS
  rw [if_pos]
  refine List.ext_getElem (by rw [mkS_len]) fun j h1 h2 => ?_
  have q1 := hall j h1
  rw [← mkS_at (mk := mk) h1] at q1
  simpa [h1, h2] using q1
theorem hS_eq {xs : List α} {k : Int} (q : xs = mkS mk e k xs) : hS mk e xs k = eS e k xs := by unfold hS; rw [if_pos q]
theorem hS_ne {xs : List α} {k : Int} (hb : hS mk e xs k < 0) (h0 : 0 ≤ k) (hi : incr e) (q : xs = mkS mk e k xs) : False := by
  rw [hS_eq q] at hb
  have := eS_le hi xs k
  omega
theorem hS_pos {xs : List α} {k : Int} (hb : ¬ hS mk e xs k < 0) : xs = mkS mk e k xs ∧ hS mk e xs k = eS e k xs := by
  by_cases q : xs = mkS mk e k xs
  · exact ⟨q, hS_eq q⟩
  · unfold hS at hb; rw [if_neg q] at hb; omega
theorem hS_le (hi : incr e) (xs : List α) (k : Int) : hS mk e xs k = -1 ∨ hS mk e xs k = eS e k xs := by
  unfold hS; split
  · exact .inr rfl
  · exact .inl rfl
theorem hS_iff {xs : List α} {k : Int} (h0 : 0 ≤ k) (hi : incr e) : (hS mk e xs k < 0) = ¬ xs = mkS mk e k xs := by
  unfold hS
  have := eS_le hi xs k
  by_cases h : xs = mkS mk e k xs
  · rw [if_pos h]; exact propext ⟨fun q => by omega, fun q => absurd h q⟩
  · rw [if_neg h]; exact propext ⟨fun _ => h, fun _ => by omega⟩
end
def mStr (_ : ByteArray) (k : Int) : ByteArray := mkT k
def eStr (_ : ByteArray) (k : Int) : Int := k + 1
def mInt (_ : Int) (k : Int) : Int := k
def eInt (_ : Int) (k : Int) : Int := k + 1
theorem eStr_inc : incr eStr := fun a k => by unfold eStr; omega
theorem eInt_inc : incr eInt := fun a k => by unfold eInt; omega
theorem mStr_idem : idem mStr eStr := fun _ _ => ⟨rfl, rfl⟩
theorem mInt_idem : idem mInt eInt := fun _ _ => ⟨rfl, rfl⟩
theorem getD_set' {α : Type} [Inhabited α] {xs : List α} {i : Nat} (h : i < xs.length) (y : α) : (xs.set i y).getD i default = y := by simp [h]
def mAd (a : Ad) (k : Int) : Ad := ⟨(mkT k), (mkT (k + 1))⟩
def eAd (a : Ad) (k : Int) : Int := ((k + 1) + 1)
theorem eAd_inc : incr eAd := fun a k => by
  unfold eAd
  omega
theorem mAd_idem : idem mAd eAd := fun a k => by simp only [mAd, eAd, and_self]
def mRc (a : Rc) (k : Int) : Rc := ⟨⟨(mkT k), (mkT (k + 1))⟩, ((k + 1) + 1), (((k + 1) + 1) + 1)⟩
def eRc (a : Rc) (k : Int) : Int := ((((k + 1) + 1) + 1) + 1)
theorem eRc_inc : incr eRc := fun a k => by
  unfold eRc
  omega
theorem mRc_idem : idem mRc eRc := fun a k => by simp only [mRc, eRc, and_self]
def mIm (a : Im) (k : Int) : Im := ⟨k, ⟨(mkT (k + 1)), (mkT ((k + 1) + 1))⟩, (mkS mRc eRc (((k + 1) + 1) + 1) a.to), (mkS mStr eStr (eS eRc (((k + 1) + 1) + 1) a.to) a.body)⟩
def eIm (a : Im) (k : Int) : Int := (eS eStr (eS eRc (((k + 1) + 1) + 1) a.to) a.body)
theorem eIm_inc : incr eIm := fun a k => by
  unfold eIm
  have := eS_le eRc_inc a.to (((k + 1) + 1) + 1)
  have := eS_le eStr_inc a.body (eS eRc (((k + 1) + 1) + 1) a.to)
  omega
theorem mIm_idem : idem mIm eIm := fun a k => by simp only [mIm, eIm, mkS_idem mRc_idem, eS_idem mRc_idem, mkS_idem mStr_idem, eS_idem mStr_idem, and_self]
def mSp (a : Sp) (k : Int) : Sp := ⟨k, (mkS mIm eIm (k + 1) a.items)⟩
def eSp (a : Sp) (k : Int) : Int := (eS eIm (k + 1) a.items)
theorem eSp_inc : incr eSp := fun a k => by
  unfold eSp
  have := eS_le eIm_inc a.items (k + 1)
  omega
theorem mSp_idem : idem mSp eSp := fun a k => by simp only [mSp, eSp, mkS_idem mIm_idem, eS_idem mIm_idem, and_self]
def mWy (a : Wy) (k : Int) : Wy := ⟨(mkT k), (mkT (k + 1))⟩
def eWy (a : Wy) (k : Int) : Int := ((k + 1) + 1)
theorem eWy_inc : incr eWy := fun a k => by
  unfold eWy
  omega
theorem mWy_idem : idem mWy eWy := fun a k => by simp only [mWy, eWy, and_self]
def mCf (a : Cf) (k : Int) : Cf := ⟨(mkT k), (mkS mStr eStr (k + 1) a.own), (mkS mWy eWy (eS eStr (k + 1) a.own) a.ways)⟩
def eCf (a : Cf) (k : Int) : Int := (eS eWy (eS eStr (k + 1) a.own) a.ways)
theorem eCf_inc : incr eCf := fun a k => by
  unfold eCf
  have := eS_le eStr_inc a.own (k + 1)
  have := eS_le eWy_inc a.ways (eS eStr (k + 1) a.own)
  omega
theorem mCf_idem : idem mCf eCf := fun a k => by simp only [mCf, eCf, mkS_idem mStr_idem, eS_idem mStr_idem, mkS_idem mWy_idem, eS_idem mWy_idem, and_self]
def mGm (a : Gm) (k : Int) : Gm := ⟨⟨(mkT k), (mkT (k + 1))⟩, (mkS mStr eStr ((k + 1) + 1) a.body)⟩
def eGm (a : Gm) (k : Int) : Int := (eS eStr ((k + 1) + 1) a.body)
theorem eGm_inc : incr eGm := fun a k => by
  unfold eGm
  have := eS_le eStr_inc a.body ((k + 1) + 1)
  omega
theorem mGm_idem : idem mGm eGm := fun a k => by simp only [mGm, eGm, mkS_idem mStr_idem, eS_idem mStr_idem, and_self]
def mBx (a : Bx) (k : Int) : Bx := ⟨⟨(mkT k), (mkT (k + 1))⟩, (mkS mGm eGm ((k + 1) + 1) a.mails)⟩
def eBx (a : Bx) (k : Int) : Int := (eS eGm ((k + 1) + 1) a.mails)
theorem eBx_inc : incr eBx := fun a k => by
  unfold eBx
  have := eS_le eGm_inc a.mails ((k + 1) + 1)
  omega
theorem mBx_idem : idem mBx eBx := fun a k => by simp only [mBx, eBx, mkS_idem mGm_idem, eS_idem mGm_idem, and_self]
def mLs (a : Ls) (k : Int) : Ls := ⟨(mkT k), ⟨(mkT (k + 1)), (mkT ((k + 1) + 1))⟩⟩
def eLs (a : Ls) (k : Int) : Int := (((k + 1) + 1) + 1)
theorem eLs_inc : incr eLs := fun a k => by
  unfold eLs
  omega
theorem mLs_idem : idem mLs eLs := fun a k => by simp only [mLs, eLs, and_self]
def mHs (a : Hs) (k : Int) : Hs := ⟨⟨(mkT k), (mkS mStr eStr (k + 1) a.conf.own), (mkS mWy eWy (eS eStr (k + 1) a.conf.own) a.conf.ways)⟩, ⟨(eS eWy (eS eStr (k + 1) a.conf.own) a.conf.ways), (mkS mIm eIm ((eS eWy (eS eStr (k + 1) a.conf.own) a.conf.ways) + 1) a.spool.items)⟩, (mkS mBx eBx (eS eIm ((eS eWy (eS eStr (k + 1) a.conf.own) a.conf.ways) + 1) a.spool.items) a.boxes), (mkS mLs eLs (eS eBx (eS eIm ((eS eWy (eS eStr (k + 1) a.conf.own) a.conf.ways) + 1) a.spool.items) a.boxes) a.lost)⟩
def eHs (a : Hs) (k : Int) : Int := (eS eLs (eS eBx (eS eIm ((eS eWy (eS eStr (k + 1) a.conf.own) a.conf.ways) + 1) a.spool.items) a.boxes) a.lost)
theorem eHs_inc : incr eHs := fun a k => by
  unfold eHs
  have := eS_le eStr_inc a.conf.own (k + 1)
  have := eS_le eWy_inc a.conf.ways (eS eStr (k + 1) a.conf.own)
  have := eS_le eIm_inc a.spool.items ((eS eWy (eS eStr (k + 1) a.conf.own) a.conf.ways) + 1)
  have := eS_le eBx_inc a.boxes (eS eIm ((eS eWy (eS eStr (k + 1) a.conf.own) a.conf.ways) + 1) a.spool.items)
  have := eS_le eLs_inc a.lost (eS eBx (eS eIm ((eS eWy (eS eStr (k + 1) a.conf.own) a.conf.ways) + 1) a.spool.items) a.boxes)
  omega
theorem mHs_idem : idem mHs eHs := fun a k => by simp only [mHs, eHs, mkS_idem mBx_idem, eS_idem mBx_idem, mkS_idem mIm_idem, eS_idem mIm_idem, mkS_idem mLs_idem, eS_idem mLs_idem, mkS_idem mStr_idem, eS_idem mStr_idem, mkS_idem mWy_idem, eS_idem mWy_idem, and_self]
def c61 : Mt := ctM (lc (EStr.aow true 1) (lc AInt l0)) (fun p => 0 ≤ p.2.1 ∧ eS eStr p.2.1 p.1 ≤ 1000000000000000) (fun p => ([.o true 1 ((mkS mStr eStr p.2.1 p.1).map encStr), .t (.v (.int .i64 p.2.1))], .t (.v (.int .i64 (eS eStr p.2.1 p.1)))))
section
attribute [local go_sem] c127 aSet_map aCell_map List.map_replicate List.length_set List.length_map List.set_set AS.opn AS.cls
theorem good61 {G : Gt} (hG : OkG G) (hh : G.e 127 = roEnt 0 c127) : Gd G 61 (muEnt c61) := by
  refine gM (dp := fun _ => true) (fn := Tryz.f61) (n := 2) (fun _ => rfl) (by kernel_rfl) rfl (by kernel_rfl) hG (Nat.le_of_ble_eq_true rfl) (by kernel_rfl) ?_
  rintro ⟨xs, k, ⟨⟩⟩ hpre
  simp -implicitDefEqProofs only [Tryz.f61, go_sem, hh, Nat.reduceAdd, Nat.reduceMul, Nat.reduceLeDiff, Nat.reduceEqDiff, reduceCtorEq, Nat.reduceSub, Int.reduceNeg, Nat.reduceMod, Nat.reduceBEq, Nat.reduceLT] at hpre ⊢
  obtain ⟨hk0, hk1⟩ := hpre
  refine run_loop [] (ι := {i : Nat // i ≤ xs.length}) (fun p => ⟨[(0, .h 1900), (1, .t (.v (.int .i64 (eS eStr k (xs.take p.1))))), (5, .t (.v (.int .i64 p.1)))], [(1900, some (.arr true 1 ((mkTo mStr eStr k xs p.1).map encStr)))]⟩) (fun p => xs.length - p.1) ⟨0, by omega⟩ rfl ?_ ?_
  · simp -implicitDefEqProofs only [go_sem, hh, Nat.reduceAdd, Nat.reduceMul, Nat.reduceLeDiff, Nat.reduceEqDiff, reduceCtorEq, Nat.reduceSub, Int.reduceNeg, Nat.reduceMod, Nat.reduceBEq, Nat.reduceLT]
    simp [mkTo_0, eS]
  · rintro ⟨i, hi⟩
    have hl := mkTo_len (mk := mStr) (e := eStr) (k := k) hi
    have hq := eS_take (k := k) eStr_inc xs i
    by_cases hlt : i < xs.length
    · have hlm : i < ((mkTo mStr eStr k xs i).map encStr).length := by rw [List.length_map, hl]; exact hlt
      have hat := mkTo_at (mk := mStr) (e := eStr) (k := k) hlt
      have hst := eS_to (e := eStr) (k := k) hlt
      have hq2 := eS_take (k := k) eStr_inc xs (i + 1)
      simp only [eStr] at hst
      have hb1 : ((i : Int) < (xs.length : Int)) := by omega
      simp -implicitDefEqProofs only [go_sem, aSet_set hlm, aCell_set hlm, hl, hat, hb1, decide_true, Int.toNat_natCast, hh, Nat.reduceAdd, Nat.reduceMul, Nat.reduceLeDiff, Nat.reduceEqDiff, reduceCtorEq, Nat.reduceSub, Int.reduceNeg, Nat.reduceMod, Nat.reduceBEq, Nat.reduceLT]
      repeat' (first | with_reducible apply And.intro | with_reducible intro _ | ((first | apply brB_split | apply aPickB_split | apply gB_split | apply adB_split) <;> intro hb <;> simp -implicitDefEqProofs only [hb, go_sem, aSet_set hlm, aCell_set hlm, hl, hat, hb1, decide_true, Int.toNat_natCast, hh, Nat.reduceAdd, Nat.reduceMul, Nat.reduceLeDiff, Nat.reduceEqDiff, reduceCtorEq, Nat.reduceSub, Int.reduceNeg, Nat.reduceMod, Nat.reduceBEq, Nat.reduceLT] <;> try simp only [qz] at hb))
      all_goals (try simp only [maxLen] at *)
      all_goals first | rfl | omega | skip
      refine ⟨⟨i + 1, by omega⟩, by simp only []; omega, ?_⟩
      simp -implicitDefEqProofs only [go_sem, hh, Nat.reduceAdd, Nat.reduceMul, Nat.reduceLeDiff, Nat.reduceEqDiff, reduceCtorEq, Nat.reduceSub, Int.reduceNeg, Nat.reduceMod, Nat.reduceBEq, Nat.reduceLT]
      simp only [hst]
      repeat' (first | with_reducible apply And.intro | with_reducible intro _ | ((first | apply brB_split | apply aPickB_split | apply gB_split | apply adB_split) <;> intro hb <;> simp -implicitDefEqProofs only [hb, go_sem, hh, Nat.reduceAdd, Nat.reduceMul, Nat.reduceLeDiff, Nat.reduceEqDiff, reduceCtorEq, Nat.reduceSub, Int.reduceNeg, Nat.reduceMod, Nat.reduceBEq, Nat.reduceLT] <;> try simp only [qz] at hb))
      all_goals first
        | rfl
        | (simp; done)
        | (simp; omega)
        | (refine congrArg (fun l => Ob.arr true 1 l) ?_
           rw [set_Str]
           exact congrArg (List.map encStr) (mkTo_set hlt rfl))
    · simp -implicitDefEqProofs only [hl, go_sem, hh, Nat.reduceAdd, Nat.reduceMul, Nat.reduceLeDiff, Nat.reduceEqDiff, reduceCtorEq, Nat.reduceSub, Int.reduceNeg, Nat.reduceMod, Nat.reduceBEq, Nat.reduceLT]
      repeat' (first | with_reducible apply And.intro | with_reducible intro _ | ((first | apply brB_split | apply aPickB_split | apply gB_split | apply adB_split) <;> intro hb <;> simp -implicitDefEqProofs only [hb, go_sem, hh, Nat.reduceAdd, Nat.reduceMul, Nat.reduceLeDiff, Nat.reduceEqDiff, reduceCtorEq, Nat.reduceSub, Int.reduceNeg, Nat.reduceMod, Nat.reduceBEq, Nat.reduceLT] <;> try simp only [qz] at hb))
      all_goals first | omega | (rw [mkTo_end (by omega)]; done) | (rw [List.take_of_length_le (by omega)]; done) | (simp; done) | skip
end
def c129 : Ct := ctR (lc EStr.asl (lc AInt l0)) (fun p => 0 ≤ p.2.1 ∧ eS eStr p.2.1 p.1 ≤ 1000000000000000) (fun p => .t (.v (.int .i64 (hS mStr eStr p.1 p.2.1))))
section
attribute [local go_sem] c127
theorem good129 {G : Gt} (hG : OkG G) (hh : G.e 127 = roEnt 0 c127) : Gd G 129 (roEnt 0 c129) := by
  refine gR (dp := fun _ => true) (fn := Tryz.f129) (n := 2) (fun _ => rfl) (by kernel_rfl) rfl (by kernel_rfl) hG (Nat.le_of_ble_eq_true rfl) (by kernel_rfl) (by decide) (fun _ _ => .v _) ?_
  rintro ⟨xs, k, ⟨⟩⟩ hpre
  simp -implicitDefEqProofs only [Tryz.f129, go_sem, hh, Nat.reduceAdd, Nat.reduceMul, Nat.reduceLeDiff, Nat.reduceEqDiff, reduceCtorEq, Nat.reduceSub, Int.reduceNeg, Nat.reduceMod, Nat.reduceBEq, Nat.reduceLT] at hpre ⊢
  obtain ⟨hk0, hk1⟩ := hpre
  refine run_loop [] (ι := {i : Nat // i ≤ xs.length ∧ ∀ j, j < i → xs.getD j default = mStr (xs.getD j default) (eS eStr k (xs.take j))}) (fun p => ⟨[(0, .t (.sl 1 (xs.map encStr))), (1, .t (.v (.int .i64 (eS eStr k (xs.take p.1))))), (5, .t (.v (.int .i64 p.1)))], []⟩) (fun p => xs.length - p.1) ⟨0, by simp, by simp⟩ rfl ?_ ?_
  · simp -implicitDefEqProofs only [go_sem, hh, Nat.reduceAdd, Nat.reduceMul, Nat.reduceLeDiff, Nat.reduceEqDiff, reduceCtorEq, Nat.reduceSub, Int.reduceNeg, Nat.reduceMod, Nat.reduceBEq, Nat.reduceLT]
    simp [eS]
  · rintro ⟨i, hi, hall⟩
    have hq := eS_take (k := k) eStr_inc xs i
    by_cases hlt : i < xs.length
    · have hst := eS_to (e := eStr) (k := k) hlt
      have hq2 := eS_take (k := k) eStr_inc xs (i + 1)
      simp only [eStr] at hst
      have hb1 : ((i : Int) < (xs.length : Int)) := by omega
      simp -implicitDefEqProofs only [hb1, decide_true, Int.toNat_natCast, go_sem, hh, Nat.reduceAdd, Nat.reduceMul, Nat.reduceLeDiff, Nat.reduceEqDiff, reduceCtorEq, Nat.reduceSub, Int.reduceNeg, Nat.reduceMod, Nat.reduceBEq, Nat.reduceLT]
      repeat' (first | with_reducible apply And.intro | with_reducible intro _ | ((first | apply brB_split | apply aPickB_split | apply gB_split | apply adB_split) <;> intro hb <;> simp -implicitDefEqProofs only [hb, go_sem, hh, Nat.reduceAdd, Nat.reduceMul, Nat.reduceLeDiff, Nat.reduceEqDiff, reduceCtorEq, Nat.reduceSub, Int.reduceNeg, Nat.reduceMod, Nat.reduceBEq, Nat.reduceLT] <;> try simp only [qz] at hb))
      all_goals (try simp only [maxLen, Int.toNat_natCast] at *)
      all_goals first | rfl | omega | skip
      all_goals first | exact congrArg (fun z => T.v (Value.int .i64 z)) (hS_no hlt (fun qq => by first | (exact hb (congrArg (fun a : ByteArray => a) qq)))).symm | skip
      refine ⟨⟨i + 1, by omega, fun j hj => ?_⟩, by dsimp only; omega, ?_⟩
      · by_cases ej : j = i
        · rw [ej]; exact hb
        · exact hall j (by omega)
      · simp -implicitDefEqProofs only [go_sem, hh, Nat.reduceAdd, Nat.reduceMul, Nat.reduceLeDiff, Nat.reduceEqDiff, reduceCtorEq, Nat.reduceSub, Int.reduceNeg, Nat.reduceMod, Nat.reduceBEq, Nat.reduceLT]
        simp only [hst]
        repeat' (first | with_reducible apply And.intro | with_reducible intro _ | ((first | apply brB_split | apply aPickB_split | apply gB_split | apply adB_split) <;> intro hb <;> simp -implicitDefEqProofs only [hb, go_sem, hh, Nat.reduceAdd, Nat.reduceMul, Nat.reduceLeDiff, Nat.reduceEqDiff, reduceCtorEq, Nat.reduceSub, Int.reduceNeg, Nat.reduceMod, Nat.reduceBEq, Nat.reduceLT] <;> try simp only [qz] at hb))
        all_goals first | rfl | (simp; done) | (simp; omega)
    · simp -implicitDefEqProofs only [go_sem, hh, Nat.reduceAdd, Nat.reduceMul, Nat.reduceLeDiff, Nat.reduceEqDiff, reduceCtorEq, Nat.reduceSub, Int.reduceNeg, Nat.reduceMod, Nat.reduceBEq, Nat.reduceLT]
      repeat' (first | with_reducible apply And.intro | with_reducible intro _ | ((first | apply brB_split | apply aPickB_split | apply gB_split | apply adB_split) <;> intro hb <;> simp -implicitDefEqProofs only [hb, go_sem, hh, Nat.reduceAdd, Nat.reduceMul, Nat.reduceLeDiff, Nat.reduceEqDiff, reduceCtorEq, Nat.reduceSub, Int.reduceNeg, Nat.reduceMod, Nat.reduceBEq, Nat.reduceLT] <;> try simp only [qz] at hb))
      all_goals (try simp only [maxLen, Int.toNat_natCast] at *)
      all_goals first | rfl | omega | skip
      have : i = xs.length := by omega
      subst this
      rw [hS_yes hall, List.take_of_length_le (Nat.le_refl _)]
end
def c184 : Mt := ctM (lc (ERc.aow true 4) (lc AInt l0)) (fun p => 0 ≤ p.2.1 ∧ eS eRc p.2.1 p.1 ≤ 1000000000000000) (fun p => ([.o true 4 ((mkS mRc eRc p.2.1 p.1).map encRc), .t (.v (.int .i64 p.2.1))], .t (.v (.int .i64 (eS eRc p.2.1 p.1)))))
section
attribute [local go_sem] c127 aSet_map aCell_map List.map_replicate List.length_set List.length_map List.set_set AS.opn AS.cls
theorem good184 {G : Gt} (hG : OkG G) (hh : G.e 127 = roEnt 0 c127) : Gd G 184 (muEnt c184) := by
  refine gM (dp := fun _ => true) (fn := Tryz.f184) (n := 2) (fun _ => rfl) (by kernel_rfl) rfl (by kernel_rfl) hG (Nat.le_of_ble_eq_true rfl) (by kernel_rfl) ?_
  rintro ⟨xs, k, ⟨⟩⟩ hpre
  simp -implicitDefEqProofs only [Tryz.f184, go_sem, hh, Nat.reduceAdd, Nat.reduceMul, Nat.reduceLeDiff, Nat.reduceEqDiff, reduceCtorEq, Nat.reduceSub, Int.reduceNeg, Nat.reduceMod, Nat.reduceBEq, Nat.reduceLT] at hpre ⊢
  obtain ⟨hk0, hk1⟩ := hpre
  refine run_loop [] (ι := {i : Nat // i ≤ xs.length}) (fun p => ⟨[(0, .h 1900), (1, .t (.v (.int .i64 (eS eRc k (xs.take p.1))))), (5, .t (.v (.int .i64 p.1)))], [(1900, some (.arr true 4 ((mkTo mRc eRc k xs p.1).map encRc)))]⟩) (fun p => xs.length - p.1) ⟨0, by omega⟩ rfl ?_ ?_
  · simp -implicitDefEqProofs only [go_sem, hh, Nat.reduceAdd, Nat.reduceMul, Nat.reduceLeDiff, Nat.reduceEqDiff, reduceCtorEq, Nat.reduceSub, Int.reduceNeg, Nat.reduceMod, Nat.reduceBEq, Nat.reduceLT]
    simp [mkTo_0, eS]
  · rintro ⟨i, hi⟩
    have hl := mkTo_len (mk := mRc) (e := eRc) (k := k) hi
    have hq := eS_take (k := k) eRc_inc xs i
    by_cases hlt : i < xs.length
    · have hlm : i < ((mkTo mRc eRc k xs i).map encRc).length := by rw [List.length_map, hl]; exact hlt
      have hat := mkTo_at (mk := mRc) (e := eRc) (k := k) hlt
      have hst := eS_to (e := eRc) (k := k) hlt
      have hq2 := eS_take (k := k) eRc_inc xs (i + 1)
      simp only [eRc] at hst
      have hb1 : ((i : Int) < (xs.length : Int)) := by omega
      simp -implicitDefEqProofs only [go_sem, aSet_set hlm, aCell_set hlm, hl, hat, hb1, decide_true, Int.toNat_natCast, hh, Nat.reduceAdd, Nat.reduceMul, Nat.reduceLeDiff, Nat.reduceEqDiff, reduceCtorEq, Nat.reduceSub, Int.reduceNeg, Nat.reduceMod, Nat.reduceBEq, Nat.reduceLT]
      repeat' (first | with_reducible apply And.intro | with_reducible intro _ | ((first | apply brB_split | apply aPickB_split | apply gB_split | apply adB_split) <;> intro hb <;> simp -implicitDefEqProofs only [hb, go_sem, aSet_set hlm, aCell_set hlm, hl, hat, hb1, decide_true, Int.toNat_natCast, hh, Nat.reduceAdd, Nat.reduceMul, Nat.reduceLeDiff, Nat.reduceEqDiff, reduceCtorEq, Nat.reduceSub, Int.reduceNeg, Nat.reduceMod, Nat.reduceBEq, Nat.reduceLT] <;> try simp only [qz] at hb))
      all_goals (try simp only [maxLen] at *)
      all_goals first | rfl | omega | skip
      refine ⟨⟨i + 1, by omega⟩, by simp only []; omega, ?_⟩
      simp -implicitDefEqProofs only [go_sem, hh, Nat.reduceAdd, Nat.reduceMul, Nat.reduceLeDiff, Nat.reduceEqDiff, reduceCtorEq, Nat.reduceSub, Int.reduceNeg, Nat.reduceMod, Nat.reduceBEq, Nat.reduceLT]
      simp only [hst]
      repeat' (first | with_reducible apply And.intro | with_reducible intro _ | ((first | apply brB_split | apply aPickB_split | apply gB_split | apply adB_split) <;> intro hb <;> simp -implicitDefEqProofs only [hb, go_sem, hh, Nat.reduceAdd, Nat.reduceMul, Nat.reduceLeDiff, Nat.reduceEqDiff, reduceCtorEq, Nat.reduceSub, Int.reduceNeg, Nat.reduceMod, Nat.reduceBEq, Nat.reduceLT] <;> try simp only [qz] at hb))
      all_goals first
        | rfl
        | (simp; done)
        | (simp; omega)
        | (refine congrArg (fun l => Ob.arr true 4 l) ?_
           rw [set_Rc]
           exact congrArg (List.map encRc) (mkTo_set hlt rfl))
    · simp -implicitDefEqProofs only [hl, go_sem, hh, Nat.reduceAdd, Nat.reduceMul, Nat.reduceLeDiff, Nat.reduceEqDiff, reduceCtorEq, Nat.reduceSub, Int.reduceNeg, Nat.reduceMod, Nat.reduceBEq, Nat.reduceLT]
      repeat' (first | with_reducible apply And.intro | with_reducible intro _ | ((first | apply brB_split | apply aPickB_split | apply gB_split | apply adB_split) <;> intro hb <;> simp -implicitDefEqProofs only [hb, go_sem, hh, Nat.reduceAdd, Nat.reduceMul, Nat.reduceLeDiff, Nat.reduceEqDiff, reduceCtorEq, Nat.reduceSub, Int.reduceNeg, Nat.reduceMod, Nat.reduceBEq, Nat.reduceLT] <;> try simp only [qz] at hb))
      all_goals first | omega | (rw [mkTo_end (by omega)]; done) | (rw [List.take_of_length_le (by omega)]; done) | (simp; done) | skip
end
def c185 : Ct := ctR (lc ERc.asl (lc AInt l0)) (fun p => 0 ≤ p.2.1 ∧ eS eRc p.2.1 p.1 ≤ 1000000000000000) (fun p => .t (.v (.int .i64 (hS mRc eRc p.1 p.2.1))))
section
attribute [local go_sem] c127
theorem good185 {G : Gt} (hG : OkG G) (hh : G.e 127 = roEnt 0 c127) : Gd G 185 (roEnt 0 c185) := by
  refine gR (dp := fun _ => true) (fn := Tryz.f185) (n := 2) (fun _ => rfl) (by kernel_rfl) rfl (by kernel_rfl) hG (Nat.le_of_ble_eq_true rfl) (by kernel_rfl) (by decide) (fun _ _ => .v _) ?_
  rintro ⟨xs, k, ⟨⟩⟩ hpre
  simp -implicitDefEqProofs only [Tryz.f185, go_sem, hh, Nat.reduceAdd, Nat.reduceMul, Nat.reduceLeDiff, Nat.reduceEqDiff, reduceCtorEq, Nat.reduceSub, Int.reduceNeg, Nat.reduceMod, Nat.reduceBEq, Nat.reduceLT] at hpre ⊢
  obtain ⟨hk0, hk1⟩ := hpre
  refine run_loop [] (ι := {i : Nat // i ≤ xs.length ∧ ∀ j, j < i → xs.getD j default = mRc (xs.getD j default) (eS eRc k (xs.take j))}) (fun p => ⟨[(0, .t (.sl 4 (xs.map encRc))), (1, .t (.v (.int .i64 (eS eRc k (xs.take p.1))))), (5, .t (.v (.int .i64 p.1)))], []⟩) (fun p => xs.length - p.1) ⟨0, by simp, by simp⟩ rfl ?_ ?_
  · simp -implicitDefEqProofs only [go_sem, hh, Nat.reduceAdd, Nat.reduceMul, Nat.reduceLeDiff, Nat.reduceEqDiff, reduceCtorEq, Nat.reduceSub, Int.reduceNeg, Nat.reduceMod, Nat.reduceBEq, Nat.reduceLT]
    simp [eS]
  · rintro ⟨i, hi, hall⟩
    have hq := eS_take (k := k) eRc_inc xs i
    by_cases hlt : i < xs.length
    · have hst := eS_to (e := eRc) (k := k) hlt
      have hq2 := eS_take (k := k) eRc_inc xs (i + 1)
      simp only [eRc] at hst
      have hb1 : ((i : Int) < (xs.length : Int)) := by omega
      simp -implicitDefEqProofs only [hb1, decide_true, Int.toNat_natCast, go_sem, hh, Nat.reduceAdd, Nat.reduceMul, Nat.reduceLeDiff, Nat.reduceEqDiff, reduceCtorEq, Nat.reduceSub, Int.reduceNeg, Nat.reduceMod, Nat.reduceBEq, Nat.reduceLT]
      repeat' (first | with_reducible apply And.intro | with_reducible intro _ | ((first | apply brB_split | apply aPickB_split | apply gB_split | apply adB_split) <;> intro hb <;> simp -implicitDefEqProofs only [hb, go_sem, hh, Nat.reduceAdd, Nat.reduceMul, Nat.reduceLeDiff, Nat.reduceEqDiff, reduceCtorEq, Nat.reduceSub, Int.reduceNeg, Nat.reduceMod, Nat.reduceBEq, Nat.reduceLT] <;> try simp only [qz] at hb))
      all_goals (try simp only [maxLen, Int.toNat_natCast] at *)
      all_goals first | rfl | omega | skip
      all_goals first | exact congrArg (fun z => T.v (Value.int .i64 z)) (hS_no hlt (fun qq => by first | (exact hb (congrArg (fun a : Rc => a.addr.user) qq)) | (exact hb (congrArg (fun a : Rc => a.addr.domain) qq)) | (exact hb (congrArg (fun a : Rc => a.tries) qq)) | (exact hb (congrArg (fun a : Rc => a.next) qq)))).symm | skip
      refine ⟨⟨i + 1, by omega, fun j hj => ?_⟩, by dsimp only; omega, ?_⟩
      · by_cases ej : j = i
        · rw [ej]; exact (Rc_ext.2 ⟨(Ad_ext.2 ⟨(show (xs.getD i default).addr.user = mkT (eS eRc k (xs.take i)) from by assumption), (show (xs.getD i default).addr.domain = mkT ((eS eRc k (xs.take i)) + 1) from by assumption)⟩), (show (xs.getD i default).tries = (((eS eRc k (xs.take i)) + 1) + 1) from by assumption), (show (xs.getD i default).next = ((((eS eRc k (xs.take i)) + 1) + 1) + 1) from by assumption)⟩)
        · exact hall j (by omega)
      · simp -implicitDefEqProofs only [go_sem, hh, Nat.reduceAdd, Nat.reduceMul, Nat.reduceLeDiff, Nat.reduceEqDiff, reduceCtorEq, Nat.reduceSub, Int.reduceNeg, Nat.reduceMod, Nat.reduceBEq, Nat.reduceLT]
        simp only [hst]
        repeat' (first | with_reducible apply And.intro | with_reducible intro _ | ((first | apply brB_split | apply aPickB_split | apply gB_split | apply adB_split) <;> intro hb <;> simp -implicitDefEqProofs only [hb, go_sem, hh, Nat.reduceAdd, Nat.reduceMul, Nat.reduceLeDiff, Nat.reduceEqDiff, reduceCtorEq, Nat.reduceSub, Int.reduceNeg, Nat.reduceMod, Nat.reduceBEq, Nat.reduceLT] <;> try simp only [qz] at hb))
        all_goals first | rfl | (simp; done) | (simp; omega)
    · simp -implicitDefEqProofs only [go_sem, hh, Nat.reduceAdd, Nat.reduceMul, Nat.reduceLeDiff, Nat.reduceEqDiff, reduceCtorEq, Nat.reduceSub, Int.reduceNeg, Nat.reduceMod, Nat.reduceBEq, Nat.reduceLT]
      repeat' (first | with_reducible apply And.intro | with_reducible intro _ | ((first | apply brB_split | apply aPickB_split | apply gB_split | apply adB_split) <;> intro hb <;> simp -implicitDefEqProofs only [hb, go_sem, hh, Nat.reduceAdd, Nat.reduceMul, Nat.reduceLeDiff, Nat.reduceEqDiff, reduceCtorEq, Nat.reduceSub, Int.reduceNeg, Nat.reduceMod, Nat.reduceBEq, Nat.reduceLT] <;> try simp only [qz] at hb))
      all_goals (try simp only [maxLen, Int.toNat_natCast] at *)
      all_goals first | rfl | omega | skip
      have : i = xs.length := by omega
      subst this
      rw [hS_yes hall, List.take_of_length_le (Nat.le_refl _)]
end
def c126 : Mt := ctM (lc (EIm.aow true 5) (lc AInt l0)) (fun p => 0 ≤ p.2.1 ∧ eS eIm p.2.1 p.1 ≤ 1000000000000000) (fun p => ([.o true 5 ((mkS mIm eIm p.2.1 p.1).map encIm), .t (.v (.int .i64 p.2.1))], .t (.v (.int .i64 (eS eIm p.2.1 p.1)))))
section
attribute [local go_sem] c127 c184 c61 aSet_map aCell_map List.map_replicate List.length_set List.length_map List.set_set AS.opn AS.cls Bool.not_false Bool.not_true
theorem good126 {G : Gt} (hG : OkG G) (hh : G.e 127 = roEnt 0 c127 ∧ G.e 184 = muEnt c184 ∧ G.e 61 = muEnt c61) : Gd G 126 (muEnt c126) := by
  refine gM (dp := fun n => !(Nat.beq n 100010 || Nat.beq n 100011 || Nat.beq n 100003)) (fn := Tryz.f126) (n := 2) (fun _ => rfl) (by kernel_rfl) rfl (by kernel_rfl) hG (Nat.le_of_ble_eq_true rfl) (by kernel_rfl) ?_
  rintro ⟨xs, k, ⟨⟩⟩ hpre
  simp -implicitDefEqProofs only [Tryz.f126, go_sem, hh, Nat.reduceAdd, Nat.reduceMul, Nat.reduceLeDiff, Nat.reduceEqDiff, reduceCtorEq, Nat.reduceSub, Int.reduceNeg, Nat.reduceMod, Nat.reduceBEq, Nat.reduceLT] at hpre ⊢
  obtain ⟨hk0, hk1⟩ := hpre
  refine run_loop [] (ι := {i : Nat // i ≤ xs.length}) (fun p => ⟨[(0, .h 1900), (1, .t (.v (.int .i64 (eS eIm k (xs.take p.1))))), (5, .t (.v (.int .i64 p.1)))], [(1900, some (.arr true 5 ((mkTo mIm eIm k xs p.1).map encIm)))]⟩) (fun p => xs.length - p.1) ⟨0, by omega⟩ rfl ?_ ?_
  · simp -implicitDefEqProofs only [go_sem, hh, Nat.reduceAdd, Nat.reduceMul, Nat.reduceLeDiff, Nat.reduceEqDiff, reduceCtorEq, Nat.reduceSub, Int.reduceNeg, Nat.reduceMod, Nat.reduceBEq, Nat.reduceLT]
    simp [mkTo_0, eS]
  · rintro ⟨i, hi⟩
    have hl := mkTo_len (mk := mIm) (e := eIm) (k := k) hi
    have hq := eS_take (k := k) eIm_inc xs i
    by_cases hlt : i < xs.length
    · have hlm : i < ((mkTo mIm eIm k xs i).map encIm).length := by rw [List.length_map, hl]; exact hlt
      have hat := mkTo_at (mk := mIm) (e := eIm) (k := k) hlt
      have hst := eS_to (e := eIm) (k := k) hlt
      have hq2 := eS_take (k := k) eIm_inc xs (i + 1)
      simp only [eIm] at hst
      have hr0 := eS_le eRc_inc (xs.getD i default).to ((((eS eIm k (xs.take i)) + 1) + 1) + 1)
      have hr1 := eS_le eStr_inc (xs.getD i default).body (eS eRc ((((eS eIm k (xs.take i)) + 1) + 1) + 1) (xs.getD i default).to)
      have hb1 : ((i : Int) < (xs.length : Int)) := by omega
      simp -implicitDefEqProofs only [go_sem, aSet_set hlm, aCell_set hlm, hl, hat, hb1, decide_true, Int.toNat_natCast, hh, Nat.reduceAdd, Nat.reduceMul, Nat.reduceLeDiff, Nat.reduceEqDiff, reduceCtorEq, Nat.reduceSub, Int.reduceNeg, Nat.reduceMod, Nat.reduceBEq, Nat.reduceLT]
      repeat' (first | with_reducible apply And.intro | with_reducible intro _ | ((first | apply brB_split | apply aPickB_split | apply gB_split | apply adB_split) <;> intro hb <;> simp -implicitDefEqProofs only [hb, go_sem, aSet_set hlm, aCell_set hlm, hl, hat, hb1, decide_true, Int.toNat_natCast, hh, Nat.reduceAdd, Nat.reduceMul, Nat.reduceLeDiff, Nat.reduceEqDiff, reduceCtorEq, Nat.reduceSub, Int.reduceNeg, Nat.reduceMod, Nat.reduceBEq, Nat.reduceLT] <;> try simp only [qz] at hb))
      all_goals (try simp only [maxLen] at *)
      all_goals first | rfl | omega | skip
      refine run_open 1900 1901 2901 i 3 rfl (set_get hlm _) rfl rfl fun x0 => run_go ?_
      simp -implicitDefEqProofs only [go_sem, aSet_set hlm, aCell_set hlm, hl, hat, hb1, decide_true, Int.toNat_natCast, hh, Nat.reduceAdd, Nat.reduceMul, Nat.reduceLeDiff, Nat.reduceEqDiff, reduceCtorEq, Nat.reduceSub, Int.reduceNeg, Nat.reduceMod, Nat.reduceBEq, Nat.reduceLT]
      repeat' (first | with_reducible apply And.intro | with_reducible intro _ | ((first | apply brB_split | apply aPickB_split | apply gB_split | apply adB_split) <;> intro hb <;> simp -implicitDefEqProofs only [hb, go_sem, aSet_set hlm, aCell_set hlm, hl, hat, hb1, decide_true, Int.toNat_natCast, hh, Nat.reduceAdd, Nat.reduceMul, Nat.reduceLeDiff, Nat.reduceEqDiff, reduceCtorEq, Nat.reduceSub, Int.reduceNeg, Nat.reduceMod, Nat.reduceBEq, Nat.reduceLT] <;> try simp only [qz] at hb))
      all_goals (try simp only [maxLen] at *)
      all_goals first | rfl | omega | skip
      refine run_open 1900 1902 2902 i 4 rfl (set_get hlm _) rfl rfl fun x1 => run_go ?_
      simp -implicitDefEqProofs only [go_sem, aSet_set hlm, aCell_set hlm, hl, hat, hb1, decide_true, Int.toNat_natCast, hh, Nat.reduceAdd, Nat.reduceMul, Nat.reduceLeDiff, Nat.reduceEqDiff, reduceCtorEq, Nat.reduceSub, Int.reduceNeg, Nat.reduceMod, Nat.reduceBEq, Nat.reduceLT]
      repeat' (first | with_reducible apply And.intro | with_reducible intro _ | ((first | apply brB_split | apply aPickB_split | apply gB_split | apply adB_split) <;> intro hb <;> simp -implicitDefEqProofs only [hb, go_sem, aSet_set hlm, aCell_set hlm, hl, hat, hb1, decide_true, Int.toNat_natCast, hh, Nat.reduceAdd, Nat.reduceMul, Nat.reduceLeDiff, Nat.reduceEqDiff, reduceCtorEq, Nat.reduceSub, Int.reduceNeg, Nat.reduceMod, Nat.reduceBEq, Nat.reduceLT] <;> try simp only [qz] at hb))
      all_goals (try simp only [maxLen] at *)
      all_goals first | rfl | omega | skip
      refine run_close 1900 1901 2901 i 3 rfl (set_get hlm _) rfl rfl rfl rfl ?_
      simp -implicitDefEqProofs only [go_sem, aSet_set hlm, aCell_set hlm, hl, hat, hb1, decide_true, Int.toNat_natCast, hh, Nat.reduceAdd, Nat.reduceMul, Nat.reduceLeDiff, Nat.reduceEqDiff, reduceCtorEq, Nat.reduceSub, Int.reduceNeg, Nat.reduceMod, Nat.reduceBEq, Nat.reduceLT]
      refine run_close 1900 1902 2902 i 4 rfl (set_get hlm _) rfl rfl rfl rfl ?_
      simp -implicitDefEqProofs only [go_sem, aSet_set hlm, aCell_set hlm, hl, hat, hb1, decide_true, Int.toNat_natCast, hh, Nat.reduceAdd, Nat.reduceMul, Nat.reduceLeDiff, Nat.reduceEqDiff, reduceCtorEq, Nat.reduceSub, Int.reduceNeg, Nat.reduceMod, Nat.reduceBEq, Nat.reduceLT]
      refine run_go ?_
      simp -implicitDefEqProofs only [go_sem, aSet_set hlm, aCell_set hlm, hl, hat, hb1, decide_true, Int.toNat_natCast, hh, Nat.reduceAdd, Nat.reduceMul, Nat.reduceLeDiff, Nat.reduceEqDiff, reduceCtorEq, Nat.reduceSub, Int.reduceNeg, Nat.reduceMod, Nat.reduceBEq, Nat.reduceLT]
      repeat' (first | with_reducible apply And.intro | with_reducible intro _ | ((first | apply brB_split | apply aPickB_split | apply gB_split | apply adB_split) <;> intro hb <;> simp -implicitDefEqProofs only [hb, go_sem, aSet_set hlm, aCell_set hlm, hl, hat, hb1, decide_true, Int.toNat_natCast, hh, Nat.reduceAdd, Nat.reduceMul, Nat.reduceLeDiff, Nat.reduceEqDiff, reduceCtorEq, Nat.reduceSub, Int.reduceNeg, Nat.reduceMod, Nat.reduceBEq, Nat.reduceLT] <;> try simp only [qz] at hb))
      all_goals first | rfl | omega | skip
      refine ⟨⟨i + 1, by omega⟩, by simp only []; omega, ?_⟩
      simp -implicitDefEqProofs only [go_sem, hh, Nat.reduceAdd, Nat.reduceMul, Nat.reduceLeDiff, Nat.reduceEqDiff, reduceCtorEq, Nat.reduceSub, Int.reduceNeg, Nat.reduceMod, Nat.reduceBEq, Nat.reduceLT]
      simp only [hst]
      repeat' (first | with_reducible apply And.intro | with_reducible intro _ | ((first | apply brB_split | apply aPickB_split | apply gB_split | apply adB_split) <;> intro hb <;> simp -implicitDefEqProofs only [hb, go_sem, hh, Nat.reduceAdd, Nat.reduceMul, Nat.reduceLeDiff, Nat.reduceEqDiff, reduceCtorEq, Nat.reduceSub, Int.reduceNeg, Nat.reduceMod, Nat.reduceBEq, Nat.reduceLT] <;> try simp only [qz] at hb))
      all_goals first
        | rfl
        | (simp; done)
        | (simp; omega)
        | (refine congrArg (fun l => Ob.arr true 5 l) ?_
           rw [set_Im]
           exact congrArg (List.map encIm) (mkTo_set hlt rfl))
    · simp -implicitDefEqProofs only [hl, go_sem, hh, Nat.reduceAdd, Nat.reduceMul, Nat.reduceLeDiff, Nat.reduceEqDiff, reduceCtorEq, Nat.reduceSub, Int.reduceNeg, Nat.reduceMod, Nat.reduceBEq, Nat.reduceLT]
      repeat' (first | with_reducible apply And.intro | with_reducible intro _ | ((first | apply brB_split | apply aPickB_split | apply gB_split | apply adB_split) <;> intro hb <;> simp -implicitDefEqProofs only [hb, go_sem, hh, Nat.reduceAdd, Nat.reduceMul, Nat.reduceLeDiff, Nat.reduceEqDiff, reduceCtorEq, Nat.reduceSub, Int.reduceNeg, Nat.reduceMod, Nat.reduceBEq, Nat.reduceLT] <;> try simp only [qz] at hb))
      all_goals first | omega | (rw [mkTo_end (by omega)]; done) | (rw [List.take_of_length_le (by omega)]; done) | (simp; done) | skip
end
def c131 : Ct := ctR (lc EIm.asl (lc AInt l0)) (fun p => 0 ≤ p.2.1 ∧ eS eIm p.2.1 p.1 ≤ 1000000000000000) (fun p => .t (.v (.int .i64 (hS mIm eIm p.1 p.2.1))))
section
attribute [local go_sem] c127 c185 c129
theorem good131 {G : Gt} (hG : OkG G) (hh : G.e 127 = roEnt 0 c127 ∧ G.e 185 = roEnt 0 c185 ∧ G.e 129 = roEnt 0 c129) : Gd G 131 (roEnt 0 c131) := by
  refine gR (dp := fun _ => true) (fn := Tryz.f131) (n := 2) (fun _ => rfl) (by kernel_rfl) rfl (by kernel_rfl) hG (Nat.le_of_ble_eq_true rfl) (by kernel_rfl) (by decide) (fun _ _ => .v _) ?_
  rintro ⟨xs, k, ⟨⟩⟩ hpre
  simp -implicitDefEqProofs only [Tryz.f131, go_sem, hh, Nat.reduceAdd, Nat.reduceMul, Nat.reduceLeDiff, Nat.reduceEqDiff, reduceCtorEq, Nat.reduceSub, Int.reduceNeg, Nat.reduceMod, Nat.reduceBEq, Nat.reduceLT] at hpre ⊢
  obtain ⟨hk0, hk1⟩ := hpre
  refine run_loop [] (ι := {i : Nat // i ≤ xs.length ∧ ∀ j, j < i → xs.getD j default = mIm (xs.getD j default) (eS eIm k (xs.take j))}) (fun p => ⟨[(0, .t (.sl 5 (xs.map encIm))), (1, .t (.v (.int .i64 (eS eIm k (xs.take p.1))))), (5, .t (.v (.int .i64 p.1)))], []⟩) (fun p => xs.length - p.1) ⟨0, by simp, by simp⟩ rfl ?_ ?_
  · simp -implicitDefEqProofs only [go_sem, hh, Nat.reduceAdd, Nat.reduceMul, Nat.reduceLeDiff, Nat.reduceEqDiff, reduceCtorEq, Nat.reduceSub, Int.reduceNeg, Nat.reduceMod, Nat.reduceBEq, Nat.reduceLT]
    simp [eS]
  · rintro ⟨i, hi, hall⟩
    have hq := eS_take (k := k) eIm_inc xs i
    by_cases hlt : i < xs.length
    · have hst := eS_to (e := eIm) (k := k) hlt
      have hq2 := eS_take (k := k) eIm_inc xs (i + 1)
      simp only [eIm] at hst
      have hr0 := eS_le eRc_inc (xs.getD i default).to ((((eS eIm k (xs.take i)) + 1) + 1) + 1)
      have hr1 := eS_le eStr_inc (xs.getD i default).body (eS eRc ((((eS eIm k (xs.take i)) + 1) + 1) + 1) (xs.getD i default).to)
      have hb1 : ((i : Int) < (xs.length : Int)) := by omega
      simp -implicitDefEqProofs only [hb1, decide_true, Int.toNat_natCast, go_sem, hh, Nat.reduceAdd, Nat.reduceMul, Nat.reduceLeDiff, Nat.reduceEqDiff, reduceCtorEq, Nat.reduceSub, Int.reduceNeg, Nat.reduceMod, Nat.reduceBEq, Nat.reduceLT]
      repeat' (first | with_reducible apply And.intro | with_reducible intro _ | ((first | apply brB_split | apply aPickB_split | apply gB_split | apply adB_split) <;> intro hb <;> simp -implicitDefEqProofs only [hb, go_sem, hh, Nat.reduceAdd, Nat.reduceMul, Nat.reduceLeDiff, Nat.reduceEqDiff, reduceCtorEq, Nat.reduceSub, Int.reduceNeg, Nat.reduceMod, Nat.reduceBEq, Nat.reduceLT] <;> try simp only [qz] at hb))
      all_goals (try simp only [maxLen, Int.toNat_natCast] at *)
      all_goals first | rfl | omega | skip
      all_goals first | exact congrArg (fun z => T.v (Value.int .i64 z)) (hS_no hlt (fun qq => by first | (exact hb (congrArg (fun a : Im => a.id) qq)) | (exact hb (congrArg (fun a : Im => a.frm.user) qq)) | (exact hb (congrArg (fun a : Im => a.frm.domain) qq)) | (exact hS_ne hb (by omega) eRc_inc (congrArg (fun a : Im => a.to) qq)) | (rw [hS_eq (mk := mRc) (congrArg (fun a : Im => a.to) qq)] at hb; exact hS_ne hb (by omega) eStr_inc (congrArg (fun a : Im => a.body) qq)))).symm | skip
      all_goals (try (obtain ⟨u0, v0⟩ := hS_pos (show ¬ hS mRc eRc (xs.getD i default).to ((((eS eIm k (xs.take i)) + 1) + 1) + 1) < 0 from by assumption); simp only [v0] at *))
      all_goals first | rfl | omega | skip
      all_goals (try (obtain ⟨u1, v1⟩ := hS_pos (show ¬ hS mStr eStr (xs.getD i default).body (eS eRc ((((eS eIm k (xs.take i)) + 1) + 1) + 1) (xs.getD i default).to) < 0 from by assumption); simp only [v1] at *))
      all_goals first | rfl | omega | skip
      refine ⟨⟨i + 1, by omega, fun j hj => ?_⟩, by dsimp only; omega, ?_⟩
      · by_cases ej : j = i
        · rw [ej]; exact (Im_ext.2 ⟨(show (xs.getD i default).id = (eS eIm k (xs.take i)) from by assumption), (Ad_ext.2 ⟨(show (xs.getD i default).frm.user = mkT ((eS eIm k (xs.take i)) + 1) from by assumption), (show (xs.getD i default).frm.domain = mkT (((eS eIm k (xs.take i)) + 1) + 1) from by assumption)⟩), (show (xs.getD i default).to = mkS mRc eRc ((((eS eIm k (xs.take i)) + 1) + 1) + 1) (xs.getD i default).to from by assumption), (show (xs.getD i default).body = mkS mStr eStr (eS eRc ((((eS eIm k (xs.take i)) + 1) + 1) + 1) (xs.getD i default).to) (xs.getD i default).body from by assumption)⟩)
        · exact hall j (by omega)
      · simp -implicitDefEqProofs only [go_sem, hh, Nat.reduceAdd, Nat.reduceMul, Nat.reduceLeDiff, Nat.reduceEqDiff, reduceCtorEq, Nat.reduceSub, Int.reduceNeg, Nat.reduceMod, Nat.reduceBEq, Nat.reduceLT]
        simp only [hst]
        repeat' (first | with_reducible apply And.intro | with_reducible intro _ | ((first | apply brB_split | apply aPickB_split | apply gB_split | apply adB_split) <;> intro hb <;> simp -implicitDefEqProofs only [hb, go_sem, hh, Nat.reduceAdd, Nat.reduceMul, Nat.reduceLeDiff, Nat.reduceEqDiff, reduceCtorEq, Nat.reduceSub, Int.reduceNeg, Nat.reduceMod, Nat.reduceBEq, Nat.reduceLT] <;> try simp only [qz] at hb))
        all_goals first | rfl | (simp; done) | (simp; omega)
    · simp -implicitDefEqProofs only [go_sem, hh, Nat.reduceAdd, Nat.reduceMul, Nat.reduceLeDiff, Nat.reduceEqDiff, reduceCtorEq, Nat.reduceSub, Int.reduceNeg, Nat.reduceMod, Nat.reduceBEq, Nat.reduceLT]
      repeat' (first | with_reducible apply And.intro | with_reducible intro _ | ((first | apply brB_split | apply aPickB_split | apply gB_split | apply adB_split) <;> intro hb <;> simp -implicitDefEqProofs only [hb, go_sem, hh, Nat.reduceAdd, Nat.reduceMul, Nat.reduceLeDiff, Nat.reduceEqDiff, reduceCtorEq, Nat.reduceSub, Int.reduceNeg, Nat.reduceMod, Nat.reduceBEq, Nat.reduceLT] <;> try simp only [qz] at hb))
      all_goals (try simp only [maxLen, Int.toNat_natCast] at *)
      all_goals first | rfl | omega | skip
      have : i = xs.length := by omega
      subst this
      rw [hS_yes hall, List.take_of_length_le (Nat.le_refl _)]
end
def c125 : Mt := ctM (lc (EWy.aow true 2) (lc AInt l0)) (fun p => 0 ≤ p.2.1 ∧ eS eWy p.2.1 p.1 ≤ 1000000000000000) (fun p => ([.o true 2 ((mkS mWy eWy p.2.1 p.1).map encWy), .t (.v (.int .i64 p.2.1))], .t (.v (.int .i64 (eS eWy p.2.1 p.1)))))
section
attribute [local go_sem] c127 aSet_map aCell_map List.map_replicate List.length_set List.length_map List.set_set AS.opn AS.cls
theorem good125 {G : Gt} (hG : OkG G) (hh : G.e 127 = roEnt 0 c127) : Gd G 125 (muEnt c125) := by
  refine gM (dp := fun _ => true) (fn := Tryz.f125) (n := 2) (fun _ => rfl) (by kernel_rfl) rfl (by kernel_rfl) hG (Nat.le_of_ble_eq_true rfl) (by kernel_rfl) ?_
  rintro ⟨xs, k, ⟨⟩⟩ hpre
  simp -implicitDefEqProofs only [Tryz.f125, go_sem, hh, Nat.reduceAdd, Nat.reduceMul, Nat.reduceLeDiff, Nat.reduceEqDiff, reduceCtorEq, Nat.reduceSub, Int.reduceNeg, Nat.reduceMod, Nat.reduceBEq, Nat.reduceLT] at hpre ⊢
  obtain ⟨hk0, hk1⟩ := hpre
  refine run_loop [] (ι := {i : Nat // i ≤ xs.length}) (fun p => ⟨[(0, .h 1900), (1, .t (.v (.int .i64 (eS eWy k (xs.take p.1))))), (5, .t (.v (.int .i64 p.1)))], [(1900, some (.arr true 2 ((mkTo mWy eWy k xs p.1).map encWy)))]⟩) (fun p => xs.length - p.1) ⟨0, by omega⟩ rfl ?_ ?_
  · simp -implicitDefEqProofs only [go_sem, hh, Nat.reduceAdd, Nat.reduceMul, Nat.reduceLeDiff, Nat.reduceEqDiff, reduceCtorEq, Nat.reduceSub, Int.reduceNeg, Nat.reduceMod, Nat.reduceBEq, Nat.reduceLT]
    simp [mkTo_0, eS]
  · rintro ⟨i, hi⟩
    have hl := mkTo_len (mk := mWy) (e := eWy) (k := k) hi
    have hq := eS_take (k := k) eWy_inc xs i
    by_cases hlt : i < xs.length
    · have hlm : i < ((mkTo mWy eWy k xs i).map encWy).length := by rw [List.length_map, hl]; exact hlt
      have hat := mkTo_at (mk := mWy) (e := eWy) (k := k) hlt
      have hst := eS_to (e := eWy) (k := k) hlt
      have hq2 := eS_take (k := k) eWy_inc xs (i + 1)
      simp only [eWy] at hst
      have hb1 : ((i : Int) < (xs.length : Int)) := by omega
      simp -implicitDefEqProofs only [go_sem, aSet_set hlm, aCell_set hlm, hl, hat, hb1, decide_true, Int.toNat_natCast, hh, Nat.reduceAdd, Nat.reduceMul, Nat.reduceLeDiff, Nat.reduceEqDiff, reduceCtorEq, Nat.reduceSub, Int.reduceNeg, Nat.reduceMod, Nat.reduceBEq, Nat.reduceLT]
      repeat' (first | with_reducible apply And.intro | with_reducible intro _ | ((first | apply brB_split | apply aPickB_split | apply gB_split | apply adB_split) <;> intro hb <;> simp -implicitDefEqProofs only [hb, go_sem, aSet_set hlm, aCell_set hlm, hl, hat, hb1, decide_true, Int.toNat_natCast, hh, Nat.reduceAdd, Nat.reduceMul, Nat.reduceLeDiff, Nat.reduceEqDiff, reduceCtorEq, Nat.reduceSub, Int.reduceNeg, Nat.reduceMod, Nat.reduceBEq, Nat.reduceLT] <;> try simp only [qz] at hb))
      all_goals (try simp only [maxLen] at *)
      all_goals first | rfl | omega | skip
      refine ⟨⟨i + 1, by omega⟩, by simp only []; omega, ?_⟩
      simp -implicitDefEqProofs only [go_sem, hh, Nat.reduceAdd, Nat.reduceMul, Nat.reduceLeDiff, Nat.reduceEqDiff, reduceCtorEq, Nat.reduceSub, Int.reduceNeg, Nat.reduceMod, Nat.reduceBEq, Nat.reduceLT]
      simp only [hst]
      repeat' (first | with_reducible apply And.intro | with_reducible intro _ | ((first | apply brB_split | apply aPickB_split | apply gB_split | apply adB_split) <;> intro hb <;> simp -implicitDefEqProofs only [hb, go_sem, hh, Nat.reduceAdd, Nat.reduceMul, Nat.reduceLeDiff, Nat.reduceEqDiff, reduceCtorEq, Nat.reduceSub, Int.reduceNeg, Nat.reduceMod, Nat.reduceBEq, Nat.reduceLT] <;> try simp only [qz] at hb))
      all_goals first
        | rfl
        | (simp; done)
        | (simp; omega)
        | (refine congrArg (fun l => Ob.arr true 2 l) ?_
           rw [set_Wy]
           exact congrArg (List.map encWy) (mkTo_set hlt rfl))
    · simp -implicitDefEqProofs only [hl, go_sem, hh, Nat.reduceAdd, Nat.reduceMul, Nat.reduceLeDiff, Nat.reduceEqDiff, reduceCtorEq, Nat.reduceSub, Int.reduceNeg, Nat.reduceMod, Nat.reduceBEq, Nat.reduceLT]
      repeat' (first | with_reducible apply And.intro | with_reducible intro _ | ((first | apply brB_split | apply aPickB_split | apply gB_split | apply adB_split) <;> intro hb <;> simp -implicitDefEqProofs only [hb, go_sem, hh, Nat.reduceAdd, Nat.reduceMul, Nat.reduceLeDiff, Nat.reduceEqDiff, reduceCtorEq, Nat.reduceSub, Int.reduceNeg, Nat.reduceMod, Nat.reduceBEq, Nat.reduceLT] <;> try simp only [qz] at hb))
      all_goals first | omega | (rw [mkTo_end (by omega)]; done) | (rw [List.take_of_length_le (by omega)]; done) | (simp; done) | skip
end
def c130 : Ct := ctR (lc EWy.asl (lc AInt l0)) (fun p => 0 ≤ p.2.1 ∧ eS eWy p.2.1 p.1 ≤ 1000000000000000) (fun p => .t (.v (.int .i64 (hS mWy eWy p.1 p.2.1))))
section
attribute [local go_sem] c127
theorem good130 {G : Gt} (hG : OkG G) (hh : G.e 127 = roEnt 0 c127) : Gd G 130 (roEnt 0 c130) := by
  refine gR (dp := fun _ => true) (fn := Tryz.f130) (n := 2) (fun _ => rfl) (by kernel_rfl) rfl (by kernel_rfl) hG (Nat.le_of_ble_eq_true rfl) (by kernel_rfl) (by decide) (fun _ _ => .v _) ?_
  rintro ⟨xs, k, ⟨⟩⟩ hpre
  simp -implicitDefEqProofs only [Tryz.f130, go_sem, hh, Nat.reduceAdd, Nat.reduceMul, Nat.reduceLeDiff, Nat.reduceEqDiff, reduceCtorEq, Nat.reduceSub, Int.reduceNeg, Nat.reduceMod, Nat.reduceBEq, Nat.reduceLT] at hpre ⊢
  obtain ⟨hk0, hk1⟩ := hpre
  refine run_loop [] (ι := {i : Nat // i ≤ xs.length ∧ ∀ j, j < i → xs.getD j default = mWy (xs.getD j default) (eS eWy k (xs.take j))}) (fun p => ⟨[(0, .t (.sl 2 (xs.map encWy))), (1, .t (.v (.int .i64 (eS eWy k (xs.take p.1))))), (5, .t (.v (.int .i64 p.1)))], []⟩) (fun p => xs.length - p.1) ⟨0, by simp, by simp⟩ rfl ?_ ?_
  · simp -implicitDefEqProofs only [go_sem, hh, Nat.reduceAdd, Nat.reduceMul, Nat.reduceLeDiff, Nat.reduceEqDiff, reduceCtorEq, Nat.reduceSub, Int.reduceNeg, Nat.reduceMod, Nat.reduceBEq, Nat.reduceLT]
    simp [eS]
  · rintro ⟨i, hi, hall⟩
    have hq := eS_take (k := k) eWy_inc xs i
    by_cases hlt : i < xs.length
    · have hst := eS_to (e := eWy) (k := k) hlt
      have hq2 := eS_take (k := k) eWy_inc xs (i + 1)
      simp only [eWy] at hst
      have hb1 : ((i : Int) < (xs.length : Int)) := by omega
      simp -implicitDefEqProofs only [hb1, decide_true, Int.toNat_natCast, go_sem, hh, Nat.reduceAdd, Nat.reduceMul, Nat.reduceLeDiff, Nat.reduceEqDiff, reduceCtorEq, Nat.reduceSub, Int.reduceNeg, Nat.reduceMod, Nat.reduceBEq, Nat.reduceLT]
      repeat' (first | with_reducible apply And.intro | with_reducible intro _ | ((first | apply brB_split | apply aPickB_split | apply gB_split | apply adB_split) <;> intro hb <;> simp -implicitDefEqProofs only [hb, go_sem, hh, Nat.reduceAdd, Nat.reduceMul, Nat.reduceLeDiff, Nat.reduceEqDiff, reduceCtorEq, Nat.reduceSub, Int.reduceNeg, Nat.reduceMod, Nat.reduceBEq, Nat.reduceLT] <;> try simp only [qz] at hb))
      all_goals (try simp only [maxLen, Int.toNat_natCast] at *)
      all_goals first | rfl | omega | skip
      all_goals first | exact congrArg (fun z => T.v (Value.int .i64 z)) (hS_no hlt (fun qq => by first | (exact hb (congrArg (fun a : Wy => a.ends) qq)) | (exact hb (congrArg (fun a : Wy => a.to) qq)))).symm | skip
      refine ⟨⟨i + 1, by omega, fun j hj => ?_⟩, by dsimp only; omega, ?_⟩
      · by_cases ej : j = i
        · rw [ej]; exact (Wy_ext.2 ⟨(show (xs.getD i default).ends = mkT (eS eWy k (xs.take i)) from by assumption), (show (xs.getD i default).to = mkT ((eS eWy k (xs.take i)) + 1) from by assumption)⟩)
        · exact hall j (by omega)
      · simp -implicitDefEqProofs only [go_sem, hh, Nat.reduceAdd, Nat.reduceMul, Nat.reduceLeDiff, Nat.reduceEqDiff, reduceCtorEq, Nat.reduceSub, Int.reduceNeg, Nat.reduceMod, Nat.reduceBEq, Nat.reduceLT]
        simp only [hst]
        repeat' (first | with_reducible apply And.intro | with_reducible intro _ | ((first | apply brB_split | apply aPickB_split | apply gB_split | apply adB_split) <;> intro hb <;> simp -implicitDefEqProofs only [hb, go_sem, hh, Nat.reduceAdd, Nat.reduceMul, Nat.reduceLeDiff, Nat.reduceEqDiff, reduceCtorEq, Nat.reduceSub, Int.reduceNeg, Nat.reduceMod, Nat.reduceBEq, Nat.reduceLT] <;> try simp only [qz] at hb))
        all_goals first | rfl | (simp; done) | (simp; omega)
    · simp -implicitDefEqProofs only [go_sem, hh, Nat.reduceAdd, Nat.reduceMul, Nat.reduceLeDiff, Nat.reduceEqDiff, reduceCtorEq, Nat.reduceSub, Int.reduceNeg, Nat.reduceMod, Nat.reduceBEq, Nat.reduceLT]
      repeat' (first | with_reducible apply And.intro | with_reducible intro _ | ((first | apply brB_split | apply aPickB_split | apply gB_split | apply adB_split) <;> intro hb <;> simp -implicitDefEqProofs only [hb, go_sem, hh, Nat.reduceAdd, Nat.reduceMul, Nat.reduceLeDiff, Nat.reduceEqDiff, reduceCtorEq, Nat.reduceSub, Int.reduceNeg, Nat.reduceMod, Nat.reduceBEq, Nat.reduceLT] <;> try simp only [qz] at hb))
      all_goals (try simp only [maxLen, Int.toNat_natCast] at *)
      all_goals first | rfl | omega | skip
      have : i = xs.length := by omega
      subst this
      rw [hS_yes hall, List.take_of_length_le (Nat.le_refl _)]
end
def c128 : Mt := ctM (lc (EGm.aow true 3) (lc AInt l0)) (fun p => 0 ≤ p.2.1 ∧ eS eGm p.2.1 p.1 ≤ 1000000000000000) (fun p => ([.o true 3 ((mkS mGm eGm p.2.1 p.1).map encGm), .t (.v (.int .i64 p.2.1))], .t (.v (.int .i64 (eS eGm p.2.1 p.1)))))
section
attribute [local go_sem] c127 c61 aSet_map aCell_map List.map_replicate List.length_set List.length_map List.set_set AS.opn AS.cls Bool.not_false Bool.not_true
theorem good128 {G : Gt} (hG : OkG G) (hh : G.e 127 = roEnt 0 c127 ∧ G.e 61 = muEnt c61) : Gd G 128 (muEnt c128) := by
  refine gM (dp := fun n => !(Nat.beq n 100008 || Nat.beq n 100003)) (fn := Tryz.f128) (n := 2) (fun _ => rfl) (by kernel_rfl) rfl (by kernel_rfl) hG (Nat.le_of_ble_eq_true rfl) (by kernel_rfl) ?_
  rintro ⟨xs, k, ⟨⟩⟩ hpre
  simp -implicitDefEqProofs only [Tryz.f128, go_sem, hh, Nat.reduceAdd, Nat.reduceMul, Nat.reduceLeDiff, Nat.reduceEqDiff, reduceCtorEq, Nat.reduceSub, Int.reduceNeg, Nat.reduceMod, Nat.reduceBEq, Nat.reduceLT] at hpre ⊢
  obtain ⟨hk0, hk1⟩ := hpre
  refine run_loop [] (ι := {i : Nat // i ≤ xs.length}) (fun p => ⟨[(0, .h 1900), (1, .t (.v (.int .i64 (eS eGm k (xs.take p.1))))), (5, .t (.v (.int .i64 p.1)))], [(1900, some (.arr true 3 ((mkTo mGm eGm k xs p.1).map encGm)))]⟩) (fun p => xs.length - p.1) ⟨0, by omega⟩ rfl ?_ ?_
  · simp -implicitDefEqProofs only [go_sem, hh, Nat.reduceAdd, Nat.reduceMul, Nat.reduceLeDiff, Nat.reduceEqDiff, reduceCtorEq, Nat.reduceSub, Int.reduceNeg, Nat.reduceMod, Nat.reduceBEq, Nat.reduceLT]
    simp [mkTo_0, eS]
  · rintro ⟨i, hi⟩
    have hl := mkTo_len (mk := mGm) (e := eGm) (k := k) hi
    have hq := eS_take (k := k) eGm_inc xs i
    by_cases hlt : i < xs.length
    · have hlm : i < ((mkTo mGm eGm k xs i).map encGm).length := by rw [List.length_map, hl]; exact hlt
      have hat := mkTo_at (mk := mGm) (e := eGm) (k := k) hlt
      have hst := eS_to (e := eGm) (k := k) hlt
      have hq2 := eS_take (k := k) eGm_inc xs (i + 1)
      simp only [eGm] at hst
      have hr0 := eS_le eStr_inc (xs.getD i default).body (((eS eGm k (xs.take i)) + 1) + 1)
      have hb1 : ((i : Int) < (xs.length : Int)) := by omega
      simp -implicitDefEqProofs only [go_sem, aSet_set hlm, aCell_set hlm, hl, hat, hb1, decide_true, Int.toNat_natCast, hh, Nat.reduceAdd, Nat.reduceMul, Nat.reduceLeDiff, Nat.reduceEqDiff, reduceCtorEq, Nat.reduceSub, Int.reduceNeg, Nat.reduceMod, Nat.reduceBEq, Nat.reduceLT]
      repeat' (first | with_reducible apply And.intro | with_reducible intro _ | ((first | apply brB_split | apply aPickB_split | apply gB_split | apply adB_split) <;> intro hb <;> simp -implicitDefEqProofs only [hb, go_sem, aSet_set hlm, aCell_set hlm, hl, hat, hb1, decide_true, Int.toNat_natCast, hh, Nat.reduceAdd, Nat.reduceMul, Nat.reduceLeDiff, Nat.reduceEqDiff, reduceCtorEq, Nat.reduceSub, Int.reduceNeg, Nat.reduceMod, Nat.reduceBEq, Nat.reduceLT] <;> try simp only [qz] at hb))
      all_goals (try simp only [maxLen] at *)
      all_goals first | rfl | omega | skip
      refine run_open 1900 1901 2901 i 2 rfl (set_get hlm _) rfl rfl fun x0 => run_go ?_
      simp -implicitDefEqProofs only [go_sem, aSet_set hlm, aCell_set hlm, hl, hat, hb1, decide_true, Int.toNat_natCast, hh, Nat.reduceAdd, Nat.reduceMul, Nat.reduceLeDiff, Nat.reduceEqDiff, reduceCtorEq, Nat.reduceSub, Int.reduceNeg, Nat.reduceMod, Nat.reduceBEq, Nat.reduceLT]
      repeat' (first | with_reducible apply And.intro | with_reducible intro _ | ((first | apply brB_split | apply aPickB_split | apply gB_split | apply adB_split) <;> intro hb <;> simp -implicitDefEqProofs only [hb, go_sem, aSet_set hlm, aCell_set hlm, hl, hat, hb1, decide_true, Int.toNat_natCast, hh, Nat.reduceAdd, Nat.reduceMul, Nat.reduceLeDiff, Nat.reduceEqDiff, reduceCtorEq, Nat.reduceSub, Int.reduceNeg, Nat.reduceMod, Nat.reduceBEq, Nat.reduceLT] <;> try simp only [qz] at hb))
      all_goals (try simp only [maxLen] at *)
      all_goals first | rfl | omega | skip
      refine run_close 1900 1901 2901 i 2 rfl (set_get hlm _) rfl rfl rfl rfl ?_
      simp -implicitDefEqProofs only [go_sem, aSet_set hlm, aCell_set hlm, hl, hat, hb1, decide_true, Int.toNat_natCast, hh, Nat.reduceAdd, Nat.reduceMul, Nat.reduceLeDiff, Nat.reduceEqDiff, reduceCtorEq, Nat.reduceSub, Int.reduceNeg, Nat.reduceMod, Nat.reduceBEq, Nat.reduceLT]
      refine run_go ?_
      simp -implicitDefEqProofs only [go_sem, aSet_set hlm, aCell_set hlm, hl, hat, hb1, decide_true, Int.toNat_natCast, hh, Nat.reduceAdd, Nat.reduceMul, Nat.reduceLeDiff, Nat.reduceEqDiff, reduceCtorEq, Nat.reduceSub, Int.reduceNeg, Nat.reduceMod, Nat.reduceBEq, Nat.reduceLT]
      repeat' (first | with_reducible apply And.intro | with_reducible intro _ | ((first | apply brB_split | apply aPickB_split | apply gB_split | apply adB_split) <;> intro hb <;> simp -implicitDefEqProofs only [hb, go_sem, aSet_set hlm, aCell_set hlm, hl, hat, hb1, decide_true, Int.toNat_natCast, hh, Nat.reduceAdd, Nat.reduceMul, Nat.reduceLeDiff, Nat.reduceEqDiff, reduceCtorEq, Nat.reduceSub, Int.reduceNeg, Nat.reduceMod, Nat.reduceBEq, Nat.reduceLT] <;> try simp only [qz] at hb))
      all_goals first | rfl | omega | skip
      refine ⟨⟨i + 1, by omega⟩, by simp only []; omega, ?_⟩
      simp -implicitDefEqProofs only [go_sem, hh, Nat.reduceAdd, Nat.reduceMul, Nat.reduceLeDiff, Nat.reduceEqDiff, reduceCtorEq, Nat.reduceSub, Int.reduceNeg, Nat.reduceMod, Nat.reduceBEq, Nat.reduceLT]
      simp only [hst]
      repeat' (first | with_reducible apply And.intro | with_reducible intro _ | ((first | apply brB_split | apply aPickB_split | apply gB_split | apply adB_split) <;> intro hb <;> simp -implicitDefEqProofs only [hb, go_sem, hh, Nat.reduceAdd, Nat.reduceMul, Nat.reduceLeDiff, Nat.reduceEqDiff, reduceCtorEq, Nat.reduceSub, Int.reduceNeg, Nat.reduceMod, Nat.reduceBEq, Nat.reduceLT] <;> try simp only [qz] at hb))
      all_goals first
        | rfl
        | (simp; done)
        | (simp; omega)
        | (refine congrArg (fun l => Ob.arr true 3 l) ?_
           rw [set_Gm]
           exact congrArg (List.map encGm) (mkTo_set hlt rfl))
    · simp -implicitDefEqProofs only [hl, go_sem, hh, Nat.reduceAdd, Nat.reduceMul, Nat.reduceLeDiff, Nat.reduceEqDiff, reduceCtorEq, Nat.reduceSub, Int.reduceNeg, Nat.reduceMod, Nat.reduceBEq, Nat.reduceLT]
      repeat' (first | with_reducible apply And.intro | with_reducible intro _ | ((first | apply brB_split | apply aPickB_split | apply gB_split | apply adB_split) <;> intro hb <;> simp -implicitDefEqProofs only [hb, go_sem, hh, Nat.reduceAdd, Nat.reduceMul, Nat.reduceLeDiff, Nat.reduceEqDiff, reduceCtorEq, Nat.reduceSub, Int.reduceNeg, Nat.reduceMod, Nat.reduceBEq, Nat.reduceLT] <;> try simp only [qz] at hb))
      all_goals first | omega | (rw [mkTo_end (by omega)]; done) | (rw [List.take_of_length_le (by omega)]; done) | (simp; done) | skip
end
def c132 : Ct := ctR (lc EGm.asl (lc AInt l0)) (fun p => 0 ≤ p.2.1 ∧ eS eGm p.2.1 p.1 ≤ 1000000000000000) (fun p => .t (.v (.int .i64 (hS mGm eGm p.1 p.2.1))))
section
attribute [local go_sem] c127 c129
theorem good132 {G : Gt} (hG : OkG G) (hh : G.e 127 = roEnt 0 c127 ∧ G.e 129 = roEnt 0 c129) : Gd G 132 (roEnt 0 c132) := by
  refine gR (dp := fun _ => true) (fn := Tryz.f132) (n := 2) (fun _ => rfl) (by kernel_rfl) rfl (by kernel_rfl) hG (Nat.le_of_ble_eq_true rfl) (by kernel_rfl) (by decide) (fun _ _ => .v _) ?_
  rintro ⟨xs, k, ⟨⟩⟩ hpre
  simp -implicitDefEqProofs only [Tryz.f132, go_sem, hh, Nat.reduceAdd, Nat.reduceMul, Nat.reduceLeDiff, Nat.reduceEqDiff, reduceCtorEq, Nat.reduceSub, Int.reduceNeg, Nat.reduceMod, Nat.reduceBEq, Nat.reduceLT] at hpre ⊢
  obtain ⟨hk0, hk1⟩ := hpre
  refine run_loop [] (ι := {i : Nat // i ≤ xs.length ∧ ∀ j, j < i → xs.getD j default = mGm (xs.getD j default) (eS eGm k (xs.take j))}) (fun p => ⟨[(0, .t (.sl 3 (xs.map encGm))), (1, .t (.v (.int .i64 (eS eGm k (xs.take p.1))))), (5, .t (.v (.int .i64 p.1)))], []⟩) (fun p => xs.length - p.1) ⟨0, by simp, by simp⟩ rfl ?_ ?_
  · simp -implicitDefEqProofs only [go_sem, hh, Nat.reduceAdd, Nat.reduceMul, Nat.reduceLeDiff, Nat.reduceEqDiff, reduceCtorEq, Nat.reduceSub, Int.reduceNeg, Nat.reduceMod, Nat.reduceBEq, Nat.reduceLT]
    simp [eS]
  · rintro ⟨i, hi, hall⟩
    have hq := eS_take (k := k) eGm_inc xs i
    by_cases hlt : i < xs.length
    · have hst := eS_to (e := eGm) (k := k) hlt
      have hq2 := eS_take (k := k) eGm_inc xs (i + 1)
      simp only [eGm] at hst
      have hr0 := eS_le eStr_inc (xs.getD i default).body (((eS eGm k (xs.take i)) + 1) + 1)
      have hb1 : ((i : Int) < (xs.length : Int)) := by omega
      simp -implicitDefEqProofs only [hb1, decide_true, Int.toNat_natCast, go_sem, hh, Nat.reduceAdd, Nat.reduceMul, Nat.reduceLeDiff, Nat.reduceEqDiff, reduceCtorEq, Nat.reduceSub, Int.reduceNeg, Nat.reduceMod, Nat.reduceBEq, Nat.reduceLT]
      repeat' (first | with_reducible apply And.intro | with_reducible intro _ | ((first | apply brB_split | apply aPickB_split | apply gB_split | apply adB_split) <;> intro hb <;> simp -implicitDefEqProofs only [hb, go_sem, hh, Nat.reduceAdd, Nat.reduceMul, Nat.reduceLeDiff, Nat.reduceEqDiff, reduceCtorEq, Nat.reduceSub, Int.reduceNeg, Nat.reduceMod, Nat.reduceBEq, Nat.reduceLT] <;> try simp only [qz] at hb))
      all_goals (try simp only [maxLen, Int.toNat_natCast] at *)
      all_goals first | rfl | omega | skip
      all_goals first | exact congrArg (fun z => T.v (Value.int .i64 z)) (hS_no hlt (fun qq => by first | (exact hb (congrArg (fun a : Gm => a.frm.user) qq)) | (exact hb (congrArg (fun a : Gm => a.frm.domain) qq)) | (exact hS_ne hb (by omega) eStr_inc (congrArg (fun a : Gm => a.body) qq)))).symm | skip
      all_goals (try (obtain ⟨u0, v0⟩ := hS_pos (show ¬ hS mStr eStr (xs.getD i default).body (((eS eGm k (xs.take i)) + 1) + 1) < 0 from by assumption); simp only [v0] at *))
      all_goals first | rfl | omega | skip
      refine ⟨⟨i + 1, by omega, fun j hj => ?_⟩, by dsimp only; omega, ?_⟩
      · by_cases ej : j = i
        · rw [ej]; exact (Gm_ext.2 ⟨(Ad_ext.2 ⟨(show (xs.getD i default).frm.user = mkT (eS eGm k (xs.take i)) from by assumption), (show (xs.getD i default).frm.domain = mkT ((eS eGm k (xs.take i)) + 1) from by assumption)⟩), (show (xs.getD i default).body = mkS mStr eStr (((eS eGm k (xs.take i)) + 1) + 1) (xs.getD i default).body from by assumption)⟩)
        · exact hall j (by omega)
      · simp -implicitDefEqProofs only [go_sem, hh, Nat.reduceAdd, Nat.reduceMul, Nat.reduceLeDiff, Nat.reduceEqDiff, reduceCtorEq, Nat.reduceSub, Int.reduceNeg, Nat.reduceMod, Nat.reduceBEq, Nat.reduceLT]
        simp only [hst]
        repeat' (first | with_reducible apply And.intro | with_reducible intro _ | ((first | apply brB_split | apply aPickB_split | apply gB_split | apply adB_split) <;> intro hb <;> simp -implicitDefEqProofs only [hb, go_sem, hh, Nat.reduceAdd, Nat.reduceMul, Nat.reduceLeDiff, Nat.reduceEqDiff, reduceCtorEq, Nat.reduceSub, Int.reduceNeg, Nat.reduceMod, Nat.reduceBEq, Nat.reduceLT] <;> try simp only [qz] at hb))
        all_goals first | rfl | (simp; done) | (simp; omega)
    · simp -implicitDefEqProofs only [go_sem, hh, Nat.reduceAdd, Nat.reduceMul, Nat.reduceLeDiff, Nat.reduceEqDiff, reduceCtorEq, Nat.reduceSub, Int.reduceNeg, Nat.reduceMod, Nat.reduceBEq, Nat.reduceLT]
      repeat' (first | with_reducible apply And.intro | with_reducible intro _ | ((first | apply brB_split | apply aPickB_split | apply gB_split | apply adB_split) <;> intro hb <;> simp -implicitDefEqProofs only [hb, go_sem, hh, Nat.reduceAdd, Nat.reduceMul, Nat.reduceLeDiff, Nat.reduceEqDiff, reduceCtorEq, Nat.reduceSub, Int.reduceNeg, Nat.reduceMod, Nat.reduceBEq, Nat.reduceLT] <;> try simp only [qz] at hb))
      all_goals (try simp only [maxLen, Int.toNat_natCast] at *)
      all_goals first | rfl | omega | skip
      have : i = xs.length := by omega
      subst this
      rw [hS_yes hall, List.take_of_length_le (Nat.le_refl _)]
end
def c58 : Mt := ctM (lc (EBx.aow true 3) (lc AInt l0)) (fun p => 0 ≤ p.2.1 ∧ eS eBx p.2.1 p.1 ≤ 1000000000000000) (fun p => ([.o true 3 ((mkS mBx eBx p.2.1 p.1).map encBx), .t (.v (.int .i64 p.2.1))], .t (.v (.int .i64 (eS eBx p.2.1 p.1)))))
section
attribute [local go_sem] c127 c128 aSet_map aCell_map List.map_replicate List.length_set List.length_map List.set_set AS.opn AS.cls Bool.not_false Bool.not_true
theorem good58 {G : Gt} (hG : OkG G) (hh : G.e 127 = roEnt 0 c127 ∧ G.e 128 = muEnt c128) : Gd G 58 (muEnt c58) := by
  refine gM (dp := fun n => !(Nat.beq n 100008 || Nat.beq n 100003)) (fn := Tryz.f58) (n := 2) (fun _ => rfl) (by kernel_rfl) rfl (by kernel_rfl) hG (Nat.le_of_ble_eq_true rfl) (by kernel_rfl) ?_
  rintro ⟨xs, k, ⟨⟩⟩ hpre
  simp -implicitDefEqProofs only [Tryz.f58, go_sem, hh, Nat.reduceAdd, Nat.reduceMul, Nat.reduceLeDiff, Nat.reduceEqDiff, reduceCtorEq, Nat.reduceSub, Int.reduceNeg, Nat.reduceMod, Nat.reduceBEq, Nat.reduceLT] at hpre ⊢
  obtain ⟨hk0, hk1⟩ := hpre
  refine run_loop [] (ι := {i : Nat // i ≤ xs.length}) (fun p => ⟨[(0, .h 1900), (1, .t (.v (.int .i64 (eS eBx k (xs.take p.1))))), (5, .t (.v (.int .i64 p.1)))], [(1900, some (.arr true 3 ((mkTo mBx eBx k xs p.1).map encBx)))]⟩) (fun p => xs.length - p.1) ⟨0, by omega⟩ rfl ?_ ?_
  · simp -implicitDefEqProofs only [go_sem, hh, Nat.reduceAdd, Nat.reduceMul, Nat.reduceLeDiff, Nat.reduceEqDiff, reduceCtorEq, Nat.reduceSub, Int.reduceNeg, Nat.reduceMod, Nat.reduceBEq, Nat.reduceLT]
    simp [mkTo_0, eS]
  · rintro ⟨i, hi⟩
    have hl := mkTo_len (mk := mBx) (e := eBx) (k := k) hi
    have hq := eS_take (k := k) eBx_inc xs i
    by_cases hlt : i < xs.length
    · have hlm : i < ((mkTo mBx eBx k xs i).map encBx).length := by rw [List.length_map, hl]; exact hlt
      have hat := mkTo_at (mk := mBx) (e := eBx) (k := k) hlt
      have hst := eS_to (e := eBx) (k := k) hlt
      have hq2 := eS_take (k := k) eBx_inc xs (i + 1)
      simp only [eBx] at hst
      have hr0 := eS_le eGm_inc (xs.getD i default).mails (((eS eBx k (xs.take i)) + 1) + 1)
      have hb1 : ((i : Int) < (xs.length : Int)) := by omega
      simp -implicitDefEqProofs only [go_sem, aSet_set hlm, aCell_set hlm, hl, hat, hb1, decide_true, Int.toNat_natCast, hh, Nat.reduceAdd, Nat.reduceMul, Nat.reduceLeDiff, Nat.reduceEqDiff, reduceCtorEq, Nat.reduceSub, Int.reduceNeg, Nat.reduceMod, Nat.reduceBEq, Nat.reduceLT]
      repeat' (first | with_reducible apply And.intro | with_reducible intro _ | ((first | apply brB_split | apply aPickB_split | apply gB_split | apply adB_split) <;> intro hb <;> simp -implicitDefEqProofs only [hb, go_sem, aSet_set hlm, aCell_set hlm, hl, hat, hb1, decide_true, Int.toNat_natCast, hh, Nat.reduceAdd, Nat.reduceMul, Nat.reduceLeDiff, Nat.reduceEqDiff, reduceCtorEq, Nat.reduceSub, Int.reduceNeg, Nat.reduceMod, Nat.reduceBEq, Nat.reduceLT] <;> try simp only [qz] at hb))
      all_goals (try simp only [maxLen] at *)
      all_goals first | rfl | omega | skip
      refine run_open 1900 1901 2901 i 2 rfl (set_get hlm _) rfl rfl fun x0 => run_go ?_
      simp -implicitDefEqProofs only [go_sem, aSet_set hlm, aCell_set hlm, hl, hat, hb1, decide_true, Int.toNat_natCast, hh, Nat.reduceAdd, Nat.reduceMul, Nat.reduceLeDiff, Nat.reduceEqDiff, reduceCtorEq, Nat.reduceSub, Int.reduceNeg, Nat.reduceMod, Nat.reduceBEq, Nat.reduceLT]
      repeat' (first | with_reducible apply And.intro | with_reducible intro _ | ((first | apply brB_split | apply aPickB_split | apply gB_split | apply adB_split) <;> intro hb <;> simp -implicitDefEqProofs only [hb, go_sem, aSet_set hlm, aCell_set hlm, hl, hat, hb1, decide_true, Int.toNat_natCast, hh, Nat.reduceAdd, Nat.reduceMul, Nat.reduceLeDiff, Nat.reduceEqDiff, reduceCtorEq, Nat.reduceSub, Int.reduceNeg, Nat.reduceMod, Nat.reduceBEq, Nat.reduceLT] <;> try simp only [qz] at hb))
      all_goals (try simp only [maxLen] at *)
      all_goals first | rfl | omega | skip
      refine run_close 1900 1901 2901 i 2 rfl (set_get hlm _) rfl rfl rfl rfl ?_
      simp -implicitDefEqProofs only [go_sem, aSet_set hlm, aCell_set hlm, hl, hat, hb1, decide_true, Int.toNat_natCast, hh, Nat.reduceAdd, Nat.reduceMul, Nat.reduceLeDiff, Nat.reduceEqDiff, reduceCtorEq, Nat.reduceSub, Int.reduceNeg, Nat.reduceMod, Nat.reduceBEq, Nat.reduceLT]
      refine run_go ?_
      simp -implicitDefEqProofs only [go_sem, aSet_set hlm, aCell_set hlm, hl, hat, hb1, decide_true, Int.toNat_natCast, hh, Nat.reduceAdd, Nat.reduceMul, Nat.reduceLeDiff, Nat.reduceEqDiff, reduceCtorEq, Nat.reduceSub, Int.reduceNeg, Nat.reduceMod, Nat.reduceBEq, Nat.reduceLT]
      repeat' (first | with_reducible apply And.intro | with_reducible intro _ | ((first | apply brB_split | apply aPickB_split | apply gB_split | apply adB_split) <;> intro hb <;> simp -implicitDefEqProofs only [hb, go_sem, aSet_set hlm, aCell_set hlm, hl, hat, hb1, decide_true, Int.toNat_natCast, hh, Nat.reduceAdd, Nat.reduceMul, Nat.reduceLeDiff, Nat.reduceEqDiff, reduceCtorEq, Nat.reduceSub, Int.reduceNeg, Nat.reduceMod, Nat.reduceBEq, Nat.reduceLT] <;> try simp only [qz] at hb))
      all_goals first | rfl | omega | skip
      refine ⟨⟨i + 1, by omega⟩, by simp only []; omega, ?_⟩
      simp -implicitDefEqProofs only [go_sem, hh, Nat.reduceAdd, Nat.reduceMul, Nat.reduceLeDiff, Nat.reduceEqDiff, reduceCtorEq, Nat.reduceSub, Int.reduceNeg, Nat.reduceMod, Nat.reduceBEq, Nat.reduceLT]
      simp only [hst]
      repeat' (first | with_reducible apply And.intro | with_reducible intro _ | ((first | apply brB_split | apply aPickB_split | apply gB_split | apply adB_split) <;> intro hb <;> simp -implicitDefEqProofs only [hb, go_sem, hh, Nat.reduceAdd, Nat.reduceMul, Nat.reduceLeDiff, Nat.reduceEqDiff, reduceCtorEq, Nat.reduceSub, Int.reduceNeg, Nat.reduceMod, Nat.reduceBEq, Nat.reduceLT] <;> try simp only [qz] at hb))
      all_goals first
        | rfl
        | (simp; done)
        | (simp; omega)
        | (refine congrArg (fun l => Ob.arr true 3 l) ?_
           rw [set_Bx]
           exact congrArg (List.map encBx) (mkTo_set hlt rfl))
    · simp -implicitDefEqProofs only [hl, go_sem, hh, Nat.reduceAdd, Nat.reduceMul, Nat.reduceLeDiff, Nat.reduceEqDiff, reduceCtorEq, Nat.reduceSub, Int.reduceNeg, Nat.reduceMod, Nat.reduceBEq, Nat.reduceLT]
      repeat' (first | with_reducible apply And.intro | with_reducible intro _ | ((first | apply brB_split | apply aPickB_split | apply gB_split | apply adB_split) <;> intro hb <;> simp -implicitDefEqProofs only [hb, go_sem, hh, Nat.reduceAdd, Nat.reduceMul, Nat.reduceLeDiff, Nat.reduceEqDiff, reduceCtorEq, Nat.reduceSub, Int.reduceNeg, Nat.reduceMod, Nat.reduceBEq, Nat.reduceLT] <;> try simp only [qz] at hb))
      all_goals first | omega | (rw [mkTo_end (by omega)]; done) | (rw [List.take_of_length_le (by omega)]; done) | (simp; done) | skip
end
def c64 : Ct := ctR (lc EBx.asl (lc AInt l0)) (fun p => 0 ≤ p.2.1 ∧ eS eBx p.2.1 p.1 ≤ 1000000000000000) (fun p => .t (.v (.int .i64 (hS mBx eBx p.1 p.2.1))))
section
attribute [local go_sem] c127 c132
theorem good64 {G : Gt} (hG : OkG G) (hh : G.e 127 = roEnt 0 c127 ∧ G.e 132 = roEnt 0 c132) : Gd G 64 (roEnt 0 c64) := by
  refine gR (dp := fun _ => true) (fn := Tryz.f64) (n := 2) (fun _ => rfl) (by kernel_rfl) rfl (by kernel_rfl) hG (Nat.le_of_ble_eq_true rfl) (by kernel_rfl) (by decide) (fun _ _ => .v _) ?_
  rintro ⟨xs, k, ⟨⟩⟩ hpre
  simp -implicitDefEqProofs only [Tryz.f64, go_sem, hh, Nat.reduceAdd, Nat.reduceMul, Nat.reduceLeDiff, Nat.reduceEqDiff, reduceCtorEq, Nat.reduceSub, Int.reduceNeg, Nat.reduceMod, Nat.reduceBEq, Nat.reduceLT] at hpre ⊢
  obtain ⟨hk0, hk1⟩ := hpre
  refine run_loop [] (ι := {i : Nat // i ≤ xs.length ∧ ∀ j, j < i → xs.getD j default = mBx (xs.getD j default) (eS eBx k (xs.take j))}) (fun p => ⟨[(0, .t (.sl 3 (xs.map encBx))), (1, .t (.v (.int .i64 (eS eBx k (xs.take p.1))))), (5, .t (.v (.int .i64 p.1)))], []⟩) (fun p => xs.length - p.1) ⟨0, by simp, by simp⟩ rfl ?_ ?_
  · simp -implicitDefEqProofs only [go_sem, hh, Nat.reduceAdd, Nat.reduceMul, Nat.reduceLeDiff, Nat.reduceEqDiff, reduceCtorEq, Nat.reduceSub, Int.reduceNeg, Nat.reduceMod, Nat.reduceBEq, Nat.reduceLT]
    simp [eS]
  · rintro ⟨i, hi, hall⟩
    have hq := eS_take (k := k) eBx_inc xs i
    by_cases hlt : i < xs.length
    · have hst := eS_to (e := eBx) (k := k) hlt
      have hq2 := eS_take (k := k) eBx_inc xs (i + 1)
      simp only [eBx] at hst
      have hr0 := eS_le eGm_inc (xs.getD i default).mails (((eS eBx k (xs.take i)) + 1) + 1)
      have hb1 : ((i : Int) < (xs.length : Int)) := by omega
      simp -implicitDefEqProofs only [hb1, decide_true, Int.toNat_natCast, go_sem, hh, Nat.reduceAdd, Nat.reduceMul, Nat.reduceLeDiff, Nat.reduceEqDiff, reduceCtorEq, Nat.reduceSub, Int.reduceNeg, Nat.reduceMod, Nat.reduceBEq, Nat.reduceLT]
      repeat' (first | with_reducible apply And.intro | with_reducible intro _ | ((first | apply brB_split | apply aPickB_split | apply gB_split | apply adB_split) <;> intro hb <;> simp -implicitDefEqProofs only [hb, go_sem, hh, Nat.reduceAdd, Nat.reduceMul, Nat.reduceLeDiff, Nat.reduceEqDiff, reduceCtorEq, Nat.reduceSub, Int.reduceNeg, Nat.reduceMod, Nat.reduceBEq, Nat.reduceLT] <;> try simp only [qz] at hb))
      all_goals (try simp only [maxLen, Int.toNat_natCast] at *)
      all_goals first | rfl | omega | skip
      all_goals first | exact congrArg (fun z => T.v (Value.int .i64 z)) (hS_no hlt (fun qq => by first | (exact hb (congrArg (fun a : Bx => a.addr.user) qq)) | (exact hb (congrArg (fun a : Bx => a.addr.domain) qq)) | (exact hS_ne hb (by omega) eGm_inc (congrArg (fun a : Bx => a.mails) qq)))).symm | skip
      all_goals (try (obtain ⟨u0, v0⟩ := hS_pos (show ¬ hS mGm eGm (xs.getD i default).mails (((eS eBx k (xs.take i)) + 1) + 1) < 0 from by assumption); simp only [v0] at *))
      all_goals first | rfl | omega | skip
      refine ⟨⟨i + 1, by omega, fun j hj => ?_⟩, by dsimp only; omega, ?_⟩
      · by_cases ej : j = i
        · rw [ej]; exact (Bx_ext.2 ⟨(Ad_ext.2 ⟨(show (xs.getD i default).addr.user = mkT (eS eBx k (xs.take i)) from by assumption), (show (xs.getD i default).addr.domain = mkT ((eS eBx k (xs.take i)) + 1) from by assumption)⟩), (show (xs.getD i default).mails = mkS mGm eGm (((eS eBx k (xs.take i)) + 1) + 1) (xs.getD i default).mails from by assumption)⟩)
        · exact hall j (by omega)
      · simp -implicitDefEqProofs only [go_sem, hh, Nat.reduceAdd, Nat.reduceMul, Nat.reduceLeDiff, Nat.reduceEqDiff, reduceCtorEq, Nat.reduceSub, Int.reduceNeg, Nat.reduceMod, Nat.reduceBEq, Nat.reduceLT]
        simp only [hst]
        repeat' (first | with_reducible apply And.intro | with_reducible intro _ | ((first | apply brB_split | apply aPickB_split | apply gB_split | apply adB_split) <;> intro hb <;> simp -implicitDefEqProofs only [hb, go_sem, hh, Nat.reduceAdd, Nat.reduceMul, Nat.reduceLeDiff, Nat.reduceEqDiff, reduceCtorEq, Nat.reduceSub, Int.reduceNeg, Nat.reduceMod, Nat.reduceBEq, Nat.reduceLT] <;> try simp only [qz] at hb))
        all_goals first | rfl | (simp; done) | (simp; omega)
    · simp -implicitDefEqProofs only [go_sem, hh, Nat.reduceAdd, Nat.reduceMul, Nat.reduceLeDiff, Nat.reduceEqDiff, reduceCtorEq, Nat.reduceSub, Int.reduceNeg, Nat.reduceMod, Nat.reduceBEq, Nat.reduceLT]
      repeat' (first | with_reducible apply And.intro | with_reducible intro _ | ((first | apply brB_split | apply aPickB_split | apply gB_split | apply adB_split) <;> intro hb <;> simp -implicitDefEqProofs only [hb, go_sem, hh, Nat.reduceAdd, Nat.reduceMul, Nat.reduceLeDiff, Nat.reduceEqDiff, reduceCtorEq, Nat.reduceSub, Int.reduceNeg, Nat.reduceMod, Nat.reduceBEq, Nat.reduceLT] <;> try simp only [qz] at hb))
      all_goals (try simp only [maxLen, Int.toNat_natCast] at *)
      all_goals first | rfl | omega | skip
      have : i = xs.length := by omega
      subst this
      rw [hS_yes hall, List.take_of_length_le (Nat.le_refl _)]
end
def c59 : Mt := ctM (lc (ELs.aow true 3) (lc AInt l0)) (fun p => 0 ≤ p.2.1 ∧ eS eLs p.2.1 p.1 ≤ 1000000000000000) (fun p => ([.o true 3 ((mkS mLs eLs p.2.1 p.1).map encLs), .t (.v (.int .i64 p.2.1))], .t (.v (.int .i64 (eS eLs p.2.1 p.1)))))
section
attribute [local go_sem] c127 aSet_map aCell_map List.map_replicate List.length_set List.length_map List.set_set AS.opn AS.cls
theorem good59 {G : Gt} (hG : OkG G) (hh : G.e 127 = roEnt 0 c127) : Gd G 59 (muEnt c59) := by
  refine gM (dp := fun _ => true) (fn := Tryz.f59) (n := 2) (fun _ => rfl) (by kernel_rfl) rfl (by kernel_rfl) hG (Nat.le_of_ble_eq_true rfl) (by kernel_rfl) ?_
  rintro ⟨xs, k, ⟨⟩⟩ hpre
  simp -implicitDefEqProofs only [Tryz.f59, go_sem, hh, Nat.reduceAdd, Nat.reduceMul, Nat.reduceLeDiff, Nat.reduceEqDiff, reduceCtorEq, Nat.reduceSub, Int.reduceNeg, Nat.reduceMod, Nat.reduceBEq, Nat.reduceLT] at hpre ⊢
  obtain ⟨hk0, hk1⟩ := hpre
  refine run_loop [] (ι := {i : Nat // i ≤ xs.length}) (fun p => ⟨[(0, .h 1900), (1, .t (.v (.int .i64 (eS eLs k (xs.take p.1))))), (5, .t (.v (.int .i64 p.1)))], [(1900, some (.arr true 3 ((mkTo mLs eLs k xs p.1).map encLs)))]⟩) (fun p => xs.length - p.1) ⟨0, by omega⟩ rfl ?_ ?_
  · simp -implicitDefEqProofs only [go_sem, hh, Nat.reduceAdd, Nat.reduceMul, Nat.reduceLeDiff, Nat.reduceEqDiff, reduceCtorEq, Nat.reduceSub, Int.reduceNeg, Nat.reduceMod, Nat.reduceBEq, Nat.reduceLT]
    simp [mkTo_0, eS]
  · rintro ⟨i, hi⟩
    have hl := mkTo_len (mk := mLs) (e := eLs) (k := k) hi
    have hq := eS_take (k := k) eLs_inc xs i
    by_cases hlt : i < xs.length
    · have hlm : i < ((mkTo mLs eLs k xs i).map encLs).length := by rw [List.length_map, hl]; exact hlt
      have hat := mkTo_at (mk := mLs) (e := eLs) (k := k) hlt
      have hst := eS_to (e := eLs) (k := k) hlt
      have hq2 := eS_take (k := k) eLs_inc xs (i + 1)
      simp only [eLs] at hst
      have hb1 : ((i : Int) < (xs.length : Int)) := by omega
      simp -implicitDefEqProofs only [go_sem, aSet_set hlm, aCell_set hlm, hl, hat, hb1, decide_true, Int.toNat_natCast, hh, Nat.reduceAdd, Nat.reduceMul, Nat.reduceLeDiff, Nat.reduceEqDiff, reduceCtorEq, Nat.reduceSub, Int.reduceNeg, Nat.reduceMod, Nat.reduceBEq, Nat.reduceLT]
      repeat' (first | with_reducible apply And.intro | with_reducible intro _ | ((first | apply brB_split | apply aPickB_split | apply gB_split | apply adB_split) <;> intro hb <;> simp -implicitDefEqProofs only [hb, go_sem, aSet_set hlm, aCell_set hlm, hl, hat, hb1, decide_true, Int.toNat_natCast, hh, Nat.reduceAdd, Nat.reduceMul, Nat.reduceLeDiff, Nat.reduceEqDiff, reduceCtorEq, Nat.reduceSub, Int.reduceNeg, Nat.reduceMod, Nat.reduceBEq, Nat.reduceLT] <;> try simp only [qz] at hb))
      all_goals (try simp only [maxLen] at *)
      all_goals first | rfl | omega | skip
      refine ⟨⟨i + 1, by omega⟩, by simp only []; omega, ?_⟩
      simp -implicitDefEqProofs only [go_sem, hh, Nat.reduceAdd, Nat.reduceMul, Nat.reduceLeDiff, Nat.reduceEqDiff, reduceCtorEq, Nat.reduceSub, Int.reduceNeg, Nat.reduceMod, Nat.reduceBEq, Nat.reduceLT]
      simp only [hst]
      repeat' (first | with_reducible apply And.intro | with_reducible intro _ | ((first | apply brB_split | apply aPickB_split | apply gB_split | apply adB_split) <;> intro hb <;> simp -implicitDefEqProofs only [hb, go_sem, hh, Nat.reduceAdd, Nat.reduceMul, Nat.reduceLeDiff, Nat.reduceEqDiff, reduceCtorEq, Nat.reduceSub, Int.reduceNeg, Nat.reduceMod, Nat.reduceBEq, Nat.reduceLT] <;> try simp only [qz] at hb))
      all_goals first
        | rfl
        | (simp; done)
        | (simp; omega)
        | (refine congrArg (fun l => Ob.arr true 3 l) ?_
           rw [set_Ls]
           exact congrArg (List.map encLs) (mkTo_set hlt rfl))
    · simp -implicitDefEqProofs only [hl, go_sem, hh, Nat.reduceAdd, Nat.reduceMul, Nat.reduceLeDiff, Nat.reduceEqDiff, reduceCtorEq, Nat.reduceSub, Int.reduceNeg, Nat.reduceMod, Nat.reduceBEq, Nat.reduceLT]
      repeat' (first | with_reducible apply And.intro | with_reducible intro _ | ((first | apply brB_split | apply aPickB_split | apply gB_split | apply adB_split) <;> intro hb <;> simp -implicitDefEqProofs only [hb, go_sem, hh, Nat.reduceAdd, Nat.reduceMul, Nat.reduceLeDiff, Nat.reduceEqDiff, reduceCtorEq, Nat.reduceSub, Int.reduceNeg, Nat.reduceMod, Nat.reduceBEq, Nat.reduceLT] <;> try simp only [qz] at hb))
      all_goals first | omega | (rw [mkTo_end (by omega)]; done) | (rw [List.take_of_length_le (by omega)]; done) | (simp; done) | skip
end
def c65 : Ct := ctR (lc ELs.asl (lc AInt l0)) (fun p => 0 ≤ p.2.1 ∧ eS eLs p.2.1 p.1 ≤ 1000000000000000) (fun p => .t (.v (.int .i64 (hS mLs eLs p.1 p.2.1))))
section
attribute [local go_sem] c127
theorem good65 {G : Gt} (hG : OkG G) (hh : G.e 127 = roEnt 0 c127) : Gd G 65 (roEnt 0 c65) := by
  refine gR (dp := fun _ => true) (fn := Tryz.f65) (n := 2) (fun _ => rfl) (by kernel_rfl) rfl (by kernel_rfl) hG (Nat.le_of_ble_eq_true rfl) (by kernel_rfl) (by decide) (fun _ _ => .v _) ?_
  rintro ⟨xs, k, ⟨⟩⟩ hpre
  simp -implicitDefEqProofs only [Tryz.f65, go_sem, hh, Nat.reduceAdd, Nat.reduceMul, Nat.reduceLeDiff, Nat.reduceEqDiff, reduceCtorEq, Nat.reduceSub, Int.reduceNeg, Nat.reduceMod, Nat.reduceBEq, Nat.reduceLT] at hpre ⊢
  obtain ⟨hk0, hk1⟩ := hpre
  refine run_loop [] (ι := {i : Nat // i ≤ xs.length ∧ ∀ j, j < i → xs.getD j default = mLs (xs.getD j default) (eS eLs k (xs.take j))}) (fun p => ⟨[(0, .t (.sl 3 (xs.map encLs))), (1, .t (.v (.int .i64 (eS eLs k (xs.take p.1))))), (5, .t (.v (.int .i64 p.1)))], []⟩) (fun p => xs.length - p.1) ⟨0, by simp, by simp⟩ rfl ?_ ?_
  · simp -implicitDefEqProofs only [go_sem, hh, Nat.reduceAdd, Nat.reduceMul, Nat.reduceLeDiff, Nat.reduceEqDiff, reduceCtorEq, Nat.reduceSub, Int.reduceNeg, Nat.reduceMod, Nat.reduceBEq, Nat.reduceLT]
    simp [eS]
  · rintro ⟨i, hi, hall⟩
    have hq := eS_take (k := k) eLs_inc xs i
    by_cases hlt : i < xs.length
    · have hst := eS_to (e := eLs) (k := k) hlt
      have hq2 := eS_take (k := k) eLs_inc xs (i + 1)
      simp only [eLs] at hst
      have hb1 : ((i : Int) < (xs.length : Int)) := by omega
      simp -implicitDefEqProofs only [hb1, decide_true, Int.toNat_natCast, go_sem, hh, Nat.reduceAdd, Nat.reduceMul, Nat.reduceLeDiff, Nat.reduceEqDiff, reduceCtorEq, Nat.reduceSub, Int.reduceNeg, Nat.reduceMod, Nat.reduceBEq, Nat.reduceLT]
      repeat' (first | with_reducible apply And.intro | with_reducible intro _ | ((first | apply brB_split | apply aPickB_split | apply gB_split | apply adB_split) <;> intro hb <;> simp -implicitDefEqProofs only [hb, go_sem, hh, Nat.reduceAdd, Nat.reduceMul, Nat.reduceLeDiff, Nat.reduceEqDiff, reduceCtorEq, Nat.reduceSub, Int.reduceNeg, Nat.reduceMod, Nat.reduceBEq, Nat.reduceLT] <;> try simp only [qz] at hb))
      all_goals (try simp only [maxLen, Int.toNat_natCast] at *)
      all_goals first | rfl | omega | skip
      all_goals first | exact congrArg (fun z => T.v (Value.int .i64 z)) (hS_no hlt (fun qq => by first | (exact hb (congrArg (fun a : Ls => a.mark) qq)) | (exact hb (congrArg (fun a : Ls => a.addr.user) qq)) | (exact hb (congrArg (fun a : Ls => a.addr.domain) qq)))).symm | skip
      refine ⟨⟨i + 1, by omega, fun j hj => ?_⟩, by dsimp only; omega, ?_⟩
      · by_cases ej : j = i
        · rw [ej]; exact (Ls_ext.2 ⟨(show (xs.getD i default).mark = mkT (eS eLs k (xs.take i)) from by assumption), (Ad_ext.2 ⟨(show (xs.getD i default).addr.user = mkT ((eS eLs k (xs.take i)) + 1) from by assumption), (show (xs.getD i default).addr.domain = mkT (((eS eLs k (xs.take i)) + 1) + 1) from by assumption)⟩)⟩)
        · exact hall j (by omega)
      · simp -implicitDefEqProofs only [go_sem, hh, Nat.reduceAdd, Nat.reduceMul, Nat.reduceLeDiff, Nat.reduceEqDiff, reduceCtorEq, Nat.reduceSub, Int.reduceNeg, Nat.reduceMod, Nat.reduceBEq, Nat.reduceLT]
        simp only [hst]
        repeat' (first | with_reducible apply And.intro | with_reducible intro _ | ((first | apply brB_split | apply aPickB_split | apply gB_split | apply adB_split) <;> intro hb <;> simp -implicitDefEqProofs only [hb, go_sem, hh, Nat.reduceAdd, Nat.reduceMul, Nat.reduceLeDiff, Nat.reduceEqDiff, reduceCtorEq, Nat.reduceSub, Int.reduceNeg, Nat.reduceMod, Nat.reduceBEq, Nat.reduceLT] <;> try simp only [qz] at hb))
        all_goals first | rfl | (simp; done) | (simp; omega)
    · simp -implicitDefEqProofs only [go_sem, hh, Nat.reduceAdd, Nat.reduceMul, Nat.reduceLeDiff, Nat.reduceEqDiff, reduceCtorEq, Nat.reduceSub, Int.reduceNeg, Nat.reduceMod, Nat.reduceBEq, Nat.reduceLT]
      repeat' (first | with_reducible apply And.intro | with_reducible intro _ | ((first | apply brB_split | apply aPickB_split | apply gB_split | apply adB_split) <;> intro hb <;> simp -implicitDefEqProofs only [hb, go_sem, hh, Nat.reduceAdd, Nat.reduceMul, Nat.reduceLeDiff, Nat.reduceEqDiff, reduceCtorEq, Nat.reduceSub, Int.reduceNeg, Nat.reduceMod, Nat.reduceBEq, Nat.reduceLT] <;> try simp only [qz] at hb))
      all_goals (try simp only [maxLen, Int.toNat_natCast] at *)
      all_goals first | rfl | omega | skip
      have : i = xs.length := by omega
      subst this
      rw [hS_yes hall, List.take_of_length_le (Nat.le_refl _)]
end
def nSp (a : Sp) (k : Int) : Sp := ⟨a.last, (mkS mIm eIm k a.items)⟩
def fSp (a : Sp) (k : Int) : Int := (eS eIm k a.items)
noncomputable def hSp (a : Sp) (k : Int) : Int := if (hS mIm eIm a.items k) < 0 then -1 else (hS mIm eIm a.items k)
theorem fSp_inc : incr fSp := fun a k => by
  unfold fSp
  have := eS_le eIm_inc a.items k
  omega
theorem hSp_n (a : Sp) (k : Int) (h0 : 0 ≤ k) : hSp (nSp a k) k = fSp a k := by
  have q0 := hS_mk mIm_idem a.items k
  have r0 : k ≤ (eS eIm k a.items) := eS_le eIm_inc _ _
  simp only [fSp, nSp] at *
  unfold hSp
  simp only [q0]
  repeat rw [if_neg (by omega)]
theorem hSp_le (a : Sp) (k : Int) : hSp a k = -1 ∨ hSp a k = fSp a k := by
  unfold hSp
  rcases hS_le (mk := mIm) eIm_inc a.items k with q0 | q0
  · rw [q0]; exact .inl (if_pos (by decide))
  · rw [q0]
    split
    · exact .inl rfl
    · exact .inr rfl
def c57 : Mt := ctM (lc ASp (lc AInt l0)) (fun p => 0 ≤ p.2.1 ∧ fSp p.1 p.2.1 ≤ 1000000000000000) (fun p => ([owSp (nSp p.1 p.2.1), .t (.v (.int .i64 p.2.1))], .t (.v (.int .i64 (fSp p.1 p.2.1)))))
section
attribute [local go_sem] c126 nSp
theorem good57 {G : Gt} (hG : OkG G) (hh : G.e 126 = muEnt c126) : Gd G 57 (muEnt c57) := by
  refine gM (dp := fun _ => true) (fn := Tryz.f57) (n := 2) (fun _ => rfl) (by kernel_rfl) rfl (by kernel_rfl) hG (Nat.le_of_ble_eq_true rfl) (by kernel_rfl) ?_
  rintro ⟨a, k, ⟨⟩⟩ hpre
  simp -implicitDefEqProofs only [Tryz.f57, go_sem, hh, Nat.reduceAdd, Nat.reduceMul, Nat.reduceLeDiff, Nat.reduceEqDiff, reduceCtorEq, Nat.reduceSub, Int.reduceNeg, Nat.reduceMod, Nat.reduceBEq, Nat.reduceLT] at hpre ⊢
  simp only [fSp] at *
  have r0 := eS_le eIm_inc a.items k
  repeat' (first | with_reducible apply And.intro | with_reducible intro _ | ((first | apply brB_split | apply aPickB_split | apply gB_split | apply adB_split) <;> intro hb <;> simp -implicitDefEqProofs only [hb, go_sem, hh, Nat.reduceAdd, Nat.reduceMul, Nat.reduceLeDiff, Nat.reduceEqDiff, reduceCtorEq, Nat.reduceSub, Int.reduceNeg, Nat.reduceMod, Nat.reduceBEq, Nat.reduceLT] <;> try simp only [qz] at hb))
  all_goals (try simp only [maxLen, List.length_map] at *)
  all_goals first | rfl | omega | (simp [*]; done) | skip
end
def c63 : Ct := ctR (lc ESp.ag (lc AInt l0)) (fun p => 0 ≤ p.2.1 ∧ fSp p.1 p.2.1 ≤ 1000000000000000) (fun p => .t (.v (.int .i64 (hSp p.1 p.2.1))))
section
attribute [local go_sem] c131
theorem good63 {G : Gt} (hG : OkG G) (hh : G.e 131 = roEnt 0 c131) : Gd G 63 (roEnt 0 c63) := by
  refine gR (dp := fun _ => true) (fn := Tryz.f63) (n := 2) (fun _ => rfl) (by kernel_rfl) rfl (by kernel_rfl) hG (Nat.le_of_ble_eq_true rfl) (by kernel_rfl) (by decide) (fun _ _ => .v _) ?_
  rintro ⟨a, k, ⟨⟩⟩ hpre
  simp -implicitDefEqProofs only [Tryz.f63, go_sem, hh, Nat.reduceAdd, Nat.reduceMul, Nat.reduceLeDiff, Nat.reduceEqDiff, reduceCtorEq, Nat.reduceSub, Int.reduceNeg, Nat.reduceMod, Nat.reduceBEq, Nat.reduceLT] at hpre ⊢
  simp only [fSp] at *
  have r0 := eS_le eIm_inc a.items k
  have q0 : (hS mIm eIm a.items k) = -1 ∨ (hS mIm eIm a.items k) = (eS eIm k a.items) := hS_le eIm_inc _ _
  repeat' (first | with_reducible apply And.intro | with_reducible intro _ | ((first | apply brB_split | apply aPickB_split | apply gB_split | apply adB_split) <;> intro hb <;> simp -implicitDefEqProofs only [hb, go_sem, hh, Nat.reduceAdd, Nat.reduceMul, Nat.reduceLeDiff, Nat.reduceEqDiff, reduceCtorEq, Nat.reduceSub, Int.reduceNeg, Nat.reduceMod, Nat.reduceBEq, Nat.reduceLT] <;> try simp only [qz] at hb))
  all_goals (try simp only [hSp, maxLen, List.length_map, fSp] at *)
  all_goals first | rfl | omega | (simp [*]; done) | skip
  all_goals (try (have z0 := q0.resolve_left (by omega); simp only [z0] at *))
  all_goals first | rfl | omega | (simp [*]; done) | skip
end
def nCf (a : Cf) (k : Int) : Cf := ⟨a.name, (mkS mStr eStr k a.own), (mkS mWy eWy (eS eStr k a.own) a.ways)⟩
def fCf (a : Cf) (k : Int) : Int := (eS eWy (eS eStr k a.own) a.ways)
noncomputable def hCf (a : Cf) (k : Int) : Int := if (hS mStr eStr a.own k) < 0 then -1 else if (hS mWy eWy a.ways (hS mStr eStr a.own k)) < 0 then -1 else (hS mWy eWy a.ways (hS mStr eStr a.own k))
theorem fCf_inc : incr fCf := fun a k => by
  unfold fCf
  have := eS_le eStr_inc a.own k
  have := eS_le eWy_inc a.ways (eS eStr k a.own)
  omega
theorem hCf_n (a : Cf) (k : Int) (h0 : 0 ≤ k) : hCf (nCf a k) k = fCf a k := by
  have q0 := hS_mk mStr_idem a.own k
  have r0 : k ≤ (eS eStr k a.own) := eS_le eStr_inc _ _
  have q1 := hS_mk mWy_idem a.ways (eS eStr k a.own)
  have r1 : (eS eStr k a.own) ≤ (eS eWy (eS eStr k a.own) a.ways) := eS_le eWy_inc _ _
  simp only [fCf, nCf] at *
  unfold hCf
  simp only [q0, q1]
  repeat rw [if_neg (by omega)]
theorem hCf_le (a : Cf) (k : Int) : hCf a k = -1 ∨ hCf a k = fCf a k := by
  unfold hCf
  rcases hS_le (mk := mStr) eStr_inc a.own k with q0 | q0
  · rw [q0]; exact .inl (if_pos (by decide))
  · rw [q0]
    split
    · exact .inl rfl
    · skip
      rcases hS_le (mk := mWy) eWy_inc a.ways (eS eStr k a.own) with q1 | q1
      · rw [q1]; exact .inl (if_pos (by decide))
      · rw [q1]
        split
        · exact .inl rfl
        · exact .inr rfl
def c56 : Mt := ctM (lc ACf (lc AInt l0)) (fun p => 0 ≤ p.2.1 ∧ fCf p.1 p.2.1 ≤ 1000000000000000) (fun p => ([owCf (nCf p.1 p.2.1), .t (.v (.int .i64 p.2.1))], .t (.v (.int .i64 (fCf p.1 p.2.1)))))
section
attribute [local go_sem] c61 c125 nCf
theorem good56 {G : Gt} (hG : OkG G) (hh : G.e 61 = muEnt c61 ∧ G.e 125 = muEnt c125) : Gd G 56 (muEnt c56) := by
  refine gM (dp := fun _ => true) (fn := Tryz.f56) (n := 2) (fun _ => rfl) (by kernel_rfl) rfl (by kernel_rfl) hG (Nat.le_of_ble_eq_true rfl) (by kernel_rfl) ?_
  rintro ⟨a, k, ⟨⟩⟩ hpre
  simp -implicitDefEqProofs only [Tryz.f56, go_sem, hh, Nat.reduceAdd, Nat.reduceMul, Nat.reduceLeDiff, Nat.reduceEqDiff, reduceCtorEq, Nat.reduceSub, Int.reduceNeg, Nat.reduceMod, Nat.reduceBEq, Nat.reduceLT] at hpre ⊢
  simp only [fCf] at *
  have r0 := eS_le eStr_inc a.own k
  have r1 := eS_le eWy_inc a.ways (eS eStr k a.own)
  repeat' (first | with_reducible apply And.intro | with_reducible intro _ | ((first | apply brB_split | apply aPickB_split | apply gB_split | apply adB_split) <;> intro hb <;> simp -implicitDefEqProofs only [hb, go_sem, hh, Nat.reduceAdd, Nat.reduceMul, Nat.reduceLeDiff, Nat.reduceEqDiff, reduceCtorEq, Nat.reduceSub, Int.reduceNeg, Nat.reduceMod, Nat.reduceBEq, Nat.reduceLT] <;> try simp only [qz] at hb))
  all_goals (try simp only [maxLen, List.length_map] at *)
  all_goals first | rfl | omega | (simp [*]; done) | skip
end
def c62 : Ct := ctR (lc ECf.ag (lc AInt l0)) (fun p => 0 ≤ p.2.1 ∧ fCf p.1 p.2.1 ≤ 1000000000000000) (fun p => .t (.v (.int .i64 (hCf p.1 p.2.1))))
section
attribute [local go_sem] c129 c130
theorem good62 {G : Gt} (hG : OkG G) (hh : G.e 129 = roEnt 0 c129 ∧ G.e 130 = roEnt 0 c130) : Gd G 62 (roEnt 0 c62) := by
  refine gR (dp := fun _ => true) (fn := Tryz.f62) (n := 2) (fun _ => rfl) (by kernel_rfl) rfl (by kernel_rfl) hG (Nat.le_of_ble_eq_true rfl) (by kernel_rfl) (by decide) (fun _ _ => .v _) ?_
  rintro ⟨a, k, ⟨⟩⟩ hpre
  simp -implicitDefEqProofs only [Tryz.f62, go_sem, hh, Nat.reduceAdd, Nat.reduceMul, Nat.reduceLeDiff, Nat.reduceEqDiff, reduceCtorEq, Nat.reduceSub, Int.reduceNeg, Nat.reduceMod, Nat.reduceBEq, Nat.reduceLT] at hpre ⊢
  simp only [fCf] at *
  have r0 := eS_le eStr_inc a.own k
  have r1 := eS_le eWy_inc a.ways (eS eStr k a.own)
  have q0 : (hS mStr eStr a.own k) = -1 ∨ (hS mStr eStr a.own k) = (eS eStr k a.own) := hS_le eStr_inc _ _
  have q1 : (hS mWy eWy a.ways (hS mStr eStr a.own k)) = -1 ∨ (hS mWy eWy a.ways (hS mStr eStr a.own k)) = (eS eWy (hS mStr eStr a.own k) a.ways) := hS_le eWy_inc _ _
  repeat' (first | with_reducible apply And.intro | with_reducible intro _ | ((first | apply brB_split | apply aPickB_split | apply gB_split | apply adB_split) <;> intro hb <;> simp -implicitDefEqProofs only [hb, go_sem, hh, Nat.reduceAdd, Nat.reduceMul, Nat.reduceLeDiff, Nat.reduceEqDiff, reduceCtorEq, Nat.reduceSub, Int.reduceNeg, Nat.reduceMod, Nat.reduceBEq, Nat.reduceLT] <;> try simp only [qz] at hb))
  all_goals (try simp only [hCf, maxLen, List.length_map, fCf] at *)
  all_goals first | rfl | omega | (simp [*]; done) | skip
  all_goals (try (have z0 := q0.resolve_left (by omega); simp only [z0] at *))
  all_goals first | rfl | omega | (simp [*]; done) | skip
  all_goals (try (have z1 := q1.resolve_left (by omega); simp only [z1] at *))
  all_goals first | rfl | omega | (simp [*]; done) | skip
end
def nHs (a : Hs) (k : Int) : Hs := ⟨⟨a.conf.name, (mkS mStr eStr k a.conf.own), (mkS mWy eWy (eS eStr k a.conf.own) a.conf.ways)⟩, ⟨a.spool.last, (mkS mIm eIm (eS eWy (eS eStr k a.conf.own) a.conf.ways) a.spool.items)⟩, (mkS mBx eBx (eS eIm (eS eWy (eS eStr k a.conf.own) a.conf.ways) a.spool.items) a.boxes), (mkS mLs eLs (eS eBx (eS eIm (eS eWy (eS eStr k a.conf.own) a.conf.ways) a.spool.items) a.boxes) a.lost)⟩
def fHs (a : Hs) (k : Int) : Int := (eS eLs (eS eBx (eS eIm (eS eWy (eS eStr k a.conf.own) a.conf.ways) a.spool.items) a.boxes) a.lost)
noncomputable def hHs (a : Hs) (k : Int) : Int := if (hCf a.conf k) < 0 then -1 else if (hSp a.spool (hCf a.conf k)) < 0 then -1 else if (hS mBx eBx a.boxes (hSp a.spool (hCf a.conf k))) < 0 then -1 else if (hS mLs eLs a.lost (hS mBx eBx a.boxes (hSp a.spool (hCf a.conf k)))) < 0 then -1 else (hS mLs eLs a.lost (hS mBx eBx a.boxes (hSp a.spool (hCf a.conf k))))
theorem fHs_inc : incr fHs := fun a k => by
  unfold fHs
  have := eS_le eStr_inc a.conf.own k
  have := eS_le eWy_inc a.conf.ways (eS eStr k a.conf.own)
  have := eS_le eIm_inc a.spool.items (eS eWy (eS eStr k a.conf.own) a.conf.ways)
  have := eS_le eBx_inc a.boxes (eS eIm (eS eWy (eS eStr k a.conf.own) a.conf.ways) a.spool.items)
  have := eS_le eLs_inc a.lost (eS eBx (eS eIm (eS eWy (eS eStr k a.conf.own) a.conf.ways) a.spool.items) a.boxes)
  omega
theorem hHs_n (a : Hs) (k : Int) (h0 : 0 ≤ k) : hHs (nHs a k) k = fHs a k := by
  have q0 := hCf_n a.conf k (by omega)
  have r0 : k ≤ (fCf a.conf k) := fCf_inc _ _
  have q1 := hSp_n a.spool (fCf a.conf k) (by omega)
  have r1 : (fCf a.conf k) ≤ (fSp a.spool (fCf a.conf k)) := fSp_inc _ _
  have q2 := hS_mk mBx_idem a.boxes (fSp a.spool (fCf a.conf k))
  have r2 : (fSp a.spool (fCf a.conf k)) ≤ (eS eBx (fSp a.spool (fCf a.conf k)) a.boxes) := eS_le eBx_inc _ _
  have q3 := hS_mk mLs_idem a.lost (eS eBx (fSp a.spool (fCf a.conf k)) a.boxes)
  have r3 : (eS eBx (fSp a.spool (fCf a.conf k)) a.boxes) ≤ (eS eLs (eS eBx (fSp a.spool (fCf a.conf k)) a.boxes) a.lost) := eS_le eLs_inc _ _
  simp only [fCf, nCf, fSp, nSp, fHs, nHs] at *
  unfold hHs
  simp only [q0, q1, q2, q3]
  repeat rw [if_neg (by omega)]
theorem hHs_le (a : Hs) (k : Int) : hHs a k = -1 ∨ hHs a k = fHs a k := by
  unfold hHs
  rcases hCf_le a.conf k with q0 | q0
  · rw [q0]; exact .inl (if_pos (by decide))
  · rw [q0]
    split
    · exact .inl rfl
    · skip
      rcases hSp_le a.spool (fCf a.conf k) with q1 | q1
      · rw [q1]; exact .inl (if_pos (by decide))
      · rw [q1]
        split
        · exact .inl rfl
        · skip
          rcases hS_le (mk := mBx) eBx_inc a.boxes (fSp a.spool (fCf a.conf k)) with q2 | q2
          · rw [q2]; exact .inl (if_pos (by decide))
          · rw [q2]
            split
            · exact .inl rfl
            · skip
              rcases hS_le (mk := mLs) eLs_inc a.lost (eS eBx (fSp a.spool (fCf a.conf k)) a.boxes) with q3 | q3
              · rw [q3]; exact .inl (if_pos (by decide))
              · rw [q3]
                split
                · exact .inl rfl
                · exact .inr rfl
def c14 : Mt := ctM (lc AHs (lc AInt l0)) (fun p => 0 ≤ p.2.1 ∧ fHs p.1 p.2.1 ≤ 1000000000000000) (fun p => ([owHs (nHs p.1 p.2.1), .t (.v (.int .i64 p.2.1))], .t (.v (.int .i64 (fHs p.1 p.2.1)))))
section
attribute [local go_sem] c58 c56 c59 c57 nCf nSp nHs
theorem good14 {G : Gt} (hG : OkG G) (hh : G.e 58 = muEnt c58 ∧ G.e 56 = muEnt c56 ∧ G.e 59 = muEnt c59 ∧ G.e 57 = muEnt c57) : Gd G 14 (muEnt c14) := by
  refine gM (dp := fun _ => true) (fn := Tryz.f14) (n := 2) (fun _ => rfl) (by kernel_rfl) rfl (by kernel_rfl) hG (Nat.le_of_ble_eq_true rfl) (by kernel_rfl) ?_
  rintro ⟨a, k, ⟨⟩⟩ hpre
  simp -implicitDefEqProofs only [Tryz.f14, go_sem, hh, Nat.reduceAdd, Nat.reduceMul, Nat.reduceLeDiff, Nat.reduceEqDiff, reduceCtorEq, Nat.reduceSub, Int.reduceNeg, Nat.reduceMod, Nat.reduceBEq, Nat.reduceLT] at hpre ⊢
  simp only [fCf, fSp, fHs] at *
  have r0 := eS_le eStr_inc a.conf.own k
  have r1 := eS_le eWy_inc a.conf.ways (eS eStr k a.conf.own)
  have r2 := eS_le eIm_inc a.spool.items (eS eWy (eS eStr k a.conf.own) a.conf.ways)
  have r3 := eS_le eBx_inc a.boxes (eS eIm (eS eWy (eS eStr k a.conf.own) a.conf.ways) a.spool.items)
  have r4 := eS_le eLs_inc a.lost (eS eBx (eS eIm (eS eWy (eS eStr k a.conf.own) a.conf.ways) a.spool.items) a.boxes)
  repeat' (first | with_reducible apply And.intro | with_reducible intro _ | ((first | apply brB_split | apply aPickB_split | apply gB_split | apply adB_split) <;> intro hb <;> simp -implicitDefEqProofs only [hb, go_sem, hh, Nat.reduceAdd, Nat.reduceMul, Nat.reduceLeDiff, Nat.reduceEqDiff, reduceCtorEq, Nat.reduceSub, Int.reduceNeg, Nat.reduceMod, Nat.reduceBEq, Nat.reduceLT] <;> try simp only [qz] at hb))
  all_goals (try simp only [maxLen, List.length_map] at *)
  all_goals first | rfl | omega | (simp [*]; done) | skip
end
def c16 : Ct := ctR (lc EHs.ag (lc AInt l0)) (fun p => 0 ≤ p.2.1 ∧ fHs p.1 p.2.1 ≤ 1000000000000000) (fun p => .t (.v (.int .i64 (hHs p.1 p.2.1))))
section
attribute [local go_sem] c64 c62 c65 c63
theorem good16 {G : Gt} (hG : OkG G) (hh : G.e 64 = roEnt 0 c64 ∧ G.e 62 = roEnt 0 c62 ∧ G.e 65 = roEnt 0 c65 ∧ G.e 63 = roEnt 0 c63) : Gd G 16 (roEnt 0 c16) := by
  refine gR (dp := fun _ => true) (fn := Tryz.f16) (n := 2) (fun _ => rfl) (by kernel_rfl) rfl (by kernel_rfl) hG (Nat.le_of_ble_eq_true rfl) (by kernel_rfl) (by decide) (fun _ _ => .v _) ?_
  rintro ⟨a, k, ⟨⟩⟩ hpre
  simp -implicitDefEqProofs only [Tryz.f16, go_sem, hh, Nat.reduceAdd, Nat.reduceMul, Nat.reduceLeDiff, Nat.reduceEqDiff, reduceCtorEq, Nat.reduceSub, Int.reduceNeg, Nat.reduceMod, Nat.reduceBEq, Nat.reduceLT] at hpre ⊢
  simp only [fCf, fSp, fHs] at *
  have r0 := eS_le eStr_inc a.conf.own k
  have r1 := eS_le eWy_inc a.conf.ways (eS eStr k a.conf.own)
  have r2 := eS_le eIm_inc a.spool.items (eS eWy (eS eStr k a.conf.own) a.conf.ways)
  have r3 := eS_le eBx_inc a.boxes (eS eIm (eS eWy (eS eStr k a.conf.own) a.conf.ways) a.spool.items)
  have r4 := eS_le eLs_inc a.lost (eS eBx (eS eIm (eS eWy (eS eStr k a.conf.own) a.conf.ways) a.spool.items) a.boxes)
  have q0 : (hCf a.conf k) = -1 ∨ (hCf a.conf k) = (fCf a.conf k) := hCf_le _ _
  have q1 : (hSp a.spool (hCf a.conf k)) = -1 ∨ (hSp a.spool (hCf a.conf k)) = (fSp a.spool (hCf a.conf k)) := hSp_le _ _
  have q2 : (hS mBx eBx a.boxes (hSp a.spool (hCf a.conf k))) = -1 ∨ (hS mBx eBx a.boxes (hSp a.spool (hCf a.conf k))) = (eS eBx (hSp a.spool (hCf a.conf k)) a.boxes) := hS_le eBx_inc _ _
  have q3 : (hS mLs eLs a.lost (hS mBx eBx a.boxes (hSp a.spool (hCf a.conf k)))) = -1 ∨ (hS mLs eLs a.lost (hS mBx eBx a.boxes (hSp a.spool (hCf a.conf k)))) = (eS eLs (hS mBx eBx a.boxes (hSp a.spool (hCf a.conf k))) a.lost) := hS_le eLs_inc _ _
  repeat' (first | with_reducible apply And.intro | with_reducible intro _ | ((first | apply brB_split | apply aPickB_split | apply gB_split | apply adB_split) <;> intro hb <;> simp -implicitDefEqProofs only [hb, go_sem, hh, Nat.reduceAdd, Nat.reduceMul, Nat.reduceLeDiff, Nat.reduceEqDiff, reduceCtorEq, Nat.reduceSub, Int.reduceNeg, Nat.reduceMod, Nat.reduceBEq, Nat.reduceLT] <;> try simp only [qz] at hb))
  all_goals (try simp only [hHs, maxLen, List.length_map, fCf, fSp, fHs] at *)
  all_goals first | rfl | omega | (simp [*]; done) | skip
  all_goals (try (have z0 := q0.resolve_left (by omega); simp only [z0] at *))
  all_goals first | rfl | omega | (simp [*]; done) | skip
  all_goals (try (have z1 := q1.resolve_left (by omega); simp only [z1] at *))
  all_goals first | rfl | omega | (simp [*]; done) | skip
  all_goals (try (have z2 := q2.resolve_left (by omega); simp only [z2] at *))
  all_goals first | rfl | omega | (simp [*]; done) | skip
  all_goals (try (have z3 := q3.resolve_left (by omega); simp only [z3] at *))
  all_goals first | rfl | omega | (simp [*]; done) | skip
end
def bl (s : ByteArray) : List UInt8 := s.data.toList
def mB (l : List UInt8) : ByteArray := ⟨l.toArray⟩
theorem bl_mk (l : List UInt8) : bl (mB l) = l := rfl
theorem mk_bl (s : ByteArray) : mB (bl s) = s := rfl
theorem bl_len (s : ByteArray) : (bl s).length = s.size := rfl
theorem mk_size (l : List UInt8) : (mB l).size = l.length := rfl
theorem byteAt_bl (s : ByteArray) (i : Nat) : byteAt s i = (((bl s).getD i 0).toNat : Int) := rfl
theorem bl_inj {s t : ByteArray} (h : bl s = bl t) : s = t := by
  rw [← mk_bl s, ← mk_bl t, h]
theorem bl_extract (s : ByteArray) (i j : Nat) : bl (s.extract i j) = ((bl s).drop i).take (j - i) := by
  unfold bl
  rw [ByteArray.data_extract, Array.toList_extract]
theorem extract_mk (s : ByteArray) (i j : Nat) : s.extract i j = mB (((bl s).drop i).take (j - i)) := bl_inj (by rw [bl_extract, bl_mk])
theorem byteAt_range (s : ByteArray) (i : Nat) : 0 ≤ byteAt s i ∧ byteAt s i ≤ 255 := by
  rw [byteAt_bl]
  have := ((bl s).getD i 0).toNat_lt
  omega
def isLc (n : Int) : Prop := (97 ≤ n ∧ n ≤ 122) ∨ (48 ≤ n ∧ n ≤ 57)
def Lbl (s : ByteArray) : Prop := (∀ j, j < s.size → isLc (byteAt s j)) ∧ 1 ≤ s.size ∧ s.size ≤ 8
def Lin (s : ByteArray) : Prop := (∀ j, j < s.size → 32 ≤ byteAt s j ∧ byteAt s j ≤ 126) ∧ s.size ≤ 40
def splitN (c : UInt8) : Nat → List UInt8 → List (List UInt8)
  | 0, l => [l]
  | _ + 1, [] => [[]]
  | m + 1, x :: r => if x = c then [] :: splitN c m r else match splitN c (m + 1) r with | h :: t => (x :: h) :: t | [] => [[x]]
def preL (p : List UInt8) : List (List UInt8) → List (List UInt8)
  | h :: t => (p ++ h) :: t
  | [] => [p]
theorem preL_nil : ∀ (l : List (List UInt8)), l ≠ [] → preL [] l = l
  | h :: t, _ => rfl
  | [], h => absurd rfl h
theorem splitN_ne (c : UInt8) : ∀ (m : Nat) (l : List UInt8), splitN c m l ≠ []
  | 0, l => by simp [splitN]
  | m + 1, [] => by simp [splitN]
  | m + 1, x :: r => by
    unfold splitN
    split
    · simp
    · split <;> simp
theorem splitN_hit (c : UInt8) (m : Nat) (r : List UInt8) (p : List UInt8) : preL p (splitN c (m + 1) (c :: r)) = p :: splitN c m r := by
  simp [splitN, preL]
theorem splitN_miss {c x : UInt8} (h : x ≠ c) (m : Nat) (r : List UInt8) (p : List UInt8) : preL p (splitN c (m + 1) (x :: r)) = preL (p ++ [x]) (splitN c (m + 1) r) := by
  cases h1 : splitN c (m + 1) r with
  | nil => exact absurd h1 (splitN_ne c (m + 1) r)
  | cons a t => simp only [splitN, if_neg h, h1, preL, List.append_assoc, List.singleton_append]
theorem splitN_0 (c : UInt8) (l : List UInt8) (p : List UInt8) : preL p (splitN c 0 l) = [p ++ l] := by simp [splitN, preL]
theorem splitN_end (c : UInt8) (m : Nat) (p : List UInt8) : preL p (splitN c m []) = [p] := by
  cases m <;> simp [splitN, preL]
def cutL (s : ByteArray) (c : UInt8) (m : Nat) : List ByteArray := (splitN c m (bl s)).map mB
def c32 : Ct := ctR (lc AInt (lc AInt (lc AInt l0))) (fun p => True) (fun p => .t (.v (.bool (bOf (p.2.1 ≤ p.1 ∧ p.1 ≤ p.2.2.1)))))
theorem good32 {G : Gt} (hG : OkG G) : Gd G 32 (roEnt 0 c32) := by
  refine gR (dp := fun _ => true) (fn := Tryz.f32) (n := 3) (fun _ => rfl) (by kernel_rfl) rfl (by kernel_rfl) hG (Nat.le_of_ble_eq_true rfl) (by kernel_rfl) (by decide) (fun _ _ => .v _) ?_
  rintro ⟨n, lo, hi, ⟨⟩⟩ hpre
  simp -implicitDefEqProofs only [Tryz.f32, go_sem, Nat.reduceAdd, Nat.reduceMul, Nat.reduceLeDiff, Nat.reduceEqDiff, reduceCtorEq, Nat.reduceSub, Int.reduceNeg, Nat.reduceMod, Nat.reduceBEq, Nat.reduceLT] at hpre ⊢
  repeat' (first | with_reducible apply And.intro | with_reducible intro _ | ((first | apply brB_split | apply aPickB_split | apply gB_split | apply adB_split) <;> intro hb <;> simp -implicitDefEqProofs only [hb, go_sem, Nat.reduceAdd, Nat.reduceMul, Nat.reduceLeDiff, Nat.reduceEqDiff, reduceCtorEq, Nat.reduceSub, Int.reduceNeg, Nat.reduceMod, Nat.reduceBEq, Nat.reduceLT] <;> try simp only [qz] at hb))
  all_goals first
    | (rw [bOf_n (by omega)]; done)
    | (rw [bOf_d]; simp [*]; done)
    | trace_state
def c157 : Ct := ctR (lc AStr l0) (fun p => True) (fun p => .t (.v (.bool (bOf (Lbl p.1)))))
section
attribute [local go_sem] c32
theorem good157 {G : Gt} (hG : OkG G) (hh : G.e 32 = roEnt 0 c32) : Gd G 157 (roEnt 0 c157) := by
  refine gR (dp := fun _ => true) (fn := Tryz.f157) (n := 1) (fun _ => rfl) (by kernel_rfl) rfl (by kernel_rfl) hG (Nat.le_of_ble_eq_true rfl) (by kernel_rfl) (by decide) (fun _ _ => .v _) ?_
  rintro ⟨s, ⟨⟩⟩ hpre
  simp -implicitDefEqProofs only [Tryz.f157, go_sem, hh, Nat.reduceAdd, Nat.reduceMul, Nat.reduceLeDiff, Nat.reduceEqDiff, reduceCtorEq, Nat.reduceSub, Int.reduceNeg, Nat.reduceMod, Nat.reduceBEq, Nat.reduceLT] at hpre ⊢
  refine run_loop [] (ι := {i : Nat // i ≤ s.size ∧ ∀ j, j < i → isLc (byteAt s j)}) (fun p => ⟨[(0, .t (.v (.string s))), (3, .t (.v (.int .i64 p.1)))], []⟩) (fun p => s.size - p.1) ⟨0, by simp, by simp⟩ rfl ?_ ?_
  · simp -implicitDefEqProofs only [go_sem, hh, Nat.reduceAdd, Nat.reduceMul, Nat.reduceLeDiff, Nat.reduceEqDiff, reduceCtorEq, Nat.reduceSub, Int.reduceNeg, Nat.reduceMod, Nat.reduceBEq, Nat.reduceLT]
    simp
  · rintro ⟨i, hi, hall⟩
    simp -implicitDefEqProofs only [go_sem, hh, Nat.reduceAdd, Nat.reduceMul, Nat.reduceLeDiff, Nat.reduceEqDiff, reduceCtorEq, Nat.reduceSub, Int.reduceNeg, Nat.reduceMod, Nat.reduceBEq, Nat.reduceLT]
    repeat' (first | with_reducible apply And.intro | with_reducible intro _ | ((first | apply brB_split | apply aPickB_split | apply gB_split | apply adB_split) <;> intro hb <;> simp -implicitDefEqProofs only [hb, go_sem, hh, Nat.reduceAdd, Nat.reduceMul, Nat.reduceLeDiff, Nat.reduceEqDiff, reduceCtorEq, Nat.reduceSub, Int.reduceNeg, Nat.reduceMod, Nat.reduceBEq, Nat.reduceLT] <;> try simp only [qz] at hb))
    all_goals (try simp only [maxLen, Int.toNat_natCast] at *)
    all_goals (try have hbr := byteAt_range s i)
    all_goals first | rfl | omega | skip
    all_goals first
      | (rw [bOf_n (fun hq => by have hq1 := hq.1 i (by omega); simp only [isLc] at *; omega)]; done)
      | (refine ⟨⟨i + 1, by omega, fun j hj => ?_⟩, by dsimp only; omega, ?_⟩
         · by_cases e : j = i
           · subst e; simp only [isLc] at *; omega
           · exact hall j (by omega)
         · simp -implicitDefEqProofs only [go_sem, hh, Nat.reduceAdd, Nat.reduceMul, Nat.reduceLeDiff, Nat.reduceEqDiff, reduceCtorEq, Nat.reduceSub, Int.reduceNeg, Nat.reduceMod, Nat.reduceBEq, Nat.reduceLT]
           simp)
      | skip
    · rw [bOf_congr]
      exact ⟨fun h => ⟨fun j hj => hall j (by omega), by omega⟩, fun h => by have := h.2; omega⟩
end
def c158 : Ct := ctR (lc AStr l0) (fun p => True) (fun p => .t (.v (.bool (bOf (Lin p.1)))))
theorem good158 {G : Gt} (hG : OkG G) : Gd G 158 (roEnt 0 c158) := by
  refine gR (dp := fun _ => true) (fn := Tryz.f158) (n := 1) (fun _ => rfl) (by kernel_rfl) rfl (by kernel_rfl) hG (Nat.le_of_ble_eq_true rfl) (by kernel_rfl) (by decide) (fun _ _ => .v _) ?_
  rintro ⟨s, ⟨⟩⟩ hpre
  simp -implicitDefEqProofs only [Tryz.f158, go_sem, Nat.reduceAdd, Nat.reduceMul, Nat.reduceLeDiff, Nat.reduceEqDiff, reduceCtorEq, Nat.reduceSub, Int.reduceNeg, Nat.reduceMod, Nat.reduceBEq, Nat.reduceLT] at hpre ⊢
  refine run_loop [] (ι := {i : Nat // i ≤ s.size ∧ ∀ j, j < i → 32 ≤ byteAt s j ∧ byteAt s j ≤ 126}) (fun p => ⟨[(0, .t (.v (.string s))), (3, .t (.v (.int .i64 p.1)))], []⟩) (fun p => s.size - p.1) ⟨0, by simp, by simp⟩ rfl ?_ ?_
  · simp -implicitDefEqProofs only [go_sem, Nat.reduceAdd, Nat.reduceMul, Nat.reduceLeDiff, Nat.reduceEqDiff, reduceCtorEq, Nat.reduceSub, Int.reduceNeg, Nat.reduceMod, Nat.reduceBEq, Nat.reduceLT]
    simp
  · rintro ⟨i, hi, hall⟩
    simp -implicitDefEqProofs only [go_sem, Nat.reduceAdd, Nat.reduceMul, Nat.reduceLeDiff, Nat.reduceEqDiff, reduceCtorEq, Nat.reduceSub, Int.reduceNeg, Nat.reduceMod, Nat.reduceBEq, Nat.reduceLT]
    repeat' (first | with_reducible apply And.intro | with_reducible intro _ | ((first | apply brB_split | apply aPickB_split | apply gB_split | apply adB_split) <;> intro hb <;> simp -implicitDefEqProofs only [hb, go_sem, Nat.reduceAdd, Nat.reduceMul, Nat.reduceLeDiff, Nat.reduceEqDiff, reduceCtorEq, Nat.reduceSub, Int.reduceNeg, Nat.reduceMod, Nat.reduceBEq, Nat.reduceLT] <;> try simp only [qz] at hb))
    all_goals (try simp only [maxLen, Int.toNat_natCast] at *)
    all_goals (try have hbr := byteAt_range s i)
    all_goals first | rfl | omega | skip
    all_goals first
      | (rw [bOf_n (fun hq => by have hq1 := hq.1 i (by omega); skip; omega)]; done)
      | (refine ⟨⟨i + 1, by omega, fun j hj => ?_⟩, by dsimp only; omega, ?_⟩
         · by_cases e : j = i
           · subst e; skip; omega
           · exact hall j (by omega)
         · simp -implicitDefEqProofs only [go_sem, Nat.reduceAdd, Nat.reduceMul, Nat.reduceLeDiff, Nat.reduceEqDiff, reduceCtorEq, Nat.reduceSub, Int.reduceNeg, Nat.reduceMod, Nat.reduceBEq, Nat.reduceLT]
           simp)
      | skip
    · rw [← bOf_d, bOf_congr]
      exact ⟨fun h => ⟨fun j hj => hall j (by omega), by omega⟩, fun h => by have := h.2; omega⟩
structure CutSt (s : ByteArray) (c : UInt8) (m : Nat) where
  i : Nat
  fr : Nat
  o : List (List UInt8)
  hi : i ≤ s.size
  hf : fr ≤ i
  ho : o.length ≤ m
  h : o ++ preL (((bl s).drop fr).take (i - fr)) (splitN c (m - o.length) ((bl s).drop i)) = splitN c m (bl s)
theorem take_snoc {l : List UInt8} {fr i : Nat} (hf : fr ≤ i) (hi : i < l.length) : (l.drop fr).take (i + 1 - fr) = (l.drop fr).take (i - fr) ++ [l.getD i 0] := by
  have e : i + 1 - fr = (i - fr) + 1 := by omega
  rw [e, List.take_add_one]
  have : (l.drop fr)[i - fr]? = some (l.getD i 0) := by
    rw [List.getElem?_drop]
    have : fr + (i - fr) = i := by omega
    rw [this]
    simp [hi]
  rw [this]; rfl
def CutSt.start (s : ByteArray) (c : UInt8) (m : Nat) : CutSt s c m := ⟨0, 0, [], Nat.zero_le _, Nat.le_refl _, Nat.zero_le _, by
  simp only [Nat.sub_self, List.take_zero, List.nil_append, List.length_nil, Nat.sub_zero, List.drop_zero]
  exact preL_nil _ (splitN_ne c m _)⟩
theorem drop_byte {s : ByteArray} {i : Nat} (h : i < s.size) : (bl s).drop i = (bl s).getD i 0 :: (bl s).drop (i + 1) := by
  have h' : i < (bl s).length := h
  rw [List.drop_eq_getElem_cons h']
  simp [h']
def CutSt.hit {s : ByteArray} {c : UInt8} {m : Nat} (z : CutSt s c m) (h1 : z.i < s.size) (h2 : z.o.length < m) (h3 : (bl s).getD z.i 0 = c) : CutSt s c m :=
  ⟨z.i + 1, z.i + 1, z.o ++ [((bl s).drop z.fr).take (z.i - z.fr)], h1, Nat.le_refl _, by simp; omega, by
    have h := z.h
    obtain ⟨k, hk⟩ : ∃ k, m - z.o.length = k + 1 := ⟨m - z.o.length - 1, by omega⟩
    rw [hk, drop_byte h1, h3, splitN_hit] at h
    have e : m - (z.o ++ [((bl s).drop z.fr).take (z.i - z.fr)]).length = k := by simp; omega
    rw [e, Nat.sub_self, List.take_zero, preL_nil _ (splitN_ne _ _ _), List.append_assoc, List.singleton_append]
    exact h⟩
def CutSt.miss {s : ByteArray} {c : UInt8} {m : Nat} (z : CutSt s c m) (h1 : z.i < s.size) (h2 : z.o.length < m) (h3 : (bl s).getD z.i 0 ≠ c) : CutSt s c m :=
  ⟨z.i + 1, z.fr, z.o, h1, Nat.le_succ_of_le z.hf, z.ho, by
    have h := z.h
    obtain ⟨k, hk⟩ : ∃ k, m - z.o.length = k + 1 := ⟨m - z.o.length - 1, by omega⟩
    rw [hk, drop_byte h1, splitN_miss h3] at h
    rw [hk, take_snoc (l := bl s) z.hf (by rw [bl_len]; exact h1)]
    exact h⟩
theorem CutSt.done {s : ByteArray} {c : UInt8} {m : Nat} (z : CutSt s c m) (h : ¬ z.i < s.size ∨ ¬ z.o.length < m) : z.o.map mB ++ [s.extract z.fr s.size] = cutL s c m := by
  have hz := z.h
  have e0 : s.extract z.fr s.size = mB ((bl s).drop z.fr) := by
    rw [extract_mk]
    congr 1
    rw [List.take_of_length_le (by rw [List.length_drop, bl_len]; exact Nat.le_refl _)]
  unfold cutL
  rw [← hz, List.map_append, e0]
  congr 1
  rcases h with h | h
  · have hi := z.hi
    have e : (bl s).drop z.i = [] := List.drop_of_length_le (by rw [bl_len]; omega)
    rw [e, splitN_end]
    have : ((bl s).drop z.fr).take (z.i - z.fr) = (bl s).drop z.fr := List.take_of_length_le (by rw [List.length_drop, bl_len]; omega)
    rw [this]; rfl
  · have hk : m - z.o.length = 0 := by omega
    rw [hk, splitN_0]
    have hf := z.hf
    have : ((bl s).drop z.fr).take (z.i - z.fr) ++ (bl s).drop z.i = (bl s).drop z.fr := by
      have e : (bl s).drop z.i = ((bl s).drop z.fr).drop (z.i - z.fr) := by rw [List.drop_drop]; congr 1; omega
      rw [e, List.take_append_drop]
    rw [this]; rfl
theorem ex_take (s : ByteArray) (z : List (List UInt8)) (fr i : Nat) : z.map mB ++ [s.extract fr i] = (z ++ [((bl s).drop fr).take (i - fr)]).map mB := by
  rw [extract_mk, List.map_append]; rfl
theorem app_str (l : List ByteArray) (x : ByteArray) : l.map encStr ++ [[T.v (.string x)]] = (l ++ [x]).map encStr := by simp [encStr]
theorem app_ex (s : ByteArray) (z : List (List UInt8)) (fr i : Nat) : (z.map mB).map encStr ++ [[T.v (.string (s.extract fr i))]] = ((z ++ [((bl s).drop fr).take (i - fr)]).map mB).map encStr := by
  rw [app_str, ex_take]
theorem byteAt_eq {s : ByteArray} {i : Nat} {c : UInt8} : byteAt s i = (c.toNat : Int) ↔ (bl s).getD i 0 = c := by
  rw [byteAt_bl]
  constructor
  · intro h
    have : ((bl s).getD i 0).toNat = c.toNat := by omega
    exact UInt8.toNat_inj.1 this
  · intro h; rw [h]
def c195 : Ct := ctR (lc AStr (lc AU8 (lc AInt l0))) (fun p => 0 ≤ p.2.1 ∧ p.2.1 ≤ 255 ∧ 0 ≤ p.2.2.1 ∧ p.2.2.1 ≤ 1000) (fun p => .o true 1 ((cutL p.1 (UInt8.ofNat p.2.1.toNat) p.2.2.1.toNat).map encStr))
section
attribute [local go_sem] List.length_map List.map_nil List.length_nil
theorem good195 {G : Gt} (hG : OkG G) : Gd G 195 (roEnt 0 c195) := by
  refine gR (dp := fun _ => true) (fn := Tryz.f195) (n := 3) (fun _ => rfl) (by kernel_rfl) rfl (by kernel_rfl) hG (Nat.le_of_ble_eq_true rfl) (by kernel_rfl) (by decide) (fun _ p => .deep _ _) ?_
  rintro ⟨s, c, m, ⟨⟩⟩ hpre
  simp -implicitDefEqProofs only [Tryz.f195, go_sem, Nat.reduceAdd, Nat.reduceMul, Nat.reduceLeDiff, Nat.reduceEqDiff, reduceCtorEq, Nat.reduceSub, Int.reduceNeg, Nat.reduceMod, Nat.reduceBEq, Nat.reduceLT] at hpre ⊢
  obtain ⟨c, rfl⟩ : ∃ b : UInt8, c = (b.toNat : Int) := ⟨UInt8.ofNat c.toNat, by simp; omega⟩
  obtain ⟨m, rfl⟩ : ∃ n : Nat, m = (n : Int) := ⟨m.toNat, by omega⟩
  repeat' (first | with_reducible apply And.intro | with_reducible intro _ | ((first | apply brB_split | apply aPickB_split | apply gB_split | apply adB_split) <;> intro hb <;> simp -implicitDefEqProofs only [hb, go_sem, Nat.reduceAdd, Nat.reduceMul, Nat.reduceLeDiff, Nat.reduceEqDiff, reduceCtorEq, Nat.reduceSub, Int.reduceNeg, Nat.reduceMod, Nat.reduceBEq, Nat.reduceLT] <;> try simp only [qz] at hb))
  all_goals first | rfl | omega | skip
  refine run_loop [(7, 1901, true, 1)] (ι := CutSt s c m) (fun z => ⟨[(0, .t (.v (.string s))), (1, .t (.v (.int .u8 c.toNat))), (2, .t (.v (.int .i64 m))), (7, .h 1901), (8, .t (.v (.int .i64 z.fr))), (9, .t (.v (.int .i64 z.i)))], [(1901, some (.arr true 1 ((z.o.map mB).map encStr)))]⟩) (fun z => s.size - z.i) (CutSt.start s c m) rfl ?_ ?_
  · simp -implicitDefEqProofs only [go_sem, Nat.reduceAdd, Nat.reduceMul, Nat.reduceLeDiff, Nat.reduceEqDiff, reduceCtorEq, Nat.reduceSub, Int.reduceNeg, Nat.reduceMod, Nat.reduceBEq, Nat.reduceLT]
    simp [CutSt.start]
  · intro z
    have h1 := z.hi
    have h2 := z.hf
    have h3 := z.ho
    simp -implicitDefEqProofs only [go_sem, Nat.reduceAdd, Nat.reduceMul, Nat.reduceLeDiff, Nat.reduceEqDiff, reduceCtorEq, Nat.reduceSub, Int.reduceNeg, Nat.reduceMod, Nat.reduceBEq, Nat.reduceLT]
    repeat' (first | with_reducible apply And.intro | with_reducible intro _ | ((first | apply brB_split | apply aPickB_split | apply gB_split | apply adB_split) <;> intro hb <;> simp -implicitDefEqProofs only [hb, go_sem, Nat.reduceAdd, Nat.reduceMul, Nat.reduceLeDiff, Nat.reduceEqDiff, reduceCtorEq, Nat.reduceSub, Int.reduceNeg, Nat.reduceMod, Nat.reduceBEq, Nat.reduceLT] <;> try simp only [qz] at hb))
    all_goals (try simp only [maxLen, Int.toNat_natCast, List.length_map] at *)
    all_goals first | rfl | omega | (simp_all; done) | skip
    · refine ⟨z.hit (by omega) (by omega) (byteAt_eq.1 hb), by simp only [CutSt.hit]; omega, ?_⟩
      rw [app_ex]
      simp -implicitDefEqProofs only [go_sem, Nat.reduceAdd, Nat.reduceMul, Nat.reduceLeDiff, Nat.reduceEqDiff, reduceCtorEq, Nat.reduceSub, Int.reduceNeg, Nat.reduceMod, Nat.reduceBEq, Nat.reduceLT]
      simp [CutSt.hit]
    · refine ⟨z.miss (by omega) (by omega) (fun e => hb (byteAt_eq.2 e)), by simp only [CutSt.miss]; omega, ?_⟩
      simp -implicitDefEqProofs only [go_sem, Nat.reduceAdd, Nat.reduceMul, Nat.reduceLeDiff, Nat.reduceEqDiff, reduceCtorEq, Nat.reduceSub, Int.reduceNeg, Nat.reduceMod, Nat.reduceBEq, Nat.reduceLT]
      simp [CutSt.miss]
    · rw [app_str, z.done (.inr (by omega)), UInt8.ofNat_toNat]
    · rw [app_str, z.done (.inl (by omega)), UInt8.ofNat_toNat]
end
def Dom (s : ByteArray) : Prop := (∀ w ∈ cutL s 46 3, Lbl w) ∧ (cutL s 46 3).length ≤ 3
def AdOk (a : Ad) : Prop := Lbl a.user ∧ Dom a.domain
def AdNull (a : Ad) : Prop := a.user = ⟨#[]⟩ ∧ a.domain = ⟨#[]⟩
def BdOk (b : List ByteArray) : Prop := (∀ s ∈ b, Lin s) ∧ b.length ≤ 12
def MlOk (m : Ml) : Prop := (∀ a ∈ m.to, AdOk a) ∧ m.to.Nodup ∧ (AdOk m.frm ∨ AdNull m.frm) ∧ (1 ≤ m.to.length ∧ m.to.length ≤ 4) ∧ BdOk m.body
def Ends (s e : ByteArray) : Prop := s = e ∨ (e.size < s.size ∧ s.extract (s.size - e.size) s.size = e ∧ byteAt s (s.size - e.size - 1) = 46)
def Has (s p : ByteArray) : Prop := ∃ i, i + p.size ≤ s.size ∧ s.extract i (i + p.size) = p
theorem cutL_len (s : ByteArray) (c : UInt8) (m : Nat) : (cutL s c m).length ≤ m + 1 := by
  unfold cutL
  rw [List.length_map]
  generalize bl s = l
  induction l generalizing m with
  | nil => cases m <;> simp [splitN]
  | cons x r ih =>
    cases m with
    | zero => simp [splitN]
    | succ m =>
      unfold splitN
      split
      · have := ih m; simp; omega
      · have := ih (m + 1)
        split
        · rename_i h; rw [h] at this; simpa using this
        · simp
theorem mem_getD {α : Type} [Inhabited α] {xs : List α} {P : α → Prop} (h : ∀ j, j < xs.length → P (xs.getD j default)) : ∀ x ∈ xs, P x := fun x hx => by
  obtain ⟨j, hj, rfl⟩ := List.getElem_of_mem hx
  have := h j hj
  simpa [hj] using this
theorem getD_mem {α : Type} [Inhabited α] {xs : List α} {j : Nat} (h : j < xs.length) : xs.getD j default ∈ xs := by
  simp [h]
theorem nodup_of {α : Type} [Inhabited α] {xs : List α} (h : ∀ j, j < xs.length → ∀ k, k < j → ¬ xs.getD k default = xs.getD j default) : xs.Nodup := by
  rw [List.nodup_iff_pairwise_ne, List.pairwise_iff_getElem]
  intro k j hk hj hkj
  have := h j hj k hkj
  simpa [hk, hj] using this
theorem neqb {a b : Ad} (h : (false != (decide (a.user = b.user) && decide (a.domain = b.domain))) = false) : ¬ a = b := fun e => by
  subst e; simp at h
theorem all_step {α : Type} [Inhabited α] {xs : List α} {P : α → Prop} {i : Nat} (hall : ∀ j, j < i → P (xs.getD j default)) (h : P (xs.getD i default)) : ∀ j, j < i + 1 → P (xs.getD j default) := fun j hj => by
  by_cases e : j = i
  · subst e; exact h
  · exact hall j (by omega)
def c154 : Ct := ctR (lc AStr l0) (fun p => True) (fun p => .t (.v (.bool (bOf (Dom p.1)))))
section
attribute [local go_sem] c195 c157 aCell_map List.length_map
theorem good154 {G : Gt} (hG : OkG G) (hh : G.e 195 = roEnt 0 c195 ∧ G.e 157 = roEnt 0 c157) : Gd G 154 (roEnt 0 c154) := by
  refine gR (dp := fun _ => true) (fn := Tryz.f154) (n := 1) (fun _ => rfl) (by kernel_rfl) rfl (by kernel_rfl) hG (Nat.le_of_ble_eq_true rfl) (by kernel_rfl) (by decide) (fun _ _ => .v _) ?_
  rintro ⟨s, ⟨⟩⟩ hpre
  simp -implicitDefEqProofs only [Tryz.f154, go_sem, hh, Nat.reduceAdd, Nat.reduceMul, Nat.reduceLeDiff, Nat.reduceEqDiff, reduceCtorEq, Nat.reduceSub, Int.reduceNeg, Nat.reduceMod, Nat.reduceBEq, Nat.reduceLT] at hpre ⊢
  repeat' (first | with_reducible apply And.intro | with_reducible intro _ | ((first | apply brB_split | apply aPickB_split | apply gB_split | apply adB_split) <;> intro hb <;> simp -implicitDefEqProofs only [hb, go_sem, hh, Nat.reduceAdd, Nat.reduceMul, Nat.reduceLeDiff, Nat.reduceEqDiff, reduceCtorEq, Nat.reduceSub, Int.reduceNeg, Nat.reduceMod, Nat.reduceBEq, Nat.reduceLT] <;> try simp only [qz] at hb))
  all_goals first | rfl | omega | skip
  have e46 : UInt8.ofNat (46 : Int).toNat = 46 := rfl
  have e3 : (3 : Int).toNat = 3 := rfl
  rw [e46, e3] at *
  refine run_loop [] (ι := {i : Nat // i ≤ (cutL s 46 3).length ∧ ∀ j, j < i → Lbl ((cutL s 46 3).getD j default)}) (fun p => ⟨[(3, .h 1006), (4, .t (.v (.int .i64 p.1)))], [(1006, some (.arr true 1 ((cutL s 46 3).map encStr)))]⟩) (fun p => (cutL s 46 3).length - p.1) ⟨0, by simp, by simp⟩ rfl ?_ ?_
  · simp -implicitDefEqProofs only [go_sem, hh, Nat.reduceAdd, Nat.reduceMul, Nat.reduceLeDiff, Nat.reduceEqDiff, reduceCtorEq, Nat.reduceSub, Int.reduceNeg, Nat.reduceMod, Nat.reduceBEq, Nat.reduceLT]
    simp
  · rintro ⟨i, hi, hall⟩
    simp -implicitDefEqProofs only [go_sem, hh, Nat.reduceAdd, Nat.reduceMul, Nat.reduceLeDiff, Nat.reduceEqDiff, reduceCtorEq, Nat.reduceSub, Int.reduceNeg, Nat.reduceMod, Nat.reduceBEq, Nat.reduceLT]
    repeat' (first | with_reducible apply And.intro | with_reducible intro _ | ((first | apply brB_split | apply aPickB_split | apply gB_split | apply adB_split) <;> intro hb <;> simp -implicitDefEqProofs only [hb, go_sem, hh, Nat.reduceAdd, Nat.reduceMul, Nat.reduceLeDiff, Nat.reduceEqDiff, reduceCtorEq, Nat.reduceSub, Int.reduceNeg, Nat.reduceMod, Nat.reduceBEq, Nat.reduceLT] <;> try simp only [qz] at hb))
    all_goals (try simp only [maxLen, Int.toNat_natCast, List.length_map] at *)
    all_goals first | rfl | omega | skip
    · rw [bOf_n (fun h => hb (h.1 _ (getD_mem (by omega))))]
    · refine ⟨⟨i + 1, by omega, all_step hall hb⟩, by dsimp only; omega, ?_⟩
      simp -implicitDefEqProofs only [go_sem, hh, Nat.reduceAdd, Nat.reduceMul, Nat.reduceLeDiff, Nat.reduceEqDiff, reduceCtorEq, Nat.reduceSub, Int.reduceNeg, Nat.reduceMod, Nat.reduceBEq, Nat.reduceLT]
      simp
    · rw [← bOf_d, bOf_congr]
      exact ⟨fun h => ⟨mem_getD fun j hj => hall j (by omega), by omega⟩, fun h => by have := h.2; omega⟩
end
def c90 : Ct := ctR (lc EAd.ag l0) (fun p => True) (fun p => .t (.v (.bool (bOf (AdOk p.1)))))
section
attribute [local go_sem] c157 c154
theorem good90 {G : Gt} (hG : OkG G) (hh : G.e 157 = roEnt 0 c157 ∧ G.e 154 = roEnt 0 c154) : Gd G 90 (roEnt 0 c90) := by
  refine gR (dp := fun _ => true) (fn := Tryz.f90) (n := 1) (fun _ => rfl) (by kernel_rfl) rfl (by kernel_rfl) hG (Nat.le_of_ble_eq_true rfl) (by kernel_rfl) (by decide) (fun _ _ => .v _) ?_
  rintro ⟨a, ⟨⟩⟩ hpre
  simp -implicitDefEqProofs only [Tryz.f90, go_sem, hh, Nat.reduceAdd, Nat.reduceMul, Nat.reduceLeDiff, Nat.reduceEqDiff, reduceCtorEq, Nat.reduceSub, Int.reduceNeg, Nat.reduceMod, Nat.reduceBEq, Nat.reduceLT] at hpre ⊢
  repeat' (first | with_reducible apply And.intro | with_reducible intro _ | ((first | apply brB_split | apply aPickB_split | apply gB_split | apply adB_split) <;> intro hb <;> simp -implicitDefEqProofs only [hb, go_sem, hh, Nat.reduceAdd, Nat.reduceMul, Nat.reduceLeDiff, Nat.reduceEqDiff, reduceCtorEq, Nat.reduceSub, Int.reduceNeg, Nat.reduceMod, Nat.reduceBEq, Nat.reduceLT] <;> try simp only [qz] at hb))
  all_goals first
    | rfl
    | (rw [bOf_n (fun h => hb h.1)]; done)
    | (rw [bOf_congr]; exact ⟨fun h => ⟨by assumption, h⟩, fun h => h.2⟩)
    | trace_state
end
def c91 : Ct := ctR (lc EAd.ag l0) (fun p => True) (fun p => .t (.v (.bool (bOf (AdNull p.1)))))
theorem good91 {G : Gt} (hG : OkG G) : Gd G 91 (roEnt 0 c91) := by
  refine gR (dp := fun _ => true) (fn := Tryz.f91) (n := 1) (fun _ => rfl) (by kernel_rfl) rfl (by kernel_rfl) hG (Nat.le_of_ble_eq_true rfl) (by kernel_rfl) (by decide) (fun _ _ => .v _) ?_
  rintro ⟨a, ⟨⟩⟩ hpre
  simp -implicitDefEqProofs only [Tryz.f91, go_sem, Nat.reduceAdd, Nat.reduceMul, Nat.reduceLeDiff, Nat.reduceEqDiff, reduceCtorEq, Nat.reduceSub, Int.reduceNeg, Nat.reduceMod, Nat.reduceBEq, Nat.reduceLT] at hpre ⊢
  repeat' (first | with_reducible apply And.intro | with_reducible intro _ | ((first | apply brB_split | apply aPickB_split | apply gB_split | apply adB_split) <;> intro hb <;> simp -implicitDefEqProofs only [hb, go_sem, Nat.reduceAdd, Nat.reduceMul, Nat.reduceLeDiff, Nat.reduceEqDiff, reduceCtorEq, Nat.reduceSub, Int.reduceNeg, Nat.reduceMod, Nat.reduceBEq, Nat.reduceLT] <;> try simp only [qz] at hb))
  all_goals first
    | rfl
    | (rw [bOf_n (fun h => hb h.1)]; done)
    | (rw [← bOf_d, bOf_congr]; exact ⟨fun h => ⟨by assumption, h⟩, fun h => h.2⟩)
    | trace_state
def c92 : Ct := ctR (lc EStr.asl l0) (fun p => True) (fun p => .t (.v (.bool (bOf (BdOk p.1)))))
section
attribute [local go_sem] c158
theorem good92 {G : Gt} (hG : OkG G) (hh : G.e 158 = roEnt 0 c158) : Gd G 92 (roEnt 0 c92) := by
  refine gR (dp := fun _ => true) (fn := Tryz.f92) (n := 1) (fun _ => rfl) (by kernel_rfl) rfl (by kernel_rfl) hG (Nat.le_of_ble_eq_true rfl) (by kernel_rfl) (by decide) (fun _ _ => .v _) ?_
  rintro ⟨xs, ⟨⟩⟩ hpre
  simp -implicitDefEqProofs only [Tryz.f92, go_sem, hh, Nat.reduceAdd, Nat.reduceMul, Nat.reduceLeDiff, Nat.reduceEqDiff, reduceCtorEq, Nat.reduceSub, Int.reduceNeg, Nat.reduceMod, Nat.reduceBEq, Nat.reduceLT] at hpre ⊢
  refine run_loop [] (ι := {i : Nat // i ≤ xs.length ∧ ∀ j, j < i → Lin (xs.getD j default)}) (fun p => ⟨[(0, .t (.sl 1 (xs.map encStr))), (3, .t (.v (.int .i64 p.1)))], []⟩) (fun p => xs.length - p.1) ⟨0, by simp, by simp⟩ rfl ?_ ?_
  · simp -implicitDefEqProofs only [go_sem, hh, Nat.reduceAdd, Nat.reduceMul, Nat.reduceLeDiff, Nat.reduceEqDiff, reduceCtorEq, Nat.reduceSub, Int.reduceNeg, Nat.reduceMod, Nat.reduceBEq, Nat.reduceLT]
    simp
  · rintro ⟨i, hi, hall⟩
    simp -implicitDefEqProofs only [go_sem, hh, Nat.reduceAdd, Nat.reduceMul, Nat.reduceLeDiff, Nat.reduceEqDiff, reduceCtorEq, Nat.reduceSub, Int.reduceNeg, Nat.reduceMod, Nat.reduceBEq, Nat.reduceLT]
    repeat' (first | with_reducible apply And.intro | with_reducible intro _ | ((first | apply brB_split | apply aPickB_split | apply gB_split | apply adB_split) <;> intro hb <;> simp -implicitDefEqProofs only [hb, go_sem, hh, Nat.reduceAdd, Nat.reduceMul, Nat.reduceLeDiff, Nat.reduceEqDiff, reduceCtorEq, Nat.reduceSub, Int.reduceNeg, Nat.reduceMod, Nat.reduceBEq, Nat.reduceLT] <;> try simp only [qz] at hb))
    all_goals (try simp only [maxLen, Int.toNat_natCast, List.length_map] at *)
    all_goals first | rfl | omega | skip
    · rw [bOf_n (fun h => hb (h.1 _ (getD_mem (by omega))))]
    · refine ⟨⟨i + 1, by omega, all_step hall hb⟩, by dsimp only; omega, ?_⟩
      simp -implicitDefEqProofs only [go_sem, hh, Nat.reduceAdd, Nat.reduceMul, Nat.reduceLeDiff, Nat.reduceEqDiff, reduceCtorEq, Nat.reduceSub, Int.reduceNeg, Nat.reduceMod, Nat.reduceBEq, Nat.reduceLT]
      simp
    · rw [← bOf_d, bOf_congr]
      exact ⟨fun h => ⟨mem_getD fun j hj => hall j (by omega), by omega⟩, fun h => by have := h.2; omega⟩
end
theorem two_args {w : World} {pr : Nat → Prop} {u v : Value} {vs : List Value} (h : AHasL ρ0 w pr [.t (.v u), .t (.v v)] vs []) : vs = [u, v] := by
  obtain ⟨a, l, rfl, h1, h2⟩ := h.one
  obtain ⟨b, l2, rfl, h3, h4⟩ := h2.one
  generalize hF : ([] : List Nat) = F at h4
  cases h4
  rw [h1.val.1, h3.val.1]
theorem GlOk.cell {m : Int} {w : World} {pr : Nat → Prop} (h : GlOk m w pr) : w.cell? ⟨0, 0, none⟩ = some (.int .i64 m) := by
  unfold GlOk at h
  cases h with
  | rop cs a vs hp hv hr =>
    cases hr with
    | cons t v ts vs h1 h2 =>
      cases h1 with
      | v x hx =>
        have := hv 0 (.int .i64 m) rfl
        simpa [Addr.add, glb] using this
def c243 : Ct := ctR (lc AStr (lc AU8 l0)) (fun _ => True) (fun p => .t (.v (.int .i64 (Lib.indexByte (bl p.1) (UInt8.ofNat p.2.1.toNat)))))
theorem c243_eq {args : List AV} {K : AV → Prop} : c243 args K = K0 (fun (_ : ByteArray × Int × Unit) => True) (fun p => .t (.v (.int .i64 (Lib.indexByte (bl p.1) (UInt8.ofNat p.2.1.toNat))))) K ((lc AStr (lc AU8 l0)).dec args) := rfl
theorem good243 (m : Int) : GoodX Tryz.prog m 243 c243 := GoodX.of (r := fun (p : ByteArray × Int × Unit) => .int .i64 (Lib.indexByte (bl p.1) (UInt8.ofNat p.2.1.toNat))) (fun _ => trivial) fun p _ => by
  obtain ⟨s, c, ⟨⟩⟩ := p
  intro w pr vs hgl hv
  have := two_args hv
  subst this
  have he : Extern.find Tryz.f243 = some Extern.BytealgIndexByte.indexByte := by kernel_rfl
  rw [run_callFunc_extern (fn := Tryz.f243) (by kernel_rfl) (by kernel_rfl) rfl (by kernel_rfl) he]
  have h := Lib.run_indexByteString (P := Tryz.prog) s c w
  rw [show ([Value.string s, Value.int .u8 c].toArray) = #[.string s, .int .u8 c] from rfl, h]
  rfl
def c232 : Ct := ctR (lc AStr (lc AU8 l0)) (fun _ => True) (fun p => .t (.v (.int .i64 (Lib.countByte (bl p.1) (UInt8.ofNat p.2.1.toNat)))))
theorem c232_eq {args : List AV} {K : AV → Prop} : c232 args K = K0 (fun (_ : ByteArray × Int × Unit) => True) (fun p => .t (.v (.int .i64 (Lib.countByte (bl p.1) (UInt8.ofNat p.2.1.toNat))))) K ((lc AStr (lc AU8 l0)).dec args) := rfl
theorem good232 (m : Int) : GoodX Tryz.prog m 232 c232 := GoodX.of (r := fun (p : ByteArray × Int × Unit) => .int .i64 (Lib.countByte (bl p.1) (UInt8.ofNat p.2.1.toNat))) (fun _ => trivial) fun p _ => by
  obtain ⟨s, c, ⟨⟩⟩ := p
  intro w pr vs hgl hv
  have := two_args hv
  subst this
  have he : Extern.find Tryz.f232 = some Extern.BytealgCount.count := by kernel_rfl
  rw [run_callFunc_extern (fn := Tryz.f232) (by kernel_rfl) (by kernel_rfl) rfl (by kernel_rfl) he]
  have h := Lib.run_countString (P := Tryz.prog) s c w
  rw [show ([Value.string s, Value.int .u8 c].toArray) = #[.string s, .int .u8 c] from rfl, h]
  rfl
def c238 (m : Int) : Ct := ctR (lc AStr (lc AStr l0)) (fun p => 2 ≤ p.2.1.size ∧ (p.2.1.size : Int) ≤ m ∧ p.1.size ≤ 2000000) (fun p => .t (.v (.int .i64 (Lib.indexB p.1 p.2.1))))
theorem c238_eq {m : Int} {args : List AV} {K : AV → Prop} : c238 m args K = K0 (fun (p : ByteArray × ByteArray × Unit) => 2 ≤ p.2.1.size ∧ (p.2.1.size : Int) ≤ m ∧ p.1.size ≤ 2000000) (fun p => .t (.v (.int .i64 (Lib.indexB p.1 p.2.1)))) K ((lc AStr (lc AStr l0)).dec args) := rfl
theorem good238 (m : Int) : GoodX Tryz.prog m 238 (c238 m) := GoodX.of (r := fun (p : ByteArray × ByteArray × Unit) => .int .i64 (Lib.indexB p.1 p.2.1)) (fun _ => trivial) fun p hp => by
  obtain ⟨s, b, ⟨⟩⟩ := p
  intro w pr vs hgl hv
  have := two_args hv
  subst this
  have he : Extern.find Tryz.f238 = some Extern.BytealgIndex.index := by kernel_rfl
  rw [run_callFunc_extern (fn := Tryz.f238) (by kernel_rfl) (by kernel_rfl) rfl (by kernel_rfl) he]
  have h := Lib.run_indexString (P := Tryz.prog) s b w 0 m (by kernel_rfl) hgl.cell hp.1 hp.2.1 (by have h3 : s.size ≤ 2000000 := hp.2.2; omega)
  rw [show ([Value.string s, Value.string b].toArray) = #[.string s, .string b] from rfl, h]
  rfl
theorem byteAt_get (s : ByteArray) (i : Nat) (h : i < s.size) : byteAt s i = (s[i].toNat : Int) := by
  rw [byteAt_bl]
  have h' : i < (bl s).length := h
  have : (bl s).getD i 0 = s[i] := by
    simp [h']
    rfl
  rw [this]
  rfl
theorem toList_bl (s : ByteArray) : s.toList = bl s := ByteArray.toList_eq s
theorem beq_of_eq {s t : ByteArray} (h : s = t) : (s.toList == t.toList) = true := by rw [h]; simp
theorem beq_of_ne {s t : ByteArray} (h : ¬ s = t) : (s.toList == t.toList) = false := by
  rw [toList_bl, toList_bl]
  simpa using fun e => h (bl_inj e)
def c237 : Ct := ctR (lc AStr (lc AU8 l0)) (fun p => True) (fun p => .t (.v (.int .i64 (Lib.indexByte (bl p.1) (UInt8.ofNat p.2.1.toNat)))))
section
attribute [local go_sem] c243
theorem good237 {G : Gt} (hG : OkG G) (hh : G.e 243 = roEnt 3 c243) : Gd G 237 (roEnt 0 c237) := by
  refine gR (dp := fun _ => true) (fn := Tryz.f237) (n := 2) (fun _ => rfl) (by kernel_rfl) rfl (by kernel_rfl) hG (Nat.le_of_ble_eq_true rfl) (by kernel_rfl) (by decide) (fun _ _ => .v _) ?_
  rintro ⟨s, c, ⟨⟩⟩ hpre
  simp -implicitDefEqProofs only [Tryz.f237, go_sem, hh, Nat.reduceAdd, Nat.reduceMul, Nat.reduceLeDiff, Nat.reduceEqDiff, reduceCtorEq, Nat.reduceSub, Int.reduceNeg, Nat.reduceMod, Nat.reduceBEq, Nat.reduceLT] at hpre ⊢
  repeat' (first | with_reducible apply And.intro | with_reducible intro _ | ((first | apply brB_split | apply aPickB_split | apply gB_split | apply adB_split) <;> intro hb <;> simp -implicitDefEqProofs only [hb, go_sem, hh, Nat.reduceAdd, Nat.reduceMul, Nat.reduceLeDiff, Nat.reduceEqDiff, reduceCtorEq, Nat.reduceSub, Int.reduceNeg, Nat.reduceMod, Nat.reduceBEq, Nat.reduceLT] <;> try simp only [qz] at hb))
  all_goals first | rfl | trace_state
end
def c239 : Ct := ctR (lc AInt l0) (fun p => 0 ≤ p.1 ∧ p.1 ≤ 1000000000000) (fun p => .t (.v (.int .i64 ((p.1 + 16) / 8))))
theorem good239 {G : Gt} (hG : OkG G) : Gd G 239 (roEnt 0 c239) := by
  refine gR (dp := fun _ => true) (fn := Tryz.f239) (n := 1) (fun _ => rfl) (by kernel_rfl) rfl (by kernel_rfl) hG (Nat.le_of_ble_eq_true rfl) (by kernel_rfl) (by decide) (fun _ _ => .v _) ?_
  rintro ⟨n, ⟨⟩⟩ hpre
  simp -implicitDefEqProofs only [Tryz.f239, go_sem, Nat.reduceAdd, Nat.reduceMul, Nat.reduceLeDiff, Nat.reduceEqDiff, reduceCtorEq, Nat.reduceSub, Int.reduceNeg, Nat.reduceMod, Nat.reduceBEq, Nat.reduceLT] at hpre ⊢
  repeat' (first | with_reducible apply And.intro | with_reducible intro _ | ((first | apply brB_split | apply aPickB_split | apply gB_split | apply adB_split) <;> intro hb <;> simp -implicitDefEqProofs only [hb, go_sem, Nat.reduceAdd, Nat.reduceMul, Nat.reduceLeDiff, Nat.reduceEqDiff, reduceCtorEq, Nat.reduceSub, Int.reduceNeg, Nat.reduceMod, Nat.reduceBEq, Nat.reduceLT] <;> try simp only [qz] at hb))
  all_goals first | rfl | omega | trace_state
open Go.Lib in
theorem hash_next (s : ByteArray) (k : Nat) (hk : k < s.size) {h : Int} (hh : h = RK.H ((bl s).take k) % 4294967296) : (h * 16777619 % 4294967296 + byteAt s k) % 4294967296 = RK.H ((bl s).take (k + 1)) % 4294967296 := by
  have := Go.Proofs.hash_step s k hk hh
  rw [byteAt_get s k hk]
  have h2 : (s[k].toNat : Int) % 4294967296 = s[k].toNat := by
    have := s[k].toNat_lt
    omega
  rw [h2] at this
  exact this
theorem u32_lt (x : Int) : 0 ≤ x % 4294967296 ∧ x % 4294967296 < 4294967296 := by omega
def hsR (s : ByteArray) : AV := .tup [.t (.v (.int .u32 (Lib.RK.H (bl s) % 4294967296))), .t (.v (.int .u32 (16777619 ^ s.size % 4294967296)))]
def c244 : Ct := ctR (lc AStr l0) (fun p => p.1.size ≤ 2000000) (fun p => hsR p.1)
section
attribute [local go_sem] hsR
theorem good244 {G : Gt} (hG : OkG G) : Gd G 244 (roEnt 0 c244) := by
  refine gR (dp := fun _ => true) (fn := Tryz.f244) (n := 1) (fun _ => rfl) (by kernel_rfl) rfl (by kernel_rfl) hG (Nat.le_of_ble_eq_true rfl) (by kernel_rfl) (by decide) (fun _ p => .tup _ (by intro c hc; simp only [List.mem_cons, List.not_mem_nil, or_false] at hc; rcases hc with rfl | rfl <;> exact .v _)) ?_
  rintro ⟨s, ⟨⟩⟩ hpre
  simp -implicitDefEqProofs only [Tryz.f244, go_sem, Nat.reduceAdd, Nat.reduceMul, Nat.reduceLeDiff, Nat.reduceEqDiff, reduceCtorEq, Nat.reduceSub, Int.reduceNeg, Nat.reduceMod, Nat.reduceBEq, Nat.reduceLT] at hpre ⊢
  refine run_loop [] (ι := {i : Nat // i ≤ s.size}) (fun p => ⟨[(0, .t (.v (.string s))), (4, .t (.v (.int .u32 (Lib.RK.H ((bl s).take p.1) % 4294967296)))), (5, .t (.v (.int .i64 p.1)))], []⟩) (fun p => s.size - p.1) ⟨0, by omega⟩ rfl ?_ ?_
  · simp -implicitDefEqProofs only [go_sem, Nat.reduceAdd, Nat.reduceMul, Nat.reduceLeDiff, Nat.reduceEqDiff, reduceCtorEq, Nat.reduceSub, Int.reduceNeg, Nat.reduceMod, Nat.reduceBEq, Nat.reduceLT]
    simp [Lib.RK.H_nil]
  · rintro ⟨i, hi⟩
    simp -implicitDefEqProofs only [go_sem, Nat.reduceAdd, Nat.reduceMul, Nat.reduceLeDiff, Nat.reduceEqDiff, reduceCtorEq, Nat.reduceSub, Int.reduceNeg, Nat.reduceMod, Nat.reduceBEq, Nat.reduceLT]
    repeat' (first | with_reducible apply And.intro | with_reducible intro _ | ((first | apply brB_split | apply aPickB_split | apply gB_split | apply adB_split) <;> intro hb <;> simp -implicitDefEqProofs only [hb, go_sem, Nat.reduceAdd, Nat.reduceMul, Nat.reduceLeDiff, Nat.reduceEqDiff, reduceCtorEq, Nat.reduceSub, Int.reduceNeg, Nat.reduceMod, Nat.reduceBEq, Nat.reduceLT] <;> try simp only [qz] at hb))
    all_goals (try simp only [maxLen, Int.toNat_natCast] at *)
    all_goals (try have hbr := byteAt_range s i)
    all_goals first | rfl | omega | skip
    · refine ⟨⟨i + 1, by omega⟩, by dsimp only; omega, ?_⟩
      rw [hash_next s i (by omega) rfl]
      simp -implicitDefEqProofs only [go_sem, Nat.reduceAdd, Nat.reduceMul, Nat.reduceLeDiff, Nat.reduceEqDiff, reduceCtorEq, Nat.reduceSub, Int.reduceNeg, Nat.reduceMod, Nat.reduceBEq, Nat.reduceLT]
      try simp
    · have hii : i = s.size := by omega
      have hle : (bl s).length ≤ i := by rw [bl_len]; omega
      rw [List.take_of_length_le hle]
      refine run_loop [] (ι := {p : Nat × Int × Int // p.1 ≤ 2000000 ∧ Lib.RK.PowInv s.size p.1 p.2.1 p.2.2 ∧ 0 ≤ p.2.1 ∧ p.2.1 < 4294967296}) (fun p => ⟨[(4, .t (.v (.int .u32 (Lib.RK.H (bl s) % 4294967296)))), (6, .t (.v (.int .u32 p.1.2.1))), (7, .t (.v (.int .u32 p.1.2.2))), (8, .t (.v (.int .i64 p.1.1)))], []⟩) (fun p => p.1.1) ⟨(s.size, 1, 16777619), by simpa using hpre, Lib.RK.pow_start _, by simp, by simp⟩ rfl ?_ ?_
      · simp -implicitDefEqProofs only [go_sem, Nat.reduceAdd, Nat.reduceMul, Nat.reduceLeDiff, Nat.reduceEqDiff, reduceCtorEq, Nat.reduceSub, Int.reduceNeg, Nat.reduceMod, Nat.reduceBEq, Nat.reduceLT]
        try simp
      · rintro ⟨⟨k, pw, sq⟩, hk, hpi, h0, h1⟩
        have hand := Go.Proofs.and_one k (by simp only at hk; omega)
        simp only at hk h0 h1 hpi
        have hpw : ((k : Int) / 2 ^ (1 : Int).toNat) = ((k / 2 : Nat) : Int) := by simp
        simp -implicitDefEqProofs only [go_sem, Nat.reduceAdd, Nat.reduceMul, Nat.reduceLeDiff, Nat.reduceEqDiff, reduceCtorEq, Nat.reduceSub, Int.reduceNeg, Nat.reduceMod, Nat.reduceBEq, Nat.reduceLT]
        repeat' (first | with_reducible apply And.intro | with_reducible intro _ | ((first | apply brB_split | apply aPickB_split | apply gB_split | apply adB_split) <;> intro hb <;> simp -implicitDefEqProofs only [hb, go_sem, Nat.reduceAdd, Nat.reduceMul, Nat.reduceLeDiff, Nat.reduceEqDiff, reduceCtorEq, Nat.reduceSub, Int.reduceNeg, Nat.reduceMod, Nat.reduceBEq, Nat.reduceLT] <;> try simp only [qz] at hb))
        all_goals (try simp only [maxLen, Int.toNat_natCast] at *)
        all_goals first | rfl | omega | skip
        · have h2 : k % 2 = 1 := by rw [hand] at hb; omega
          have := u32_lt (pw * sq)
          refine ⟨⟨(k / 2, pw * sq % 4294967296, sq * sq % 4294967296), by simp only []; omega, Lib.RK.pow_odd hpi h2, this.1, this.2⟩, by simp only []; omega, ?_⟩
          rw [hpw]
          simp -implicitDefEqProofs only [go_sem, Nat.reduceAdd, Nat.reduceMul, Nat.reduceLeDiff, Nat.reduceEqDiff, reduceCtorEq, Nat.reduceSub, Int.reduceNeg, Nat.reduceMod, Nat.reduceBEq, Nat.reduceLT]
          try simp
        · have h2 : k % 2 = 0 := by rw [hand] at hb; omega
          refine ⟨⟨(k / 2, pw, sq * sq % 4294967296), by simp only []; omega, Lib.RK.pow_even hpi h2, h0, h1⟩, by simp only []; omega, ?_⟩
          rw [hpw]
          simp -implicitDefEqProofs only [go_sem, Nat.reduceAdd, Nat.reduceMul, Nat.reduceLeDiff, Nat.reduceEqDiff, reduceCtorEq, Nat.reduceSub, Int.reduceNeg, Nat.reduceMod, Nat.reduceBEq, Nat.reduceLT]
          try simp
        · have h2 : k = 0 := by omega
          subst h2
          rw [← Lib.RK.pow_end hpi h0 h1]
end
open Go.Lib in
theorem roll_next (s : ByteArray) (n i : Nat) (hn : 1 ≤ n) (hni : n ≤ i) (hi : i < s.size) {h pw : Int} (hh : h = RK.H (RK.win (bl s) (i - n) n) % 4294967296) (hp : pw = 16777619 ^ n % 4294967296) :
    ((h * 16777619 % 4294967296 + byteAt s i) % 4294967296 - pw * byteAt s (i - n) % 4294967296) % 4294967296 = RK.H (RK.win (bl s) (i + 1 - n) n) % 4294967296 := by
  have := Go.Proofs.roll_step s n i hn hni hi hh hp
  rw [byteAt_get s i hi, byteAt_get s (i - n) (by omega)]
  have h2 : (s[i - n].toNat : Int) % 4294967296 = s[i - n].toNat := by
    have := s[i - n].toNat_lt
    omega
  rw [h2] at this
  rw [← show RK.H (RK.win s.data.toList (i + 1 - n) n) % 4294967296 = RK.H (RK.win (bl s) (i + 1 - n) n) % 4294967296 from rfl, ← this]
  generalize pw * (s[i - n].toNat : Int) = X
  omega
def c240 : Ct := ctR (lc AStr (lc AStr l0)) (fun p => 1 ≤ p.2.1.size ∧ p.2.1.size ≤ p.1.size ∧ p.1.size ≤ 2000000) (fun p => .t (.v (.int .i64 (Lib.indexB p.1 p.2.1))))
section
attribute [local go_sem] c244 hsR
theorem good240 {G : Gt} (hG : OkG G) (hh : G.e 244 = roEnt 0 c244) : Gd G 240 (roEnt 0 c240) := by
  refine gR (dp := fun _ => true) (fn := Tryz.f240) (n := 2) (fun _ => rfl) (by kernel_rfl) rfl (by kernel_rfl) hG (Nat.le_of_ble_eq_true rfl) (by kernel_rfl) (by decide) (fun _ _ => .v _) ?_
  rintro ⟨s, sep, ⟨⟩⟩ hpre
  simp -implicitDefEqProofs only [Tryz.f240, go_sem, hh, Nat.reduceAdd, Nat.reduceMul, Nat.reduceLeDiff, Nat.reduceEqDiff, reduceCtorEq, Nat.reduceSub, Int.reduceNeg, Nat.reduceMod, Nat.reduceBEq, Nat.reduceLT] at hpre ⊢
  repeat' (first | with_reducible apply And.intro | with_reducible intro _ | ((first | apply brB_split | apply aPickB_split | apply gB_split | apply adB_split) <;> intro hb <;> simp -implicitDefEqProofs only [hb, go_sem, hh, Nat.reduceAdd, Nat.reduceMul, Nat.reduceLeDiff, Nat.reduceEqDiff, reduceCtorEq, Nat.reduceSub, Int.reduceNeg, Nat.reduceMod, Nat.reduceBEq, Nat.reduceLT] <;> try simp only [qz] at hb))
  all_goals first | rfl | omega | skip
  refine run_loop [] (ι := {i : Nat // i ≤ sep.size}) (fun p => ⟨[(0, .t (.v (.string s))), (1, .t (.v (.string sep))), (5, .t (.v (.int .u32 (Lib.RK.H (bl sep) % 4294967296)))), (6, .t (.v (.int .u32 (16777619 ^ sep.size % 4294967296)))), (7, .t (.v (.int .i64 sep.size))), (8, .t (.v (.int .u32 (Lib.RK.H ((bl s).take p.1) % 4294967296)))), (9, .t (.v (.int .i64 p.1)))], []⟩) (fun p => sep.size - p.1) ⟨0, by omega⟩ rfl ?_ ?_
  · simp -implicitDefEqProofs only [go_sem, hh, Nat.reduceAdd, Nat.reduceMul, Nat.reduceLeDiff, Nat.reduceEqDiff, reduceCtorEq, Nat.reduceSub, Int.reduceNeg, Nat.reduceMod, Nat.reduceBEq, Nat.reduceLT]
    simp [Lib.RK.H_nil]
  · rintro ⟨i, hi⟩
    simp -implicitDefEqProofs only [go_sem, hh, Nat.reduceAdd, Nat.reduceMul, Nat.reduceLeDiff, Nat.reduceEqDiff, reduceCtorEq, Nat.reduceSub, Int.reduceNeg, Nat.reduceMod, Nat.reduceBEq, Nat.reduceLT]
    repeat' (first | with_reducible apply And.intro | with_reducible intro _ | ((first | apply brB_split | apply aPickB_split | apply gB_split | apply adB_split) <;> intro hb <;> simp -implicitDefEqProofs only [hb, go_sem, hh, Nat.reduceAdd, Nat.reduceMul, Nat.reduceLeDiff, Nat.reduceEqDiff, reduceCtorEq, Nat.reduceSub, Int.reduceNeg, Nat.reduceMod, Nat.reduceBEq, Nat.reduceLT] <;> try simp only [qz] at hb))
    all_goals (try simp only [maxLen, Int.toNat_natCast] at *)
    all_goals (try have hbr := byteAt_range s i)
    all_goals first | rfl | omega | skip
    · refine ⟨⟨i + 1, by omega⟩, by dsimp only; omega, ?_⟩
      rw [hash_next s i (by omega) rfl]
      simp -implicitDefEqProofs only [go_sem, hh, Nat.reduceAdd, Nat.reduceMul, Nat.reduceLeDiff, Nat.reduceEqDiff, reduceCtorEq, Nat.reduceSub, Int.reduceNeg, Nat.reduceMod, Nat.reduceBEq, Nat.reduceLT]
      try simp
    · rw [Lib.hit s sep 0 (fun j hj => absurd hj (Nat.not_lt_zero _)) (by omega) (beq_of_eq (by rw [Nat.zero_add]; exact hb))]
      rfl
    all_goals
      have hii : i = sep.size := by omega
      have hb0 := hb
      subst hii
      have hno : Lib.NoOccB s sep (sep.size - sep.size + 1) := by
        rw [Nat.sub_self]
        refine Lib.NoOcc.succ (fun j hj => absurd hj (Nat.not_lt_zero _)) ?_
        first
          | exact Go.Proofs.occ_no s sep 0 (by omega) (by rw [Nat.zero_add]; exact beq_of_ne hb0)
          | exact Go.Proofs.occ_no_hash s sep 0 (by omega) rfl rfl hb0
      refine run_loop [] (ι := {k : Nat // sep.size ≤ k ∧ k ≤ s.size ∧ Lib.NoOccB s sep (k - sep.size + 1)}) (fun p => ⟨[(0, .t (.v (.string s))), (1, .t (.v (.string sep))), (5, .t (.v (.int .u32 (Lib.RK.H (bl sep) % 4294967296)))), (6, .t (.v (.int .u32 (16777619 ^ sep.size % 4294967296)))), (7, .t (.v (.int .i64 sep.size))), (8, .t (.v (.int .u32 (Lib.RK.H (Lib.RK.win (bl s) (p.1 - sep.size) sep.size) % 4294967296)))), (10, .t (.v (.int .i64 p.1)))], []⟩) (fun p => s.size - p.1) ⟨sep.size, by omega, by omega, hno⟩ rfl ?_ ?_
      · simp -implicitDefEqProofs only [go_sem, hh, Nat.reduceAdd, Nat.reduceMul, Nat.reduceLeDiff, Nat.reduceEqDiff, reduceCtorEq, Nat.reduceSub, Int.reduceNeg, Nat.reduceMod, Nat.reduceBEq, Nat.reduceLT]
        try simp [Lib.RK.win_zero]
      · rintro ⟨k, hk1, hk2, hk3⟩
        have hrn := fun h => roll_next s sep.size k (by omega) hk1 h rfl rfl
        have eks : ((k : Int) - sep.size).toNat = k - sep.size := by omega
        have eks1 : ((k : Int) + 1 - sep.size).toNat = k + 1 - sep.size := by omega
        have ek1 : ((k : Int) + 1).toNat = k + 1 := by omega
        simp -implicitDefEqProofs only [go_sem, hh, Nat.reduceAdd, Nat.reduceMul, Nat.reduceLeDiff, Nat.reduceEqDiff, reduceCtorEq, Nat.reduceSub, Int.reduceNeg, Nat.reduceMod, Nat.reduceBEq, Nat.reduceLT]
        repeat' (first | with_reducible apply And.intro | with_reducible intro _ | ((first | apply brB_split | apply aPickB_split | apply gB_split | apply adB_split) <;> intro hb <;> simp -implicitDefEqProofs only [hb, go_sem, hh, Nat.reduceAdd, Nat.reduceMul, Nat.reduceLeDiff, Nat.reduceEqDiff, reduceCtorEq, Nat.reduceSub, Int.reduceNeg, Nat.reduceMod, Nat.reduceBEq, Nat.reduceLT] <;> try simp only [qz] at hb))
        all_goals (try simp only [maxLen, Int.toNat_natCast] at *)
        all_goals (try have hbr := byteAt_range s k)
        all_goals (try have hbr2 := byteAt_range s (k - sep.size))
        all_goals (try simp only [eks, eks1, ek1] at *)
        all_goals first | rfl | omega | skip
        all_goals (try have hkk := hrn (by omega))
        all_goals have e1 : k - sep.size + 1 = k + 1 - sep.size := by omega
        all_goals rw [e1] at hk3
        · have e2 : k + 1 - sep.size + sep.size = k + 1 := by omega
          rw [Lib.hit s sep (k + 1 - sep.size) hk3 (by omega) (beq_of_eq (by rw [e2]; exact hb))]
          have e3 : ((k + 1 - sep.size : Nat) : Int) = (k : Int) + 1 - sep.size := by omega
          rw [e3]
        · have e2 : k + 1 - sep.size + sep.size = k + 1 := by omega
          have hocc := Go.Proofs.occ_no s sep (k + 1 - sep.size) (by omega) (by rw [e2]; exact beq_of_ne hb)
          refine ⟨⟨k + 1, by omega, by omega, Lib.NoOcc.succ hk3 hocc⟩, by dsimp only; omega, ?_⟩
          rw [hkk]
          simp -implicitDefEqProofs only [go_sem, hh, Nat.reduceAdd, Nat.reduceMul, Nat.reduceLeDiff, Nat.reduceEqDiff, reduceCtorEq, Nat.reduceSub, Int.reduceNeg, Nat.reduceMod, Nat.reduceBEq, Nat.reduceLT]
          try simp
        · rw [hkk] at hb
          have hocc := Go.Proofs.occ_no_hash s sep (k + 1 - sep.size) (by omega) rfl rfl hb
          refine ⟨⟨k + 1, by omega, by omega, Lib.NoOcc.succ hk3 hocc⟩, by dsimp only; omega, ?_⟩
          rw [hkk]
          simp -implicitDefEqProofs only [go_sem, hh, Nat.reduceAdd, Nat.reduceMul, Nat.reduceLeDiff, Nat.reduceEqDiff, reduceCtorEq, Nat.reduceSub, Int.reduceNeg, Nat.reduceMod, Nat.reduceBEq, Nat.reduceLT]
          try simp
        · rw [Lib.past s sep (k + 1 - sep.size) hk3 (by omega) (by omega)]
end
section
open Go.Lib
theorem ib_cases (s : ByteArray) (c : UInt8) : indexByte (bl s) c = -1 ∨ ∃ o : Nat, indexByte (bl s) c = o ∧ o < s.size := by
  have hge := indexByte_ge (bl s) c
  by_cases h : indexByte (bl s) c = -1
  · exact .inl h
  · obtain ⟨o, ho⟩ : ∃ o : Nat, indexByte (bl s) c = o := ⟨(indexByte (bl s) c).toNat, by omega⟩
    refine .inr ⟨o, ho, ?_⟩
    obtain ⟨h1, _⟩ := indexByte_some ho
    exact (List.getElem?_eq_some_iff.1 h1).1
theorem byte_back2 (sub : ByteArray) (h : 0 < sub.size) : UInt8.ofNat (byteAt sub 0).toNat = ((sub[0].toNat : Int)).toNat.toUInt8 := by rw [byteAt_get sub 0 h]
theorem ix_ne {s sub : ByteArray} {k j : Nat} (hk : k < s.size) (hj : j < sub.size) (h : ¬ byteAt s k = byteAt sub j) : ((((s[k].toNat : Nat) : Int)) != ((sub[j].toNat : Nat) : Int)) = true := by
  rw [byteAt_get s k hk, byteAt_get sub j hj] at h
  simpa using h
theorem ix_skip_none {s sub : ByteArray} {k : Nat} (h2 : 2 ≤ sub.size) (hls : sub.size ≤ s.size) (hk : k < s.size) (hno : NoOccB s sub k) (hne : ¬ byteAt s k = byteAt sub 0) (hib : indexByte (bl (s.extract (k + 1) (s.size - sub.size + 1))) (UInt8.ofNat (byteAt sub 0).toNat) = -1) : indexB s sub = -1 :=
  skip_none s sub k h2 hls hk hno (ix_ne hk (by omega) hne) (by rw [byte_back2 sub (by omega)] at hib; exact hib)
theorem ix_skip_some {s sub : ByteArray} {k o : Nat} (h2 : 2 ≤ sub.size) (hk : k < s.size) (hno : NoOccB s sub k) (hne : ¬ byteAt s k = byteAt sub 0) (hib : indexByte (bl (s.extract (k + 1) (s.size - sub.size + 1))) (UInt8.ofNat (byteAt sub 0).toNat) = o) : NoOccB s sub (k + (o + 1)) :=
  skip_some s sub k o h2 hk hno (ix_ne hk (by omega) hne) (by rw [byte_back2 sub (by omega)] at hib; exact hib)
theorem ix_second {s sub : ByteArray} {i : Nat} (hno : NoOccB s sub i) (h2 : 2 ≤ sub.size) (hi : i + 1 < s.size) (hne : ¬ byteAt s (i + 1) = byteAt sub 1) : NoOccB s sub (i + 1) :=
  miss_second s sub i hno h2 hi (by rw [byteAt_get s _ hi, byteAt_get sub 1 (by omega)] at hne; exact hne)
theorem ix_piece {s sub : ByteArray} {i : Nat} (hno : NoOccB s sub i) (hi : i + sub.size ≤ s.size) (h : ¬ s.extract i (i + sub.size) = sub) : NoOccB s sub (i + 1) := miss_piece s sub i hno hi (beq_of_ne h)
theorem ix_bound (s sub : ByteArray) (a : Nat) : -1 ≤ indexB (s.extract a s.size) sub ∧ indexB (s.extract a s.size) sub ≤ s.size := ⟨index_ge _ _, index_tail_le s sub a⟩
theorem ix_one {s sub : ByteArray} (h : sub.size = 1) : indexByte (bl s) (UInt8.ofNat (byteAt sub 0).toNat) = indexB s sub := by
  rw [one s sub h, byte_back2 sub (by omega)]; rfl
theorem ix_zero {s sub : ByteArray} (h : sub.size = 0 ∨ sub = s) : indexB s sub = 0 := zero s sub (by
  rcases h with h | h
  · exact .inl (by rw [h]; rfl)
  · exact .inr (beq_of_eq h))
theorem ix_fb {s sub : ByteArray} {k : Nat} (hno : NoOccB s sub k) (hk : k ≤ s.size) : indexB s sub = if indexB (s.extract k s.size) sub < 0 then -1 else indexB (s.extract k s.size) sub + k := by
  split
  · exact fb_neg s sub k hno hk (r := indexB (s.extract k s.size) sub) rfl (by assumption) (ix_bound s sub k).1
  · exact fb_pos s sub k hno hk (r := indexB (s.extract k s.size) sub) rfl (by omega)
theorem ivc {k : IntKind} {x y : Int} (h : x = y) : T.v (.int k x) = T.v (.int k y) := by rw [h]
theorem ix_long {s sub : ByteArray} (h1 : s.size ≤ sub.size) (h2 : ¬ sub = s) : indexB s sub = -1 := long s sub h1 (beq_of_ne h2)
end
def c233 : Ct := ctR (lc AStr (lc AStr l0)) (fun p => p.2.1.size ≤ 2000000 ∧ p.1.size ≤ 2000000) (fun p => .t (.v (.int .i64 (Lib.indexB p.1 p.2.1))))
section
attribute [local go_sem] c237 c238 c239 c240 glb eq_self decide_true Bool.not_true Bool.not_false
set_option maxHeartbeats 8000000 in
theorem good233 {G : Gt} (hG : OkG G) (hh : G.e 237 = roEnt 0 c237 ∧ G.e 238 = roEnt 3 (c238 G.m) ∧ G.e 239 = roEnt 0 c239 ∧ G.e 240 = roEnt 0 c240) : Gd G 233 (roEnt 0 c233) := by
  refine gR (dp := fun _ => true) (fn := Tryz.f233) (n := 2) (fun _ => rfl) (by kernel_rfl) rfl (by kernel_rfl) hG (Nat.le_of_ble_eq_true rfl) (by kernel_rfl) (by decide) (fun _ _ => .v _) ?_
  rintro ⟨s, sub, ⟨⟩⟩ hpre
  simp -implicitDefEqProofs only [Tryz.f233, go_sem, hh, Nat.reduceAdd, Nat.reduceMul, Nat.reduceLeDiff, Nat.reduceEqDiff, reduceCtorEq, Nat.reduceSub, Int.reduceNeg, Nat.reduceMod, Nat.reduceBEq, Nat.reduceLT] at hpre ⊢
  repeat' (first | with_reducible apply And.intro | with_reducible intro _ | ((first | apply brB_split | apply aPickB_split | apply gB_split | apply adB_split) <;> intro hb <;> simp -implicitDefEqProofs only [hb, go_sem, hh, Nat.reduceAdd, Nat.reduceMul, Nat.reduceLeDiff, Nat.reduceEqDiff, reduceCtorEq, Nat.reduceSub, Int.reduceNeg, Nat.reduceMod, Nat.reduceBEq, Nat.reduceLT] <;> try simp only [qz] at hb))
  all_goals (try simp only [maxLen, Int.toNat_natCast] at *)
  all_goals first | rfl | omega | skip
  · rw [ix_zero (.inl (by omega))]
  · rename_i hb; rw [ix_zero (.inr hb)]
  · rw [← ix_one (s := s) (sub := sub) (by omega)]; rfl
  · rw [ix_long (by omega) (by assumption)]
  all_goals
    have h2 : 2 ≤ sub.size := by omega
    have hls : sub.size < s.size := by omega
    refine run_loop [] (ι := {p : Nat × Nat // p.1 ≤ s.size - sub.size + 1 ∧ Lib.NoOccB s sub p.1 ∧ p.2 ≤ p.1}) (fun p => ⟨[(0, .t (.v (.string s))), (1, .t (.v (.string sub))), (5, .t (.v (.int .i64 sub.size))), (6, .t (.v (.int .u8 (byteAt sub 0)))), (7, .t (.v (.int .u8 (byteAt sub 1)))), (8, .t (.v (.int .i64 p.1.1))), (9, .t (.v (.int .i64 (s.size - sub.size + 1)))), (10, .t (.v (.int .i64 p.1.2)))], []⟩) (fun p => s.size - p.1.1) ⟨(0, 0), by dsimp only; omega, (fun j hj => absurd hj (Nat.not_lt_zero _)), by dsimp only; omega⟩ rfl ?_ ?_
    · simp -implicitDefEqProofs only [go_sem, hh, Nat.reduceAdd, Nat.reduceMul, Nat.reduceLeDiff, Nat.reduceEqDiff, reduceCtorEq, Nat.reduceSub, Int.reduceNeg, Nat.reduceMod, Nat.reduceBEq, Nat.reduceLT]
      simp
    · rintro ⟨⟨i, f⟩, hi, hno, hf⟩
      dsimp only at hi hno hf
      have et : ((s.size : Int) - sub.size + 1).toNat = s.size - sub.size + 1 := by omega
      have ei : ((i : Int) + 1).toNat = i + 1 := by omega
      by_cases ht : (i : Int) < s.size - sub.size + 1
      · by_cases e0 : byteAt s (i : Int).toNat = byteAt sub 0
        · have e1 : ((i : Int) + sub.size).toNat = i + sub.size := by omega
          simp -implicitDefEqProofs only [ht, e0, go_sem, hh, Nat.reduceAdd, Nat.reduceMul, Nat.reduceLeDiff, Nat.reduceEqDiff, reduceCtorEq, Nat.reduceSub, Int.reduceNeg, Nat.reduceMod, Nat.reduceBEq, Nat.reduceLT]
          repeat' (first | with_reducible apply And.intro | with_reducible intro _ | ((first | apply brB_split | apply aPickB_split | apply gB_split | apply adB_split) <;> intro hb <;> simp -implicitDefEqProofs only [hb, go_sem, hh, Nat.reduceAdd, Nat.reduceMul, Nat.reduceLeDiff, Nat.reduceEqDiff, reduceCtorEq, Nat.reduceSub, Int.reduceNeg, Nat.reduceMod, Nat.reduceBEq, Nat.reduceLT] <;> try simp only [qz] at hb))
          all_goals (try simp only [maxLen, Int.toNat_natCast, Int.reduceToNat, ei, et, e1] at *)
          all_goals first | rfl | omega | skip
          all_goals first
            | (rw [Lib.hit s sub i hno (by omega) (beq_of_eq (by assumption))]; done)
            | (rw [ByteArray.size_extract]; omega)
            | (have hk2 : Lib.NoOccB s sub (i + 1) := by
                 first
                   | exact ix_piece hno (by omega) (by assumption)
                   | exact ix_second hno h2 (by omega) (by assumption)
               have hbd := ix_bound s sub (i + 1)
               first
                 | omega
                 | (refine ivc ?_
                    rw [ix_fb hk2 (by omega)]
                    first
                      | (rw [if_pos (by omega)]; done)
                      | (rw [if_neg (by omega)]; omega))
                 | (refine ⟨⟨(i + 1, f + 1), by dsimp only; omega, hk2, by dsimp only; omega⟩, by dsimp only; omega, ?_⟩
                    simp -implicitDefEqProofs only [go_sem, hh, Nat.reduceAdd, Nat.reduceMul, Nat.reduceLeDiff, Nat.reduceEqDiff, reduceCtorEq, Nat.reduceSub, Int.reduceNeg, Nat.reduceMod, Nat.reduceBEq, Nat.reduceLT]
                    simp))
        · have hz : True := trivial
          rcases ib_cases (s.extract ((i : Int) + 1).toNat ((s.size : Int) - sub.size + 1).toNat) (UInt8.ofNat (byteAt sub (Int.toNat 0)).toNat) with h | ⟨o, h, ho⟩
          · have h' : Lib.indexByte (bl (s.extract ((i : Int) + 1).toNat ((s.size : Int) - sub.size + 1).toNat)) (UInt8.ofNat (byteAt sub 0).toNat) = -1 := h
            simp -implicitDefEqProofs only [ht, e0, h', go_sem, hh, Nat.reduceAdd, Nat.reduceMul, Nat.reduceLeDiff, Nat.reduceEqDiff, reduceCtorEq, Nat.reduceSub, Int.reduceNeg, Nat.reduceMod, Nat.reduceBEq, Nat.reduceLT]
            repeat' (first | with_reducible apply And.intro | with_reducible intro _ | ((first | apply brB_split | apply aPickB_split | apply gB_split | apply adB_split) <;> intro hb <;> simp -implicitDefEqProofs only [hb, go_sem, hh, Nat.reduceAdd, Nat.reduceMul, Nat.reduceLeDiff, Nat.reduceEqDiff, reduceCtorEq, Nat.reduceSub, Int.reduceNeg, Nat.reduceMod, Nat.reduceBEq, Nat.reduceLT] <;> try simp only [qz] at hb))
            all_goals (try simp only [maxLen] at *)
            all_goals first | rfl | omega | skip
            rw [ei, et] at h'
            rw [Int.toNat_natCast] at e0
            rw [ix_skip_none (k := i) h2 (by omega) (by omega) hno e0 h']
          · have h' : Lib.indexByte (bl (s.extract ((i : Int) + 1).toNat ((s.size : Int) - sub.size + 1).toNat)) (UInt8.ofNat (byteAt sub 0).toNat) = o := h
            have ho' : i + (o + 1) < s.size - sub.size + 1 := by
              rw [ei, et, ByteArray.size_extract] at ho; omega
            have hno' : Lib.NoOccB s sub (i + (o + 1)) := by
              rw [ei, et] at h'
              rw [Int.toNat_natCast] at e0
              exact ix_skip_some (k := i) h2 (by omega) hno e0 h'
            have e4 : ((i : Int) + ((o : Int) + 1)) = ((i + (o + 1) : Nat) : Int) := by omega
            simp -implicitDefEqProofs only [ht, e0, h', e4, go_sem, hh, Nat.reduceAdd, Nat.reduceMul, Nat.reduceLeDiff, Nat.reduceEqDiff, reduceCtorEq, Nat.reduceSub, Int.reduceNeg, Nat.reduceMod, Nat.reduceBEq, Nat.reduceLT]
            have hik : i ≤ i + (o + 1) := by omega
            have hob : o ≤ 2000000 := by omega
            clear h h' ho e0
            generalize i + (o + 1) = k at *
            have ek : ((k : Int) + 1).toNat = k + 1 := by omega
            have e1 : ((k : Int) + sub.size).toNat = k + sub.size := by omega
            repeat' (first | with_reducible apply And.intro | with_reducible intro _ | ((first | apply brB_split | apply aPickB_split | apply gB_split | apply adB_split) <;> intro hb <;> simp -implicitDefEqProofs only [hb, go_sem, hh, Nat.reduceAdd, Nat.reduceMul, Nat.reduceLeDiff, Nat.reduceEqDiff, reduceCtorEq, Nat.reduceSub, Int.reduceNeg, Nat.reduceMod, Nat.reduceBEq, Nat.reduceLT] <;> try simp only [qz] at hb))
            all_goals (try simp only [maxLen, Int.toNat_natCast, Int.reduceToNat, ei, et, e1, ek, e4] at *)
            all_goals first | rfl | omega | skip
            all_goals first
              | (rw [Lib.hit s sub k hno' (by omega) (beq_of_eq (by assumption))]; done)
              | (rw [ByteArray.size_extract]; omega)
              | (have hk2 : Lib.NoOccB s sub (k + 1) := by
                   first
                     | exact ix_piece hno' (by omega) (by assumption)
                     | exact ix_second hno' h2 (by omega) (by assumption)
                 have hbd := ix_bound s sub (k + 1)
                 first
                   | omega
                   | (refine ivc ?_
                      rw [ix_fb hk2 (by omega)]
                      first
                        | (rw [if_pos (by omega)]; done)
                        | (rw [if_neg (by omega)]; omega))
                   | (refine ⟨⟨(k + 1, f + 1), by dsimp only; omega, hk2, by dsimp only; omega⟩, by dsimp only; omega, ?_⟩
                      simp -implicitDefEqProofs only [go_sem, hh, Nat.reduceAdd, Nat.reduceMul, Nat.reduceLeDiff, Nat.reduceEqDiff, reduceCtorEq, Nat.reduceSub, Int.reduceNeg, Nat.reduceMod, Nat.reduceBEq, Nat.reduceLT]
                      simp))

      · simp -implicitDefEqProofs only [ht, go_sem, hh, Nat.reduceAdd, Nat.reduceMul, Nat.reduceLeDiff, Nat.reduceEqDiff, reduceCtorEq, Nat.reduceSub, Int.reduceNeg, Nat.reduceMod, Nat.reduceBEq, Nat.reduceLT]
        rw [Lib.past s sub i hno (by omega) (by omega)]
end
section
open Go.Lib
theorem eq_of_beqL {a b : ByteArray} (h : (a.toList == b.toList) = true) : a = b := by
  by_cases e : a = b
  · exact e
  · rw [beq_of_ne e] at h; cases h
def spA (c : UInt8) : List UInt8 → List (List UInt8)
  | [] => [[]]
  | x :: r => if x = c then [] :: spA c r else match spA c r with | h :: t => (x :: h) :: t | [] => [[x]]
def spl (s : ByteArray) (c : UInt8) : List ByteArray := (spA c (bl s)).map mB
theorem spA_len (c : UInt8) : ∀ l : List UInt8, (spA c l).length = l.count c + 1
  | [] => rfl
  | x :: r => by
    have h := spA_len c r
    rw [spA]
    by_cases e : x = c
    · rw [if_pos e, e, List.count_cons_self]; simp [h]
    · rw [if_neg e, List.count_cons_of_ne e]
      cases hs : spA c r with
      | nil => rw [hs] at h; simp at h
      | cons a t => rw [hs] at h; simp at h ⊢; exact h
theorem spA_none {c : UInt8} : ∀ {l : List UInt8}, (∀ j : Nat, l[j]? ≠ some c) → spA c l = [l]
  | [], _ => rfl
  | x :: r, h => by
    rw [spA, if_neg (fun e => h 0 (by rw [e]; rfl)), spA_none (fun j => h (j + 1))]
theorem spA_first {c : UInt8} : ∀ (o : Nat) (l : List UInt8), l[o]? = some c → (∀ k : Nat, k < o → l[k]? ≠ some c) → spA c l = l.take o :: spA c (l.drop (o + 1))
  | 0, l, h, _ => by
    cases l with
    | nil => cases h
    | cons x r => simp at h; rw [spA, if_pos h]; rfl
  | o + 1, l, h, hk => by
    cases l with
    | nil => cases h
    | cons x r =>
      rw [spA, if_neg (fun e => hk 0 (by omega) (by rw [e]; rfl)), spA_first o r h (fun k q => hk (k + 1) (by omega))]
      rfl
theorem splitN_spA {c : UInt8} : ∀ (l : List UInt8) (m : Nat), (splitN c m l).length ≤ m ∨ (spA c l).length ≤ m → splitN c m l = spA c l
  | l, 0, h => by
    have := spA_len c l
    rw [splitN] at h
    rcases h with h | h
    · exact absurd h (by simp)
    · omega
  | [], m + 1, _ => by rw [splitN, spA]
  | x :: r, m + 1, h => by
    rw [splitN, spA] at h ⊢
    by_cases e : x = c
    · rw [if_pos e, if_pos e] at h ⊢
      rw [splitN_spA r m (by simp at h; exact h)]
    · rw [if_neg e, if_neg e] at h ⊢
      have h2 : (splitN c (m + 1) r).length ≤ m + 1 ∨ (spA c r).length ≤ m + 1 := by
        rcases h with h | h
        · cases hs : splitN c (m + 1) r with
          | nil => exact .inl (by simp)
          | cons a t => rw [hs] at h; exact .inl (by simpa using h)
        · cases hs : spA c r with
          | nil => exact .inr (by simp)
          | cons a t => rw [hs] at h; exact .inr (by simpa using h)
      rw [splitN_spA r (m + 1) h2]
      all_goals (cases spA c r <;> rfl)
theorem Dom_spl (s : ByteArray) : Dom s ↔ (∀ w ∈ spl s 46, Lbl w) ∧ (spl s 46).length ≤ 3 := by
  unfold Dom cutL spl
  constructor
  · rintro ⟨h1, h2⟩
    rw [List.length_map] at h2
    rw [splitN_spA _ _ (.inl h2)] at h1 h2
    exact ⟨h1, by rw [List.length_map]; exact h2⟩
  · rintro ⟨h1, h2⟩
    rw [List.length_map] at h2
    rw [← splitN_spA _ _ (.inr h2)] at h1 h2
    exact ⟨h1, by rw [List.length_map]; exact h2⟩
theorem indexByte_none : ∀ {l : List UInt8} {c : UInt8}, indexByte l c = -1 → ∀ j : Nat, l[j]? ≠ some c
  | [], c, _, j => by simp
  | b :: l, c, h, j => by
    have hge := indexByte_ge l c
    unfold indexByte at h
    by_cases e : b = c
    · rw [if_pos (by simp [e])] at h; cases h
    · rw [if_neg (by simp [e])] at h
      by_cases e2 : indexByte l c = -1
      · cases j with
        | zero => simp [e]
        | succ j => exact indexByte_none e2 j
      · rw [if_neg (by simp [e2])] at h; omega
theorem spl_none {s sep : ByteArray} (h1 : sep.size = 1) (h : indexB s sep = -1) : spl s (UInt8.ofNat (byteAt sep 0).toNat) = [s] := by
  rw [← ix_one h1] at h
  unfold spl
  rw [spA_none (indexByte_none h)]
  rfl
theorem spl_some {s sep : ByteArray} (h1 : sep.size = 1) {o : Nat} (h : indexB s sep = o) : o < s.size ∧ spl s (UInt8.ofNat (byteAt sep 0).toNat) = s.extract 0 o :: spl (s.extract (o + 1) s.size) (UInt8.ofNat (byteAt sep 0).toNat) := by
  rw [← ix_one h1] at h
  obtain ⟨ha, hb⟩ := indexByte_some h
  refine ⟨(List.getElem?_eq_some_iff.1 ha).1, ?_⟩
  unfold spl
  rw [spA_first o _ ha hb, List.map_cons, bl_extract s (o + 1) s.size, List.take_of_length_le (l := (bl s).drop (o + 1)) (by rw [List.length_drop, bl_len]; exact Nat.le_refl _)]
  rw [extract_mk s 0 o]; rfl
theorem fill_set {α : Type} (enc : α → List T) (d x : α) (p : List α) (n : Nat) : ((p ++ List.replicate (n + 1) d).map enc).set p.length (enc x) = ((p ++ [x]) ++ List.replicate n d).map enc := by
  rw [← List.map_set, List.set_append_right _ _ (Nat.le_refl _), Nat.sub_self, List.replicate_succ, List.set_cons_zero, List.append_assoc]; rfl
theorem fillS {t : ByteArray} {p : List ByteArray} {n : Nat} : ((p ++ List.replicate (n + 1) (⟨#[]⟩ : ByteArray)).map encStr).set p.length [T.v (.string t)] = ((p ++ [t]) ++ List.replicate n (⟨#[]⟩ : ByteArray)).map encStr := fill_set encStr _ t p n
theorem spl_len (s : ByteArray) (c : UInt8) : (spl s c).length = countByte (bl s) c + 1 := by
  unfold spl; rw [List.length_map, spA_len]; rfl
theorem cnt_le (s : ByteArray) (c : UInt8) : countByte (bl s) c ≤ s.size := by
  have := List.count_le_length (a := c) (l := bl s)
  exact this
theorem spl_cases {s sep : ByteArray} (h1 : sep.size = 1) : (indexB s sep = -1 ∧ countByte (bl s) (UInt8.ofNat (byteAt sep 0).toNat) = 0 ∧ spl s (UInt8.ofNat (byteAt sep 0).toNat) = [s]) ∨ ∃ o : Nat, indexB s sep = o ∧ o < s.size ∧ spl s (UInt8.ofNat (byteAt sep 0).toNat) = s.extract 0 o :: spl (s.extract (o + 1) s.size) (UInt8.ofNat (byteAt sep 0).toNat) ∧ countByte (bl s) (UInt8.ofNat (byteAt sep 0).toNat) = countByte (bl (s.extract (o + 1) s.size)) (UInt8.ofNat (byteAt sep 0).toNat) + 1 := by
  have hge := index_ge (bl s) (bl sep)
  by_cases h : indexB s sep = -1
  · refine .inl ⟨h, ?_, spl_none h1 h⟩
    have := spl_len s (UInt8.ofNat (byteAt sep 0).toNat)
    rw [spl_none h1 h] at this
    simp at this; exact this
  · have hge' : -1 ≤ indexB s sep := hge
    obtain ⟨o, ho⟩ : ∃ o : Nat, indexB s sep = o := ⟨(indexB s sep).toNat, by omega⟩
    obtain ⟨a, b⟩ := spl_some h1 ho
    refine .inr ⟨o, ho, a, b, ?_⟩
    have q1 := spl_len s (UInt8.ofNat (byteAt sep 0).toNat)
    have q2 := spl_len (s.extract (o + 1) s.size) (UInt8.ofNat (byteAt sep 0).toNat)
    rw [b, List.length_cons, q2] at q1
    omega
theorem Has_index (s p : ByteArray) : 0 ≤ indexB s p ↔ Has s p := by
  constructor
  · intro h
    rcases index_spec (bl s) (bl p) with ⟨h1, _⟩ | ⟨i, h1, h2, h3, h4⟩
    · have : indexB s p = -1 := h1
      omega
    · have hr := index_room (bl s) (bl p) (by rw [h1]; omega)
      have hi : i + p.size ≤ s.size := by
        rw [h1, bl_len, bl_len] at hr; omega
      refine ⟨i, hi, ?_⟩
      have := occ_of_piece s p i hi
      rw [show occAt s.data.toList p.data.toList i = true from h3] at this
      exact eq_of_beqL this.symm
  · rintro ⟨i, hi, he⟩
    rcases index_spec (bl s) (bl p) with ⟨h1, h2⟩ | ⟨j, h1, h2, h3, h4⟩
    · have h := h2 i (by rw [bl_len]; omega)
      rw [show bl s = s.data.toList from rfl, show bl p = p.data.toList from rfl, occ_of_piece s p i hi, he] at h
      simp at h
    · show 0 ≤ index _ _
      rw [show s.data.toList = bl s from rfl, show p.data.toList = bl p from rfl, h1]
      omega
end
def c224 : Ct := ctR (lc AStr (lc AStr l0)) (fun p => p.2.1.size ≤ 2000000 ∧ p.1.size ≤ 2000000) (fun p => .t (.v (.int .i64 (Lib.indexB p.1 p.2.1))))
section
attribute [local go_sem] c233
theorem good224 {G : Gt} (hG : OkG G) (hh : G.e 233 = roEnt 0 c233) : Gd G 224 (roEnt 0 c224) := by
  refine gR (dp := fun _ => true) (fn := Tryz.f224) (n := 2) (fun _ => rfl) (by kernel_rfl) rfl (by kernel_rfl) hG (Nat.le_of_ble_eq_true rfl) (by kernel_rfl) (by decide) (fun _ _ => .v _) ?_
  rintro ⟨s, sub, ⟨⟩⟩ hpre
  simp -implicitDefEqProofs only [Tryz.f224, go_sem, hh, Nat.reduceAdd, Nat.reduceMul, Nat.reduceLeDiff, Nat.reduceEqDiff, reduceCtorEq, Nat.reduceSub, Int.reduceNeg, Nat.reduceMod, Nat.reduceBEq, Nat.reduceLT] at hpre ⊢
  repeat' (first | with_reducible apply And.intro | with_reducible intro _ | ((first | apply brB_split | apply aPickB_split | apply gB_split | apply adB_split) <;> intro hb <;> simp -implicitDefEqProofs only [hb, go_sem, hh, Nat.reduceAdd, Nat.reduceMul, Nat.reduceLeDiff, Nat.reduceEqDiff, reduceCtorEq, Nat.reduceSub, Int.reduceNeg, Nat.reduceMod, Nat.reduceBEq, Nat.reduceLT] <;> try simp only [qz] at hb))
  all_goals first | rfl | omega | skip
end
def c223 : Ct := ctR (lc AStr (lc AStr l0)) (fun p => p.2.1.size = 1 ∧ p.1.size ≤ 2000000) (fun p => .t (.v (.int .i64 (Lib.countByte (bl p.1) (UInt8.ofNat (byteAt p.2.1 0).toNat)))))
section
attribute [local go_sem] c232
theorem good223 {G : Gt} (hG : OkG G) (hh : G.e 232 = roEnt 3 c232) : Gd G 223 (roEnt 0 c223) := by
  refine gR (dp := fun _ => true) (fn := Tryz.f223) (n := 2) (fun _ => rfl) (by kernel_rfl) rfl (by kernel_rfl) hG (Nat.le_of_ble_eq_true rfl) (by kernel_rfl) (by decide) (fun _ _ => .v _) ?_
  rintro ⟨s, sub, ⟨⟩⟩ hpre
  simp -implicitDefEqProofs only [Tryz.f223, go_sem, hh, Nat.reduceAdd, Nat.reduceMul, Nat.reduceLeDiff, Nat.reduceEqDiff, reduceCtorEq, Nat.reduceSub, Int.reduceNeg, Nat.reduceMod, Nat.reduceBEq, Nat.reduceLT] at hpre ⊢
  have h1 : (sub.size : Int) = 1 := by omega
  simp -implicitDefEqProofs only [h1, go_sem, hh, Nat.reduceAdd, Nat.reduceMul, Nat.reduceLeDiff, Nat.reduceEqDiff, reduceCtorEq, Nat.reduceSub, Int.reduceNeg, Nat.reduceMod, Nat.reduceBEq, Nat.reduceLT]
  repeat' (first | with_reducible apply And.intro | with_reducible intro _ | ((first | apply brB_split | apply aPickB_split | apply gB_split | apply adB_split) <;> intro hb <;> simp -implicitDefEqProofs only [hb, go_sem, hh, Nat.reduceAdd, Nat.reduceMul, Nat.reduceLeDiff, Nat.reduceEqDiff, reduceCtorEq, Nat.reduceSub, Int.reduceNeg, Nat.reduceMod, Nat.reduceBEq, Nat.reduceLT] <;> try simp only [qz] at hb))
  all_goals first | rfl | omega | skip
end
def c205 : Ct := ctR (lc AStr (lc AStr (lc AInt (lc AInt l0)))) (fun p => p.2.1.size = 1 ∧ p.2.2.1 = 0 ∧ p.2.2.2.1 = -1 ∧ p.1.size ≤ 2000000) (fun p => .o true 1 ((spl p.1 (UInt8.ofNat (byteAt p.2.1 0).toNat)).map encStr))
section
attribute [local go_sem] c223 c224 aSet_map aCell_map List.map_replicate
set_option maxHeartbeats 1600000 in
theorem good205 {G : Gt} (hG : OkG G) (hh : G.e 223 = roEnt 0 c223 ∧ G.e 224 = roEnt 0 c224) : Gd G 205 (roEnt 0 c205) := by
  refine gR (dp := fun _ => true) (fn := Tryz.f205) (n := 4) (fun _ => rfl) (by kernel_rfl) rfl (by kernel_rfl) hG (Nat.le_of_ble_eq_true rfl) (by kernel_rfl) (by decide) (fun _ _ => .deep _ _) ?_
  rintro ⟨s, sep, sv, n, ⟨⟩⟩ hpre
  obtain ⟨h1, h2, h3, h4⟩ := hpre
  dsimp only at h1 h2 h3 h4
  subst h2 h3
  have hse : ¬ sep = ⟨#[]⟩ := by intro e; rw [e] at h1; cases h1
  have hc := cnt_le s (UInt8.ofNat (byteAt sep 0).toNat)
  have hl := spl_len s (UInt8.ofNat (byteAt sep 0).toNat)
  have hmin : ¬ ((s.size : Int) + 1 < (Lib.countByte (bl s) (UInt8.ofNat (byteAt sep 0).toNat) : Int) + 1) := by omega
  simp -implicitDefEqProofs only [Tryz.f205, hse, if_neg hmin, go_sem, hh, Nat.reduceAdd, Nat.reduceMul, Nat.reduceLeDiff, Nat.reduceEqDiff, reduceCtorEq, Nat.reduceSub, Int.reduceNeg, Nat.reduceMod, Nat.reduceBEq, Nat.reduceLT]
  repeat' (first | with_reducible apply And.intro | with_reducible intro _ | ((first | apply brB_split | apply aPickB_split | apply gB_split | apply adB_split) <;> intro hb <;> simp -implicitDefEqProofs only [hb, go_sem, hh, Nat.reduceAdd, Nat.reduceMul, Nat.reduceLeDiff, Nat.reduceEqDiff, reduceCtorEq, Nat.reduceSub, Int.reduceNeg, Nat.reduceMod, Nat.reduceBEq, Nat.reduceLT] <;> try simp only [qz] at hb))
  all_goals (try simp only [maxLen, Int.toNat_natCast] at *)
  all_goals first | rfl | omega | skip
  refine run_loop [] (ι := {z : List ByteArray × ByteArray // spl s (UInt8.ofNat (byteAt sep 0).toNat) = z.1 ++ spl z.2 (UInt8.ofNat (byteAt sep 0).toNat) ∧ z.2.size ≤ s.size}) (fun z => ⟨[(0, .t (.v (.string z.1.2))), (1, .t (.v (.string sep))), (2, .t (.v (.int .i64 0))), (3, .t (.v (.int .i64 (Lib.countByte (bl s) (UInt8.ofNat (byteAt sep 0).toNat))))), (9, .h 1031), (10, .t (.v (.int .i64 z.1.1.length)))], [(1031, some (.arr true 1 ((z.1.1 ++ List.replicate (Lib.countByte (bl s) (UInt8.ofNat (byteAt sep 0).toNat) + 1 - z.1.1.length) (⟨#[]⟩ : ByteArray)).map encStr)))]⟩) (fun z => s.size + 1 - z.1.1.length) ⟨([], s), rfl, Nat.le_refl _⟩ rfl ?_ ?_
  · simp -implicitDefEqProofs only [go_sem, hh, Nat.reduceAdd, Nat.reduceMul, Nat.reduceLeDiff, Nat.reduceEqDiff, reduceCtorEq, Nat.reduceSub, Int.reduceNeg, Nat.reduceMod, Nat.reduceBEq, Nat.reduceLT]
    simp
    constructor <;> split <;> omega
  · rintro ⟨⟨p, t⟩, hz, ht⟩
    dsimp only at hz ht
    have hcl : (spl s (UInt8.ofNat (byteAt sep 0).toNat)).length = p.length + (spl t (UInt8.ofNat (byteAt sep 0).toNat)).length := by rw [hz, List.length_append]
    rw [hl, spl_len] at hcl
    by_cases hlt : (p.length : Int) < Lib.countByte (bl s) (UInt8.ofNat (byteAt sep 0).toNat)
    · rcases spl_cases (s := t) h1 with ⟨_, q, _⟩ | ⟨o, q1, q2, q3, q4⟩
      · omega
      · have q0 : ¬ (o : Int) < 0 := by omega
        simp -implicitDefEqProofs only [hlt, q1, q0, go_sem, hh, Nat.reduceAdd, Nat.reduceMul, Nat.reduceLeDiff, Nat.reduceEqDiff, reduceCtorEq, Nat.reduceSub, Int.reduceNeg, Nat.reduceMod, Nat.reduceBEq, Nat.reduceLT]
        obtain ⟨n, hn⟩ : ∃ n, Lib.countByte (bl s) (UInt8.ofNat (byteAt sep 0).toNat) + 1 - p.length = n + 1 := ⟨Lib.countByte (bl s) (UInt8.ofNat (byteAt sep 0).toNat) - p.length, by omega⟩
        have hn2 : n = Lib.countByte (bl s) (UInt8.ofNat (byteAt sep 0).toNat) - p.length := by omega
        have hs1 : ((o : Int) + sep.size).toNat = o + 1 := by omega
        repeat' (first | with_reducible apply And.intro | with_reducible intro _ | ((first | apply brB_split | apply aPickB_split | apply gB_split | apply adB_split) <;> intro hb <;> simp -implicitDefEqProofs only [hb, go_sem, hh, Nat.reduceAdd, Nat.reduceMul, Nat.reduceLeDiff, Nat.reduceEqDiff, reduceCtorEq, Nat.reduceSub, Int.reduceNeg, Nat.reduceMod, Nat.reduceBEq, Nat.reduceLT] <;> try simp only [qz] at hb))
        all_goals (try simp only [maxLen, Int.toNat_natCast, Int.add_zero, hn, fillS, List.length_map, List.length_append, List.length_replicate, hs1] at *)
        all_goals first | rfl | omega | skip
        refine ⟨⟨(p ++ [t.extract 0 o], t.extract (o + 1) t.size), ?_, ?_⟩, ?_, ?_⟩
        · dsimp only; rw [hz, q3, List.append_assoc]; rfl
        · dsimp only; rw [ByteArray.size_extract]; omega
        · dsimp only; rw [List.length_append]; simp; omega
        · have e2 : Lib.countByte (bl s) (UInt8.ofNat (byteAt sep 0).toNat) + 1 - (p ++ [t.extract 0 o]).length = n := by rw [List.length_append, hn2]; simp
          simp -implicitDefEqProofs only [e2, go_sem, hh, Nat.reduceAdd, Nat.reduceMul, Nat.reduceLeDiff, Nat.reduceEqDiff, reduceCtorEq, Nat.reduceSub, Int.reduceNeg, Nat.reduceMod, Nat.reduceBEq, Nat.reduceLT]
          simp
    · simp -implicitDefEqProofs only [hlt, go_sem, hh, Nat.reduceAdd, Nat.reduceMul, Nat.reduceLeDiff, Nat.reduceEqDiff, reduceCtorEq, Nat.reduceSub, Int.reduceNeg, Nat.reduceMod, Nat.reduceBEq, Nat.reduceLT]
      rcases spl_cases (s := t) h1 with ⟨_, _, q⟩ | ⟨o, q1, q2, q3, q4⟩
      · have hn : Lib.countByte (bl s) (UInt8.ofNat (byteAt sep 0).toNat) + 1 - p.length = 0 + 1 := by omega
        rw [q] at hz
        repeat' (first | with_reducible apply And.intro | with_reducible intro _ | ((first | apply brB_split | apply aPickB_split | apply gB_split | apply adB_split) <;> intro hb <;> simp -implicitDefEqProofs only [hb, go_sem, hh, Nat.reduceAdd, Nat.reduceMul, Nat.reduceLeDiff, Nat.reduceEqDiff, reduceCtorEq, Nat.reduceSub, Int.reduceNeg, Nat.reduceMod, Nat.reduceBEq, Nat.reduceLT] <;> try simp only [qz] at hb))
        all_goals (try simp only [maxLen, Int.toNat_natCast, Int.add_zero, hn, fillS, List.length_map, List.length_append, List.length_replicate] at *)
        all_goals first | rfl | omega | (simp; done) | skip
        · rw [hz, List.replicate_zero, List.append_nil, List.take_of_length_le]
          simp
      · omega
end
def bx (l : List Bool) : List AV := l.map fun b => .t (.v (.bool b))
def bxT (l : List Bool) : List T := l.map fun b => .v (.bool b)
def bxD : List T → Option (List Bool)
  | [] => some []
  | .v (.bool b) :: r => (bxD r).map (b :: ·)
  | _ => none
theorem bxD_ed : ∀ l, bxD (bxT l) = some l
  | [] => rfl
  | b :: l => by show (bxD (bxT l)).map (b :: ·) = _; rw [bxD_ed l]; rfl
theorem bxD_de : ∀ {c l}, bxD c = some l → bxT l = c
  | [], _, h => by cases h; rfl
  | x :: c, l, h => by
    unfold bxD at h
    split at h
    · rename_i e; cases e
    · rename_i e
      cases e
      cases hq : bxD c with
      | none => rw [hq] at h; cases h
      | some l' => rw [hq] at h; cases h; rw [← bxD_de hq]; rfl
    · cases h
def bxA : AV → Option (List Bool)
  | .t (.rop c) => bxD c
  | _ => none
def ABs : AD (List Bool) where
  enc l := .t (.rop (bxT l))
  dec := bxA
  ed := fun l => bxD_ed l
  de := fun x l h => by
    unfold bxA at h
    split at h
    · rw [← bxD_de h]
    · cases h
theorem ABs_dec {l : List Bool} : ABs.dec (.t (.rop (bxT l))) = some l := bxD_ed l
theorem ABs_enc {l : List Bool} : ABs.enc l = .t (.rop (bxT l)) := rfl
theorem bx_len {l : List Bool} : (bx l).length = l.length := by simp [bx]
theorem bxT_len {l : List Bool} : (bxT l).length = l.length := by simp [bxT]
def z256 : List Value := List.replicate 256 (.bool false)
def b256 : List Bool := List.replicate 256 false
theorem tyasz : tyOf Tryz.prog 248 = some ⟨.arr 256 4, 256, 256, z256⟩ := ty248
theorem bx_zero : z256.map avc1 = bx b256 := by simp [bx, z256, b256]; rfl
theorem bx_fine : z256.all fineB = true := by decide
theorem b256_len : b256.length = 256 := rfl
theorem bx_drop0 : List.drop 256 (bx b256) = [] := rfl
theorem bx_spl {l : List Bool} {k : Nat} {b : Bool} (h : k < l.length) : (bx l).take k ++ AV.t (.v (.bool b)) :: (bx l).drop (k + 1) = bx (l.set k b) := by
  unfold bx
  rw [List.set_eq_take_append_cons_drop, if_pos h]
  simp
theorem bx_splice {l : List Bool} {k : Nat} {b : Bool} (h : k < l.length) : splice (bx l) k [AV.t (.v (.bool b))] = bx (l.set k b) := by
  unfold splice bx
  rw [List.set_eq_take_append_cons_drop, if_pos h]
  simp
theorem bx_take {l : List Bool} {n : Nat} (h : l.length = n) : (bx l).take n = bx l := List.take_of_length_le (by rw [bx_len]; omega)
theorem bx_snap {s : AS} {n : Nat} : ∀ {l : List Bool}, mapO (s.snapT (n + 1)) (bx l) = some (bxT l)
  | [] => rfl
  | b :: l => by
    have h := bx_snap (s := s) (n := n) (l := l)
    unfold bx bxT at h ⊢
    simp only [List.map_cons, mapO, h, AS.snapT]
theorem bxT_get {l : List Bool} {k : Nat} (h : k < l.length) : (bxT l).drop k = T.v (.bool (l.getD k false)) :: (bxT l).drop (k + 1) := by
  rw [List.drop_eq_getElem_cons (by rw [bxT_len]; exact h)]
  congr 1
  simp [bxT, h]
theorem bx_outP {s : AS} : ∀ {l : List Bool}, outPL s (bx l) (bx l)
  | [] => trivial
  | b :: l => ⟨by simp only [outP, outT], bx_outP⟩
theorem bx_outI {s : AS} : ∀ {l : List Bool}, outIL s (bx l) (bx l) = []
  | [] => rfl
  | b :: l => by show outI s (.t (.v (.bool b))) (.t (.v (.bool b))) ++ outIL s (bx l) (bx l) = []; rw [bx_outI]; rfl
theorem bx_outZ {s : AS} : ∀ {l : List Bool}, outZL s (bx l) (bx l) = []
  | [] => rfl
  | b :: l => by show outZ s (.t (.v (.bool b))) (.t (.v (.bool b))) ++ outZL s (bx l) (bx l) = []; rw [bx_outZ]; rfl
theorem bx_intern {d k : Nat} {s : AS} : ∀ {l : List Bool}, internL d k (bx l) s = ⟨bx l, s, k⟩
  | [] => rfl
  | b :: l => by
    show InL.mk (AV.t (.v (.bool b)) :: (internL d k (bx l) s).avs) (internL d k (bx l) s).s (internL d k (bx l) s).k = _
    rw [bx_intern]; rfl
theorem bx_has {k : Nat} : ∀ {l : List Bool}, AV.hasL k (bx l) = false
  | [] => rfl
  | b :: l => by show (false || AV.hasL k (bx l)) = false; rw [bx_has]; rfl
theorem bx_dropm {k : Nat} : ∀ {l : List Bool}, (bx l).map (AV.drop k) = bx l
  | [] => rfl
  | b :: l => by show AV.t (.v (.bool b)) :: (bx l).map (AV.drop k) = _; rw [bx_dropm]; rfl
def setN (cs : ByteArray) : Nat → List Bool
  | 0 => b256
  | n + 1 => (setN cs n).set (byteAt cs n).toNat true
theorem setN_len (cs : ByteArray) : ∀ n, (setN cs n).length = 256
  | 0 => rfl
  | n + 1 => by rw [setN, List.length_set]; exact setN_len cs n
def trR (l : List Bool) (s : ByteArray) : ByteArray :=
  if h : s.size = 0 then s else bif l.getD (byteAt s (s.size - 1)).toNat false then trR l (s.extract 0 (s.size - 1)) else s
termination_by s.size
decreasing_by rw [ByteArray.size_extract]; omega
def trL (l : List Bool) (s : ByteArray) : ByteArray :=
  if h : s.size = 0 then s else bif l.getD (byteAt s 0).toNat false then trL l (s.extract 1 s.size) else s
termination_by s.size
decreasing_by rw [ByteArray.size_extract]; omega
theorem trR_nil {l : List Bool} : trR l ⟨#[]⟩ = ⟨#[]⟩ := by rw [trR]; exact dif_pos rfl
theorem trL_nil {l : List Bool} : trL l ⟨#[]⟩ = ⟨#[]⟩ := by rw [trL]; exact dif_pos rfl
theorem trR_le (l : List Bool) (s : ByteArray) : (trR l s).size ≤ s.size := by
  rw [trR]
  split
  · exact Nat.le_refl _
  · cases l.getD (byteAt s (s.size - 1)).toNat false
    · exact Nat.le_refl _
    · have := trR_le l (s.extract 0 (s.size - 1))
      rw [ByteArray.size_extract] at this
      show (trR l (s.extract 0 (s.size - 1))).size ≤ _
      omega
termination_by s.size
decreasing_by rw [ByteArray.size_extract]; omega
def c227 : Ct := ctR (lc ABs (lc AU8 l0)) (fun p => p.1.length = 256 ∧ 0 ≤ p.2.1 ∧ p.2.1 < 256) (fun p => .t (.v (.bool (p.1.getD p.2.1.toNat false))))
section
attribute [local go_sem] tyasz ABs_dec ABs_enc bxT_len
theorem good227 {G : Gt} (hG : OkG G) : Gd G 227 (roEnt 0 c227) := by
  refine gR (dp := fun _ => true) (fn := Tryz.f227) (n := 2) (fun _ => rfl) (by kernel_rfl) rfl (by kernel_rfl) hG (Nat.le_of_ble_eq_true rfl) (by kernel_rfl) (by decide) (fun _ _ => .v _) ?_
  rintro ⟨l, c, ⟨⟩⟩ hpre
  simp -implicitDefEqProofs only [Tryz.f227, go_sem, Nat.reduceAdd, Nat.reduceMul, Nat.reduceLeDiff, Nat.reduceEqDiff, reduceCtorEq, Nat.reduceSub, Int.reduceNeg, Nat.reduceMod, Nat.reduceBEq, Nat.reduceLT] at hpre ⊢
  have hk : c.toNat < l.length := by omega
  simp -implicitDefEqProofs only [bxT_get hk, Nat.mul_one, hpre.1, go_sem, Nat.reduceAdd, Nat.reduceMul, Nat.reduceLeDiff, Nat.reduceEqDiff, reduceCtorEq, Nat.reduceSub, Int.reduceNeg, Nat.reduceMod, Nat.reduceBEq, Nat.reduceLT]
  repeat' (first | with_reducible apply And.intro | with_reducible intro _ | ((first | apply brB_split | apply aPickB_split | apply gB_split | apply adB_split) <;> intro hb <;> simp -implicitDefEqProofs only [hb, go_sem, Nat.reduceAdd, Nat.reduceMul, Nat.reduceLeDiff, Nat.reduceEqDiff, reduceCtorEq, Nat.reduceSub, Int.reduceNeg, Nat.reduceMod, Nat.reduceBEq, Nat.reduceLT] <;> try simp only [qz] at hb))
  all_goals first | rfl | omega | skip
  all_goals trace_state
end
def c217 : Ct := ctR (lc AStr (lc ABs l0)) (fun p => p.2.1.length = 256 ∧ p.1.size ≤ 2000000) (fun p => .t (.v (.string (trR p.2.1 p.1))))
section
attribute [local go_sem] c227 ABs_dec ABs_enc Bool.not_true Bool.not_false
theorem good217 {G : Gt} (hG : OkG G) (hh : G.e 227 = roEnt 0 c227) : Gd G 217 (roEnt 0 c217) := by
  refine gR (dp := fun _ => true) (fn := Tryz.f217) (n := 2) (fun _ => rfl) (by kernel_rfl) rfl (by kernel_rfl) hG (Nat.le_of_ble_eq_true rfl) (by kernel_rfl) (by decide) (fun _ _ => .v _) ?_
  rintro ⟨s, l, ⟨⟩⟩ hpre
  simp -implicitDefEqProofs only [Tryz.f217, go_sem, hh, Nat.reduceAdd, Nat.reduceMul, Nat.reduceLeDiff, Nat.reduceEqDiff, reduceCtorEq, Nat.reduceSub, Int.reduceNeg, Nat.reduceMod, Nat.reduceBEq, Nat.reduceLT] at hpre ⊢
  refine run_loop [] (ι := {t : ByteArray // trR l t = trR l s ∧ t.size ≤ s.size}) (fun p => ⟨[(0, .t (.v (.string p.1))), (1, .t (.rop (bxT l)))], []⟩) (fun p => p.1.size) ⟨s, rfl, Nat.le_refl _⟩ rfl ?_ ?_
  · simp -implicitDefEqProofs only [go_sem, hh, Nat.reduceAdd, Nat.reduceMul, Nat.reduceLeDiff, Nat.reduceEqDiff, reduceCtorEq, Nat.reduceSub, Int.reduceNeg, Nat.reduceMod, Nat.reduceBEq, Nat.reduceLT]
    try simp
  · rintro ⟨t, ht, hts⟩
    by_cases h0 : t.size = 0
    · have h1 : (t.size : Int) = 0 := by omega
      simp -implicitDefEqProofs only [h1, go_sem, hh, Nat.reduceAdd, Nat.reduceMul, Nat.reduceLeDiff, Nat.reduceEqDiff, reduceCtorEq, Nat.reduceSub, Int.reduceNeg, Nat.reduceMod, Nat.reduceBEq, Nat.reduceLT]
      repeat' (first | with_reducible apply And.intro | with_reducible intro _ | ((first | apply brB_split | apply aPickB_split | apply gB_split | apply adB_split) <;> intro hb <;> simp -implicitDefEqProofs only [hb, go_sem, hh, Nat.reduceAdd, Nat.reduceMul, Nat.reduceLeDiff, Nat.reduceEqDiff, reduceCtorEq, Nat.reduceSub, Int.reduceNeg, Nat.reduceMod, Nat.reduceBEq, Nat.reduceLT] <;> try simp only [qz] at hb))
      all_goals first | rfl | omega | skip
      rw [← ht, trR, dif_pos h0]
    · have h1 : (t.size : Int) > 0 := by omega
      have hbr := byteAt_range t (t.size - 1)
      have hr : trR l t = bif l.getD (byteAt t (t.size - 1)).toNat false then trR l (t.extract 0 (t.size - 1)) else t := by
        rw [trR, dif_neg h0]
      have e1 : ((t.size : Int) - 1).toNat = (t.size - 1) := by omega
      cases hb : l.getD (byteAt t (((t.size : Int) - 1).toNat)).toNat false
      · simp -implicitDefEqProofs only [h1, hb, go_sem, hh, Nat.reduceAdd, Nat.reduceMul, Nat.reduceLeDiff, Nat.reduceEqDiff, reduceCtorEq, Nat.reduceSub, Int.reduceNeg, Nat.reduceMod, Nat.reduceBEq, Nat.reduceLT]
        repeat' (first | with_reducible apply And.intro | with_reducible intro _ | ((first | apply brB_split | apply aPickB_split | apply gB_split | apply adB_split) <;> intro hb <;> simp -implicitDefEqProofs only [hb, go_sem, hh, Nat.reduceAdd, Nat.reduceMul, Nat.reduceLeDiff, Nat.reduceEqDiff, reduceCtorEq, Nat.reduceSub, Int.reduceNeg, Nat.reduceMod, Nat.reduceBEq, Nat.reduceLT] <;> try simp only [qz] at hb))
        all_goals first | rfl | omega | skip
        all_goals rw [e1] at *
        all_goals first | omega | (rw [← ht, hr, hb]; rfl)
      · simp -implicitDefEqProofs only [h1, hb, go_sem, hh, Nat.reduceAdd, Nat.reduceMul, Nat.reduceLeDiff, Nat.reduceEqDiff, reduceCtorEq, Nat.reduceSub, Int.reduceNeg, Nat.reduceMod, Nat.reduceBEq, Nat.reduceLT]
        repeat' (first | with_reducible apply And.intro | with_reducible intro _ | ((first | apply brB_split | apply aPickB_split | apply gB_split | apply adB_split) <;> intro hb <;> simp -implicitDefEqProofs only [hb, go_sem, hh, Nat.reduceAdd, Nat.reduceMul, Nat.reduceLeDiff, Nat.reduceEqDiff, reduceCtorEq, Nat.reduceSub, Int.reduceNeg, Nat.reduceMod, Nat.reduceBEq, Nat.reduceLT] <;> try simp only [qz] at hb))
        all_goals first | rfl | omega | skip
        all_goals rw [e1] at *
        all_goals first | omega | skip
        refine ⟨⟨t.extract 0 (t.size - 1), ?_, ?_⟩, ?_, ?_⟩
        · rw [← ht, hr, hb]; rfl
        · rw [ByteArray.size_extract]; omega
        · show (t.extract 0 (t.size - 1)).size < t.size
          rw [ByteArray.size_extract]; omega
        · simp -implicitDefEqProofs only [go_sem, hh, Nat.reduceAdd, Nat.reduceMul, Nat.reduceLeDiff, Nat.reduceEqDiff, reduceCtorEq, Nat.reduceSub, Int.reduceNeg, Nat.reduceMod, Nat.reduceBEq, Nat.reduceLT]
          try simp [e1]
end
def c216 : Ct := ctR (lc AStr (lc ABs l0)) (fun p => p.2.1.length = 256 ∧ p.1.size ≤ 2000000) (fun p => .t (.v (.string (trL p.2.1 p.1))))
section
attribute [local go_sem] c227 ABs_dec ABs_enc Bool.not_true Bool.not_false
theorem good216 {G : Gt} (hG : OkG G) (hh : G.e 227 = roEnt 0 c227) : Gd G 216 (roEnt 0 c216) := by
  refine gR (dp := fun _ => true) (fn := Tryz.f216) (n := 2) (fun _ => rfl) (by kernel_rfl) rfl (by kernel_rfl) hG (Nat.le_of_ble_eq_true rfl) (by kernel_rfl) (by decide) (fun _ _ => .v _) ?_
  rintro ⟨s, l, ⟨⟩⟩ hpre
  simp -implicitDefEqProofs only [Tryz.f216, go_sem, hh, Nat.reduceAdd, Nat.reduceMul, Nat.reduceLeDiff, Nat.reduceEqDiff, reduceCtorEq, Nat.reduceSub, Int.reduceNeg, Nat.reduceMod, Nat.reduceBEq, Nat.reduceLT] at hpre ⊢
  refine run_loop [] (ι := {t : ByteArray // trL l t = trL l s ∧ t.size ≤ s.size}) (fun p => ⟨[(0, .t (.v (.string p.1))), (1, .t (.rop (bxT l)))], []⟩) (fun p => p.1.size) ⟨s, rfl, Nat.le_refl _⟩ rfl ?_ ?_
  · simp -implicitDefEqProofs only [go_sem, hh, Nat.reduceAdd, Nat.reduceMul, Nat.reduceLeDiff, Nat.reduceEqDiff, reduceCtorEq, Nat.reduceSub, Int.reduceNeg, Nat.reduceMod, Nat.reduceBEq, Nat.reduceLT]
    try simp
  · rintro ⟨t, ht, hts⟩
    by_cases h0 : t.size = 0
    · have h1 : (t.size : Int) = 0 := by omega
      simp -implicitDefEqProofs only [h1, go_sem, hh, Nat.reduceAdd, Nat.reduceMul, Nat.reduceLeDiff, Nat.reduceEqDiff, reduceCtorEq, Nat.reduceSub, Int.reduceNeg, Nat.reduceMod, Nat.reduceBEq, Nat.reduceLT]
      repeat' (first | with_reducible apply And.intro | with_reducible intro _ | ((first | apply brB_split | apply aPickB_split | apply gB_split | apply adB_split) <;> intro hb <;> simp -implicitDefEqProofs only [hb, go_sem, hh, Nat.reduceAdd, Nat.reduceMul, Nat.reduceLeDiff, Nat.reduceEqDiff, reduceCtorEq, Nat.reduceSub, Int.reduceNeg, Nat.reduceMod, Nat.reduceBEq, Nat.reduceLT] <;> try simp only [qz] at hb))
      all_goals first | rfl | omega | skip
      rw [← ht, trL, dif_pos h0]
    · have h1 : (t.size : Int) > 0 := by omega
      have hbr := byteAt_range t 0
      have hr : trL l t = bif l.getD (byteAt t 0).toNat false then trL l (t.extract 1 t.size) else t := by
        rw [trL, dif_neg h0]
      have e1 : Int.toNat 0 = 0 := by omega
      cases hb : l.getD (byteAt t (Int.toNat 0)).toNat false
      · simp -implicitDefEqProofs only [h1, hb, go_sem, hh, Nat.reduceAdd, Nat.reduceMul, Nat.reduceLeDiff, Nat.reduceEqDiff, reduceCtorEq, Nat.reduceSub, Int.reduceNeg, Nat.reduceMod, Nat.reduceBEq, Nat.reduceLT]
        repeat' (first | with_reducible apply And.intro | with_reducible intro _ | ((first | apply brB_split | apply aPickB_split | apply gB_split | apply adB_split) <;> intro hb <;> simp -implicitDefEqProofs only [hb, go_sem, hh, Nat.reduceAdd, Nat.reduceMul, Nat.reduceLeDiff, Nat.reduceEqDiff, reduceCtorEq, Nat.reduceSub, Int.reduceNeg, Nat.reduceMod, Nat.reduceBEq, Nat.reduceLT] <;> try simp only [qz] at hb))
        all_goals first | rfl | omega | skip
        all_goals rw [e1] at *
        all_goals first | omega | (rw [← ht, hr, hb]; rfl)
      · simp -implicitDefEqProofs only [h1, hb, go_sem, hh, Nat.reduceAdd, Nat.reduceMul, Nat.reduceLeDiff, Nat.reduceEqDiff, reduceCtorEq, Nat.reduceSub, Int.reduceNeg, Nat.reduceMod, Nat.reduceBEq, Nat.reduceLT]
        repeat' (first | with_reducible apply And.intro | with_reducible intro _ | ((first | apply brB_split | apply aPickB_split | apply gB_split | apply adB_split) <;> intro hb <;> simp -implicitDefEqProofs only [hb, go_sem, hh, Nat.reduceAdd, Nat.reduceMul, Nat.reduceLeDiff, Nat.reduceEqDiff, reduceCtorEq, Nat.reduceSub, Int.reduceNeg, Nat.reduceMod, Nat.reduceBEq, Nat.reduceLT] <;> try simp only [qz] at hb))
        all_goals first | rfl | omega | skip
        all_goals rw [e1] at *
        all_goals first | omega | skip
        refine ⟨⟨t.extract 1 t.size, ?_, ?_⟩, ?_, ?_⟩
        · rw [← ht, hr, hb]; rfl
        · rw [ByteArray.size_extract]; omega
        · show (t.extract 1 t.size).size < t.size
          rw [ByteArray.size_extract]; omega
        · simp -implicitDefEqProofs only [go_sem, hh, Nat.reduceAdd, Nat.reduceMul, Nat.reduceLeDiff, Nat.reduceEqDiff, reduceCtorEq, Nat.reduceSub, Int.reduceNeg, Nat.reduceMod, Nat.reduceBEq, Nat.reduceLT]
          try simp [e1]
end
def c215 : Ct := ctR (lc AStr l0) (fun p => p.1.size ≤ 1000 ∧ ∀ j, j < p.1.size → byteAt p.1 j < 128) (fun p => .tup [.agg (bx (setN p.1 p.1.size)), .t (.v (.bool true))])
section
attribute [local go_sem] tyasz bx_zero bx_fine
theorem good215 {G : Gt} (hG : OkG G) : Gd G 215 (roEnt 0 c215) := by
  refine gR (dp := fun _ => true) (fn := Tryz.f215) (n := 1) (fun _ => rfl) (by kernel_rfl) rfl (by kernel_rfl) hG (Nat.le_of_ble_eq_true rfl) (by kernel_rfl) (by decide) (fun _ _ => .tup _ (by intro c hc; simp only [List.mem_cons, List.not_mem_nil, or_false] at hc; rcases hc with rfl | rfl <;> first | exact .v _ | exact .agg _ (by intro c hc; simp only [bx, List.mem_map] at hc; obtain ⟨b, _, rfl⟩ := hc; exact .v _))) ?_
  rintro ⟨cs, ⟨⟩⟩ hpre
  simp -implicitDefEqProofs only [Tryz.f215, go_sem, Nat.reduceAdd, Nat.reduceMul, Nat.reduceLeDiff, Nat.reduceEqDiff, reduceCtorEq, Nat.reduceSub, Int.reduceNeg, Nat.reduceMod, Nat.reduceBEq, Nat.reduceLT] at hpre ⊢
  repeat' (first | with_reducible apply And.intro | with_reducible intro _ | ((first | apply brB_split | apply aPickB_split | apply gB_split | apply adB_split) <;> intro hb <;> simp -implicitDefEqProofs only [hb, go_sem, Nat.reduceAdd, Nat.reduceMul, Nat.reduceLeDiff, Nat.reduceEqDiff, reduceCtorEq, Nat.reduceSub, Int.reduceNeg, Nat.reduceMod, Nat.reduceBEq, Nat.reduceLT] <;> try simp only [qz] at hb))
  all_goals first | rfl | omega | skip
  refine run_loop [] (ι := {i : Nat // i ≤ cs.size}) (fun p => ⟨[(0, .t (.v (.string cs))), (2, .pb 1002 0), (4, .t (.v (.int .i64 p.1)))], [(1002, some (.box (bx (setN cs p.1))))]⟩) (fun p => cs.size - p.1) ⟨0, Nat.zero_le _⟩ rfl ?_ ?_
  · simp -implicitDefEqProofs only [go_sem, Nat.reduceAdd, Nat.reduceMul, Nat.reduceLeDiff, Nat.reduceEqDiff, reduceCtorEq, Nat.reduceSub, Int.reduceNeg, Nat.reduceMod, Nat.reduceBEq, Nat.reduceLT]
    exact ⟨rfl, rfl⟩
  · rintro ⟨i, hi⟩
    have hbr := byteAt_range cs i
    have hlen := setN_len cs i
    by_cases hlt : (i : Int) < cs.size
    · have h128 := hpre.2 i (by omega)
      have h1 : ¬ byteAt cs (i : Int).toNat ≥ 128 := by rw [Int.toNat_natCast]; omega
      have h2 : (byteAt cs (i : Int).toNat).toNat * 1 < (setN cs i).length := by rw [Int.toNat_natCast]; omega
      simp -implicitDefEqProofs only [hlt, h1, Nat.zero_add, bx_splice h2, go_sem, Nat.reduceAdd, Nat.reduceMul, Nat.reduceLeDiff, Nat.reduceEqDiff, reduceCtorEq, Nat.reduceSub, Int.reduceNeg, Nat.reduceMod, Nat.reduceBEq, Nat.reduceLT]
      repeat' (first | with_reducible apply And.intro | with_reducible intro _ | ((first | apply brB_split | apply aPickB_split | apply gB_split | apply adB_split) <;> intro hb <;> simp -implicitDefEqProofs only [hb, go_sem, Nat.reduceAdd, Nat.reduceMul, Nat.reduceLeDiff, Nat.reduceEqDiff, reduceCtorEq, Nat.reduceSub, Int.reduceNeg, Nat.reduceMod, Nat.reduceBEq, Nat.reduceLT] <;> try simp only [qz] at hb))
      all_goals (try rw [Int.toNat_natCast])
      all_goals first | rfl | omega | (simp only [bx_len, hlen]; omega) | skip
      refine ⟨⟨i + 1, by omega⟩, by dsimp only; omega, ?_⟩
      simp -implicitDefEqProofs only [go_sem, Nat.reduceAdd, Nat.reduceMul, Nat.reduceLeDiff, Nat.reduceEqDiff, reduceCtorEq, Nat.reduceSub, Int.reduceNeg, Nat.reduceMod, Nat.reduceBEq, Nat.reduceLT]
      refine ⟨by simp, ?_⟩
      refine congrArg Ob.box ?_
      rw [setN]
      simp only [Int.toNat_natCast, Nat.mul_one]
      exact bx_spl (by omega)
    · have e1 : i = cs.size := by omega
      have e2 : List.drop 256 (bx (setN cs i)) = [] := List.drop_eq_nil_of_le (by rw [bx_len, hlen]; exact Nat.le_refl _)
      have e3 : decide (256 ≤ 256) = true := rfl
      simp -implicitDefEqProofs only [hlt, bx_take hlen, bx_len, hlen, e2, List.append_nil, Nat.zero_add, e3, cond_true, go_sem, Nat.reduceAdd, Nat.reduceMul, Nat.reduceLeDiff, Nat.reduceEqDiff, reduceCtorEq, Nat.reduceSub, Int.reduceNeg, Nat.reduceMod, Nat.reduceBEq, Nat.reduceLT]
      subst e1
      repeat' (first | with_reducible apply And.intro | with_reducible intro _ | ((first | apply brB_split | apply aPickB_split | apply gB_split | apply adB_split) <;> intro hb <;> simp -implicitDefEqProofs only [hb, go_sem, Nat.reduceAdd, Nat.reduceMul, Nat.reduceLeDiff, Nat.reduceEqDiff, reduceCtorEq, Nat.reduceSub, Int.reduceNeg, Nat.reduceMod, Nat.reduceBEq, Nat.reduceLT] <;> try simp only [qz] at hb))
      all_goals first
        | rfl
        | omega
        | exact bx_outP
        | (rw [bx_outI]; exact .nil)
        | (rw [bx_outZ]; simp; done)
        | skip
      all_goals trace_state
end
def c201 : Ct := ctR (lc AStr (lc AStr l0)) (fun p => p.2.1.size ≤ 1000 ∧ 2 ≤ p.2.1.size ∧ p.1.size ≤ 2000000 ∧ ∀ j, j < p.2.1.size → byteAt p.2.1 j < 128) (fun p => .t (.v (.string (trL (setN p.2.1 p.2.1.size) (trR (setN p.2.1 p.2.1.size) p.1)))))
section
attribute [local go_sem] c215 c216 c217 tyasz bx_zero bx_fine bx_drop0 b256_len ABs_dec ABs_enc
theorem good201 {G : Gt} (hG : OkG G) (hh : G.e 215 = roEnt 0 c215 ∧ G.e 216 = roEnt 0 c216 ∧ G.e 217 = roEnt 0 c217) : Gd G 201 (roEnt 0 c201) := by
  refine gR (dp := fun _ => true) (fn := Tryz.f201) (n := 2) (fun _ => rfl) (by kernel_rfl) rfl (by kernel_rfl) hG (Nat.le_of_ble_eq_true rfl) (by kernel_rfl) (by decide) (fun _ _ => .v _) ?_
  rintro ⟨s, cs, ⟨⟩⟩ hpre
  simp -implicitDefEqProofs only [Tryz.f201, go_sem, hh, Nat.reduceAdd, Nat.reduceMul, Nat.reduceLeDiff, Nat.reduceEqDiff, reduceCtorEq, Nat.reduceSub, Int.reduceNeg, Nat.reduceMod, Nat.reduceBEq, Nat.reduceLT] at hpre ⊢
  have hc : ¬ cs = ⟨#[]⟩ := by intro e; rw [e] at hpre; exact absurd hpre.2.1 (by decide)
  have h1 : ¬ (cs.size : Int) = 1 := by omega
  have hlen := setN_len cs cs.size
  have htr : (trR (setN cs cs.size) s).size ≤ s.size := trR_le _ s
  by_cases hs : s = ⟨#[]⟩
  · simp -implicitDefEqProofs only [hs, go_sem, hh, Nat.reduceAdd, Nat.reduceMul, Nat.reduceLeDiff, Nat.reduceEqDiff, reduceCtorEq, Nat.reduceSub, Int.reduceNeg, Nat.reduceMod, Nat.reduceBEq, Nat.reduceLT]
    repeat' (first | with_reducible apply And.intro | with_reducible intro _ | ((first | apply brB_split | apply aPickB_split | apply gB_split | apply adB_split) <;> intro hb <;> simp -implicitDefEqProofs only [hb, go_sem, hh, Nat.reduceAdd, Nat.reduceMul, Nat.reduceLeDiff, Nat.reduceEqDiff, reduceCtorEq, Nat.reduceSub, Int.reduceNeg, Nat.reduceMod, Nat.reduceBEq, Nat.reduceLT] <;> try simp only [qz] at hb))
    all_goals first | rfl | omega | skip
    all_goals (rw [trR_nil, trL_nil])
  · simp -implicitDefEqProofs only [hs, hc, h1, bx_intern, bx_has, bx_dropm, bx_len, hlen, b256_len, bx_drop0, bx_snap, List.append_nil, List.nil_append, Nat.zero_add, go_sem, hh, Nat.reduceAdd, Nat.reduceMul, Nat.reduceLeDiff, Nat.reduceEqDiff, reduceCtorEq, Nat.reduceSub, Int.reduceNeg, Nat.reduceMod, Nat.reduceBEq, Nat.reduceLT]
    repeat' (first | with_reducible apply And.intro | with_reducible intro _ | ((first | apply brB_split | apply aPickB_split | apply gB_split | apply adB_split) <;> intro hb <;> simp -implicitDefEqProofs only [hb, go_sem, hh, Nat.reduceAdd, Nat.reduceMul, Nat.reduceLeDiff, Nat.reduceEqDiff, reduceCtorEq, Nat.reduceSub, Int.reduceNeg, Nat.reduceMod, Nat.reduceBEq, Nat.reduceLT] <;> try simp only [qz] at hb))
    all_goals first | rfl | omega | exact hpre.2.2.2 | exact hpre.2.2.2 _ (by assumption) | skip
    all_goals trace_state
end
theorem size0 {s : ByteArray} (h : s.size = 0) : s = ⟨#[]⟩ := by
  have : bl s = [] := List.eq_nil_of_length_eq_zero (by rw [bl_len]; exact h)
  exact bl_inj this
theorem byteAt_ext {s : ByteArray} {a b j : Nat} (h : a + j < b) : byteAt (s.extract a b) j = byteAt s (a + j) := by
  rw [byteAt_bl, byteAt_bl, bl_extract]
  congr 2
  simp only [List.getD_eq_getElem?_getD]
  rw [List.getElem?_take_of_lt (by omega), List.getElem?_drop]
section
variable {l : List Bool}
theorem trR_ne {s : ByteArray} (h : s.size ≠ 0) : trR l s = bif l.getD (byteAt s (s.size - 1)).toNat false then trR l (s.extract 0 (s.size - 1)) else s := by rw [trR, dif_neg h]
theorem trL_ne {s : ByteArray} (h : s.size ≠ 0) : trL l s = bif l.getD (byteAt s 0).toNat false then trL l (s.extract 1 s.size) else s := by rw [trL, dif_neg h]
theorem trR_all {s : ByteArray} (h : ∀ j, j < s.size → l.getD (byteAt s j).toNat false = true) : trR l s = ⟨#[]⟩ := by
  by_cases h0 : s.size = 0
  · rw [size0 h0, trR_nil]
  · rw [trR_ne h0, h (s.size - 1) (by omega), cond_true]
    refine trR_all fun j hj => ?_
    rw [ByteArray.size_extract] at hj
    rw [byteAt_ext (by omega), Nat.zero_add]
    exact h j (by omega)
termination_by s.size
decreasing_by rw [ByteArray.size_extract]; omega
theorem trL_emp {s : ByteArray} (h : trL l s = ⟨#[]⟩) : ∀ j, j < s.size → l.getD (byteAt s j).toNat false = true := by
  intro j hj
  have h0 : s.size ≠ 0 := by omega
  rw [trL_ne h0] at h
  cases hb : l.getD (byteAt s 0).toNat false
  · rw [hb, cond_false] at h
    rw [h] at hj
    cases hj
  · rw [hb, cond_true] at h
    by_cases hj0 : j = 0
    · rw [hj0]; exact hb
    · have := trL_emp h (j - 1) (by rw [ByteArray.size_extract]; omega)
      rw [byteAt_ext (by omega)] at this
      rw [show 1 + (j - 1) = j by omega] at this
      exact this
termination_by s.size
decreasing_by rw [ByteArray.size_extract]; omega
theorem trR_emp {s : ByteArray} (h : ∀ j, j < (trR l s).size → l.getD (byteAt (trR l s) j).toNat false = true) : ∀ j, j < s.size → l.getD (byteAt s j).toNat false = true := by
  intro j hj
  have h0 : s.size ≠ 0 := by omega
  rw [trR_ne h0] at h
  cases hb : l.getD (byteAt s (s.size - 1)).toNat false
  · rw [hb, cond_false] at h
    exact h j hj
  · rw [hb, cond_true] at h
    by_cases hj0 : j = s.size - 1
    · rw [hj0]; exact hb
    · have := trR_emp h j (by rw [ByteArray.size_extract]; omega)
      rw [byteAt_ext (by omega), Nat.zero_add] at this
      exact this
termination_by s.size
decreasing_by rw [ByteArray.size_extract]; omega
theorem tr_iff (s : ByteArray) : trL l (trR l s) = ⟨#[]⟩ ↔ ∀ j, j < s.size → l.getD (byteAt s j).toNat false = true :=
  ⟨fun h => trR_emp (trL_emp h), fun h => by rw [trR_all h, trL_nil]⟩
end
def lcs : ByteArray := ⟨#[97, 98, 99, 100, 101, 102, 103, 104, 105, 106, 107, 108, 109, 110, 111, 112, 113, 114, 115, 116, 117, 118, 119, 120, 121, 122, 48, 49, 50, 51, 52, 53, 54, 55, 56, 57]⟩
theorem lcs_get : ∀ k : Nat, k < 256 → (setN lcs 36).getD k false = ((Nat.ble 97 k && Nat.ble k 122) || (Nat.ble 48 k && Nat.ble k 57)) := by decide +kernel
theorem lcs_iff (s : ByteArray) : trL (setN lcs 36) (trR (setN lcs 36) s) = ⟨#[]⟩ ↔ ∀ j, j < s.size → isLc (byteAt s j) := by
  rw [tr_iff]
  refine forall_congr' fun j => imp_congr_right fun _ => ?_
  have h := byteAt_range s j
  rw [lcs_get _ (by omega)]
  simp only [Bool.or_eq_true, Bool.and_eq_true, Nat.ble_eq]
  unfold isLc
  omega
theorem bl_app (a b : ByteArray) : bl (a ++ b) = bl a ++ bl b := by
  unfold bl; rw [ByteArray.data_append, Array.toList_append]
theorem ends_dot (s e : ByteArray) : Ends s e ↔ s = e ∨ ((⟨#[46]⟩ : ByteArray).size + e.size ≤ s.size ∧ s.extract (s.size - ((⟨#[46]⟩ : ByteArray).size + e.size)) s.size = ⟨#[46]⟩ ++ e) := by
  unfold Ends
  refine or_congr_right ?_
  have h1 : (⟨#[46]⟩ : ByteArray).size = 1 := rfl
  rw [h1]
  by_cases hs : 1 + e.size ≤ s.size
  · obtain ⟨n, hn⟩ : ∃ n, s.size - (1 + e.size) = n := ⟨_, rfl⟩
    have e1 : s.size - e.size = n + 1 := by omega
    have e2 : s.size - e.size - 1 = n := by omega
    rw [hn, e1, Nat.add_sub_cancel]
    have q : ∀ k, bl (s.extract k s.size) = (bl s).drop k := fun k => by
      rw [bl_extract, List.take_of_length_le (by rw [List.length_drop, bl_len]; exact Nat.le_refl _)]
    have d := drop_byte (s := s) (i := n) (by omega)
    constructor
    · rintro ⟨_, h2, h3⟩
      refine ⟨hs, bl_inj ?_⟩
      rw [bl_app, q, d, ← h2, q]
      rw [byteAt_bl] at h3
      have : (bl s).getD n 0 = 46 := UInt8.toNat_inj.1 (by show ((bl s).getD n 0).toNat = 46; omega)
      rw [this]; rfl
    · rintro ⟨_, h2⟩
      have h3 := congrArg bl h2
      rw [bl_app, q, d] at h3
      have h4 : (bl s).getD n 0 :: (bl s).drop (n + 1) = 46 :: bl e := h3
      injection h4 with h5 h6
      refine ⟨by omega, bl_inj (by rw [q]; exact h6), ?_⟩
      rw [byteAt_bl, h5]; rfl
  · constructor
    · rintro ⟨h, _⟩; omega
    · rintro ⟨h, _⟩; omega
theorem dotc : UInt8.ofNat (byteAt ⟨#[46]⟩ 0).toNat = 46 := rfl
theorem lcs_low : ∀ j, j < 36 → byteAt lcs j < 128 := by decide +kernel
def c179 : Ct := ctR (lc AStr (lc AStr l0)) (fun p => p.2.1.size = 1 ∧ p.1.size ≤ 2000000) (fun p => .o true 1 ((spl p.1 (UInt8.ofNat (byteAt p.2.1 0).toNat)).map encStr))
section
attribute [local go_sem] c205
theorem good179 {G : Gt} (hG : OkG G) (hh : G.e 205 = roEnt 0 c205) : Gd G 179 (roEnt 0 c179) := by
  refine gR (dp := fun _ => true) (fn := Tryz.f179) (n := 2) (fun _ => rfl) (by kernel_rfl) rfl (by kernel_rfl) hG (Nat.le_of_ble_eq_true rfl) (by kernel_rfl) (by decide) (fun _ _ => .deep _ _) ?_
  rintro ⟨s, sep, ⟨⟩⟩ hpre
  simp -implicitDefEqProofs only [Tryz.f179, go_sem, hh, Nat.reduceAdd, Nat.reduceMul, Nat.reduceLeDiff, Nat.reduceEqDiff, reduceCtorEq, Nat.reduceSub, Int.reduceNeg, Nat.reduceMod, Nat.reduceBEq, Nat.reduceLT] at hpre ⊢
  repeat' (first | with_reducible apply And.intro | with_reducible intro _ | ((first | apply brB_split | apply aPickB_split | apply gB_split | apply adB_split) <;> intro hb <;> simp -implicitDefEqProofs only [hb, go_sem, hh, Nat.reduceAdd, Nat.reduceMul, Nat.reduceLeDiff, Nat.reduceEqDiff, reduceCtorEq, Nat.reduceSub, Int.reduceNeg, Nat.reduceMod, Nat.reduceBEq, Nat.reduceLT] <;> try simp only [qz] at hb))
  all_goals first | rfl | omega | (simp; done) | skip
end
def c70 : Ct := ctR (lc AInt (lc AInt (lc AInt l0))) (fun p => True) (fun p => .t (.v (.bool (bOf (p.2.1 ≤ p.1 ∧ p.1 ≤ p.2.2.1)))))
theorem good70 {G : Gt} (hG : OkG G) : Gd G 70 (roEnt 0 c70) := by
  refine gR (dp := fun _ => true) (fn := Tryz.f70) (n := 3) (fun _ => rfl) (by kernel_rfl) rfl (by kernel_rfl) hG (Nat.le_of_ble_eq_true rfl) (by kernel_rfl) (by decide) (fun _ _ => .v _) ?_
  rintro ⟨n, a, b, ⟨⟩⟩ hpre
  simp -implicitDefEqProofs only [Tryz.f70, go_sem, Nat.reduceAdd, Nat.reduceMul, Nat.reduceLeDiff, Nat.reduceEqDiff, reduceCtorEq, Nat.reduceSub, Int.reduceNeg, Nat.reduceMod, Nat.reduceBEq, Nat.reduceLT] at hpre ⊢
  repeat' (first | with_reducible apply And.intro | with_reducible intro _ | ((first | apply brB_split | apply aPickB_split | apply gB_split | apply adB_split) <;> intro hb <;> simp -implicitDefEqProofs only [hb, go_sem, Nat.reduceAdd, Nat.reduceMul, Nat.reduceLeDiff, Nat.reduceEqDiff, reduceCtorEq, Nat.reduceSub, Int.reduceNeg, Nat.reduceMod, Nat.reduceBEq, Nat.reduceLT] <;> try simp only [qz] at hb))
  all_goals first | rfl | omega | skip
  all_goals first
    | (rw [bOf_d]; simp only [*]; done)
    | (rw [bOf_d]; simp [*])
def c170 : Ct := ctR (lc AStr l0) (fun p => p.1.size ≤ 2000000) (fun p => .t (.v (.bool (bOf (Lin p.1)))))
theorem good170 {G : Gt} (hG : OkG G) : Gd G 170 (roEnt 0 c170) := by
  refine gR (dp := fun _ => true) (fn := Tryz.f170) (n := 1) (fun _ => rfl) (by kernel_rfl) rfl (by kernel_rfl) hG (Nat.le_of_ble_eq_true rfl) (by kernel_rfl) (by decide) (fun _ _ => .v _) ?_
  rintro ⟨s, ⟨⟩⟩ hpre
  simp -implicitDefEqProofs only [Tryz.f170, go_sem, Nat.reduceAdd, Nat.reduceMul, Nat.reduceLeDiff, Nat.reduceEqDiff, reduceCtorEq, Nat.reduceSub, Int.reduceNeg, Nat.reduceMod, Nat.reduceBEq, Nat.reduceLT] at hpre ⊢
  repeat' (first | with_reducible apply And.intro | with_reducible intro _ | ((first | apply brB_split | apply aPickB_split | apply gB_split | apply adB_split) <;> intro hb <;> simp -implicitDefEqProofs only [hb, go_sem, Nat.reduceAdd, Nat.reduceMul, Nat.reduceLeDiff, Nat.reduceEqDiff, reduceCtorEq, Nat.reduceSub, Int.reduceNeg, Nat.reduceMod, Nat.reduceBEq, Nat.reduceLT] <;> try simp only [qz] at hb))
  all_goals first | rfl | omega | skip
  refine run_loop [] (ι := {i : Nat // i ≤ s.size ∧ ∀ j, j < i → 32 ≤ byteAt s j ∧ byteAt s j ≤ 126}) (fun p => ⟨[(0, .t (.v (.string s))), (5, .t (.v (.int .i64 s.size))), (6, .t (.v (.int .i64 p.1)))], []⟩) (fun p => s.size - p.1) ⟨0, Nat.zero_le _, fun j hj => absurd hj (Nat.not_lt_zero _)⟩ rfl ?_ ?_
  · simp -implicitDefEqProofs only [go_sem, Nat.reduceAdd, Nat.reduceMul, Nat.reduceLeDiff, Nat.reduceEqDiff, reduceCtorEq, Nat.reduceSub, Int.reduceNeg, Nat.reduceMod, Nat.reduceBEq, Nat.reduceLT]
    try simp
  · rintro ⟨i, hi, hall⟩
    by_cases hlt : (i : Int) < s.size
    · by_cases h1 : byteAt s (i : Int).toNat < 32
      · simp -implicitDefEqProofs only [hlt, h1, go_sem, Nat.reduceAdd, Nat.reduceMul, Nat.reduceLeDiff, Nat.reduceEqDiff, reduceCtorEq, Nat.reduceSub, Int.reduceNeg, Nat.reduceMod, Nat.reduceBEq, Nat.reduceLT]
        repeat' (first | with_reducible apply And.intro | with_reducible intro _ | ((first | apply brB_split | apply aPickB_split | apply gB_split | apply adB_split) <;> intro hb <;> simp -implicitDefEqProofs only [hb, go_sem, Nat.reduceAdd, Nat.reduceMul, Nat.reduceLeDiff, Nat.reduceEqDiff, reduceCtorEq, Nat.reduceSub, Int.reduceNeg, Nat.reduceMod, Nat.reduceBEq, Nat.reduceLT] <;> try simp only [qz] at hb))
        all_goals (try simp only [maxLen, Int.toNat_natCast] at *)
        all_goals first | rfl | omega | skip
        rw [bOf_n (fun h => by have := (h.1 i (by omega)).1; omega)]
      · by_cases h2 : byteAt s (i : Int).toNat > 126
        · simp -implicitDefEqProofs only [hlt, h1, h2, go_sem, Nat.reduceAdd, Nat.reduceMul, Nat.reduceLeDiff, Nat.reduceEqDiff, reduceCtorEq, Nat.reduceSub, Int.reduceNeg, Nat.reduceMod, Nat.reduceBEq, Nat.reduceLT]
          repeat' (first | with_reducible apply And.intro | with_reducible intro _ | ((first | apply brB_split | apply aPickB_split | apply gB_split | apply adB_split) <;> intro hb <;> simp -implicitDefEqProofs only [hb, go_sem, Nat.reduceAdd, Nat.reduceMul, Nat.reduceLeDiff, Nat.reduceEqDiff, reduceCtorEq, Nat.reduceSub, Int.reduceNeg, Nat.reduceMod, Nat.reduceBEq, Nat.reduceLT] <;> try simp only [qz] at hb))
          all_goals (try simp only [maxLen, Int.toNat_natCast] at *)
          all_goals first | rfl | omega | skip
          rw [bOf_n (fun h => by have := (h.1 i (by omega)).2; omega)]
        · simp -implicitDefEqProofs only [hlt, h1, h2, go_sem, Nat.reduceAdd, Nat.reduceMul, Nat.reduceLeDiff, Nat.reduceEqDiff, reduceCtorEq, Nat.reduceSub, Int.reduceNeg, Nat.reduceMod, Nat.reduceBEq, Nat.reduceLT]
          repeat' (first | with_reducible apply And.intro | with_reducible intro _ | ((first | apply brB_split | apply aPickB_split | apply gB_split | apply adB_split) <;> intro hb <;> simp -implicitDefEqProofs only [hb, go_sem, Nat.reduceAdd, Nat.reduceMul, Nat.reduceLeDiff, Nat.reduceEqDiff, reduceCtorEq, Nat.reduceSub, Int.reduceNeg, Nat.reduceMod, Nat.reduceBEq, Nat.reduceLT] <;> try simp only [qz] at hb))
          all_goals (try simp only [maxLen, Int.toNat_natCast] at *)
          all_goals first | rfl | omega | skip
          refine ⟨⟨i + 1, by omega, fun j hj => ?_⟩, by dsimp only; omega, ?_⟩
          · by_cases e : j = i
            · subst e; omega
            · exact hall j (by omega)
          · simp -implicitDefEqProofs only [go_sem, Nat.reduceAdd, Nat.reduceMul, Nat.reduceLeDiff, Nat.reduceEqDiff, reduceCtorEq, Nat.reduceSub, Int.reduceNeg, Nat.reduceMod, Nat.reduceBEq, Nat.reduceLT]
            try simp
    · simp -implicitDefEqProofs only [hlt, go_sem, Nat.reduceAdd, Nat.reduceMul, Nat.reduceLeDiff, Nat.reduceEqDiff, reduceCtorEq, Nat.reduceSub, Int.reduceNeg, Nat.reduceMod, Nat.reduceBEq, Nat.reduceLT]
      repeat' (first | with_reducible apply And.intro | with_reducible intro _ | ((first | apply brB_split | apply aPickB_split | apply gB_split | apply adB_split) <;> intro hb <;> simp -implicitDefEqProofs only [hb, go_sem, Nat.reduceAdd, Nat.reduceMul, Nat.reduceLeDiff, Nat.reduceEqDiff, reduceCtorEq, Nat.reduceSub, Int.reduceNeg, Nat.reduceMod, Nat.reduceBEq, Nat.reduceLT] <;> try simp only [qz] at hb))
      all_goals (try simp only [maxLen, Int.toNat_natCast] at *)
      all_goals first | rfl | omega | skip
      rw [← bOf_d, bOf_congr]
      exact ⟨fun h => ⟨fun j hj => hall j (by omega), by omega⟩, fun h => by have := h.2; omega⟩
def c171 : Ct := ctR (lc AStr l0) (fun p => True) (fun p => .t (.v (.bool (bOf (Lbl p.1)))))
section
attribute [local go_sem] c70 c201 bOf_t bOf_f
theorem good171 {G : Gt} (hG : OkG G) (hh : G.e 70 = roEnt 0 c70 ∧ G.e 201 = roEnt 0 c201) : Gd G 171 (roEnt 0 c171) := by
  refine gR (dp := fun _ => true) (fn := Tryz.f171) (n := 1) (fun _ => rfl) (by kernel_rfl) rfl (by kernel_rfl) hG (Nat.le_of_ble_eq_true rfl) (by kernel_rfl) (by decide) (fun _ _ => .v _) ?_
  rintro ⟨s, ⟨⟩⟩ hpre
  simp -implicitDefEqProofs only [Tryz.f171, go_sem, hh, Nat.reduceAdd, Nat.reduceMul, Nat.reduceLeDiff, Nat.reduceEqDiff, reduceCtorEq, Nat.reduceSub, Int.reduceNeg, Nat.reduceMod, Nat.reduceBEq, Nat.reduceLT] at hpre ⊢
  repeat' (first | with_reducible apply And.intro | with_reducible intro _ | ((first | apply brB_split | apply aPickB_split | apply gB_split | apply adB_split) <;> intro hb <;> simp -implicitDefEqProofs only [hb, go_sem, hh, Nat.reduceAdd, Nat.reduceMul, Nat.reduceLeDiff, Nat.reduceEqDiff, reduceCtorEq, Nat.reduceSub, Int.reduceNeg, Nat.reduceMod, Nat.reduceBEq, Nat.reduceLT] <;> try simp only [qz] at hb))
  all_goals first | rfl | omega | exact lcs_low _ (by assumption) | (simp; done) | skip
  · show T.v (.bool (decide (trL (setN lcs 36) (trR (setN lcs 36) s) = ⟨#[]⟩))) = _
    rw [← bOf_d]
    refine congrArg (fun b => T.v (.bool b)) (bOf_congr ((lcs_iff s).trans ?_))
    exact ⟨fun h => ⟨h, by omega, by omega⟩, fun h => h.1⟩
  · rw [bOf_n (fun h => hb ⟨by have := h.2.1; omega, by have := h.2.2; omega⟩)]
end
def c118 : Ct := ctR (lc AStr l0) (fun p => p.1.size ≤ 2000000) (fun p => .t (.v (.bool (bOf (Dom p.1)))))
section
attribute [local go_sem] c179 c171 dotc aSet_map aCell_map List.length_map Bool.not_true Bool.not_false
theorem good118 {G : Gt} (hG : OkG G) (hh : G.e 179 = roEnt 0 c179 ∧ G.e 171 = roEnt 0 c171) : Gd G 118 (roEnt 0 c118) := by
  refine gR (dp := fun _ => true) (fn := Tryz.f118) (n := 1) (fun _ => rfl) (by kernel_rfl) rfl (by kernel_rfl) hG (Nat.le_of_ble_eq_true rfl) (by kernel_rfl) (by decide) (fun _ _ => .v _) ?_
  rintro ⟨s, ⟨⟩⟩ hpre
  simp -implicitDefEqProofs only [Tryz.f118, go_sem, hh, Nat.reduceAdd, Nat.reduceMul, Nat.reduceLeDiff, Nat.reduceEqDiff, reduceCtorEq, Nat.reduceSub, Int.reduceNeg, Nat.reduceMod, Nat.reduceBEq, Nat.reduceLT] at hpre ⊢
  repeat' (first | with_reducible apply And.intro | with_reducible intro _ | ((first | apply brB_split | apply aPickB_split | apply gB_split | apply adB_split) <;> intro hb <;> simp -implicitDefEqProofs only [hb, go_sem, hh, Nat.reduceAdd, Nat.reduceMul, Nat.reduceLeDiff, Nat.reduceEqDiff, reduceCtorEq, Nat.reduceSub, Int.reduceNeg, Nat.reduceMod, Nat.reduceBEq, Nat.reduceLT] <;> try simp only [qz] at hb))
  all_goals first | rfl | omega | skip
  have hlen := spl_len s 46
  have hcnt := cnt_le s 46
  refine run_loop [] (ι := {i : Nat // i ≤ (spl s 46).length ∧ ∀ j, j < i → Lbl ((spl s 46).getD j default)}) (fun p => ⟨[(3, .h 1007), (8, .h 1007), (9, .t (.v (.int .i64 (spl s 46).length))), (10, .t (.v (.int .i64 p.1)))], [(1007, some (.arr true 1 ((spl s 46).map encStr)))]⟩) (fun p => (spl s 46).length - p.1) ⟨0, Nat.zero_le _, fun j hj => absurd hj (Nat.not_lt_zero _)⟩ rfl ?_ ?_
  · simp -implicitDefEqProofs only [go_sem, hh, Nat.reduceAdd, Nat.reduceMul, Nat.reduceLeDiff, Nat.reduceEqDiff, reduceCtorEq, Nat.reduceSub, Int.reduceNeg, Nat.reduceMod, Nat.reduceBEq, Nat.reduceLT]
    try simp
  · rintro ⟨i, hi, hall⟩
    by_cases hlt : (i : Int) < (spl s 46).length
    · cases hb : bOf (Lbl ((spl s 46).getD (i : Int).toNat default))
      · simp -implicitDefEqProofs only [hlt, hb, go_sem, hh, Nat.reduceAdd, Nat.reduceMul, Nat.reduceLeDiff, Nat.reduceEqDiff, reduceCtorEq, Nat.reduceSub, Int.reduceNeg, Nat.reduceMod, Nat.reduceBEq, Nat.reduceLT]
        repeat' (first | with_reducible apply And.intro | with_reducible intro _ | ((first | apply brB_split | apply aPickB_split | apply gB_split | apply adB_split) <;> intro hb <;> simp -implicitDefEqProofs only [hb, go_sem, hh, Nat.reduceAdd, Nat.reduceMul, Nat.reduceLeDiff, Nat.reduceEqDiff, reduceCtorEq, Nat.reduceSub, Int.reduceNeg, Nat.reduceMod, Nat.reduceBEq, Nat.reduceLT] <;> try simp only [qz] at hb))
        all_goals (try simp only [maxLen, Int.toNat_natCast, bOf_f] at *)
        all_goals first | rfl | omega | skip
        rw [bOf_n (fun h => hb (((Dom_spl s).1 h).1 _ (getD_mem (by omega))))]
      · simp -implicitDefEqProofs only [hlt, hb, go_sem, hh, Nat.reduceAdd, Nat.reduceMul, Nat.reduceLeDiff, Nat.reduceEqDiff, reduceCtorEq, Nat.reduceSub, Int.reduceNeg, Nat.reduceMod, Nat.reduceBEq, Nat.reduceLT]
        repeat' (first | with_reducible apply And.intro | with_reducible intro _ | ((first | apply brB_split | apply aPickB_split | apply gB_split | apply adB_split) <;> intro hb <;> simp -implicitDefEqProofs only [hb, go_sem, hh, Nat.reduceAdd, Nat.reduceMul, Nat.reduceLeDiff, Nat.reduceEqDiff, reduceCtorEq, Nat.reduceSub, Int.reduceNeg, Nat.reduceMod, Nat.reduceBEq, Nat.reduceLT] <;> try simp only [qz] at hb))
        all_goals (try simp only [maxLen, Int.toNat_natCast, bOf_t] at *)
        all_goals first | rfl | omega | skip
        refine ⟨⟨i + 1, by omega, all_step hall hb⟩, by dsimp only; omega, ?_⟩
        simp -implicitDefEqProofs only [go_sem, hh, Nat.reduceAdd, Nat.reduceMul, Nat.reduceLeDiff, Nat.reduceEqDiff, reduceCtorEq, Nat.reduceSub, Int.reduceNeg, Nat.reduceMod, Nat.reduceBEq, Nat.reduceLT]
        simp
    · simp -implicitDefEqProofs only [hlt, go_sem, hh, Nat.reduceAdd, Nat.reduceMul, Nat.reduceLeDiff, Nat.reduceEqDiff, reduceCtorEq, Nat.reduceSub, Int.reduceNeg, Nat.reduceMod, Nat.reduceBEq, Nat.reduceLT]
      repeat' (first | with_reducible apply And.intro | with_reducible intro _ | ((first | apply brB_split | apply aPickB_split | apply gB_split | apply adB_split) <;> intro hb <;> simp -implicitDefEqProofs only [hb, go_sem, hh, Nat.reduceAdd, Nat.reduceMul, Nat.reduceLeDiff, Nat.reduceEqDiff, reduceCtorEq, Nat.reduceSub, Int.reduceNeg, Nat.reduceMod, Nat.reduceBEq, Nat.reduceLT] <;> try simp only [qz] at hb))
      all_goals first | rfl | omega | skip
      rw [← bOf_d, bOf_congr (Dom_spl s)]
      refine congrArg (fun b => T.v (.bool b)) (bOf_congr ?_)
      exact ⟨fun h => ⟨mem_getD fun j hj => hall j (by omega), by omega⟩, fun h => by have := h.2; omega⟩
end
def c107 : Ct := ctR (lc EAd.ag l0) (fun p => p.1.domain.size ≤ 2000000) (fun p => .t (.v (.bool (bOf (AdOk p.1)))))
section
attribute [local go_sem] c171 c118
theorem good107 {G : Gt} (hG : OkG G) (hh : G.e 171 = roEnt 0 c171 ∧ G.e 118 = roEnt 0 c118) : Gd G 107 (roEnt 0 c107) := by
  refine gR (dp := fun _ => true) (fn := Tryz.f107) (n := 1) (fun _ => rfl) (by kernel_rfl) rfl (by kernel_rfl) hG (Nat.le_of_ble_eq_true rfl) (by kernel_rfl) (by decide) (fun _ _ => .v _) ?_
  rintro ⟨a, ⟨⟩⟩ hpre
  simp -implicitDefEqProofs only [Tryz.f107, go_sem, hh, Nat.reduceAdd, Nat.reduceMul, Nat.reduceLeDiff, Nat.reduceEqDiff, reduceCtorEq, Nat.reduceSub, Int.reduceNeg, Nat.reduceMod, Nat.reduceBEq, Nat.reduceLT] at hpre ⊢
  repeat' (first | with_reducible apply And.intro | with_reducible intro _ | ((first | apply brB_split | apply aPickB_split | apply gB_split | apply adB_split) <;> intro hb <;> simp -implicitDefEqProofs only [hb, go_sem, hh, Nat.reduceAdd, Nat.reduceMul, Nat.reduceLeDiff, Nat.reduceEqDiff, reduceCtorEq, Nat.reduceSub, Int.reduceNeg, Nat.reduceMod, Nat.reduceBEq, Nat.reduceLT] <;> try simp only [qz] at hb))
  all_goals (try simp only [bOf_t, bOf_f] at *)
  all_goals first | rfl | omega | skip
  · refine congrArg (fun b => T.v (.bool b)) (bOf_congr ⟨fun h => ⟨by assumption, h⟩, fun h => h.2⟩)
  · rw [bOf_n (fun h => absurd h.1 (by assumption))]
end
def c168 : Ct := ctR (lc EAd.ag l0) (fun p => True) (fun p => .t (.v (.bool (bOf (AdNull p.1)))))
theorem good168 {G : Gt} (hG : OkG G) : Gd G 168 (roEnt 0 c168) := by
  refine gR (dp := fun _ => true) (fn := Tryz.f168) (n := 1) (fun _ => rfl) (by kernel_rfl) rfl (by kernel_rfl) hG (Nat.le_of_ble_eq_true rfl) (by kernel_rfl) (by decide) (fun _ _ => .v _) ?_
  rintro ⟨a, ⟨⟩⟩ hpre
  simp -implicitDefEqProofs only [Tryz.f168, go_sem, Nat.reduceAdd, Nat.reduceMul, Nat.reduceLeDiff, Nat.reduceEqDiff, reduceCtorEq, Nat.reduceSub, Int.reduceNeg, Nat.reduceMod, Nat.reduceBEq, Nat.reduceLT] at hpre ⊢
  repeat' (first | with_reducible apply And.intro | with_reducible intro _ | ((first | apply brB_split | apply aPickB_split | apply gB_split | apply adB_split) <;> intro hb <;> simp -implicitDefEqProofs only [hb, go_sem, Nat.reduceAdd, Nat.reduceMul, Nat.reduceLeDiff, Nat.reduceEqDiff, reduceCtorEq, Nat.reduceSub, Int.reduceNeg, Nat.reduceMod, Nat.reduceBEq, Nat.reduceLT] <;> try simp only [qz] at hb))
  all_goals first | rfl | omega | skip
  · unfold AdNull
    rw [bOf_d]
    by_cases h1 : a.user = ⟨#[]⟩ <;> by_cases h2 : a.domain = ⟨#[]⟩ <;> simp [h1, h2]
def c105 : Ct := ctR (lc EAd.ag l0) (fun p => p.1.domain.size ≤ 2000000) (fun p => .t (.v (.bool (bOf (AdOk p.1 ∨ AdNull p.1)))))
section
attribute [local go_sem] c107 c168
theorem good105 {G : Gt} (hG : OkG G) (hh : G.e 107 = roEnt 0 c107 ∧ G.e 168 = roEnt 0 c168) : Gd G 105 (roEnt 0 c105) := by
  refine gR (dp := fun _ => true) (fn := Tryz.f105) (n := 1) (fun _ => rfl) (by kernel_rfl) rfl (by kernel_rfl) hG (Nat.le_of_ble_eq_true rfl) (by kernel_rfl) (by decide) (fun _ _ => .v _) ?_
  rintro ⟨a, ⟨⟩⟩ hpre
  simp -implicitDefEqProofs only [Tryz.f105, go_sem, hh, Nat.reduceAdd, Nat.reduceMul, Nat.reduceLeDiff, Nat.reduceEqDiff, reduceCtorEq, Nat.reduceSub, Int.reduceNeg, Nat.reduceMod, Nat.reduceBEq, Nat.reduceLT] at hpre ⊢
  repeat' (first | with_reducible apply And.intro | with_reducible intro _ | ((first | apply brB_split | apply aPickB_split | apply gB_split | apply adB_split) <;> intro hb <;> simp -implicitDefEqProofs only [hb, go_sem, hh, Nat.reduceAdd, Nat.reduceMul, Nat.reduceLeDiff, Nat.reduceEqDiff, reduceCtorEq, Nat.reduceSub, Int.reduceNeg, Nat.reduceMod, Nat.reduceBEq, Nat.reduceLT] <;> try simp only [qz] at hb))
  all_goals (try simp only [bOf_t, bOf_f] at *)
  all_goals first | rfl | omega | skip
  · rw [bOf_y (.inr (by assumption))]
  · refine congrArg (fun b => T.v (.bool b)) (bOf_congr ⟨fun h => .inl h, fun h => h.resolve_right (by assumption)⟩)
end
end Go.V
