/- The row. No condition. -/
import Derived.Test.YtakcecnegfihkaaGreatDoorOC
import Derived.Test.YtakcecnegfihkaaGreatDoorWB
import Derived.Test.YtakcecnegfihkaaGreatDoorOB
import Derived.Test.YtakcecnegfihkaaGreatDoorOA
import Derived.ProofKit
import Derived.Carry
import Derived.WalkKit
import Derived.Test.YtakcecnegfihkaaGreatDoorCards
import Derived.Test.YtakcecnegfihkaaGreatDoorTie
import Derived.OpenShut
import Derived.Deep.DeepHandedRow
namespace Go.V
open Go Go.Proofs
set_option maxRecDepth 100000
set_option linter.unusedSimpArgs false
set_option linter.unusedVariables false
attribute [local go_sem] aPickB.eq_1 aPickB.eq_2 aPick.eq_1 aBox.eq_1 aBox.eq_2 aAlloc.eq_1 aAlloc.eq_2 aLoadB.eq_1 aLoadB.eq_2 aLoadB.eq_3 aLoadB.eq_4 aLoadB.eq_5 aLoadA.eq_1 aLoadA.eq_2 aLoadA.eq_3 aLoadA.eq_4 aLoadA.eq_5 aLoadP.eq_1 aLoadP.eq_2 aLoadP.eq_3 aLoad.eq_1 aLoad.eq_2 aFAx.eq_1 aFAx.eq_2 aFAx.eq_3 aFA.eq_1 aFA.eq_2 aFx.eq_1 aF.eq_1 aF.eq_2 fld.eq_1 elT.eq_1 aIdxH.eq_1 aIdxH.eq_2 aIdxH.eq_3 aIdxH.eq_4 aIdxH.eq_5 aIdxP.eq_1 aIdxP.eq_2 aIndexAddr.eq_1 aIndexAddr.eq_2 aIndexAddr.eq_3 isStr.eq_1 aIndex.eq_1 aSlStr.eq_1 aSlRo.eq_1 aSlZ.eq_1 aSlZ.eq_2 aSlice.eq_1 aSlice.eq_2 aSlice.eq_3 bnd.eq_1 bnd.eq_2 aBuildO.eq_1 aBuildO.eq_2 aBuild.eq_1 aNewArr.eq_1 aNewArr.eq_2 aBS.eq_1 aBS.eq_2 aBuildSlice.eq_1 aBuildSlice.eq_2 aMakeSlice.eq_1 appDeep.eq_1 aApp2.eq_1 aAppend.eq_1 aAppend.eq_2 aStoreB.eq_1 aStoreA.eq_1 obFlat.eq_1 aStore2.eq_1 aStore2.eq_2 aStoreP.eq_1 aStoreP.eq_2 aStore.eq_1 aStore.eq_2 isShl.eq_1 isShl.eq_2 isBool.eq_1 aBinI.eq_1 aBinI.eq_2 aBinB.eq_1 aBinB.eq_2 aEq.eq_1 aEq.eq_2 aEq.eq_3 aEq.eq_4 aEqG.eq_1 aEqG.eq_2 aBin.eq_1 aBin.eq_2 aBin.eq_3 aBin.eq_4 aUn.eq_1 aUn.eq_2 aLenO.eq_1 aLenS.eq_1 aLenS.eq_2 aLenS.eq_3 aLenT.eq_1 aLen.eq_1 aLen.eq_2 aLen.eq_3 bytesOb.eq_1 bytesOb.eq_2 bytesOf.eq_1 bytesOf.eq_2 aNums.eq_1 aNums.eq_2 isU8.eq_1 aCvI.eq_1 aCvS.eq_1 aCvB.eq_1 aCvB.eq_2 aCvT.eq_1 aConv.eq_1 aConv.eq_2 aConv.eq_3 aConv.eq_4 aExO.eq_1 aExO.eq_2 aExtract.eq_1 aNil.eq_1 aNil.eq_2 aNil.eq_3 aCallS.eq_1 aCallS.eq_2 aCallR.eq_1 aCallR.eq_2 aCallK.eq_1 aCallK.eq_2 aCallK.eq_3 aCall.eq_1 aCall.eq_2 takeO.eq_1 AS.takeV.eq_1 AS.takeV.eq_2 AS.takeV.eq_3 AS.takeV.eq_4 AS.takeV.eq_5 AS.takeV.eq_6 AS.takeV.eq_7 AV.oldM.eq_1 AV.oldM.eq_2 AV.oldM.eq_3 AV.oldM.eq_4 AV.oldM.eq_5 AV.oldM.eq_6 AV.oldM.eq_7 AV.oldM.eq_8 AV.oldM.eq_9 AV.oldM.eq_10 AV.oldM.eq_11 AV.oldML.eq_1 AV.oldML.eq_2 subL.eq_1 subL.eq_2 back.eq_1 back.eq_2 back.eq_3 back.eq_4 backL.eq_1 backI.eq_1 backI.eq_2 backI.eq_3 backI.eq_4 backIL.eq_1 aBuiltin.eq_1 aBuiltin.eq_2 aBuiltin.eq_3 aCallee.eq_1 aCallee.eq_2 aCallee.eq_3 abin.eq_1 abin.eq_2 abin.eq_3 abin.eq_4 abin.eq_5 abin.eq_6 abin.eq_7 abin.eq_8 abin.eq_9 abin.eq_10 abin.eq_11 abin.eq_12 abin.eq_13 abin.eq_14 abin.eq_15 abin.eq_17 abin.eq_18 abin.eq_19 abin.eq_20 abin.eq_21 abin.eq_22 abin.eq_23 AS.ev.eq_1 AS.ev.eq_2 AS.ev.eq_3 AS.ev.eq_4 AS.evs.eq_1 AS.evs.eq_2 AS.evp.eq_1 AS.evp.eq_2 AS.put.eq_1 AS.put.eq_2 AS.remL.eq_1 AS.remL.eq_2 AV.has.eq_1 AV.has.eq_2 AV.has.eq_3 AV.has.eq_4 AV.has.eq_5 AV.has.eq_6 AV.has.eq_7 AV.has.eq_8 AV.has.eq_9 AV.has.eq_10 AV.has.eq_11 AV.hasL.eq_1 AV.hasL.eq_2 Ob.drop.eq_1 Ob.drop.eq_2 Ob.drop.eq_3 Ob.drop.eq_4 AV.cells.eq_1 AV.cells.eq_2 AV.cells.eq_3 AV.cells.eq_4 AV.cells.eq_5 AS.snapT.eq_1 AS.snapT.eq_2 AS.snapT.eq_3 AS.snapT.eq_4 AS.snapT.eq_5 AS.snapT.eq_6 AS.snapT.eq_7 AS.snap.eq_1 AS.snap.eq_2 mapO.eq_1 mapO.eq_2 intern.eq_1 intern.eq_2 intern.eq_3 intern.eq_4 intern.eq_5 intern.eq_6 intern.eq_7 intern.eq_8 intern.eq_9 intern.eq_10 intern.eq_11 internL.eq_1 internL.eq_2 zipSl.eq_1 zipSl.eq_2 AV.ids.eq_1 AV.ids.eq_2 AV.ids.eq_3 AV.ids.eq_4 AV.ids.eq_5 AV.ids.eq_6 AV.ids.eq_7 AV.ids.eq_8 AV.ids.eq_9 AV.ids.eq_10 AV.ids.eq_11 AV.idsL.eq_1 AV.idsL.eq_2 AV.sub.eq_1 AV.sub.eq_2 AV.sub.eq_3 AV.sub.eq_4 AV.sub.eq_5 AV.sub.eq_6 AV.sub.eq_7 AV.sub.eq_8 AV.sub.eq_9 AV.sub.eq_10 AV.sub.eq_11 AV.subL.eq_1 AV.subL.eq_2 AS.frzL.eq_1 AS.frzL.eq_2 AS.absT.eq_1 AS.absT.eq_2 AS.absT.eq_4 AS.absL.eq_1 AS.absL.eq_2 AS.absOk.eq_1 AS.absOkL.eq_1 AS.absOkL.eq_2 hid.eq_1 hids.eq_1 hids.eq_2 AS.appBase.eq_1 AS.appBase.eq_2 AS.appSrc.eq_1 appFits.eq_1 appFits.eq_2 appFits.eq_3 avFill.eq_1 avFill.eq_2 avc.eq_1 avc.eq_2 avc1.eq_1 Kd.agg.eq_1 Kd.agg.eq_2 okR.eq_1 okR.eq_2 okR.eq_3 okR.eq_4 okR.eq_5 okR.eq_6 okR.eq_7 okR.eq_8 zt.eq_1 rvB.eq_1 rvP.eq_1 rvA.eq_1 rvA.eq_2 rv1.eq_1 outTO.eq_1 outT.eq_1 outT.eq_2 outT.eq_3 outTn.eq_1 outOO.eq_1 outO.eq_1 outO.eq_2 boxOf.eq_1 outP.eq_1 outP.eq_2 outP.eq_3 outP.eq_4 outP.eq_5 outP.eq_6 outP.eq_7 outP.eq_8 outPL.eq_1 outPL.eq_2 outI.eq_1 outI.eq_2 outI.eq_3 outI.eq_4 outI.eq_5 outIL.eq_1 outZ.eq_1 outZ.eq_2 outZ.eq_3 outZ.eq_4 outZ.eq_5 outZL.eq_1 finO.eq_1 finO.eq_2 fin.eq_1 fin.eq_2 fin.eq_3 cellAV.eq_1 cellAV.eq_2 numsOf.eq_1 numsOf.eq_2 aop.eq_1 aop.eq_2 aop.eq_3 aop.eq_4 aop.eq_5 aop.eq_6 aop.eq_7 aop.eq_8 aop.eq_9 aop.eq_10 aop.eq_11 aop.eq_12 aop.eq_13 aop.eq_14 aop.eq_15 aop.eq_16 aop.eq_17 aop.eq_18 aop.eq_19 aop.eq_20 aop.eq_21 aop.eq_22 aop.eq_23 aop.eq_24 aop.eq_25 aop.eq_26 tmpsOf.eq_1 tmpsOf.eq_2 tmpsOf.eq_3 tmpsOf.eq_4 tmpsOf.eq_5 AV.refs.eq_1 AV.refs.eq_2 AV.refs.eq_3 AV.refs.eq_4 AV.refs.eq_5 AV.refs.eq_6 AV.refs.eq_7 AV.refs.eq_8 AV.refs.eq_9 AV.refs.eq_10 AV.refs.eq_11 AV.refsL.eq_1 AV.refsL.eq_2 refsT.eq_1 refsT.eq_2 refsO.eq_1 refsO.eq_2 refsO.eq_3 refsO.eq_4 refsO.eq_5 refsO.eq_6 refsB.eq_1 refsB.eq_2 clos.eq_1 clos.eq_2 keepL.eq_1 keepL.eq_2 AV.hasM.eq_1 AV.hasM.eq_2 AV.hasM.eq_3 AV.hasM.eq_4 AV.hasM.eq_5 AV.hasM.eq_6 AV.hasM.eq_7 AV.hasM.eq_8 AV.hasM.eq_9 AV.hasM.eq_10 AV.hasM.eq_11 AV.hasML.eq_1 AV.hasML.eq_2 Ob.dropM.eq_1 Ob.dropM.eq_2 Ob.dropM.eq_3 Ob.dropM.eq_4 nsC.eq_1 nsC.eq_2 okGuard.eq_1 okGuard.eq_2 AS.purges.eq_1 AS.purges.eq_2 dropMB.eq_1 dropMB.eq_2 newB.eq_1 newB.eq_2 ptB.eq_1 ptB.eq_2 lookC.eq_1 lookC.eq_2 dropB.eq_1 dropB.eq_2 leS.eq_1 leS.eq_2 leT.eq_1 leT.eq_2 AS.mvs.eq_1 AS.mvs.eq_2 AS.mvA.eq_1 AS.mvA.eq_2 AS.mvB.eq_1 aSetO.eq_1 aSetO.eq_2 aSh.eq_1 aSh.eq_2 arK.eq_1 aIdxA.eq_1 aIdxA.eq_2 arT.eq_1 aSlHB.eq_1 aSlHB.eq_2 aSlHO.eq_1 aSlHZ.eq_1 aSlHZ.eq_2 isSlT.eq_1 isNilC.eq_1 aNilO.eq_1 aNilX.eq_1 aNilX.eq_2 aNilX.eq_3 aNilC.eq_1 aNilC.eq_2 aBinQ.eq_1 aBinQ.eq_2 aMin.eq_1 flT.eq_1 flT.eq_2 flT.eq_3 mpT.eq_1 aMkMap.eq_1 aMkMap.eq_2 strA.eq_1 keyMK.eq_1 keyMK.eq_2 keyMK.eq_3 mkB.eq_1 mkB.eq_2 mkB.eq_3 aMp2.eq_1 aMp1.eq_1 aMp0.eq_1 aMapU.eq_1 aLk2.eq_1 aLk2.eq_2 aLk1.eq_1 aLk0.eq_1 aLookup.eq_1 aLenMO.eq_1 aLenM.eq_1 glV.eq_1 glV.eq_2 evG.eq_1 evG.eq_2 evG.eq_3 evG.eq_4 lkHitO.eq_1 lkHitO.eq_2 lkHitO.eq_3 lkHitO.eq_4 lkHit.eq_1 lkHit.eq_2 lkF.eq_1 lkF.eq_2 lkFind.eq_1 lkFind.eq_2 lkV.eq_1 lkV.eq_2 lkV.eq_3 lkV.eq_4 lkV.eq_5 AS.lkO.eq_1 AS.lkO.eq_2 AS.lkOf.eq_1 rawT.eq_1 rawT.eq_2 rawT.eq_3 rawT.eq_4 rawT.eq_5 rawT.eq_6 rawOf.eq_1 rawOf.eq_2 rawOf.eq_3 rawOf.eq_4 rawOf.eq_5 rawOf.eq_6 rawOf.eq_7 rawOf.eq_8 rawOf.eq_9 rawOf.eq_10 rawOf.eq_11 aLkR.eq_1 aLkR.eq_2 aLk.eq_1 aLk.eq_2 KL.eq_1 lkDrop.eq_1 lkDrop.eq_2 lkParO.eq_1 lkParO.eq_2 lkParO.eq_3 lkParO.eq_4 lkPar.eq_1 lkPar.eq_2 lkI.eq_1 lkI.eq_2 lkIds.eq_1 lkIds.eq_2 adLd.eq_1 run_nil run_b run_l run_skip run_label run_seq run_cond brV_b brB_t brB_f run_block run_exit run_ret run_region runX_nil runX_c runX_c' runX_b runX_b' runX_l runX_l' exB_t exB_f run_o run_op run_opg gV_b gV_t gB_tt gB_ff gB_tf gB_ft rs_eq kv KI aLenN aBS1 aApp1 aStore1 szOk gv gd s0 idOf look_cons lookC frzU_t frzU_f orT orF drop_any drop_nil drop_t drop_h drop_pb drop_pa drop_agg drop_tup drop_fn dropB kill_eq set_eq rem_eq re_eq up_eq get_eq ob_eq Ob.drop apl fpl plainTy AS.frz splice cond_true cond_false List.map_cons List.map_nil List.drop_zero List.drop_succ_cons List.drop_nil List.take_zero List.take_succ_cons List.take_nil List.getElem?_cons_zero List.getElem?_cons_succ List.getElem?_nil List.length_cons List.length_nil Option.map_some Option.map_none Option.bind_some Option.bind_none List.cons_append List.nil_append List.append_nil Option.getD_some Option.getD_none List.all_cons List.all_nil Bool.and_true Bool.true_and Bool.or_false Bool.false_or Bool.or_true Bool.true_or List.flatten_cons List.flatten_nil List.replicate_succ List.replicate_zero and_true true_and avOf_t avOf_f agg_bool agg_int agg_str agg_slice agg_struct agg_func agg_ptr agg_map avc_bool avc_int avc_str avc_fn avc1_bool avc1_int avc1_str avc1_fn zt_bool zt_int zt_str cells_nil cells_t cells_h cells_pb cells_fn snap_t snap_nil snap_h snap_pb snap_fn rv1_one rv1_two outI_t outI_oh outI_on outI_any outI_nil outZ_th outZ_tt outZ_tn outZ_o outZ_any outZ_nil outIL_nil outZL_nil finN finR ne_eq not_false_eq_true not_true_eq_false List.nodup_nil List.not_mem_nil false_implies implies_true eq_self true_or or_true Option.some.injEq shl_add shl_sub shl_mul shl_quo shl_rem shl_and shl_or shl_xor shl_andNot shl_eql shl_neq shl_lss shl_leq shl_gtr shl_geq shl_shr shl_shl appDeep_none appDeep_sn appSrc_h appSrc_nil fits_ft fits_tn fits_tf isStr_slice obFlat_box Nat.le_refl nbeq_self List.length_map updZ_s updZ_n dropM_eq purge_eq newIds_cons newIds_nil purgeT_nil purgeT_cons memN_cons memN_nil bd_d bd_c bd_g bd_p bd_t bd_o preds_nil preds_cons hasIns insB List.any_cons List.any_nil adK_eq adr_nil adG_eq kdOp noLen creates Op.operands Call.operands nsOf adT adI adJ plainB rst List.append_eq nsD_f nsD_n nsD_t nOf_0 nOf_1 nOf_2 chO_0 chO_1 chO_2 keepK_0 keepK_1 keepK_2 eqRes AS.mv fits KM aCallM notNew kdCall arK_i64 arK_i32 arK_u8 arK_u64 arT_sl isNilC_t isNilC_f isNilC_g isNilC_i isNilC_b isNilC_s isNilC_a isNilC_n andBF andBT aCallK_2 ble_dec hid_t hid_nil hid_any hid_pb hid_fn absOk_t absOk_nil absOk_pb absOk_h absOkO_1 decide_true decide_false Array.toList_append chunk_0 chunk_1 chunk_2 chunk_3 back_t back_nil back_ht backL_nil backI_t backI_nil backI_ht backIL_nil AS.mvJ nbeq_dec runR_f runR_t loadB Option.isSome_some Option.isSome_none nodup1 adr_none adr_some adO_s adV_b adV_t adB_tt adB_ff adB_tf adB_ft adS_eq lenL.eq_1 lenO.eq_1 lenO.eq_2 lenV.eq_1 lenV.eq_2 lenV.eq_3 lenV.eq_4 optN optS absT_ft
attribute [local go_sem] ty3 ty4 ty5 ty9 ty21 ty22 ty23 ty25 ty26 ty28 ty29 ty30 ty32 ty34 ty35 ty37 ty40 ty42 ty43 ty45 ty46 ty47 ty49 ty53 ty54 ty56 ty106 ty108 ty120 ty124 ty126 ty129 ty131 ty133 ty147 ty161 ty192 ty194 ty196 ty198 ty213 ty215 ty221 ty224 ty229 ty237 ty244 ty268 lv53 lv147 lv161 lv198 zb4 leS leT fits AS.mvs encStr_eq aIdx_str EStr_dec decStrs decStrs0 EStr_enc EStr_n encInt_eq aIdx_int EInt_dec decInts decInts0 EInt_enc EInt_n AllV_Int len_Int lc_enc l0_enc asl_enc ag_enc aow_enc ABool_enc AInt_enc AStr_enc AU8_enc ABool_dec AInt_dec AStr_dec AU8_dec asl_dec ag_dec aow_dec bind_some pr2.eq_1 l0_nil lc_cons unT.eq_1 K0.eq_1 M0.eq_1 KI AllV_Str len_Str ctR_eq ctM_eq ro_kd ro_ro mu_kd mu_mu encAd_eq aIdx_Ad EAd_dec decAds decAds0 EAd_enc EAd_n len_Ad Ad_eta AllV_Ad encMl_eq aIdx_Ml EMl_dec decMls decMls0 EMl_enc EMl_n len_Ml Ml_eta mkMl.eq_1 owMl_eq AMl_enc AMl_dec encRc_eq aIdx_Rc ERc_dec decRcs decRcs0 ERc_enc ERc_n len_Rc Rc_eta AllV_Rc encIm_eq aIdx_Im EIm_dec decIms decIms0 EIm_enc EIm_n len_Im Im_eta mkIm.eq_1 owIm_eq AIm_enc AIm_dec encSp_eq aIdx_Sp ESp_dec decSps decSps0 ESp_enc ESp_n len_Sp Sp_eta mkSp.eq_1 owSp_eq ASp_enc ASp_dec encWy_eq aIdx_Wy EWy_dec decWys decWys0 EWy_enc EWy_n len_Wy Wy_eta AllV_Wy encCf_eq aIdx_Cf ECf_dec decCfs decCfs0 ECf_enc ECf_n len_Cf Cf_eta mkCf.eq_1 owCf_eq ACf_enc ACf_dec encGm_eq aIdx_Gm EGm_dec decGms decGms0 EGm_enc EGm_n len_Gm Gm_eta mkGm.eq_1 owGm_eq AGm_enc AGm_dec encBx_eq aIdx_Bx EBx_dec decBxs decBxs0 EBx_enc EBx_n len_Bx Bx_eta mkBx.eq_1 owBx_eq ABx_enc ABx_dec encLs_eq aIdx_Ls ELs_dec decLss decLss0 ELs_enc ELs_n len_Ls Ls_eta AllV_Ls encHs_eq aIdx_Hs EHs_dec decHss decHss0 EHs_enc EHs_n len_Hs Hs_eta mkHs.eq_1 owHs_eq AHs_enc AHs_dec
def adRc (w : Int) (a : Ad) : Rc := ⟨a, 0, w⟩
def adIm (s : Sp) (m : Ml) (w : Int) : Im := ⟨s.last + 1, m.frm, m.to.map (adRc w), m.body⟩
def adSp (s : Sp) (m : Ml) (w : Int) : Sp := ⟨s.last + 1, s.items ++ [adIm s m w]⟩
def Room (s : Sp) : Prop := (s.items.length : Int) < 10 ∧ s.last < 999
open Classical in
noncomputable def SAdd (s : Sp) (m : Ml) (w : Int) : Sp × Bool := if SpOk s then (if MlOk m ∧ (0 ≤ w ∧ w ≤ 9999) ∧ Room s then (adSp s m w, true) else (s, false)) else (⟨0, []⟩, false)
theorem SAdd_no {s : Sp} {m : Ml} {w : Int} (h : ¬ SpOk s) : SAdd s m w = (⟨0, []⟩, false) := by unfold SAdd; rw [if_neg h]
theorem SAdd_n {s : Sp} {m : Ml} {w : Int} (h : SpOk s) (h2 : ¬ (MlOk m ∧ (0 ≤ w ∧ w ≤ 9999) ∧ Room s)) : SAdd s m w = (s, false) := by unfold SAdd; rw [if_pos h, if_neg h2]
theorem SAdd_y {s : Sp} {m : Ml} {w : Int} (h : SpOk s) (h2 : MlOk m ∧ (0 ≤ w ∧ w ≤ 9999) ∧ Room s) : SAdd s m w = (adSp s m w, true) := by unfold SAdd; rw [if_pos h, if_pos h2]
theorem take_rc {xs : List Ad} {w : Int} {i : Nat} (h : i < xs.length) : ((xs.map (adRc w)).take (i + 1)).map encRc = ((xs.map (adRc w)).take i).map encRc ++ [[.v (.string (xs.getD i default).user), .v (.string (xs.getD i default).domain), .v (.int .i64 0), .v (.int .i64 w)]] := by
  have e : (xs.map (adRc w)).getD i default = adRc w (xs.getD i default) := by
    simp only [List.getD_eq_getElem?_getD, List.getElem?_map, List.getElem?_eq_getElem h, Option.map_some, Option.getD_some]
  rw [take_snoc_map encRc (by rw [List.length_map]; exact h), e]
  rfl
def c94 : Ct := ctR (lc ESp.ag l0) (fun p => True) (fun p => .t (.v (.bool (bOf (Room p.1)))))
section
attribute [local go_sem] List.length_map
theorem good94 {G : Gt} (hG : OkG G) : Gd G 94 (roEnt 0 c94) := by
  refine gR (dp := fun _ => true) (fn := Tryz.f94) (n := 1) (fun _ => rfl) (by kernel_rfl) rfl (by kernel_rfl) hG (Nat.le_of_ble_eq_true rfl) (by kernel_rfl) (by decide) (fun _ _ => .v _) ?_
  rintro ⟨s, ⟨⟩⟩ hpre
  simp -implicitDefEqProofs only [Tryz.f94, go_sem, Nat.reduceAdd, Nat.reduceMul, Nat.reduceLeDiff, Nat.reduceEqDiff, reduceCtorEq, Nat.reduceSub, Int.reduceNeg, Nat.reduceMod, Nat.reduceBEq, Nat.reduceLT] at hpre ⊢
  repeat' (first | with_reducible apply And.intro | with_reducible intro _ | ((first | apply brB_split | apply aPickB_split | apply gB_split | apply adB_split) <;> intro hb <;> simp -implicitDefEqProofs only [hb, go_sem, Nat.reduceAdd, Nat.reduceMul, Nat.reduceLeDiff, Nat.reduceEqDiff, reduceCtorEq, Nat.reduceSub, Int.reduceNeg, Nat.reduceMod, Nat.reduceBEq, Nat.reduceLT] <;> try simp only [qz] at hb))
  all_goals first
    | rfl
    | omega
    | (rw [← bOf_d, bOf_congr]; exact ⟨fun h => ⟨by assumption, h⟩, fun h => h.2⟩)
    | (rw [bOf_n]; rintro ⟨h1, h2⟩; contradiction)
    | (rw [bOf_y]; exact ⟨by assumption, by assumption⟩)
    | trace_state
end
def c120 : Ct := ctR (lc ESp.ag l0) (fun p => True) (fun p => .t (.v (.bool (bOf (Room p.1)))))
section
attribute [local go_sem] List.length_map
theorem good120 {G : Gt} (hG : OkG G) : Gd G 120 (roEnt 0 c120) := by
  refine gR (dp := fun _ => true) (fn := Tryz.f120) (n := 1) (fun _ => rfl) (by kernel_rfl) rfl (by kernel_rfl) hG (Nat.le_of_ble_eq_true rfl) (by kernel_rfl) (by decide) (fun _ _ => .v _) ?_
  rintro ⟨s, ⟨⟩⟩ hpre
  simp -implicitDefEqProofs only [Tryz.f120, go_sem, Nat.reduceAdd, Nat.reduceMul, Nat.reduceLeDiff, Nat.reduceEqDiff, reduceCtorEq, Nat.reduceSub, Int.reduceNeg, Nat.reduceMod, Nat.reduceBEq, Nat.reduceLT] at hpre ⊢
  repeat' (first | with_reducible apply And.intro | with_reducible intro _ | ((first | apply brB_split | apply aPickB_split | apply gB_split | apply adB_split) <;> intro hb <;> simp -implicitDefEqProofs only [hb, go_sem, Nat.reduceAdd, Nat.reduceMul, Nat.reduceLeDiff, Nat.reduceEqDiff, reduceCtorEq, Nat.reduceSub, Int.reduceNeg, Nat.reduceMod, Nat.reduceBEq, Nat.reduceLT] <;> try simp only [qz] at hb))
  all_goals first
    | rfl
    | omega
    | (rw [← bOf_d, bOf_congr]; exact ⟨fun h => ⟨by assumption, h⟩, fun h => h.2⟩)
    | (rw [bOf_n]; rintro ⟨h1, h2⟩; contradiction)
    | (rw [bOf_y]; exact ⟨by assumption, by assumption⟩)
    | trace_state
end
def c97 : Ct := ctR (lc ESp.ag (lc EMl.ag (lc AInt l0))) (fun p => OkSp p.1 ∧ OkMl p.2.1 ∧ SpOk p.1) (fun p => .agg ((encSp (adSp p.1 p.2.1 p.2.2.1)).map .t))
section
attribute [local go_sem] tmap dmap List.take_length List.drop_zero List.length_take List.length_drop List.length_map List.length_append List.length_cons List.length_nil List.map_append List.map_nil List.map_cons List.nil_append Nat.zero_add List.mem_singleton forall_eq Bool.not_true Bool.not_false AS.opn AS.cls AS.nilb AS.renb List.set_set List.set_cons_zero List.set_cons_succ List.set_nil
set_option maxHeartbeats 1600000 in
theorem good97 {G : Gt} (hG : OkG G) : Gd G 97 (roEnt 1 c97) := by
  refine gR (dp := fun n => Nat.ble 100000 n && !(Nat.beq n 100002 || Nat.beq n 100004 || Nat.beq n 100007)) (fn := Tryz.f97) (n := 3) (fun _ => rfl) (by kernel_rfl) rfl (by kernel_rfl) hG (Nat.le_of_ble_eq_true rfl) (by kernel_rfl) (by decide) (fun h => by cases h) ?_
  rintro ⟨s, m, w, ⟨⟩⟩ hpre
  simp -implicitDefEqProofs only [Tryz.f97, go_sem, Nat.reduceAdd, Nat.reduceMul, Nat.reduceLeDiff, Nat.reduceEqDiff, reduceCtorEq, Nat.reduceSub, Int.reduceNeg, Nat.reduceMod, Nat.reduceBEq, Nat.reduceLT] at hpre ⊢
  obtain ⟨hok, hml, hsp⟩ := hpre
  have hok' : OkL OkIm s.items := hok
  obtain ⟨_, ⟨hl1, _⟩, ⟨hl2, _⟩⟩ := hml
  obtain ⟨_, _, ⟨hs0, hs1⟩, hs2⟩ := hsp
  repeat' (first | with_reducible apply And.intro | with_reducible intro _ | ((first | apply brB_split | apply aPickB_split | apply gB_split | apply adB_split) <;> intro hb <;> simp -implicitDefEqProofs only [hb, go_sem, Nat.reduceAdd, Nat.reduceMul, Nat.reduceLeDiff, Nat.reduceEqDiff, reduceCtorEq, Nat.reduceSub, Int.reduceNeg, Nat.reduceMod, Nat.reduceBEq, Nat.reduceLT] <;> try simp only [qz] at hb))
  all_goals (try simp only [maxLen] at *)
  all_goals first | rfl | omega | assumption | decide | skip
  all_goals
    refine run_le (Le.nilb 1007 3 1901 true 4 rfl rfl rfl) (run_go ?_)
    simp -implicitDefEqProofs only [go_sem, Nat.reduceAdd, Nat.reduceMul, Nat.reduceLeDiff, Nat.reduceEqDiff, reduceCtorEq, Nat.reduceSub, Int.reduceNeg, Nat.reduceMod, Nat.reduceBEq, Nat.reduceLT]
    refine run_loop [] (ι := {i : Nat // i ≤ m.to.length}) (fun p => ⟨[(2, .t (.v (.int .i64 w))), (3, .pb 1003 0), (4, .pb 1004 0), (6, .pb 1006 0), (7, .pb 1007 0), (8, .t (.v (.int .i64 p.1)))], [(1003, some (.box [.t (.v (.int .i64 s.last)), .t (.sl 5 (s.items.map encIm))])), (1004, some (.box ((encMl m).map .t))), (1006, some (.box [.t (.v (.int .i64 0)), .nil])), (1007, some (.box [.t (.v (.int .i64 (s.last + 1))), .t (.v (.string m.frm.user)), .t (.v (.string m.frm.domain)), .h 1901, .h 1017])), (1017, some (.arr true 1 (m.body.map encStr))), (1901, some (.arr true 4 (((m.to.map (adRc w)).take p.1).map encRc)))]⟩) (fun p => m.to.length - p.1) ⟨0, by simp⟩ rfl ?_ ?_
    · simp -implicitDefEqProofs only [go_sem, Nat.reduceAdd, Nat.reduceMul, Nat.reduceLeDiff, Nat.reduceEqDiff, reduceCtorEq, Nat.reduceSub, Int.reduceNeg, Nat.reduceMod, Nat.reduceBEq, Nat.reduceLT]
      simp
    · rintro ⟨i, hi⟩
      have hlen : ((m.to.map (adRc w)).take i).length = i := by simp; omega
      by_cases hlt : (i : Int) < m.to.length
      · simp -implicitDefEqProofs only [hlt, decide_true, Int.toNat_natCast, go_sem, Nat.reduceAdd, Nat.reduceMul, Nat.reduceLeDiff, Nat.reduceEqDiff, reduceCtorEq, Nat.reduceSub, Int.reduceNeg, Nat.reduceMod, Nat.reduceBEq, Nat.reduceLT]
        repeat' (first | with_reducible apply And.intro | with_reducible intro _ | ((first | apply brB_split | apply aPickB_split | apply gB_split | apply adB_split) <;> intro hb <;> simp -implicitDefEqProofs only [hb, go_sem, Nat.reduceAdd, Nat.reduceMul, Nat.reduceLeDiff, Nat.reduceEqDiff, reduceCtorEq, Nat.reduceSub, Int.reduceNeg, Nat.reduceMod, Nat.reduceBEq, Nat.reduceLT] <;> try simp only [qz] at hb))
        all_goals (try simp only [maxLen] at *)
        all_goals first | rfl | omega | assumption | decide | skip
        refine run_le (Le.renb 1007 3 1036 1901 rfl rfl rfl rfl) (run_go ?_)
        simp -implicitDefEqProofs only [go_sem, Nat.reduceAdd, Nat.reduceMul, Nat.reduceLeDiff, Nat.reduceEqDiff, reduceCtorEq, Nat.reduceSub, Int.reduceNeg, Nat.reduceMod, Nat.reduceBEq, Nat.reduceLT]
        repeat' (first | with_reducible apply And.intro | with_reducible intro _ | ((first | apply brB_split | apply aPickB_split | apply gB_split | apply adB_split) <;> intro hb <;> simp -implicitDefEqProofs only [hb, go_sem, Nat.reduceAdd, Nat.reduceMul, Nat.reduceLeDiff, Nat.reduceEqDiff, reduceCtorEq, Nat.reduceSub, Int.reduceNeg, Nat.reduceMod, Nat.reduceBEq, Nat.reduceLT] <;> try simp only [qz] at hb))
        all_goals first | rfl | omega | decide | skip
        refine ⟨⟨i + 1, by omega⟩, by dsimp only; omega, ?_⟩
        simp -implicitDefEqProofs only [go_sem, Nat.reduceAdd, Nat.reduceMul, Nat.reduceLeDiff, Nat.reduceEqDiff, reduceCtorEq, Nat.reduceSub, Int.reduceNeg, Nat.reduceMod, Nat.reduceBEq, Nat.reduceLT]
        simp only [take_rc (show i < m.to.length by omega)]
        repeat' (first | with_reducible apply And.intro | with_reducible intro _ | ((first | apply brB_split | apply aPickB_split | apply gB_split | apply adB_split) <;> intro hb <;> simp -implicitDefEqProofs only [hb, go_sem, Nat.reduceAdd, Nat.reduceMul, Nat.reduceLeDiff, Nat.reduceEqDiff, reduceCtorEq, Nat.reduceSub, Int.reduceNeg, Nat.reduceMod, Nat.reduceBEq, Nat.reduceLT] <;> try simp only [qz] at hb))
        all_goals first | rfl | (simp; done) | trace_state
      · simp -implicitDefEqProofs only [hlt, decide_false, go_sem, Nat.reduceAdd, Nat.reduceMul, Nat.reduceLeDiff, Nat.reduceEqDiff, reduceCtorEq, Nat.reduceSub, Int.reduceNeg, Nat.reduceMod, Nat.reduceBEq, Nat.reduceLT]
        repeat' (first | with_reducible apply And.intro | with_reducible intro _ | ((first | apply brB_split | apply aPickB_split | apply gB_split | apply adB_split) <;> intro hb <;> simp -implicitDefEqProofs only [hb, go_sem, Nat.reduceAdd, Nat.reduceMul, Nat.reduceLeDiff, Nat.reduceEqDiff, reduceCtorEq, Nat.reduceSub, Int.reduceNeg, Nat.reduceMod, Nat.reduceBEq, Nat.reduceLT] <;> try simp only [qz] at hb))
        all_goals first | rfl | omega | skip
        rw [List.take_of_length_le (by rw [List.length_map]; omega)]
        refine run_le (Le.frzL [1901, 1017]) (run_go ?_)
        simp -implicitDefEqProofs only [go_sem, Nat.reduceAdd, Nat.reduceMul, Nat.reduceLeDiff, Nat.reduceEqDiff, reduceCtorEq, Nat.reduceSub, Int.reduceNeg, Nat.reduceMod, Nat.reduceBEq, Nat.reduceLT]
        repeat' (first | with_reducible apply And.intro | with_reducible intro _ | ((first | apply brB_split | apply aPickB_split | apply gB_split | apply adB_split) <;> intro hb <;> simp -implicitDefEqProofs only [hb, go_sem, Nat.reduceAdd, Nat.reduceMul, Nat.reduceLeDiff, Nat.reduceEqDiff, reduceCtorEq, Nat.reduceSub, Int.reduceNeg, Nat.reduceMod, Nat.reduceBEq, Nat.reduceLT] <;> try simp only [qz] at hb))
        all_goals (try simp only [maxLen, List.take_length, List.drop_zero] at *)
        all_goals first | rfl | omega | assumption | decide | skip
        all_goals
          refine congrArg (T.sl 5) ?_
          simp only [adSp, adIm, List.map_append, List.map_cons, List.map_nil]
          rfl
end
def c48 : Ct := ctR (lc ESp.ag (lc EMl.ag (lc AInt l0))) (fun p => OkSp p.1 ∧ OkMl p.2.1) (fun p => owSB (SAdd p.1 p.2.1 p.2.2.1))
section
attribute [local go_sem] c103 c112 c45 c71 c120 c78 List.length_map List.length_append List.length_cons List.length_nil List.map_append List.map_cons List.map_nil owSB AS.opn AS.cls AS.nilb AS.renb Bool.not_false Bool.not_true List.set_set List.set_cons_zero List.set_cons_succ List.set_nil List.mem_singleton forall_eq
set_option maxHeartbeats 3200000 in
theorem good48 {G : Gt} (hG : OkG G) (hh : G.e 103 = roEnt 0 c103 ∧ G.e 112 = roEnt 0 c112 ∧ G.e 45 = roEnt 0 c45 ∧ G.e 71 = roEnt 0 c71 ∧ G.e 120 = roEnt 0 c120 ∧ G.e 78 = roEnt 0 c78) : Gd G 48 (roEnt 0 c48) := by
  refine gR (dp := fun n => !(Nat.beq n 100008 || Nat.beq n 100012)) (fn := Tryz.f48) (n := 3) (fun _ => rfl) (by kernel_rfl) rfl (by kernel_rfl) hG (Nat.le_of_ble_eq_true rfl) (by kernel_rfl) (by decide) (fun _ p => owSB_solid _) ?_
  rintro ⟨s, m, w, ⟨⟩⟩ hpre
  obtain ⟨hok, hml⟩ := hpre
  dsimp only at hok hml ⊢
  have hok' : OkL OkIm s.items := hok
  have hmx := hok'.1
  obtain ⟨⟨_, hfd⟩, ⟨hl1, hto⟩, ⟨hl2, hbd⟩⟩ := hml
  have z1 : m.frm.domain.size ≤ 2000000 := by have : m.frm.domain.size ≤ 1048576 := hfd; omega
  have z2 : ∀ s ∈ m.body, s.size ≤ 2000000 := fun s hs => by have : s.size ≤ 1048576 := hbd s hs; omega
  have z3 : ∀ a ∈ m.to, a.domain.size ≤ 2000000 := fun a ha => by have : a.domain.size ≤ 1048576 := (hto a ha).2; omega
  by_cases h : SpOk s
  · have b1 := bOf_y h
    by_cases h2 : MlOk m ∧ (0 ≤ w ∧ w ≤ 9999) ∧ Room s
    · rw [SAdd_y h h2]
      obtain ⟨_, _, ⟨hs0, hs1⟩, hs2⟩ := h
      have b2 := bOf_y h2.1
      have b3 := bOf_y h2.2.1
      have b4 := bOf_y h2.2.2
      simp -implicitDefEqProofs only [Tryz.f48, b1, b2, b3, b4, go_sem, hh, Nat.reduceAdd, Nat.reduceMul, Nat.reduceLeDiff, Nat.reduceEqDiff, reduceCtorEq, Nat.reduceSub, Int.reduceNeg, Nat.reduceMod, Nat.reduceBEq, Nat.reduceLT]
      repeat' (first | with_reducible apply And.intro | with_reducible intro _ | ((first | apply brB_split | apply aPickB_split | apply gB_split | apply adB_split) <;> intro hb <;> simp -implicitDefEqProofs only [hb, go_sem, hh, Nat.reduceAdd, Nat.reduceMul, Nat.reduceLeDiff, Nat.reduceEqDiff, reduceCtorEq, Nat.reduceSub, Int.reduceNeg, Nat.reduceMod, Nat.reduceBEq, Nat.reduceLT] <;> try simp only [qz] at hb))
      all_goals first | rfl | omega | assumption | decide | exact z2 _ (by assumption) | exact z3 _ (by assumption) | skip
      all_goals
        refine run_le (Le.nilb 1009 3 1901 true 4 rfl rfl rfl) (run_go ?_)
        simp -implicitDefEqProofs only [go_sem, hh, Nat.reduceAdd, Nat.reduceMul, Nat.reduceLeDiff, Nat.reduceEqDiff, reduceCtorEq, Nat.reduceSub, Int.reduceNeg, Nat.reduceMod, Nat.reduceBEq, Nat.reduceLT]
        repeat' (first | with_reducible apply And.intro | with_reducible intro _ | ((first | apply brB_split | apply aPickB_split | apply gB_split | apply adB_split) <;> intro hb <;> simp -implicitDefEqProofs only [hb, go_sem, hh, Nat.reduceAdd, Nat.reduceMul, Nat.reduceLeDiff, Nat.reduceEqDiff, reduceCtorEq, Nat.reduceSub, Int.reduceNeg, Nat.reduceMod, Nat.reduceBEq, Nat.reduceLT] <;> try simp only [qz] at hb))
        all_goals first | rfl | omega | skip
        refine run_loop [] (ι := {i : Nat // i ≤ m.to.length}) (fun p => ⟨[(2, .t (.v (.int .i64 w))), (6, .pb 1006 0), (7, .t (.v (.bool false))), (8, .pb 1008 0), (9, .pb 1009 0), (45, .t (.sl 2 (m.to.map encAd))), (46, .t (.v (.int .i64 m.to.length))), (47, .t (.v (.int .i64 p.1)))], [(1006, some (.box [.t (.v (.int .i64 0)), .nil])), (1008, some (.box [.t (.v (.int .i64 (s.last + 1))), .h 1017])), (1017, some (.arr true 5 (s.items.map encIm))), (1009, some (.box [.t (.v (.int .i64 (s.last + 1))), .t (.v (.string m.frm.user)), .t (.v (.string m.frm.domain)), .h 1901, .h 1042])), (1042, some (.arr true 1 (m.body.map encStr))), (1901, some (.arr true 4 (((m.to.map (adRc w)).take p.1).map encRc)))]⟩) (fun p => m.to.length - p.1) ⟨0, by simp⟩ rfl ?_ ?_
        · simp -implicitDefEqProofs only [go_sem, hh, Nat.reduceAdd, Nat.reduceMul, Nat.reduceLeDiff, Nat.reduceEqDiff, reduceCtorEq, Nat.reduceSub, Int.reduceNeg, Nat.reduceMod, Nat.reduceBEq, Nat.reduceLT]
          simp
        · rintro ⟨i, hi⟩
          have hlen : ((m.to.map (adRc w)).take i).length = i := by simp; omega
          by_cases hlt : (i : Int) < m.to.length
          · simp -implicitDefEqProofs only [hlt, decide_true, Int.toNat_natCast, go_sem, hh, Nat.reduceAdd, Nat.reduceMul, Nat.reduceLeDiff, Nat.reduceEqDiff, reduceCtorEq, Nat.reduceSub, Int.reduceNeg, Nat.reduceMod, Nat.reduceBEq, Nat.reduceLT]
            repeat' (first | with_reducible apply And.intro | with_reducible intro _ | ((first | apply brB_split | apply aPickB_split | apply gB_split | apply adB_split) <;> intro hb <;> simp -implicitDefEqProofs only [hb, go_sem, hh, Nat.reduceAdd, Nat.reduceMul, Nat.reduceLeDiff, Nat.reduceEqDiff, reduceCtorEq, Nat.reduceSub, Int.reduceNeg, Nat.reduceMod, Nat.reduceBEq, Nat.reduceLT] <;> try simp only [qz] at hb))
            all_goals (try simp only [maxLen] at *)
            all_goals first | rfl | omega | assumption | decide | skip
            refine run_le (Le.renb 1009 3 1057 1901 rfl rfl rfl rfl) (run_go ?_)
            simp -implicitDefEqProofs only [go_sem, hh, Nat.reduceAdd, Nat.reduceMul, Nat.reduceLeDiff, Nat.reduceEqDiff, reduceCtorEq, Nat.reduceSub, Int.reduceNeg, Nat.reduceMod, Nat.reduceBEq, Nat.reduceLT]
            repeat' (first | with_reducible apply And.intro | with_reducible intro _ | ((first | apply brB_split | apply aPickB_split | apply gB_split | apply adB_split) <;> intro hb <;> simp -implicitDefEqProofs only [hb, go_sem, hh, Nat.reduceAdd, Nat.reduceMul, Nat.reduceLeDiff, Nat.reduceEqDiff, reduceCtorEq, Nat.reduceSub, Int.reduceNeg, Nat.reduceMod, Nat.reduceBEq, Nat.reduceLT] <;> try simp only [qz] at hb))
            all_goals first | rfl | omega | decide | skip
            refine ⟨⟨i + 1, by omega⟩, by dsimp only; omega, ?_⟩
            simp -implicitDefEqProofs only [go_sem, hh, Nat.reduceAdd, Nat.reduceMul, Nat.reduceLeDiff, Nat.reduceEqDiff, reduceCtorEq, Nat.reduceSub, Int.reduceNeg, Nat.reduceMod, Nat.reduceBEq, Nat.reduceLT]
            simp only [take_rc (show i < m.to.length by omega)]
            repeat' (first | with_reducible apply And.intro | with_reducible intro _ | ((first | apply brB_split | apply aPickB_split | apply gB_split | apply adB_split) <;> intro hb <;> simp -implicitDefEqProofs only [hb, go_sem, hh, Nat.reduceAdd, Nat.reduceMul, Nat.reduceLeDiff, Nat.reduceEqDiff, reduceCtorEq, Nat.reduceSub, Int.reduceNeg, Nat.reduceMod, Nat.reduceBEq, Nat.reduceLT] <;> try simp only [qz] at hb))
            all_goals first | rfl | (simp; done) | trace_state
          · simp -implicitDefEqProofs only [hlt, decide_false, go_sem, hh, Nat.reduceAdd, Nat.reduceMul, Nat.reduceLeDiff, Nat.reduceEqDiff, reduceCtorEq, Nat.reduceSub, Int.reduceNeg, Nat.reduceMod, Nat.reduceBEq, Nat.reduceLT]
            repeat' (first | with_reducible apply And.intro | with_reducible intro _ | ((first | apply brB_split | apply aPickB_split | apply gB_split | apply adB_split) <;> intro hb <;> simp -implicitDefEqProofs only [hb, go_sem, hh, Nat.reduceAdd, Nat.reduceMul, Nat.reduceLeDiff, Nat.reduceEqDiff, reduceCtorEq, Nat.reduceSub, Int.reduceNeg, Nat.reduceMod, Nat.reduceBEq, Nat.reduceLT] <;> try simp only [qz] at hb))
            all_goals (try simp only [maxLen] at *)
            all_goals first | rfl | omega | assumption | decide | skip
            rw [List.take_of_length_le (by rw [List.length_map]; omega)]
            simp only [adSp, adIm, List.map_append, List.map_cons, List.map_nil]
            rfl
    · rw [SAdd_n h h2]
      by_cases hm : MlOk m
      · have b2 := bOf_y hm
        by_cases hw : 0 ≤ w ∧ w ≤ 9999
        · have b3 := bOf_y hw
          have b4 := bOf_n (fun q => h2 ⟨hm, hw, q⟩)
          simp -implicitDefEqProofs only [Tryz.f48, b1, b2, b3, b4, go_sem, hh, Nat.reduceAdd, Nat.reduceMul, Nat.reduceLeDiff, Nat.reduceEqDiff, reduceCtorEq, Nat.reduceSub, Int.reduceNeg, Nat.reduceMod, Nat.reduceBEq, Nat.reduceLT]
          repeat' (first | with_reducible apply And.intro | with_reducible intro _ | ((first | apply brB_split | apply aPickB_split | apply gB_split | apply adB_split) <;> intro hb <;> simp -implicitDefEqProofs only [hb, go_sem, hh, Nat.reduceAdd, Nat.reduceMul, Nat.reduceLeDiff, Nat.reduceEqDiff, reduceCtorEq, Nat.reduceSub, Int.reduceNeg, Nat.reduceMod, Nat.reduceBEq, Nat.reduceLT] <;> try simp only [qz] at hb))
          all_goals first | rfl | omega | assumption | decide | exact z2 _ (by assumption) | exact z3 _ (by assumption) | trace_state
        · have b3 := bOf_n hw
          simp -implicitDefEqProofs only [Tryz.f48, b1, b2, b3, go_sem, hh, Nat.reduceAdd, Nat.reduceMul, Nat.reduceLeDiff, Nat.reduceEqDiff, reduceCtorEq, Nat.reduceSub, Int.reduceNeg, Nat.reduceMod, Nat.reduceBEq, Nat.reduceLT]
          repeat' (first | with_reducible apply And.intro | with_reducible intro _ | ((first | apply brB_split | apply aPickB_split | apply gB_split | apply adB_split) <;> intro hb <;> simp -implicitDefEqProofs only [hb, go_sem, hh, Nat.reduceAdd, Nat.reduceMul, Nat.reduceLeDiff, Nat.reduceEqDiff, reduceCtorEq, Nat.reduceSub, Int.reduceNeg, Nat.reduceMod, Nat.reduceBEq, Nat.reduceLT] <;> try simp only [qz] at hb))
          all_goals first | rfl | omega | assumption | decide | exact z2 _ (by assumption) | exact z3 _ (by assumption) | trace_state
      · have b2 := bOf_n hm
        simp -implicitDefEqProofs only [Tryz.f48, b1, b2, go_sem, hh, Nat.reduceAdd, Nat.reduceMul, Nat.reduceLeDiff, Nat.reduceEqDiff, reduceCtorEq, Nat.reduceSub, Int.reduceNeg, Nat.reduceMod, Nat.reduceBEq, Nat.reduceLT]
        repeat' (first | with_reducible apply And.intro | with_reducible intro _ | ((first | apply brB_split | apply aPickB_split | apply gB_split | apply adB_split) <;> intro hb <;> simp -implicitDefEqProofs only [hb, go_sem, hh, Nat.reduceAdd, Nat.reduceMul, Nat.reduceLeDiff, Nat.reduceEqDiff, reduceCtorEq, Nat.reduceSub, Int.reduceNeg, Nat.reduceMod, Nat.reduceBEq, Nat.reduceLT] <;> try simp only [qz] at hb))
        all_goals first | rfl | omega | assumption | decide | exact z2 _ (by assumption) | exact z3 _ (by assumption) | trace_state
  · have b1 := bOf_n h
    rw [SAdd_no h]
    simp -implicitDefEqProofs only [Tryz.f48, b1, go_sem, hh, Nat.reduceAdd, Nat.reduceMul, Nat.reduceLeDiff, Nat.reduceEqDiff, reduceCtorEq, Nat.reduceSub, Int.reduceNeg, Nat.reduceMod, Nat.reduceBEq, Nat.reduceLT]
    repeat' (first | with_reducible apply And.intro | with_reducible intro _ | ((first | apply brB_split | apply aPickB_split | apply gB_split | apply adB_split) <;> intro hb <;> simp -implicitDefEqProofs only [hb, go_sem, hh, Nat.reduceAdd, Nat.reduceMul, Nat.reduceLeDiff, Nat.reduceEqDiff, reduceCtorEq, Nat.reduceSub, Int.reduceNeg, Nat.reduceMod, Nat.reduceBEq, Nat.reduceLT] <;> try simp only [qz] at hb))
    all_goals first | rfl | omega | assumption | decide | trace_state
end
theorem spA_byte {c x : UInt8} : ∀ {l : List UInt8}, x ∈ l → x = c ∨ ∃ w ∈ spA c l, x ∈ w
  | y :: r, h => by
    rw [spA]
    by_cases e : y = c
    · rw [if_pos e]
      rcases List.mem_cons.1 h with h | h
      · exact .inl (h.trans e)
      · rcases spA_byte h with q | ⟨w, hw, q⟩
        · exact .inl q
        · exact .inr ⟨w, by simp [hw], q⟩
    · rw [if_neg e]
      cases hs : spA c r with
      | nil => have := spA_len c r; rw [hs] at this; simp at this
      | cons a t =>
        rcases List.mem_cons.1 h with h | h
        · exact .inr ⟨y :: a, by simp, by simp [h]⟩
        · rcases spA_byte h with q | ⟨w, hw, q⟩
          · exact .inl q
          · rw [hs] at hw
            rcases List.mem_cons.1 hw with e2 | hw
            · exact .inr ⟨y :: a, by simp, by rw [e2] at q; simp [q]⟩
            · exact .inr ⟨w, by simp [hw], q⟩
theorem spA_size {c : UInt8} {B : Nat} : ∀ {l : List UInt8}, (∀ w ∈ spA c l, w.length ≤ B) → l.length + 1 ≤ (B + 1) * (spA c l).length
  | [], _ => by simp [spA]
  | y :: r, h => by
    rw [spA] at h ⊢
    by_cases e : y = c
    · rw [if_pos e] at h ⊢
      have := spA_size (c := c) (l := r) fun w hw => h w (by simp [hw])
      rw [List.length_cons, List.length_cons, Nat.mul_succ]
      omega
    · rw [if_neg e] at h ⊢
      cases hs : spA c r with
      | nil => have := spA_len c r; rw [hs] at this; simp at this
      | cons a t =>
        rw [hs] at h
        have h1 := h (y :: a) (by simp)
        have h3 : (∀ w ∈ spA c r, w.length ≤ B) ∨ True := .inr trivial
        have key : ∀ (l : List UInt8), l.length + 1 = ((spA c l).map fun w => w.length + 1).sum := fun l => by
          induction l with
          | nil => rfl
          | cons z q ih =>
            rw [spA]
            by_cases ez : z = c
            · rw [if_pos ez, List.map_cons, List.sum_cons, ← ih, List.length_cons, List.length_nil]; omega
            · rw [if_neg ez]
              cases hq : spA c q with
              | nil => have := spA_len c q; rw [hq] at this; simp at this
              | cons a' t' => rw [hq] at ih; simp only [List.map_cons, List.sum_cons, List.length_cons] at ih ⊢; omega
        have h2 := key r
        rw [hs] at h2
        have h4 : ∀ t : List (List UInt8), (∀ w ∈ t, w.length ≤ B) → (t.map fun w => w.length + 1).sum ≤ (B + 1) * t.length := fun t => by
          induction t with
          | nil => intro _; simp
          | cons w t ih =>
            intro hw
            have q1 := ih fun x hx => hw x (by simp [hx])
            have q2 := hw w (by simp)
            rw [List.map_cons, List.sum_cons, List.length_cons, Nat.mul_succ]; omega
        have h5 := h4 t fun w hw => h w (by simp [hw])
        simp only [List.map_cons, List.sum_cons, List.length_cons] at h1 h2 ⊢
        rw [Nat.mul_succ]
        omega
def LinL (l : List UInt8) : Prop := ∀ b ∈ l, 32 ≤ (b.toNat : Int) ∧ (b.toNat : Int) ≤ 126
instance (l : List UInt8) : Decidable (LinL l) := by unfold LinL; infer_instance
theorem byte_mem {s : ByteArray} {b : UInt8} (h : b ∈ bl s) : ∃ j, j < s.size ∧ byteAt s j = b.toNat := by
  obtain ⟨j, hj, e⟩ := List.getElem_of_mem h
  exact ⟨j, hj, by rw [byteAt_bl]; simp [hj, e]⟩
theorem mem_byte {s : ByteArray} {j : Nat} (h : j < s.size) : ∃ b ∈ bl s, byteAt s j = b.toNat := by
  have h' : j < (bl s).length := h
  exact ⟨(bl s)[j], List.getElem_mem h', by rw [byteAt_bl]; simp [h']⟩
theorem Lin_iff (s : ByteArray) : Lin s ↔ LinL (bl s) ∧ s.size ≤ 40 :=
  ⟨fun h => ⟨fun b hb => by
    obtain ⟨j, hj, e⟩ := byte_mem hb
    rw [← e]; exact h.1 j hj, h.2⟩, fun h => ⟨fun j hj => by
    obtain ⟨b, hb, e⟩ := mem_byte hj
    rw [e]; exact h.1 b hb, h.2⟩⟩
theorem LinL_app {a b : List UInt8} : LinL (a ++ b) ↔ LinL a ∧ LinL b :=
  ⟨fun h => ⟨fun x hx => h x (by simp [hx]), fun x hx => h x (by simp [hx])⟩, fun h x hx => (List.mem_append.1 hx).elim (h.1 x) (h.2 x)⟩
theorem Lbl_lin {s : ByteArray} (h : Lbl s) : LinL (bl s) ∧ s.size ≤ 8 := ⟨fun b hb => by
  obtain ⟨j, hj, e⟩ := byte_mem hb
  have := h.1 j hj
  rw [← e]; unfold isLc at this; omega, h.2.2⟩
theorem Dom_lin {s : ByteArray} (h : Dom s) : LinL (bl s) ∧ s.size ≤ 26 := by
  obtain ⟨h1, h2⟩ := (Dom_spl s).1 h
  have h3 : ∀ w ∈ spA 46 (bl s), Lbl (mB w) := fun w hw => h1 _ (List.mem_map_of_mem hw)
  refine ⟨fun b hb => ?_, ?_⟩
  · rcases spA_byte (c := 46) hb with e | ⟨w, hw, q⟩
    · rw [e]; decide
    · exact (Lbl_lin (h3 w hw)).1 b q
  · have h4 := spA_size (c := 46) (B := 8) (l := bl s) fun w hw => (h3 w hw).2.2
    have h5 : (spA 46 (bl s)).length ≤ 3 := by
      have : (spl s 46).length = (spA 46 (bl s)).length := List.length_map ..
      omega
    have h6 : (bl s).length = s.size := rfl
    have h7 : 9 * (spA 46 (bl s)).length ≤ 9 * 3 := Nat.mul_le_mul_left 9 h5
    omega
def hopS : ByteArray := ⟨#[72, 111, 112, 58, 32]⟩
def hopLine (n : ByteArray) : ByteArray := hopS ++ n
theorem hop_lin {n : ByteArray} (h : Dom n) : Lin (hopLine n) := by
  obtain ⟨h1, h2⟩ := Dom_lin h
  rw [Lin_iff]
  have e : bl (hopLine n) = [72, 111, 112, 58, 32] ++ bl n := bl_app _ _
  refine ⟨?_, ?_⟩
  · rw [e, LinL_app]
    exact ⟨by decide, h1⟩
  · have : (hopLine n).size = 5 + n.size := by rw [← bl_len, e, List.length_append, bl_len]; rfl
    omega
noncomputable def putA (a : Ad) : ByteArray := bif bOf (AdNull a) then ⟨#[60, 62]⟩ else ⟨#[60]⟩ ++ a.user ++ ⟨#[64]⟩ ++ a.domain ++ ⟨#[62]⟩
theorem putA_y {a : Ad} (h : AdNull a) : putA a = ⟨#[60, 62]⟩ := by unfold putA; rw [bOf_y h]; rfl
theorem putA_n {a : Ad} (h : ¬ AdNull a) : putA a = ⟨#[60]⟩ ++ a.user ++ ⟨#[64]⟩ ++ a.domain ++ ⟨#[62]⟩ := by unfold putA; rw [bOf_n h]; rfl
theorem putA_bl {a : Ad} (h : ¬ AdNull a) : bl (putA a) = [60] ++ bl a.user ++ [64] ++ bl a.domain ++ [62] := by
  rw [putA_n h]
  simp only [bl_app]
  rfl
theorem AdOk_nn {a : Ad} (h : AdOk a) : ¬ AdNull a := fun q => by
  have := h.1.2.1
  rw [q.1] at this
  exact absurd this (by decide)
theorem putA_lin {a : Ad} (h : AdOk a ∨ AdNull a) : Lin (putA a) := by
  by_cases hn : AdNull a
  · rw [putA_y hn, Lin_iff]
    exact ⟨by decide, by decide⟩
  · have ha := h.resolve_right hn
    obtain ⟨u1, u2⟩ := Lbl_lin ha.1
    obtain ⟨d1, d2⟩ := Dom_lin ha.2
    rw [Lin_iff, putA_bl hn]
    refine ⟨by simp only [LinL_app]; exact ⟨⟨⟨⟨by decide, u1⟩, by decide⟩, d1⟩, by decide⟩, ?_⟩
    have : (putA a).size = 3 + a.user.size + a.domain.size := by
      rw [← bl_len, putA_bl hn]
      simp only [List.length_append, List.length_cons, List.length_nil, bl_len]; omega
    omega
def hopMl (n : ByteArray) (m : Ml) : Ml := ⟨m.frm, m.to, hopLine n :: m.body⟩
def tkHs (h : Hs) (m : Ml) (w : Int) : Hs := ⟨h.conf, adSp h.spool (hopMl h.conf.name m) w, h.boxes, h.lost⟩
def noHs : Hs := ⟨⟨⟨#[]⟩, [], []⟩, ⟨0, []⟩, [], []⟩
section
variable {h : Hs} {m : Ml} {w : Int}
theorem hop_ok (q : Dom h.conf.name) (hm : MlOk m) (hl : m.body.length < 12) : MlOk (hopMl h.conf.name m) :=
  ⟨hm.1, hm.2.1, hm.2.2.1, hm.2.2.2.1, ⟨fun s hs => (List.mem_cons.1 hs).elim (fun e => by rw [e]; exact hop_lin q) (hm.2.2.2.2.1 s), by show (hopLine h.conf.name :: m.body).length ≤ 12; simp; omega⟩⟩
end
def roHB (p : Hs × Bool) : AV := .tup [.agg ((encHs p.1).map .t), .t (.v (.bool p.2))]
def owHB (p : Hs × Bool) : AV := .tup [owHs p.1, .t (.v (.bool p.2))]
theorem owHB_solid (p : Hs × Bool) : Solid (owHB p) := .tup _ fun c hc => by
  simp only [List.mem_cons, List.not_mem_nil, or_false] at hc
  rcases hc with rfl | rfl
  · exact owHs_solid _
  · exact .v _
theorem ixP_sat {α : Type} [Inhabited α] {p : α → Prop} : ∀ (xs : List α) (k : Nat), 0 ≤ ixP p k xs → p (xs.getD ((ixP p k xs).toNat - k) default)
  | [], k, h => absurd h (by rw [ixP]; omega)
  | x :: t, k, h => by
    rw [ixP] at h ⊢
    by_cases hx : p x
    · rw [bOf_y hx, cond_true, Int.toNat_natCast, Nat.sub_self]
      exact hx
    · rw [bOf_n hx, cond_false] at h ⊢
      have h1 := ixP_sat t (k + 1) h
      have h2 : (ixP p (k + 1) t).toNat - k = ((ixP p (k + 1) t).toNat - (k + 1)) + 1 := by
        rcases ixP_range p t (k + 1) with q | q <;> omega
      rw [h2]
      exact h1
theorem asc_pair {xs : List Im} : Asc xs ↔ (xs.map Im.id).Pairwise (· < ·) := by
  rw [List.pairwise_iff_getElem]
  constructor
  · intro h i j hi hj hij
    rw [List.length_map] at hi hj
    simp only [List.getElem_map]
    induction j with
    | zero => omega
    | succ j ih =>
      have h1 := h (j + 1) (by omega) hj
      simp only [Nat.add_sub_cancel, List.getD_eq_getElem?_getD, List.getElem?_eq_getElem hj, List.getElem?_eq_getElem (show j < xs.length by omega), Option.getD_some] at h1
      by_cases e : i = j
      · subst e; exact h1
      · have := ih (by omega) (by omega)
        omega
  · intro h j h0 hj
    have := h (j - 1) j (by rw [List.length_map]; omega) (by rw [List.length_map]; exact hj) (by omega)
    simp only [List.getElem_map] at this
    simp only [List.getD_eq_getElem?_getD, List.getElem?_eq_getElem hj, List.getElem?_eq_getElem (show j - 1 < xs.length by omega), Option.getD_some]
    exact this
theorem cut_sub {α : Type} (xs : List α) (i : Nat) : List.Sublist (xs.take i ++ xs.drop (i + 1)) xs := by
  have h : List.Sublist (xs.take i ++ xs.drop (i + 1)) (xs.take i ++ xs.drop i) := List.Sublist.append (List.Sublist.refl _) (by
    rw [← List.drop_drop]; exact List.drop_sublist 1 _)
  rwa [List.take_append_drop] at h
theorem cut_eq {α : Type} [Inhabited α] {xs : List α} {i : Nat} (h : i < xs.length) : xs = xs.take i ++ xs.getD i default :: xs.drop (i + 1) := by
  rw [← getD_drop h, List.take_append_drop]
theorem dnIm_ok {x : Im} {k : Nat} (h : ImOk x) (hk : k < x.to.length) (h2 : ¬ (dnIm x k).to = []) : ImOk (dnIm x k) := by
  have hs := cut_sub x.to k
  refine ⟨fun r hr => h.1 r (hs.subset hr), (hs.map Rc.addr).nodup h.2.1, h.2.2.1, h.2.2.2.1, ⟨?_, Nat.le_trans hs.length_le h.2.2.2.2.1.2⟩, h.2.2.2.2.2⟩
  exact Nat.pos_of_ne_zero fun e => h2 (List.eq_nil_of_length_eq_zero e)
theorem dnSp_SpOk {s : Sp} {i k : Nat} (h : SpOk s) (hi : i < s.items.length) (hk : k < (s.items.getD i default).to.length) : SpOk (dnSp s i k) := by
  have hx := h.1 _ (getD_mem hi)
  have hs := cut_sub s.items i
  have ha := asc_pair.1 h.2.1
  have hq := cut_eq hi
  show (∀ x ∈ dnL s.items i k, ImOk x ∧ x.id ≤ s.last) ∧ Asc (dnL s.items i k) ∧ (0 ≤ s.last ∧ s.last ≤ 999) ∧ (dnL s.items i k).length ≤ 10
  unfold dnL
  split
  · exact ⟨fun x hx => h.1 x (hs.subset hx), asc_pair.2 (ha.sublist (hs.map Im.id)), h.2.2.1, Nat.le_trans hs.length_le h.2.2.2⟩
  · rename_i hne
    refine ⟨fun x hm => ?_, asc_pair.2 ?_, h.2.2.1, ?_⟩
    · rcases List.mem_append.1 hm with hm | hm
      · exact h.1 x (List.mem_of_mem_take hm)
      · rcases List.mem_cons.1 hm with e | hm
        · rw [e]; exact ⟨dnIm_ok hx.1 hk hne, hx.2⟩
        · exact h.1 x (List.mem_of_mem_drop hm)
    · have e : (s.items.take i ++ dnIm (s.items.getD i default) k :: s.items.drop (i + 1)).map Im.id = s.items.map Im.id := by
        conv => rhs; rw [hq]
        simp only [List.map_append, List.map_cons]
        rfl
      rw [e]; exact ha
    · have e : (s.items.take i ++ dnIm (s.items.getD i default) k :: s.items.drop (i + 1)).length = s.items.length := by
        conv => rhs; rw [hq]
        simp only [List.length_append, List.length_cons]
      rw [e]; exact h.2.2.2
theorem gd_rc (l : List Rc) (k : Nat) (h : k < l.length) : l.getD k default = l[k] := by simp [h]
theorem ltSp_SpOk {s : Sp} {i k : Nat} {w : Int} (h : SpOk s) (hi : i < s.items.length) (hk : k < (s.items.getD i default).to.length) (hn : ¬ ltNo ((s.items.getD i default).to.getD k default) w) (hw : 0 ≤ w) : SpOk (ltSp s i k w) := by
  have hx := h.1 _ (getD_mem hi)
  have hr := hx.1.1 _ (getD_mem hk)
  have hn1 : ((s.items.getD i default).to.getD k default).tries + 1 < 4 := by unfold ltNo at hn; omega
  have hn2 : w + pau (((s.items.getD i default).to.getD k default).tries + 1) ≤ 9999 := by unfold ltNo at hn; omega
  have hp := (pau_le (t := ((s.items.getD i default).to.getD k default).tries + 1) (m := 3) (by omega)).1
  have hrc : RcOk (ltRc ((s.items.getD i default).to.getD k default) w) := ⟨hr.1, ⟨by have := hr.2.1.1; show 0 ≤ _ + 1; omega, by show _ + 1 ≤ 3; omega⟩, ⟨by show 0 ≤ w + _; omega, hn2⟩⟩
  have hadr : ((s.items.getD i default).to.set k (ltRc ((s.items.getD i default).to.getD k default) w)).map Rc.addr = (s.items.getD i default).to.map Rc.addr := by
    rw [List.map_set]
    have : (ltRc ((s.items.getD i default).to.getD k default) w).addr = ((s.items.getD i default).to.map Rc.addr)[k]'(by rw [List.length_map]; exact hk) := by
      rw [List.getElem_map]
      show ((s.items.getD i default).to.getD k default).addr = _
      rw [gd_rc _ _ hk]
    rw [this, List.set_getElem_self]
  have hx2 : ImOk (ltIm (s.items.getD i default) k w) := by
    refine ⟨fun r hm => ?_, ?_, hx.1.2.2.1, hx.1.2.2.2.1, ?_, hx.1.2.2.2.2.2⟩
    · rcases List.mem_or_eq_of_mem_set hm with hm | rfl
      · exact hx.1.1 r hm
      · exact hrc
    · show (((s.items.getD i default).to.set k _).map Rc.addr).Nodup
      rw [hadr]; exact hx.1.2.1
    · show 1 ≤ ((s.items.getD i default).to.set k _).length ∧ ((s.items.getD i default).to.set k _).length ≤ 4
      rw [List.length_set]; exact hx.1.2.2.2.2.1
  refine ⟨fun x hm => ?_, asc_pair.2 ?_, h.2.2.1, by show (s.items.set i _).length ≤ 10; rw [List.length_set]; exact h.2.2.2⟩
  · rcases List.mem_or_eq_of_mem_set hm with hm | rfl
    · exact h.1 x hm
    · exact ⟨hx2, hx.2⟩
  · have e : (s.items.set i (ltIm (s.items.getD i default) k w)).map Im.id = s.items.map Im.id := by
      rw [List.map_set]
      have : (ltIm (s.items.getD i default) k w).id = (s.items.map Im.id)[i]'(by rw [List.length_map]; exact hi) := by
        simp [ltIm, hi]
      rw [this, List.set_getElem_self]
    show ((s.items.set i _).map Im.id).Pairwise (· < ·)
    rw [e]; exact asc_pair.1 h.2.1
theorem adSp_SpOk {s : Sp} {m : Ml} {w : Int} (h : SpOk s) (hm : MlOk m) (hw : 0 ≤ w ∧ w ≤ 9999) (hr : Room s) : SpOk (adSp s m w) := by
  have hx : ImOk (adIm s m w) := by
    refine ⟨fun r hr => ?_, ?_, ?_, hm.2.2.1, ?_, hm.2.2.2.2⟩
    · obtain ⟨a, ha, rfl⟩ := List.mem_map.1 hr
      exact ⟨hm.1 a ha, by show 0 ≤ (0 : Int) ∧ (0 : Int) ≤ 3; decide, hw⟩
    · show ((m.to.map (adRc w)).map Rc.addr).Nodup
      have e : (m.to.map (adRc w)).map Rc.addr = m.to := by
        rw [List.map_map]; exact List.map_id'' (fun _ => rfl) _
      rw [e]; exact hm.2.1
    · have := h.2.2.1.1
      show 0 < s.last + 1; omega
    · show 1 ≤ (m.to.map (adRc w)).length ∧ (m.to.map (adRc w)).length ≤ 4
      rw [List.length_map]; exact hm.2.2.2.1
  have h1 := hr.1; have h2 := hr.2
  refine ⟨fun x hm => ?_, asc_pair.2 ?_, ?_, ?_⟩
  · rcases List.mem_append.1 hm with hm | hm
    · have := h.1 x hm
      exact ⟨this.1, by have := this.2; show x.id ≤ s.last + 1; omega⟩
    · rw [List.mem_singleton.1 hm]
      exact ⟨hx, Int.le_refl _⟩
  · show ((s.items ++ [adIm s m w]).map Im.id).Pairwise (· < ·)
    rw [List.map_append, List.pairwise_append]
    refine ⟨asc_pair.1 h.2.1, by simp, fun a ha b hb => ?_⟩
    obtain ⟨x, hx, rfl⟩ := List.mem_map.1 ha
    rw [List.map_cons, List.map_nil, List.mem_singleton] at hb
    rw [hb]
    have := (h.1 x hx).2
    show x.id < s.last + 1; omega
  · have := h.2.2.1.1
    show 0 ≤ s.last + 1 ∧ s.last + 1 ≤ 999; omega
  · show (s.items ++ [adIm s m w]).length ≤ 10
    rw [List.length_append]; simp; omega
theorem mkOf_mem : ∀ xs : List ByteArray, mkOf xs = ⟨#[]⟩ ∨ mkOf xs ∈ xs
  | [] => .inl rfl
  | x :: r => by
    rw [mkOf]
    cases bOf (MkLine x)
    · rw [cond_false]
      rcases mkOf_mem r with h | h
      · exact .inl h
      · exact .inr (by simp [h])
    · exact .inr (by simp)
def ndS : ByteArray := ⟨#[110, 111, 116, 32, 100, 101, 108, 105, 118, 101, 114, 101, 100, 58]⟩
noncomputable def bounceMl (x : Im) (a : Ad) : Ml := ⟨⟨⟨#[]⟩, ⟨#[]⟩⟩, [x.frm], ndS :: putA a :: (if mkOf x.body = ⟨#[]⟩ then [] else [mkOf x.body])⟩
theorem bounce_ok {x : Im} {a : Ad} (h : ImOk x) (ha : AdOk a) (hn : ¬ AdNull x.frm) : MlOk (bounceMl x a) := by
  refine ⟨fun b hb => ?_, by show [x.frm].Nodup; simp, .inr ⟨rfl, rfl⟩, by show 1 ≤ 1 ∧ 1 ≤ 4; decide, fun s hs => ?_, ?_⟩
  · rw [List.mem_singleton.1 hb]; exact h.2.2.2.1.resolve_right hn
  · rcases List.mem_cons.1 hs with e | hs
    · rw [e, Lin_iff]; exact ⟨by decide, by decide⟩
    · rcases List.mem_cons.1 hs with e | hs
      · rw [e]; exact putA_lin (.inl ha)
      · split at hs
        · cases hs
        · rename_i q
          rw [List.mem_singleton.1 hs]
          exact h.2.2.2.2.2.1 _ ((mkOf_mem x.body).resolve_left q)
  · show (ndS :: putA a :: _).length ≤ 12
    split <;> simp
open Classical in
noncomputable def giveHs (h : Hs) (x : Im) (a : Ad) (i k : Nat) (w : Int) : Hs :=
  if AdNull x.frm ∨ ¬ Room (dnSp h.spool i k) then ⟨h.conf, dnSp h.spool i k, h.boxes, h.lost ++ [⟨mkOf x.body, a⟩]⟩ else ⟨h.conf, adSp (dnSp h.spool i k) (bounceMl x a) w, h.boxes, h.lost⟩
def OutOk (h : Hs) (n : Int) (a : Ad) (out w : Int) : Prop := ¬ atIm h.spool n < 0 ∧ ¬ atRc (theIm h.spool n) a < 0 ∧ (2 ≤ out ∧ out ≤ 4) ∧ (0 ≤ w ∧ w ≤ 9999)
noncomputable def outHs (h : Hs) (i k : Nat) (a : Ad) (out w : Int) : Hs :=
  if out = 2 then ⟨h.conf, dnSp h.spool i k, h.boxes, h.lost⟩
  else if out = 3 ∧ ¬ ltNo ((h.spool.items.getD i default).to.getD k default) w then ⟨h.conf, ltSp h.spool i k w, h.boxes, h.lost⟩
  else giveHs h (h.spool.items.getD i default) a i k w
open Classical in
noncomputable def HOut (h : Hs) (n : Int) (a : Ad) (out w : Int) : Hs × Bool :=
  if HsOk h then (if OutOk h n a out w then (outHs h (atIm h.spool n).toNat (atRc (theIm h.spool n) a).toNat a out w, true) else (h, false)) else (noHs, false)
section
variable {h : Hs} {x : Im} {n : Int} {a : Ad} {out w : Int} {i k : Nat}
theorem give_l (q : AdNull x.frm ∨ ¬ Room (dnSp h.spool i k)) : giveHs h x a i k w = ⟨h.conf, dnSp h.spool i k, h.boxes, h.lost ++ [⟨mkOf x.body, a⟩]⟩ := if_pos q
theorem give_b (q : ¬ (AdNull x.frm ∨ ¬ Room (dnSp h.spool i k))) : giveHs h x a i k w = ⟨h.conf, adSp (dnSp h.spool i k) (bounceMl x a) w, h.boxes, h.lost⟩ := if_neg q
theorem HOut_no (q : ¬ HsOk h) : HOut h n a out w = (noHs, false) := if_neg q
theorem HOut_n (q : HsOk h) (z : ¬ OutOk h n a out w) : HOut h n a out w = (h, false) := by unfold HOut; rw [if_pos q, if_neg z]
theorem HOut_y (q : HsOk h) (z : OutOk h n a out w) : HOut h n a out w = (outHs h (atIm h.spool n).toNat (atRc (theIm h.spool n) a).toNat a out w, true) := by unfold HOut; rw [if_pos q, if_pos z]
theorem atRc_addr {x : Im} {a : Ad} (q : ¬ atRc x a < 0) : (x.to.getD (atRc x a).toNat default).addr = a := by
  have h1 := ixP_sat (p := fun r : Rc => r.addr = a) x.to 0 (by unfold atRc at q; omega)
  exact h1
theorem atIm_id {s : Sp} {n : Int} (q : ¬ atIm s n < 0) : (theIm s n).id = n := by
  have h1 := ixP_sat (p := fun x : Im => x.id = n) s.items 0 (by unfold atIm at q; omega)
  exact h1
end
def c176 : Ct := ctR (lc EWy.asl l0) (fun p => (p.1.length : Int) ≤ 1048576) (fun p => .o true 2 (p.1.map encWy))
section
attribute [local go_sem] aNil_n aNil_c List.length_map List.nil_append List.map_nil List.map_cons List.length_cons List.length_nil
theorem good176 {G : Gt} (hG : OkG G) : Gd G 176 (roEnt 0 c176) := by
  refine gR (dp := fun _ => true) (fn := Tryz.f176) (n := 1) (fun _ => rfl) (by kernel_rfl) rfl (by kernel_rfl) hG (Nat.le_of_ble_eq_true rfl) (by kernel_rfl) (by decide) (fun _ _ => .deep _ _) ?_
  rintro ⟨xs, ⟨⟩⟩ hpre
  dsimp only at hpre ⊢
  cases xs with
  | nil =>
    simp -implicitDefEqProofs only [Tryz.f176, go_sem, Nat.reduceAdd, Nat.reduceMul, Nat.reduceLeDiff, Nat.reduceEqDiff, reduceCtorEq, Nat.reduceSub, Int.reduceNeg, Nat.reduceMod, Nat.reduceBEq, Nat.reduceLT]
    repeat' (first | with_reducible apply And.intro | with_reducible intro _ | ((first | apply brB_split | apply aPickB_split | apply gB_split | apply adB_split) <;> intro hb <;> simp -implicitDefEqProofs only [hb, go_sem, Nat.reduceAdd, Nat.reduceMul, Nat.reduceLeDiff, Nat.reduceEqDiff, reduceCtorEq, Nat.reduceSub, Int.reduceNeg, Nat.reduceMod, Nat.reduceBEq, Nat.reduceLT] <;> try simp only [qz] at hb))
    all_goals (try simp only [maxLen, List.length_map] at *)
    all_goals first | rfl | omega | exact of_eq_true (AllV_Wy []) | (simp; done) | skip
  | cons x xs =>
    simp only [List.length_cons] at hpre
    simp -implicitDefEqProofs only [Tryz.f176, go_sem, Nat.reduceAdd, Nat.reduceMul, Nat.reduceLeDiff, Nat.reduceEqDiff, reduceCtorEq, Nat.reduceSub, Int.reduceNeg, Nat.reduceMod, Nat.reduceBEq, Nat.reduceLT]
    repeat' (first | with_reducible apply And.intro | with_reducible intro _ | ((first | apply brB_split | apply aPickB_split | apply gB_split | apply adB_split) <;> intro hb <;> simp -implicitDefEqProofs only [hb, go_sem, Nat.reduceAdd, Nat.reduceMul, Nat.reduceLeDiff, Nat.reduceEqDiff, reduceCtorEq, Nat.reduceSub, Int.reduceNeg, Nat.reduceMod, Nat.reduceBEq, Nat.reduceLT] <;> try simp only [qz] at hb))
    all_goals (try simp only [maxLen, List.length_map] at *)
    all_goals first | rfl | omega | exact of_eq_true (AllV_Wy (x :: xs)) | exact of_eq_true (len_Wy (x :: xs)) _ (by assumption) | (simp; done) | skip
end
def c113 : Ct := ctR (lc ELs.asl l0) (fun p => (p.1.length : Int) ≤ 1048576) (fun p => .o true 3 (p.1.map encLs))
section
attribute [local go_sem] aNil_n aNil_c List.length_map List.nil_append List.map_nil List.map_cons List.length_cons List.length_nil
theorem good113 {G : Gt} (hG : OkG G) : Gd G 113 (roEnt 0 c113) := by
  refine gR (dp := fun _ => true) (fn := Tryz.f113) (n := 1) (fun _ => rfl) (by kernel_rfl) rfl (by kernel_rfl) hG (Nat.le_of_ble_eq_true rfl) (by kernel_rfl) (by decide) (fun _ _ => .deep _ _) ?_
  rintro ⟨xs, ⟨⟩⟩ hpre
  dsimp only at hpre ⊢
  cases xs with
  | nil =>
    simp -implicitDefEqProofs only [Tryz.f113, go_sem, Nat.reduceAdd, Nat.reduceMul, Nat.reduceLeDiff, Nat.reduceEqDiff, reduceCtorEq, Nat.reduceSub, Int.reduceNeg, Nat.reduceMod, Nat.reduceBEq, Nat.reduceLT]
    repeat' (first | with_reducible apply And.intro | with_reducible intro _ | ((first | apply brB_split | apply aPickB_split | apply gB_split | apply adB_split) <;> intro hb <;> simp -implicitDefEqProofs only [hb, go_sem, Nat.reduceAdd, Nat.reduceMul, Nat.reduceLeDiff, Nat.reduceEqDiff, reduceCtorEq, Nat.reduceSub, Int.reduceNeg, Nat.reduceMod, Nat.reduceBEq, Nat.reduceLT] <;> try simp only [qz] at hb))
    all_goals (try simp only [maxLen, List.length_map] at *)
    all_goals first | rfl | omega | exact of_eq_true (AllV_Ls []) | (simp; done) | skip
  | cons x xs =>
    simp only [List.length_cons] at hpre
    simp -implicitDefEqProofs only [Tryz.f113, go_sem, Nat.reduceAdd, Nat.reduceMul, Nat.reduceLeDiff, Nat.reduceEqDiff, reduceCtorEq, Nat.reduceSub, Int.reduceNeg, Nat.reduceMod, Nat.reduceBEq, Nat.reduceLT]
    repeat' (first | with_reducible apply And.intro | with_reducible intro _ | ((first | apply brB_split | apply aPickB_split | apply gB_split | apply adB_split) <;> intro hb <;> simp -implicitDefEqProofs only [hb, go_sem, Nat.reduceAdd, Nat.reduceMul, Nat.reduceLeDiff, Nat.reduceEqDiff, reduceCtorEq, Nat.reduceSub, Int.reduceNeg, Nat.reduceMod, Nat.reduceBEq, Nat.reduceLT] <;> try simp only [qz] at hb))
    all_goals (try simp only [maxLen, List.length_map] at *)
    all_goals first | rfl | omega | exact of_eq_true (AllV_Ls (x :: xs)) | exact of_eq_true (len_Ls (x :: xs)) _ (by assumption) | (simp; done) | skip
end
def c88 : Ct := ctR (lc ECf.ag l0) (fun p => OkCf p.1) (fun p => owCf p.1)
section
attribute [local go_sem] List.length_map List.map_nil List.length_nil List.nil_append Nat.zero_add
theorem good88 {G : Gt} (hG : OkG G) : Gd G 88 (roEnt 0 c88) := by
  refine gR (dp := fun _ => true) (fn := Tryz.f88) (n := 1) (fun _ => rfl) (by kernel_rfl) rfl (by kernel_rfl) hG (Nat.le_of_ble_eq_true rfl) (by kernel_rfl) (by decide) (fun _ p => owCf_solid _) ?_
  rintro ⟨x, ⟨⟩⟩ hpre
  simp -implicitDefEqProofs only [Tryz.f88, go_sem, Nat.reduceAdd, Nat.reduceMul, Nat.reduceLeDiff, Nat.reduceEqDiff, reduceCtorEq, Nat.reduceSub, Int.reduceNeg, Nat.reduceMod, Nat.reduceBEq, Nat.reduceLT] at hpre ⊢
  obtain ⟨_, ⟨h1, _⟩, ⟨h2, _⟩⟩ := hpre
  repeat' (first | with_reducible apply And.intro | with_reducible intro _ | ((first | apply brB_split | apply aPickB_split | apply gB_split | apply adB_split) <;> intro hb <;> simp -implicitDefEqProofs only [hb, go_sem, Nat.reduceAdd, Nat.reduceMul, Nat.reduceLeDiff, Nat.reduceEqDiff, reduceCtorEq, Nat.reduceSub, Int.reduceNeg, Nat.reduceMod, Nat.reduceBEq, Nat.reduceLT] <;> try simp only [qz] at hb))
  all_goals (try simp only [maxLen, List.length_map, List.length_nil] at *)
  all_goals first | rfl | omega | (simp_all; done) | trace_state
end
def c111 : Ct := ctR (lc ECf.ag l0) (fun p => OkCf p.1) (fun p => owCf p.1)
section
attribute [local go_sem] c78 c176 List.length_map
theorem good111 {G : Gt} (hG : OkG G) (hh : G.e 78 = roEnt 0 c78 ∧ G.e 176 = roEnt 0 c176) : Gd G 111 (roEnt 0 c111) := by
  refine gR (dp := fun _ => true) (fn := Tryz.f111) (n := 1) (fun _ => rfl) (by kernel_rfl) rfl (by kernel_rfl) hG (Nat.le_of_ble_eq_true rfl) (by kernel_rfl) (by decide) (fun _ p => owCf_solid _) ?_
  rintro ⟨x, ⟨⟩⟩ hpre
  simp -implicitDefEqProofs only [Tryz.f111, go_sem, hh, Nat.reduceAdd, Nat.reduceMul, Nat.reduceLeDiff, Nat.reduceEqDiff, reduceCtorEq, Nat.reduceSub, Int.reduceNeg, Nat.reduceMod, Nat.reduceBEq, Nat.reduceLT] at hpre ⊢
  obtain ⟨_, ⟨h1, _⟩, ⟨h2, _⟩⟩ := hpre
  repeat' (first | with_reducible apply And.intro | with_reducible intro _ | ((first | apply brB_split | apply aPickB_split | apply gB_split | apply adB_split) <;> intro hb <;> simp -implicitDefEqProofs only [hb, go_sem, hh, Nat.reduceAdd, Nat.reduceMul, Nat.reduceLeDiff, Nat.reduceEqDiff, reduceCtorEq, Nat.reduceSub, Int.reduceNeg, Nat.reduceMod, Nat.reduceBEq, Nat.reduceLT] <;> try simp only [qz] at hb))
  all_goals (try simp only [maxLen, List.length_map] at *)
  all_goals first | rfl | omega | (simp_all; done) | trace_state
end
def c42 : Ct := ctR (lc EHs.ag l0) (fun p => OkHs p.1) (fun p => owHs p.1)
section
attribute [local go_sem] c78 c111 c112 c113 List.length_map List.length_append List.length_cons List.length_nil List.map_append List.map_nil Nat.zero_add List.nil_append AS.opn AS.cls AS.nilb AS.renb AS.up Bool.not_false Bool.not_true List.set_set List.set_cons_zero List.set_cons_succ List.set_nil List.mem_singleton forall_eq
set_option maxHeartbeats 3200000 in
theorem good42 {G : Gt} (hG : OkG G) (hh : G.e 78 = roEnt 0 c78 ∧ G.e 111 = roEnt 0 c111 ∧ G.e 112 = roEnt 0 c112 ∧ G.e 113 = roEnt 0 c113) : Gd G 42 (roEnt 0 c42) := by
  refine gR (dp := fun _ => true) (fn := Tryz.f42) (n := 1) (fun _ => rfl) (by kernel_rfl) rfl (by kernel_rfl) hG (Nat.le_of_ble_eq_true rfl) (by kernel_rfl) (by decide) (fun _ p => owHs_solid _) ?_
  rintro ⟨h, ⟨⟩⟩ hpre
  simp -implicitDefEqProofs only [Tryz.f42, go_sem, hh, Nat.reduceAdd, Nat.reduceMul, Nat.reduceLeDiff, Nat.reduceEqDiff, reduceCtorEq, Nat.reduceSub, Int.reduceNeg, Nat.reduceMod, Nat.reduceBEq, Nat.reduceLT] at hpre ⊢
  obtain ⟨zc, zs, ⟨lb, zb⟩, ⟨ll, zl⟩⟩ := hpre
  repeat' (first | with_reducible apply And.intro | with_reducible intro _ | ((first | apply brB_split | apply aPickB_split | apply gB_split | apply adB_split) <;> intro hb <;> simp -implicitDefEqProofs only [hb, go_sem, hh, Nat.reduceAdd, Nat.reduceMul, Nat.reduceLeDiff, Nat.reduceEqDiff, reduceCtorEq, Nat.reduceSub, Int.reduceNeg, Nat.reduceMod, Nat.reduceBEq, Nat.reduceLT] <;> try simp only [qz] at hb))
  all_goals first | rfl | omega | decide | skip
  refine run_loop [(3, 1903, true, 3)] (ι := {i : Nat // i ≤ h.boxes.length}) (fun p => ⟨[(1, .pb 1001 0), (2, .pb 1002 0), (3, .h 1903), (10, .t (.sl 3 (h.boxes.map encBx))), (11, .t (.v (.int .i64 h.boxes.length))), (12, .t (.v (.int .i64 p.1)))], [(1001, some (.box ((encHs h).map .t))), (1002, some (.box [.t (.v (.string ⟨#[]⟩)), .nil, .nil, .t (.v (.int .i64 0)), .nil, .nil, .nil])), (1903, some (.arr true 3 ((h.boxes.take p.1).map encBx)))]⟩) (fun p => h.boxes.length - p.1) ⟨0, by simp⟩ rfl ?_ ?_
  · simp -implicitDefEqProofs only [go_sem, hh, Nat.reduceAdd, Nat.reduceMul, Nat.reduceLeDiff, Nat.reduceEqDiff, reduceCtorEq, Nat.reduceSub, Int.reduceNeg, Nat.reduceMod, Nat.reduceBEq, Nat.reduceLT]
    simp
  · rintro ⟨i, hi⟩
    have hlen : (h.boxes.take i).length = i := by simp; omega
    by_cases hlt : (i : Int) < h.boxes.length
    · skip
      have hbx := zb _ (getD_mem (xs := h.boxes) (j := i) (by omega))
      obtain ⟨_, ⟨lm, zm⟩⟩ := hbx
      simp -implicitDefEqProofs only [hlt, decide_true, Int.toNat_natCast, go_sem, hh, Nat.reduceAdd, Nat.reduceMul, Nat.reduceLeDiff, Nat.reduceEqDiff, reduceCtorEq, Nat.reduceSub, Int.reduceNeg, Nat.reduceMod, Nat.reduceBEq, Nat.reduceLT]
      repeat' (first | with_reducible apply And.intro | with_reducible intro _ | ((first | apply brB_split | apply aPickB_split | apply gB_split | apply adB_split) <;> intro hb <;> simp -implicitDefEqProofs only [hb, go_sem, hh, Nat.reduceAdd, Nat.reduceMul, Nat.reduceLeDiff, Nat.reduceEqDiff, reduceCtorEq, Nat.reduceSub, Int.reduceNeg, Nat.reduceMod, Nat.reduceBEq, Nat.reduceLT] <;> try simp only [qz] at hb))
      all_goals (try simp only [maxLen] at *)
      all_goals first | rfl | omega | assumption | decide | skip
      refine run_loop [(6, 1906, true, 3)] (ι := {k : Nat // k ≤ (h.boxes.getD i default).mails.length}) (fun p => ⟨[(1, .pb 1001 0), (2, .pb 1002 0), (3, .h 1903), (5, .pb 1005 0), (6, .h 1906), (10, .t (.sl 3 (h.boxes.map encBx))), (11, .t (.v (.int .i64 h.boxes.length))), (12, .t (.v (.int .i64 i))), (17, .t (.sl 3 ((h.boxes.getD i default).mails.map encGm))), (18, .t (.v (.int .i64 (h.boxes.getD i default).mails.length))), (19, .t (.v (.int .i64 p.1)))], [(1001, some (.box ((encHs h).map .t))), (1002, some (.box [.t (.v (.string ⟨#[]⟩)), .nil, .nil, .t (.v (.int .i64 0)), .nil, .nil, .nil])), (1903, some (.arr true 3 ((h.boxes.take i).map encBx))), (1005, some (.box ((encBx (h.boxes.getD i default)).map .t))), (1906, some (.arr true 3 (((h.boxes.getD i default).mails.take p.1).map encGm)))]⟩) (fun p => (h.boxes.getD i default).mails.length - p.1) ⟨0, by simp⟩ rfl ?_ ?_
      · simp -implicitDefEqProofs only [go_sem, hh, Nat.reduceAdd, Nat.reduceMul, Nat.reduceLeDiff, Nat.reduceEqDiff, reduceCtorEq, Nat.reduceSub, Int.reduceNeg, Nat.reduceMod, Nat.reduceBEq, Nat.reduceLT]
        simp
      · rintro ⟨k, hk⟩
        have hlen2 : ((h.boxes.getD i default).mails.take k).length = k := by rw [List.length_take]; omega
        by_cases hlt2 : (k : Int) < (h.boxes.getD i default).mails.length
        · obtain ⟨_, ⟨lg, _⟩⟩ := zm _ (getD_mem (xs := (h.boxes.getD i default).mails) (j := k) (by omega))
          simp -implicitDefEqProofs only [hlt2, decide_true, Int.toNat_natCast, go_sem, hh, Nat.reduceAdd, Nat.reduceMul, Nat.reduceLeDiff, Nat.reduceEqDiff, reduceCtorEq, Nat.reduceSub, Int.reduceNeg, Nat.reduceMod, Nat.reduceBEq, Nat.reduceLT]
          repeat' (first | with_reducible apply And.intro | with_reducible intro _ | ((first | apply brB_split | apply aPickB_split | apply gB_split | apply adB_split) <;> intro hb <;> simp -implicitDefEqProofs only [hb, go_sem, hh, Nat.reduceAdd, Nat.reduceMul, Nat.reduceLeDiff, Nat.reduceEqDiff, reduceCtorEq, Nat.reduceSub, Int.reduceNeg, Nat.reduceMod, Nat.reduceBEq, Nat.reduceLT] <;> try simp only [qz] at hb))
          all_goals (try simp only [maxLen] at *)
          all_goals first | rfl | omega | assumption | decide | skip
          refine ⟨⟨k + 1, by omega⟩, by dsimp only; omega, ?_⟩
          simp -implicitDefEqProofs only [go_sem, hh, Nat.reduceAdd, Nat.reduceMul, Nat.reduceLeDiff, Nat.reduceEqDiff, reduceCtorEq, Nat.reduceSub, Int.reduceNeg, Nat.reduceMod, Nat.reduceBEq, Nat.reduceLT]
          simp only [take_snoc_map encGm (show k < (h.boxes.getD i default).mails.length by omega)]
          repeat' (first | with_reducible apply And.intro | with_reducible intro _ | ((first | apply brB_split | apply aPickB_split | apply gB_split | apply adB_split) <;> intro hb <;> simp -implicitDefEqProofs only [hb, go_sem, hh, Nat.reduceAdd, Nat.reduceMul, Nat.reduceLeDiff, Nat.reduceEqDiff, reduceCtorEq, Nat.reduceSub, Int.reduceNeg, Nat.reduceMod, Nat.reduceBEq, Nat.reduceLT] <;> try simp only [qz] at hb))
          all_goals first | rfl | (simp; done) | trace_state
        · have htk : (h.boxes.getD i default).mails.take k = (h.boxes.getD i default).mails := List.take_of_length_le (by omega)
          simp -implicitDefEqProofs only [hlt2, htk, decide_false, Int.toNat_natCast, go_sem, hh, Nat.reduceAdd, Nat.reduceMul, Nat.reduceLeDiff, Nat.reduceEqDiff, reduceCtorEq, Nat.reduceSub, Int.reduceNeg, Nat.reduceMod, Nat.reduceBEq, Nat.reduceLT]
          repeat' (first | with_reducible apply And.intro | with_reducible intro _ | ((first | apply brB_split | apply aPickB_split | apply gB_split | apply adB_split) <;> intro hb <;> simp -implicitDefEqProofs only [hb, go_sem, hh, Nat.reduceAdd, Nat.reduceMul, Nat.reduceLeDiff, Nat.reduceEqDiff, reduceCtorEq, Nat.reduceSub, Int.reduceNeg, Nat.reduceMod, Nat.reduceBEq, Nat.reduceLT] <;> try simp only [qz] at hb))
          all_goals (try simp only [maxLen] at *)
          all_goals first | rfl | omega | assumption | decide | skip
          refine ⟨⟨i + 1, by omega⟩, by dsimp only; omega, ?_⟩
          simp -implicitDefEqProofs only [go_sem, hh, Nat.reduceAdd, Nat.reduceMul, Nat.reduceLeDiff, Nat.reduceEqDiff, reduceCtorEq, Nat.reduceSub, Int.reduceNeg, Nat.reduceMod, Nat.reduceBEq, Nat.reduceLT]
          simp only [take_snoc_map encBx (show i < h.boxes.length by omega)]
          repeat' (first | with_reducible apply And.intro | with_reducible intro _ | ((first | apply brB_split | apply aPickB_split | apply gB_split | apply adB_split) <;> intro hb <;> simp -implicitDefEqProofs only [hb, go_sem, hh, Nat.reduceAdd, Nat.reduceMul, Nat.reduceLeDiff, Nat.reduceEqDiff, reduceCtorEq, Nat.reduceSub, Int.reduceNeg, Nat.reduceMod, Nat.reduceBEq, Nat.reduceLT] <;> try simp only [qz] at hb))
          all_goals first | rfl | (simp; done) | trace_state
    · have htk : h.boxes.take i = h.boxes := List.take_of_length_le (by omega)
      simp -implicitDefEqProofs only [hlt, htk, decide_false, go_sem, hh, Nat.reduceAdd, Nat.reduceMul, Nat.reduceLeDiff, Nat.reduceEqDiff, reduceCtorEq, Nat.reduceSub, Int.reduceNeg, Nat.reduceMod, Nat.reduceBEq, Nat.reduceLT]
      repeat' (first | with_reducible apply And.intro | with_reducible intro _ | ((first | apply brB_split | apply aPickB_split | apply gB_split | apply adB_split) <;> intro hb <;> simp -implicitDefEqProofs only [hb, go_sem, hh, Nat.reduceAdd, Nat.reduceMul, Nat.reduceLeDiff, Nat.reduceEqDiff, reduceCtorEq, Nat.reduceSub, Int.reduceNeg, Nat.reduceMod, Nat.reduceBEq, Nat.reduceLT] <;> try simp only [qz] at hb))
      all_goals (try simp only [maxLen] at *)
      all_goals first | rfl | omega | assumption | decide | exact ⟨zc, zs, ⟨lb, zb⟩, ⟨ll, zl⟩⟩ | rfl | trace_state
end
def c30 : Ct := ctR (lc EHs.ag l0) (fun p => OkHs p.1) (fun p => owHs p.1)
section
attribute [local go_sem] c88 c89 List.length_map List.length_append List.length_cons List.length_nil List.map_append List.map_nil Nat.zero_add List.nil_append AS.opn AS.cls AS.nilb AS.renb AS.up Bool.not_false Bool.not_true List.set_set List.set_cons_zero List.set_cons_succ List.set_nil List.mem_singleton forall_eq
set_option maxHeartbeats 6400000 in
theorem good30 {G : Gt} (hG : OkG G) (hh : G.e 88 = roEnt 0 c88 ∧ G.e 89 = roEnt 0 c89) : Gd G 30 (roEnt 0 c30) := by
  refine gR (dp := fun n => !(Nat.beq n 100002 || Nat.beq n 100004 || Nat.beq n 100006 || Nat.beq n 100008)) (fn := Tryz.f30) (n := 1) (fun _ => rfl) (by kernel_rfl) rfl (by kernel_rfl) hG (Nat.le_of_ble_eq_true rfl) (by kernel_rfl) (by decide) (fun _ p => owHs_solid _) ?_
  rintro ⟨h, ⟨⟩⟩ hpre
  simp -implicitDefEqProofs only [Tryz.f30, go_sem, hh, Nat.reduceAdd, Nat.reduceMul, Nat.reduceLeDiff, Nat.reduceEqDiff, reduceCtorEq, Nat.reduceSub, Int.reduceNeg, Nat.reduceMod, Nat.reduceBEq, Nat.reduceLT] at hpre ⊢
  obtain ⟨zc, zs, ⟨lb, zb⟩, ⟨ll, zl⟩⟩ := hpre
  repeat' (first | with_reducible apply And.intro | with_reducible intro _ | ((first | apply brB_split | apply aPickB_split | apply gB_split | apply adB_split) <;> intro hb <;> simp -implicitDefEqProofs only [hb, go_sem, hh, Nat.reduceAdd, Nat.reduceMul, Nat.reduceLeDiff, Nat.reduceEqDiff, reduceCtorEq, Nat.reduceSub, Int.reduceNeg, Nat.reduceMod, Nat.reduceBEq, Nat.reduceLT] <;> try simp only [qz] at hb))
  all_goals (try simp only [maxLen] at *)
  all_goals first | rfl | omega | assumption | decide | skip
  refine run_le (Le.nilb 1003 5 1905 true 3 rfl rfl rfl) (run_go ?_)
  simp -implicitDefEqProofs only [go_sem, hh, Nat.reduceAdd, Nat.reduceMul, Nat.reduceLeDiff, Nat.reduceEqDiff, reduceCtorEq, Nat.reduceSub, Int.reduceNeg, Nat.reduceMod, Nat.reduceBEq, Nat.reduceLT]
  refine run_loop [] (ι := {i : Nat // i ≤ h.boxes.length}) (fun p => ⟨[(1, .pb 1001 0), (2, .pb 1002 0), (3, .pb 1003 0), (4, .t (.v (.int .i64 p.1)))], [(1001, some (.box ((encHs h).map .t))), (1002, some (.box [.t (.v (.string ⟨#[]⟩)), .nil, .nil, .t (.v (.int .i64 0)), .nil, .nil, .nil])), (1003, some (.box [.t (.v (.string h.conf.name)), .h 1009, .h 2009, .t (.v (.int .i64 h.spool.last)), .h 1012, .h 1905, .h 1016])), (1009, some (.arr true 1 (h.conf.own.map encStr))), (2009, some (.arr true 2 (h.conf.ways.map encWy))), (1012, some (.arr true 5 (h.spool.items.map encIm))), (1016, some (.arr true 3 (h.lost.map encLs))), (1905, some (.arr true 3 ((h.boxes.take p.1).map encBx)))]⟩) (fun p => h.boxes.length - p.1) ⟨0, by simp⟩ rfl ?_ ?_
  · simp -implicitDefEqProofs only [go_sem, hh, Nat.reduceAdd, Nat.reduceMul, Nat.reduceLeDiff, Nat.reduceEqDiff, reduceCtorEq, Nat.reduceSub, Int.reduceNeg, Nat.reduceMod, Nat.reduceBEq, Nat.reduceLT]
    simp
  · rintro ⟨i, hi⟩
    have hlen : (h.boxes.take i).length = i := by simp; omega
    by_cases hlt : (i : Int) < h.boxes.length
    · skip
      have hbx := zb _ (getD_mem (xs := h.boxes) (j := i) (by omega))
      obtain ⟨_, ⟨lm, zm⟩⟩ := hbx
      simp -implicitDefEqProofs only [hlt, decide_true, Int.toNat_natCast, go_sem, hh, Nat.reduceAdd, Nat.reduceMul, Nat.reduceLeDiff, Nat.reduceEqDiff, reduceCtorEq, Nat.reduceSub, Int.reduceNeg, Nat.reduceMod, Nat.reduceBEq, Nat.reduceLT]
      repeat' (first | with_reducible apply And.intro | with_reducible intro _ | ((first | apply brB_split | apply aPickB_split | apply gB_split | apply adB_split) <;> intro hb <;> simp -implicitDefEqProofs only [hb, go_sem, hh, Nat.reduceAdd, Nat.reduceMul, Nat.reduceLeDiff, Nat.reduceEqDiff, reduceCtorEq, Nat.reduceSub, Int.reduceNeg, Nat.reduceMod, Nat.reduceBEq, Nat.reduceLT] <;> try simp only [qz] at hb))
      all_goals (try simp only [maxLen] at *)
      all_goals first | rfl | omega | assumption | decide | skip
      refine run_le (Le.nilb 1005 2 1906 true 3 rfl rfl rfl) (run_go ?_)
      simp -implicitDefEqProofs only [go_sem, hh, Nat.reduceAdd, Nat.reduceMul, Nat.reduceLeDiff, Nat.reduceEqDiff, reduceCtorEq, Nat.reduceSub, Int.reduceNeg, Nat.reduceMod, Nat.reduceBEq, Nat.reduceLT]
      repeat' (first | with_reducible apply And.intro | with_reducible intro _ | ((first | apply brB_split | apply aPickB_split | apply gB_split | apply adB_split) <;> intro hb <;> simp -implicitDefEqProofs only [hb, go_sem, hh, Nat.reduceAdd, Nat.reduceMul, Nat.reduceLeDiff, Nat.reduceEqDiff, reduceCtorEq, Nat.reduceSub, Int.reduceNeg, Nat.reduceMod, Nat.reduceBEq, Nat.reduceLT] <;> try simp only [qz] at hb))
      all_goals first | rfl | omega | decide | skip
      refine run_loop [] (ι := {k : Nat // k ≤ (h.boxes.getD i default).mails.length}) (fun p => ⟨[(1, .pb 1001 0), (2, .pb 1002 0), (3, .pb 1003 0), (4, .t (.v (.int .i64 i))), (5, .pb 1005 0), (6, .t (.v (.int .i64 p.1)))], [(1001, some (.box ((encHs h).map .t))), (1002, some (.box [.t (.v (.string ⟨#[]⟩)), .nil, .nil, .t (.v (.int .i64 0)), .nil, .nil, .nil])), (1003, some (.box [.t (.v (.string h.conf.name)), .h 1009, .h 2009, .t (.v (.int .i64 h.spool.last)), .h 1012, .h 1905, .h 1016])), (1009, some (.arr true 1 (h.conf.own.map encStr))), (2009, some (.arr true 2 (h.conf.ways.map encWy))), (1012, some (.arr true 5 (h.spool.items.map encIm))), (1016, some (.arr true 3 (h.lost.map encLs))), (1905, some (.arr true 3 ((h.boxes.take i).map encBx))), (1005, some (.box [.t (.v (.string (h.boxes.getD i default).addr.user)), .t (.v (.string (h.boxes.getD i default).addr.domain)), .h 1906])), (1906, some (.arr true 3 (((h.boxes.getD i default).mails.take p.1).map encGm)))]⟩) (fun p => (h.boxes.getD i default).mails.length - p.1) ⟨0, by simp⟩ rfl ?_ ?_
      · simp -implicitDefEqProofs only [go_sem, hh, Nat.reduceAdd, Nat.reduceMul, Nat.reduceLeDiff, Nat.reduceEqDiff, reduceCtorEq, Nat.reduceSub, Int.reduceNeg, Nat.reduceMod, Nat.reduceBEq, Nat.reduceLT]
        simp
      · rintro ⟨k, hk⟩
        have hlen2 : ((h.boxes.getD i default).mails.take k).length = k := by rw [List.length_take]; omega
        by_cases hlt2 : (k : Int) < (h.boxes.getD i default).mails.length
        · obtain ⟨_, ⟨lg, _⟩⟩ := zm _ (getD_mem (xs := (h.boxes.getD i default).mails) (j := k) (by omega))
          simp -implicitDefEqProofs only [hlt2, decide_true, Int.toNat_natCast, go_sem, hh, Nat.reduceAdd, Nat.reduceMul, Nat.reduceLeDiff, Nat.reduceEqDiff, reduceCtorEq, Nat.reduceSub, Int.reduceNeg, Nat.reduceMod, Nat.reduceBEq, Nat.reduceLT]
          repeat' (first | with_reducible apply And.intro | with_reducible intro _ | ((first | apply brB_split | apply aPickB_split | apply gB_split | apply adB_split) <;> intro hb <;> simp -implicitDefEqProofs only [hb, go_sem, hh, Nat.reduceAdd, Nat.reduceMul, Nat.reduceLeDiff, Nat.reduceEqDiff, reduceCtorEq, Nat.reduceSub, Int.reduceNeg, Nat.reduceMod, Nat.reduceBEq, Nat.reduceLT] <;> try simp only [qz] at hb))
          all_goals (try simp only [maxLen, Int.toNat_natCast] at *)
          all_goals first | rfl | omega | assumption | decide | skip
          refine run_le (Le.renb 1005 2 1069 1906 rfl rfl rfl rfl) (run_go ?_)
          simp -implicitDefEqProofs only [go_sem, hh, Nat.reduceAdd, Nat.reduceMul, Nat.reduceLeDiff, Nat.reduceEqDiff, reduceCtorEq, Nat.reduceSub, Int.reduceNeg, Nat.reduceMod, Nat.reduceBEq, Nat.reduceLT]
          repeat' (first | with_reducible apply And.intro | with_reducible intro _ | ((first | apply brB_split | apply aPickB_split | apply gB_split | apply adB_split) <;> intro hb <;> simp -implicitDefEqProofs only [hb, go_sem, hh, Nat.reduceAdd, Nat.reduceMul, Nat.reduceLeDiff, Nat.reduceEqDiff, reduceCtorEq, Nat.reduceSub, Int.reduceNeg, Nat.reduceMod, Nat.reduceBEq, Nat.reduceLT] <;> try simp only [qz] at hb))
          all_goals first | rfl | omega | decide | skip
          refine ⟨⟨k + 1, by omega⟩, by dsimp only; omega, ?_⟩
          simp -implicitDefEqProofs only [go_sem, hh, Nat.reduceAdd, Nat.reduceMul, Nat.reduceLeDiff, Nat.reduceEqDiff, reduceCtorEq, Nat.reduceSub, Int.reduceNeg, Nat.reduceMod, Nat.reduceBEq, Nat.reduceLT]
          simp only [take_snoc_map encGm (show k < (h.boxes.getD i default).mails.length by omega)]
          repeat' (first | with_reducible apply And.intro | with_reducible intro _ | ((first | apply brB_split | apply aPickB_split | apply gB_split | apply adB_split) <;> intro hb <;> simp -implicitDefEqProofs only [hb, go_sem, hh, Nat.reduceAdd, Nat.reduceMul, Nat.reduceLeDiff, Nat.reduceEqDiff, reduceCtorEq, Nat.reduceSub, Int.reduceNeg, Nat.reduceMod, Nat.reduceBEq, Nat.reduceLT] <;> try simp only [qz] at hb))
          all_goals first | rfl | (simp; done) | trace_state
        · have htk : (h.boxes.getD i default).mails.take k = (h.boxes.getD i default).mails := List.take_of_length_le (by omega)
          simp -implicitDefEqProofs only [hlt2, htk, decide_false, Int.toNat_natCast, go_sem, hh, Nat.reduceAdd, Nat.reduceMul, Nat.reduceLeDiff, Nat.reduceEqDiff, reduceCtorEq, Nat.reduceSub, Int.reduceNeg, Nat.reduceMod, Nat.reduceBEq, Nat.reduceLT]
          repeat' (first | with_reducible apply And.intro | with_reducible intro _ | ((first | apply brB_split | apply aPickB_split | apply gB_split | apply adB_split) <;> intro hb <;> simp -implicitDefEqProofs only [hb, go_sem, hh, Nat.reduceAdd, Nat.reduceMul, Nat.reduceLeDiff, Nat.reduceEqDiff, reduceCtorEq, Nat.reduceSub, Int.reduceNeg, Nat.reduceMod, Nat.reduceBEq, Nat.reduceLT] <;> try simp only [qz] at hb))
          all_goals (try simp only [maxLen] at *)
          all_goals first | rfl | omega | assumption | decide | skip
          refine run_le (Le.renb 1003 5 1075 1905 rfl rfl rfl rfl) (run_go ?_)
          simp -implicitDefEqProofs only [go_sem, hh, Nat.reduceAdd, Nat.reduceMul, Nat.reduceLeDiff, Nat.reduceEqDiff, reduceCtorEq, Nat.reduceSub, Int.reduceNeg, Nat.reduceMod, Nat.reduceBEq, Nat.reduceLT]
          repeat' (first | with_reducible apply And.intro | with_reducible intro _ | ((first | apply brB_split | apply aPickB_split | apply gB_split | apply adB_split) <;> intro hb <;> simp -implicitDefEqProofs only [hb, go_sem, hh, Nat.reduceAdd, Nat.reduceMul, Nat.reduceLeDiff, Nat.reduceEqDiff, reduceCtorEq, Nat.reduceSub, Int.reduceNeg, Nat.reduceMod, Nat.reduceBEq, Nat.reduceLT] <;> try simp only [qz] at hb))
          all_goals first | rfl | omega | decide | skip
          refine ⟨⟨i + 1, by omega⟩, by dsimp only; omega, ?_⟩
          simp -implicitDefEqProofs only [go_sem, hh, Nat.reduceAdd, Nat.reduceMul, Nat.reduceLeDiff, Nat.reduceEqDiff, reduceCtorEq, Nat.reduceSub, Int.reduceNeg, Nat.reduceMod, Nat.reduceBEq, Nat.reduceLT]
          simp only [take_snoc_map encBx (show i < h.boxes.length by omega)]
          repeat' (first | with_reducible apply And.intro | with_reducible intro _ | ((first | apply brB_split | apply aPickB_split | apply gB_split | apply adB_split) <;> intro hb <;> simp -implicitDefEqProofs only [hb, go_sem, hh, Nat.reduceAdd, Nat.reduceMul, Nat.reduceLeDiff, Nat.reduceEqDiff, reduceCtorEq, Nat.reduceSub, Int.reduceNeg, Nat.reduceMod, Nat.reduceBEq, Nat.reduceLT] <;> try simp only [qz] at hb))
          all_goals first | rfl | (simp; done) | trace_state
    · have htk : h.boxes.take i = h.boxes := List.take_of_length_le (by omega)
      simp -implicitDefEqProofs only [hlt, htk, decide_false, go_sem, hh, Nat.reduceAdd, Nat.reduceMul, Nat.reduceLeDiff, Nat.reduceEqDiff, reduceCtorEq, Nat.reduceSub, Int.reduceNeg, Nat.reduceMod, Nat.reduceBEq, Nat.reduceLT]
      repeat' (first | with_reducible apply And.intro | with_reducible intro _ | ((first | apply brB_split | apply aPickB_split | apply gB_split | apply adB_split) <;> intro hb <;> simp -implicitDefEqProofs only [hb, go_sem, hh, Nat.reduceAdd, Nat.reduceMul, Nat.reduceLeDiff, Nat.reduceEqDiff, reduceCtorEq, Nat.reduceSub, Int.reduceNeg, Nat.reduceMod, Nat.reduceBEq, Nat.reduceLT] <;> try simp only [qz] at hb))
      all_goals (try simp only [maxLen] at *)
      all_goals first | rfl | omega | assumption | decide | rfl | trace_state
end
def c208 : Ct := ctR (lc EAd.ag l0) (fun p => p.1.user.size ≤ 2000000 ∧ p.1.domain.size ≤ 2000000) (fun p => .t (.v (.string (putA p.1))))
section
attribute [local go_sem] c91
theorem good208 {G : Gt} (hG : OkG G) (hh : G.e 91 = roEnt 0 c91) : Gd G 208 (roEnt 0 c208) := by
  refine gR (dp := fun _ => true) (fn := Tryz.f208) (n := 1) (fun _ => rfl) (by kernel_rfl) rfl (by kernel_rfl) hG (Nat.le_of_ble_eq_true rfl) (by kernel_rfl) (by decide) (fun _ _ => .v _) ?_
  rintro ⟨a, ⟨⟩⟩ hpre
  simp -implicitDefEqProofs only [Tryz.f208, go_sem, hh, Nat.reduceAdd, Nat.reduceMul, Nat.reduceLeDiff, Nat.reduceEqDiff, reduceCtorEq, Nat.reduceSub, Int.reduceNeg, Nat.reduceMod, Nat.reduceBEq, Nat.reduceLT] at hpre ⊢
  obtain ⟨h1, h2⟩ := hpre
  have e1 : (#[60] : Array UInt8).size = 1 := rfl
  have e2 : (#[64] : Array UInt8).size = 1 := rfl
  have e3 : (#[62] : Array UInt8).size = 1 := rfl
  repeat' (first | with_reducible apply And.intro | with_reducible intro _ | ((first | apply brB_split | apply aPickB_split | apply gB_split | apply adB_split) <;> intro hb <;> simp -implicitDefEqProofs only [hb, go_sem, hh, Nat.reduceAdd, Nat.reduceMul, Nat.reduceLeDiff, Nat.reduceEqDiff, reduceCtorEq, Nat.reduceSub, Int.reduceNeg, Nat.reduceMod, Nat.reduceBEq, Nat.reduceLT] <;> try simp only [qz] at hb))
  all_goals (try simp only [maxLen] at *)
  all_goals first
    | rfl
    | omega
    | (rw [putA_y (by assumption)]; done)
    | (rw [putA_n hb]; done)
    | trace_state
end
def c189 : Ct := ctR (lc EAd.ag l0) (fun p => p.1.user.size ≤ 2000000 ∧ p.1.domain.size ≤ 2000000) (fun p => .t (.v (.string (putA p.1))))
section
attribute [local go_sem] c168
theorem good189 {G : Gt} (hG : OkG G) (hh : G.e 168 = roEnt 0 c168) : Gd G 189 (roEnt 0 c189) := by
  refine gR (dp := fun _ => true) (fn := Tryz.f189) (n := 1) (fun _ => rfl) (by kernel_rfl) rfl (by kernel_rfl) hG (Nat.le_of_ble_eq_true rfl) (by kernel_rfl) (by decide) (fun _ _ => .v _) ?_
  rintro ⟨a, ⟨⟩⟩ hpre
  simp -implicitDefEqProofs only [Tryz.f189, go_sem, hh, Nat.reduceAdd, Nat.reduceMul, Nat.reduceLeDiff, Nat.reduceEqDiff, reduceCtorEq, Nat.reduceSub, Int.reduceNeg, Nat.reduceMod, Nat.reduceBEq, Nat.reduceLT] at hpre ⊢
  obtain ⟨h1, h2⟩ := hpre
  have e1 : (#[60] : Array UInt8).size = 1 := rfl
  have e2 : (#[64] : Array UInt8).size = 1 := rfl
  have e3 : (#[62] : Array UInt8).size = 1 := rfl
  repeat' (first | with_reducible apply And.intro | with_reducible intro _ | ((first | apply brB_split | apply aPickB_split | apply gB_split | apply adB_split) <;> intro hb <;> simp -implicitDefEqProofs only [hb, go_sem, hh, Nat.reduceAdd, Nat.reduceMul, Nat.reduceLeDiff, Nat.reduceEqDiff, reduceCtorEq, Nat.reduceSub, Int.reduceNeg, Nat.reduceMod, Nat.reduceBEq, Nat.reduceLT] <;> try simp only [qz] at hb))
  all_goals (try simp only [maxLen] at *)
  all_goals first
    | rfl
    | omega
    | (rw [putA_y (by assumption)]; done)
    | (rw [putA_n hb]; done)
    | trace_state
end
theorem decB2 {a b : ByteArray} : EStr.decL [[.v (.string a)], [.v (.string b)]] = some [a, b] := EStr.decL_map [a, b]
theorem decB3 {a b c : ByteArray} : EStr.decL [[.v (.string a)], [.v (.string b)], [.v (.string c)]] = some [a, b, c] := EStr.decL_map [a, b, c]
theorem decA1 {a : Ad} : EAd.decL [[.v (.string a.user), .v (.string a.domain)]] = some [a] := EAd.decL_map [a]
theorem bounce_e {x : Im} {a : Ad} (h : mkOf x.body = ⟨#[]⟩) : bounceMl x a = ⟨⟨⟨#[]⟩, ⟨#[]⟩⟩, [x.frm], [ndS, putA a]⟩ := by unfold bounceMl; rw [if_pos h]
theorem bounce_m {x : Im} {a : Ad} (h : ¬ mkOf x.body = ⟨#[]⟩) : bounceMl x a = ⟨⟨⟨#[]⟩, ⟨#[]⟩⟩, [x.frm], [ndS, putA a, mkOf x.body]⟩ := by unfold bounceMl; rw [if_neg h]
theorem bounce_len {x : Im} {a : Ad} : (bounceMl x a).body.length ≤ 3 := by
  unfold bounceMl
  split <;> simp
theorem bounce_OkMl {x : Im} {a : Ad} (hox : OkIm x) (ha : AdOk a) : OkMl (bounceMl x a) := by
  refine ⟨⟨by show 0 ≤ 1048576; decide, by show 0 ≤ 1048576; decide⟩, ⟨by show ((1 : Nat) : Int) ≤ 1048576; decide, fun b hb => by rw [List.mem_singleton.1 hb]; exact hox.1⟩, ⟨by have := bounce_len (x := x) (a := a); omega, fun s hs => ?_⟩⟩
  unfold bounceMl at hs
  rcases List.mem_cons.1 hs with e | hs
  · rw [e]; show 14 ≤ 1048576; decide
  · rcases List.mem_cons.1 hs with e | hs
    · rw [e]
      have := (putA_lin (.inl ha)).2
      show (putA a).size ≤ 1048576
      omega
    · split at hs
      · cases hs
      · rename_i q
        rw [List.mem_singleton.1 hs]
        exact hox.2.2.2 _ ((mkOf_mem x.body).resolve_left q)
theorem mem_cut {α : Type} {xs : List α} {i j : Nat} {y : α} (h : y ∈ xs.take i ++ xs.drop j) : y ∈ xs := by
  rcases List.mem_append.1 h with h | h
  · exact List.mem_of_mem_take h
  · exact List.mem_of_mem_drop h
theorem OkL_sub {α : Type} {p : α → Prop} {xs ys : List α} (h : OkL p xs) (hl : ys.length ≤ xs.length) (hs : ∀ y ∈ ys, p y) : OkL p ys := ⟨by have := h.1; omega, hs⟩
theorem dnSp_ok {s : Sp} {i k : Nat} (h : OkSp s) (hi : i < s.items.length) : OkSp (dnSp s i k) := by
  have h' : OkL OkIm s.items := h
  show OkL OkIm (dnL s.items i k)
  have hx := h'.at hi
  have hx2 : OkIm (dnIm (s.items.getD i default) k) := ⟨hx.1, OkL_sub hx.2.1 (by simp [dnIm]; omega) (fun y hy => hx.2.1.2 y (mem_cut hy)), hx.2.2⟩
  unfold dnL
  split
  · exact OkL_sub h' (by simp; omega) fun y hy => h'.2 y (mem_cut hy)
  · refine OkL_sub h' (by simp; omega) fun y hy => ?_
    rcases List.mem_append.1 hy with hy | hy
    · exact h'.2 y (List.mem_of_mem_take hy)
    · rcases List.mem_cons.1 hy with e | hy
      · rw [e]; exact hx2
      · exact h'.2 y (List.mem_of_mem_drop hy)
def c188 : Ct := ctR (lc EIm.ag (lc EAd.ag l0)) (fun p => p.2.1.user.size ≤ 2000000 ∧ p.2.1.domain.size ≤ 2000000) (fun p => owMl (bounceMl p.1 p.2.1))
section
attribute [local go_sem] c208 c187 List.length_map List.length_append List.length_cons List.length_nil List.map_append List.map_nil Nat.zero_add List.nil_append AS.opn AS.cls AS.nilb AS.renb AS.up Bool.not_false Bool.not_true List.set_set List.set_cons_zero List.set_cons_succ List.set_nil List.mem_singleton forall_eq
set_option maxHeartbeats 800000 in
theorem good188 {G : Gt} (hG : OkG G) (hh : G.e 208 = roEnt 0 c208 ∧ G.e 187 = roEnt 0 c187) : Gd G 188 (roEnt 0 c188) := by
  refine gR (dp := fun _ => true) (fn := Tryz.f188) (n := 2) (fun _ => rfl) (by kernel_rfl) rfl (by kernel_rfl) hG (Nat.le_of_ble_eq_true rfl) (by kernel_rfl) (by decide) (fun _ p => owMl_solid _) ?_
  rintro ⟨x, a, ⟨⟩⟩ hpre
  obtain ⟨h1, h2'⟩ := hpre
  dsimp only at h1 h2' ⊢
  by_cases hm : mkOf x.body = ⟨#[]⟩
  · rw [bounce_e hm]
    have dm := decide_eq_true hm
    simp -implicitDefEqProofs only [Tryz.f188, dm, go_sem, hh, Nat.reduceAdd, Nat.reduceMul, Nat.reduceLeDiff, Nat.reduceEqDiff, reduceCtorEq, Nat.reduceSub, Int.reduceNeg, Nat.reduceMod, Nat.reduceBEq, Nat.reduceLT]
    repeat' (first | with_reducible apply And.intro | with_reducible intro _ | ((first | apply brB_split | apply aPickB_split | apply gB_split | apply adB_split) <;> intro hb <;> simp -implicitDefEqProofs only [hb, go_sem, hh, Nat.reduceAdd, Nat.reduceMul, Nat.reduceLeDiff, Nat.reduceEqDiff, reduceCtorEq, Nat.reduceSub, Int.reduceNeg, Nat.reduceMod, Nat.reduceBEq, Nat.reduceLT] <;> try simp only [qz] at hb))
    all_goals (try simp only [maxLen] at *)
    all_goals first | with_reducible assumption | rfl | omega | contradiction | decide | (simp; done) | trace_state
  · rw [bounce_m hm]
    have dm := decide_eq_false hm
    simp -implicitDefEqProofs only [Tryz.f188, dm, go_sem, hh, Nat.reduceAdd, Nat.reduceMul, Nat.reduceLeDiff, Nat.reduceEqDiff, reduceCtorEq, Nat.reduceSub, Int.reduceNeg, Nat.reduceMod, Nat.reduceBEq, Nat.reduceLT]
    repeat' (first | with_reducible apply And.intro | with_reducible intro _ | ((first | apply brB_split | apply aPickB_split | apply gB_split | apply adB_split) <;> intro hb <;> simp -implicitDefEqProofs only [hb, go_sem, hh, Nat.reduceAdd, Nat.reduceMul, Nat.reduceLeDiff, Nat.reduceEqDiff, reduceCtorEq, Nat.reduceSub, Int.reduceNeg, Nat.reduceMod, Nat.reduceBEq, Nat.reduceLT] <;> try simp only [qz] at hb))
    all_goals (try simp only [maxLen] at *)
    all_goals first | with_reducible assumption | rfl | omega | contradiction | decide | (simp; done) | trace_state
end
open Classical in
noncomputable def BncOf (x : Im) (a : Ad) : Ml × Bool := if ¬ AdNull x.frm ∧ AdOk a ∧ ImOk x then (bounceMl x a, true) else (⟨⟨⟨#[]⟩, ⟨#[]⟩⟩, [], []⟩, false)
theorem BncOf_y {x : Im} {a : Ad} (h : ¬ AdNull x.frm ∧ AdOk a ∧ ImOk x) : BncOf x a = (bounceMl x a, true) := if_pos h
theorem BncOf_n {x : Im} {a : Ad} (h : ¬ (¬ AdNull x.frm ∧ AdOk a ∧ ImOk x)) : BncOf x a = (⟨⟨⟨#[]⟩, ⟨#[]⟩⟩, [], []⟩, false) := if_neg h
def owMB' (p : Ml × Bool) : AV := .tup [owMl p.1, .t (.v (.bool p.2))]
theorem owMB'_solid (p : Ml × Bool) : Solid (owMB' p) := .tup _ fun c hc => by
  simp only [List.mem_cons, List.not_mem_nil, or_false] at hc
  rcases hc with rfl | rfl
  · exact owMl_solid _
  · exact .v _
def c143 : Ct := ctR (lc EIm.ag (lc EAd.ag l0)) (fun p => OkIm p.1 ∧ OkAd p.2.1) (fun p => owMB' (BncOf p.1 p.2.1))
section
attribute [local go_sem] c168 c107 c167 c189 c144 List.length_map List.length_append List.length_cons List.length_nil List.map_append List.map_nil Nat.zero_add List.nil_append AS.opn AS.cls AS.nilb AS.renb AS.up Bool.not_false Bool.not_true List.set_set List.set_cons_zero List.set_cons_succ List.set_nil List.mem_singleton forall_eq owMB'.eq_1 bOf_t bOf_f
set_option maxHeartbeats 1600000 in
theorem good143 {G : Gt} (hG : OkG G) (hh : G.e 168 = roEnt 0 c168 ∧ G.e 107 = roEnt 0 c107 ∧ G.e 167 = roEnt 0 c167 ∧ G.e 189 = roEnt 0 c189 ∧ G.e 144 = roEnt 0 c144) : Gd G 143 (roEnt 0 c143) := by
  refine gR (dp := fun _ => true) (fn := Tryz.f143) (n := 2) (fun _ => rfl) (by kernel_rfl) rfl (by kernel_rfl) hG (Nat.le_of_ble_eq_true rfl) (by kernel_rfl) (by decide) (fun _ p => owMB'_solid _) ?_
  rintro ⟨x, a, ⟨⟩⟩ hpre
  obtain ⟨hx, ha⟩ := hpre
  dsimp only at hx ha ⊢
  have h1 : a.user.size ≤ 2000000 := by have : a.user.size ≤ 1048576 := ha.1; omega
  have h1' : a.domain.size ≤ 2000000 := by have : a.domain.size ≤ 1048576 := ha.2; omega
  have h2 : ∀ s ∈ x.body, s.size ≤ 2000000 := fun s hs => by have : s.size ≤ 1048576 := hx.2.2.2 s hs; omega
  by_cases q : ¬ AdNull x.frm ∧ AdOk a ∧ ImOk x
  · rw [BncOf_y q]
    obtain ⟨q1, q2, q3⟩ := q
    have b1 := bOf_n q1
    have b2 := bOf_y q2
    have b3 := bOf_y q3
    by_cases hm : mkOf x.body = ⟨#[]⟩
    · rw [bounce_e hm]
      have dm := decide_eq_true hm
      simp -implicitDefEqProofs only [Tryz.f143, dm, b1, b2, b3, go_sem, hh, Nat.reduceAdd, Nat.reduceMul, Nat.reduceLeDiff, Nat.reduceEqDiff, reduceCtorEq, Nat.reduceSub, Int.reduceNeg, Nat.reduceMod, Nat.reduceBEq, Nat.reduceLT]
      repeat' (first | with_reducible apply And.intro | with_reducible intro _ | ((first | apply brB_split | apply aPickB_split | apply gB_split | apply adB_split) <;> intro hb <;> simp -implicitDefEqProofs only [hb, go_sem, hh, Nat.reduceAdd, Nat.reduceMul, Nat.reduceLeDiff, Nat.reduceEqDiff, reduceCtorEq, Nat.reduceSub, Int.reduceNeg, Nat.reduceMod, Nat.reduceBEq, Nat.reduceLT] <;> try simp only [qz] at hb))
      all_goals (try simp only [maxLen] at *)
      all_goals first | with_reducible assumption | rfl | omega | contradiction | decide | exact h2 _ (by assumption) | (simp; done) | trace_state
    · rw [bounce_m hm]
      have dm := decide_eq_false hm
      simp -implicitDefEqProofs only [Tryz.f143, dm, b1, b2, b3, go_sem, hh, Nat.reduceAdd, Nat.reduceMul, Nat.reduceLeDiff, Nat.reduceEqDiff, reduceCtorEq, Nat.reduceSub, Int.reduceNeg, Nat.reduceMod, Nat.reduceBEq, Nat.reduceLT]
      repeat' (first | with_reducible apply And.intro | with_reducible intro _ | ((first | apply brB_split | apply aPickB_split | apply gB_split | apply adB_split) <;> intro hb <;> simp -implicitDefEqProofs only [hb, go_sem, hh, Nat.reduceAdd, Nat.reduceMul, Nat.reduceLeDiff, Nat.reduceEqDiff, reduceCtorEq, Nat.reduceSub, Int.reduceNeg, Nat.reduceMod, Nat.reduceBEq, Nat.reduceLT] <;> try simp only [qz] at hb))
      all_goals (try simp only [maxLen] at *)
      all_goals first | with_reducible assumption | rfl | omega | contradiction | decide | exact h2 _ (by assumption) | (simp; done) | trace_state
  · rw [BncOf_n q]
    simp -implicitDefEqProofs only [Tryz.f143, go_sem, hh, Nat.reduceAdd, Nat.reduceMul, Nat.reduceLeDiff, Nat.reduceEqDiff, reduceCtorEq, Nat.reduceSub, Int.reduceNeg, Nat.reduceMod, Nat.reduceBEq, Nat.reduceLT]
    repeat' (first | with_reducible apply And.intro | with_reducible intro _ | ((first | apply brB_split | apply aPickB_split | apply gB_split | apply adB_split) <;> intro hb <;> simp -implicitDefEqProofs only [hb, go_sem, hh, Nat.reduceAdd, Nat.reduceMul, Nat.reduceLeDiff, Nat.reduceEqDiff, reduceCtorEq, Nat.reduceSub, Int.reduceNeg, Nat.reduceMod, Nat.reduceBEq, Nat.reduceLT] <;> try simp only [qz] at hb))
    all_goals (try simp only [maxLen, bOf_t, bOf_f] at *)
    all_goals first | with_reducible assumption | omega | contradiction | decide | exact h2 _ (by assumption) | exact absurd ⟨by assumption, by assumption, by assumption⟩ q | rfl | (simp; done) | trace_state
end
theorem give_spool {h : Hs} {n : Int} {a : Ad} (q : SpOk h.spool) (hi : ¬ atIm h.spool n < 0) (hk : ¬ atRc (theIm h.spool n) a < 0) : SpOk (dnSp h.spool (atIm h.spool n).toNat (atRc (theIm h.spool n) a).toNat) := by
  have h1 := atIm_lt hi
  have h2 := atRc_lt hk
  exact dnSp_SpOk q (by omega) (by unfold theIm at h2; unfold theIm; omega)
theorem at_same {h : Hs} {i : Nat} (hi : i < h.spool.items.length) : h.spool.items.getD i default ∈ h.spool.items := getD_mem hi
def c135 : Ct := ctR (lc EHs.ag (lc AInt (lc AInt (lc AInt l0)))) (fun p => OkHs p.1 ∧ SpOk p.1.spool ∧ (0 ≤ p.2.1 ∧ p.2.1 < p.1.spool.items.length) ∧ (0 ≤ p.2.2.1 ∧ p.2.2.1 < (p.1.spool.items.getD p.2.1.toNat default).to.length)) (fun p => .agg ((encHs (giveHs p.1 (p.1.spool.items.getD p.2.1.toNat default) ((p.1.spool.items.getD p.2.1.toNat default).to.getD p.2.2.1.toNat default).addr p.2.1.toNat p.2.2.1.toNat p.2.2.2.1)).map .t))
section
attribute [local go_sem] c133 c91 c94 c187 c188 c97 tmap dmap List.take_length List.drop_zero List.length_take List.length_drop List.length_map List.length_append List.length_cons List.length_nil List.map_append List.map_nil List.map_cons List.nil_append Nat.zero_add List.mem_singleton forall_eq Bool.not_true Bool.not_false bOf_t bOf_f AS.opn AS.cls AS.nilb AS.renb AS.up List.set_set List.set_cons_zero List.set_cons_succ List.set_nil
set_option maxHeartbeats 3200000 in
theorem good135 {G : Gt} (hG : OkG G) (hh : G.e 133 = roEnt 1 c133 ∧ G.e 91 = roEnt 0 c91 ∧ G.e 94 = roEnt 0 c94 ∧ G.e 187 = roEnt 0 c187 ∧ G.e 188 = roEnt 0 c188 ∧ G.e 97 = roEnt 1 c97) : Gd G 135 (roEnt 1 c135) := by
  refine gR (dp := fun n => Nat.ble 100000 n) (fn := Tryz.f135) (n := 4) (fun _ => rfl) (by kernel_rfl) rfl (by kernel_rfl) hG (Nat.le_of_ble_eq_true rfl) (by kernel_rfl) (by decide) (fun h => by cases h) ?_
  rintro ⟨h, i, k, w, ⟨⟩⟩ hpre
  obtain ⟨hok, hsp, ⟨hi0, hi1⟩, ⟨hk0, hk1⟩⟩ := hpre
  dsimp only at hok hsp hi0 hi1 hk0 hk1 ⊢
  obtain ⟨ni, rfl⟩ := Int.eq_ofNat_of_zero_le hi0
  obtain ⟨nk, rfl⟩ := Int.eq_ofNat_of_zero_le hk0
  simp only [Int.toNat_natCast] at *
  have hi2 : ni < h.spool.items.length := by omega
  have hk2 : nk < (h.spool.items.getD ni default).to.length := by omega
  have hsd := dnSp_SpOk hsp hi2 hk2
  have hos := hok.2.1
  have hod := dnSp_ok (k := nk) hos hi2
  have hll := hok.2.2.2.1
  have hx := hsp.1 _ (getD_mem hi2)
  have hox := hos.2 _ (getD_mem hi2)
  have hoa := hox.2.1.2 _ (getD_mem hk2)
  have hau : ((h.spool.items.getD ni default).to.getD nk default).addr.user.size ≤ 2000000 := by have : ((h.spool.items.getD ni default).to.getD nk default).addr.user.size ≤ 1048576 := hoa.1; omega
  have had : ((h.spool.items.getD ni default).to.getD nk default).addr.domain.size ≤ 2000000 := by have : ((h.spool.items.getD ni default).to.getD nk default).addr.domain.size ≤ 1048576 := hoa.2; omega
  have hob : OkMl (bounceMl (h.spool.items.getD ni default) ((h.spool.items.getD ni default).to.getD nk default).addr) := bounce_OkMl hox (hx.1.1 _ (getD_mem hk2)).1
  by_cases q : AdNull (h.spool.items.getD ni default).frm ∨ ¬ Room (dnSp h.spool ni nk)
  · rw [give_l q]
    by_cases q1 : AdNull (h.spool.items.getD ni default).frm
    · have b1 := bOf_y q1
      simp -implicitDefEqProofs only [Tryz.f135, b1, Int.toNat_natCast, go_sem, hh, Nat.reduceAdd, Nat.reduceMul, Nat.reduceLeDiff, Nat.reduceEqDiff, reduceCtorEq, Nat.reduceSub, Int.reduceNeg, Nat.reduceMod, Nat.reduceBEq, Nat.reduceLT]
      repeat' (first | with_reducible apply And.intro | with_reducible intro _ | ((first | apply brB_split | apply aPickB_split | apply gB_split | apply adB_split) <;> intro hb <;> simp -implicitDefEqProofs only [hb, go_sem, hh, Nat.reduceAdd, Nat.reduceMul, Nat.reduceLeDiff, Nat.reduceEqDiff, reduceCtorEq, Nat.reduceSub, Int.reduceNeg, Nat.reduceMod, Nat.reduceBEq, Nat.reduceLT] <;> try simp only [qz] at hb))
      all_goals (try simp only [maxLen] at *)
      all_goals first | with_reducible assumption | rfl | omega | contradiction | decide | (simp; done) | trace_state
    · have b1 := bOf_n q1
      have b2 := bOf_n (q.resolve_left q1)
      simp -implicitDefEqProofs only [Tryz.f135, b1, b2, Int.toNat_natCast, go_sem, hh, Nat.reduceAdd, Nat.reduceMul, Nat.reduceLeDiff, Nat.reduceEqDiff, reduceCtorEq, Nat.reduceSub, Int.reduceNeg, Nat.reduceMod, Nat.reduceBEq, Nat.reduceLT]
      repeat' (first | with_reducible apply And.intro | with_reducible intro _ | ((first | apply brB_split | apply aPickB_split | apply gB_split | apply adB_split) <;> intro hb <;> simp -implicitDefEqProofs only [hb, go_sem, hh, Nat.reduceAdd, Nat.reduceMul, Nat.reduceLeDiff, Nat.reduceEqDiff, reduceCtorEq, Nat.reduceSub, Int.reduceNeg, Nat.reduceMod, Nat.reduceBEq, Nat.reduceLT] <;> try simp only [qz] at hb))
      all_goals (try simp only [maxLen] at *)
      all_goals first | with_reducible assumption | rfl | omega | contradiction | decide | (simp; done) | trace_state
  · rw [give_b q]
    have q1 : ¬ AdNull (h.spool.items.getD ni default).frm := fun z => q (.inl z)
    have q2 : Room (dnSp h.spool ni nk) := Classical.byContradiction fun z => q (.inr z)
    have b1 := bOf_n q1
    have b2 := bOf_y q2
    simp -implicitDefEqProofs only [Tryz.f135, b1, b2, Int.toNat_natCast, go_sem, hh, Nat.reduceAdd, Nat.reduceMul, Nat.reduceLeDiff, Nat.reduceEqDiff, reduceCtorEq, Nat.reduceSub, Int.reduceNeg, Nat.reduceMod, Nat.reduceBEq, Nat.reduceLT]
    repeat' (first | with_reducible apply And.intro | with_reducible intro _ | ((first | apply brB_split | apply aPickB_split | apply gB_split | apply adB_split) <;> intro hb <;> simp -implicitDefEqProofs only [hb, go_sem, hh, Nat.reduceAdd, Nat.reduceMul, Nat.reduceLeDiff, Nat.reduceEqDiff, reduceCtorEq, Nat.reduceSub, Int.reduceNeg, Nat.reduceMod, Nat.reduceBEq, Nat.reduceLT] <;> try simp only [qz] at hb))
    all_goals (try simp only [maxLen] at *)
    all_goals first | with_reducible assumption | rfl | omega | contradiction | decide | trace_state
end
def c68 : Ct := ctR (lc EHs.ag (lc AInt (lc EAd.ag (lc AInt (lc AInt l0))))) (fun p => OkHs p.1 ∧ SpOk p.1.spool ∧ ¬ atIm p.1.spool p.2.1 < 0 ∧ ¬ atRc (theIm p.1.spool p.2.1) p.2.2.1 < 0 ∧ (0 ≤ p.2.2.2.2.1 ∧ p.2.2.2.2.1 ≤ 9999)) (fun p => .agg ((encHs (outHs p.1 (atIm p.1.spool p.2.1).toNat (atRc (theIm p.1.spool p.2.1) p.2.2.1).toNat p.2.2.1 p.2.2.2.1 p.2.2.2.2.1)).map .t))
section
attribute [local go_sem] c66 c67 c133 c134 c135 tmap dmap List.take_length List.drop_zero List.length_take List.length_drop List.length_map List.length_append List.length_cons List.length_nil List.map_append List.map_nil List.map_cons List.nil_append Nat.zero_add List.mem_singleton forall_eq Bool.not_true Bool.not_false roSB AS.opn AS.cls AS.nilb AS.renb AS.up List.set_set List.set_cons_zero List.set_cons_succ List.set_nil
set_option maxHeartbeats 3200000 in
theorem good68 {G : Gt} (hG : OkG G) (hh : G.e 66 = roEnt 0 c66 ∧ G.e 67 = roEnt 0 c67 ∧ G.e 133 = roEnt 1 c133 ∧ G.e 134 = roEnt 1 c134 ∧ G.e 135 = roEnt 1 c135) : Gd G 68 (roEnt 1 c68) := by
  refine gR (dp := fun n => Nat.ble 100000 n) (fn := Tryz.f68) (n := 5) (fun _ => rfl) (by kernel_rfl) rfl (by kernel_rfl) hG (Nat.le_of_ble_eq_true rfl) (by kernel_rfl) (by decide) (fun h => by cases h) ?_
  rintro ⟨h, n, a, out, w, ⟨⟩⟩ hpre
  obtain ⟨hok, hsp, hi, hk, hw⟩ := hpre
  dsimp only at hok hsp hi hk hw ⊢
  have hi' : ¬ (ixP (fun x : Im => x.id = n) 0 h.spool.items) < 0 := hi
  obtain ⟨i0, i1⟩ := atIm_lt hi
  have i0' : 0 ≤ (ixP (fun x : Im => x.id = n) 0 h.spool.items) := i0
  have i1' : (ixP (fun x : Im => x.id = n) 0 h.spool.items) < h.spool.items.length := i1
  have hk' : ¬ (ixP (fun r : Rc => r.addr = a) 0 (h.spool.items.getD (ixP (fun x : Im => x.id = n) 0 h.spool.items).toNat default).to) < 0 := hk
  obtain ⟨k0, k1⟩ := atRc_lt hk
  have k0' : 0 ≤ (ixP (fun r : Rc => r.addr = a) 0 (h.spool.items.getD (ixP (fun x : Im => x.id = n) 0 h.spool.items).toNat default).to) := k0
  have k1' : (ixP (fun r : Rc => r.addr = a) 0 (h.spool.items.getD (ixP (fun x : Im => x.id = n) 0 h.spool.items).toNat default).to) < (h.spool.items.getD (ixP (fun x : Im => x.id = n) 0 h.spool.items).toNat default).to.length := k1
  have hadr : ((h.spool.items.getD (ixP (fun x : Im => x.id = n) 0 h.spool.items).toNat default).to.getD (ixP (fun r : Rc => r.addr = a) 0 (h.spool.items.getD (ixP (fun x : Im => x.id = n) 0 h.spool.items).toNat default).to).toNat default).addr = a := atRc_addr hk
  have hos := hok.2.1
  obtain ⟨R, hR⟩ : ∃ x, x = outHs h (atIm h.spool n).toNat (atRc (theIm h.spool n) a).toNat a out w := ⟨_, rfl⟩
  rw [← hR]
  by_cases o2 : out = 2
  · have hR2 : R = ⟨h.conf, dnSp h.spool (ixP (fun x : Im => x.id = n) 0 h.spool.items).toNat (ixP (fun r : Rc => r.addr = a) 0 (h.spool.items.getD (ixP (fun x : Im => x.id = n) 0 h.spool.items).toNat default).to).toNat, h.boxes, h.lost⟩ := by rw [hR]; unfold outHs; rw [if_pos o2]; rfl
    rw [hR2]
    have d2 := decide_eq_true o2
    simp -implicitDefEqProofs only [Tryz.f68, d2, go_sem, hh, Nat.reduceAdd, Nat.reduceMul, Nat.reduceLeDiff, Nat.reduceEqDiff, reduceCtorEq, Nat.reduceSub, Int.reduceNeg, Nat.reduceMod, Nat.reduceBEq, Nat.reduceLT]
    repeat' (first | with_reducible apply And.intro | with_reducible intro _ | ((first | apply brB_split | apply aPickB_split | apply gB_split | apply adB_split) <;> intro hb <;> simp -implicitDefEqProofs only [hb, go_sem, hh, Nat.reduceAdd, Nat.reduceMul, Nat.reduceLeDiff, Nat.reduceEqDiff, reduceCtorEq, Nat.reduceSub, Int.reduceNeg, Nat.reduceMod, Nat.reduceBEq, Nat.reduceLT] <;> try simp only [qz] at hb))
    all_goals first | with_reducible assumption | rfl | omega | contradiction | decide | trace_state
  · have d2 := decide_eq_false o2
    by_cases o3 : out = 3
    · have d3 := decide_eq_true o3
      by_cases hl : ltNo ((h.spool.items.getD (ixP (fun x : Im => x.id = n) 0 h.spool.items).toNat default).to.getD (ixP (fun r : Rc => r.addr = a) 0 (h.spool.items.getD (ixP (fun x : Im => x.id = n) 0 h.spool.items).toNat default).to).toNat default) w
      · have hR2 : R = giveHs h (h.spool.items.getD (ixP (fun x : Im => x.id = n) 0 h.spool.items).toNat default) ((h.spool.items.getD (ixP (fun x : Im => x.id = n) 0 h.spool.items).toNat default).to.getD (ixP (fun r : Rc => r.addr = a) 0 (h.spool.items.getD (ixP (fun x : Im => x.id = n) 0 h.spool.items).toNat default).to).toNat default).addr (ixP (fun x : Im => x.id = n) 0 h.spool.items).toNat (ixP (fun r : Rc => r.addr = a) 0 (h.spool.items.getD (ixP (fun x : Im => x.id = n) 0 h.spool.items).toNat default).to).toNat w := by
          rw [hR, hadr]; unfold outHs
          rw [if_neg o2, if_neg (fun z => z.2 hl)]; rfl
        have hS : SLat h.spool (ixP (fun x : Im => x.id = n) 0 h.spool.items).toNat (ixP (fun r : Rc => r.addr = a) 0 (h.spool.items.getD (ixP (fun x : Im => x.id = n) 0 h.spool.items).toNat default).to).toNat w = (h.spool, false) := by unfold SLat; rw [if_pos hl]
        rw [hR2]
        simp -implicitDefEqProofs only [Tryz.f68, d2, d3, hS, go_sem, hh, Nat.reduceAdd, Nat.reduceMul, Nat.reduceLeDiff, Nat.reduceEqDiff, reduceCtorEq, Nat.reduceSub, Int.reduceNeg, Nat.reduceMod, Nat.reduceBEq, Nat.reduceLT]
        repeat' (first | with_reducible apply And.intro | with_reducible intro _ | ((first | apply brB_split | apply aPickB_split | apply gB_split | apply adB_split) <;> intro hb <;> simp -implicitDefEqProofs only [hb, go_sem, hh, Nat.reduceAdd, Nat.reduceMul, Nat.reduceLeDiff, Nat.reduceEqDiff, reduceCtorEq, Nat.reduceSub, Int.reduceNeg, Nat.reduceMod, Nat.reduceBEq, Nat.reduceLT] <;> try simp only [qz] at hb))
        all_goals first | with_reducible assumption | rfl | omega | contradiction | decide | trace_state
      · have hR2 : R = ⟨h.conf, ltSp h.spool (ixP (fun x : Im => x.id = n) 0 h.spool.items).toNat (ixP (fun r : Rc => r.addr = a) 0 (h.spool.items.getD (ixP (fun x : Im => x.id = n) 0 h.spool.items).toNat default).to).toNat w, h.boxes, h.lost⟩ := by
          rw [hR]; unfold outHs
          rw [if_neg o2, if_pos ⟨o3, hl⟩]; rfl
        have hS : SLat h.spool (ixP (fun x : Im => x.id = n) 0 h.spool.items).toNat (ixP (fun r : Rc => r.addr = a) 0 (h.spool.items.getD (ixP (fun x : Im => x.id = n) 0 h.spool.items).toNat default).to).toNat w = (ltSp h.spool (ixP (fun x : Im => x.id = n) 0 h.spool.items).toNat (ixP (fun r : Rc => r.addr = a) 0 (h.spool.items.getD (ixP (fun x : Im => x.id = n) 0 h.spool.items).toNat default).to).toNat w, true) := by unfold SLat; rw [if_neg hl]
        rw [hR2]
        simp -implicitDefEqProofs only [Tryz.f68, d2, d3, hS, go_sem, hh, Nat.reduceAdd, Nat.reduceMul, Nat.reduceLeDiff, Nat.reduceEqDiff, reduceCtorEq, Nat.reduceSub, Int.reduceNeg, Nat.reduceMod, Nat.reduceBEq, Nat.reduceLT]
        repeat' (first | with_reducible apply And.intro | with_reducible intro _ | ((first | apply brB_split | apply aPickB_split | apply gB_split | apply adB_split) <;> intro hb <;> simp -implicitDefEqProofs only [hb, go_sem, hh, Nat.reduceAdd, Nat.reduceMul, Nat.reduceLeDiff, Nat.reduceEqDiff, reduceCtorEq, Nat.reduceSub, Int.reduceNeg, Nat.reduceMod, Nat.reduceBEq, Nat.reduceLT] <;> try simp only [qz] at hb))
        all_goals first | with_reducible assumption | rfl | omega | contradiction | decide | trace_state
    · have d3 := decide_eq_false o3
      have hR2 : R = giveHs h (h.spool.items.getD (ixP (fun x : Im => x.id = n) 0 h.spool.items).toNat default) ((h.spool.items.getD (ixP (fun x : Im => x.id = n) 0 h.spool.items).toNat default).to.getD (ixP (fun r : Rc => r.addr = a) 0 (h.spool.items.getD (ixP (fun x : Im => x.id = n) 0 h.spool.items).toNat default).to).toNat default).addr (ixP (fun x : Im => x.id = n) 0 h.spool.items).toNat (ixP (fun r : Rc => r.addr = a) 0 (h.spool.items.getD (ixP (fun x : Im => x.id = n) 0 h.spool.items).toNat default).to).toNat w := by
        rw [hR, hadr]; unfold outHs
        rw [if_neg o2, if_neg (fun z => o3 z.1)]; rfl
      rw [hR2]
      simp -implicitDefEqProofs only [Tryz.f68, d2, d3, go_sem, hh, Nat.reduceAdd, Nat.reduceMul, Nat.reduceLeDiff, Nat.reduceEqDiff, reduceCtorEq, Nat.reduceSub, Int.reduceNeg, Nat.reduceMod, Nat.reduceBEq, Nat.reduceLT]
      repeat' (first | with_reducible apply And.intro | with_reducible intro _ | ((first | apply brB_split | apply aPickB_split | apply gB_split | apply adB_split) <;> intro hb <;> simp -implicitDefEqProofs only [hb, go_sem, hh, Nat.reduceAdd, Nat.reduceMul, Nat.reduceLeDiff, Nat.reduceEqDiff, reduceCtorEq, Nat.reduceSub, Int.reduceNeg, Nat.reduceMod, Nat.reduceBEq, Nat.reduceLT] <;> try simp only [qz] at hb))
      all_goals first | with_reducible assumption | rfl | omega | contradiction | decide | trace_state
end
def c18 : Ct := ctR (lc EHs.ag (lc AInt (lc EAd.ag (lc AInt (lc AInt l0))))) (fun p => OkHs p.1) (fun p => roHB (HOut p.1 p.2.1 p.2.2.1 p.2.2.2.1 p.2.2.2.2.1))
section
attribute [local go_sem] c29 c30 c66 c67 c32 c68 tmap dmap List.take_length List.drop_zero List.length_take List.length_drop List.length_map List.length_append List.length_cons List.length_nil List.map_append List.map_nil List.map_cons List.nil_append Nat.zero_add List.mem_singleton forall_eq Bool.not_true Bool.not_false roHB noHs bOf_t bOf_f AS.opn AS.cls AS.nilb AS.renb AS.up List.set_set List.set_cons_zero List.set_cons_succ List.set_nil
set_option maxHeartbeats 3200000 in
theorem good18 {G : Gt} (hG : OkG G) (hh : G.e 29 = roEnt 0 c29 ∧ G.e 30 = roEnt 0 c30 ∧ G.e 66 = roEnt 0 c66 ∧ G.e 67 = roEnt 0 c67 ∧ G.e 32 = roEnt 0 c32 ∧ G.e 68 = roEnt 1 c68) : Gd G 18 (roEnt 1 c18) := by
  refine gR (dp := fun n => Nat.ble 100000 n) (fn := Tryz.f18) (n := 5) (fun _ => rfl) (by kernel_rfl) rfl (by kernel_rfl) hG (Nat.le_of_ble_eq_true rfl) (by kernel_rfl) (by decide) (fun h => by cases h) ?_
  rintro ⟨h, n, a, out, w, ⟨⟩⟩ hpre
  have hok : OkHs h := hpre
  dsimp only
  by_cases q : HsOk h
  · have b1 := bOf_y q
    have hsp := q.2.2
    by_cases z : OutOk h n a out w
    · rw [HOut_y q z]
      obtain ⟨hi, hk, zo, zw⟩ := z
      have hi' : ¬ (ixP (fun x : Im => x.id = n) 0 h.spool.items) < 0 := hi
      obtain ⟨i0, i1⟩ := atIm_lt hi
      have i0' : 0 ≤ (ixP (fun x : Im => x.id = n) 0 h.spool.items) := i0
      have i1' : (ixP (fun x : Im => x.id = n) 0 h.spool.items) < h.spool.items.length := i1
      have hk' : ¬ (ixP (fun r : Rc => r.addr = a) 0 (h.spool.items.getD (ixP (fun x : Im => x.id = n) 0 h.spool.items).toNat default).to) < 0 := hk
      obtain ⟨k0, k1⟩ := atRc_lt hk
      have k0' : 0 ≤ (ixP (fun r : Rc => r.addr = a) 0 (h.spool.items.getD (ixP (fun x : Im => x.id = n) 0 h.spool.items).toNat default).to) := k0
      have k1' : (ixP (fun r : Rc => r.addr = a) 0 (h.spool.items.getD (ixP (fun x : Im => x.id = n) 0 h.spool.items).toNat default).to) < (h.spool.items.getD (ixP (fun x : Im => x.id = n) 0 h.spool.items).toNat default).to.length := k1
      have hadr : ((h.spool.items.getD (ixP (fun x : Im => x.id = n) 0 h.spool.items).toNat default).to.getD (ixP (fun r : Rc => r.addr = a) 0 (h.spool.items.getD (ixP (fun x : Im => x.id = n) 0 h.spool.items).toNat default).to).toNat default).addr = a := atRc_addr hk
      have b2 := bOf_y zo
      have b3 := bOf_y zw
      simp -implicitDefEqProofs only [Tryz.f18, b1, b2, b3, hi', hk', decide_false, go_sem, hh, Nat.reduceAdd, Nat.reduceMul, Nat.reduceLeDiff, Nat.reduceEqDiff, reduceCtorEq, Nat.reduceSub, Int.reduceNeg, Nat.reduceMod, Nat.reduceBEq, Nat.reduceLT]
      repeat' (first | with_reducible apply And.intro | with_reducible intro _ | ((first | apply brB_split | apply aPickB_split | apply gB_split | apply adB_split) <;> intro hb <;> simp -implicitDefEqProofs only [hb, go_sem, hh, Nat.reduceAdd, Nat.reduceMul, Nat.reduceLeDiff, Nat.reduceEqDiff, reduceCtorEq, Nat.reduceSub, Int.reduceNeg, Nat.reduceMod, Nat.reduceBEq, Nat.reduceLT] <;> try simp only [qz] at hb))
      all_goals first | with_reducible assumption | rfl | omega | contradiction | decide | trace_state
    · rw [HOut_n q z]
      by_cases hi : atIm h.spool n < 0
      · have hi' : (ixP (fun x : Im => x.id = n) 0 h.spool.items) < 0 := hi
        simp -implicitDefEqProofs only [Tryz.f18, b1, hi', decide_true, go_sem, hh, Nat.reduceAdd, Nat.reduceMul, Nat.reduceLeDiff, Nat.reduceEqDiff, reduceCtorEq, Nat.reduceSub, Int.reduceNeg, Nat.reduceMod, Nat.reduceBEq, Nat.reduceLT]
        repeat' (first | with_reducible apply And.intro | with_reducible intro _ | ((first | apply brB_split | apply aPickB_split | apply gB_split | apply adB_split) <;> intro hb <;> simp -implicitDefEqProofs only [hb, go_sem, hh, Nat.reduceAdd, Nat.reduceMul, Nat.reduceLeDiff, Nat.reduceEqDiff, reduceCtorEq, Nat.reduceSub, Int.reduceNeg, Nat.reduceMod, Nat.reduceBEq, Nat.reduceLT] <;> try simp only [qz] at hb))
        all_goals first | with_reducible assumption | rfl | omega | contradiction | decide | trace_state
      · have hi' : ¬ (ixP (fun x : Im => x.id = n) 0 h.spool.items) < 0 := hi
        obtain ⟨i0, i1⟩ := atIm_lt hi
        have i0' : 0 ≤ (ixP (fun x : Im => x.id = n) 0 h.spool.items) := i0
        have i1' : (ixP (fun x : Im => x.id = n) 0 h.spool.items) < h.spool.items.length := i1
        by_cases hk : atRc (theIm h.spool n) a < 0
        · have hk' : (ixP (fun r : Rc => r.addr = a) 0 (h.spool.items.getD (ixP (fun x : Im => x.id = n) 0 h.spool.items).toNat default).to) < 0 := hk
          simp -implicitDefEqProofs only [Tryz.f18, b1, hi', hk', decide_true, decide_false, go_sem, hh, Nat.reduceAdd, Nat.reduceMul, Nat.reduceLeDiff, Nat.reduceEqDiff, reduceCtorEq, Nat.reduceSub, Int.reduceNeg, Nat.reduceMod, Nat.reduceBEq, Nat.reduceLT]
          repeat' (first | with_reducible apply And.intro | with_reducible intro _ | ((first | apply brB_split | apply aPickB_split | apply gB_split | apply adB_split) <;> intro hb <;> simp -implicitDefEqProofs only [hb, go_sem, hh, Nat.reduceAdd, Nat.reduceMul, Nat.reduceLeDiff, Nat.reduceEqDiff, reduceCtorEq, Nat.reduceSub, Int.reduceNeg, Nat.reduceMod, Nat.reduceBEq, Nat.reduceLT] <;> try simp only [qz] at hb))
          all_goals first | with_reducible assumption | rfl | omega | contradiction | decide | trace_state
        · have hk' : ¬ (ixP (fun r : Rc => r.addr = a) 0 (h.spool.items.getD (ixP (fun x : Im => x.id = n) 0 h.spool.items).toNat default).to) < 0 := hk
          by_cases zo : 2 ≤ out ∧ out ≤ 4
          · have b2 := bOf_y zo
            have b3 := bOf_n (fun zw => z ⟨hi, hk, zo, zw⟩)
            simp -implicitDefEqProofs only [Tryz.f18, b1, b2, b3, hi', hk', decide_false, go_sem, hh, Nat.reduceAdd, Nat.reduceMul, Nat.reduceLeDiff, Nat.reduceEqDiff, reduceCtorEq, Nat.reduceSub, Int.reduceNeg, Nat.reduceMod, Nat.reduceBEq, Nat.reduceLT]
            repeat' (first | with_reducible apply And.intro | with_reducible intro _ | ((first | apply brB_split | apply aPickB_split | apply gB_split | apply adB_split) <;> intro hb <;> simp -implicitDefEqProofs only [hb, go_sem, hh, Nat.reduceAdd, Nat.reduceMul, Nat.reduceLeDiff, Nat.reduceEqDiff, reduceCtorEq, Nat.reduceSub, Int.reduceNeg, Nat.reduceMod, Nat.reduceBEq, Nat.reduceLT] <;> try simp only [qz] at hb))
            all_goals first | with_reducible assumption | rfl | omega | contradiction | decide | trace_state
          · have b2 := bOf_n zo
            simp -implicitDefEqProofs only [Tryz.f18, b1, b2, hi', hk', decide_false, go_sem, hh, Nat.reduceAdd, Nat.reduceMul, Nat.reduceLeDiff, Nat.reduceEqDiff, reduceCtorEq, Nat.reduceSub, Int.reduceNeg, Nat.reduceMod, Nat.reduceBEq, Nat.reduceLT]
            repeat' (first | with_reducible apply And.intro | with_reducible intro _ | ((first | apply brB_split | apply aPickB_split | apply gB_split | apply adB_split) <;> intro hb <;> simp -implicitDefEqProofs only [hb, go_sem, hh, Nat.reduceAdd, Nat.reduceMul, Nat.reduceLeDiff, Nat.reduceEqDiff, reduceCtorEq, Nat.reduceSub, Int.reduceNeg, Nat.reduceMod, Nat.reduceBEq, Nat.reduceLT] <;> try simp only [qz] at hb))
            all_goals first | with_reducible assumption | rfl | omega | contradiction | decide | trace_state
  · have b1 := bOf_n q
    rw [HOut_no q]
    simp -implicitDefEqProofs only [Tryz.f18, b1, go_sem, hh, Nat.reduceAdd, Nat.reduceMul, Nat.reduceLeDiff, Nat.reduceEqDiff, reduceCtorEq, Nat.reduceSub, Int.reduceNeg, Nat.reduceMod, Nat.reduceBEq, Nat.reduceLT]
    repeat' (first | with_reducible apply And.intro | with_reducible intro _ | ((first | apply brB_split | apply aPickB_split | apply gB_split | apply adB_split) <;> intro hb <;> simp -implicitDefEqProofs only [hb, go_sem, hh, Nat.reduceAdd, Nat.reduceMul, Nat.reduceLeDiff, Nat.reduceEqDiff, reduceCtorEq, Nat.reduceSub, Int.reduceNeg, Nat.reduceMod, Nat.reduceBEq, Nat.reduceLT] <;> try simp only [qz] at hb))
    all_goals first | with_reducible assumption | rfl | omega | contradiction | decide | trace_state
end
def cellsA : AV → List AV
  | .agg cs => cs
  | _ => []
def obHsD : AV → Option Hs
  | .ob cs => owHsD (.agg cs)
  | _ => none
def AHsp : AD Hs where
  enc a := .ob (cellsA (owHs a))
  dec := obHsD
  ed := fun a => AHs.ed a
  de := fun x a h => by
    unfold obHsD at h
    split at h
    · rename_i cs
      have h1 : AV.agg cs = owHs a := AHs.de _ _ h
      show AV.ob cs = .ob (cellsA (owHs a))
      rw [← h1]; rfl
    · cases h
theorem AHsp_enc (a : Hs) : AHsp.enc a = .ob [.t (.v (.string a.conf.name)), .o true 1 (a.conf.own.map encStr), .o true 2 (a.conf.ways.map encWy), .t (.v (.int .i64 a.spool.last)), .o true 5 (a.spool.items.map encIm), .o true 3 (a.boxes.map encBx), .o true 3 (a.lost.map encLs)] := rfl
theorem AHsp_dec {x0 : ByteArray} {x1 : List (List T)} {x2 : List (List T)} {x3 : Int} {x4 : List (List T)} {x5 : List (List T)} {x6 : List (List T)} : AHsp.dec (.ob [.t (.v (.string x0)), .o true 1 x1, .o true 2 x2, .t (.v (.int .i64 x3)), .o true 5 x4, .o true 3 x5, .o true 3 x6]) = mkHs x0 x3 (EStr.decL x1) (EWy.decL x2) (EIm.decL x4) (EBx.decL x5) (ELs.decL x6) := rfl
def c74 : Mt := ctM (lc AHsp (lc EIm.ag (lc EAd.ag (lc AInt l0)))) (fun p => OkHs p.1 ∧ SpOk p.1.spool ∧ OkIm p.2.1 ∧ OkAd p.2.2.1 ∧ AdOk p.2.2.1 ∧ ¬ atIm p.1.spool p.2.1.id < 0 ∧ theIm p.1.spool p.2.1.id = p.2.1 ∧ ¬ atRc p.2.1 p.2.2.1 < 0 ∧ (0 ≤ p.2.2.2.1 ∧ p.2.2.2.1 ≤ 9999)) (fun p => ([AHsp.enc (giveHs p.1 p.2.1 p.2.2.1 (atIm p.1.spool p.2.1.id).toNat (atRc p.2.1 p.2.2.1).toNat p.2.2.2.1), EIm.ag.enc p.2.1, EAd.ag.enc p.2.2.1, .t (.v (.int .i64 p.2.2.2.1))], .tup []))
section
attribute [local go_sem] c72 c143 c48 c144 AHsp_enc AHsp_dec owMB'.eq_1 owSB outP_ob outI_ob outZ_ob takeV_pb takeV_pb8 boxOf_b takeB_s outPb_s outIb_s outZb_s rv1_nil List.length_map List.length_append List.length_cons List.length_nil List.map_append List.map_nil Nat.zero_add List.nil_append AS.opn AS.cls AS.nilb AS.renb AS.up Bool.not_false Bool.not_true List.set_set List.set_cons_zero List.set_cons_succ List.set_nil List.mem_singleton forall_eq
set_option maxHeartbeats 3200000 in
theorem good74 {G : Gt} (hG : OkG G) (hh : G.e 72 = roEnt 0 c72 ∧ G.e 143 = roEnt 0 c143 ∧ G.e 48 = roEnt 0 c48 ∧ G.e 144 = roEnt 0 c144) : Gd G 74 (muEnt c74) := by
  refine gM (dp := fun _ => true) (fn := Tryz.f74) (n := 4) (fun _ => rfl) (by kernel_rfl) rfl (by kernel_rfl) hG (Nat.le_of_ble_eq_true rfl) (by kernel_rfl) ?_
  rintro ⟨h, x, a, w, ⟨⟩⟩ hpre
  obtain ⟨hok, hsp, hox, hoa, ha, hi, hth, hk, hw⟩ := hpre
  dsimp only at hok hsp hox hoa ha hi hth hk hw ⊢
  have hi1 := atIm_lt hi
  have hk1 := atRc_lt hk
  have hk2 : ¬ atRc (theIm h.spool x.id) a < 0 := by rw [hth]; exact hk
  have hx : ImOk x := by
    have := (hsp.1 (theIm h.spool x.id) (getD_mem (by omega))).1
    rwa [hth] at this
  obtain ⟨i, hin⟩ : ∃ i, i = (atIm h.spool x.id).toNat := ⟨_, rfl⟩
  obtain ⟨k, hkn⟩ : ∃ k, k = (atRc x a).toNat := ⟨_, rfl⟩
  rw [← hin, ← hkn]
  have hD : SDone h.spool x.id a = (dnSp h.spool i k, true) := by rw [SDone_y hsp hi hk2, hth, ← hin, ← hkn]
  have hil : i < h.spool.items.length := by omega
  have hxi : h.spool.items.getD i default = x := by rw [hin]; exact hth
  have hkl : k < (h.spool.items.getD i default).to.length := by rw [hxi]; omega
  have hsd := dnSp_SpOk hsp hil hkl
  have hos := hok.2.1
  have hod := dnSp_ok (k := k) hos hil
  have hll := hok.2.2.2.1
  have hob := bounce_OkMl hox ha
  have hbd : ∀ s ∈ x.body, s.size ≤ 2000000 := fun s hs => by have : s.size ≤ 1048576 := hox.2.2.2 s hs; omega
  by_cases q1 : AdNull x.frm
  · rw [give_l (.inl q1)]
    have hB := BncOf_n (x := x) (a := a) (fun z => z.1 q1)
    simp -implicitDefEqProofs only [Tryz.f74, hD, hB, go_sem, hh, Nat.reduceAdd, Nat.reduceMul, Nat.reduceLeDiff, Nat.reduceEqDiff, reduceCtorEq, Nat.reduceSub, Int.reduceNeg, Nat.reduceMod, Nat.reduceBEq, Nat.reduceLT]
    repeat' (first | with_reducible apply And.intro | with_reducible intro _ | ((first | apply brB_split | apply aPickB_split | apply gB_split | apply adB_split) <;> intro hb <;> simp -implicitDefEqProofs only [hb, go_sem, hh, Nat.reduceAdd, Nat.reduceMul, Nat.reduceLeDiff, Nat.reduceEqDiff, reduceCtorEq, Nat.reduceSub, Int.reduceNeg, Nat.reduceMod, Nat.reduceBEq, Nat.reduceLT] <;> try simp only [qz] at hb))
    all_goals (try simp only [maxLen] at *)
    all_goals first | with_reducible assumption | rfl | omega | contradiction | decide | exact hbd _ (by assumption) | (simp; done) | trace_state
  · have hB := BncOf_y (x := x) (a := a) ⟨q1, ha, hx⟩
    by_cases q2 : Room (dnSp h.spool i k)
    · rw [give_b (fun z => z.elim q1 fun z => z q2)]
      have hA : SAdd (dnSp h.spool i k) (bounceMl x a) w = (adSp (dnSp h.spool i k) (bounceMl x a) w, true) := SAdd_y hsd ⟨bounce_ok hx ha q1, hw, q2⟩
      simp -implicitDefEqProofs only [Tryz.f74, hD, hB, hA, go_sem, hh, Nat.reduceAdd, Nat.reduceMul, Nat.reduceLeDiff, Nat.reduceEqDiff, reduceCtorEq, Nat.reduceSub, Int.reduceNeg, Nat.reduceMod, Nat.reduceBEq, Nat.reduceLT]
      repeat' (first | with_reducible apply And.intro | with_reducible intro _ | ((first | apply brB_split | apply aPickB_split | apply gB_split | apply adB_split) <;> intro hb <;> simp -implicitDefEqProofs only [hb, go_sem, hh, Nat.reduceAdd, Nat.reduceMul, Nat.reduceLeDiff, Nat.reduceEqDiff, reduceCtorEq, Nat.reduceSub, Int.reduceNeg, Nat.reduceMod, Nat.reduceBEq, Nat.reduceLT] <;> try simp only [qz] at hb))
      all_goals (try simp only [maxLen] at *)
      all_goals first | with_reducible assumption | rfl | omega | contradiction | decide | exact hbd _ (by assumption) | (simp; done) | trace_state
    · rw [give_l (.inr q2)]
      have hA : SAdd (dnSp h.spool i k) (bounceMl x a) w = (dnSp h.spool i k, false) := SAdd_n hsd (fun z => q2 z.2.2)
      simp -implicitDefEqProofs only [Tryz.f74, hD, hB, hA, go_sem, hh, Nat.reduceAdd, Nat.reduceMul, Nat.reduceLeDiff, Nat.reduceEqDiff, reduceCtorEq, Nat.reduceSub, Int.reduceNeg, Nat.reduceMod, Nat.reduceBEq, Nat.reduceLT]
      repeat' (first | with_reducible apply And.intro | with_reducible intro _ | ((first | apply brB_split | apply aPickB_split | apply gB_split | apply adB_split) <;> intro hb <;> simp -implicitDefEqProofs only [hb, go_sem, hh, Nat.reduceAdd, Nat.reduceMul, Nat.reduceLeDiff, Nat.reduceEqDiff, reduceCtorEq, Nat.reduceSub, Int.reduceNeg, Nat.reduceMod, Nat.reduceBEq, Nat.reduceLT] <;> try simp only [qz] at hb))
      all_goals (try simp only [maxLen] at *)
      all_goals first | with_reducible assumption | rfl | omega | contradiction | decide | exact hbd _ (by assumption) | (simp; done) | trace_state
end
def c20 : Ct := ctR (lc EHs.ag (lc AInt (lc EAd.ag (lc AInt (lc AInt l0))))) (fun p => OkHs p.1 ∧ OkAd p.2.2.1) (fun p => owHB (HOut p.1 p.2.1 p.2.2.1 p.2.2.2.1 p.2.2.2.2.1))
section
attribute [local go_sem] c41 c42 c69 c70 c71 c72 c73 c74 AHsp_enc AHsp_dec owSB owHB noHs bOf_t bOf_f outP_ob outI_ob outZ_ob takeV_pb takeV_pb8 boxOf_b takeB_s outPb_s outIb_s outZb_s rv1_nil List.length_map List.length_append List.length_cons List.length_nil List.map_append List.map_nil Nat.zero_add List.nil_append AS.opn AS.cls AS.nilb AS.renb AS.up Bool.not_false Bool.not_true List.set_set List.set_cons_zero List.set_cons_succ List.set_nil List.mem_singleton forall_eq
set_option maxHeartbeats 6400000 in
theorem good20 {G : Gt} (hG : OkG G) (hh : G.e 41 = roEnt 0 c41 ∧ G.e 42 = roEnt 0 c42 ∧ G.e 69 = roEnt 0 c69 ∧ G.e 70 = roEnt 0 c70 ∧ G.e 71 = roEnt 0 c71 ∧ G.e 72 = roEnt 0 c72 ∧ G.e 73 = roEnt 0 c73 ∧ G.e 74 = muEnt c74) : Gd G 20 (roEnt 0 c20) := by
  refine gR (dp := fun _ => true) (fn := Tryz.f20) (n := 5) (fun _ => rfl) (by kernel_rfl) rfl (by kernel_rfl) hG (Nat.le_of_ble_eq_true rfl) (by kernel_rfl) (by decide) (fun _ p => owHB_solid _) ?_
  rintro ⟨h, n, a, out, w, ⟨⟩⟩ hpre
  obtain ⟨hok, hoa⟩ := hpre
  dsimp only at hok hoa ⊢
  by_cases q : HsOk h
  · have b1 := bOf_y q
    have hsp := q.2.2
    have hos := hok.2.1
    by_cases hi : atIm h.spool n < 0
    · have hF := findR_n (a := a) hi
      rw [HOut_n q (fun z => z.1 hi)]
      simp -implicitDefEqProofs only [Tryz.f20, b1, hF, go_sem, hh, Nat.reduceAdd, Nat.reduceMul, Nat.reduceLeDiff, Nat.reduceEqDiff, reduceCtorEq, Nat.reduceSub, Int.reduceNeg, Nat.reduceMod, Nat.reduceBEq, Nat.reduceLT]
      repeat' (first | with_reducible apply And.intro | with_reducible intro _ | ((first | apply brB_split | apply aPickB_split | apply gB_split | apply adB_split) <;> intro hb <;> simp -implicitDefEqProofs only [hb, go_sem, hh, Nat.reduceAdd, Nat.reduceMul, Nat.reduceLeDiff, Nat.reduceEqDiff, reduceCtorEq, Nat.reduceSub, Int.reduceNeg, Nat.reduceMod, Nat.reduceBEq, Nat.reduceLT] <;> try simp only [qz] at hb))
      all_goals first | with_reducible assumption | rfl | omega | contradiction | decide | trace_state
    · have hF := findR_y (a := a) hi
      obtain ⟨i0, i1⟩ := atIm_lt hi
      by_cases hk : atRc (theIm h.spool n) a < 0
      · have hk' : ¬ atRc (theIm h.spool n) a ≥ 0 := by omega
        rw [HOut_n q (fun z => z.2.1 hk)]
        simp -implicitDefEqProofs only [Tryz.f20, b1, hF, hk', decide_false, go_sem, hh, Nat.reduceAdd, Nat.reduceMul, Nat.reduceLeDiff, Nat.reduceEqDiff, reduceCtorEq, Nat.reduceSub, Int.reduceNeg, Nat.reduceMod, Nat.reduceBEq, Nat.reduceLT]
        repeat' (first | with_reducible apply And.intro | with_reducible intro _ | ((first | apply brB_split | apply aPickB_split | apply gB_split | apply adB_split) <;> intro hb <;> simp -implicitDefEqProofs only [hb, go_sem, hh, Nat.reduceAdd, Nat.reduceMul, Nat.reduceLeDiff, Nat.reduceEqDiff, reduceCtorEq, Nat.reduceSub, Int.reduceNeg, Nat.reduceMod, Nat.reduceBEq, Nat.reduceLT] <;> try simp only [qz] at hb))
        all_goals first | with_reducible assumption | rfl | omega | contradiction | decide | trace_state
      · have hk' : atRc (theIm h.spool n) a ≥ 0 := by omega
        have hk1 := atRc_lt hk
        by_cases zo : 2 ≤ out ∧ out ≤ 4
        · have b2 := bOf_y zo
          by_cases zw : 0 ≤ w ∧ w ≤ 9999
          · have b3 := bOf_y zw
            rw [HOut_y q ⟨hi, hk, zo, zw⟩]
            have hix : ((atIm h.spool n).toNat : Int) = atIm h.spool n := Int.toNat_of_nonneg i0
            have hit : h.spool.items.getD (atIm h.spool n).toNat default = theIm h.spool n := rfl
            have hmm : theIm h.spool n ∈ h.spool.items := getD_mem (by omega)
            have hid := atIm_id hi
            have hadr := atRc_addr hk
            have haok : AdOk a := by
              have := ((hsp.1 _ hmm).1.1 _ (getD_mem (xs := (theIm h.spool n).to) (j := (atRc (theIm h.spool n) a).toNat) (by omega))).1
              rwa [hadr] at this
            have hox := hos.2 _ hmm
            obtain ⟨R, hR⟩ : ∃ x, x = outHs h (atIm h.spool n).toNat (atRc (theIm h.spool n) a).toNat a out w := ⟨_, rfl⟩
            rw [← hR]
            have hpg : (¬ atIm h.spool (theIm h.spool n).id < 0) ∧ theIm h.spool (theIm h.spool n).id = theIm h.spool n := by rw [hid]; exact ⟨hi, rfl⟩
            by_cases o2 : out = 2
            · have d2 := decide_eq_true o2
              have hD := SDone_y hsp hi hk
              have hR2 : R = ⟨h.conf, dnSp h.spool (atIm h.spool n).toNat (atRc (theIm h.spool n) a).toNat, h.boxes, h.lost⟩ := by rw [hR]; unfold outHs; rw [if_pos o2]
              rw [hR2]
              simp -implicitDefEqProofs only [Tryz.f20, b1, b2, b3, hF, hk', d2, hD, decide_true, go_sem, hh, Nat.reduceAdd, Nat.reduceMul, Nat.reduceLeDiff, Nat.reduceEqDiff, reduceCtorEq, Nat.reduceSub, Int.reduceNeg, Nat.reduceMod, Nat.reduceBEq, Nat.reduceLT]
              repeat' (first | with_reducible apply And.intro | with_reducible intro _ | ((first | apply brB_split | apply aPickB_split | apply gB_split | apply adB_split) <;> intro hb <;> simp -implicitDefEqProofs only [hb, go_sem, hh, Nat.reduceAdd, Nat.reduceMul, Nat.reduceLeDiff, Nat.reduceEqDiff, reduceCtorEq, Nat.reduceSub, Int.reduceNeg, Nat.reduceMod, Nat.reduceBEq, Nat.reduceLT] <;> try simp only [qz] at hb))
              all_goals first | with_reducible assumption | rfl | omega | contradiction | decide | trace_state
            · have d2 := decide_eq_false o2
              by_cases o3 : out = 3
              · have d3 := decide_eq_true o3
                by_cases hl : ltNo ((h.spool.items.getD (atIm h.spool n).toNat default).to.getD (atRc (theIm h.spool n) a).toNat default) w
                · have hS : SLater h.spool n a w = (h.spool, false) := by
                    rw [SLater_y hsp hi zw hk]; unfold SLat; rw [if_pos hl]
                  have hR2 : R = giveHs h (theIm h.spool n) a (atIm h.spool (theIm h.spool n).id).toNat (atRc (theIm h.spool n) a).toNat w := by
                    rw [hR]; unfold outHs; rw [if_neg o2, if_neg (fun z => z.2 hl), hid]; rfl
                  rw [hR2]
                  simp -implicitDefEqProofs only [Tryz.f20, b1, b2, b3, hF, hk', d2, d3, hS, hit, decide_true, go_sem, hh, Nat.reduceAdd, Nat.reduceMul, Nat.reduceLeDiff, Nat.reduceEqDiff, reduceCtorEq, Nat.reduceSub, Int.reduceNeg, Nat.reduceMod, Nat.reduceBEq, Nat.reduceLT]
                  repeat' (first | with_reducible apply And.intro | with_reducible intro _ | ((first | apply brB_split | apply aPickB_split | apply gB_split | apply adB_split) <;> intro hb <;> simp -implicitDefEqProofs only [hb, go_sem, hh, Nat.reduceAdd, Nat.reduceMul, Nat.reduceLeDiff, Nat.reduceEqDiff, reduceCtorEq, Nat.reduceSub, Int.reduceNeg, Nat.reduceMod, Nat.reduceBEq, Nat.reduceLT] <;> try simp only [qz] at hb))
                  all_goals first | with_reducible assumption | rfl | omega | contradiction | decide | exact hpg.1 | exact hpg.2 | trace_state
                · have hS : SLater h.spool n a w = (ltSp h.spool (atIm h.spool n).toNat (atRc (theIm h.spool n) a).toNat w, true) := by
                    rw [SLater_y hsp hi zw hk]; unfold SLat; rw [if_neg hl]
                  have hR2 : R = ⟨h.conf, ltSp h.spool (atIm h.spool n).toNat (atRc (theIm h.spool n) a).toNat w, h.boxes, h.lost⟩ := by
                    rw [hR]; unfold outHs; rw [if_neg o2, if_pos ⟨o3, hl⟩]
                  rw [hR2]
                  simp -implicitDefEqProofs only [Tryz.f20, b1, b2, b3, hF, hk', d2, d3, hS, decide_true, go_sem, hh, Nat.reduceAdd, Nat.reduceMul, Nat.reduceLeDiff, Nat.reduceEqDiff, reduceCtorEq, Nat.reduceSub, Int.reduceNeg, Nat.reduceMod, Nat.reduceBEq, Nat.reduceLT]
                  repeat' (first | with_reducible apply And.intro | with_reducible intro _ | ((first | apply brB_split | apply aPickB_split | apply gB_split | apply adB_split) <;> intro hb <;> simp -implicitDefEqProofs only [hb, go_sem, hh, Nat.reduceAdd, Nat.reduceMul, Nat.reduceLeDiff, Nat.reduceEqDiff, reduceCtorEq, Nat.reduceSub, Int.reduceNeg, Nat.reduceMod, Nat.reduceBEq, Nat.reduceLT] <;> try simp only [qz] at hb))
                  all_goals first | with_reducible assumption | rfl | omega | contradiction | decide | trace_state
              · have d3 := decide_eq_false o3
                have hR2 : R = giveHs h (theIm h.spool n) a (atIm h.spool (theIm h.spool n).id).toNat (atRc (theIm h.spool n) a).toNat w := by
                  rw [hR]; unfold outHs; rw [if_neg o2, if_neg (fun z => o3 z.1), hid]; rfl
                rw [hR2]
                simp -implicitDefEqProofs only [Tryz.f20, b1, b2, b3, hF, hk', d2, d3, hit, decide_true, go_sem, hh, Nat.reduceAdd, Nat.reduceMul, Nat.reduceLeDiff, Nat.reduceEqDiff, reduceCtorEq, Nat.reduceSub, Int.reduceNeg, Nat.reduceMod, Nat.reduceBEq, Nat.reduceLT]
                repeat' (first | with_reducible apply And.intro | with_reducible intro _ | ((first | apply brB_split | apply aPickB_split | apply gB_split | apply adB_split) <;> intro hb <;> simp -implicitDefEqProofs only [hb, go_sem, hh, Nat.reduceAdd, Nat.reduceMul, Nat.reduceLeDiff, Nat.reduceEqDiff, reduceCtorEq, Nat.reduceSub, Int.reduceNeg, Nat.reduceMod, Nat.reduceBEq, Nat.reduceLT] <;> try simp only [qz] at hb))
                all_goals first | with_reducible assumption | rfl | omega | contradiction | decide | exact hpg.1 | exact hpg.2 | trace_state
          · have b3 := bOf_n zw
            rw [HOut_n q (fun z => zw z.2.2.2)]
            simp -implicitDefEqProofs only [Tryz.f20, b1, b2, b3, hF, hk', decide_true, go_sem, hh, Nat.reduceAdd, Nat.reduceMul, Nat.reduceLeDiff, Nat.reduceEqDiff, reduceCtorEq, Nat.reduceSub, Int.reduceNeg, Nat.reduceMod, Nat.reduceBEq, Nat.reduceLT]
            repeat' (first | with_reducible apply And.intro | with_reducible intro _ | ((first | apply brB_split | apply aPickB_split | apply gB_split | apply adB_split) <;> intro hb <;> simp -implicitDefEqProofs only [hb, go_sem, hh, Nat.reduceAdd, Nat.reduceMul, Nat.reduceLeDiff, Nat.reduceEqDiff, reduceCtorEq, Nat.reduceSub, Int.reduceNeg, Nat.reduceMod, Nat.reduceBEq, Nat.reduceLT] <;> try simp only [qz] at hb))
            all_goals first | with_reducible assumption | rfl | omega | contradiction | decide | trace_state
        · have b2 := bOf_n zo
          rw [HOut_n q (fun z => zo z.2.2.1)]
          simp -implicitDefEqProofs only [Tryz.f20, b1, b2, hF, hk', decide_true, go_sem, hh, Nat.reduceAdd, Nat.reduceMul, Nat.reduceLeDiff, Nat.reduceEqDiff, reduceCtorEq, Nat.reduceSub, Int.reduceNeg, Nat.reduceMod, Nat.reduceBEq, Nat.reduceLT]
          repeat' (first | with_reducible apply And.intro | with_reducible intro _ | ((first | apply brB_split | apply aPickB_split | apply gB_split | apply adB_split) <;> intro hb <;> simp -implicitDefEqProofs only [hb, go_sem, hh, Nat.reduceAdd, Nat.reduceMul, Nat.reduceLeDiff, Nat.reduceEqDiff, reduceCtorEq, Nat.reduceSub, Int.reduceNeg, Nat.reduceMod, Nat.reduceBEq, Nat.reduceLT] <;> try simp only [qz] at hb))
          all_goals first | with_reducible assumption | rfl | omega | contradiction | decide | trace_state
  · have b1 := bOf_n q
    rw [HOut_no q]
    simp -implicitDefEqProofs only [Tryz.f20, b1, go_sem, hh, Nat.reduceAdd, Nat.reduceMul, Nat.reduceLeDiff, Nat.reduceEqDiff, reduceCtorEq, Nat.reduceSub, Int.reduceNeg, Nat.reduceMod, Nat.reduceBEq, Nat.reduceLT]
    repeat' (first | with_reducible apply And.intro | with_reducible intro _ | ((first | apply brB_split | apply aPickB_split | apply gB_split | apply adB_split) <;> intro hb <;> simp -implicitDefEqProofs only [hb, go_sem, hh, Nat.reduceAdd, Nat.reduceMul, Nat.reduceLeDiff, Nat.reduceEqDiff, reduceCtorEq, Nat.reduceSub, Int.reduceNeg, Nat.reduceMod, Nat.reduceBEq, Nat.reduceLT] <;> try simp only [qz] at hb))
    all_goals first | with_reducible assumption | rfl | omega | contradiction | decide | trace_state
end
def fewB {α : Type} (f : α → Int → Int) (e : α → Int → Int) (c : Int) : Prop := ∀ a l k, 0 ≤ f a l → e a k ≤ k + c + 100 * (l - f a l)
theorem bStr : fewB szStr eStr 1 := fun a l k h => by unfold szStr eStr; omega
theorem bInt_list (xs : List Int) (k : Int) : eS eInt k xs = k + xs.length := by
  induction xs generalizing k with
  | nil => simp [eS]
  | cons x r ih => simp only [eS, ih, eInt, List.length_cons]; omega
theorem bF {α : Type} {f e : α → Int → Int} {c : Int} (hb : fewB f e c) : ∀ (xs : List α) (l k : Int), 0 ≤ szF f l xs → eS e k xs ≤ k + c * xs.length + 100 * (l - szF f l xs)
  | [], l, k, _ => by simp [eS, szF]
  | x :: r, l, k, h => by
    rw [szF] at h ⊢
    by_cases h1 : f x l < 0
    · rw [if_pos h1] at h; omega
    · rw [if_neg h1] at h ⊢
      have q1 := hb x l k (by omega)
      have q2 := bF hb r (f x l) (e x k) h
      have e1 : c * ((r.length + 1 : Nat) : Int) = c * r.length + c := by rw [Int.natCast_add, Int.mul_add]; simp
      simp only [eS, List.length_cons]
      omega
theorem bL {α : Type} {f e : α → Int → Int} {c : Int} (hb : fewB f e c) (hc : c ≤ 100) (xs : List α) (l k : Int) (h : 0 ≤ szL f xs l) : eS e k xs ≤ k + 100 * (l - szL f xs l) := by
  unfold szL at h ⊢
  by_cases h1 : l - xs.length < 0
  · rw [if_pos h1] at h; omega
  · rw [if_neg h1] at h ⊢
    have q := bF hb xs (l - xs.length) k h
    have q2 : c * (xs.length : Int) ≤ 100 * xs.length := Int.mul_le_mul_of_nonneg_right hc (by omega)
    omega
def uAd (a : Ad) (k : Int) : Int := ((k + 1) + 1)
theorem uAd_b : fewB szAd uAd 2 := fun a l k h => by
  by_cases z0 : (l - a.user.size) < 0
  · unfold szAd at h; rw [if_pos z0] at h; omega
  · skip
    by_cases z1 : ((l - a.user.size) - a.domain.size) < 0
    · unfold szAd at h; rw [if_neg z0, if_pos z1] at h; omega
    · skip
      have hs : szAd a l = ((l - a.user.size) - a.domain.size) := by unfold szAd; rw [if_neg z0, if_neg z1]
      rw [hs]
      unfold uAd
      omega
def uRc (a : Rc) (k : Int) : Int := (((uAd a.addr k) + 1) + 1)
theorem uRc_b : fewB szRc uRc 4 := fun a l k h => by
  by_cases z0 : (szAd a.addr l) < 0
  · unfold szRc at h; rw [if_pos z0] at h; omega
  · skip
    have hs : szRc a l = (szAd a.addr l) := by unfold szRc; rw [if_neg z0]
    rw [hs]
    have b0 := uAd_b a.addr l k (by omega)
    unfold uRc
    omega
def uIm (a : Im) (k : Int) : Int := (eS eStr (eS uRc (uAd a.frm (k + 1)) a.to) a.body)
theorem uIm_b : fewB szIm uIm 3 := fun a l k h => by
  by_cases z0 : (szAd a.frm l) < 0
  · unfold szIm at h; rw [if_pos z0] at h; omega
  · skip
    by_cases z1 : (szL szRc a.to (szAd a.frm l)) < 0
    · unfold szIm at h; rw [if_neg z0, if_pos z1] at h; omega
    · skip
      by_cases z2 : (szL szStr a.body (szL szRc a.to (szAd a.frm l))) < 0
      · unfold szIm at h; rw [if_neg z0, if_neg z1, if_pos z2] at h; omega
      · skip
        have hs : szIm a l = (szL szStr a.body (szL szRc a.to (szAd a.frm l))) := by unfold szIm; rw [if_neg z0, if_neg z1, if_neg z2]
        rw [hs]
        have b0 := uAd_b a.frm l (k + 1) (by omega)
        have b1 := bL uRc_b (by decide) a.to (szAd a.frm l) (uAd a.frm (k + 1)) (by omega)
        have b2 := bL bStr (by decide) a.body (szL szRc a.to (szAd a.frm l)) (eS uRc (uAd a.frm (k + 1)) a.to) (by omega)
        unfold uIm
        omega
def uSp (a : Sp) (k : Int) : Int := (eS uIm (k + 1) a.items)
theorem uSp_b : fewB szSp uSp 1 := fun a l k h => by
  by_cases z0 : (szL szIm a.items l) < 0
  · unfold szSp at h; rw [if_pos z0] at h; omega
  · skip
    have hs : szSp a l = (szL szIm a.items l) := by unfold szSp; rw [if_neg z0]
    rw [hs]
    have b0 := bL uIm_b (by decide) a.items l (k + 1) (by omega)
    unfold uSp
    omega
def uWy (a : Wy) (k : Int) : Int := ((k + 1) + 1)
theorem uWy_b : fewB szWy uWy 2 := fun a l k h => by
  by_cases z0 : (l - a.ends.size) < 0
  · unfold szWy at h; rw [if_pos z0] at h; omega
  · skip
    by_cases z1 : ((l - a.ends.size) - a.to.size) < 0
    · unfold szWy at h; rw [if_neg z0, if_pos z1] at h; omega
    · skip
      have hs : szWy a l = ((l - a.ends.size) - a.to.size) := by unfold szWy; rw [if_neg z0, if_neg z1]
      rw [hs]
      unfold uWy
      omega
def uCf (a : Cf) (k : Int) : Int := (eS uWy (eS eStr (k + 1) a.own) a.ways)
theorem uCf_b : fewB szCf uCf 1 := fun a l k h => by
  by_cases z0 : (l - a.name.size) < 0
  · unfold szCf at h; rw [if_pos z0] at h; omega
  · skip
    by_cases z1 : (szL szStr a.own (l - a.name.size)) < 0
    · unfold szCf at h; rw [if_neg z0, if_pos z1] at h; omega
    · skip
      by_cases z2 : (szL szWy a.ways (szL szStr a.own (l - a.name.size))) < 0
      · unfold szCf at h; rw [if_neg z0, if_neg z1, if_pos z2] at h; omega
      · skip
        have hs : szCf a l = (szL szWy a.ways (szL szStr a.own (l - a.name.size))) := by unfold szCf; rw [if_neg z0, if_neg z1, if_neg z2]
        rw [hs]
        have b0 := bL bStr (by decide) a.own (l - a.name.size) (k + 1) (by omega)
        have b1 := bL uWy_b (by decide) a.ways (szL szStr a.own (l - a.name.size)) (eS eStr (k + 1) a.own) (by omega)
        unfold uCf
        omega
def uGm (a : Gm) (k : Int) : Int := (eS eStr (uAd a.frm k) a.body)
theorem uGm_b : fewB szGm uGm 2 := fun a l k h => by
  by_cases z0 : (szAd a.frm l) < 0
  · unfold szGm at h; rw [if_pos z0] at h; omega
  · skip
    by_cases z1 : (szL szStr a.body (szAd a.frm l)) < 0
    · unfold szGm at h; rw [if_neg z0, if_pos z1] at h; omega
    · skip
      have hs : szGm a l = (szL szStr a.body (szAd a.frm l)) := by unfold szGm; rw [if_neg z0, if_neg z1]
      rw [hs]
      have b0 := uAd_b a.frm l k (by omega)
      have b1 := bL bStr (by decide) a.body (szAd a.frm l) (uAd a.frm k) (by omega)
      unfold uGm
      omega
def uBx (a : Bx) (k : Int) : Int := (eS uGm (uAd a.addr k) a.mails)
theorem uBx_b : fewB szBx uBx 2 := fun a l k h => by
  by_cases z0 : (szAd a.addr l) < 0
  · unfold szBx at h; rw [if_pos z0] at h; omega
  · skip
    by_cases z1 : (szL szGm a.mails (szAd a.addr l)) < 0
    · unfold szBx at h; rw [if_neg z0, if_pos z1] at h; omega
    · skip
      have hs : szBx a l = (szL szGm a.mails (szAd a.addr l)) := by unfold szBx; rw [if_neg z0, if_neg z1]
      rw [hs]
      have b0 := uAd_b a.addr l k (by omega)
      have b1 := bL uGm_b (by decide) a.mails (szAd a.addr l) (uAd a.addr k) (by omega)
      unfold uBx
      omega
def uLs (a : Ls) (k : Int) : Int := (uAd a.addr (k + 1))
theorem uLs_b : fewB szLs uLs 3 := fun a l k h => by
  by_cases z0 : (l - a.mark.size) < 0
  · unfold szLs at h; rw [if_pos z0] at h; omega
  · skip
    by_cases z1 : (szAd a.addr (l - a.mark.size)) < 0
    · unfold szLs at h; rw [if_neg z0, if_pos z1] at h; omega
    · skip
      have hs : szLs a l = (szAd a.addr (l - a.mark.size)) := by unfold szLs; rw [if_neg z0, if_neg z1]
      rw [hs]
      have b0 := uAd_b a.addr (l - a.mark.size) (k + 1) (by omega)
      unfold uLs
      omega
def uHs (a : Hs) (k : Int) : Int := (eS uLs (eS uBx (uSp a.spool (uCf a.conf k)) a.boxes) a.lost)
theorem uHs_b : fewB szHs uHs 2 := fun a l k h => by
  by_cases z0 : (szCf a.conf l) < 0
  · unfold szHs at h; rw [if_pos z0] at h; omega
  · skip
    by_cases z1 : (szSp a.spool (szCf a.conf l)) < 0
    · unfold szHs at h; rw [if_neg z0, if_pos z1] at h; omega
    · skip
      by_cases z2 : (szL szBx a.boxes (szSp a.spool (szCf a.conf l))) < 0
      · unfold szHs at h; rw [if_neg z0, if_neg z1, if_pos z2] at h; omega
      · skip
        by_cases z3 : (szL szLs a.lost (szL szBx a.boxes (szSp a.spool (szCf a.conf l)))) < 0
        · unfold szHs at h; rw [if_neg z0, if_neg z1, if_neg z2, if_pos z3] at h; omega
        · skip
          have hs : szHs a l = (szL szLs a.lost (szL szBx a.boxes (szSp a.spool (szCf a.conf l)))) := by unfold szHs; rw [if_neg z0, if_neg z1, if_neg z2, if_neg z3]
          rw [hs]
          have b0 := uCf_b a.conf l k (by omega)
          have b1 := uSp_b a.spool (szCf a.conf l) (uCf a.conf k) (by omega)
          have b2 := bL uBx_b (by decide) a.boxes (szSp a.spool (szCf a.conf l)) (uSp a.spool (uCf a.conf k)) (by omega)
          have b3 := bL uLs_b (by decide) a.lost (szL szBx a.boxes (szSp a.spool (szCf a.conf l))) (eS uBx (uSp a.spool (uCf a.conf k)) a.boxes) (by omega)
          unfold uHs
          omega
theorem fSp_few (a : Sp) (l k : Int) (h : 0 ≤ szSp a l) : fSp a k ≤ k + 100 * (l - szSp a l) := by
  by_cases z0 : (szL szIm a.items l) < 0
  · unfold szSp at h; rw [if_pos z0] at h; omega
  · skip
    have hs : szSp a l = (szL szIm a.items l) := by unfold szSp; rw [if_neg z0]
    rw [hs]
    have b0 := bL uIm_b (by decide) a.items l k (by omega)
    show (eS uIm k a.items) ≤ _
    omega
theorem fCf_few (a : Cf) (l k : Int) (h : 0 ≤ szCf a l) : fCf a k ≤ k + 100 * (l - szCf a l) := by
  by_cases z0 : (l - a.name.size) < 0
  · unfold szCf at h; rw [if_pos z0] at h; omega
  · skip
    by_cases z1 : (szL szStr a.own (l - a.name.size)) < 0
    · unfold szCf at h; rw [if_neg z0, if_pos z1] at h; omega
    · skip
      by_cases z2 : (szL szWy a.ways (szL szStr a.own (l - a.name.size))) < 0
      · unfold szCf at h; rw [if_neg z0, if_neg z1, if_pos z2] at h; omega
      · skip
        have hs : szCf a l = (szL szWy a.ways (szL szStr a.own (l - a.name.size))) := by unfold szCf; rw [if_neg z0, if_neg z1, if_neg z2]
        rw [hs]
        have b0 := bL bStr (by decide) a.own (l - a.name.size) k (by omega)
        have b1 := bL uWy_b (by decide) a.ways (szL szStr a.own (l - a.name.size)) (eS eStr k a.own) (by omega)
        show (eS uWy (eS eStr k a.own) a.ways) ≤ _
        omega
theorem fHs_few (a : Hs) (l k : Int) (h : 0 ≤ szHs a l) : fHs a k ≤ k + 100 * (l - szHs a l) := by
  by_cases z0 : (szCf a.conf l) < 0
  · unfold szHs at h; rw [if_pos z0] at h; omega
  · skip
    by_cases z1 : (szSp a.spool (szCf a.conf l)) < 0
    · unfold szHs at h; rw [if_neg z0, if_pos z1] at h; omega
    · skip
      by_cases z2 : (szL szBx a.boxes (szSp a.spool (szCf a.conf l))) < 0
      · unfold szHs at h; rw [if_neg z0, if_neg z1, if_pos z2] at h; omega
      · skip
        by_cases z3 : (szL szLs a.lost (szL szBx a.boxes (szSp a.spool (szCf a.conf l)))) < 0
        · unfold szHs at h; rw [if_neg z0, if_neg z1, if_neg z2, if_pos z3] at h; omega
        · skip
          have hs : szHs a l = (szL szLs a.lost (szL szBx a.boxes (szSp a.spool (szCf a.conf l)))) := by unfold szHs; rw [if_neg z0, if_neg z1, if_neg z2, if_neg z3]
          rw [hs]
          have b0 := fCf_few a.conf l k (by omega)
          have b1 := fSp_few a.spool (szCf a.conf l) (fCf a.conf k) (by omega)
          have b2 := bL uBx_b (by decide) a.boxes (szSp a.spool (szCf a.conf l)) (fSp a.spool (fCf a.conf k)) (by omega)
          have b3 := bL uLs_b (by decide) a.lost (szL szBx a.boxes (szSp a.spool (szCf a.conf l))) (eS uBx (fSp a.spool (fCf a.conf k)) a.boxes) (by omega)
          show (eS uLs (eS uBx (fSp a.spool (fCf a.conf k)) a.boxes) a.lost) ≤ _
          omega
def shf {α : Type} (e : α → Int → Int) : Prop := ∀ a k d, e a (k + d) = e a k + d
section
variable {α : Type} {e : α → Int → Int}
theorem eS_shf (h : shf e) : ∀ (xs : List α) (k d : Int), eS e (k + d) xs = eS e k xs + d
  | [], _, _ => rfl
  | x :: r, k, d => by simp only [eS]; rw [h x k d, eS_shf h r]
def wt (e : α → Int → Int) (xs : List α) : Int := eS e 0 xs
theorem eS_wt (h : shf e) (xs : List α) (k : Int) : eS e k xs = k + wt e xs := by
  have := eS_shf h xs 0 k
  unfold wt; rw [Int.zero_add] at this; omega
theorem wt_cons (h : shf e) (x : α) (xs : List α) : wt e (x :: xs) = e x 0 + wt e xs := by
  show eS e (e x 0) xs = _
  exact eS_wt h xs _
theorem wt_app (h : shf e) (xs ys : List α) : wt e (xs ++ ys) = wt e xs + wt e ys := by
  unfold wt; rw [eS_app]; exact eS_wt h ys _
theorem wt_nn (h : shf e) (hi : incr e) (xs : List α) : 0 ≤ wt e xs := eS_le hi xs 0
theorem wt_sub (h : shf e) (hi : incr e) {xs ys : List α} (q : List.Sublist xs ys) : wt e xs ≤ wt e ys := by
  induction q with
  | slnil => exact Int.le_refl _
  | cons a _ ih => rw [wt_cons h]; have := hi a 0; omega
  | cons_cons a _ ih => rw [wt_cons h, wt_cons h]; omega
theorem wt_le (h : shf e) {B : Int} : ∀ {xs : List α}, (∀ x ∈ xs, e x 0 ≤ B) → wt e xs ≤ B * xs.length
  | [], _ => by simp [wt, eS]
  | x :: r, q => by
    have h1 := q x (by simp)
    have h2 := wt_le h (xs := r) fun y hy => q y (by simp [hy])
    rw [wt_cons h, List.length_cons]
    have e1 : B * ((r.length + 1 : Nat) : Int) = B * r.length + B := by rw [Int.natCast_add, Int.mul_add]; simp
    omega
end
theorem sStr : shf eStr := fun a k d => by unfold eStr; omega
theorem sAd : shf eAd := fun a k d => by
  unfold eAd
  omega
theorem sRc : shf eRc := fun a k d => by
  unfold eRc
  omega
theorem sIm : shf eIm := fun a k d => by
  unfold eIm
  simp only [eS_wt sRc, eS_wt sStr]
  omega
theorem sSp : shf eSp := fun a k d => by
  unfold eSp
  simp only [eS_wt sIm]
  omega
theorem sWy : shf eWy := fun a k d => by
  unfold eWy
  omega
theorem sCf : shf eCf := fun a k d => by
  unfold eCf
  simp only [eS_wt sStr, eS_wt sWy]
  omega
theorem sGm : shf eGm := fun a k d => by
  unfold eGm
  simp only [eS_wt sStr]
  omega
theorem sBx : shf eBx := fun a k d => by
  unfold eBx
  simp only [eS_wt sGm]
  omega
theorem sLs : shf eLs := fun a k d => by
  unfold eLs
  omega
theorem sHs : shf eHs := fun a k d => by
  unfold eHs
  simp only [eS_wt sStr, eS_wt sWy, eS_wt sIm, eS_wt sBx, eS_wt sLs]
  omega
theorem fHs_wt (a : Hs) (k : Int) : fHs a k = k + (wt eStr a.conf.own + wt eWy a.conf.ways + wt eIm a.spool.items + wt eBx a.boxes + wt eLs a.lost) := by
  unfold fHs
  simp only [eS_wt sStr, eS_wt sWy, eS_wt sIm, eS_wt sBx, eS_wt sLs]
  omega
theorem adIm_wt {s : Sp} {m : Ml} {w : Int} (h1 : m.to.length ≤ 4) (h2 : m.body.length ≤ 12) : eIm (adIm s m w) 0 ≤ 40 := by
  unfold eIm
  simp only [eS_wt sRc, eS_wt sStr]
  have b1 := wt_le sRc (B := 4) (xs := (adIm s m w).to) fun r _ => by unfold eRc; omega
  have b2 := wt_le sStr (B := 1) (xs := (adIm s m w).body) fun r _ => by unfold eStr; omega
  have l1 : (adIm s m w).to.length = m.to.length := List.length_map ..
  have l2 : (adIm s m w).body.length = m.body.length := rfl
  omega
theorem wt_const {α : Type} {e : α → Int → Int} (h : shf e) {c : Int} (hc : ∀ x, e x 0 = c) : ∀ xs : List α, wt e xs = c * xs.length
  | [] => by simp [wt, eS]
  | x :: r => by
    rw [wt_cons h, hc, wt_const h hc r, List.length_cons]
    have e1 : c * ((r.length + 1 : Nat) : Int) = c * r.length + c := by rw [Int.natCast_add, Int.mul_add]; simp
    omega
theorem dnIm_wt (x : Im) (k : Nat) : eIm (dnIm x k) 0 ≤ eIm x 0 := by
  unfold eIm
  simp only [eS_wt sRc, eS_wt sStr]
  have h1 : wt eRc (dnIm x k).to ≤ wt eRc x.to := wt_sub sRc eRc_inc (cut_sub x.to k)
  have h2 : (dnIm x k).body = x.body := rfl
  rw [h2]; omega
theorem dn_wt {s : Sp} {i k : Nat} (hi : i < s.items.length) : wt eIm (dnSp s i k).items ≤ wt eIm s.items := by
  show wt eIm (dnL s.items i k) ≤ _
  unfold dnL
  split
  · exact wt_sub sIm eIm_inc (cut_sub s.items i)
  · conv => rhs; rw [cut_eq hi]
    rw [wt_app sIm, wt_app sIm, wt_cons sIm, wt_cons sIm]
    have := dnIm_wt (s.items.getD i default) k
    omega
theorem lt_wt {s : Sp} {i k : Nat} {w : Int} (hi : i < s.items.length) : wt eIm (ltSp s i k w).items ≤ wt eIm s.items := by
  have h1 : eIm (ltIm (s.items.getD i default) k w) 0 = eIm (s.items.getD i default) 0 := by
    unfold eIm
    simp only [eS_wt sRc, eS_wt sStr]
    have hc : ∀ r : Rc, eRc r 0 = 4 := fun r => by unfold eRc; omega
    rw [wt_const sRc hc, wt_const sRc hc]
    have l1 : (ltIm (s.items.getD i default) k w).to.length = (s.items.getD i default).to.length := List.length_set ..
    have l2 : (ltIm (s.items.getD i default) k w).body = (s.items.getD i default).body := rfl
    rw [l1, l2]
  show wt eIm (s.items.set i _) ≤ _
  rw [List.set_eq_take_append_cons_drop, if_pos hi, wt_app sIm, wt_cons sIm, h1]
  conv => rhs; rw [cut_eq hi]
  rw [wt_app sIm, wt_cons sIm]
  omega
theorem give_f {h : Hs} {x : Im} {a : Ad} {i k : Nat} {w : Int} (hi : i < h.spool.items.length) : fHs (giveHs h x a i k w) 1 ≤ fHs h 1 + 1000 := by
  have h1 := dn_wt (k := k) hi
  have e0 : wt eIm ([] : List Im) = 0 := rfl
  have e1 : wt eLs ([] : List Ls) = 0 := rfl
  unfold giveHs
  split
  · rw [fHs_wt, fHs_wt]
    show 1 + (wt eStr h.conf.own + wt eWy h.conf.ways + wt eIm (dnSp h.spool i k).items + wt eBx h.boxes + wt eLs (h.lost ++ [⟨mkOf x.body, a⟩])) ≤ _
    rw [wt_app sLs, wt_cons sLs]
    have h2 : eLs ⟨mkOf x.body, a⟩ 0 ≤ 10 := by unfold eLs; omega
    omega
  · rw [fHs_wt, fHs_wt]
    show 1 + (wt eStr h.conf.own + wt eWy h.conf.ways + wt eIm ((dnSp h.spool i k).items ++ [adIm (dnSp h.spool i k) (bounceMl x a) w]) + wt eBx h.boxes + wt eLs h.lost) ≤ _
    rw [wt_app sIm, wt_cons sIm]
    have h2 := adIm_wt (s := dnSp h.spool i k) (m := bounceMl x a) (w := w) (by show 1 ≤ 4; decide) (by have := bounce_len (x := x) (a := a); omega)
    omega
theorem HOut_f {h : Hs} {n : Int} {a : Ad} {out w : Int} : fHs (HOut h n a out w).1 1 ≤ fHs h 1 + 1000 := by
  have h0 : 1 ≤ fHs h 1 := fHs_inc h 1
  unfold HOut
  split
  · split
    · rename_i q
      have hi : (atIm h.spool n).toNat < h.spool.items.length := by have := atIm_lt q.1; omega
      show fHs (outHs h _ _ a out w) 1 ≤ _
      unfold outHs
      split
      · rw [fHs_wt, fHs_wt]
        show 1 + (wt eStr h.conf.own + wt eWy h.conf.ways + wt eIm (dnSp h.spool (atIm h.spool n).toNat (atRc (theIm h.spool n) a).toNat).items + wt eBx h.boxes + wt eLs h.lost) ≤ _
        have := dn_wt (k := (atRc (theIm h.spool n) a).toNat) hi
        omega
      · split
        · rw [fHs_wt, fHs_wt]
          show 1 + (wt eStr h.conf.own + wt eWy h.conf.ways + wt eIm (ltSp h.spool (atIm h.spool n).toNat (atRc (theIm h.spool n) a).toNat w).items + wt eBx h.boxes + wt eLs h.lost) ≤ _
          have := lt_wt (k := (atRc (theIm h.spool n) a).toNat) (w := w) hi
          omega
        · exact give_f hi
    · show fHs h 1 ≤ _; omega
  · show fHs noHs 1 ≤ _
    have : fHs noHs 1 = 1 := rfl
    omega
def c4 : Ct := ctR (lc EHs.ag (lc AInt (lc EAd.ag (lc AInt (lc AInt l0))))) (fun p => True) (fun p => .t (.v (.bool true)))
section
attribute [local go_sem] c6 c9 c12 c14 c17 c19 c53 c16 c18 c20 Bool.not_true Bool.not_false nHs owHB roHB
set_option maxHeartbeats 8000000 in
theorem good4 {G : Gt} (hG : OkG G) (hh : G.e 6 = roEnt 0 c6 ∧ G.e 9 = roEnt 0 c9 ∧ G.e 12 = roEnt 0 c12 ∧ G.e 14 = muEnt c14 ∧ G.e 17 = roEnt 0 c17 ∧ G.e 19 = roEnt 0 c19 ∧ G.e 53 = roEnt 0 c53 ∧ G.e 16 = roEnt 0 c16 ∧ G.e 18 = roEnt 1 c18 ∧ G.e 20 = roEnt 0 c20) : Gd G 4 (roEnt 0 c4) := by
  refine gR (dp := fun _ => true) (fn := Tryz.f4) (n := 5) (fun _ => rfl) (by kernel_rfl) rfl (by kernel_rfl) hG (Nat.le_of_ble_eq_true rfl) (by kernel_rfl) (by decide) (fun _ _ => .v _) ?_
  rintro ⟨h, n, a, out, w, ⟨⟩⟩ hpre
  by_cases h0s : szHs h 1048576 < 0
  · simp -implicitDefEqProofs only [Tryz.f4, decide_eq_true h0s, go_sem, hh, Nat.reduceAdd, Nat.reduceMul, Nat.reduceLeDiff, Nat.reduceEqDiff, reduceCtorEq, Nat.reduceSub, Int.reduceNeg, Nat.reduceMod, Nat.reduceBEq, Nat.reduceLT]
    repeat' (first | with_reducible apply And.intro | with_reducible intro _ | ((first | apply brB_split | apply aPickB_split | apply gB_split | apply adB_split) <;> intro hb <;> simp -implicitDefEqProofs only [hb, go_sem, hh, Nat.reduceAdd, Nat.reduceMul, Nat.reduceLeDiff, Nat.reduceEqDiff, reduceCtorEq, Nat.reduceSub, Int.reduceNeg, Nat.reduceMod, Nat.reduceBEq, Nat.reduceLT] <;> try simp only [qz] at hb))
    all_goals first | rfl | omega | skip
  · have d0s := decide_eq_false h0s
    have ho0 := szHs_ok h 1048576 (by omega) (by omega) (by omega)
    have hz0 := szHs_le h 1048576
    by_cases h1s : szAd a (szHs h 1048576) < 0
    · simp -implicitDefEqProofs only [Tryz.f4, d0s, decide_eq_true h1s, go_sem, hh, Nat.reduceAdd, Nat.reduceMul, Nat.reduceLeDiff, Nat.reduceEqDiff, reduceCtorEq, Nat.reduceSub, Int.reduceNeg, Nat.reduceMod, Nat.reduceBEq, Nat.reduceLT]
      repeat' (first | with_reducible apply And.intro | with_reducible intro _ | ((first | apply brB_split | apply aPickB_split | apply gB_split | apply adB_split) <;> intro hb <;> simp -implicitDefEqProofs only [hb, go_sem, hh, Nat.reduceAdd, Nat.reduceMul, Nat.reduceLeDiff, Nat.reduceEqDiff, reduceCtorEq, Nat.reduceSub, Int.reduceNeg, Nat.reduceMod, Nat.reduceBEq, Nat.reduceLT] <;> try simp only [qz] at hb))
      all_goals first | rfl | omega | skip
    · have d1s := decide_eq_false h1s
      have ho1 := szAd_ok a (szHs h 1048576) (by omega) (by omega) (by omega)
      have hz1 := szAd_le a (szHs h 1048576)
      have hk0 := fHs_few h 1048576 1 (by omega)
      have hn0 := fHs_inc h 1
      obtain ⟨⟨r0, r1⟩, hr⟩ : ∃ x, x = HOut h n a out w := ⟨_, rfl⟩
      have hq := HOut_f (h := h) (n := n) (a := a) (out := out) (w := w)
      rw [← hr] at hq
      dsimp only at hq
      have hr' := hr.symm
      have hmr0 : hHs (nHs r0 1) 1 = fHs r0 1 := hHs_n r0 1 (by decide)
      have hir0 : fHs (nHs r0 1) 1 = fHs r0 1 := by unfold fHs nHs; simp only [eS_idem mStr_idem, eS_idem mWy_idem, eS_idem mIm_idem, eS_idem mBx_idem, eS_idem mLs_idem]
      have hpr0 := fHs_inc r0 1
      simp only [nHs] at hmr0 hir0
      simp -implicitDefEqProofs only [Tryz.f4, d0s, d1s, go_sem, hr', hmr0, hir0, hh, Nat.reduceAdd, Nat.reduceMul, Nat.reduceLeDiff, Nat.reduceEqDiff, reduceCtorEq, Nat.reduceSub, Int.reduceNeg, Nat.reduceMod, Nat.reduceBEq, Nat.reduceLT]
      repeat' (first | with_reducible apply And.intro | with_reducible intro _ | ((first | apply brB_split | apply aPickB_split | apply gB_split | apply adB_split) <;> intro hb <;> simp -implicitDefEqProofs only [hb, go_sem, hr', hmr0, hir0, hh, Nat.reduceAdd, Nat.reduceMul, Nat.reduceLeDiff, Nat.reduceEqDiff, reduceCtorEq, Nat.reduceSub, Int.reduceNeg, Nat.reduceMod, Nat.reduceBEq, Nat.reduceLT] <;> try simp only [qz] at hb))
      all_goals first | rfl | omega | with_reducible assumption | exact absurd rfl (by assumption) | (simp at *; done) | trace_state
end
end Go.V
namespace Go.V
open Go Go.Proofs Go.ChangeShapes Go.WideShapes Go.ChangeAt Go.RowKit
set_option maxRecDepth 100000
section
variable {H : Type} {enc : TypeId × Value → H} {W : World} {P : Program}
def pW (W : World) : Nat → Prop := fun b => b < W.heap.size
def Rd (P : Program) (W : World) (enc : TypeId × Value → H) (t : TypeId) (q : List T → Prop) : Prop :=
  ∀ (n : Nat) (cs : List Value) (x : DataW H × List MemPlace), DataW.trod enc P W 0 (fun _ => true) true n t cs = some x → ∃ ts, q ts ∧ RoL W (pW W) ts cs
theorem Rd.str {t : TypeId} (u : P.underlying t = some .string) : Rd P W enc t fun ts => ∃ s, ts = [.v (.string s)] := fun n cs x h => by
  obtain ⟨s, rfl, _, hs⟩ := DataW.trod_string u h
  exact ⟨_, ⟨s, rfl⟩, .cons _ _ _ _ (.v _ hs) .nil⟩
theorem Rd.int {t : TypeId} (u : P.underlying t = some (.int .i64)) : Rd P W enc t fun ts => ∃ k, ts = [.v (.int .i64 k)] := fun n cs x h => by
  obtain ⟨k, rfl, _, hs⟩ := DataW.trod_int u h
  exact ⟨_, ⟨k, rfl⟩, .cons _ _ _ _ (.v _ trivial) .nil⟩
theorem fieldAt {fs : Array Field} {l : List (TypeId × Nat)} (hl : (fs.toList.map fun f => (f.type, f.offset)) = l) {i : Nat} {t : TypeId} {o : Nat} (hi : l[i]? = some (t, o)) : ∃ f, fs[i]? = some f ∧ f.type = t ∧ f.offset = o := by
  rw [← hl, List.getElem?_map] at hi
  cases hf : fs.toList[i]? with
  | none => rw [hf] at hi; cases hi
  | some f =>
    rw [hf] at hi
    simp only [Option.map_some, Option.some.injEq, Prod.mk.injEq] at hi
    exact ⟨f, by rw [← Array.getElem?_toList]; exact hf, hi.1, hi.2⟩
theorem Rd.field {t : TypeId} {fs : Array Field} (u : P.underlying t = some (.struct fs)) {n : Nat} {cs : List Value} {x : DataW H × List MemPlace} (h : DataW.trod enc P W 0 (fun _ => true) true n t cs = some x)
    {l : List (TypeId × Nat)} (hl : (fs.toList.map fun f => (f.type, f.offset)) = l) {i : Nat} {ft : TypeId} {o k : Nat} (hi : l[i]? = some (ft, o)) (hk : P.cellsOf ft = k) {q : List T → Prop} (hr : Rd P W enc ft q) :
    ∃ ts, q ts ∧ RoL W (pW W) ts ((cs.drop o).take k) := by
  obtain ⟨xs, m, rfl, _, _, hxs, hf⟩ := DataW.trod_struct u h
  obtain ⟨f, h1, h2, h3⟩ := fieldAt hl hi
  have h4 := hf i f h1
  rw [h2, h3, hk] at h4
  have hlt : i < xs.length := by
    rw [hxs]
    exact (Array.getElem?_eq_some_iff.1 h1).1
  rw [List.getElem?_eq_getElem hlt] at h4
  exact hr _ _ _ h4
theorem Rd.len {t : TypeId} {fs : Array Field} (u : P.underlying t = some (.struct fs)) {n : Nat} {cs : List Value} {x : DataW H × List MemPlace} (h : DataW.trod enc P W 0 (fun _ => true) true n t cs = some x) : cs.length = P.cellsOf t := by
  obtain ⟨xs, m, rfl, _, h3, _, _⟩ := DataW.trod_struct u h
  exact h3
theorem Rd.slice {α : Type} (E : Enc α) {t e : TypeId} (u : P.underlying t = some (.slice e)) (hn : P.cellsOf e = E.n) (h0 : 0 < E.n) (he : Rd P W enc e fun ts => ∃ a, ts = E.enc a) :
    Rd P W enc t fun ts => ∃ xs : List α, ts = [.sl E.n (xs.map E.enc)] := fun n cs x h => by
  rcases DataW.trod_slice u h with ⟨rfl, _⟩ | ⟨a, len, cap, elems, rest, m, rfl, rfl, _, _, hlc, hcm, hel, hes, _⟩
  · exact ⟨_, ⟨[], rfl⟩, .cons _ _ _ _ (.nil _) .nil⟩
  · rw [hn] at hes
    have key : ∀ k, k ≤ len → ∃ (xs : List α) (vs : List Value), xs.length = k ∧ vs.length = k * E.n ∧ RoL W (pW W) (xs.map E.enc).flatten vs ∧ (0 < k → a.block < W.heap.size) ∧ ∀ j v, vs[j]? = some v → W.cell? (a.add j) = some v := fun k => by
      induction k with
      | zero => exact fun _ => ⟨[], [], rfl, by simp, .nil, fun h => absurd h (Nat.lt_irrefl _), fun j v hj => by simp at hj⟩
      | succ k ih =>
        intro hk
        obtain ⟨xs, vs, h1, h2, h3, h4, h5⟩ := ih (by omega)
        have h6 := hes k (by omega)
        rw [List.getElem?_eq_getElem (by omega)] at h6
        obtain ⟨cs, h7, h8⟩ := Option.bind_eq_some_iff.1 h6
        obtain ⟨ts, ⟨y, rfl⟩, h9⟩ := he _ _ _ h8
        obtain ⟨q1, q2, q3⟩ := World.cells?_some h7
        have hb : a.block < W.heap.size := by
          have := World.cells?_block h7 h0
          rwa [block_add] at this
        refine ⟨xs ++ [y], vs ++ cs, by simp [h1], ?_, ?_, fun _ => hb, fun j v hj => ?_⟩
        · have : cs.length = E.n := by rw [← h9.len, E.len]
          rw [List.length_append, h2, this, Nat.succ_mul]
        · rw [List.map_append, List.flatten_append]
          exact h3.append (by simpa using h9)
        · by_cases hj2 : j < vs.length
          · rw [List.getElem?_append_left hj2] at hj
            exact h5 j v hj
          · rw [List.getElem?_append_right (by omega)] at hj
            have hjl : j - vs.length < E.n := by
              have := (List.getElem?_eq_some_iff.1 hj).1
              have h10 : cs.length = E.n := by rw [← h9.len, E.len]
              omega
            have := q3 (j - vs.length) hjl
            rw [add_add'] at this
            rw [show j = k * E.n + (j - vs.length) from by omega, this]
            exact hj
    obtain ⟨xs, vs, h1, h2, h3, h4, h5⟩ := key len (Nat.le_refl _)
    refine ⟨_, ⟨xs, rfl⟩, .cons _ _ _ _ (.sl E.n _ a len cap vs (by simp [h1]) hlc hcm (fun hne => ?_) (fun c hc => ?_) h5 h3) .nil⟩
    · refine h4 ?_
      rcases Nat.eq_zero_or_pos len with h | h
      · exact absurd (by rw [List.eq_nil_of_length_eq_zero (h1.trans h)]; rfl) hne
      · exact h
    · obtain ⟨y, _, rfl⟩ := List.mem_map.1 hc
      exact E.len y
theorem RoL.cut {W : World} {pr : Nat → Prop} {ts ts' : List T} {cs : List Value} (o k : Nat) (h1 : RoL W pr ts ((cs.drop o).take k)) (h2 : RoL W pr ts' (cs.drop (o + k))) : RoL W pr (ts ++ ts') (cs.drop o) := by
  have e : cs.drop o = (cs.drop o).take k ++ cs.drop (o + k) := by rw [← List.drop_drop, List.take_append_drop]
  rw [e]
  exact h1.append h2
theorem RoL.stop {W : World} {pr : Nat → Prop} {cs : List Value} {n : Nat} (h : cs.length = n) : RoL W pr [] (cs.drop n) := by
  rw [List.drop_of_length_le (by omega)]
  exact .nil
end
end Go.V
namespace Go.Proofs.YtakcecnegfihkaaGreatDoor
open Go Go.Proofs Go.ChangeShapes Go.WideShapes Go.ChangeAt Go.RowKit
set_option maxRecDepth 100000
theorem own : ownKnob Tryz.prog.godebug = none := by kernel_rfl
def flatD : Nat → DataW Unit → List Value
  | 0, _ => []
  | _ + 1, .lit (.int k v) => [.int k v]
  | n + 1, .agg xs => xs.flatMap (flatD n)
  | _ + 1, _ => []
noncomputable def gOf (n : String) : Nat := (Tryz.prog.globalNamed n).getD 0
noncomputable def layAt (n : String) (d : DataW Unit) (h : Array Obj) : Array Obj := h.modify (gOf n) fun
  | .cells _ t frozen => .cells (flatD 5 d).toArray t frozen
  | o => o
noncomputable def laidWorld (os : Os) : World :=
  { World.holding Tryz.prog os ⟨#[], #[], []⟩ with heap := layAt "unicode/utf8.first" Rows.laid_unicode_utf8_first (layAt "unicode/utf8.acceptRanges" Rows.laid_unicode_utf8_acceptRanges (World.holding Tryz.prog os ⟨#[], #[], []⟩).heap) }
noncomputable def args0 : Array Value := #[.agg #[.string ⟨#[]⟩, .slice none 0 0, .slice none 0 0, .int .i64 0, .slice none 0 0, .slice none 0 0, .slice none 0 0], .int .i64 0, .agg #[.string ⟨#[]⟩, .string ⟨#[]⟩], .int .i64 0, .int .i64 0]
theorem laid_met (os : Os) : laidMet Tryz.prog Rows.fnExactHostOutRow.laid ((laidWorld os).forCall (fun _ _ => 0) ⟨#[], args0, []⟩).memory :=
  laidMet_of_run' 8 (by kernel_rfl) (by kernel_rfl)
theorem reads (os : Os) {H : Type} (enc : TypeId × Value → H) : ∃ places, DataW.whole enc Tryz.prog ((laidWorld os).forCall (fun _ _ => 0) ⟨#[], args0, []⟩).memory Tryz.f4.params.toList Rows.fnExactHostOutSpec.vars false args0.toList 8 = some ([.agg [.agg [.lit (.string []), .nil, .nil], .agg [.lit (.int .i64 0), .nil], .nil, .nil], .lit (.int .i64 0), .agg [.lit (.string []), .lit (.string [])], .lit (.int .i64 0), .lit (.int .i64 0)], [], places) :=
  ⟨[], by kernel_rfl⟩
theorem func4 : Tryz.prog.funcs[4]? = some Tryz.f4 := by kernel_rfl
def Every : Prop := ∀ (H : Type) (enc : TypeId × Value → H) (W : World) (base : Nat) (args : Array Value) (ds gs : List (DataW H)) (before : List MemPlace)
    (_ : ∀ (j : Nat) t v, Tryz.f4.params[j]? = some t → args[j]? = some v → Value.okWide Tryz.prog W .any base t v)
    (_ : DataW.Whole enc Tryz.prog Tryz.f4.params.toList Rows.fnExactHostOutSpec.vars false W args.toList ds gs before) (_ : W.ShapedOpen Tryz.prog),
    Calls Tryz.prog 4 args W fun e W' => ∃ v, e = .returned v ∧ Rows.fnExactHostOutSpec.post enc Tryz.prog Tryz.f4 false true false false W args v W'
theorem lifted (hE : Every) (os : Os) (started : os.Started) (H : Type) (enc : TypeId × Value → H) (F : Stop.Interp) :
    ReturnsInHanded {} Tryz.checked os 4 .any ((OpenSpec.ofChange Rows.fnExactHostOutSpec).preRow enc Tryz.prog Tryz.f4 Rows.fnExactHostOutRow.domain false Rows.fnExactHostOutRow.laid) (((OpenSpec.ofChange Rows.fnExactHostOutSpec).at F).post enc Tryz.prog Tryz.f4 false true false false) := by
  obtain ⟨places, hx⟩ := reads os enc
  refine returnsInHanded_of_row (C := Tryz.checked) (s := OpenSpec.ofChange Rows.fnExactHostOutSpec) own started (by kernel_rfl) func4
    (witness_row_at (enc := enc) (C := Tryz.checked) false (laidWorld os) args0 rfl (by kernel_rfl) (by kernel_rfl) (by kernel_rfl)
      (OpenSpec.preRow_of_cond 8 hx (by kernel_rfl) (fun k hk => by cases hk) (by kernel_rfl) (laid_met os))) ?_
  intro W base args ds gs before hval hW _ _ _ _ hS _
  exact hE H enc W base args ds gs before hval hW hS
theorem said (hE : Every) : Rows.FnExactHostOutSaid :=
  OpenClaim.holds_of_cond 4 Tryz.f4 rfl rfl rfl rfl rfl rfl rfl ⟨rfl, rfl, rfl, rfl, rfl⟩ rfl rfl rfl rfl rfl (by kernel_rfl) func4 (by kernel_rfl)
    (of_decide_eq_true (by kernel_rfl)) (by unfold Func.isWrapper; first | (rw [if_pos (by decide +kernel)]; kernel_rfl) | (rw [if_neg (by decide +kernel)]; exact ⟨rfl, rfl⟩))
    (fun os started H enc _ F => by rw [OpenClaim.pre_eq_preRow]; exact lifted hE os started H enc F)
theorem params4 : Tryz.f4.params = #[32, 3, 34, 3, 3] := rfl
theorem plain (f : FuncId) (fn : Func) (hf : Tryz.pinned.checked.prog.funcNamed "loop.example/satchel/laws.FnExactHostOut" = some f) (hfn : Tryz.pinned.checked.prog.funcs[f]? = some fn) :
    false = Tryz.pinned.checked.prog.looks [] ∧ ∀ (j : Nat) t, fn.params[j]? = some t → Tryz.pinned.checked.prog.wantsStandIn t = false := by
  obtain rfl : f = 4 := Option.some.inj ((show Tryz.prog.funcNamed "loop.example/satchel/laws.FnExactHostOut" = some 4 by kernel_rfl).symm.trans hf) |>.symm
  obtain rfl : fn = Tryz.f4 := (Option.some.inj (func4.symm.trans hfn)).symm
  refine ⟨by kernel_rfl, fun j t ht => ?_⟩
  rw [params4] at ht
  have hm : t ∈ [32, 3, 34, 3, 3] := by simpa using Array.mem_of_getElem? ht
  have hall : ([32, 3, 34, 3, 3].all fun u => !Tryz.prog.wantsStandIn u) = true := by kernel_rfl
  exact (show Tryz.prog.wantsStandIn t = false by simpa using List.all_eq_true.1 hall t hm)
theorem card_of (hE : Every) : Rows.FnExactHostOutCardSaid :=
  Claim7.holds_tied_plain_at .later [] _ _ _ _ (said hE) (fun _ h => by cases h) (by kernel_rfl) (fun _ h => by cases h) fnExactHostOut_row_tie rfl ⟨rfl, rfl⟩ (by kernel_rfl) rfl plain (by kernel_rfl)
end Go.Proofs.YtakcecnegfihkaaGreatDoor
namespace Go.V
open Go Go.Proofs Go.ChangeShapes Go.WideShapes Go.ChangeAt Go.RowKit
set_option maxRecDepth 100000
set_option linter.unusedVariables false
section
variable {H : Type} {P : Program} {enc : TypeId × Value → H} {w : World} {base : Nat} {spare : Nat → Bool} {held : Bool}
theorem trodAll_five {t t' t'' t3 t4 : TypeId} {args : Array Value} {ds : List (DataW H)} {ps : List MemPlace} (h : DataW.TrodAll enc P w base spare held [t, t', t'', t3, t4] args.toList ds ps) :
    ∃ v v' v'' v3 v4 d d' d'' d3 d4 p p' p'' p3 p4, args = #[v, v', v'', v3, v4] ∧ ds = [d, d', d'', d3, d4] ∧ ps = p ++ p' ++ p'' ++ p3 ++ p4 ∧ DataW.Trod enc P w base spare held t v d p ∧ DataW.Trod enc P w base spare held t' v' d' p' ∧ DataW.Trod enc P w base spare held t'' v'' d'' p'' ∧ DataW.Trod enc P w base spare held t3 v3 d3 p3 ∧ DataW.Trod enc P w base spare held t4 v4 d4 p4 := by
  obtain ⟨v, vs, d, ds', p, q, hargs, rfl, rfl, hd, hrest⟩ := trodAll_cons h
  obtain ⟨v', vs', d', ds'', p', q', rfl, rfl, rfl, hd', hrest'⟩ := trodAll_cons hrest
  obtain ⟨v'', vs'', d'', ds''', p'', q'', rfl, rfl, rfl, hd'', hrest''⟩ := trodAll_cons hrest'
  obtain ⟨v3, vs3, d3, ds3, p3, q3, rfl, rfl, rfl, hd3, hrest3⟩ := trodAll_cons hrest''
  obtain ⟨v4, vs4, d4, ds4, p4, q4, rfl, rfl, rfl, hd4, hrest4⟩ := trodAll_cons hrest3
  obtain ⟨rfl, rfl, rfl⟩ := trodAll_nil hrest4
  exact ⟨v, v', v'', v3, v4, d, d', d'', d3, d4, p, p', p'', p3, p4, by cases args; simp_all, rfl, by simp, hd, hd', hd'', hd3, hd4⟩
theorem trodAll_mk5 {t t' t'' t3 t4 : TypeId} {v v' v'' v3 v4 : Value} {d d' d'' d3 d4 : DataW H} {p p' p'' p3 p4 : List MemPlace} (h : DataW.Trod enc P w base spare held t v d p) (h' : DataW.Trod enc P w base spare held t' v' d' p')
    (h'' : DataW.Trod enc P w base spare held t'' v'' d'' p'') (h3 : DataW.Trod enc P w base spare held t3 v3 d3 p3) (h4 : DataW.Trod enc P w base spare held t4 v4 d4 p4) : DataW.TrodAll enc P w base spare held [t, t', t'', t3, t4] [v, v', v'', v3, v4] [d, d', d'', d3, d4] (p ++ (p' ++ (p'' ++ (p3 ++ p4)))) := ⟨p, p' ++ (p'' ++ (p3 ++ p4)), h, trodAll_mk4 h' h'' h3 h4, rfl⟩
end
set_option maxHeartbeats 4000000 in
theorem con4 (m : Int) (h : Hs) (n : Int) (a : Ad) (out : Int) (w : Int) : Con Tryz.prog m 4 ((lc EHs.ag (lc AInt (lc EAd.ag (lc AInt (lc AInt l0))))).enc (h, n, a, out, w, ())) ((lc EHs.ag (lc AInt (lc EAd.ag (lc AInt (lc AInt l0))))).enc (h, n, a, out, w, ())) (.t (.v (.bool true))) := by
  have g0 : GOk Tryz.prog (Gof m []) ∧ GDet (Gof m []) := GOk_nil
  have g1 := GOk_cons g0 (good17 g0)
  have g2 := GOk_cons g1 (good28 g1)
  have g3 := GOk_cons g2 (good194 g2 ⟨rfl, rfl⟩)
  have g4 := GOk_cons g3 (good153 g3 rfl)
  have g5 := GOk_cons g4 (good81 g4 ⟨rfl, rfl⟩)
  have g6 := GOk_cons g5 (good25 g5 rfl)
  have g7 := GOk_cons g6 (good151 g6)
  have g8 := GOk_cons g7 (good79 g7 rfl)
  have g9 := GOk_cons g8 (good23 g8 ⟨rfl, rfl⟩)
  have g10 := GOk_cons g9 (good82 g9 rfl)
  have g11 := GOk_cons g10 (good26 g10 rfl)
  have g12 := GOk_cons g11 (good211 g11 rfl)
  have g13 := GOk_cons g12 (good193 g12 rfl)
  have g14 := GOk_cons g13 (good152 g13 ⟨rfl, rfl, rfl⟩)
  have g15 := GOk_cons g14 (good80 g14 rfl)
  have g16 := GOk_cons g15 (good24 g15 rfl)
  have g17 := GOk_cons g16 (good6 g16 ⟨rfl, rfl, rfl, rfl⟩)
  have g18 := GOk_cons g17 (good19 g17)
  have g19 := GOk_cons g18 (good40 g18)
  have g20 := GOk_cons g19 (good198 g19 ⟨rfl, rfl⟩)
  have g21 := GOk_cons g20 (good162 g20 rfl)
  have g22 := GOk_cons g21 (good100 g21 ⟨rfl, rfl⟩)
  have g23 := GOk_cons g22 (good37 g22 rfl)
  have g24 := GOk_cons g23 (good160 g23)
  have g25 := GOk_cons g24 (good98 g24 rfl)
  have g26 := GOk_cons g25 (good35 g25 ⟨rfl, rfl⟩)
  have g27 := GOk_cons g26 (good101 g26 rfl)
  have g28 := GOk_cons g27 (good38 g27 rfl)
  have g29 := GOk_cons g28 (good212 g28 rfl)
  have g30 := GOk_cons g29 (good197 g29 rfl)
  have g31 := GOk_cons g30 (good161 g30 ⟨rfl, rfl, rfl⟩)
  have g32 := GOk_cons g31 (good99 g31 rfl)
  have g33 := GOk_cons g32 (good36 g32 rfl)
  have g34 := GOk_cons g33 (good9 g33 ⟨rfl, rfl, rfl, rfl⟩)
  have g35 := GOk_cons g34 (good53 g34)
  have g36 := GOk_cons g35 (good55 g35)
  have g37 := GOk_cons g36 (good207 g36 ⟨rfl, rfl⟩)
  have g38 := GOk_cons g37 (good183 g37 rfl)
  have g39 := GOk_cons g38 (good123 g38 ⟨rfl, rfl⟩)
  have g40 := GOk_cons g39 (good51 g39 rfl)
  have g41 := GOk_cons g40 (good181 g40)
  have g42 := GOk_cons g41 (good121 g41 rfl)
  have g43 := GOk_cons g42 (good49 g42 ⟨rfl, rfl⟩)
  have g44 := GOk_cons g43 (good124 g43 rfl)
  have g45 := GOk_cons g44 (good52 g44 rfl)
  have g46 := GOk_cons g45 (good225 g45 rfl)
  have g47 := GOk_cons g46 (good206 g46 rfl)
  have g48 := GOk_cons g47 (good182 g47 ⟨rfl, rfl, rfl⟩)
  have g49 := GOk_cons g48 (good122 g48 rfl)
  have g50 := GOk_cons g49 (good50 g49 rfl)
  have g51 := GOk_cons g50 (good12 g50 ⟨rfl, rfl, rfl, rfl⟩)
  have g52 := GOk_cons g51 (good127 g51)
  have g53 := GOk_cons g52 (good61 g52 rfl)
  have g54 := GOk_cons g53 (good128 g53 ⟨rfl, rfl⟩)
  have g55 := GOk_cons g54 (good58 g54 ⟨rfl, rfl⟩)
  have g56 := GOk_cons g55 (good125 g55 rfl)
  have g57 := GOk_cons g56 (good56 g56 ⟨rfl, rfl⟩)
  have g58 := GOk_cons g57 (good59 g57 rfl)
  have g59 := GOk_cons g58 (good184 g58 rfl)
  have g60 := GOk_cons g59 (good126 g59 ⟨rfl, rfl, rfl⟩)
  have g61 := GOk_cons g60 (good57 g60 rfl)
  have g62 := GOk_cons g61 (good14 g61 ⟨rfl, rfl, rfl, rfl⟩)
  have g63 := GOk_cons g62 (good129 g62 rfl)
  have g64 := GOk_cons g63 (good132 g63 ⟨rfl, rfl⟩)
  have g65 := GOk_cons g64 (good64 g64 ⟨rfl, rfl⟩)
  have g66 := GOk_cons g65 (good130 g65 rfl)
  have g67 := GOk_cons g66 (good62 g66 ⟨rfl, rfl⟩)
  have g68 := GOk_cons g67 (good65 g67 rfl)
  have g69 := GOk_cons g68 (good185 g68 rfl)
  have g70 := GOk_cons g69 (good131 g69 ⟨rfl, rfl, rfl⟩)
  have g71 := GOk_cons g70 (good63 g70 rfl)
  have g72 := GOk_cons g71 (good16 g71 ⟨rfl, rfl, rfl, rfl⟩)
  have g73 := GOk_cons g72 (good158 g72)
  have g74 := GOk_cons g73 (good92 g73 rfl)
  have g75 := GOk_cons g74 (good32 g74)
  have g76 := GOk_cons g75 (good157 g75 rfl)
  have g77 := GOk_cons g76 (good195 g76)
  have g78 := GOk_cons g77 (good154 g77 ⟨rfl, rfl⟩)
  have g79 := GOk_cons g78 (good90 g78 ⟨rfl, rfl⟩)
  have g80 := GOk_cons g79 (good91 g79)
  have g81 := GOk_cons g80 (good83 g80 ⟨rfl, rfl, rfl⟩)
  have g82 := GOk_cons g81 (good84 g81)
  have g83 := GOk_cons g82 (good85 g82)
  have g84 := GOk_cons g83 (good86 g83 rfl)
  have g85 := GOk_cons g84 (good196 g84 ⟨rfl, rfl⟩)
  have g86 := GOk_cons g85 (good155 g85 ⟨rfl, rfl, rfl, rfl, rfl⟩)
  have g87 := GOk_cons g86 (good87 g86 ⟨rfl, rfl⟩)
  have g88 := GOk_cons g87 (good29 g87 ⟨rfl, rfl, rfl, rfl, rfl⟩)
  have g89 := GOk_cons g88 (good88 g88)
  have g90 := GOk_cons g89 (good156 g89)
  have g91 := GOk_cons g90 (good89 g90 rfl)
  have g92 := GOk_cons g91 (good30 g91 ⟨rfl, rfl⟩)
  have g93 := GOk_cons g92 (good66 g92)
  have g94 := GOk_cons g93 (good67 g93)
  have g95 := GOk_cons g94 (good133 g94 rfl)
  have g96 := GOk_cons g95 (good186 g95)
  have g97 := GOk_cons g96 (good134 g96 ⟨rfl, rfl⟩)
  have g98 := GOk_cons g97 (good94 g97)
  have g99 := GOk_cons g98 (good187 g98)
  have g100 := GOk_cons g99 (good208 g99 rfl)
  have g101 := GOk_cons g100 (good188 g100 ⟨rfl, rfl⟩)
  have g102 := GOk_cons g101 (good97 g101)
  have g103 := GOk_cons g102 (good135 g102 ⟨rfl, rfl, rfl, rfl, rfl, rfl⟩)
  have g104 := GOk_cons g103 (good68 g103 ⟨rfl, rfl, rfl, rfl, rfl⟩)
  have g105 := GOk_cons g104 (good18 g104 ⟨rfl, rfl, rfl, rfl, rfl, rfl⟩)
  have g106 := GOk_consX g105 (good232 m)
  have g107 := GOk_cons g106 (good223 g106 rfl)
  have g108 := GOk_consX g107 (good243 m)
  have g109 := GOk_cons g108 (good237 g108 rfl)
  have g110 := GOk_consX g109 (good238 m)
  have g111 := GOk_cons g110 (good239 g110)
  have g112 := GOk_cons g111 (good244 g111)
  have g113 := GOk_cons g112 (good240 g112 rfl)
  have g114 := GOk_cons g113 (good233 g113 ⟨rfl, rfl, rfl, rfl⟩)
  have g115 := GOk_cons g114 (good224 g114 rfl)
  have g116 := GOk_cons g115 (good205 g115 ⟨rfl, rfl⟩)
  have g117 := GOk_cons g116 (good179 g116 rfl)
  have g118 := GOk_cons g117 (good70 g117)
  have g119 := GOk_cons g118 (good215 g118)
  have g120 := GOk_cons g119 (good227 g119)
  have g121 := GOk_cons g120 (good216 g120 rfl)
  have g122 := GOk_cons g121 (good217 g121 rfl)
  have g123 := GOk_cons g122 (good201 g122 ⟨rfl, rfl, rfl⟩)
  have g124 := GOk_cons g123 (good171 g123 ⟨rfl, rfl⟩)
  have g125 := GOk_cons g124 (good118 g124 ⟨rfl, rfl⟩)
  have g126 := GOk_cons g125 (good170 g125)
  have g127 := GOk_cons g126 (good169 g126 rfl)
  have g128 := GOk_cons g127 (good163 g127 rfl)
  have g129 := GOk_cons g128 (good199 g128 ⟨rfl, rfl⟩)
  have g130 := GOk_cons g129 (good165 g129 rfl)
  have g131 := GOk_cons g130 (good164 g130 rfl)
  have g132 := GOk_cons g131 (good200 g131 rfl)
  have g133 := GOk_cons g132 (good166 g132 rfl)
  have g134 := GOk_cons g133 (good102 g133 ⟨rfl, rfl, rfl⟩)
  have g135 := GOk_cons g134 (good107 g134 ⟨rfl, rfl⟩)
  have g136 := GOk_cons g135 (good71 g135 rfl)
  have g137 := GOk_cons g136 (good168 g136)
  have g138 := GOk_cons g137 (good105 g137 ⟨rfl, rfl⟩)
  have g139 := GOk_cons g138 (good116 g138)
  have g140 := GOk_cons g139 (good106 g139 rfl)
  have g141 := GOk_cons g140 (good167 g140 ⟨rfl, rfl, rfl, rfl, rfl, rfl⟩)
  have g142 := GOk_cons g141 (good103 g141 ⟨rfl, rfl⟩)
  have g143 := GOk_cons g142 (good202 g142)
  have g144 := GOk_cons g143 (good172 g143 rfl)
  have g145 := GOk_cons g144 (good108 g144 rfl)
  have g146 := GOk_cons g145 (good104 g145 ⟨rfl, rfl⟩)
  have g147 := GOk_cons g146 (good173 g146 rfl)
  have g148 := GOk_cons g147 (good109 g147 rfl)
  have g149 := GOk_consX g148 (good220 m)
  have g150 := GOk_cons g149 (good203 g149 rfl)
  have g151 := GOk_cons g150 (good175 g150 rfl)
  have g152 := GOk_cons g151 (good174 g151)
  have g153 := GOk_cons g152 (good110 g152 ⟨rfl, rfl⟩)
  have g154 := GOk_cons g153 (good41 g153 ⟨rfl, rfl, rfl, rfl, rfl, rfl⟩)
  have g155 := GOk_cons g154 (good78 g154)
  have g156 := GOk_cons g155 (good176 g155)
  have g157 := GOk_cons g156 (good111 g156 ⟨rfl, rfl⟩)
  have g158 := GOk_cons g157 (good177 g157)
  have g159 := GOk_cons g158 (good112 g158 ⟨rfl, rfl⟩)
  have g160 := GOk_cons g159 (good113 g159)
  have g161 := GOk_cons g160 (good42 g160 ⟨rfl, rfl, rfl, rfl⟩)
  have g162 := GOk_cons g161 (good137 g161)
  have g163 := GOk_cons g162 (good136 g162 rfl)
  have g164 := GOk_cons g163 (good139 g163)
  have g165 := GOk_cons g164 (good138 g164 rfl)
  have g166 := GOk_cons g165 (good69 g165 ⟨rfl, rfl⟩)
  have g167 := GOk_cons g166 (good140 g166)
  have g168 := GOk_cons g167 (good141 g167)
  have g169 := GOk_cons g168 (good72 g168 ⟨rfl, rfl, rfl, rfl, rfl⟩)
  have g170 := GOk_cons g169 (good142 g169 rfl)
  have g171 := GOk_cons g170 (good73 g170 ⟨rfl, rfl, rfl, rfl, rfl⟩)
  have g172 := GOk_cons g171 (good189 g171 rfl)
  have g173 := GOk_cons g172 (good209 g172)
  have g174 := GOk_cons g173 (good190 g173 rfl)
  have g175 := GOk_cons g174 (good144 g174 rfl)
  have g176 := GOk_cons g175 (good143 g175 ⟨rfl, rfl, rfl, rfl, rfl⟩)
  have g177 := GOk_cons g176 (good115 g176 rfl)
  have g178 := GOk_cons g177 (good117 g177 rfl)
  have g179 := GOk_cons g178 (good46 g178 rfl)
  have g180 := GOk_cons g179 (good45 g179 ⟨rfl, rfl, rfl, rfl, rfl⟩)
  have g181 := GOk_cons g180 (good120 g180)
  have g182 := GOk_cons g181 (good48 g181 ⟨rfl, rfl, rfl, rfl, rfl, rfl⟩)
  have g183 := GOk_cons g182 (good74 g182 ⟨rfl, rfl, rfl, rfl⟩)
  have g184 := GOk_cons g183 (good20 g183 ⟨rfl, rfl, rfl, rfl, rfl, rfl, rfl, rfl⟩)
  have hg := good4 g184 ⟨rfl, rfl, rfl, rfl, rfl, rfl, rfl, rfl, rfl, rfl⟩
  obtain ⟨res, h1, _, h3, _⟩ := hg.ro ((lc EHs.ag (lc AInt (lc EAd.ag (lc AInt (lc AInt l0))))).enc (h, n, a, out, w, ())) (fun r => r = .t (.v (.bool true))) (by
    show c4 _ _
    rw [c4, ctR_eq, (lc EHs.ag (lc AInt (lc EAd.ag (lc AInt (lc AInt l0))))).ed]
    exact ⟨trivial, rfl⟩)
  rw [h1] at h3
  exact h3
section
variable {H : Type} {enc : TypeId × Value → H} {W : World}
noncomputable def fsOf (t : TypeId) : Array Field := match Tryz.prog.underlying t with | some (.struct fs) => fs | _ => #[]
theorem v9 : Tryz.prog.underlying 9 = some .string := by kernel_rfl
theorem w9 : Tryz.prog.cellsOf 9 = 1 := by kernel_rfl
theorem rdStr : Rd Tryz.prog W enc 9 fun ts => ∃ a, ts = EStr.enc a := fun n cs x h => Rd.str v9 n cs x h
theorem v22 : Tryz.prog.underlying 22 = some (.slice 9) := by kernel_rfl
theorem w22 : Tryz.prog.cellsOf 22 = 1 := by kernel_rfl
theorem v192 : Tryz.prog.underlying 192 = some (.struct (fsOf 192)) := by kernel_rfl
theorem l192 : ((fsOf 192).toList.map fun f => (f.type, f.offset)) = [(9, 0), (9, 1)] := by kernel_rfl
theorem w192 : Tryz.prog.cellsOf 192 = 2 := by kernel_rfl
theorem rdWy : Rd Tryz.prog W enc 192 fun ts => ∃ a, ts = EWy.enc a := fun n cs x h => by
  have hl := Rd.len v192 h
  rw [w192] at hl
  obtain ⟨_, ⟨a0, rfl⟩, h0⟩ := Rd.field v192 h l192 (i := 0) rfl w9 (Rd.str v9)
  obtain ⟨_, ⟨a1, rfl⟩, h1⟩ := Rd.field v192 h l192 (i := 1) rfl w9 (Rd.str v9)
  exact ⟨_, ⟨⟨a0, a1⟩, rfl⟩, (RoL.cut 0 1 h0 (RoL.cut 1 1 h1 (RoL.stop hl)))⟩
theorem v23 : Tryz.prog.underlying 23 = some (.slice 192) := by kernel_rfl
theorem w23 : Tryz.prog.cellsOf 23 = 1 := by kernel_rfl
theorem v25 : Tryz.prog.underlying 25 = some (.struct (fsOf 25)) := by kernel_rfl
theorem l25 : ((fsOf 25).toList.map fun f => (f.type, f.offset)) = [(9, 0), (22, 1), (23, 2)] := by kernel_rfl
theorem w25 : Tryz.prog.cellsOf 25 = 3 := by kernel_rfl
theorem rdCf : Rd Tryz.prog W enc 25 fun ts => ∃ a, ts = ECf.enc a := fun n cs x h => by
  have hl := Rd.len v25 h
  rw [w25] at hl
  obtain ⟨_, ⟨a0, rfl⟩, h0⟩ := Rd.field v25 h l25 (i := 0) rfl w9 (Rd.str v9)
  obtain ⟨_, ⟨a1, rfl⟩, h1⟩ := Rd.field v25 h l25 (i := 1) rfl w22 (Rd.slice EStr v22 w9 (by decide) rdStr)
  obtain ⟨_, ⟨a2, rfl⟩, h2⟩ := Rd.field v25 h l25 (i := 2) rfl w23 (Rd.slice EWy v23 w192 (by decide) rdWy)
  exact ⟨_, ⟨⟨a0, a1, a2⟩, rfl⟩, (RoL.cut 0 1 h0 (RoL.cut 1 1 h1 (RoL.cut 2 1 h2 (RoL.stop hl))))⟩
theorem v3 : Tryz.prog.underlying 3 = some (.int .i64) := by kernel_rfl
theorem w3 : Tryz.prog.cellsOf 3 = 1 := by kernel_rfl
theorem rdInt : Rd Tryz.prog W enc 3 fun ts => ∃ a, ts = EInt.enc a := fun n cs x h => Rd.int v3 n cs x h
theorem v34 : Tryz.prog.underlying 34 = some (.struct (fsOf 34)) := by kernel_rfl
theorem l34 : ((fsOf 34).toList.map fun f => (f.type, f.offset)) = [(9, 0), (9, 1)] := by kernel_rfl
theorem w34 : Tryz.prog.cellsOf 34 = 2 := by kernel_rfl
theorem rdAd : Rd Tryz.prog W enc 34 fun ts => ∃ a, ts = EAd.enc a := fun n cs x h => by
  have hl := Rd.len v34 h
  rw [w34] at hl
  obtain ⟨_, ⟨a0, rfl⟩, h0⟩ := Rd.field v34 h l34 (i := 0) rfl w9 (Rd.str v9)
  obtain ⟨_, ⟨a1, rfl⟩, h1⟩ := Rd.field v34 h l34 (i := 1) rfl w9 (Rd.str v9)
  exact ⟨_, ⟨⟨a0, a1⟩, rfl⟩, (RoL.cut 0 1 h0 (RoL.cut 1 1 h1 (RoL.stop hl)))⟩
theorem v244 : Tryz.prog.underlying 244 = some (.struct (fsOf 244)) := by kernel_rfl
theorem l244 : ((fsOf 244).toList.map fun f => (f.type, f.offset)) = [(34, 0), (3, 2), (3, 3)] := by kernel_rfl
theorem w244 : Tryz.prog.cellsOf 244 = 4 := by kernel_rfl
theorem rdRc : Rd Tryz.prog W enc 244 fun ts => ∃ a, ts = ERc.enc a := fun n cs x h => by
  have hl := Rd.len v244 h
  rw [w244] at hl
  obtain ⟨_, ⟨a0, rfl⟩, h0⟩ := Rd.field v244 h l244 (i := 0) rfl w34 (rdAd)
  obtain ⟨_, ⟨a1, rfl⟩, h1⟩ := Rd.field v244 h l244 (i := 1) rfl w3 (Rd.int v3)
  obtain ⟨_, ⟨a2, rfl⟩, h2⟩ := Rd.field v244 h l244 (i := 2) rfl w3 (Rd.int v3)
  exact ⟨_, ⟨⟨a0, a1, a2⟩, rfl⟩, (RoL.cut 0 2 h0 (RoL.cut 2 1 h1 (RoL.cut 3 1 h2 (RoL.stop hl))))⟩
theorem v194 : Tryz.prog.underlying 194 = some (.slice 244) := by kernel_rfl
theorem w194 : Tryz.prog.cellsOf 194 = 1 := by kernel_rfl
theorem v196 : Tryz.prog.underlying 196 = some (.struct (fsOf 196)) := by kernel_rfl
theorem l196 : ((fsOf 196).toList.map fun f => (f.type, f.offset)) = [(3, 0), (34, 1), (194, 3), (22, 4)] := by kernel_rfl
theorem w196 : Tryz.prog.cellsOf 196 = 5 := by kernel_rfl
theorem rdIm : Rd Tryz.prog W enc 196 fun ts => ∃ a, ts = EIm.enc a := fun n cs x h => by
  have hl := Rd.len v196 h
  rw [w196] at hl
  obtain ⟨_, ⟨a0, rfl⟩, h0⟩ := Rd.field v196 h l196 (i := 0) rfl w3 (Rd.int v3)
  obtain ⟨_, ⟨a1, rfl⟩, h1⟩ := Rd.field v196 h l196 (i := 1) rfl w34 (rdAd)
  obtain ⟨_, ⟨a2, rfl⟩, h2⟩ := Rd.field v196 h l196 (i := 2) rfl w194 (Rd.slice ERc v194 w244 (by decide) rdRc)
  obtain ⟨_, ⟨a3, rfl⟩, h3⟩ := Rd.field v196 h l196 (i := 3) rfl w22 (Rd.slice EStr v22 w9 (by decide) rdStr)
  exact ⟨_, ⟨⟨a0, a1, a2, a3⟩, rfl⟩, (RoL.cut 0 1 h0 (RoL.cut 1 2 h1 (RoL.cut 3 1 h2 (RoL.cut 4 1 h3 (RoL.stop hl)))))⟩
theorem v26 : Tryz.prog.underlying 26 = some (.slice 196) := by kernel_rfl
theorem w26 : Tryz.prog.cellsOf 26 = 1 := by kernel_rfl
theorem v28 : Tryz.prog.underlying 28 = some (.struct (fsOf 28)) := by kernel_rfl
theorem l28 : ((fsOf 28).toList.map fun f => (f.type, f.offset)) = [(3, 0), (26, 1)] := by kernel_rfl
theorem w28 : Tryz.prog.cellsOf 28 = 2 := by kernel_rfl
theorem rdSp : Rd Tryz.prog W enc 28 fun ts => ∃ a, ts = ESp.enc a := fun n cs x h => by
  have hl := Rd.len v28 h
  rw [w28] at hl
  obtain ⟨_, ⟨a0, rfl⟩, h0⟩ := Rd.field v28 h l28 (i := 0) rfl w3 (Rd.int v3)
  obtain ⟨_, ⟨a1, rfl⟩, h1⟩ := Rd.field v28 h l28 (i := 1) rfl w26 (Rd.slice EIm v26 w196 (by decide) rdIm)
  exact ⟨_, ⟨⟨a0, a1⟩, rfl⟩, (RoL.cut 0 1 h0 (RoL.cut 1 1 h1 (RoL.stop hl)))⟩
theorem v229 : Tryz.prog.underlying 229 = some (.struct (fsOf 229)) := by kernel_rfl
theorem l229 : ((fsOf 229).toList.map fun f => (f.type, f.offset)) = [(34, 0), (22, 2)] := by kernel_rfl
theorem w229 : Tryz.prog.cellsOf 229 = 3 := by kernel_rfl
theorem rdGm : Rd Tryz.prog W enc 229 fun ts => ∃ a, ts = EGm.enc a := fun n cs x h => by
  have hl := Rd.len v229 h
  rw [w229] at hl
  obtain ⟨_, ⟨a0, rfl⟩, h0⟩ := Rd.field v229 h l229 (i := 0) rfl w34 (rdAd)
  obtain ⟨_, ⟨a1, rfl⟩, h1⟩ := Rd.field v229 h l229 (i := 1) rfl w22 (Rd.slice EStr v22 w9 (by decide) rdStr)
  exact ⟨_, ⟨⟨a0, a1⟩, rfl⟩, (RoL.cut 0 2 h0 (RoL.cut 2 1 h1 (RoL.stop hl)))⟩
theorem v124 : Tryz.prog.underlying 124 = some (.slice 229) := by kernel_rfl
theorem w124 : Tryz.prog.cellsOf 124 = 1 := by kernel_rfl
theorem v126 : Tryz.prog.underlying 126 = some (.struct (fsOf 126)) := by kernel_rfl
theorem l126 : ((fsOf 126).toList.map fun f => (f.type, f.offset)) = [(34, 0), (124, 2)] := by kernel_rfl
theorem w126 : Tryz.prog.cellsOf 126 = 3 := by kernel_rfl
theorem rdBx : Rd Tryz.prog W enc 126 fun ts => ∃ a, ts = EBx.enc a := fun n cs x h => by
  have hl := Rd.len v126 h
  rw [w126] at hl
  obtain ⟨_, ⟨a0, rfl⟩, h0⟩ := Rd.field v126 h l126 (i := 0) rfl w34 (rdAd)
  obtain ⟨_, ⟨a1, rfl⟩, h1⟩ := Rd.field v126 h l126 (i := 1) rfl w124 (Rd.slice EGm v124 w229 (by decide) rdGm)
  exact ⟨_, ⟨⟨a0, a1⟩, rfl⟩, (RoL.cut 0 2 h0 (RoL.cut 2 1 h1 (RoL.stop hl)))⟩
theorem v29 : Tryz.prog.underlying 29 = some (.slice 126) := by kernel_rfl
theorem w29 : Tryz.prog.cellsOf 29 = 1 := by kernel_rfl
theorem v129 : Tryz.prog.underlying 129 = some (.struct (fsOf 129)) := by kernel_rfl
theorem l129 : ((fsOf 129).toList.map fun f => (f.type, f.offset)) = [(9, 0), (34, 1)] := by kernel_rfl
theorem w129 : Tryz.prog.cellsOf 129 = 3 := by kernel_rfl
theorem rdLs : Rd Tryz.prog W enc 129 fun ts => ∃ a, ts = ELs.enc a := fun n cs x h => by
  have hl := Rd.len v129 h
  rw [w129] at hl
  obtain ⟨_, ⟨a0, rfl⟩, h0⟩ := Rd.field v129 h l129 (i := 0) rfl w9 (Rd.str v9)
  obtain ⟨_, ⟨a1, rfl⟩, h1⟩ := Rd.field v129 h l129 (i := 1) rfl w34 (rdAd)
  exact ⟨_, ⟨⟨a0, a1⟩, rfl⟩, (RoL.cut 0 1 h0 (RoL.cut 1 2 h1 (RoL.stop hl)))⟩
theorem v30 : Tryz.prog.underlying 30 = some (.slice 129) := by kernel_rfl
theorem w30 : Tryz.prog.cellsOf 30 = 1 := by kernel_rfl
theorem v32 : Tryz.prog.underlying 32 = some (.struct (fsOf 32)) := by kernel_rfl
theorem l32 : ((fsOf 32).toList.map fun f => (f.type, f.offset)) = [(25, 0), (28, 3), (29, 5), (30, 6)] := by kernel_rfl
theorem w32 : Tryz.prog.cellsOf 32 = 7 := by kernel_rfl
theorem rdHs : Rd Tryz.prog W enc 32 fun ts => ∃ a, ts = EHs.enc a := fun n cs x h => by
  have hl := Rd.len v32 h
  rw [w32] at hl
  obtain ⟨_, ⟨a0, rfl⟩, h0⟩ := Rd.field v32 h l32 (i := 0) rfl w25 (rdCf)
  obtain ⟨_, ⟨a1, rfl⟩, h1⟩ := Rd.field v32 h l32 (i := 1) rfl w28 (rdSp)
  obtain ⟨_, ⟨a2, rfl⟩, h2⟩ := Rd.field v32 h l32 (i := 2) rfl w29 (Rd.slice EBx v29 w126 (by decide) rdBx)
  obtain ⟨_, ⟨a3, rfl⟩, h3⟩ := Rd.field v32 h l32 (i := 3) rfl w30 (Rd.slice ELs v30 w129 (by decide) rdLs)
  exact ⟨_, ⟨⟨a0, a1, a2, a3⟩, rfl⟩, (RoL.cut 0 3 h0 (RoL.cut 3 2 h1 (RoL.cut 5 1 h2 (RoL.cut 6 1 h3 (RoL.stop hl)))))⟩
theorem glOk_of (h : W.ShapedOpen Tryz.prog) : ∃ m, GlOk m W (pW W) := by
  obtain ⟨cs, h1, h2, h3⟩ := h.1 0 #[.int .i64 0] 3 (Nat.lt_of_lt_of_le (Nat.lt_succ_self 0) (Nat.le_of_ble_eq_true (by kernel_rfl))) (by kernel_rfl)
  obtain ⟨ts, t1, _, t3⟩ := h3 (by kernel_rfl)
  have hts : ts = [3] := Option.some.inj (t1.symm.trans (by kernel_rfl))
  subst hts
  have hsz : cs.size = 1 := h2
  have h0 : cs[0]? = some cs[0] := Array.getElem?_eq_getElem (by omega)
  obtain ⟨u, hu, hok⟩ := t3 0 _ h0
  simp at hu
  subst hu
  unfold Cell.ok at hok
  rw [v3] at hok
  generalize cs[0] = v at h0 hok
  have hb : (0 : Nat) < W.heap.size := (Array.getElem?_eq_some_iff.1 h1).1
  cases v with
  | int k n =>
    have hk : k = .i64 := hok.1
    subst hk
    refine ⟨n, .rop _ _ [.int .i64 n] (fun _ => hb) (fun j u hj => ?_) (.cons _ _ _ _ (.v _ trivial) .nil)⟩
    cases j with
    | zero =>
      simp at hj
      subst hj
      simp [World.cell?, Addr.add, glb, h1, h0]
    | succ j => simp at hj
  | _ => exact hok.elim
end
theorem every : YtakcecnegfihkaaGreatDoor.Every := by
  intro H enc W base args ds gs before hval0 hW hS
  have hval : ∀ (j : Nat) t v, Tryz.f4.params[j]? = some t → args[j]? = some v → Value.okWide Tryz.prog W .any base t v := hval0
  have hW' := hW
  obtain ⟨p, q, hA0, hV, rfl, hfz, hnd⟩ := hW
  have hA : DataW.TrodAll enc Tryz.prog W 0 (fun _ => true) true [32, 3, 34, 3, 3] args.toList ds p := hA0
  rw [YtakcecnegfihkaaGreatDoor.params4] at hval
  obtain ⟨u0, u1, u2, u3, u4, d0, d1, d2, d3, d4, p0, p1, p2, p3, p4, rfl, rfl, rfl, h0, h1, h2, h3, h4⟩ := trodAll_five hA
  obtain ⟨rfl, rfl⟩ := trodVars_none hV
  have hlt : ∀ x ∈ (p0 ++ p1 ++ p2 ++ p3 ++ p4) ++ [], x.block < W.heap.size := fun x hx => hW'.lt x hx
  have k0 := h0
  obtain ⟨n0, t0⟩ := h0
  obtain ⟨_, ⟨h, rfl⟩, r0⟩ := (rdHs) _ _ _ t0
  have k1 := h1
  obtain ⟨n1, t1⟩ := h1
  obtain ⟨_, ⟨n, rfl⟩, r1⟩ := (Rd.int v3) _ _ _ t1
  have k2 := h2
  obtain ⟨n2, t2⟩ := h2
  obtain ⟨_, ⟨a, rfl⟩, r2⟩ := (rdAd) _ _ _ t2
  have k3 := h3
  obtain ⟨n3, t3⟩ := h3
  obtain ⟨_, ⟨out, rfl⟩, r3⟩ := (Rd.int v3) _ _ _ t3
  have k4 := h4
  obtain ⟨n4, t4⟩ := h4
  obtain ⟨_, ⟨w, rfl⟩, r4⟩ := (Rd.int v3) _ _ _ t4
  obtain ⟨cs0, rfl, _, _⟩ : ∃ cs, u0 = .agg cs ∧ cs.size = Tryz.prog.cellsOf 32 ∧ _ := by
    have := hval 0 32 u0 rfl rfl
    unfold Value.okWide at this
    rw [v32] at this
    exact this
  have r0' : RoL W (pW W) (EHs.enc h) cs0.toList := r0
  have a0 : AHas ρ0 W (pW W) (.agg ((EHs.enc h).map .t)) (.agg cs0) [] := by
    have ha : AHas ρ0 W (pW W) (.agg ((EHs.enc h).map .t)) (.agg cs0.toList.toArray) [] := .agg _ _ _ r0'.t r0'.ones
    rwa [Array.toArray_toList] at ha
  have e1 : u1.cells.toList = [u1] := by
    have := hval 1 3 u1 rfl rfl
    unfold Value.okWide at this
    rw [v3] at this
    cases u1 with
    | agg cs => simp only [Cell.okWide, v3, Cell.ok] at this
    | _ => rfl
  rw [e1] at r1
  have r1' : Ro W (pW W) (.v (.int .i64 n)) u1 := by
    cases r1 with | cons _ _ _ _ h _ => exact h
  have a1 : AHas ρ0 W (pW W) (.t (.v (.int .i64 n))) u1 [] := .t _ _ r1'
  obtain ⟨cs2, rfl, _, _⟩ : ∃ cs, u2 = .agg cs ∧ cs.size = Tryz.prog.cellsOf 34 ∧ _ := by
    have := hval 2 34 u2 rfl rfl
    unfold Value.okWide at this
    rw [v34] at this
    exact this
  have r2' : RoL W (pW W) (EAd.enc a) cs2.toList := r2
  have a2 : AHas ρ0 W (pW W) (.agg ((EAd.enc a).map .t)) (.agg cs2) [] := by
    have ha : AHas ρ0 W (pW W) (.agg ((EAd.enc a).map .t)) (.agg cs2.toList.toArray) [] := .agg _ _ _ r2'.t r2'.ones
    rwa [Array.toArray_toList] at ha
  have e3 : u3.cells.toList = [u3] := by
    have := hval 3 3 u3 rfl rfl
    unfold Value.okWide at this
    rw [v3] at this
    cases u3 with
    | agg cs => simp only [Cell.okWide, v3, Cell.ok] at this
    | _ => rfl
  rw [e3] at r3
  have r3' : Ro W (pW W) (.v (.int .i64 out)) u3 := by
    cases r3 with | cons _ _ _ _ h _ => exact h
  have a3 : AHas ρ0 W (pW W) (.t (.v (.int .i64 out))) u3 [] := .t _ _ r3'
  have e4 : u4.cells.toList = [u4] := by
    have := hval 4 3 u4 rfl rfl
    unfold Value.okWide at this
    rw [v3] at this
    cases u4 with
    | agg cs => simp only [Cell.okWide, v3, Cell.ok] at this
    | _ => rfl
  rw [e4] at r4
  have r4' : Ro W (pW W) (.v (.int .i64 w)) u4 := by
    cases r4 with | cons _ _ _ _ h _ => exact h
  have a4 : AHas ρ0 W (pW W) (.t (.v (.int .i64 w))) u4 [] := .t _ _ r4'
  obtain ⟨m, hgl⟩ := glOk_of hS
  have hargs : AHasL ρ0 W (pW W) ((lc EHs.ag (lc AInt (lc EAd.ag (lc AInt (lc AInt l0))))).enc (h, n, a, out, w, ())) [.agg cs0, u1, .agg cs2, u3, u4] [] := .cons _ _ _ _ [] [] a0 (.cons _ _ _ _ [] [] a1 (.cons _ _ _ _ [] [] a2 (.cons _ _ _ _ [] [] a3 (.cons _ _ _ _ [] [] a4 .nil))))
  have hcall := con4 m h n a out w W (pW W) [.agg cs0, u1, .agg cs2, u3, u4] [] hgl hargs .nil (fun b hb => by cases hb) (fun b hb => hb)
  refine Calls.mono hcall fun e W' hq => ?_
  obtain ⟨v, pr', G, F, he, hfr, _, _, _, _, hv, _, _⟩ := hq
  obtain ⟨rfl, _⟩ := hv.val
  have hb : Below W.heap.size W W' := ⟨hfr.os, hfr.tape, hfr.output, hfr.size, fun k hk => hfr.block k hk (by simp)⟩
  refine ⟨_, he, _, _, _, [], p0 ++ p1 ++ p2 ++ p3 ++ p4, [], hW', ?_, ?_, rfl, hb.frame _, fun h => by cases h⟩
  · exact trodAll_mk1 (shut_bool (show Tryz.prog.underlying 4 = some .bool by kernel_rfl) _)
  · have := trodAll_mk5 (Below.trod (by kernel_rfl) (by kernel_rfl) (of_decide_eq_true (by kernel_rfl)) k0 hb fun x hx => hlt x (by simp [hx])) (Below.trod (by kernel_rfl) (by kernel_rfl) (of_decide_eq_true (by kernel_rfl)) k1 hb fun x hx => hlt x (by simp [hx])) (Below.trod (by kernel_rfl) (by kernel_rfl) (of_decide_eq_true (by kernel_rfl)) k2 hb fun x hx => hlt x (by simp [hx])) (Below.trod (by kernel_rfl) (by kernel_rfl) (of_decide_eq_true (by kernel_rfl)) k3 hb fun x hx => hlt x (by simp [hx])) (Below.trod (by kernel_rfl) (by kernel_rfl) (of_decide_eq_true (by kernel_rfl)) k4 hb fun x hx => hlt x (by simp [hx]))
    simp only [List.append_assoc]
    exact this
end Go.V
namespace Go.Proofs.YtakcecnegfihkaaGreatDoor
theorem fnExactHostOut_card : Rows.FnExactHostOutCardSaid := card_of Go.V.every
end Go.Proofs.YtakcecnegfihkaaGreatDoor
