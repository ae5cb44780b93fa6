/- The row. No condition. -/
import Derived.Test.YtndaghjcdacjgaaGreatDoorNB
import Derived.Shelf.Abstract
import Derived.Shelf.RegionOpenPlain
import Derived.WalkKit
import Derived.Deep.LoopGhost
import Derived.Deep.RegionLaw
import Derived.Lib.Walk
import Derived.Sort.WalkB12
import Derived.Lib.SliceRun
import Derived.Lib.SlicesDelete
import Derived.Test.YtndaghjcdacjgaaGreatDoorRA
import Derived.ProofKit
import Derived.Carry
import Derived.Test.YtndaghjcdacjgaaGreatDoorCards
import Derived.Test.YtndaghjcdacjgaaGreatDoorTie
import Derived.OpenShut
import Derived.Deep.DeepHandedRow
namespace Go.V
open Go Go.Proofs
set_option maxRecDepth 100000
set_option linter.unusedSimpArgs false
set_option linter.unusedVariables false
attribute [local go_sem] aPickB.eq_1 aPickB.eq_2 aPick.eq_1 aBox.eq_1 aBox.eq_2 aAlloc.eq_1 aAlloc.eq_2 aLoadB.eq_1 aLoadB.eq_2 aLoadB.eq_3 aLoadB.eq_4 aLoadB.eq_5 aLoadA.eq_1 aLoadA.eq_2 aLoadA.eq_3 aLoadA.eq_4 aLoadA.eq_5 aLoadP.eq_1 aLoadP.eq_2 aLoadP.eq_3 aLoad.eq_1 aLoad.eq_2 aFAx.eq_1 aFAx.eq_2 aFAx.eq_3 aFA.eq_1 aFA.eq_2 aFx.eq_1 aF.eq_1 aF.eq_2 fld.eq_1 elT.eq_1 aIdxH.eq_1 aIdxH.eq_2 aIdxH.eq_3 aIdxH.eq_4 aIdxH.eq_5 aIdxP.eq_1 aIdxP.eq_2 aIndexAddr.eq_1 aIndexAddr.eq_2 aIndexAddr.eq_3 isStr.eq_1 aIndex.eq_1 aSlStr.eq_1 aSlRo.eq_1 aSlZ.eq_1 aSlZ.eq_2 aSlice.eq_1 aSlice.eq_2 aSlice.eq_3 bnd.eq_1 bnd.eq_2 aBuildO.eq_1 aBuildO.eq_2 aBuild.eq_1 aNewArr.eq_1 aNewArr.eq_2 aBS.eq_1 aBS.eq_2 aBuildSlice.eq_1 aBuildSlice.eq_2 aMakeSlice.eq_1 appDeep.eq_1 aApp2.eq_1 aAppend.eq_1 aAppend.eq_2 aStoreB.eq_1 aStoreA.eq_1 obFlat.eq_1 aStore2.eq_1 aStore2.eq_2 aStoreP.eq_1 aStoreP.eq_2 aStore.eq_1 aStore.eq_2 isShl.eq_1 isShl.eq_2 isBool.eq_1 aBinI.eq_1 aBinI.eq_2 aBinB.eq_1 aBinB.eq_2 aEq.eq_1 aEq.eq_2 aEq.eq_3 aEq.eq_4 aEqG.eq_1 aEqG.eq_2 aBin.eq_1 aBin.eq_2 aBin.eq_3 aBin.eq_4 aUn.eq_1 aUn.eq_2 aLenO.eq_1 aLenS.eq_1 aLenS.eq_2 aLenS.eq_3 aLenT.eq_1 aLen.eq_1 aLen.eq_2 aLen.eq_3 bytesOb.eq_1 bytesOb.eq_2 bytesOf.eq_1 bytesOf.eq_2 aNums.eq_1 aNums.eq_2 isU8.eq_1 aCvI.eq_1 aCvS.eq_1 aCvB.eq_1 aCvB.eq_2 aCvT.eq_1 aConv.eq_1 aConv.eq_2 aConv.eq_3 aConv.eq_4 aExO.eq_1 aExO.eq_2 aExtract.eq_1 aNil.eq_1 aNil.eq_2 aNil.eq_3 aCallS.eq_1 aCallS.eq_2 aCallR.eq_1 aCallR.eq_2 aCallK.eq_1 aCallK.eq_2 aCallK.eq_3 aCall.eq_1 aCall.eq_2 takeO.eq_1 AS.takeV.eq_1 AS.takeV.eq_2 AS.takeV.eq_3 AS.takeV.eq_4 AS.takeV.eq_5 AS.takeV.eq_6 AS.takeV.eq_7 AV.oldM.eq_1 AV.oldM.eq_2 AV.oldM.eq_3 AV.oldM.eq_4 AV.oldM.eq_5 AV.oldM.eq_6 AV.oldM.eq_7 AV.oldM.eq_8 AV.oldM.eq_9 AV.oldM.eq_10 AV.oldM.eq_11 AV.oldML.eq_1 AV.oldML.eq_2 subL.eq_1 subL.eq_2 back.eq_1 back.eq_2 back.eq_3 back.eq_4 backL.eq_1 backI.eq_1 backI.eq_2 backI.eq_3 backI.eq_4 backIL.eq_1 aBuiltin.eq_1 aBuiltin.eq_2 aBuiltin.eq_3 aCallee.eq_1 aCallee.eq_2 aCallee.eq_3 abin.eq_1 abin.eq_2 abin.eq_3 abin.eq_4 abin.eq_5 abin.eq_6 abin.eq_7 abin.eq_8 abin.eq_9 abin.eq_10 abin.eq_11 abin.eq_12 abin.eq_13 abin.eq_14 abin.eq_15 abin.eq_17 abin.eq_18 abin.eq_19 abin.eq_20 abin.eq_21 abin.eq_22 abin.eq_23 AS.ev.eq_1 AS.ev.eq_2 AS.ev.eq_3 AS.ev.eq_4 AS.evs.eq_1 AS.evs.eq_2 AS.evp.eq_1 AS.evp.eq_2 AS.put.eq_1 AS.put.eq_2 AS.remL.eq_1 AS.remL.eq_2 AV.has.eq_1 AV.has.eq_2 AV.has.eq_3 AV.has.eq_4 AV.has.eq_5 AV.has.eq_6 AV.has.eq_7 AV.has.eq_8 AV.has.eq_9 AV.has.eq_10 AV.has.eq_11 AV.hasL.eq_1 AV.hasL.eq_2 Ob.drop.eq_1 Ob.drop.eq_2 Ob.drop.eq_3 Ob.drop.eq_4 AV.cells.eq_1 AV.cells.eq_2 AV.cells.eq_3 AV.cells.eq_4 AV.cells.eq_5 AS.snapT.eq_1 AS.snapT.eq_2 AS.snapT.eq_3 AS.snapT.eq_4 AS.snapT.eq_5 AS.snapT.eq_6 AS.snapT.eq_7 AS.snap.eq_1 AS.snap.eq_2 mapO.eq_1 mapO.eq_2 intern.eq_1 intern.eq_2 intern.eq_3 intern.eq_4 intern.eq_5 intern.eq_6 intern.eq_7 intern.eq_8 intern.eq_9 intern.eq_10 intern.eq_11 internL.eq_1 internL.eq_2 zipSl.eq_1 zipSl.eq_2 AV.ids.eq_1 AV.ids.eq_2 AV.ids.eq_3 AV.ids.eq_4 AV.ids.eq_5 AV.ids.eq_6 AV.ids.eq_7 AV.ids.eq_8 AV.ids.eq_9 AV.ids.eq_10 AV.ids.eq_11 AV.idsL.eq_1 AV.idsL.eq_2 AV.sub.eq_1 AV.sub.eq_2 AV.sub.eq_3 AV.sub.eq_4 AV.sub.eq_5 AV.sub.eq_6 AV.sub.eq_7 AV.sub.eq_8 AV.sub.eq_9 AV.sub.eq_10 AV.sub.eq_11 AV.subL.eq_1 AV.subL.eq_2 AS.frzL.eq_1 AS.frzL.eq_2 AS.absT.eq_1 AS.absT.eq_2 AS.absT.eq_4 AS.absL.eq_1 AS.absL.eq_2 AS.absOk.eq_1 AS.absOkL.eq_1 AS.absOkL.eq_2 hid.eq_1 hids.eq_1 hids.eq_2 AS.appBase.eq_1 AS.appBase.eq_2 AS.appSrc.eq_1 appFits.eq_1 appFits.eq_2 appFits.eq_3 avFill.eq_1 avFill.eq_2 avc.eq_1 avc.eq_2 avc1.eq_1 Kd.agg.eq_1 Kd.agg.eq_2 okR.eq_1 okR.eq_2 okR.eq_3 okR.eq_4 okR.eq_5 okR.eq_6 okR.eq_7 okR.eq_8 zt.eq_1 rvB.eq_1 rvP.eq_1 rvA.eq_1 rvA.eq_2 rv1.eq_1 outTO.eq_1 outT.eq_1 outT.eq_2 outT.eq_3 outTn.eq_1 outOO.eq_1 outO.eq_1 outO.eq_2 boxOf.eq_1 outP.eq_1 outP.eq_2 outP.eq_3 outP.eq_4 outP.eq_5 outP.eq_6 outP.eq_7 outP.eq_8 outPL.eq_1 outPL.eq_2 outI.eq_1 outI.eq_2 outI.eq_3 outI.eq_4 outI.eq_5 outIL.eq_1 outZ.eq_1 outZ.eq_2 outZ.eq_3 outZ.eq_4 outZ.eq_5 outZL.eq_1 finO.eq_1 finO.eq_2 fin.eq_1 fin.eq_2 fin.eq_3 cellAV.eq_1 cellAV.eq_2 numsOf.eq_1 numsOf.eq_2 aop.eq_1 aop.eq_2 aop.eq_3 aop.eq_4 aop.eq_5 aop.eq_6 aop.eq_7 aop.eq_8 aop.eq_9 aop.eq_10 aop.eq_11 aop.eq_12 aop.eq_13 aop.eq_14 aop.eq_15 aop.eq_16 aop.eq_17 aop.eq_18 aop.eq_19 aop.eq_20 aop.eq_21 aop.eq_22 aop.eq_23 aop.eq_24 aop.eq_25 aop.eq_26 tmpsOf.eq_1 tmpsOf.eq_2 tmpsOf.eq_3 tmpsOf.eq_4 tmpsOf.eq_5 AV.refs.eq_1 AV.refs.eq_2 AV.refs.eq_3 AV.refs.eq_4 AV.refs.eq_5 AV.refs.eq_6 AV.refs.eq_7 AV.refs.eq_8 AV.refs.eq_9 AV.refs.eq_10 AV.refs.eq_11 AV.refsL.eq_1 AV.refsL.eq_2 refsT.eq_1 refsT.eq_2 refsO.eq_1 refsO.eq_2 refsO.eq_3 refsO.eq_4 refsO.eq_5 refsO.eq_6 refsB.eq_1 refsB.eq_2 clos.eq_1 clos.eq_2 keepL.eq_1 keepL.eq_2 AV.hasM.eq_1 AV.hasM.eq_2 AV.hasM.eq_3 AV.hasM.eq_4 AV.hasM.eq_5 AV.hasM.eq_6 AV.hasM.eq_7 AV.hasM.eq_8 AV.hasM.eq_9 AV.hasM.eq_10 AV.hasM.eq_11 AV.hasML.eq_1 AV.hasML.eq_2 Ob.dropM.eq_1 Ob.dropM.eq_2 Ob.dropM.eq_3 Ob.dropM.eq_4 nsC.eq_1 nsC.eq_2 okGuard.eq_1 okGuard.eq_2 AS.purges.eq_1 AS.purges.eq_2 dropMB.eq_1 dropMB.eq_2 newB.eq_1 newB.eq_2 ptB.eq_1 ptB.eq_2 lookC.eq_1 lookC.eq_2 dropB.eq_1 dropB.eq_2 leS.eq_1 leS.eq_2 leT.eq_1 leT.eq_2 AS.mvs.eq_1 AS.mvs.eq_2 AS.mvA.eq_1 AS.mvA.eq_2 AS.mvB.eq_1 aSetO.eq_1 aSetO.eq_2 aSh.eq_1 aSh.eq_2 arK.eq_1 aIdxA.eq_1 aIdxA.eq_2 arT.eq_1 aSlHB.eq_1 aSlHB.eq_2 aSlHO.eq_1 aSlHZ.eq_1 aSlHZ.eq_2 isSlT.eq_1 isNilC.eq_1 aNilO.eq_1 aNilX.eq_1 aNilX.eq_2 aNilX.eq_3 aNilC.eq_1 aNilC.eq_2 aBinQ.eq_1 aBinQ.eq_2 aMin.eq_1 flT.eq_1 flT.eq_2 mpT.eq_1 aMkMap.eq_1 aMkMap.eq_2 strA.eq_1 keyMK.eq_1 keyMK.eq_2 mkB.eq_1 mkB.eq_2 aMp2.eq_1 aMp1.eq_1 aMp0.eq_1 aMapU.eq_1 aLk2.eq_1 aLk2.eq_2 aLk1.eq_1 aLk0.eq_1 aLookup.eq_1 aLenMO.eq_1 aLenM.eq_1 glV.eq_1 glV.eq_2 evG.eq_1 evG.eq_2 evG.eq_3 evG.eq_4 lkHitO.eq_1 lkHitO.eq_2 lkHitO.eq_3 lkHitO.eq_4 lkHit.eq_1 lkHit.eq_2 lkF.eq_1 lkF.eq_2 lkFind.eq_1 lkFind.eq_2 lkV.eq_1 lkV.eq_2 lkV.eq_3 lkV.eq_4 lkV.eq_5 AS.lkO.eq_1 AS.lkO.eq_2 AS.lkOf.eq_1 rawT.eq_1 rawT.eq_2 rawT.eq_3 rawT.eq_4 rawT.eq_5 rawT.eq_6 rawOf.eq_1 rawOf.eq_2 rawOf.eq_3 rawOf.eq_4 rawOf.eq_5 rawOf.eq_6 rawOf.eq_7 rawOf.eq_8 rawOf.eq_9 rawOf.eq_10 rawOf.eq_11 aLkR.eq_1 aLkR.eq_2 aLk.eq_1 aLk.eq_2 KL.eq_1 lkDrop.eq_1 lkDrop.eq_2 lkParO.eq_1 lkParO.eq_2 lkParO.eq_3 lkParO.eq_4 lkPar.eq_1 lkPar.eq_2 lkI.eq_1 lkI.eq_2 lkIds.eq_1 lkIds.eq_2 adLd.eq_1 run_nil run_b run_l run_skip run_label run_seq run_cond brV_b brB_t brB_f run_block run_exit run_ret run_region runX_nil runX_c runX_c' runX_b runX_b' runX_l runX_l' exB_t exB_f run_o run_op run_opg gV_b gV_t gB_tt gB_ff gB_tf gB_ft rs_eq kv KI aLenN aBS1 aApp1 aStore1 szOk gv gd s0 idOf look_cons lookC frzU_t frzU_f orT orF drop_any drop_nil drop_t drop_h drop_pb drop_pa drop_agg drop_tup drop_fn dropB kill_eq set_eq rem_eq re_eq up_eq get_eq ob_eq Ob.drop apl fpl plainTy AS.frz splice cond_true cond_false List.map_cons List.map_nil List.drop_zero List.drop_succ_cons List.drop_nil List.take_zero List.take_succ_cons List.take_nil List.getElem?_cons_zero List.getElem?_cons_succ List.getElem?_nil List.length_cons List.length_nil Option.map_some Option.map_none Option.bind_some Option.bind_none List.cons_append List.nil_append List.append_nil Option.getD_some Option.getD_none List.all_cons List.all_nil Bool.and_true Bool.true_and Bool.or_false Bool.false_or Bool.or_true Bool.true_or List.flatten_cons List.flatten_nil List.replicate_succ List.replicate_zero and_true true_and avOf_t avOf_f agg_bool agg_int agg_str agg_slice agg_struct agg_func agg_ptr agg_map avc_bool avc_int avc_str avc_fn avc1_bool avc1_int avc1_str avc1_fn zt_bool zt_int zt_str cells_nil cells_t cells_h cells_pb cells_fn snap_t snap_nil snap_h snap_pb snap_fn rv1_one rv1_two outI_t outI_oh outI_on outI_any outI_nil outZ_th outZ_tt outZ_tn outZ_o outZ_any outZ_nil outIL_nil outZL_nil finN finR ne_eq not_false_eq_true not_true_eq_false List.nodup_nil List.not_mem_nil false_implies implies_true eq_self true_or or_true Option.some.injEq shl_add shl_sub shl_mul shl_quo shl_rem shl_and shl_or shl_xor shl_andNot shl_eql shl_neq shl_lss shl_leq shl_gtr shl_geq shl_shr shl_shl appDeep_none appDeep_sn appSrc_h appSrc_nil fits_ft fits_tn fits_tf isStr_slice obFlat_box Nat.le_refl nbeq_self List.length_map updZ_s updZ_n dropM_eq purge_eq newIds_cons newIds_nil purgeT_nil purgeT_cons memN_cons memN_nil bd_d bd_c bd_g bd_p bd_t bd_o preds_nil preds_cons hasIns insB List.any_cons List.any_nil adK_eq adr_nil adG_eq kdOp noLen creates Op.operands Call.operands nsOf adT adI adJ plainB rst List.append_eq nsD_f nsD_n nsD_t nOf_0 nOf_1 nOf_2 chO_0 chO_1 chO_2 keepK_0 keepK_1 keepK_2 eqRes AS.mv fits KM aCallM notNew kdCall arK_i64 arK_i32 arK_u8 arK_u64 arT_sl isNilC_t isNilC_f isNilC_g isNilC_i isNilC_b isNilC_s isNilC_a isNilC_n andBF andBT aCallK_2 ble_dec hid_t hid_nil hid_any hid_pb hid_fn absOk_t absOk_nil absOk_pb absOk_h absOkO_1 decide_true decide_false Array.toList_append chunk_0 chunk_1 chunk_2 chunk_3 back_t back_nil back_ht backL_nil backI_t backI_nil backI_ht backIL_nil AS.mvJ nbeq_dec runR_f runR_t loadB Option.isSome_some Option.isSome_none nodup1 adr_none adr_some adO_s adV_b adV_t adB_tt adB_ff adB_tf adB_ft adS_eq lenL.eq_1 lenO.eq_1 lenO.eq_2 lenV.eq_1 lenV.eq_2 lenV.eq_3 lenV.eq_4 optN optS absT_ft
attribute [local go_sem] ty3 ty4 ty5 ty9 ty21 ty22 ty23 ty25 ty27 ty28 ty29 ty31 ty33 ty43 ty45 ty46 ty47 ty49 ty60 ty75 ty77 ty93 ty104 ty119 ty121 ty135 ty157 ty170 ty175 lv27 lv93 zb4 leS leT fits AS.mvs encStr_eq aIdx_str EStr_dec decStrs decStrs0 EStr_enc EStr_n encInt_eq aIdx_int EInt_dec decInts decInts0 EInt_enc EInt_n AllV_Int len_Int lc_enc l0_enc asl_enc ag_enc aow_enc ABool_enc AInt_enc AStr_enc AU8_enc ABool_dec AInt_dec AStr_dec AU8_dec asl_dec ag_dec aow_dec bind_some pr2.eq_1 l0_nil lc_cons unT.eq_1 K0.eq_1 M0.eq_1 KI AllV_Str len_Str ctR_eq ctM_eq ro_kd ro_ro mu_kd mu_mu encAd_eq aIdx_Ad EAd_dec decAds decAds0 EAd_enc EAd_n len_Ad Ad_eta AllV_Ad encMl_eq aIdx_Ml EMl_dec decMls decMls0 EMl_enc EMl_n len_Ml Ml_eta mkMl.eq_1 owMl_eq AMl_enc AMl_dec encRc_eq aIdx_Rc ERc_dec decRcs decRcs0 ERc_enc ERc_n len_Rc Rc_eta AllV_Rc encIm_eq aIdx_Im EIm_dec decIms decIms0 EIm_enc EIm_n len_Im Im_eta mkIm.eq_1 owIm_eq AIm_enc AIm_dec encSp_eq aIdx_Sp ESp_dec decSps decSps0 ESp_enc ESp_n len_Sp Sp_eta mkSp.eq_1 owSp_eq ASp_enc ASp_dec encNt_eq aIdx_Nt ENt_dec decNts decNts0 ENt_enc ENt_n len_Nt Nt_eta mkNt.eq_1 owNt_eq ANt_enc ANt_dec

def adRc (w : Int) (a : Ad) : Rc := ⟨a, 0, w⟩
def adIm (s : Sp) (m : Ml) (w : Int) : Im := ⟨s.last + 1, m.frm, m.to.map (adRc w), m.body⟩
def adSp (s : Sp) (m : Ml) (w : Int) : Sp := ⟨s.last + 1, s.items ++ [adIm s m w]⟩
def Room (s : Sp) : Prop := (s.items.length : Int) < 10 ∧ s.last < 999
open Classical in
noncomputable def SAdd (s : Sp) (m : Ml) (w : Int) : Sp × Bool := if SpOk s then (if MlOk m ∧ (0 ≤ w ∧ w ≤ 9999) ∧ Room s then (adSp s m w, true) else (s, false)) else (⟨0, []⟩, false)
theorem SAdd_no {s : Sp} {m : Ml} {w : Int} (h : ¬ SpOk s) : SAdd s m w = (⟨0, []⟩, false) := by unfold SAdd; rw [if_neg h]
theorem SAdd_n {s : Sp} {m : Ml} {w : Int} (h : SpOk s) (h2 : ¬ (MlOk m ∧ (0 ≤ w ∧ w ≤ 9999) ∧ Room s)) : SAdd s m w = (s, false) := by unfold SAdd; rw [if_pos h, if_neg h2]
theorem SAdd_y {s : Sp} {m : Ml} {w : Int} (h : SpOk s) (h2 : MlOk m ∧ (0 ≤ w ∧ w ≤ 9999) ∧ Room s) : SAdd s m w = (adSp s m w, true) := by unfold SAdd; rw [if_pos h, if_pos h2]
theorem take_rc {xs : List Ad} {w : Int} {i : Nat} (h : i < xs.length) : ((xs.map (adRc w)).take (i + 1)).map encRc = ((xs.map (adRc w)).take i).map encRc ++ [[.v (.string (xs.getD i default).user), .v (.string (xs.getD i default).domain), .v (.int .i64 0), .v (.int .i64 w)]] := by
  have e : (xs.map (adRc w)).getD i default = adRc w (xs.getD i default) := by
    simp only [List.getD_eq_getElem?_getD, List.getElem?_map, List.getElem?_eq_getElem h, Option.map_some, Option.getD_some]
  rw [take_snoc_map encRc (by rw [List.length_map]; exact h), e]
  rfl
def c52 : Ct := ctR (lc ESp.ag l0) (fun p => True) (fun p => .t (.v (.bool (bOf (Room p.1)))))
theorem good52 {G : Gt} (hG : OkG G) : Gd G 52 (roEnt 0 c52) := by
  refine gR (dp := fun _ => true) (fn := Tryz.f52) (n := 1) (fun _ => rfl) (by kernel_rfl) rfl (by kernel_rfl) hG (Nat.le_of_ble_eq_true rfl) (by kernel_rfl) (by decide) (fun _ _ => .v _) ?_
  rintro ⟨s, ⟨⟩⟩ hpre
  simp -implicitDefEqProofs only [Tryz.f52, go_sem, List.length_map, Nat.reduceAdd, Nat.reduceMul, Nat.reduceLeDiff, Nat.reduceEqDiff, reduceCtorEq, Nat.reduceSub, Int.reduceNeg, Nat.reduceMod, Nat.reduceBEq, Nat.reduceLT] at hpre ⊢

  repeat' (first | with_reducible apply And.intro | with_reducible intro _ | ((first | refine brB_split (fun hb => ?_) (fun hb => ?_) | refine aPickB_split (fun hb => ?_) (fun hb => ?_) | refine gB_split (fun hb => ?_) (fun hb => ?_) | refine adB_split (fun hb => ?_) (fun hb => ?_)) <;> simp -implicitDefEqProofs only [hb, go_sem, List.length_map, Nat.reduceAdd, Nat.reduceMul, Nat.reduceLeDiff, Nat.reduceEqDiff, reduceCtorEq, Nat.reduceSub, Int.reduceNeg, Nat.reduceMod, Nat.reduceBEq, Nat.reduceLT] <;> try simp only [qa, qb, qc, qd, qe, qf, qg, bOf_t, bOf_f] at hb))
  all_goals first
    | rfl
    | omega
    | (rw [← bOf_d, bOf_congr]; exact ⟨fun h => ⟨by assumption, h⟩, fun h => h.2⟩)
    | (rw [bOf_n]; rintro ⟨h1, h2⟩; contradiction)
    | (rw [bOf_y]; exact ⟨by assumption, by assumption⟩)
    | trace_state

def c58 : Ct := ctR (lc ESp.ag l0) (fun p => True) (fun p => .t (.v (.bool (bOf (Room p.1)))))
theorem good58 {G : Gt} (hG : OkG G) : Gd G 58 (roEnt 0 c58) := by
  refine gR (dp := fun _ => true) (fn := Tryz.f58) (n := 1) (fun _ => rfl) (by kernel_rfl) rfl (by kernel_rfl) hG (Nat.le_of_ble_eq_true rfl) (by kernel_rfl) (by decide) (fun _ _ => .v _) ?_
  rintro ⟨s, ⟨⟩⟩ hpre
  simp -implicitDefEqProofs only [Tryz.f58, go_sem, List.length_map, Nat.reduceAdd, Nat.reduceMul, Nat.reduceLeDiff, Nat.reduceEqDiff, reduceCtorEq, Nat.reduceSub, Int.reduceNeg, Nat.reduceMod, Nat.reduceBEq, Nat.reduceLT] at hpre ⊢

  repeat' (first | with_reducible apply And.intro | with_reducible intro _ | ((first | refine brB_split (fun hb => ?_) (fun hb => ?_) | refine aPickB_split (fun hb => ?_) (fun hb => ?_) | refine gB_split (fun hb => ?_) (fun hb => ?_) | refine adB_split (fun hb => ?_) (fun hb => ?_)) <;> simp -implicitDefEqProofs only [hb, go_sem, List.length_map, Nat.reduceAdd, Nat.reduceMul, Nat.reduceLeDiff, Nat.reduceEqDiff, reduceCtorEq, Nat.reduceSub, Int.reduceNeg, Nat.reduceMod, Nat.reduceBEq, Nat.reduceLT] <;> try simp only [qa, qb, qc, qd, qe, qf, qg, bOf_t, bOf_f] at hb))
  all_goals first
    | rfl
    | omega
    | (rw [← bOf_d, bOf_congr]; exact ⟨fun h => ⟨by assumption, h⟩, fun h => h.2⟩)
    | (rw [bOf_n]; rintro ⟨h1, h2⟩; contradiction)
    | (rw [bOf_y]; exact ⟨by assumption, by assumption⟩)
    | trace_state

def c53 : Ct := ctR (lc ESp.ag (lc EMl.ag (lc AInt l0))) (fun p => OkSp p.1 ∧ OkMl p.2.1 ∧ SpOk p.1) (fun p => .agg ((encSp (adSp p.1 p.2.1 p.2.2.1)).map .t))
set_option maxHeartbeats 1600000 in
theorem good53 {G : Gt} (hG : OkG G) : Gd G 53 (roEnt 1 c53) := by
  refine gR (dp := fun n => Nat.ble 100000 n && !(Nat.beq n 100002 || Nat.beq n 100004 || Nat.beq n 100007)) (fn := Tryz.f53) (n := 3) (fun _ => rfl) (by kernel_rfl) rfl (by kernel_rfl) hG (Nat.le_of_ble_eq_true rfl) (by kernel_rfl) (by decide) (fun h => by cases h) ?_
  rintro ⟨s, m, w, ⟨⟩⟩ hpre
  simp -implicitDefEqProofs only [Tryz.f53, go_sem, tmap, dmap, List.take_length, List.drop_zero, List.length_take, List.length_drop, List.length_map, List.length_append, List.length_cons, List.length_nil, List.map_append, List.map_nil, List.map_cons, List.nil_append, Nat.zero_add, List.mem_singleton, forall_eq, Bool.not_true, Bool.not_false, AS.opn, AS.cls, AS.nilb, AS.renb, Bool.not_false, Bool.not_true, List.set_set, List.set_cons_zero, List.set_cons_succ, List.set_nil, List.mem_singleton, forall_eq, Nat.reduceAdd, Nat.reduceMul, Nat.reduceLeDiff, Nat.reduceEqDiff, reduceCtorEq, Nat.reduceSub, Int.reduceNeg, Nat.reduceMod, Nat.reduceBEq, Nat.reduceLT] at hpre ⊢

  obtain ⟨hok, hml, hsp⟩ := hpre
  have hok' : OkL OkIm s.items := hok
  obtain ⟨_, ⟨hl1, _⟩, ⟨hl2, _⟩⟩ := hml
  obtain ⟨_, _, ⟨hs0, hs1⟩, hs2⟩ := hsp
  repeat' (first | with_reducible apply And.intro | with_reducible intro _ | ((first | refine brB_split (fun hb => ?_) (fun hb => ?_) | refine aPickB_split (fun hb => ?_) (fun hb => ?_) | refine gB_split (fun hb => ?_) (fun hb => ?_) | refine adB_split (fun hb => ?_) (fun hb => ?_)) <;> simp -implicitDefEqProofs only [hb, go_sem, tmap, dmap, List.take_length, List.drop_zero, List.length_take, List.length_drop, List.length_map, List.length_append, List.length_cons, List.length_nil, List.map_append, List.map_nil, List.map_cons, List.nil_append, Nat.zero_add, List.mem_singleton, forall_eq, Bool.not_true, Bool.not_false, AS.opn, AS.cls, AS.nilb, AS.renb, Bool.not_false, Bool.not_true, List.set_set, List.set_cons_zero, List.set_cons_succ, List.set_nil, List.mem_singleton, forall_eq, Nat.reduceAdd, Nat.reduceMul, Nat.reduceLeDiff, Nat.reduceEqDiff, reduceCtorEq, Nat.reduceSub, Int.reduceNeg, Nat.reduceMod, Nat.reduceBEq, Nat.reduceLT] <;> try simp only [qa, qb, qc, qd, qe, qf, qg, bOf_t, bOf_f] at hb))
  all_goals (try simp only [maxLen] at *)
  all_goals first | rfl | omega | assumption | decide | skip
  all_goals
    refine run_le (Le.nilb 1007 3 1901 true 4 rfl rfl rfl) (run_go ?_)
    simp -implicitDefEqProofs only [go_sem, tmap, dmap, List.take_length, List.drop_zero, List.length_take, List.length_drop, List.length_map, List.length_append, List.length_cons, List.length_nil, List.map_append, List.map_nil, List.map_cons, List.nil_append, Nat.zero_add, List.mem_singleton, forall_eq, Bool.not_true, Bool.not_false, AS.opn, AS.cls, AS.nilb, AS.renb, Bool.not_false, Bool.not_true, List.set_set, List.set_cons_zero, List.set_cons_succ, List.set_nil, List.mem_singleton, forall_eq, Nat.reduceAdd, Nat.reduceMul, Nat.reduceLeDiff, Nat.reduceEqDiff, reduceCtorEq, Nat.reduceSub, Int.reduceNeg, Nat.reduceMod, Nat.reduceBEq, Nat.reduceLT]
    refine run_loop [] (ι := {i : Nat // i ≤ m.to.length}) (fun p => ⟨[(2, .t (.v (.int .i64 w))), (3, .pb 1003 0), (4, .pb 1004 0), (6, .pb 1006 0), (7, .pb 1007 0), (8, .t (.v (.int .i64 p.1)))], [(1003, some (.box [.t (.v (.int .i64 s.last)), .t (.sl 5 (s.items.map encIm))])), (1004, some (.box ((encMl m).map .t))), (1006, some (.box [.t (.v (.int .i64 0)), .nil])), (1007, some (.box [.t (.v (.int .i64 (s.last + 1))), .t (.v (.string m.frm.user)), .t (.v (.string m.frm.domain)), .h 1901, .h 1017])), (1017, some (.arr true 1 (m.body.map encStr))), (1901, some (.arr true 4 (((m.to.map (adRc w)).take p.1).map encRc)))]⟩) (fun p => m.to.length - p.1) ⟨0, by simp⟩ rfl ?_ ?_
    · simp -implicitDefEqProofs only [go_sem, tmap, dmap, List.take_length, List.drop_zero, List.length_take, List.length_drop, List.length_map, List.length_append, List.length_cons, List.length_nil, List.map_append, List.map_nil, List.map_cons, List.nil_append, Nat.zero_add, List.mem_singleton, forall_eq, Bool.not_true, Bool.not_false, AS.opn, AS.cls, AS.nilb, AS.renb, Bool.not_false, Bool.not_true, List.set_set, List.set_cons_zero, List.set_cons_succ, List.set_nil, List.mem_singleton, forall_eq, Nat.reduceAdd, Nat.reduceMul, Nat.reduceLeDiff, Nat.reduceEqDiff, reduceCtorEq, Nat.reduceSub, Int.reduceNeg, Nat.reduceMod, Nat.reduceBEq, Nat.reduceLT]
      simp
    · rintro ⟨i, hi⟩
      have hlen : ((m.to.map (adRc w)).take i).length = i := by simp; omega
      by_cases hlt : (i : Int) < m.to.length
      · simp -implicitDefEqProofs only [hlt, decide_true, Int.toNat_natCast, go_sem, tmap, dmap, List.take_length, List.drop_zero, List.length_take, List.length_drop, List.length_map, List.length_append, List.length_cons, List.length_nil, List.map_append, List.map_nil, List.map_cons, List.nil_append, Nat.zero_add, List.mem_singleton, forall_eq, Bool.not_true, Bool.not_false, AS.opn, AS.cls, AS.nilb, AS.renb, Bool.not_false, Bool.not_true, List.set_set, List.set_cons_zero, List.set_cons_succ, List.set_nil, List.mem_singleton, forall_eq, Nat.reduceAdd, Nat.reduceMul, Nat.reduceLeDiff, Nat.reduceEqDiff, reduceCtorEq, Nat.reduceSub, Int.reduceNeg, Nat.reduceMod, Nat.reduceBEq, Nat.reduceLT]
        repeat' (first | with_reducible apply And.intro | with_reducible intro _ | ((first | refine brB_split (fun hb => ?_) (fun hb => ?_) | refine aPickB_split (fun hb => ?_) (fun hb => ?_) | refine gB_split (fun hb => ?_) (fun hb => ?_) | refine adB_split (fun hb => ?_) (fun hb => ?_)) <;> simp -implicitDefEqProofs only [hb, go_sem, tmap, dmap, List.take_length, List.drop_zero, List.length_take, List.length_drop, List.length_map, List.length_append, List.length_cons, List.length_nil, List.map_append, List.map_nil, List.map_cons, List.nil_append, Nat.zero_add, List.mem_singleton, forall_eq, Bool.not_true, Bool.not_false, AS.opn, AS.cls, AS.nilb, AS.renb, Bool.not_false, Bool.not_true, List.set_set, List.set_cons_zero, List.set_cons_succ, List.set_nil, List.mem_singleton, forall_eq, Nat.reduceAdd, Nat.reduceMul, Nat.reduceLeDiff, Nat.reduceEqDiff, reduceCtorEq, Nat.reduceSub, Int.reduceNeg, Nat.reduceMod, Nat.reduceBEq, Nat.reduceLT] <;> try simp only [qa, qb, qc, qd, qe, qf, qg, bOf_t, bOf_f] at hb))
        all_goals (try simp only [maxLen] at *)
        all_goals first | rfl | omega | assumption | decide | skip
        refine run_le (Le.renb 1007 3 1036 1901 rfl rfl rfl rfl) (run_go ?_)
        simp -implicitDefEqProofs only [go_sem, tmap, dmap, List.take_length, List.drop_zero, List.length_take, List.length_drop, List.length_map, List.length_append, List.length_cons, List.length_nil, List.map_append, List.map_nil, List.map_cons, List.nil_append, Nat.zero_add, List.mem_singleton, forall_eq, Bool.not_true, Bool.not_false, AS.opn, AS.cls, AS.nilb, AS.renb, Bool.not_false, Bool.not_true, List.set_set, List.set_cons_zero, List.set_cons_succ, List.set_nil, List.mem_singleton, forall_eq, Nat.reduceAdd, Nat.reduceMul, Nat.reduceLeDiff, Nat.reduceEqDiff, reduceCtorEq, Nat.reduceSub, Int.reduceNeg, Nat.reduceMod, Nat.reduceBEq, Nat.reduceLT]
        repeat' (first | with_reducible apply And.intro | with_reducible intro _ | ((first | refine brB_split (fun hb => ?_) (fun hb => ?_) | refine aPickB_split (fun hb => ?_) (fun hb => ?_) | refine gB_split (fun hb => ?_) (fun hb => ?_) | refine adB_split (fun hb => ?_) (fun hb => ?_)) <;> simp -implicitDefEqProofs only [hb, go_sem, tmap, dmap, List.take_length, List.drop_zero, List.length_take, List.length_drop, List.length_map, List.length_append, List.length_cons, List.length_nil, List.map_append, List.map_nil, List.map_cons, List.nil_append, Nat.zero_add, List.mem_singleton, forall_eq, Bool.not_true, Bool.not_false, AS.opn, AS.cls, AS.nilb, AS.renb, Bool.not_false, Bool.not_true, List.set_set, List.set_cons_zero, List.set_cons_succ, List.set_nil, List.mem_singleton, forall_eq, Nat.reduceAdd, Nat.reduceMul, Nat.reduceLeDiff, Nat.reduceEqDiff, reduceCtorEq, Nat.reduceSub, Int.reduceNeg, Nat.reduceMod, Nat.reduceBEq, Nat.reduceLT] <;> try simp only [qa, qb, qc, qd, qe, qf, qg, bOf_t, bOf_f] at hb))
        all_goals first | rfl | omega | decide | skip
        refine ⟨⟨i + 1, by omega⟩, by dsimp only; omega, ?_⟩
        simp -implicitDefEqProofs only [go_sem, tmap, dmap, List.take_length, List.drop_zero, List.length_take, List.length_drop, List.length_map, List.length_append, List.length_cons, List.length_nil, List.map_append, List.map_nil, List.map_cons, List.nil_append, Nat.zero_add, List.mem_singleton, forall_eq, Bool.not_true, Bool.not_false, AS.opn, AS.cls, AS.nilb, AS.renb, Bool.not_false, Bool.not_true, List.set_set, List.set_cons_zero, List.set_cons_succ, List.set_nil, List.mem_singleton, forall_eq, Nat.reduceAdd, Nat.reduceMul, Nat.reduceLeDiff, Nat.reduceEqDiff, reduceCtorEq, Nat.reduceSub, Int.reduceNeg, Nat.reduceMod, Nat.reduceBEq, Nat.reduceLT]
        simp only [take_rc (show i < m.to.length by omega)]
        repeat' (first | with_reducible apply And.intro | with_reducible intro _ | ((first | refine brB_split (fun hb => ?_) (fun hb => ?_) | refine aPickB_split (fun hb => ?_) (fun hb => ?_) | refine gB_split (fun hb => ?_) (fun hb => ?_) | refine adB_split (fun hb => ?_) (fun hb => ?_)) <;> simp -implicitDefEqProofs only [hb, go_sem, tmap, dmap, List.take_length, List.drop_zero, List.length_take, List.length_drop, List.length_map, List.length_append, List.length_cons, List.length_nil, List.map_append, List.map_nil, List.map_cons, List.nil_append, Nat.zero_add, List.mem_singleton, forall_eq, Bool.not_true, Bool.not_false, AS.opn, AS.cls, AS.nilb, AS.renb, Bool.not_false, Bool.not_true, List.set_set, List.set_cons_zero, List.set_cons_succ, List.set_nil, List.mem_singleton, forall_eq, Nat.reduceAdd, Nat.reduceMul, Nat.reduceLeDiff, Nat.reduceEqDiff, reduceCtorEq, Nat.reduceSub, Int.reduceNeg, Nat.reduceMod, Nat.reduceBEq, Nat.reduceLT] <;> try simp only [qa, qb, qc, qd, qe, qf, qg, bOf_t, bOf_f] at hb))
        all_goals first | rfl | (simp; done) | trace_state
      · simp -implicitDefEqProofs only [hlt, decide_false, go_sem, tmap, dmap, List.take_length, List.drop_zero, List.length_take, List.length_drop, List.length_map, List.length_append, List.length_cons, List.length_nil, List.map_append, List.map_nil, List.map_cons, List.nil_append, Nat.zero_add, List.mem_singleton, forall_eq, Bool.not_true, Bool.not_false, AS.opn, AS.cls, AS.nilb, AS.renb, Bool.not_false, Bool.not_true, List.set_set, List.set_cons_zero, List.set_cons_succ, List.set_nil, List.mem_singleton, forall_eq, Nat.reduceAdd, Nat.reduceMul, Nat.reduceLeDiff, Nat.reduceEqDiff, reduceCtorEq, Nat.reduceSub, Int.reduceNeg, Nat.reduceMod, Nat.reduceBEq, Nat.reduceLT]
        repeat' (first | with_reducible apply And.intro | with_reducible intro _ | ((first | refine brB_split (fun hb => ?_) (fun hb => ?_) | refine aPickB_split (fun hb => ?_) (fun hb => ?_) | refine gB_split (fun hb => ?_) (fun hb => ?_) | refine adB_split (fun hb => ?_) (fun hb => ?_)) <;> simp -implicitDefEqProofs only [hb, go_sem, tmap, dmap, List.take_length, List.drop_zero, List.length_take, List.length_drop, List.length_map, List.length_append, List.length_cons, List.length_nil, List.map_append, List.map_nil, List.map_cons, List.nil_append, Nat.zero_add, List.mem_singleton, forall_eq, Bool.not_true, Bool.not_false, AS.opn, AS.cls, AS.nilb, AS.renb, Bool.not_false, Bool.not_true, List.set_set, List.set_cons_zero, List.set_cons_succ, List.set_nil, List.mem_singleton, forall_eq, Nat.reduceAdd, Nat.reduceMul, Nat.reduceLeDiff, Nat.reduceEqDiff, reduceCtorEq, Nat.reduceSub, Int.reduceNeg, Nat.reduceMod, Nat.reduceBEq, Nat.reduceLT] <;> try simp only [qa, qb, qc, qd, qe, qf, qg, bOf_t, bOf_f] at hb))
        all_goals first | rfl | omega | skip
        rw [List.take_of_length_le (by rw [List.length_map]; omega)]
        refine run_le (Le.frzL [1901, 1017]) (run_go ?_)
        simp -implicitDefEqProofs only [go_sem, tmap, dmap, List.take_length, List.drop_zero, List.length_take, List.length_drop, List.length_map, List.length_append, List.length_cons, List.length_nil, List.map_append, List.map_nil, List.map_cons, List.nil_append, Nat.zero_add, List.mem_singleton, forall_eq, Bool.not_true, Bool.not_false, AS.opn, AS.cls, AS.nilb, AS.renb, Bool.not_false, Bool.not_true, List.set_set, List.set_cons_zero, List.set_cons_succ, List.set_nil, List.mem_singleton, forall_eq, Nat.reduceAdd, Nat.reduceMul, Nat.reduceLeDiff, Nat.reduceEqDiff, reduceCtorEq, Nat.reduceSub, Int.reduceNeg, Nat.reduceMod, Nat.reduceBEq, Nat.reduceLT]
        repeat' (first | with_reducible apply And.intro | with_reducible intro _ | ((first | refine brB_split (fun hb => ?_) (fun hb => ?_) | refine aPickB_split (fun hb => ?_) (fun hb => ?_) | refine gB_split (fun hb => ?_) (fun hb => ?_) | refine adB_split (fun hb => ?_) (fun hb => ?_)) <;> simp -implicitDefEqProofs only [hb, go_sem, tmap, dmap, List.take_length, List.drop_zero, List.length_take, List.length_drop, List.length_map, List.length_append, List.length_cons, List.length_nil, List.map_append, List.map_nil, List.map_cons, List.nil_append, Nat.zero_add, List.mem_singleton, forall_eq, Bool.not_true, Bool.not_false, AS.opn, AS.cls, AS.nilb, AS.renb, Bool.not_false, Bool.not_true, List.set_set, List.set_cons_zero, List.set_cons_succ, List.set_nil, List.mem_singleton, forall_eq, Nat.reduceAdd, Nat.reduceMul, Nat.reduceLeDiff, Nat.reduceEqDiff, reduceCtorEq, Nat.reduceSub, Int.reduceNeg, Nat.reduceMod, Nat.reduceBEq, Nat.reduceLT] <;> try simp only [qa, qb, qc, qd, qe, qf, qg, bOf_t, bOf_f] at hb))
        all_goals (try simp only [maxLen, List.take_length, List.drop_zero] at *)
        all_goals first | rfl | omega | assumption | decide | skip
        all_goals
          refine congrArg (T.sl 5) ?_
          simp only [adSp, adIm, List.map_append, List.map_cons, List.map_nil]
          rfl

def c15 : Ct := ctR (lc ESp.ag (lc EMl.ag (lc AInt l0))) (fun p => OkSp p.1 ∧ OkMl p.2.1) (fun p => roSB (SAdd p.1 p.2.1 p.2.2.1))
set_option maxHeartbeats 1600000 in
theorem good15 {G : Gt} (hG : OkG G) (h34 : G.e 34 = roEnt 0 c34) (h36 : G.e 36 = roEnt 0 c36) (h50 : G.e 50 = roEnt 0 c50) (h51 : G.e 51 = roEnt 0 c51) (h52 : G.e 52 = roEnt 0 c52) (h53 : G.e 53 = roEnt 1 c53) : Gd G 15 (roEnt 1 c15) := by
  refine gR (dp := fun n => Nat.ble 100000 n && !(Nat.beq n 100006)) (fn := Tryz.f15) (n := 3) (fun _ => rfl) (by kernel_rfl) rfl (by kernel_rfl) hG (Nat.le_of_ble_eq_true rfl) (by kernel_rfl) (by decide) (fun h => by cases h) ?_
  rintro ⟨s, m, w, ⟨⟩⟩ hpre


  obtain ⟨hok, hml⟩ := hpre
  dsimp only at hok hml ⊢
  have hok' : OkL OkIm s.items := hok
  by_cases h : SpOk s
  · have b1 := bOf_y h
    by_cases h2 : MlOk m ∧ (0 ≤ w ∧ w ≤ 9999) ∧ Room s
    · rw [SAdd_y h h2]
      have b2 := bOf_y h2.1
      have b3 := bOf_y h2.2.1
      have b4 := bOf_y h2.2.2
      simp -implicitDefEqProofs only [Tryz.f15, b1, b2, b3, b4, go_sem, h34, c34, h36, c36, h50, c50, h51, c51, h52, c52, h53, c53, tmap, dmap, List.take_length, List.drop_zero, List.length_take, List.length_drop, List.length_map, List.length_append, List.length_cons, List.length_nil, List.map_append, List.map_nil, List.map_cons, List.nil_append, Nat.zero_add, List.mem_singleton, forall_eq, Bool.not_true, Bool.not_false, roSB, adSp, bOf_t, bOf_f, Nat.reduceAdd, Nat.reduceMul, Nat.reduceLeDiff, Nat.reduceEqDiff, reduceCtorEq, Nat.reduceSub, Int.reduceNeg, Nat.reduceMod, Nat.reduceBEq, Nat.reduceLT]
      repeat' (first | with_reducible apply And.intro | with_reducible intro _ | ((first | refine brB_split (fun hb => ?_) (fun hb => ?_) | refine aPickB_split (fun hb => ?_) (fun hb => ?_) | refine gB_split (fun hb => ?_) (fun hb => ?_) | refine adB_split (fun hb => ?_) (fun hb => ?_)) <;> simp -implicitDefEqProofs only [hb, go_sem, h34, c34, h36, c36, h50, c50, h51, c51, h52, c52, h53, c53, tmap, dmap, List.take_length, List.drop_zero, List.length_take, List.length_drop, List.length_map, List.length_append, List.length_cons, List.length_nil, List.map_append, List.map_nil, List.map_cons, List.nil_append, Nat.zero_add, List.mem_singleton, forall_eq, Bool.not_true, Bool.not_false, roSB, adSp, bOf_t, bOf_f, Nat.reduceAdd, Nat.reduceMul, Nat.reduceLeDiff, Nat.reduceEqDiff, reduceCtorEq, Nat.reduceSub, Int.reduceNeg, Nat.reduceMod, Nat.reduceBEq, Nat.reduceLT] <;> try simp only [qa, qb, qc, qd, qe, qf, qg, bOf_t, bOf_f] at hb))
      all_goals first | rfl | omega | assumption | decide | skip
      all_goals
        refine run_le (Le.frzL [1014]) (run_go ?_)
        simp -implicitDefEqProofs only [go_sem, h34, c34, h36, c36, h50, c50, h51, c51, h52, c52, h53, c53, tmap, dmap, List.take_length, List.drop_zero, List.length_take, List.length_drop, List.length_map, List.length_append, List.length_cons, List.length_nil, List.map_append, List.map_nil, List.map_cons, List.nil_append, Nat.zero_add, List.mem_singleton, forall_eq, Bool.not_true, Bool.not_false, roSB, adSp, bOf_t, bOf_f, Nat.reduceAdd, Nat.reduceMul, Nat.reduceLeDiff, Nat.reduceEqDiff, reduceCtorEq, Nat.reduceSub, Int.reduceNeg, Nat.reduceMod, Nat.reduceBEq, Nat.reduceLT]
        repeat' (first | with_reducible apply And.intro | with_reducible intro _ | ((first | refine brB_split (fun hb => ?_) (fun hb => ?_) | refine aPickB_split (fun hb => ?_) (fun hb => ?_) | refine gB_split (fun hb => ?_) (fun hb => ?_) | refine adB_split (fun hb => ?_) (fun hb => ?_)) <;> simp -implicitDefEqProofs only [hb, go_sem, h34, c34, h36, c36, h50, c50, h51, c51, h52, c52, h53, c53, tmap, dmap, List.take_length, List.drop_zero, List.length_take, List.length_drop, List.length_map, List.length_append, List.length_cons, List.length_nil, List.map_append, List.map_nil, List.map_cons, List.nil_append, Nat.zero_add, List.mem_singleton, forall_eq, Bool.not_true, Bool.not_false, roSB, adSp, bOf_t, bOf_f, Nat.reduceAdd, Nat.reduceMul, Nat.reduceLeDiff, Nat.reduceEqDiff, reduceCtorEq, Nat.reduceSub, Int.reduceNeg, Nat.reduceMod, Nat.reduceBEq, Nat.reduceLT] <;> try simp only [qa, qb, qc, qd, qe, qf, qg, bOf_t, bOf_f] at hb))
        all_goals first | rfl | omega | assumption | decide | exact h.1 | exact h.2.1 | exact h.2.2.1 | exact h.2.2.2 | skip
        all_goals trace_state
    · rw [SAdd_n h h2]
      by_cases hm : MlOk m
      · have b2 := bOf_y hm
        by_cases hw : 0 ≤ w ∧ w ≤ 9999
        · have b3 := bOf_y hw
          have b4 := bOf_n (fun q => h2 ⟨hm, hw, q⟩)
          simp -implicitDefEqProofs only [Tryz.f15, b1, b2, b3, b4, go_sem, h34, c34, h36, c36, h50, c50, h51, c51, h52, c52, h53, c53, tmap, dmap, List.take_length, List.drop_zero, List.length_take, List.length_drop, List.length_map, List.length_append, List.length_cons, List.length_nil, List.map_append, List.map_nil, List.map_cons, List.nil_append, Nat.zero_add, List.mem_singleton, forall_eq, Bool.not_true, Bool.not_false, roSB, adSp, bOf_t, bOf_f, Nat.reduceAdd, Nat.reduceMul, Nat.reduceLeDiff, Nat.reduceEqDiff, reduceCtorEq, Nat.reduceSub, Int.reduceNeg, Nat.reduceMod, Nat.reduceBEq, Nat.reduceLT]
          repeat' (first | with_reducible apply And.intro | with_reducible intro _ | ((first | refine brB_split (fun hb => ?_) (fun hb => ?_) | refine aPickB_split (fun hb => ?_) (fun hb => ?_) | refine gB_split (fun hb => ?_) (fun hb => ?_) | refine adB_split (fun hb => ?_) (fun hb => ?_)) <;> simp -implicitDefEqProofs only [hb, go_sem, h34, c34, h36, c36, h50, c50, h51, c51, h52, c52, h53, c53, tmap, dmap, List.take_length, List.drop_zero, List.length_take, List.length_drop, List.length_map, List.length_append, List.length_cons, List.length_nil, List.map_append, List.map_nil, List.map_cons, List.nil_append, Nat.zero_add, List.mem_singleton, forall_eq, Bool.not_true, Bool.not_false, roSB, adSp, bOf_t, bOf_f, Nat.reduceAdd, Nat.reduceMul, Nat.reduceLeDiff, Nat.reduceEqDiff, reduceCtorEq, Nat.reduceSub, Int.reduceNeg, Nat.reduceMod, Nat.reduceBEq, Nat.reduceLT] <;> try simp only [qa, qb, qc, qd, qe, qf, qg, bOf_t, bOf_f] at hb))
          all_goals first | rfl | omega | assumption | decide | trace_state
        · have b3 := bOf_n hw
          simp -implicitDefEqProofs only [Tryz.f15, b1, b2, b3, go_sem, h34, c34, h36, c36, h50, c50, h51, c51, h52, c52, h53, c53, tmap, dmap, List.take_length, List.drop_zero, List.length_take, List.length_drop, List.length_map, List.length_append, List.length_cons, List.length_nil, List.map_append, List.map_nil, List.map_cons, List.nil_append, Nat.zero_add, List.mem_singleton, forall_eq, Bool.not_true, Bool.not_false, roSB, adSp, bOf_t, bOf_f, Nat.reduceAdd, Nat.reduceMul, Nat.reduceLeDiff, Nat.reduceEqDiff, reduceCtorEq, Nat.reduceSub, Int.reduceNeg, Nat.reduceMod, Nat.reduceBEq, Nat.reduceLT]
          repeat' (first | with_reducible apply And.intro | with_reducible intro _ | ((first | refine brB_split (fun hb => ?_) (fun hb => ?_) | refine aPickB_split (fun hb => ?_) (fun hb => ?_) | refine gB_split (fun hb => ?_) (fun hb => ?_) | refine adB_split (fun hb => ?_) (fun hb => ?_)) <;> simp -implicitDefEqProofs only [hb, go_sem, h34, c34, h36, c36, h50, c50, h51, c51, h52, c52, h53, c53, tmap, dmap, List.take_length, List.drop_zero, List.length_take, List.length_drop, List.length_map, List.length_append, List.length_cons, List.length_nil, List.map_append, List.map_nil, List.map_cons, List.nil_append, Nat.zero_add, List.mem_singleton, forall_eq, Bool.not_true, Bool.not_false, roSB, adSp, bOf_t, bOf_f, Nat.reduceAdd, Nat.reduceMul, Nat.reduceLeDiff, Nat.reduceEqDiff, reduceCtorEq, Nat.reduceSub, Int.reduceNeg, Nat.reduceMod, Nat.reduceBEq, Nat.reduceLT] <;> try simp only [qa, qb, qc, qd, qe, qf, qg, bOf_t, bOf_f] at hb))
          all_goals first | rfl | omega | assumption | decide | trace_state
      · have b2 := bOf_n hm
        simp -implicitDefEqProofs only [Tryz.f15, b1, b2, go_sem, h34, c34, h36, c36, h50, c50, h51, c51, h52, c52, h53, c53, tmap, dmap, List.take_length, List.drop_zero, List.length_take, List.length_drop, List.length_map, List.length_append, List.length_cons, List.length_nil, List.map_append, List.map_nil, List.map_cons, List.nil_append, Nat.zero_add, List.mem_singleton, forall_eq, Bool.not_true, Bool.not_false, roSB, adSp, bOf_t, bOf_f, Nat.reduceAdd, Nat.reduceMul, Nat.reduceLeDiff, Nat.reduceEqDiff, reduceCtorEq, Nat.reduceSub, Int.reduceNeg, Nat.reduceMod, Nat.reduceBEq, Nat.reduceLT]
        repeat' (first | with_reducible apply And.intro | with_reducible intro _ | ((first | refine brB_split (fun hb => ?_) (fun hb => ?_) | refine aPickB_split (fun hb => ?_) (fun hb => ?_) | refine gB_split (fun hb => ?_) (fun hb => ?_) | refine adB_split (fun hb => ?_) (fun hb => ?_)) <;> simp -implicitDefEqProofs only [hb, go_sem, h34, c34, h36, c36, h50, c50, h51, c51, h52, c52, h53, c53, tmap, dmap, List.take_length, List.drop_zero, List.length_take, List.length_drop, List.length_map, List.length_append, List.length_cons, List.length_nil, List.map_append, List.map_nil, List.map_cons, List.nil_append, Nat.zero_add, List.mem_singleton, forall_eq, Bool.not_true, Bool.not_false, roSB, adSp, bOf_t, bOf_f, Nat.reduceAdd, Nat.reduceMul, Nat.reduceLeDiff, Nat.reduceEqDiff, reduceCtorEq, Nat.reduceSub, Int.reduceNeg, Nat.reduceMod, Nat.reduceBEq, Nat.reduceLT] <;> try simp only [qa, qb, qc, qd, qe, qf, qg, bOf_t, bOf_f] at hb))
        all_goals first | rfl | omega | assumption | decide | trace_state
  · have b1 := bOf_n h
    rw [SAdd_no h]
    simp -implicitDefEqProofs only [Tryz.f15, b1, go_sem, h34, c34, h36, c36, h50, c50, h51, c51, h52, c52, h53, c53, tmap, dmap, List.take_length, List.drop_zero, List.length_take, List.length_drop, List.length_map, List.length_append, List.length_cons, List.length_nil, List.map_append, List.map_nil, List.map_cons, List.nil_append, Nat.zero_add, List.mem_singleton, forall_eq, Bool.not_true, Bool.not_false, roSB, adSp, bOf_t, bOf_f, Nat.reduceAdd, Nat.reduceMul, Nat.reduceLeDiff, Nat.reduceEqDiff, reduceCtorEq, Nat.reduceSub, Int.reduceNeg, Nat.reduceMod, Nat.reduceBEq, Nat.reduceLT]
    repeat' (first | with_reducible apply And.intro | with_reducible intro _ | ((first | refine brB_split (fun hb => ?_) (fun hb => ?_) | refine aPickB_split (fun hb => ?_) (fun hb => ?_) | refine gB_split (fun hb => ?_) (fun hb => ?_) | refine adB_split (fun hb => ?_) (fun hb => ?_)) <;> simp -implicitDefEqProofs only [hb, go_sem, h34, c34, h36, c36, h50, c50, h51, c51, h52, c52, h53, c53, tmap, dmap, List.take_length, List.drop_zero, List.length_take, List.length_drop, List.length_map, List.length_append, List.length_cons, List.length_nil, List.map_append, List.map_nil, List.map_cons, List.nil_append, Nat.zero_add, List.mem_singleton, forall_eq, Bool.not_true, Bool.not_false, roSB, adSp, bOf_t, bOf_f, Nat.reduceAdd, Nat.reduceMul, Nat.reduceLeDiff, Nat.reduceEqDiff, reduceCtorEq, Nat.reduceSub, Int.reduceNeg, Nat.reduceMod, Nat.reduceBEq, Nat.reduceLT] <;> try simp only [qa, qb, qc, qd, qe, qf, qg, bOf_t, bOf_f] at hb))
    all_goals first | rfl | omega | assumption | decide | trace_state

def c18 : Ct := ctR (lc ESp.ag (lc EMl.ag (lc AInt l0))) (fun p => OkSp p.1 ∧ OkMl p.2.1) (fun p => owSB (SAdd p.1 p.2.1 p.2.2.1))
set_option maxHeartbeats 3200000 in
theorem good18 {G : Gt} (hG : OkG G) (h10 : G.e 10 = roEnt 0 c10) (h31 : G.e 31 = roEnt 0 c31) (h43 : G.e 43 = roEnt 0 c43) (h44 : G.e 44 = roEnt 0 c44) (h58 : G.e 58 = roEnt 0 c58) (h59 : G.e 59 = roEnt 0 c59) : Gd G 18 (roEnt 0 c18) := by
  refine gR (dp := fun n => !(Nat.beq n 100008 || Nat.beq n 100012)) (fn := Tryz.f18) (n := 3) (fun _ => rfl) (by kernel_rfl) rfl (by kernel_rfl) hG (Nat.le_of_ble_eq_true rfl) (by kernel_rfl) (by decide) (fun _ p => owSB_solid _) ?_
  rintro ⟨s, m, w, ⟨⟩⟩ hpre


  obtain ⟨hok, hml⟩ := hpre
  dsimp only at hok hml ⊢
  have hok' : OkL OkIm s.items := hok
  have hmx := hok'.1
  obtain ⟨⟨_, hfd⟩, ⟨hl1, hto⟩, ⟨hl2, hbd⟩⟩ := hml
  have z1 : m.frm.domain.size ≤ 2000000 := by have : m.frm.domain.size ≤ 1048576 := hfd; omega
  have z2 : ∀ s ∈ m.body, s.size ≤ 2000000 := fun s hs => by have : s.size ≤ 1048576 := hbd s hs; omega
  have z3 : ∀ a ∈ m.to, a.domain.size ≤ 2000000 := fun a ha => by have : a.domain.size ≤ 1048576 := (hto a ha).2; omega
  by_cases h : SpOk s
  · have b1 := bOf_y h
    by_cases h2 : MlOk m ∧ (0 ≤ w ∧ w ≤ 9999) ∧ Room s
    · rw [SAdd_y h h2]
      obtain ⟨_, _, ⟨hs0, hs1⟩, hs2⟩ := h
      have b2 := bOf_y h2.1
      have b3 := bOf_y h2.2.1
      have b4 := bOf_y h2.2.2
      simp -implicitDefEqProofs only [Tryz.f18, b1, b2, b3, b4, go_sem, h10, c10, h31, c31, h43, c43, h44, c44, h58, c58, h59, c59, List.length_map, List.length_append, List.length_cons, List.length_nil, List.map_append, List.map_cons, List.map_nil, owSB, AS.opn, AS.cls, AS.nilb, AS.renb, Bool.not_false, Bool.not_true, List.set_set, List.set_cons_zero, List.set_cons_succ, List.set_nil, List.mem_singleton, forall_eq, Nat.reduceAdd, Nat.reduceMul, Nat.reduceLeDiff, Nat.reduceEqDiff, reduceCtorEq, Nat.reduceSub, Int.reduceNeg, Nat.reduceMod, Nat.reduceBEq, Nat.reduceLT]
      repeat' (first | with_reducible apply And.intro | with_reducible intro _ | ((first | refine brB_split (fun hb => ?_) (fun hb => ?_) | refine aPickB_split (fun hb => ?_) (fun hb => ?_) | refine gB_split (fun hb => ?_) (fun hb => ?_) | refine adB_split (fun hb => ?_) (fun hb => ?_)) <;> simp -implicitDefEqProofs only [hb, go_sem, h10, c10, h31, c31, h43, c43, h44, c44, h58, c58, h59, c59, List.length_map, List.length_append, List.length_cons, List.length_nil, List.map_append, List.map_cons, List.map_nil, owSB, AS.opn, AS.cls, AS.nilb, AS.renb, Bool.not_false, Bool.not_true, List.set_set, List.set_cons_zero, List.set_cons_succ, List.set_nil, List.mem_singleton, forall_eq, Nat.reduceAdd, Nat.reduceMul, Nat.reduceLeDiff, Nat.reduceEqDiff, reduceCtorEq, Nat.reduceSub, Int.reduceNeg, Nat.reduceMod, Nat.reduceBEq, Nat.reduceLT] <;> try simp only [qa, qb, qc, qd, qe, qf, qg, bOf_t, bOf_f] at hb))
      all_goals first | rfl | omega | assumption | decide | exact z2 _ (by assumption) | exact z3 _ (by assumption) | skip
      all_goals
        refine run_le (Le.nilb 1009 3 1901 true 4 rfl rfl rfl) (run_go ?_)
        simp -implicitDefEqProofs only [go_sem, h10, c10, h31, c31, h43, c43, h44, c44, h58, c58, h59, c59, List.length_map, List.length_append, List.length_cons, List.length_nil, List.map_append, List.map_cons, List.map_nil, owSB, AS.opn, AS.cls, AS.nilb, AS.renb, Bool.not_false, Bool.not_true, List.set_set, List.set_cons_zero, List.set_cons_succ, List.set_nil, List.mem_singleton, forall_eq, Nat.reduceAdd, Nat.reduceMul, Nat.reduceLeDiff, Nat.reduceEqDiff, reduceCtorEq, Nat.reduceSub, Int.reduceNeg, Nat.reduceMod, Nat.reduceBEq, Nat.reduceLT]
        repeat' (first | with_reducible apply And.intro | with_reducible intro _ | ((first | refine brB_split (fun hb => ?_) (fun hb => ?_) | refine aPickB_split (fun hb => ?_) (fun hb => ?_) | refine gB_split (fun hb => ?_) (fun hb => ?_) | refine adB_split (fun hb => ?_) (fun hb => ?_)) <;> simp -implicitDefEqProofs only [hb, go_sem, h10, c10, h31, c31, h43, c43, h44, c44, h58, c58, h59, c59, List.length_map, List.length_append, List.length_cons, List.length_nil, List.map_append, List.map_cons, List.map_nil, owSB, AS.opn, AS.cls, AS.nilb, AS.renb, Bool.not_false, Bool.not_true, List.set_set, List.set_cons_zero, List.set_cons_succ, List.set_nil, List.mem_singleton, forall_eq, Nat.reduceAdd, Nat.reduceMul, Nat.reduceLeDiff, Nat.reduceEqDiff, reduceCtorEq, Nat.reduceSub, Int.reduceNeg, Nat.reduceMod, Nat.reduceBEq, Nat.reduceLT] <;> try simp only [qa, qb, qc, qd, qe, qf, qg, bOf_t, bOf_f] at hb))
        all_goals first | rfl | omega | skip
        refine run_loop [] (ι := {i : Nat // i ≤ m.to.length}) (fun p => ⟨[(2, .t (.v (.int .i64 w))), (6, .pb 1006 0), (7, .t (.v (.bool false))), (8, .pb 1008 0), (9, .pb 1009 0), (45, .t (.sl 2 (m.to.map encAd))), (46, .t (.v (.int .i64 m.to.length))), (47, .t (.v (.int .i64 p.1)))], [(1006, some (.box [.t (.v (.int .i64 0)), .nil])), (1008, some (.box [.t (.v (.int .i64 (s.last + 1))), .h 1017])), (1017, some (.arr true 5 (s.items.map encIm))), (1009, some (.box [.t (.v (.int .i64 (s.last + 1))), .t (.v (.string m.frm.user)), .t (.v (.string m.frm.domain)), .h 1901, .h 1042])), (1042, some (.arr true 1 (m.body.map encStr))), (1901, some (.arr true 4 (((m.to.map (adRc w)).take p.1).map encRc)))]⟩) (fun p => m.to.length - p.1) ⟨0, by simp⟩ rfl ?_ ?_
        · simp -implicitDefEqProofs only [go_sem, h10, c10, h31, c31, h43, c43, h44, c44, h58, c58, h59, c59, List.length_map, List.length_append, List.length_cons, List.length_nil, List.map_append, List.map_cons, List.map_nil, owSB, AS.opn, AS.cls, AS.nilb, AS.renb, Bool.not_false, Bool.not_true, List.set_set, List.set_cons_zero, List.set_cons_succ, List.set_nil, List.mem_singleton, forall_eq, Nat.reduceAdd, Nat.reduceMul, Nat.reduceLeDiff, Nat.reduceEqDiff, reduceCtorEq, Nat.reduceSub, Int.reduceNeg, Nat.reduceMod, Nat.reduceBEq, Nat.reduceLT]
          simp
        · rintro ⟨i, hi⟩
          have hlen : ((m.to.map (adRc w)).take i).length = i := by simp; omega
          by_cases hlt : (i : Int) < m.to.length
          · simp -implicitDefEqProofs only [hlt, decide_true, Int.toNat_natCast, go_sem, h10, c10, h31, c31, h43, c43, h44, c44, h58, c58, h59, c59, List.length_map, List.length_append, List.length_cons, List.length_nil, List.map_append, List.map_cons, List.map_nil, owSB, AS.opn, AS.cls, AS.nilb, AS.renb, Bool.not_false, Bool.not_true, List.set_set, List.set_cons_zero, List.set_cons_succ, List.set_nil, List.mem_singleton, forall_eq, Nat.reduceAdd, Nat.reduceMul, Nat.reduceLeDiff, Nat.reduceEqDiff, reduceCtorEq, Nat.reduceSub, Int.reduceNeg, Nat.reduceMod, Nat.reduceBEq, Nat.reduceLT]
            repeat' (first | with_reducible apply And.intro | with_reducible intro _ | ((first | refine brB_split (fun hb => ?_) (fun hb => ?_) | refine aPickB_split (fun hb => ?_) (fun hb => ?_) | refine gB_split (fun hb => ?_) (fun hb => ?_) | refine adB_split (fun hb => ?_) (fun hb => ?_)) <;> simp -implicitDefEqProofs only [hb, go_sem, h10, c10, h31, c31, h43, c43, h44, c44, h58, c58, h59, c59, List.length_map, List.length_append, List.length_cons, List.length_nil, List.map_append, List.map_cons, List.map_nil, owSB, AS.opn, AS.cls, AS.nilb, AS.renb, Bool.not_false, Bool.not_true, List.set_set, List.set_cons_zero, List.set_cons_succ, List.set_nil, List.mem_singleton, forall_eq, Nat.reduceAdd, Nat.reduceMul, Nat.reduceLeDiff, Nat.reduceEqDiff, reduceCtorEq, Nat.reduceSub, Int.reduceNeg, Nat.reduceMod, Nat.reduceBEq, Nat.reduceLT] <;> try simp only [qa, qb, qc, qd, qe, qf, qg, bOf_t, bOf_f] at hb))
            all_goals (try simp only [maxLen] at *)
            all_goals first | rfl | omega | assumption | decide | skip
            refine run_le (Le.renb 1009 3 1057 1901 rfl rfl rfl rfl) (run_go ?_)
            simp -implicitDefEqProofs only [go_sem, h10, c10, h31, c31, h43, c43, h44, c44, h58, c58, h59, c59, List.length_map, List.length_append, List.length_cons, List.length_nil, List.map_append, List.map_cons, List.map_nil, owSB, AS.opn, AS.cls, AS.nilb, AS.renb, Bool.not_false, Bool.not_true, List.set_set, List.set_cons_zero, List.set_cons_succ, List.set_nil, List.mem_singleton, forall_eq, Nat.reduceAdd, Nat.reduceMul, Nat.reduceLeDiff, Nat.reduceEqDiff, reduceCtorEq, Nat.reduceSub, Int.reduceNeg, Nat.reduceMod, Nat.reduceBEq, Nat.reduceLT]
            repeat' (first | with_reducible apply And.intro | with_reducible intro _ | ((first | refine brB_split (fun hb => ?_) (fun hb => ?_) | refine aPickB_split (fun hb => ?_) (fun hb => ?_) | refine gB_split (fun hb => ?_) (fun hb => ?_) | refine adB_split (fun hb => ?_) (fun hb => ?_)) <;> simp -implicitDefEqProofs only [hb, go_sem, h10, c10, h31, c31, h43, c43, h44, c44, h58, c58, h59, c59, List.length_map, List.length_append, List.length_cons, List.length_nil, List.map_append, List.map_cons, List.map_nil, owSB, AS.opn, AS.cls, AS.nilb, AS.renb, Bool.not_false, Bool.not_true, List.set_set, List.set_cons_zero, List.set_cons_succ, List.set_nil, List.mem_singleton, forall_eq, Nat.reduceAdd, Nat.reduceMul, Nat.reduceLeDiff, Nat.reduceEqDiff, reduceCtorEq, Nat.reduceSub, Int.reduceNeg, Nat.reduceMod, Nat.reduceBEq, Nat.reduceLT] <;> try simp only [qa, qb, qc, qd, qe, qf, qg, bOf_t, bOf_f] at hb))
            all_goals first | rfl | omega | decide | skip
            refine ⟨⟨i + 1, by omega⟩, by dsimp only; omega, ?_⟩
            simp -implicitDefEqProofs only [go_sem, h10, c10, h31, c31, h43, c43, h44, c44, h58, c58, h59, c59, List.length_map, List.length_append, List.length_cons, List.length_nil, List.map_append, List.map_cons, List.map_nil, owSB, AS.opn, AS.cls, AS.nilb, AS.renb, Bool.not_false, Bool.not_true, List.set_set, List.set_cons_zero, List.set_cons_succ, List.set_nil, List.mem_singleton, forall_eq, Nat.reduceAdd, Nat.reduceMul, Nat.reduceLeDiff, Nat.reduceEqDiff, reduceCtorEq, Nat.reduceSub, Int.reduceNeg, Nat.reduceMod, Nat.reduceBEq, Nat.reduceLT]
            simp only [take_rc (show i < m.to.length by omega)]
            repeat' (first | with_reducible apply And.intro | with_reducible intro _ | ((first | refine brB_split (fun hb => ?_) (fun hb => ?_) | refine aPickB_split (fun hb => ?_) (fun hb => ?_) | refine gB_split (fun hb => ?_) (fun hb => ?_) | refine adB_split (fun hb => ?_) (fun hb => ?_)) <;> simp -implicitDefEqProofs only [hb, go_sem, h10, c10, h31, c31, h43, c43, h44, c44, h58, c58, h59, c59, List.length_map, List.length_append, List.length_cons, List.length_nil, List.map_append, List.map_cons, List.map_nil, owSB, AS.opn, AS.cls, AS.nilb, AS.renb, Bool.not_false, Bool.not_true, List.set_set, List.set_cons_zero, List.set_cons_succ, List.set_nil, List.mem_singleton, forall_eq, Nat.reduceAdd, Nat.reduceMul, Nat.reduceLeDiff, Nat.reduceEqDiff, reduceCtorEq, Nat.reduceSub, Int.reduceNeg, Nat.reduceMod, Nat.reduceBEq, Nat.reduceLT] <;> try simp only [qa, qb, qc, qd, qe, qf, qg, bOf_t, bOf_f] at hb))
            all_goals first | rfl | (simp; done) | trace_state
          · simp -implicitDefEqProofs only [hlt, decide_false, go_sem, h10, c10, h31, c31, h43, c43, h44, c44, h58, c58, h59, c59, List.length_map, List.length_append, List.length_cons, List.length_nil, List.map_append, List.map_cons, List.map_nil, owSB, AS.opn, AS.cls, AS.nilb, AS.renb, Bool.not_false, Bool.not_true, List.set_set, List.set_cons_zero, List.set_cons_succ, List.set_nil, List.mem_singleton, forall_eq, Nat.reduceAdd, Nat.reduceMul, Nat.reduceLeDiff, Nat.reduceEqDiff, reduceCtorEq, Nat.reduceSub, Int.reduceNeg, Nat.reduceMod, Nat.reduceBEq, Nat.reduceLT]
            repeat' (first | with_reducible apply And.intro | with_reducible intro _ | ((first | refine brB_split (fun hb => ?_) (fun hb => ?_) | refine aPickB_split (fun hb => ?_) (fun hb => ?_) | refine gB_split (fun hb => ?_) (fun hb => ?_) | refine adB_split (fun hb => ?_) (fun hb => ?_)) <;> simp -implicitDefEqProofs only [hb, go_sem, h10, c10, h31, c31, h43, c43, h44, c44, h58, c58, h59, c59, List.length_map, List.length_append, List.length_cons, List.length_nil, List.map_append, List.map_cons, List.map_nil, owSB, AS.opn, AS.cls, AS.nilb, AS.renb, Bool.not_false, Bool.not_true, List.set_set, List.set_cons_zero, List.set_cons_succ, List.set_nil, List.mem_singleton, forall_eq, Nat.reduceAdd, Nat.reduceMul, Nat.reduceLeDiff, Nat.reduceEqDiff, reduceCtorEq, Nat.reduceSub, Int.reduceNeg, Nat.reduceMod, Nat.reduceBEq, Nat.reduceLT] <;> try simp only [qa, qb, qc, qd, qe, qf, qg, bOf_t, bOf_f] at hb))
            all_goals (try simp only [maxLen] at *)
            all_goals first | rfl | omega | assumption | decide | skip
            rw [List.take_of_length_le (by rw [List.length_map]; omega)]
            simp only [adSp, adIm, List.map_append, List.map_cons, List.map_nil]
            rfl
    · rw [SAdd_n h h2]
      by_cases hm : MlOk m
      · have b2 := bOf_y hm
        by_cases hw : 0 ≤ w ∧ w ≤ 9999
        · have b3 := bOf_y hw
          have b4 := bOf_n (fun q => h2 ⟨hm, hw, q⟩)
          simp -implicitDefEqProofs only [Tryz.f18, b1, b2, b3, b4, go_sem, h10, c10, h31, c31, h43, c43, h44, c44, h58, c58, h59, c59, List.length_map, List.length_append, List.length_cons, List.length_nil, List.map_append, List.map_cons, List.map_nil, owSB, AS.opn, AS.cls, AS.nilb, AS.renb, Bool.not_false, Bool.not_true, List.set_set, List.set_cons_zero, List.set_cons_succ, List.set_nil, List.mem_singleton, forall_eq, Nat.reduceAdd, Nat.reduceMul, Nat.reduceLeDiff, Nat.reduceEqDiff, reduceCtorEq, Nat.reduceSub, Int.reduceNeg, Nat.reduceMod, Nat.reduceBEq, Nat.reduceLT]
          repeat' (first | with_reducible apply And.intro | with_reducible intro _ | ((first | refine brB_split (fun hb => ?_) (fun hb => ?_) | refine aPickB_split (fun hb => ?_) (fun hb => ?_) | refine gB_split (fun hb => ?_) (fun hb => ?_) | refine adB_split (fun hb => ?_) (fun hb => ?_)) <;> simp -implicitDefEqProofs only [hb, go_sem, h10, c10, h31, c31, h43, c43, h44, c44, h58, c58, h59, c59, List.length_map, List.length_append, List.length_cons, List.length_nil, List.map_append, List.map_cons, List.map_nil, owSB, AS.opn, AS.cls, AS.nilb, AS.renb, Bool.not_false, Bool.not_true, List.set_set, List.set_cons_zero, List.set_cons_succ, List.set_nil, List.mem_singleton, forall_eq, Nat.reduceAdd, Nat.reduceMul, Nat.reduceLeDiff, Nat.reduceEqDiff, reduceCtorEq, Nat.reduceSub, Int.reduceNeg, Nat.reduceMod, Nat.reduceBEq, Nat.reduceLT] <;> try simp only [qa, qb, qc, qd, qe, qf, qg, bOf_t, bOf_f] at hb))
          all_goals first | rfl | omega | assumption | decide | exact z2 _ (by assumption) | exact z3 _ (by assumption) | trace_state
        · have b3 := bOf_n hw
          simp -implicitDefEqProofs only [Tryz.f18, b1, b2, b3, go_sem, h10, c10, h31, c31, h43, c43, h44, c44, h58, c58, h59, c59, List.length_map, List.length_append, List.length_cons, List.length_nil, List.map_append, List.map_cons, List.map_nil, owSB, AS.opn, AS.cls, AS.nilb, AS.renb, Bool.not_false, Bool.not_true, List.set_set, List.set_cons_zero, List.set_cons_succ, List.set_nil, List.mem_singleton, forall_eq, Nat.reduceAdd, Nat.reduceMul, Nat.reduceLeDiff, Nat.reduceEqDiff, reduceCtorEq, Nat.reduceSub, Int.reduceNeg, Nat.reduceMod, Nat.reduceBEq, Nat.reduceLT]
          repeat' (first | with_reducible apply And.intro | with_reducible intro _ | ((first | refine brB_split (fun hb => ?_) (fun hb => ?_) | refine aPickB_split (fun hb => ?_) (fun hb => ?_) | refine gB_split (fun hb => ?_) (fun hb => ?_) | refine adB_split (fun hb => ?_) (fun hb => ?_)) <;> simp -implicitDefEqProofs only [hb, go_sem, h10, c10, h31, c31, h43, c43, h44, c44, h58, c58, h59, c59, List.length_map, List.length_append, List.length_cons, List.length_nil, List.map_append, List.map_cons, List.map_nil, owSB, AS.opn, AS.cls, AS.nilb, AS.renb, Bool.not_false, Bool.not_true, List.set_set, List.set_cons_zero, List.set_cons_succ, List.set_nil, List.mem_singleton, forall_eq, Nat.reduceAdd, Nat.reduceMul, Nat.reduceLeDiff, Nat.reduceEqDiff, reduceCtorEq, Nat.reduceSub, Int.reduceNeg, Nat.reduceMod, Nat.reduceBEq, Nat.reduceLT] <;> try simp only [qa, qb, qc, qd, qe, qf, qg, bOf_t, bOf_f] at hb))
          all_goals first | rfl | omega | assumption | decide | exact z2 _ (by assumption) | exact z3 _ (by assumption) | trace_state
      · have b2 := bOf_n hm
        simp -implicitDefEqProofs only [Tryz.f18, b1, b2, go_sem, h10, c10, h31, c31, h43, c43, h44, c44, h58, c58, h59, c59, List.length_map, List.length_append, List.length_cons, List.length_nil, List.map_append, List.map_cons, List.map_nil, owSB, AS.opn, AS.cls, AS.nilb, AS.renb, Bool.not_false, Bool.not_true, List.set_set, List.set_cons_zero, List.set_cons_succ, List.set_nil, List.mem_singleton, forall_eq, Nat.reduceAdd, Nat.reduceMul, Nat.reduceLeDiff, Nat.reduceEqDiff, reduceCtorEq, Nat.reduceSub, Int.reduceNeg, Nat.reduceMod, Nat.reduceBEq, Nat.reduceLT]
        repeat' (first | with_reducible apply And.intro | with_reducible intro _ | ((first | refine brB_split (fun hb => ?_) (fun hb => ?_) | refine aPickB_split (fun hb => ?_) (fun hb => ?_) | refine gB_split (fun hb => ?_) (fun hb => ?_) | refine adB_split (fun hb => ?_) (fun hb => ?_)) <;> simp -implicitDefEqProofs only [hb, go_sem, h10, c10, h31, c31, h43, c43, h44, c44, h58, c58, h59, c59, List.length_map, List.length_append, List.length_cons, List.length_nil, List.map_append, List.map_cons, List.map_nil, owSB, AS.opn, AS.cls, AS.nilb, AS.renb, Bool.not_false, Bool.not_true, List.set_set, List.set_cons_zero, List.set_cons_succ, List.set_nil, List.mem_singleton, forall_eq, Nat.reduceAdd, Nat.reduceMul, Nat.reduceLeDiff, Nat.reduceEqDiff, reduceCtorEq, Nat.reduceSub, Int.reduceNeg, Nat.reduceMod, Nat.reduceBEq, Nat.reduceLT] <;> try simp only [qa, qb, qc, qd, qe, qf, qg, bOf_t, bOf_f] at hb))
        all_goals first | rfl | omega | assumption | decide | exact z2 _ (by assumption) | exact z3 _ (by assumption) | trace_state
  · have b1 := bOf_n h
    rw [SAdd_no h]
    simp -implicitDefEqProofs only [Tryz.f18, b1, go_sem, h10, c10, h31, c31, h43, c43, h44, c44, h58, c58, h59, c59, List.length_map, List.length_append, List.length_cons, List.length_nil, List.map_append, List.map_cons, List.map_nil, owSB, AS.opn, AS.cls, AS.nilb, AS.renb, Bool.not_false, Bool.not_true, List.set_set, List.set_cons_zero, List.set_cons_succ, List.set_nil, List.mem_singleton, forall_eq, Nat.reduceAdd, Nat.reduceMul, Nat.reduceLeDiff, Nat.reduceEqDiff, reduceCtorEq, Nat.reduceSub, Int.reduceNeg, Nat.reduceMod, Nat.reduceBEq, Nat.reduceLT]
    repeat' (first | with_reducible apply And.intro | with_reducible intro _ | ((first | refine brB_split (fun hb => ?_) (fun hb => ?_) | refine aPickB_split (fun hb => ?_) (fun hb => ?_) | refine gB_split (fun hb => ?_) (fun hb => ?_) | refine adB_split (fun hb => ?_) (fun hb => ?_)) <;> simp -implicitDefEqProofs only [hb, go_sem, h10, c10, h31, c31, h43, c43, h44, c44, h58, c58, h59, c59, List.length_map, List.length_append, List.length_cons, List.length_nil, List.map_append, List.map_cons, List.map_nil, owSB, AS.opn, AS.cls, AS.nilb, AS.renb, Bool.not_false, Bool.not_true, List.set_set, List.set_cons_zero, List.set_cons_succ, List.set_nil, List.mem_singleton, forall_eq, Nat.reduceAdd, Nat.reduceMul, Nat.reduceLeDiff, Nat.reduceEqDiff, reduceCtorEq, Nat.reduceSub, Int.reduceNeg, Nat.reduceMod, Nat.reduceBEq, Nat.reduceLT] <;> try simp only [qa, qb, qc, qd, qe, qf, qg, bOf_t, bOf_f] at hb))
    all_goals first | rfl | omega | assumption | decide | trace_state

end Go.V
namespace Go.V
open Go Go.Proofs Go.Shelf Go.RowKit Go.Lib Go.Sort
set_option maxRecDepth 1000000
set_option linter.unusedSimpArgs false
set_option linter.unusedVariables false
/-- What is behind a slice moves within its own row. -/
theorem run_appendAt {P : Program} (w : World) (t ty e : TypeId) (i : TypeInfo) (ht : P.underlying t = some (.slice e)) (hi : P.info? e = some i) (b sLen sCap : Nat) (cur : Array Value) (et : TypeId) (hb : w.heap[b]? = some (.cells cur et (0, 0)))
    (a : Addr) (m c : Nat) (news : List Value) (hl : news.length = m * i.size) (hnews : ∀ j u, news[j]? = some u → w.cell? (a.add j) = some u) (h1 : ∀ u ∈ news, u.oneCell' = true) (hroom : sLen + m ≤ sCap) (hsz : sLen * i.size + news.length ≤ cur.size) :
    (Builtin.append_ #[t, t] ty #[.slice (some ⟨b, 0, none⟩) sLen sCap, .slice (some a) m c]).run P w = .ok (.slice (some ⟨b, 0, none⟩) (sLen + m) sCap) (w.setRow b (Go.V.splice cur.toList (sLen * i.size) news).toArray) := by
  have hfc := run_firstCells_some (P := P) w i.size m a m c news hl hnews
  have hst := run_storeCells_at P b (sLen * i.size) et news 0 cur w hb (by simpa using hsz) h1
  simp only [Nat.add_zero, List.append_assoc] at hst
  simp [Builtin.append_, run_underlying ht, sizeOf, typeInfo, hi, Builtin.lenOf, hroom, hfc, Addr.add_lit, hst, Go.V.splice]
theorem step_appendAt {P : Program} {ops : Array Oper} {o : Oper} {a : Act} {w : World} {K : Act → World → Prop} {Q : Exit → Act → World → Prop} {E : Prop}
    (hg : o.guard = none) (s x : Operand) (t : TypeId) (hop : o.op = Op.call { callee := Callee.builtin Builtin.append, args := #[s, x], argTypes := #[t, t] })
    (r : Value) (W' : World) (hrun : (Builtin.append_ #[t, t] o.type #[a.eval s, a.eval x]).run P w = .ok r W')
    (hK : K (a.put o.dst r) W') :
    if Region.wanted o (yielded ops a.tmps) = true then Oper.wp P o a w K Q else E := by
  have hw : Region.wanted o (yielded ops a.tmps) = true := by simp [Region.wanted, hg]
  rw [if_pos hw]
  unfold Oper.wp
  simp [execOp, hop, resolve, invoke, builtin, hrun, Result.andThen]
  exact hK
/-- Zeros are laid. -/
theorem run_clearAt {P : Program} (w : World) (t e : TypeId) (z : Value) (size : Nat) (ht : P.underlying t = some (.slice e)) (hv : ∀ w, (zeroValue e).run P w = .ok z w) (hz : z.cells.size = size) (h1 : ∀ u ∈ z.cells.toList, u.oneCell' = true) (b o n c : Nat) (hn : 0 < n) (cur : Array Value) (et : TypeId)
    (hb : w.heap[b]? = some (.cells cur et (0, 0))) (hs : o + n * size ≤ cur.size) :
    ∃ cs : List Value, cs.length = n * size ∧ ∀ ty, (Builtin.clear_ #[t] ty #[.slice (some ⟨b, o, none⟩) n c]).run P w = .ok (.tuple #[]) (w.setRow b (Go.V.splice cur.toList o cs).toArray) := by
  have hlen : (Builtin.zeroCells z.cells n).toList.length = n * size := by
    simp [Builtin.zeroCells, hz]
  have hone : ∀ u ∈ (Builtin.zeroCells z.cells n).toList, u.oneCell' = true := by
    intro u hu
    simp only [Builtin.zeroCells, Array.toList_map, List.mem_map] at hu
    obtain ⟨k, hk, rfl⟩ := hu
    have hk2 : k < n * z.cells.size := by simpa using hk
    have hpos : 0 < z.cells.size := by
      rcases Nat.eq_zero_or_pos z.cells.size with h | h
      · rw [h] at hk2; omega
      · exact h
    have hlt : k % z.cells.size < z.cells.size := Nat.mod_lt _ hpos
    rw [getElem!_pos z.cells _ hlt]
    exact h1 _ (by simp)
  have hst := run_storeCells_at P b o et (Builtin.zeroCells z.cells n).toList 0 cur w hb (by simpa [hlen] using hs) hone
  simp only [Nat.add_zero, List.append_assoc] at hst
  obtain ⟨m, rfl⟩ : ∃ m, n = m + 1 := ⟨n - 1, by omega⟩
  refine ⟨_, hlen, fun ty => ?_⟩
  simp [Builtin.clear_, run_underlying ht, hv, hst, Go.V.splice]
/-- What stands behind the deletion: the row, and all else. -/
def DelEnd (n b cap i j len : Nat) (cur : Array Value) (et : TypeId) (w : World) (e : Ending) (w' : World) : Prop :=
  e = .returned (.slice (some ⟨b, 0, none⟩) (len - (j - i)) cap) ∧ ∃ cur' : Array Value, w'.heap[b]? = some (.cells cur' et (0, 0)) ∧ cur'.size = cur.size ∧
    cur'.toList.take ((len - (j - i)) * n) = (cur.toList.take (len * n)).take (i * n) ++ (cur.toList.take (len * n)).drop (j * n) ∧
    w'.os = w.os ∧ w'.tape = w.tape ∧ w'.output = w.output ∧ w'.heap.size = w.heap.size ∧ ∀ c, c ≠ b → w'.heap[c]? = w.heap[c]?
def DelRaw (P : Program) (f : FuncId) (n : Nat) : Prop := ∀ (w : World) (b cap i j len : Nat) (cur : Array Value) (et : TypeId), w.heap[b]? = some (.cells cur et (0, 0)) → cur.size = cap * n → len ≤ cap → cap ≤ 9223372036854775807 → i < j → j ≤ len → (∀ u ∈ cur.toList.take (len * n), u.oneCell' = true) →
  Calls P f #[.slice (some ⟨b, 0, none⟩) len cap, .int .i64 i, .int .i64 j] w (DelEnd n b cap i j len cur et w)
theorem splice_len {α : Type} {l ys : List α} {o : Nat} (h : o + ys.length ≤ l.length) : (Go.V.splice l o ys).length = l.length := by
  simp [Go.V.splice]; omega
theorem take_splice {α : Type} {l ys : List α} {o k : Nat} (h : o ≤ l.length) (hk : k ≤ o) : (Go.V.splice l o ys).take k = l.take k := by
  unfold Go.V.splice
  rw [List.take_append_of_le_length (by simp; omega), List.take_take, Nat.min_eq_left hk]
theorem take_splice2 {α : Type} {l ys : List α} {o : Nat} (h : o ≤ l.length) : (Go.V.splice l o ys).take (o + ys.length) = l.take o ++ ys := by
  unfold Go.V.splice
  rw [← List.append_assoc, List.take_append_of_le_length (by simp; omega), List.take_of_length_le (by simp; omega)]
/-- The two stores, behind one another. -/
theorem delEnd_of {n b cap i j len : Nat} {cur : Array Value} {et : TypeId} {w : World} (hb : w.heap[b]? = some (.cells cur et (0, 0))) (hs : cur.size = cap * n) (hlc : len ≤ cap) (hij : i < j) (hj : j ≤ len) {news cs : List Value} (hnews : news = (cur.toList.drop (j * n)).take ((len - j) * n))
    (hcs : cs.length = (j - i) * n) {W1 W2 : World} (hW1 : W1 = w.drew.setRow b (Go.V.splice cur.toList (i * n) news).toArray) (hW2 : W2 = W1.setRow b (Go.V.splice (Go.V.splice cur.toList (i * n) news) ((i + (len - j)) * n) cs).toArray) :
    DelEnd n b cap i j len cur et w (.returned (.slice (some ⟨b, 0, none⟩) (i + (len - j)) cap)) W2 := by
  have e1 : len * n ≤ cap * n := Nat.mul_le_mul_right n hlc
  have e2 : j * n ≤ len * n := Nat.mul_le_mul_right n hj
  have e3 : i * n ≤ j * n := Nat.mul_le_mul_right n (by omega)
  have e4 : (len - j) * n = len * n - j * n := Nat.sub_mul _ _ _
  have e5 : (j - i) * n = j * n - i * n := Nat.sub_mul _ _ _
  have e6 : (i + (len - j)) * n = i * n + (len - j) * n := Nat.add_mul _ _ _
  have hcl : cur.toList.length = cap * n := by simp [hs]
  have hnl : news.length = (len - j) * n := by rw [hnews, List.length_take, List.length_drop, hcl]; omega
  have hl1 : (Go.V.splice cur.toList (i * n) news).length = cap * n := by rw [splice_len (by omega), hcl]
  have hl2 : (Go.V.splice (Go.V.splice cur.toList (i * n) news) ((i + (len - j)) * n) cs).length = cap * n := by rw [splice_len (by omega), hl1]
  have hb1 : W1.heap[b]? = some (.cells (Go.V.splice cur.toList (i * n) news).toArray et (0, 0)) := by rw [hW1]; exact setRow_heap w.drew b _ _ et _ hb
  refine ⟨by rw [show len - (j - i) = i + (len - j) by omega], (Go.V.splice (Go.V.splice cur.toList (i * n) news) ((i + (len - j)) * n) cs).toArray, by rw [hW2]; exact setRow_heap W1 b _ _ et _ hb1, by rw [List.size_toArray, hl2, hs], ?_, by rw [hW2, hW1]; rfl, by rw [hW2, hW1]; rfl, by rw [hW2, hW1]; rfl, by rw [hW2, hW1]; simp only [World.setRow, Array.size_modify]; rfl, fun c hc => ?_⟩
  · show (Go.V.splice (Go.V.splice cur.toList (i * n) news) ((i + (len - j)) * n) cs).take _ = _
    rw [show (len - (j - i)) * n = (i + (len - j)) * n by rw [show len - (j - i) = i + (len - j) by omega], take_splice (by omega) (Nat.le_refl _), e6, ← hnl, take_splice2 (by omega), List.take_take, Nat.min_eq_left (by omega), hnews, List.drop_take, e4]
  · rw [hW2, setRow_other W1 b c _ hc, hW1, setRow_other w.drew b c _ hc]
    rfl
theorem flat_lenN {α : Type} {n : Nat} : ∀ {es : List (List α)}, (∀ x ∈ es, x.length = n) → es.flatten.length = es.length * n
  | [], _ => by simp
  | e :: es, h => by
    rw [List.flatten_cons, List.length_append, h e (by simp), flat_lenN fun x hx => h x (by simp [hx]), List.length_cons, Nat.succ_mul]; omega
theorem con_del {P : Program} {m : Int} {f : FuncId} {n : Nat} (hraw : DelRaw P f n) (es : List (List T)) (i j : Nat) (hij : i < j) (hj : j ≤ es.length) :
    Con P m f [.o true n es, .t (.v (.int .i64 i)), .t (.v (.int .i64 j))] [.any, .t (.v (.int .i64 i)), .t (.v (.int .i64 j))] (.o true n (es.take i ++ es.drop j)) := by
  intro w pr vs F hgl hA hnd hF hpr
  cases hA with
  | cons _ v0 _ _ F0 _ h0 hA =>
  cases hA with
  | cons _ v1 _ _ F1 _ h1 hA =>
  cases hA with
  | cons _ v2 _ _ F2 _ h2 hA =>
  cases hA with
  | nil =>
  cases h1 with
  | t _ _ h1 =>
  cases h1 with
  | v _ g1 =>
  cases h2 with
  | t _ _ h2 =>
  cases h2 with
  | v _ g2 =>
  cases h0 with
  | o _ _ _ _ _ ha =>
  rcases ha with ⟨rfl, _, _⟩ | ⟨b, len, cap, cur, et, vs', G, rfl, hl, hc, hm, hn, hg, hs, hv, rfl, hr⟩
  · simp at hj; omega
  have hr : DpL w es.flatten vs' G := hr
  have hvl : vs'.length = len * n := by rw [← hr.len, flat_lenN hn, hl]
  have hone : ∀ u ∈ vs', u.oneCell' = true := fun u hu => by
    obtain ⟨k, hk, rfl⟩ := List.getElem_of_mem hu
    have hk2 : k < es.flatten.length := by rw [hr.len]; exact hk
    obtain ⟨v, _, _, _, q1, q2, _⟩ := hr.at (List.getElem?_eq_getElem hk2)
    rw [List.getElem?_eq_getElem hk, Option.some.injEq] at q1
    rw [q1]; exact q2.one
  have hcall := hraw w b cap i j len cur et hg hs hc hm hij (by omega) (by rw [hv]; exact hone)
  refine Calls.mono hcall fun e w' hq => ?_
  obtain ⟨he, cur', c1, c2, c3, o1, o2, o3, o4, o5⟩ := hq
  rw [hv] at c3
  -- the blocks that go, and those that stay
  have hes : es = es.take i ++ ((es.drop i).take (j - i) ++ es.drop j) := by
    have h2 : es.drop j = (es.drop i).drop (j - i) := by rw [List.drop_drop]; congr 1; omega
    rw [h2, List.take_append_drop, List.take_append_drop]
  have hvs : vs' = vs'.take (i * n) ++ ((vs'.drop (i * n)).take ((j - i) * n) ++ vs'.drop (j * n)) := by
    have h2 : vs'.drop (j * n) = (vs'.drop (i * n)).drop ((j - i) * n) := by
      rw [List.drop_drop]; congr 1
      rw [← Nat.add_mul]; congr 1; omega
    rw [h2, List.take_append_drop, List.take_append_drop]
  have e1 : i * n ≤ len * n := Nat.mul_le_mul_right n (by omega)
  have e2 : j * n ≤ len * n := Nat.mul_le_mul_right n (by omega)
  have e5 : (j - i) * n = j * n - i * n := Nat.sub_mul _ _ _
  have e7 : i * n ≤ j * n := Nat.mul_le_mul_right n (by omega)
  have l1 : (es.take i).flatten.length = i * n := by rw [flat_lenN fun x hx => hn x (List.mem_of_mem_take hx), List.length_take]; congr 1; omega
  have l2 : ((es.drop i).take (j - i)).flatten.length = (j - i) * n := by rw [flat_lenN fun x hx => hn x (List.mem_of_mem_drop (List.mem_of_mem_take hx)), List.length_take, List.length_drop]; congr 1; omega
  have hr2 : DpL w ((es.take i).flatten ++ (((es.drop i).take (j - i)).flatten ++ (es.drop j).flatten)) (vs'.take (i * n) ++ ((vs'.drop (i * n)).take ((j - i) * n) ++ vs'.drop (j * n))) G := by
    rw [← List.flatten_append, ← List.flatten_append, ← hes, ← hvs]; exact hr
  obtain ⟨G1, G', rfl, d1, hr3⟩ := DpL.split hr2 (by rw [l1, List.length_take]; omega)
  obtain ⟨G2, G3, rfl, d2, d3⟩ := DpL.split hr3 (by rw [l2, List.length_take, List.length_drop]; omega)
  simp only [List.append_nil] at hnd hF ⊢
  have hsub : ∀ c ∈ G1 ++ G3, c ∈ G1 ++ (G2 ++ G3) := fun c hc => by
    simp only [List.mem_append] at hc ⊢
    exact hc.elim .inl fun h => .inr (.inr h)
  have hbn : b ∉ G1 ++ (G2 ++ G3) := (List.nodup_cons.1 hnd).1
  have hne : ∀ c ∈ G1 ++ G3, c ≠ b := fun c hc e => hbn (e ▸ hsub c hc)
  have hnd2 : (b :: (G1 ++ G3)).Nodup := List.nodup_cons.2 ⟨fun h => hbn (hsub b h), List.Nodup.sublist (List.sublist_append_right G2 G3 |>.append_left G1) (List.nodup_cons.1 hnd).2⟩
  have hd : DpL w' (es.take i ++ es.drop j).flatten (vs'.take (i * n) ++ vs'.drop (j * n)) (G1 ++ G3) := by
    rw [List.flatten_append]
    exact (d1.append d3).keep fun c hc => o5 c (hne c hc)
  refine ⟨_, pr, [], b :: (G1 ++ G3), he, ⟨o1, o2, o3, by omega, fun k _ hk => o5 k fun e => hk (by rw [e]; simp)⟩, fun _ h => h, fun _ h => .inl h, fun c hc => by rw [o4]; exact hpr c hc, .cons _ _ _ _ [] [] (.any _) (.cons _ _ _ _ [] [] (.t _ _ (.v _ g1)) (.cons _ _ _ _ [] [] (.t _ _ (.v _ g2)) .nil)), .o _ _ _ _ _ (.inr ⟨b, len - (j - i), cap, cur', et, _, G1 ++ G3, rfl, ?_, by omega, hm, ?_, c1, by rw [c2, hs], c3, rfl, hd⟩), by simpa using hnd2, fun c hc => ?_⟩
  · simp; omega
  · intro x hx
    rcases List.mem_append.1 hx with hx | hx
    · exact hn x (List.mem_of_mem_take hx)
    · exact hn x (List.mem_of_mem_drop hx)
  · simp only [List.nil_append] at hc
    have hin : c ∈ b :: (G1 ++ (G2 ++ G3)) := by
      rcases List.mem_cons.1 hc with e | hc
      · rw [e]; simp
      · exact List.mem_cons_of_mem _ (hsub c hc)
    have := hF c (by simpa using hin)
    exact ⟨by rw [o4]; exact this.1, this.2, .inr (by simpa using hin)⟩
theorem func75 : Tryz.prog.funcs[75]? = some Tryz.f75 := by kernel_rfl
theorem nt75 : Tryz.f75.ntmps = 33 := rfl
noncomputable def inf75 : TypeInfo := (Tryz.prog.info? 93).get (by kernel_rfl)
theorem inf75_is : Tryz.prog.info? 93 = some inf75 := by kernel_rfl
theorem inf75_size : inf75.size = 4 := by kernel_rfl
theorem zv75 (w : World) : (zeroValue 93).run Tryz.prog w = .ok (.agg #[.string ⟨#[]⟩, .string ⟨#[]⟩, .int .i64 0, .int .i64 0]) w := by kernel_rfl
set_option maxHeartbeats 4000000 in
theorem del75 : DelRaw Tryz.prog 75 4 := by
  intro w b cap i j len cur et hb hs hlc hm hij hj hone
  have t0 : Tryz.prog.underlying 0 = some (TypeDesc.tuple #[]) := by kernel_rfl
  have a0 : ∀ w, (isAgg 0).run Tryz.prog w = .ok false w := run_isAgg_plain t0 rfl
  have t3 : Tryz.prog.underlying 3 = some (.int .i64) := by kernel_rfl
  have a3 : ∀ w, (isAgg 3).run Tryz.prog w = .ok false w := run_isAgg_plain t3 rfl
  have t4 : Tryz.prog.underlying 4 = some .bool := by kernel_rfl
  have a4 : ∀ w, (isAgg 4).run Tryz.prog w = .ok false w := run_isAgg_plain t4 rfl
  have tS : Tryz.prog.underlying 75 = some (.slice 93) := by kernel_rfl
  have aS : ∀ w, (isAgg 75).run Tryz.prog w = .ok false w := run_isAgg_plain tS rfl
  have zE : ∀ w, (Go.sizeOf 93).run Tryz.prog w = .ok 4 w := fun w => by kernel_rfl
  have mixed : Tryz.prog.follows .mixedOrders = true := by kernel_rfl
  have hic : i ≤ cap := by omega
  have hjc : j ≤ cap := by omega
  have hil : i ≤ len := by omega
  obtain ⟨news, hnews⟩ : ∃ news, news = (cur.toList.drop (j * 4)).take ((len - j) * 4) := ⟨_, rfl⟩
  have hcl : cur.toList.length = cap * 4 := by simp [hs]
  have hnl : news.length = (len - j) * 4 := by rw [hnews, List.length_take, List.length_drop, hcl]; omega
  obtain ⟨A, hA, hsrc⟩ : ∃ A : Addr, (if cap = j then some (⟨b, 0, none⟩ : Addr) else some ⟨b, j * 4, none⟩) = some A ∧ (∀ t u, news[t]? = some u → w.drew.cell? (A.add t) = some u) := by
    by_cases h : cap = j
    · refine ⟨⟨b, 0, none⟩, by simp [h], fun t u hu => ?_⟩
      have : t < news.length := (List.getElem?_eq_some_iff.1 hu).1
      omega
    · refine ⟨⟨b, j * 4, none⟩, by simp [h], fun t u hu => ?_⟩
      rw [hnews, List.getElem?_take] at hu
      split at hu
      · rw [List.getElem?_drop] at hu
        show w.cell? _ = _
        rw [Addr.add_lit]
        simp only [World.cell?, hb]
        simpa using hu
      · cases hu
  have hnone : ∀ u ∈ news, u.oneCell' = true := fun u hu => by
    rw [hnews] at hu
    refine hone u ?_
    rw [show (len - j) * 4 = len * 4 - j * 4 by omega, ← List.drop_take] at hu
    exact List.mem_of_mem_drop hu
  obtain ⟨W1, hW1⟩ : ∃ W1, W1 = w.drew.setRow b (Go.V.splice cur.toList (i * 4) news).toArray := ⟨_, rfl⟩
  have hap : Hid (∀ ty, (Builtin.append_ #[75, 75] ty #[.slice (some ⟨b, 0, none⟩) i cap, .slice (some A) (len - j) (cap - j)]).run Tryz.prog w.drew = .ok (.slice (some ⟨b, 0, none⟩) (i + (len - j)) cap) W1) := fun ty => by
    have := run_appendAt (P := Tryz.prog) w.drew 75 ty 93 inf75 tS inf75_is b i cap cur et hb A (len - j) (cap - j) news (by rw [inf75_size]; exact hnl) hsrc hnone (by omega) (by rw [inf75_size, hnl, hs]; omega)
    rw [inf75_size] at this
    rw [hW1]; exact this
  have hl1 : (Go.V.splice cur.toList (i * 4) news).length = cap * 4 := by rw [splice_len (by omega), hcl]
  have hb1 : W1.heap[b]? = some (.cells (Go.V.splice cur.toList (i * 4) news).toArray et (0, 0)) := by rw [hW1]; exact setRow_heap w.drew b _ _ et _ hb
  obtain ⟨cs, hcs, hcl0⟩ := run_clearAt (P := Tryz.prog) W1 75 93 (.agg #[.string ⟨#[]⟩, .string ⟨#[]⟩, .int .i64 0, .int .i64 0]) 4 tS zv75 rfl (by intro u hu; simp [Value.cells] at hu; rcases hu with rfl | rfl | rfl | rfl <;> rfl) b ((i + (len - j)) * 4) (len - (i + (len - j))) (cap - (i + (len - j))) (by omega) _ et hb1 (by rw [List.size_toArray, hl1]; omega)
  obtain ⟨W2, hW2⟩ : ∃ W2, W2 = W1.setRow b (Go.V.splice (Go.V.splice cur.toList (i * 4) news) ((i + (len - j)) * 4) cs).toArray := ⟨_, rfl⟩
  have hcl : ∀ ty, (Builtin.clear_ #[75] ty #[.slice (some ⟨b, (i + (len - j)) * 4, none⟩) (len - (i + (len - j))) (cap - (i + (len - j)))]).run Tryz.prog W1 = .ok (.tuple #[]) W2 := fun ty => by rw [hW2]; exact hcl0 ty
  have X : Hid (DelEnd 4 b cap i j len cur et w (.returned (.slice (some ⟨b, 0, none⟩) (i + (len - j)) cap)) W2) := delEnd_of hb hs hlc hij hj hnews (by rw [hcs]; congr 1; omega) hW1 hW2
  clear hW1 hW2 hb hb1 hl1 hcs hcl0 hone hnone hsrc hnl hnews
  go_enter func75, nt75
  go_wp2_with fail
  go_region_law_o (refine step_appendAt rfl (.tmp 22) (.tmp 25) 75 rfl (.slice (some ⟨b, 0, none⟩) (i + (len - j)) cap) W1 (by simp [Act.eval, Act.put]; exact hap.out 75) ?_)
  go_wp2
  go_ret
  exact X.out
def c75 : Mt := ctM (lc (ERc.aow true 4) (lc AInt (lc AInt l0))) (fun p => 0 ≤ p.2.1 ∧ p.2.1 < p.2.2.1 ∧ p.2.2.1 ≤ p.1.length) (fun p => ([.any, .t (.v (.int .i64 p.2.1)), .t (.v (.int .i64 p.2.2.1))], .o true 4 ((p.1.take p.2.1.toNat ++ p.1.drop p.2.2.1.toNat).map encRc)))
theorem good75 {G : Gt} (hG : OkG G) : Gd G 75 (muEnt c75) := Good.ofM (by kernel_rfl) fun ⟨xs, i, j, _⟩ h => by
  obtain ⟨h0, h1, h2⟩ := h
  dsimp only at h0 h1 h2 ⊢
  obtain ⟨a, rfl⟩ := Int.eq_ofNat_of_zero_le h0
  obtain ⟨c, rfl⟩ := Int.eq_ofNat_of_zero_le (show 0 ≤ j by omega)
  have := con_del (m := G.m) del75 (xs.map encRc) a c (by omega) (by rw [List.length_map]; omega)
  rw [← List.map_take, ← List.map_drop, ← List.map_append] at this
  exact this
theorem func76 : Tryz.prog.funcs[76]? = some Tryz.f76 := by kernel_rfl
theorem nt76 : Tryz.f76.ntmps = 33 := rfl
noncomputable def inf76 : TypeInfo := (Tryz.prog.info? 77).get (by kernel_rfl)
theorem inf76_is : Tryz.prog.info? 77 = some inf76 := by kernel_rfl
theorem inf76_size : inf76.size = 5 := by kernel_rfl
theorem zv76 (w : World) : (zeroValue 77).run Tryz.prog w = .ok (.agg #[.int .i64 0, .string ⟨#[]⟩, .string ⟨#[]⟩, .slice none 0 0, .slice none 0 0]) w := by kernel_rfl
set_option maxHeartbeats 4000000 in
theorem del76 : DelRaw Tryz.prog 76 5 := by
  intro w b cap i j len cur et hb hs hlc hm hij hj hone
  have t0 : Tryz.prog.underlying 0 = some (TypeDesc.tuple #[]) := by kernel_rfl
  have a0 : ∀ w, (isAgg 0).run Tryz.prog w = .ok false w := run_isAgg_plain t0 rfl
  have t3 : Tryz.prog.underlying 3 = some (.int .i64) := by kernel_rfl
  have a3 : ∀ w, (isAgg 3).run Tryz.prog w = .ok false w := run_isAgg_plain t3 rfl
  have t4 : Tryz.prog.underlying 4 = some .bool := by kernel_rfl
  have a4 : ∀ w, (isAgg 4).run Tryz.prog w = .ok false w := run_isAgg_plain t4 rfl
  have tS : Tryz.prog.underlying 23 = some (.slice 77) := by kernel_rfl
  have aS : ∀ w, (isAgg 23).run Tryz.prog w = .ok false w := run_isAgg_plain tS rfl
  have zE : ∀ w, (Go.sizeOf 77).run Tryz.prog w = .ok 5 w := fun w => by kernel_rfl
  have mixed : Tryz.prog.follows .mixedOrders = true := by kernel_rfl
  have hic : i ≤ cap := by omega
  have hjc : j ≤ cap := by omega
  have hil : i ≤ len := by omega
  obtain ⟨news, hnews⟩ : ∃ news, news = (cur.toList.drop (j * 5)).take ((len - j) * 5) := ⟨_, rfl⟩
  have hcl : cur.toList.length = cap * 5 := by simp [hs]
  have hnl : news.length = (len - j) * 5 := by rw [hnews, List.length_take, List.length_drop, hcl]; omega
  obtain ⟨A, hA, hsrc⟩ : ∃ A : Addr, (if cap = j then some (⟨b, 0, none⟩ : Addr) else some ⟨b, j * 5, none⟩) = some A ∧ (∀ t u, news[t]? = some u → w.drew.cell? (A.add t) = some u) := by
    by_cases h : cap = j
    · refine ⟨⟨b, 0, none⟩, by simp [h], fun t u hu => ?_⟩
      have : t < news.length := (List.getElem?_eq_some_iff.1 hu).1
      omega
    · refine ⟨⟨b, j * 5, none⟩, by simp [h], fun t u hu => ?_⟩
      rw [hnews, List.getElem?_take] at hu
      split at hu
      · rw [List.getElem?_drop] at hu
        show w.cell? _ = _
        rw [Addr.add_lit]
        simp only [World.cell?, hb]
        simpa using hu
      · cases hu
  have hnone : ∀ u ∈ news, u.oneCell' = true := fun u hu => by
    rw [hnews] at hu
    refine hone u ?_
    rw [show (len - j) * 5 = len * 5 - j * 5 by omega, ← List.drop_take] at hu
    exact List.mem_of_mem_drop hu
  obtain ⟨W1, hW1⟩ : ∃ W1, W1 = w.drew.setRow b (Go.V.splice cur.toList (i * 5) news).toArray := ⟨_, rfl⟩
  have hap : Hid (∀ ty, (Builtin.append_ #[23, 23] ty #[.slice (some ⟨b, 0, none⟩) i cap, .slice (some A) (len - j) (cap - j)]).run Tryz.prog w.drew = .ok (.slice (some ⟨b, 0, none⟩) (i + (len - j)) cap) W1) := fun ty => by
    have := run_appendAt (P := Tryz.prog) w.drew 23 ty 77 inf76 tS inf76_is b i cap cur et hb A (len - j) (cap - j) news (by rw [inf76_size]; exact hnl) hsrc hnone (by omega) (by rw [inf76_size, hnl, hs]; omega)
    rw [inf76_size] at this
    rw [hW1]; exact this
  have hl1 : (Go.V.splice cur.toList (i * 5) news).length = cap * 5 := by rw [splice_len (by omega), hcl]
  have hb1 : W1.heap[b]? = some (.cells (Go.V.splice cur.toList (i * 5) news).toArray et (0, 0)) := by rw [hW1]; exact setRow_heap w.drew b _ _ et _ hb
  obtain ⟨cs, hcs, hcl0⟩ := run_clearAt (P := Tryz.prog) W1 23 77 (.agg #[.int .i64 0, .string ⟨#[]⟩, .string ⟨#[]⟩, .slice none 0 0, .slice none 0 0]) 5 tS zv76 rfl (by intro u hu; simp [Value.cells] at hu; rcases hu with rfl | rfl | rfl | rfl | rfl <;> rfl) b ((i + (len - j)) * 5) (len - (i + (len - j))) (cap - (i + (len - j))) (by omega) _ et hb1 (by rw [List.size_toArray, hl1]; omega)
  obtain ⟨W2, hW2⟩ : ∃ W2, W2 = W1.setRow b (Go.V.splice (Go.V.splice cur.toList (i * 5) news) ((i + (len - j)) * 5) cs).toArray := ⟨_, rfl⟩
  have hcl : ∀ ty, (Builtin.clear_ #[23] ty #[.slice (some ⟨b, (i + (len - j)) * 5, none⟩) (len - (i + (len - j))) (cap - (i + (len - j)))]).run Tryz.prog W1 = .ok (.tuple #[]) W2 := fun ty => by rw [hW2]; exact hcl0 ty
  have X : Hid (DelEnd 5 b cap i j len cur et w (.returned (.slice (some ⟨b, 0, none⟩) (i + (len - j)) cap)) W2) := delEnd_of hb hs hlc hij hj hnews (by rw [hcs]; congr 1; omega) hW1 hW2
  clear hW1 hW2 hb hb1 hl1 hcs hcl0 hone hnone hsrc hnl hnews
  go_enter func76, nt76
  go_wp2_with fail
  go_region_law_o (refine step_appendAt rfl (.tmp 22) (.tmp 25) 23 rfl (.slice (some ⟨b, 0, none⟩) (i + (len - j)) cap) W1 (by simp [Act.eval, Act.put]; exact hap.out 23) ?_)
  go_wp2
  go_ret
  exact X.out
def c76 : Mt := ctM (lc (EIm.aow true 5) (lc AInt (lc AInt l0))) (fun p => 0 ≤ p.2.1 ∧ p.2.1 < p.2.2.1 ∧ p.2.2.1 ≤ p.1.length) (fun p => ([.any, .t (.v (.int .i64 p.2.1)), .t (.v (.int .i64 p.2.2.1))], .o true 5 ((p.1.take p.2.1.toNat ++ p.1.drop p.2.2.1.toNat).map encIm)))
theorem good76 {G : Gt} (hG : OkG G) : Gd G 76 (muEnt c76) := Good.ofM (by kernel_rfl) fun ⟨xs, i, j, _⟩ h => by
  obtain ⟨h0, h1, h2⟩ := h
  dsimp only at h0 h1 h2 ⊢
  obtain ⟨a, rfl⟩ := Int.eq_ofNat_of_zero_le h0
  obtain ⟨c, rfl⟩ := Int.eq_ofNat_of_zero_le (show 0 ≤ j by omega)
  have := con_del (m := G.m) del76 (xs.map encIm) a c (by omega) (by rw [List.length_map]; omega)
  rw [← List.map_take, ← List.map_drop, ← List.map_append] at this
  exact this
end Go.V
namespace Go.V
open Go Go.Proofs
set_option maxRecDepth 100000
set_option linter.unusedSimpArgs false
set_option linter.unusedVariables false
attribute [local go_sem] aPickB.eq_1 aPickB.eq_2 aPick.eq_1 aBox.eq_1 aBox.eq_2 aAlloc.eq_1 aAlloc.eq_2 aLoadB.eq_1 aLoadB.eq_2 aLoadB.eq_3 aLoadB.eq_4 aLoadB.eq_5 aLoadA.eq_1 aLoadA.eq_2 aLoadA.eq_3 aLoadA.eq_4 aLoadA.eq_5 aLoadP.eq_1 aLoadP.eq_2 aLoadP.eq_3 aLoad.eq_1 aLoad.eq_2 aFAx.eq_1 aFAx.eq_2 aFAx.eq_3 aFA.eq_1 aFA.eq_2 aFx.eq_1 aF.eq_1 aF.eq_2 fld.eq_1 elT.eq_1 aIdxH.eq_1 aIdxH.eq_2 aIdxH.eq_3 aIdxH.eq_4 aIdxH.eq_5 aIdxP.eq_1 aIdxP.eq_2 aIndexAddr.eq_1 aIndexAddr.eq_2 aIndexAddr.eq_3 isStr.eq_1 aIndex.eq_1 aSlStr.eq_1 aSlRo.eq_1 aSlZ.eq_1 aSlZ.eq_2 aSlice.eq_1 aSlice.eq_2 aSlice.eq_3 bnd.eq_1 bnd.eq_2 aBuildO.eq_1 aBuildO.eq_2 aBuild.eq_1 aNewArr.eq_1 aNewArr.eq_2 aBS.eq_1 aBS.eq_2 aBuildSlice.eq_1 aBuildSlice.eq_2 aMakeSlice.eq_1 appDeep.eq_1 aApp2.eq_1 aAppend.eq_1 aAppend.eq_2 aStoreB.eq_1 aStoreA.eq_1 obFlat.eq_1 aStore2.eq_1 aStore2.eq_2 aStoreP.eq_1 aStoreP.eq_2 aStore.eq_1 aStore.eq_2 isShl.eq_1 isShl.eq_2 isBool.eq_1 aBinI.eq_1 aBinI.eq_2 aBinB.eq_1 aBinB.eq_2 aEq.eq_1 aEq.eq_2 aEq.eq_3 aEq.eq_4 aEqG.eq_1 aEqG.eq_2 aBin.eq_1 aBin.eq_2 aBin.eq_3 aBin.eq_4 aUn.eq_1 aUn.eq_2 aLenO.eq_1 aLenS.eq_1 aLenS.eq_2 aLenS.eq_3 aLenT.eq_1 aLen.eq_1 aLen.eq_2 aLen.eq_3 bytesOb.eq_1 bytesOb.eq_2 bytesOf.eq_1 bytesOf.eq_2 aNums.eq_1 aNums.eq_2 isU8.eq_1 aCvI.eq_1 aCvS.eq_1 aCvB.eq_1 aCvB.eq_2 aCvT.eq_1 aConv.eq_1 aConv.eq_2 aConv.eq_3 aConv.eq_4 aExO.eq_1 aExO.eq_2 aExtract.eq_1 aNil.eq_1 aNil.eq_2 aNil.eq_3 aCallS.eq_1 aCallS.eq_2 aCallR.eq_1 aCallR.eq_2 aCallK.eq_1 aCallK.eq_2 aCallK.eq_3 aCall.eq_1 aCall.eq_2 takeO.eq_1 AS.takeV.eq_1 AS.takeV.eq_2 AS.takeV.eq_3 AS.takeV.eq_4 AS.takeV.eq_5 AS.takeV.eq_6 AS.takeV.eq_7 AV.oldM.eq_1 AV.oldM.eq_2 AV.oldM.eq_3 AV.oldM.eq_4 AV.oldM.eq_5 AV.oldM.eq_6 AV.oldM.eq_7 AV.oldM.eq_8 AV.oldM.eq_9 AV.oldM.eq_10 AV.oldM.eq_11 AV.oldML.eq_1 AV.oldML.eq_2 subL.eq_1 subL.eq_2 back.eq_1 back.eq_2 back.eq_3 back.eq_4 backL.eq_1 backI.eq_1 backI.eq_2 backI.eq_3 backI.eq_4 backIL.eq_1 aBuiltin.eq_1 aBuiltin.eq_2 aBuiltin.eq_3 aCallee.eq_1 aCallee.eq_2 aCallee.eq_3 abin.eq_1 abin.eq_2 abin.eq_3 abin.eq_4 abin.eq_5 abin.eq_6 abin.eq_7 abin.eq_8 abin.eq_9 abin.eq_10 abin.eq_11 abin.eq_12 abin.eq_13 abin.eq_14 abin.eq_15 abin.eq_17 abin.eq_18 abin.eq_19 abin.eq_20 abin.eq_21 abin.eq_22 abin.eq_23 AS.ev.eq_1 AS.ev.eq_2 AS.ev.eq_3 AS.ev.eq_4 AS.evs.eq_1 AS.evs.eq_2 AS.evp.eq_1 AS.evp.eq_2 AS.put.eq_1 AS.put.eq_2 AS.remL.eq_1 AS.remL.eq_2 AV.has.eq_1 AV.has.eq_2 AV.has.eq_3 AV.has.eq_4 AV.has.eq_5 AV.has.eq_6 AV.has.eq_7 AV.has.eq_8 AV.has.eq_9 AV.has.eq_10 AV.has.eq_11 AV.hasL.eq_1 AV.hasL.eq_2 Ob.drop.eq_1 Ob.drop.eq_2 Ob.drop.eq_3 Ob.drop.eq_4 AV.cells.eq_1 AV.cells.eq_2 AV.cells.eq_3 AV.cells.eq_4 AV.cells.eq_5 AS.snapT.eq_1 AS.snapT.eq_2 AS.snapT.eq_3 AS.snapT.eq_4 AS.snapT.eq_5 AS.snapT.eq_6 AS.snapT.eq_7 AS.snap.eq_1 AS.snap.eq_2 mapO.eq_1 mapO.eq_2 intern.eq_1 intern.eq_2 intern.eq_3 intern.eq_4 intern.eq_5 intern.eq_6 intern.eq_7 intern.eq_8 intern.eq_9 intern.eq_10 intern.eq_11 internL.eq_1 internL.eq_2 zipSl.eq_1 zipSl.eq_2 AV.ids.eq_1 AV.ids.eq_2 AV.ids.eq_3 AV.ids.eq_4 AV.ids.eq_5 AV.ids.eq_6 AV.ids.eq_7 AV.ids.eq_8 AV.ids.eq_9 AV.ids.eq_10 AV.ids.eq_11 AV.idsL.eq_1 AV.idsL.eq_2 AV.sub.eq_1 AV.sub.eq_2 AV.sub.eq_3 AV.sub.eq_4 AV.sub.eq_5 AV.sub.eq_6 AV.sub.eq_7 AV.sub.eq_8 AV.sub.eq_9 AV.sub.eq_10 AV.sub.eq_11 AV.subL.eq_1 AV.subL.eq_2 AS.frzL.eq_1 AS.frzL.eq_2 AS.absT.eq_1 AS.absT.eq_2 AS.absT.eq_4 AS.absL.eq_1 AS.absL.eq_2 AS.absOk.eq_1 AS.absOkL.eq_1 AS.absOkL.eq_2 hid.eq_1 hids.eq_1 hids.eq_2 AS.appBase.eq_1 AS.appBase.eq_2 AS.appSrc.eq_1 appFits.eq_1 appFits.eq_2 appFits.eq_3 avFill.eq_1 avFill.eq_2 avc.eq_1 avc.eq_2 avc1.eq_1 Kd.agg.eq_1 Kd.agg.eq_2 okR.eq_1 okR.eq_2 okR.eq_3 okR.eq_4 okR.eq_5 okR.eq_6 okR.eq_7 okR.eq_8 zt.eq_1 rvB.eq_1 rvP.eq_1 rvA.eq_1 rvA.eq_2 rv1.eq_1 outTO.eq_1 outT.eq_1 outT.eq_2 outT.eq_3 outTn.eq_1 outOO.eq_1 outO.eq_1 outO.eq_2 boxOf.eq_1 outP.eq_1 outP.eq_2 outP.eq_3 outP.eq_4 outP.eq_5 outP.eq_6 outP.eq_7 outP.eq_8 outPL.eq_1 outPL.eq_2 outI.eq_1 outI.eq_2 outI.eq_3 outI.eq_4 outI.eq_5 outIL.eq_1 outZ.eq_1 outZ.eq_2 outZ.eq_3 outZ.eq_4 outZ.eq_5 outZL.eq_1 finO.eq_1 finO.eq_2 fin.eq_1 fin.eq_2 fin.eq_3 cellAV.eq_1 cellAV.eq_2 numsOf.eq_1 numsOf.eq_2 aop.eq_1 aop.eq_2 aop.eq_3 aop.eq_4 aop.eq_5 aop.eq_6 aop.eq_7 aop.eq_8 aop.eq_9 aop.eq_10 aop.eq_11 aop.eq_12 aop.eq_13 aop.eq_14 aop.eq_15 aop.eq_16 aop.eq_17 aop.eq_18 aop.eq_19 aop.eq_20 aop.eq_21 aop.eq_22 aop.eq_23 aop.eq_24 aop.eq_25 aop.eq_26 tmpsOf.eq_1 tmpsOf.eq_2 tmpsOf.eq_3 tmpsOf.eq_4 tmpsOf.eq_5 AV.refs.eq_1 AV.refs.eq_2 AV.refs.eq_3 AV.refs.eq_4 AV.refs.eq_5 AV.refs.eq_6 AV.refs.eq_7 AV.refs.eq_8 AV.refs.eq_9 AV.refs.eq_10 AV.refs.eq_11 AV.refsL.eq_1 AV.refsL.eq_2 refsT.eq_1 refsT.eq_2 refsO.eq_1 refsO.eq_2 refsO.eq_3 refsO.eq_4 refsO.eq_5 refsO.eq_6 refsB.eq_1 refsB.eq_2 clos.eq_1 clos.eq_2 keepL.eq_1 keepL.eq_2 AV.hasM.eq_1 AV.hasM.eq_2 AV.hasM.eq_3 AV.hasM.eq_4 AV.hasM.eq_5 AV.hasM.eq_6 AV.hasM.eq_7 AV.hasM.eq_8 AV.hasM.eq_9 AV.hasM.eq_10 AV.hasM.eq_11 AV.hasML.eq_1 AV.hasML.eq_2 Ob.dropM.eq_1 Ob.dropM.eq_2 Ob.dropM.eq_3 Ob.dropM.eq_4 nsC.eq_1 nsC.eq_2 okGuard.eq_1 okGuard.eq_2 AS.purges.eq_1 AS.purges.eq_2 dropMB.eq_1 dropMB.eq_2 newB.eq_1 newB.eq_2 ptB.eq_1 ptB.eq_2 lookC.eq_1 lookC.eq_2 dropB.eq_1 dropB.eq_2 leS.eq_1 leS.eq_2 leT.eq_1 leT.eq_2 AS.mvs.eq_1 AS.mvs.eq_2 AS.mvA.eq_1 AS.mvA.eq_2 AS.mvB.eq_1 aSetO.eq_1 aSetO.eq_2 aSh.eq_1 aSh.eq_2 arK.eq_1 aIdxA.eq_1 aIdxA.eq_2 arT.eq_1 aSlHB.eq_1 aSlHB.eq_2 aSlHO.eq_1 aSlHZ.eq_1 aSlHZ.eq_2 isSlT.eq_1 isNilC.eq_1 aNilO.eq_1 aNilX.eq_1 aNilX.eq_2 aNilX.eq_3 aNilC.eq_1 aNilC.eq_2 aBinQ.eq_1 aBinQ.eq_2 aMin.eq_1 flT.eq_1 flT.eq_2 mpT.eq_1 aMkMap.eq_1 aMkMap.eq_2 strA.eq_1 keyMK.eq_1 keyMK.eq_2 mkB.eq_1 mkB.eq_2 aMp2.eq_1 aMp1.eq_1 aMp0.eq_1 aMapU.eq_1 aLk2.eq_1 aLk2.eq_2 aLk1.eq_1 aLk0.eq_1 aLookup.eq_1 aLenMO.eq_1 aLenM.eq_1 glV.eq_1 glV.eq_2 evG.eq_1 evG.eq_2 evG.eq_3 evG.eq_4 lkHitO.eq_1 lkHitO.eq_2 lkHitO.eq_3 lkHitO.eq_4 lkHit.eq_1 lkHit.eq_2 lkF.eq_1 lkF.eq_2 lkFind.eq_1 lkFind.eq_2 lkV.eq_1 lkV.eq_2 lkV.eq_3 lkV.eq_4 lkV.eq_5 AS.lkO.eq_1 AS.lkO.eq_2 AS.lkOf.eq_1 rawT.eq_1 rawT.eq_2 rawT.eq_3 rawT.eq_4 rawT.eq_5 rawT.eq_6 rawOf.eq_1 rawOf.eq_2 rawOf.eq_3 rawOf.eq_4 rawOf.eq_5 rawOf.eq_6 rawOf.eq_7 rawOf.eq_8 rawOf.eq_9 rawOf.eq_10 rawOf.eq_11 aLkR.eq_1 aLkR.eq_2 aLk.eq_1 aLk.eq_2 KL.eq_1 lkDrop.eq_1 lkDrop.eq_2 lkParO.eq_1 lkParO.eq_2 lkParO.eq_3 lkParO.eq_4 lkPar.eq_1 lkPar.eq_2 lkI.eq_1 lkI.eq_2 lkIds.eq_1 lkIds.eq_2 adLd.eq_1 run_nil run_b run_l run_skip run_label run_seq run_cond brV_b brB_t brB_f run_block run_exit run_ret run_region runX_nil runX_c runX_c' runX_b runX_b' runX_l runX_l' exB_t exB_f run_o run_op run_opg gV_b gV_t gB_tt gB_ff gB_tf gB_ft rs_eq kv KI aLenN aBS1 aApp1 aStore1 szOk gv gd s0 idOf look_cons lookC frzU_t frzU_f orT orF drop_any drop_nil drop_t drop_h drop_pb drop_pa drop_agg drop_tup drop_fn dropB kill_eq set_eq rem_eq re_eq up_eq get_eq ob_eq Ob.drop apl fpl plainTy AS.frz splice cond_true cond_false List.map_cons List.map_nil List.drop_zero List.drop_succ_cons List.drop_nil List.take_zero List.take_succ_cons List.take_nil List.getElem?_cons_zero List.getElem?_cons_succ List.getElem?_nil List.length_cons List.length_nil Option.map_some Option.map_none Option.bind_some Option.bind_none List.cons_append List.nil_append List.append_nil Option.getD_some Option.getD_none List.all_cons List.all_nil Bool.and_true Bool.true_and Bool.or_false Bool.false_or Bool.or_true Bool.true_or List.flatten_cons List.flatten_nil List.replicate_succ List.replicate_zero and_true true_and avOf_t avOf_f agg_bool agg_int agg_str agg_slice agg_struct agg_func agg_ptr agg_map avc_bool avc_int avc_str avc_fn avc1_bool avc1_int avc1_str avc1_fn zt_bool zt_int zt_str cells_nil cells_t cells_h cells_pb cells_fn snap_t snap_nil snap_h snap_pb snap_fn rv1_one rv1_two outI_t outI_oh outI_on outI_any outI_nil outZ_th outZ_tt outZ_tn outZ_o outZ_any outZ_nil outIL_nil outZL_nil finN finR ne_eq not_false_eq_true not_true_eq_false List.nodup_nil List.not_mem_nil false_implies implies_true eq_self true_or or_true Option.some.injEq shl_add shl_sub shl_mul shl_quo shl_rem shl_and shl_or shl_xor shl_andNot shl_eql shl_neq shl_lss shl_leq shl_gtr shl_geq shl_shr shl_shl appDeep_none appDeep_sn appSrc_h appSrc_nil fits_ft fits_tn fits_tf isStr_slice obFlat_box Nat.le_refl nbeq_self List.length_map updZ_s updZ_n dropM_eq purge_eq newIds_cons newIds_nil purgeT_nil purgeT_cons memN_cons memN_nil bd_d bd_c bd_g bd_p bd_t bd_o preds_nil preds_cons hasIns insB List.any_cons List.any_nil adK_eq adr_nil adG_eq kdOp noLen creates Op.operands Call.operands nsOf adT adI adJ plainB rst List.append_eq nsD_f nsD_n nsD_t nOf_0 nOf_1 nOf_2 chO_0 chO_1 chO_2 keepK_0 keepK_1 keepK_2 eqRes AS.mv fits KM aCallM notNew kdCall arK_i64 arK_i32 arK_u8 arK_u64 arT_sl isNilC_t isNilC_f isNilC_g isNilC_i isNilC_b isNilC_s isNilC_a isNilC_n andBF andBT aCallK_2 ble_dec hid_t hid_nil hid_any hid_pb hid_fn absOk_t absOk_nil absOk_pb absOk_h absOkO_1 decide_true decide_false Array.toList_append chunk_0 chunk_1 chunk_2 chunk_3 back_t back_nil back_ht backL_nil backI_t backI_nil backI_ht backIL_nil AS.mvJ nbeq_dec runR_f runR_t loadB Option.isSome_some Option.isSome_none nodup1 adr_none adr_some adO_s adV_b adV_t adB_tt adB_ff adB_tf adB_ft adS_eq lenL.eq_1 lenO.eq_1 lenO.eq_2 lenV.eq_1 lenV.eq_2 lenV.eq_3 lenV.eq_4 optN optS absT_ft
attribute [local go_sem] ty3 ty4 ty5 ty9 ty21 ty22 ty23 ty25 ty27 ty28 ty29 ty31 ty33 ty43 ty45 ty46 ty47 ty49 ty60 ty75 ty77 ty93 ty104 ty119 ty121 ty135 ty157 ty170 ty175 lv27 lv93 zb4 leS leT fits AS.mvs encStr_eq aIdx_str EStr_dec decStrs decStrs0 EStr_enc EStr_n encInt_eq aIdx_int EInt_dec decInts decInts0 EInt_enc EInt_n AllV_Int len_Int lc_enc l0_enc asl_enc ag_enc aow_enc ABool_enc AInt_enc AStr_enc AU8_enc ABool_dec AInt_dec AStr_dec AU8_dec asl_dec ag_dec aow_dec bind_some pr2.eq_1 l0_nil lc_cons unT.eq_1 K0.eq_1 M0.eq_1 KI AllV_Str len_Str ctR_eq ctM_eq ro_kd ro_ro mu_kd mu_mu encAd_eq aIdx_Ad EAd_dec decAds decAds0 EAd_enc EAd_n len_Ad Ad_eta AllV_Ad encMl_eq aIdx_Ml EMl_dec decMls decMls0 EMl_enc EMl_n len_Ml Ml_eta mkMl.eq_1 owMl_eq AMl_enc AMl_dec encRc_eq aIdx_Rc ERc_dec decRcs decRcs0 ERc_enc ERc_n len_Rc Rc_eta AllV_Rc encIm_eq aIdx_Im EIm_dec decIms decIms0 EIm_enc EIm_n len_Im Im_eta mkIm.eq_1 owIm_eq AIm_enc AIm_dec encSp_eq aIdx_Sp ESp_dec decSps decSps0 ESp_enc ESp_n len_Sp Sp_eta mkSp.eq_1 owSp_eq ASp_enc ASp_dec encNt_eq aIdx_Nt ENt_dec decNts decNts0 ENt_enc ENt_n len_Nt Nt_eta mkNt.eq_1 owNt_eq ANt_enc ANt_dec

theorem dn_pos {xs : List Im} {i k : Nat} (hi : i < xs.length) (h : ((xs.getD i default).to.take k ++ (xs.getD i default).to.drop (k + 1)).length = 0) {y : Im} : (xs.set i y).take i ++ (xs.set i y).drop (i + 1) = dnL xs i k := by
  unfold dnL
  rw [if_pos (show (dnIm (xs.getD i default) k).to = [] from List.eq_nil_of_length_eq_zero h), List.take_set_of_le (Nat.le_refl _), List.drop_set_of_lt (Nat.lt_succ_self _)]
theorem dn_neg {xs : List Im} {i k : Nat} (hi : i < xs.length) (h : ¬ ((xs.getD i default).to.take k ++ (xs.getD i default).to.drop (k + 1)).length = 0) : xs.set i ⟨(xs.getD i default).id, (xs.getD i default).frm, (xs.getD i default).to.take k ++ (xs.getD i default).to.drop (k + 1), (xs.getD i default).body⟩ = dnL xs i k := by
  unfold dnL
  rw [if_neg (fun e => h (by rw [show (xs.getD i default).to.take k ++ (xs.getD i default).to.drop (k + 1) = [] from e]; rfl)), List.set_eq_take_append_cons_drop, if_pos hi]
  rfl
theorem back_ha {dst id k : Nat} {s : AS} : back dst (.h id) .any k s = (s, k) := rfl
theorem backI_ha {id : Nat} : backI (.h id) .any = [] := rfl
def c32 : Ct := ctR (lc ESp.ag (lc AInt (lc EAd.ag l0))) (fun p => OkSp p.1) (fun p => owSB (SDone p.1 p.2.1 p.2.2.1))
set_option maxHeartbeats 3200000 in
theorem good32 {G : Gt} (hG : OkG G) (h10 : G.e 10 = roEnt 0 c10) (h31 : G.e 31 = roEnt 0 c31) (h74 : G.e 74 = roEnt 0 c74) (h75 : G.e 75 = muEnt c75) (h76 : G.e 76 = muEnt c76) : Gd G 32 (roEnt 0 c32) := by
  refine gR (dp := fun n => !(Nat.beq n 100007 || Nat.beq n 100008 || Nat.beq n 100009 || Nat.beq n 100010)) (fn := Tryz.f32) (n := 3) (fun _ => rfl) (by kernel_rfl) rfl (by kernel_rfl) hG (Nat.le_of_ble_eq_true rfl) (by kernel_rfl) (by decide) (fun _ p => owSB_solid _) ?_
  rintro ⟨s, n, a, ⟨⟩⟩ hpre


  have hok' : OkL OkIm s.items := hpre
  have hmx := hok'.1
  dsimp only at hpre ⊢
  by_cases h : SpOk s
  · have b1 := bOf_y h
    by_cases hi : atIm s n < 0
    · rw [SDone_i h hi]
      simp -implicitDefEqProofs only [Tryz.f32, b1, findR_n hi, go_sem, h10, c10, h31, c31, h74, c74, h75, c75, h76, c76, back_ha, backI_ha, List.length_map, List.length_set, Int.toNat_natCast, aCell_map, aSet_map, owSB, AS.opn, AS.cls, AS.nilb, AS.renb, Bool.not_false, Bool.not_true, List.set_set, List.set_cons_zero, List.set_cons_succ, List.set_nil, List.mem_singleton, forall_eq, Nat.reduceAdd, Nat.reduceMul, Nat.reduceLeDiff, Nat.reduceEqDiff, reduceCtorEq, Nat.reduceSub, Int.reduceNeg, Nat.reduceMod, Nat.reduceBEq, Nat.reduceLT]
      repeat' (first | with_reducible apply And.intro | with_reducible intro _ | ((first | refine brB_split (fun hb => ?_) (fun hb => ?_) | refine aPickB_split (fun hb => ?_) (fun hb => ?_) | refine gB_split (fun hb => ?_) (fun hb => ?_) | refine adB_split (fun hb => ?_) (fun hb => ?_)) <;> simp -implicitDefEqProofs only [hb, go_sem, h10, c10, h31, c31, h74, c74, h75, c75, h76, c76, back_ha, backI_ha, List.length_map, List.length_set, Int.toNat_natCast, aCell_map, aSet_map, owSB, AS.opn, AS.cls, AS.nilb, AS.renb, Bool.not_false, Bool.not_true, List.set_set, List.set_cons_zero, List.set_cons_succ, List.set_nil, List.mem_singleton, forall_eq, Nat.reduceAdd, Nat.reduceMul, Nat.reduceLeDiff, Nat.reduceEqDiff, reduceCtorEq, Nat.reduceSub, Int.reduceNeg, Nat.reduceMod, Nat.reduceBEq, Nat.reduceLT] <;> try simp only [qa, qb, qc, qd, qe, qf, qg, bOf_t, bOf_f] at hb))
      all_goals first | rfl | omega | assumption | decide | skip
      all_goals trace_state
    · by_cases hk : atRc (theIm s n) a < 0
      · have hk' : ¬ atRc (theIm s n) a ≥ 0 := by omega
        rw [SDone_k h hi hk]
        simp -implicitDefEqProofs only [Tryz.f32, b1, findR_y hi, hk', decide_false, go_sem, h10, c10, h31, c31, h74, c74, h75, c75, h76, c76, back_ha, backI_ha, List.length_map, List.length_set, Int.toNat_natCast, aCell_map, aSet_map, owSB, AS.opn, AS.cls, AS.nilb, AS.renb, Bool.not_false, Bool.not_true, List.set_set, List.set_cons_zero, List.set_cons_succ, List.set_nil, List.mem_singleton, forall_eq, Nat.reduceAdd, Nat.reduceMul, Nat.reduceLeDiff, Nat.reduceEqDiff, reduceCtorEq, Nat.reduceSub, Int.reduceNeg, Nat.reduceMod, Nat.reduceBEq, Nat.reduceLT]
        repeat' (first | with_reducible apply And.intro | with_reducible intro _ | ((first | refine brB_split (fun hb => ?_) (fun hb => ?_) | refine aPickB_split (fun hb => ?_) (fun hb => ?_) | refine gB_split (fun hb => ?_) (fun hb => ?_) | refine adB_split (fun hb => ?_) (fun hb => ?_)) <;> simp -implicitDefEqProofs only [hb, go_sem, h10, c10, h31, c31, h74, c74, h75, c75, h76, c76, back_ha, backI_ha, List.length_map, List.length_set, Int.toNat_natCast, aCell_map, aSet_map, owSB, AS.opn, AS.cls, AS.nilb, AS.renb, Bool.not_false, Bool.not_true, List.set_set, List.set_cons_zero, List.set_cons_succ, List.set_nil, List.mem_singleton, forall_eq, Nat.reduceAdd, Nat.reduceMul, Nat.reduceLeDiff, Nat.reduceEqDiff, reduceCtorEq, Nat.reduceSub, Int.reduceNeg, Nat.reduceMod, Nat.reduceBEq, Nat.reduceLT] <;> try simp only [qa, qb, qc, qd, qe, qf, qg, bOf_t, bOf_f] at hb))
        all_goals first | rfl | omega | assumption | decide | skip
        all_goals trace_state
      · obtain ⟨hi0, hi1⟩ := atIm_lt hi
        obtain ⟨hk0, hk1⟩ := atRc_lt hk
        obtain ⟨ni, hni⟩ := Int.eq_ofNat_of_zero_le hi0
        obtain ⟨nk, hnk⟩ := Int.eq_ofNat_of_zero_le hk0
        have hth : theIm s n = s.items.getD ni default := by unfold theIm; rw [hni, Int.toNat_natCast]
        have hf := findR_yn hni hth hnk
        rw [SDone_y h hi hk, hni, hnk, Int.toNat_natCast, Int.toNat_natCast]
        rw [hni] at hi1
        rw [hnk, hth] at hk1
        have hx := hok'.at (i := ni) (by omega)
        have hmx2 : ((s.items.getD ni default).to.length : Int) ≤ 1048576 := hx.2.1.1
        have hi2 : ni < s.items.length := by omega
        have hk2 : nk < (s.items.getD ni default).to.length := by omega
        have hi3 : ni < (s.items.map encIm).length := by rw [List.length_map]; exact hi2
        have e1 : ((ni : Int) + 1).toNat = ni + 1 := by omega
        have e2 : ((nk : Int) + 1).toNat = nk + 1 := by omega
        have hdl := dn_len hk2
        simp -implicitDefEqProofs only [Tryz.f32, b1, hf, go_sem, h10, c10, h31, c31, h74, c74, h75, c75, h76, c76, back_ha, backI_ha, List.length_map, List.length_set, Int.toNat_natCast, aCell_map, aSet_map, owSB, AS.opn, AS.cls, AS.nilb, AS.renb, Bool.not_false, Bool.not_true, List.set_set, List.set_cons_zero, List.set_cons_succ, List.set_nil, List.mem_singleton, forall_eq, Nat.reduceAdd, Nat.reduceMul, Nat.reduceLeDiff, Nat.reduceEqDiff, reduceCtorEq, Nat.reduceSub, Int.reduceNeg, Nat.reduceMod, Nat.reduceBEq, Nat.reduceLT]
        repeat' (first | with_reducible apply And.intro | with_reducible intro _ | ((first | refine brB_split (fun hb => ?_) (fun hb => ?_) | refine aPickB_split (fun hb => ?_) (fun hb => ?_) | refine gB_split (fun hb => ?_) (fun hb => ?_) | refine adB_split (fun hb => ?_) (fun hb => ?_)) <;> simp -implicitDefEqProofs only [hb, go_sem, h10, c10, h31, c31, h74, c74, h75, c75, h76, c76, back_ha, backI_ha, List.length_map, List.length_set, Int.toNat_natCast, aCell_map, aSet_map, owSB, AS.opn, AS.cls, AS.nilb, AS.renb, Bool.not_false, Bool.not_true, List.set_set, List.set_cons_zero, List.set_cons_succ, List.set_nil, List.mem_singleton, forall_eq, Nat.reduceAdd, Nat.reduceMul, Nat.reduceLeDiff, Nat.reduceEqDiff, reduceCtorEq, Nat.reduceSub, Int.reduceNeg, Nat.reduceMod, Nat.reduceBEq, Nat.reduceLT] <;> try simp only [qa, qb, qc, qd, qe, qf, qg, bOf_t, bOf_f] at hb))
        all_goals first | rfl | omega | assumption | decide | skip
        refine run_open 1017 1901 2901 ni 3 rfl (map_get encIm hi2) rfl rfl fun x => run_go ?_
        simp -implicitDefEqProofs only [aCell_set hi3, aSet_set hi3, e1, e2, go_sem, h10, c10, h31, c31, h74, c74, h75, c75, h76, c76, back_ha, backI_ha, List.length_map, List.length_set, Int.toNat_natCast, aCell_map, aSet_map, owSB, AS.opn, AS.cls, AS.nilb, AS.renb, Bool.not_false, Bool.not_true, List.set_set, List.set_cons_zero, List.set_cons_succ, List.set_nil, List.mem_singleton, forall_eq, Nat.reduceAdd, Nat.reduceMul, Nat.reduceLeDiff, Nat.reduceEqDiff, reduceCtorEq, Nat.reduceSub, Int.reduceNeg, Nat.reduceMod, Nat.reduceBEq, Nat.reduceLT]
        repeat' (first | with_reducible apply And.intro | with_reducible intro _ | ((first | refine brB_split (fun hb => ?_) (fun hb => ?_) | refine aPickB_split (fun hb => ?_) (fun hb => ?_) | refine gB_split (fun hb => ?_) (fun hb => ?_) | refine adB_split (fun hb => ?_) (fun hb => ?_)) <;> simp -implicitDefEqProofs only [hb, go_sem, h10, c10, h31, c31, h74, c74, h75, c75, h76, c76, back_ha, backI_ha, List.length_map, List.length_set, Int.toNat_natCast, aCell_map, aSet_map, owSB, AS.opn, AS.cls, AS.nilb, AS.renb, Bool.not_false, Bool.not_true, List.set_set, List.set_cons_zero, List.set_cons_succ, List.set_nil, List.mem_singleton, forall_eq, Nat.reduceAdd, Nat.reduceMul, Nat.reduceLeDiff, Nat.reduceEqDiff, reduceCtorEq, Nat.reduceSub, Int.reduceNeg, Nat.reduceMod, Nat.reduceBEq, Nat.reduceLT] <;> try simp only [qa, qb, qc, qd, qe, qf, qg, bOf_t, bOf_f] at hb))
        all_goals first | rfl | omega | assumption | decide | skip
        all_goals refine run_open 1017 1902 2902 ni 3 rfl (set_get hi3 _) rfl rfl fun y => run_go ?_
        all_goals by_cases hl : (((s.items.getD ni default).to.take nk ++ (s.items.getD ni default).to.drop (nk + 1)).length : Int) = 0
        all_goals simp -implicitDefEqProofs only [aCell_set hi3, aSet_set hi3, hl, decide_true, decide_false, e1, e2, go_sem, h10, c10, h31, c31, h74, c74, h75, c75, h76, c76, back_ha, backI_ha, List.length_map, List.length_set, Int.toNat_natCast, aCell_map, aSet_map, owSB, AS.opn, AS.cls, AS.nilb, AS.renb, Bool.not_false, Bool.not_true, List.set_set, List.set_cons_zero, List.set_cons_succ, List.set_nil, List.mem_singleton, forall_eq, Nat.reduceAdd, Nat.reduceMul, Nat.reduceLeDiff, Nat.reduceEqDiff, reduceCtorEq, Nat.reduceSub, Int.reduceNeg, Nat.reduceMod, Nat.reduceBEq, Nat.reduceLT]
        all_goals repeat' (first | with_reducible apply And.intro | with_reducible intro _ | ((first | refine brB_split (fun hb => ?_) (fun hb => ?_) | refine aPickB_split (fun hb => ?_) (fun hb => ?_) | refine gB_split (fun hb => ?_) (fun hb => ?_) | refine adB_split (fun hb => ?_) (fun hb => ?_)) <;> simp -implicitDefEqProofs only [hb, go_sem, h10, c10, h31, c31, h74, c74, h75, c75, h76, c76, back_ha, backI_ha, List.length_map, List.length_set, Int.toNat_natCast, aCell_map, aSet_map, owSB, AS.opn, AS.cls, AS.nilb, AS.renb, Bool.not_false, Bool.not_true, List.set_set, List.set_cons_zero, List.set_cons_succ, List.set_nil, List.mem_singleton, forall_eq, Nat.reduceAdd, Nat.reduceMul, Nat.reduceLeDiff, Nat.reduceEqDiff, reduceCtorEq, Nat.reduceSub, Int.reduceNeg, Nat.reduceMod, Nat.reduceBEq, Nat.reduceLT] <;> try simp only [qa, qb, qc, qd, qe, qf, qg, bOf_t, bOf_f] at hb))
        all_goals first | rfl | omega | assumption | decide | contradiction | skip
        all_goals refine run_close 1017 1902 2902 ni 3 rfl (set_get hi3 _) rfl rfl rfl rfl (run_go ?_)
        all_goals simp -implicitDefEqProofs only [set_Im, e1, e2, go_sem, h10, c10, h31, c31, h74, c74, h75, c75, h76, c76, back_ha, backI_ha, List.length_map, List.length_set, Int.toNat_natCast, aCell_map, aSet_map, owSB, AS.opn, AS.cls, AS.nilb, AS.renb, Bool.not_false, Bool.not_true, List.set_set, List.set_cons_zero, List.set_cons_succ, List.set_nil, List.mem_singleton, forall_eq, Nat.reduceAdd, Nat.reduceMul, Nat.reduceLeDiff, Nat.reduceEqDiff, reduceCtorEq, Nat.reduceSub, Int.reduceNeg, Nat.reduceMod, Nat.reduceBEq, Nat.reduceLT]
        all_goals repeat' (first | with_reducible apply And.intro | with_reducible intro _ | ((first | refine brB_split (fun hb => ?_) (fun hb => ?_) | refine aPickB_split (fun hb => ?_) (fun hb => ?_) | refine gB_split (fun hb => ?_) (fun hb => ?_) | refine adB_split (fun hb => ?_) (fun hb => ?_)) <;> simp -implicitDefEqProofs only [hb, go_sem, h10, c10, h31, c31, h74, c74, h75, c75, h76, c76, back_ha, backI_ha, List.length_map, List.length_set, Int.toNat_natCast, aCell_map, aSet_map, owSB, AS.opn, AS.cls, AS.nilb, AS.renb, Bool.not_false, Bool.not_true, List.set_set, List.set_cons_zero, List.set_cons_succ, List.set_nil, List.mem_singleton, forall_eq, Nat.reduceAdd, Nat.reduceMul, Nat.reduceLeDiff, Nat.reduceEqDiff, reduceCtorEq, Nat.reduceSub, Int.reduceNeg, Nat.reduceMod, Nat.reduceBEq, Nat.reduceLT] <;> try simp only [qa, qb, qc, qd, qe, qf, qg, bOf_t, bOf_f] at hb))
        all_goals first
          | rfl
          | omega
          | assumption
          | decide
          | contradiction
          | exact congrArg (List.map encIm) (dn_neg hi2 (fun e => hl (by exact congrArg Int.ofNat e)))
          | (refine run_go ?_
             simp -implicitDefEqProofs only [go_sem, h10, c10, h31, c31, h74, c74, h75, c75, h76, c76, back_ha, backI_ha, List.length_map, List.length_set, Int.toNat_natCast, aCell_map, aSet_map, owSB, AS.opn, AS.cls, AS.nilb, AS.renb, Bool.not_false, Bool.not_true, List.set_set, List.set_cons_zero, List.set_cons_succ, List.set_nil, List.mem_singleton, forall_eq, Nat.reduceAdd, Nat.reduceMul, Nat.reduceLeDiff, Nat.reduceEqDiff, reduceCtorEq, Nat.reduceSub, Int.reduceNeg, Nat.reduceMod, Nat.reduceBEq, Nat.reduceLT]
             repeat' (first | with_reducible apply And.intro | with_reducible intro _ | ((first | refine brB_split (fun hb => ?_) (fun hb => ?_) | refine aPickB_split (fun hb => ?_) (fun hb => ?_) | refine gB_split (fun hb => ?_) (fun hb => ?_) | refine adB_split (fun hb => ?_) (fun hb => ?_)) <;> simp -implicitDefEqProofs only [hb, go_sem, h10, c10, h31, c31, h74, c74, h75, c75, h76, c76, back_ha, backI_ha, List.length_map, List.length_set, Int.toNat_natCast, aCell_map, aSet_map, owSB, AS.opn, AS.cls, AS.nilb, AS.renb, Bool.not_false, Bool.not_true, List.set_set, List.set_cons_zero, List.set_cons_succ, List.set_nil, List.mem_singleton, forall_eq, Nat.reduceAdd, Nat.reduceMul, Nat.reduceLeDiff, Nat.reduceEqDiff, reduceCtorEq, Nat.reduceSub, Int.reduceNeg, Nat.reduceMod, Nat.reduceBEq, Nat.reduceLT] <;> try simp only [qa, qb, qc, qd, qe, qf, qg, bOf_t, bOf_f] at hb))
             all_goals first
               | rfl
               | omega
               | assumption
               | decide
               | exact congrArg (List.map encIm) (dn_pos hi2 (Int.ofNat.inj hl))
               | trace_state)
          | trace_state
  · have b1 := bOf_n h
    rw [SDone_no h]
    simp -implicitDefEqProofs only [Tryz.f32, b1, go_sem, h10, c10, h31, c31, h74, c74, h75, c75, h76, c76, back_ha, backI_ha, List.length_map, List.length_set, Int.toNat_natCast, aCell_map, aSet_map, owSB, AS.opn, AS.cls, AS.nilb, AS.renb, Bool.not_false, Bool.not_true, List.set_set, List.set_cons_zero, List.set_cons_succ, List.set_nil, List.mem_singleton, forall_eq, Nat.reduceAdd, Nat.reduceMul, Nat.reduceLeDiff, Nat.reduceEqDiff, reduceCtorEq, Nat.reduceSub, Int.reduceNeg, Nat.reduceMod, Nat.reduceBEq, Nat.reduceLT]
    repeat' (first | with_reducible apply And.intro | with_reducible intro _ | ((first | refine brB_split (fun hb => ?_) (fun hb => ?_) | refine aPickB_split (fun hb => ?_) (fun hb => ?_) | refine gB_split (fun hb => ?_) (fun hb => ?_) | refine adB_split (fun hb => ?_) (fun hb => ?_)) <;> simp -implicitDefEqProofs only [hb, go_sem, h10, c10, h31, c31, h74, c74, h75, c75, h76, c76, back_ha, backI_ha, List.length_map, List.length_set, Int.toNat_natCast, aCell_map, aSet_map, owSB, AS.opn, AS.cls, AS.nilb, AS.renb, Bool.not_false, Bool.not_true, List.set_set, List.set_cons_zero, List.set_cons_succ, List.set_nil, List.mem_singleton, forall_eq, Nat.reduceAdd, Nat.reduceMul, Nat.reduceLeDiff, Nat.reduceEqDiff, reduceCtorEq, Nat.reduceSub, Int.reduceNeg, Nat.reduceMod, Nat.reduceBEq, Nat.reduceLT] <;> try simp only [qa, qb, qc, qd, qe, qf, qg, bOf_t, bOf_f] at hb))
    all_goals first | rfl | omega | assumption | decide | skip
    all_goals trace_state


def Emp (m : Ml) : Prop := AdNull m.frm ∧ m.to.length = 0 ∧ m.body.length = 0
def NtOk (n : Nt) : Prop := (n.kind = 1 ∧ n.id = 0 ∧ AdNull n.addr ∧ MlOk n.mail ∧ (0 ≤ n.now ∧ n.now ≤ 9999)) ∨ (n.kind = 2 ∧ Emp n.mail ∧ (1 ≤ n.id ∧ n.id ≤ 999) ∧ AdOk n.addr ∧ n.now = 0) ∨ (n.kind = 3 ∧ Emp n.mail ∧ (1 ≤ n.id ∧ n.id ≤ 999) ∧ AdOk n.addr ∧ (0 ≤ n.now ∧ n.now ≤ 9999))
theorem NtOk_1 {n : Nt} (h : n.kind = 1) : NtOk n ↔ (n.id = 0 ∧ AdNull n.addr ∧ MlOk n.mail ∧ (0 ≤ n.now ∧ n.now ≤ 9999)) := by
  unfold NtOk
  exact ⟨fun q => by rcases q with q | q | q <;> first | exact q.2 | (have := q.1; omega), fun q => .inl ⟨h, q⟩⟩
theorem NtOk_2 {n : Nt} (h : n.kind = 2) : NtOk n ↔ (Emp n.mail ∧ (1 ≤ n.id ∧ n.id ≤ 999) ∧ AdOk n.addr ∧ n.now = 0) := by
  unfold NtOk
  exact ⟨fun q => by rcases q with q | q | q <;> first | (have := q.1; omega) | exact q.2, fun q => .inr (.inl ⟨h, q⟩)⟩
theorem NtOk_3 {n : Nt} (h : n.kind = 3) : NtOk n ↔ (Emp n.mail ∧ (1 ≤ n.id ∧ n.id ≤ 999) ∧ AdOk n.addr ∧ (0 ≤ n.now ∧ n.now ≤ 9999)) := by
  unfold NtOk
  exact ⟨fun q => by rcases q with q | q | q <;> first | (have := q.1; omega) | exact q.2, fun q => .inr (.inr ⟨h, q⟩)⟩
theorem NtOk_0 {n : Nt} (h1 : ¬ n.kind = 1) (h2 : ¬ n.kind = 2) (h3 : ¬ n.kind = 3) : ¬ NtOk n := by
  unfold NtOk
  rintro (q | q | q)
  · exact h1 q.1
  · exact h2 q.1
  · exact h3 q.1
theorem tvF {p : Prop} (h : ¬ p) : T.v (Value.bool false) = T.v (Value.bool (bOf p)) := by rw [bOf_n h]
theorem tvE {p q : Prop} (h : p ↔ q) : T.v (Value.bool (bOf p)) = T.v (Value.bool (bOf q)) := by rw [bOf_congr h]
theorem tvD {p q : Prop} [Decidable p] (h : p ↔ q) : T.v (Value.bool (decide p)) = T.v (Value.bool (bOf q)) := by rw [← bOf_d, bOf_congr h]
noncomputable def NDo0 (s : Sp) (n : Nt) : Sp × Bool := if n.kind = 1 then SAdd s n.mail n.now else if n.kind = 2 then SDone s n.id n.addr else SLater s n.id n.addr n.now
open Classical in
noncomputable def NDo (s : Sp) (n : Nt) : Sp × Bool := if SpOk s then (if NtOk n then NDo0 s n else (s, false)) else (⟨0, []⟩, false)
theorem NDo_no {s : Sp} {n : Nt} (h : ¬ SpOk s) : NDo s n = (⟨0, []⟩, false) := by unfold NDo; rw [if_neg h]
theorem NDo_n {s : Sp} {n : Nt} (h : SpOk s) (h2 : ¬ NtOk n) : NDo s n = (s, false) := by unfold NDo; rw [if_pos h, if_neg h2]
theorem NDo_y {s : Sp} {n : Nt} (h : SpOk s) (h2 : NtOk n) : NDo s n = NDo0 s n := by unfold NDo; rw [if_pos h, if_pos h2]
def c42 : Ct := ctR (lc EMl.ag l0) (fun p => True) (fun p => .t (.v (.bool (bOf (Emp p.1)))))
theorem good42 {G : Gt} (hG : OkG G) (h45 : G.e 45 = roEnt 0 c45) : Gd G 42 (roEnt 0 c42) := by
  refine gR (dp := fun _ => true) (fn := Tryz.f42) (n := 1) (fun _ => rfl) (by kernel_rfl) rfl (by kernel_rfl) hG (Nat.le_of_ble_eq_true rfl) (by kernel_rfl) (by decide) (fun _ _ => .v _) ?_
  rintro ⟨m, ⟨⟩⟩ hpre
  simp -implicitDefEqProofs only [Tryz.f42, go_sem, h45, c45, bOf_t, bOf_f, List.length_map, Nat.reduceAdd, Nat.reduceMul, Nat.reduceLeDiff, Nat.reduceEqDiff, reduceCtorEq, Nat.reduceSub, Int.reduceNeg, Nat.reduceMod, Nat.reduceBEq, Nat.reduceLT] at hpre ⊢

  repeat' (first | with_reducible apply And.intro | with_reducible intro _ | ((first | refine brB_split (fun hb => ?_) (fun hb => ?_) | refine aPickB_split (fun hb => ?_) (fun hb => ?_) | refine gB_split (fun hb => ?_) (fun hb => ?_) | refine adB_split (fun hb => ?_) (fun hb => ?_)) <;> simp -implicitDefEqProofs only [hb, go_sem, h45, c45, bOf_t, bOf_f, List.length_map, Nat.reduceAdd, Nat.reduceMul, Nat.reduceLeDiff, Nat.reduceEqDiff, reduceCtorEq, Nat.reduceSub, Int.reduceNeg, Nat.reduceMod, Nat.reduceBEq, Nat.reduceLT] <;> try simp only [qa, qb, qc, qd, qe, qf, qg, bOf_t, bOf_f] at hb))
  all_goals first | rfl | omega | skip
  all_goals
    refine congrArg (fun b => T.v (Value.bool b)) ?_
    first
      | (rw [← bOf_d]; exact bOf_congr (by unfold Emp; simp_all))
      | exact (bOf_n (by unfold Emp; simp_all)).symm
      | exact (bOf_n (by unfold Emp; simp_all; try omega)).symm
      | (rw [← bOf_d]; exact bOf_congr (by unfold Emp; simp_all; try omega))
      | trace_state

def c35 : Ct := ctR (lc ENt.ag l0) (fun p => True) (fun p => .t (.v (.bool (bOf (NtOk p.1)))))
set_option maxHeartbeats 3200000 in
theorem good35 {G : Gt} (hG : OkG G) (h79 : G.e 79 = roEnt 0 c79) (h80 : G.e 80 = roEnt 0 c80) (h50 : G.e 50 = roEnt 0 c50) (h51 : G.e 51 = roEnt 0 c51) : Gd G 35 (roEnt 0 c35) := by
  refine gR (dp := fun _ => true) (fn := Tryz.f35) (n := 1) (fun _ => rfl) (by kernel_rfl) rfl (by kernel_rfl) hG (Nat.le_of_ble_eq_true rfl) (by kernel_rfl) (by decide) (fun _ _ => .v _) ?_
  rintro ⟨n, ⟨⟩⟩ hpre


  dsimp only at hpre ⊢
  have zb : True → True := id
  have zt : True → True := id
  by_cases hk : n.kind = 1
  · rw [bOf_congr (NtOk_1 hk)]
    simp -implicitDefEqProofs only [Tryz.f35, hk, decide_true, decide_false, Int.reduceEq, go_sem, h79, c79, h80, c80, h50, c50, h51, c51, bOf_t, bOf_f, List.length_map, Nat.reduceAdd, Nat.reduceMul, Nat.reduceLeDiff, Nat.reduceEqDiff, reduceCtorEq, Nat.reduceSub, Int.reduceNeg, Nat.reduceMod, Nat.reduceBEq, Nat.reduceLT]
    repeat' (first | with_reducible apply And.intro | with_reducible intro _ | ((first | refine brB_split (fun hb => ?_) (fun hb => ?_) | refine aPickB_split (fun hb => ?_) (fun hb => ?_) | refine gB_split (fun hb => ?_) (fun hb => ?_) | refine adB_split (fun hb => ?_) (fun hb => ?_)) <;> simp -implicitDefEqProofs only [hb, go_sem, h79, c79, h80, c80, h50, c50, h51, c51, bOf_t, bOf_f, List.length_map, Nat.reduceAdd, Nat.reduceMul, Nat.reduceLeDiff, Nat.reduceEqDiff, reduceCtorEq, Nat.reduceSub, Int.reduceNeg, Nat.reduceMod, Nat.reduceBEq, Nat.reduceLT] <;> try simp only [qa, qb, qc, qd, qe, qf, qg, bOf_t, bOf_f] at hb))
    all_goals (try simp only [maxLen] at *)
    all_goals first | with_reducible rfl | omega | with_reducible assumption | exact zb _ (by assumption) | exact zt _ (by assumption) | skip
    all_goals first
      | (with_reducible refine tvF ?_
         intro h
         first
           | exact absurd h.1 (by with_reducible assumption)
           | exact absurd h.2.1 (by with_reducible assumption)
           | exact absurd h.2.2.1 (by with_reducible assumption)
           | exact absurd h.2.2.2 (by with_reducible assumption)
           | exact absurd h.1.1 (by with_reducible assumption)
           | (have h1 := h.1.2.1; have h2 := h.1.2.2; omega))
      | (first
           | with_reducible refine tvE ?_
           | with_reducible refine tvD ?_
         refine ⟨fun h => ?_, fun h => ?_⟩
         · (repeat' with_reducible apply And.intro) <;> first | with_reducible assumption | omega | exact ⟨by with_reducible assumption, by omega, by omega⟩
         · first | with_reducible exact h.1 | with_reducible exact h.2.1 | with_reducible exact h.2.2.1 | with_reducible exact h.2.2.2)
      | trace_state
  · by_cases hk2 : n.kind = 2
    · rw [bOf_congr (NtOk_2 hk2)]
      simp -implicitDefEqProofs only [Tryz.f35, hk, hk2, decide_true, decide_false, Int.reduceEq, go_sem, h79, c79, h80, c80, h50, c50, h51, c51, bOf_t, bOf_f, List.length_map, Nat.reduceAdd, Nat.reduceMul, Nat.reduceLeDiff, Nat.reduceEqDiff, reduceCtorEq, Nat.reduceSub, Int.reduceNeg, Nat.reduceMod, Nat.reduceBEq, Nat.reduceLT]
      repeat' (first | with_reducible apply And.intro | with_reducible intro _ | ((first | refine brB_split (fun hb => ?_) (fun hb => ?_) | refine aPickB_split (fun hb => ?_) (fun hb => ?_) | refine gB_split (fun hb => ?_) (fun hb => ?_) | refine adB_split (fun hb => ?_) (fun hb => ?_)) <;> simp -implicitDefEqProofs only [hb, go_sem, h79, c79, h80, c80, h50, c50, h51, c51, bOf_t, bOf_f, List.length_map, Nat.reduceAdd, Nat.reduceMul, Nat.reduceLeDiff, Nat.reduceEqDiff, reduceCtorEq, Nat.reduceSub, Int.reduceNeg, Nat.reduceMod, Nat.reduceBEq, Nat.reduceLT] <;> try simp only [qa, qb, qc, qd, qe, qf, qg, bOf_t, bOf_f] at hb))
      all_goals (try simp only [maxLen] at *)
      all_goals first | with_reducible rfl | omega | with_reducible assumption | exact zb _ (by assumption) | exact zt _ (by assumption) | skip
      all_goals first
        | (with_reducible refine tvF ?_
           intro h
           first
             | exact absurd h.1 (by with_reducible assumption)
             | exact absurd h.2.1 (by with_reducible assumption)
             | exact absurd h.2.2.1 (by with_reducible assumption)
             | exact absurd h.2.2.2 (by with_reducible assumption)
             | exact absurd h.1.1 (by with_reducible assumption)
             | (have h1 := h.1.2.1; have h2 := h.1.2.2; omega))
        | (first
             | with_reducible refine tvE ?_
             | with_reducible refine tvD ?_
           refine ⟨fun h => ?_, fun h => ?_⟩
           · (repeat' with_reducible apply And.intro) <;> first | with_reducible assumption | omega | exact ⟨by with_reducible assumption, by omega, by omega⟩
           · first | with_reducible exact h.1 | with_reducible exact h.2.1 | with_reducible exact h.2.2.1 | with_reducible exact h.2.2.2)
        | trace_state
    · by_cases hk3 : n.kind = 3
      · rw [bOf_congr (NtOk_3 hk3)]
        simp -implicitDefEqProofs only [Tryz.f35, hk, hk2, hk3, decide_true, decide_false, Int.reduceEq, go_sem, h79, c79, h80, c80, h50, c50, h51, c51, bOf_t, bOf_f, List.length_map, Nat.reduceAdd, Nat.reduceMul, Nat.reduceLeDiff, Nat.reduceEqDiff, reduceCtorEq, Nat.reduceSub, Int.reduceNeg, Nat.reduceMod, Nat.reduceBEq, Nat.reduceLT]
        repeat' (first | with_reducible apply And.intro | with_reducible intro _ | ((first | refine brB_split (fun hb => ?_) (fun hb => ?_) | refine aPickB_split (fun hb => ?_) (fun hb => ?_) | refine gB_split (fun hb => ?_) (fun hb => ?_) | refine adB_split (fun hb => ?_) (fun hb => ?_)) <;> simp -implicitDefEqProofs only [hb, go_sem, h79, c79, h80, c80, h50, c50, h51, c51, bOf_t, bOf_f, List.length_map, Nat.reduceAdd, Nat.reduceMul, Nat.reduceLeDiff, Nat.reduceEqDiff, reduceCtorEq, Nat.reduceSub, Int.reduceNeg, Nat.reduceMod, Nat.reduceBEq, Nat.reduceLT] <;> try simp only [qa, qb, qc, qd, qe, qf, qg, bOf_t, bOf_f] at hb))
        all_goals (try simp only [maxLen] at *)
        all_goals first | with_reducible rfl | omega | with_reducible assumption | exact zb _ (by assumption) | exact zt _ (by assumption) | skip
        all_goals first
          | (with_reducible refine tvF ?_
             intro h
             first
               | exact absurd h.1 (by with_reducible assumption)
               | exact absurd h.2.1 (by with_reducible assumption)
               | exact absurd h.2.2.1 (by with_reducible assumption)
               | exact absurd h.2.2.2 (by with_reducible assumption)
               | exact absurd h.1.1 (by with_reducible assumption)
               | (have h1 := h.1.2.1; have h2 := h.1.2.2; omega))
          | (first
               | with_reducible refine tvE ?_
               | with_reducible refine tvD ?_
             refine ⟨fun h => ?_, fun h => ?_⟩
             · (repeat' with_reducible apply And.intro) <;> first | with_reducible assumption | omega | exact ⟨by with_reducible assumption, by omega, by omega⟩
             · first | with_reducible exact h.1 | with_reducible exact h.2.1 | with_reducible exact h.2.2.1 | with_reducible exact h.2.2.2)
          | trace_state
      · rw [bOf_n (NtOk_0 hk hk2 hk3)]
        simp -implicitDefEqProofs only [Tryz.f35, hk, hk2, hk3, decide_true, decide_false, Int.reduceEq, go_sem, h79, c79, h80, c80, h50, c50, h51, c51, bOf_t, bOf_f, List.length_map, Nat.reduceAdd, Nat.reduceMul, Nat.reduceLeDiff, Nat.reduceEqDiff, reduceCtorEq, Nat.reduceSub, Int.reduceNeg, Nat.reduceMod, Nat.reduceBEq, Nat.reduceLT]
        repeat' (first | with_reducible apply And.intro | with_reducible intro _ | ((first | refine brB_split (fun hb => ?_) (fun hb => ?_) | refine aPickB_split (fun hb => ?_) (fun hb => ?_) | refine gB_split (fun hb => ?_) (fun hb => ?_) | refine adB_split (fun hb => ?_) (fun hb => ?_)) <;> simp -implicitDefEqProofs only [hb, go_sem, h79, c79, h80, c80, h50, c50, h51, c51, bOf_t, bOf_f, List.length_map, Nat.reduceAdd, Nat.reduceMul, Nat.reduceLeDiff, Nat.reduceEqDiff, reduceCtorEq, Nat.reduceSub, Int.reduceNeg, Nat.reduceMod, Nat.reduceBEq, Nat.reduceLT] <;> try simp only [qa, qb, qc, qd, qe, qf, qg, bOf_t, bOf_f] at hb))
        all_goals (try simp only [maxLen] at *)
        all_goals first | with_reducible rfl | omega | with_reducible assumption | exact zb _ (by assumption) | exact zt _ (by assumption) | skip
        all_goals first
          | (with_reducible refine tvF ?_
             intro h
             first
               | exact absurd h.1 (by with_reducible assumption)
               | exact absurd h.2.1 (by with_reducible assumption)
               | exact absurd h.2.2.1 (by with_reducible assumption)
               | exact absurd h.2.2.2 (by with_reducible assumption)
               | exact absurd h.1.1 (by with_reducible assumption)
               | (have h1 := h.1.2.1; have h2 := h.1.2.2; omega))
          | (first
               | with_reducible refine tvE ?_
               | with_reducible refine tvD ?_
             refine ⟨fun h => ?_, fun h => ?_⟩
             · (repeat' with_reducible apply And.intro) <;> first | with_reducible assumption | omega | exact ⟨by with_reducible assumption, by omega, by omega⟩
             · first | with_reducible exact h.1 | with_reducible exact h.2.1 | with_reducible exact h.2.2.1 | with_reducible exact h.2.2.2)
          | trace_state

def c12 : Ct := ctR (lc ENt.ag l0) (fun p => OkNt p.1) (fun p => .t (.v (.bool (bOf (NtOk p.1)))))
set_option maxHeartbeats 3200000 in
theorem good12 {G : Gt} (hG : OkG G) (h40 : G.e 40 = roEnt 0 c40) (h41 : G.e 41 = roEnt 0 c41) (h42 : G.e 42 = roEnt 0 c42) (h43 : G.e 43 = roEnt 0 c43) (h44 : G.e 44 = roEnt 0 c44) (h45 : G.e 45 = roEnt 0 c45) : Gd G 12 (roEnt 0 c12) := by
  refine gR (dp := fun _ => true) (fn := Tryz.f12) (n := 1) (fun _ => rfl) (by kernel_rfl) rfl (by kernel_rfl) hG (Nat.le_of_ble_eq_true rfl) (by kernel_rfl) (by decide) (fun _ _ => .v _) ?_
  rintro ⟨n, ⟨⟩⟩ hpre


  dsimp only at hpre ⊢
  obtain ⟨⟨_, hd⟩, ⟨⟨_, hfd⟩, ⟨hl1, hto⟩, ⟨hl2, hbd⟩⟩⟩ := hpre
  have z0 : n.addr.domain.size ≤ 2000000 := by have : n.addr.domain.size ≤ 1048576 := hd; omega
  have z1 : n.mail.frm.domain.size ≤ 2000000 := by have : n.mail.frm.domain.size ≤ 1048576 := hfd; omega
  have zb : ∀ s ∈ n.mail.body, s.size ≤ 2000000 := fun s hs => by have : s.size ≤ 1048576 := hbd s hs; omega
  have zt : ∀ a ∈ n.mail.to, a.domain.size ≤ 2000000 := fun a ha => by have : a.domain.size ≤ 1048576 := (hto a ha).2; omega
  by_cases hk : n.kind = 1
  · rw [bOf_congr (NtOk_1 hk)]
    simp -implicitDefEqProofs only [Tryz.f12, hk, decide_true, decide_false, Int.reduceEq, go_sem, h40, c40, h41, c41, h42, c42, h43, c43, h44, c44, h45, c45, bOf_t, bOf_f, List.length_map, Nat.reduceAdd, Nat.reduceMul, Nat.reduceLeDiff, Nat.reduceEqDiff, reduceCtorEq, Nat.reduceSub, Int.reduceNeg, Nat.reduceMod, Nat.reduceBEq, Nat.reduceLT]
    repeat' (first | with_reducible apply And.intro | with_reducible intro _ | ((first | refine brB_split (fun hb => ?_) (fun hb => ?_) | refine aPickB_split (fun hb => ?_) (fun hb => ?_) | refine gB_split (fun hb => ?_) (fun hb => ?_) | refine adB_split (fun hb => ?_) (fun hb => ?_)) <;> simp -implicitDefEqProofs only [hb, go_sem, h40, c40, h41, c41, h42, c42, h43, c43, h44, c44, h45, c45, bOf_t, bOf_f, List.length_map, Nat.reduceAdd, Nat.reduceMul, Nat.reduceLeDiff, Nat.reduceEqDiff, reduceCtorEq, Nat.reduceSub, Int.reduceNeg, Nat.reduceMod, Nat.reduceBEq, Nat.reduceLT] <;> try simp only [qa, qb, qc, qd, qe, qf, qg, bOf_t, bOf_f] at hb))
    all_goals (try simp only [maxLen] at *)
    all_goals first | with_reducible rfl | omega | with_reducible assumption | exact zb _ (by assumption) | exact zt _ (by assumption) | skip
    all_goals first
      | (with_reducible refine tvF ?_
         intro h
         first
           | exact absurd h.1 (by with_reducible assumption)
           | exact absurd h.2.1 (by with_reducible assumption)
           | exact absurd h.2.2.1 (by with_reducible assumption)
           | exact absurd h.2.2.2 (by with_reducible assumption)
           | exact absurd h.1.1 (by with_reducible assumption)
           | (have h1 := h.1.2.1; have h2 := h.1.2.2; omega))
      | (first
           | with_reducible refine tvE ?_
           | with_reducible refine tvD ?_
         refine ⟨fun h => ?_, fun h => ?_⟩
         · (repeat' with_reducible apply And.intro) <;> first | with_reducible assumption | omega | exact ⟨by with_reducible assumption, by omega, by omega⟩
         · first | with_reducible exact h.1 | with_reducible exact h.2.1 | with_reducible exact h.2.2.1 | with_reducible exact h.2.2.2)
      | trace_state
  · by_cases hk2 : n.kind = 2
    · rw [bOf_congr (NtOk_2 hk2)]
      simp -implicitDefEqProofs only [Tryz.f12, hk, hk2, decide_true, decide_false, Int.reduceEq, go_sem, h40, c40, h41, c41, h42, c42, h43, c43, h44, c44, h45, c45, bOf_t, bOf_f, List.length_map, Nat.reduceAdd, Nat.reduceMul, Nat.reduceLeDiff, Nat.reduceEqDiff, reduceCtorEq, Nat.reduceSub, Int.reduceNeg, Nat.reduceMod, Nat.reduceBEq, Nat.reduceLT]
      repeat' (first | with_reducible apply And.intro | with_reducible intro _ | ((first | refine brB_split (fun hb => ?_) (fun hb => ?_) | refine aPickB_split (fun hb => ?_) (fun hb => ?_) | refine gB_split (fun hb => ?_) (fun hb => ?_) | refine adB_split (fun hb => ?_) (fun hb => ?_)) <;> simp -implicitDefEqProofs only [hb, go_sem, h40, c40, h41, c41, h42, c42, h43, c43, h44, c44, h45, c45, bOf_t, bOf_f, List.length_map, Nat.reduceAdd, Nat.reduceMul, Nat.reduceLeDiff, Nat.reduceEqDiff, reduceCtorEq, Nat.reduceSub, Int.reduceNeg, Nat.reduceMod, Nat.reduceBEq, Nat.reduceLT] <;> try simp only [qa, qb, qc, qd, qe, qf, qg, bOf_t, bOf_f] at hb))
      all_goals (try simp only [maxLen] at *)
      all_goals first | with_reducible rfl | omega | with_reducible assumption | exact zb _ (by assumption) | exact zt _ (by assumption) | skip
      all_goals first
        | (with_reducible refine tvF ?_
           intro h
           first
             | exact absurd h.1 (by with_reducible assumption)
             | exact absurd h.2.1 (by with_reducible assumption)
             | exact absurd h.2.2.1 (by with_reducible assumption)
             | exact absurd h.2.2.2 (by with_reducible assumption)
             | exact absurd h.1.1 (by with_reducible assumption)
             | (have h1 := h.1.2.1; have h2 := h.1.2.2; omega))
        | (first
             | with_reducible refine tvE ?_
             | with_reducible refine tvD ?_
           refine ⟨fun h => ?_, fun h => ?_⟩
           · (repeat' with_reducible apply And.intro) <;> first | with_reducible assumption | omega | exact ⟨by with_reducible assumption, by omega, by omega⟩
           · first | with_reducible exact h.1 | with_reducible exact h.2.1 | with_reducible exact h.2.2.1 | with_reducible exact h.2.2.2)
        | trace_state
    · by_cases hk3 : n.kind = 3
      · rw [bOf_congr (NtOk_3 hk3)]
        simp -implicitDefEqProofs only [Tryz.f12, hk, hk2, hk3, decide_true, decide_false, Int.reduceEq, go_sem, h40, c40, h41, c41, h42, c42, h43, c43, h44, c44, h45, c45, bOf_t, bOf_f, List.length_map, Nat.reduceAdd, Nat.reduceMul, Nat.reduceLeDiff, Nat.reduceEqDiff, reduceCtorEq, Nat.reduceSub, Int.reduceNeg, Nat.reduceMod, Nat.reduceBEq, Nat.reduceLT]
        repeat' (first | with_reducible apply And.intro | with_reducible intro _ | ((first | refine brB_split (fun hb => ?_) (fun hb => ?_) | refine aPickB_split (fun hb => ?_) (fun hb => ?_) | refine gB_split (fun hb => ?_) (fun hb => ?_) | refine adB_split (fun hb => ?_) (fun hb => ?_)) <;> simp -implicitDefEqProofs only [hb, go_sem, h40, c40, h41, c41, h42, c42, h43, c43, h44, c44, h45, c45, bOf_t, bOf_f, List.length_map, Nat.reduceAdd, Nat.reduceMul, Nat.reduceLeDiff, Nat.reduceEqDiff, reduceCtorEq, Nat.reduceSub, Int.reduceNeg, Nat.reduceMod, Nat.reduceBEq, Nat.reduceLT] <;> try simp only [qa, qb, qc, qd, qe, qf, qg, bOf_t, bOf_f] at hb))
        all_goals (try simp only [maxLen] at *)
        all_goals first | with_reducible rfl | omega | with_reducible assumption | exact zb _ (by assumption) | exact zt _ (by assumption) | skip
        all_goals first
          | (with_reducible refine tvF ?_
             intro h
             first
               | exact absurd h.1 (by with_reducible assumption)
               | exact absurd h.2.1 (by with_reducible assumption)
               | exact absurd h.2.2.1 (by with_reducible assumption)
               | exact absurd h.2.2.2 (by with_reducible assumption)
               | exact absurd h.1.1 (by with_reducible assumption)
               | (have h1 := h.1.2.1; have h2 := h.1.2.2; omega))
          | (first
               | with_reducible refine tvE ?_
               | with_reducible refine tvD ?_
             refine ⟨fun h => ?_, fun h => ?_⟩
             · (repeat' with_reducible apply And.intro) <;> first | with_reducible assumption | omega | exact ⟨by with_reducible assumption, by omega, by omega⟩
             · first | with_reducible exact h.1 | with_reducible exact h.2.1 | with_reducible exact h.2.2.1 | with_reducible exact h.2.2.2)
          | trace_state
      · rw [bOf_n (NtOk_0 hk hk2 hk3)]
        simp -implicitDefEqProofs only [Tryz.f12, hk, hk2, hk3, decide_true, decide_false, Int.reduceEq, go_sem, h40, c40, h41, c41, h42, c42, h43, c43, h44, c44, h45, c45, bOf_t, bOf_f, List.length_map, Nat.reduceAdd, Nat.reduceMul, Nat.reduceLeDiff, Nat.reduceEqDiff, reduceCtorEq, Nat.reduceSub, Int.reduceNeg, Nat.reduceMod, Nat.reduceBEq, Nat.reduceLT]
        repeat' (first | with_reducible apply And.intro | with_reducible intro _ | ((first | refine brB_split (fun hb => ?_) (fun hb => ?_) | refine aPickB_split (fun hb => ?_) (fun hb => ?_) | refine gB_split (fun hb => ?_) (fun hb => ?_) | refine adB_split (fun hb => ?_) (fun hb => ?_)) <;> simp -implicitDefEqProofs only [hb, go_sem, h40, c40, h41, c41, h42, c42, h43, c43, h44, c44, h45, c45, bOf_t, bOf_f, List.length_map, Nat.reduceAdd, Nat.reduceMul, Nat.reduceLeDiff, Nat.reduceEqDiff, reduceCtorEq, Nat.reduceSub, Int.reduceNeg, Nat.reduceMod, Nat.reduceBEq, Nat.reduceLT] <;> try simp only [qa, qb, qc, qd, qe, qf, qg, bOf_t, bOf_f] at hb))
        all_goals (try simp only [maxLen] at *)
        all_goals first | with_reducible rfl | omega | with_reducible assumption | exact zb _ (by assumption) | exact zt _ (by assumption) | skip
        all_goals first
          | (with_reducible refine tvF ?_
             intro h
             first
               | exact absurd h.1 (by with_reducible assumption)
               | exact absurd h.2.1 (by with_reducible assumption)
               | exact absurd h.2.2.1 (by with_reducible assumption)
               | exact absurd h.2.2.2 (by with_reducible assumption)
               | exact absurd h.1.1 (by with_reducible assumption)
               | (have h1 := h.1.2.1; have h2 := h.1.2.2; omega))
          | (first
               | with_reducible refine tvE ?_
               | with_reducible refine tvD ?_
             refine ⟨fun h => ?_, fun h => ?_⟩
             · (repeat' with_reducible apply And.intro) <;> first | with_reducible assumption | omega | exact ⟨by with_reducible assumption, by omega, by omega⟩
             · first | with_reducible exact h.1 | with_reducible exact h.2.1 | with_reducible exact h.2.2.1 | with_reducible exact h.2.2.2)
          | trace_state

def c37 : Ct := ctR (lc ESp.ag (lc ENt.ag l0)) (fun p => OkSp p.1 ∧ OkNt p.2.1) (fun p => roSB (NDo0 p.1 p.2.1))
set_option maxHeartbeats 1600000 in
theorem good37 {G : Gt} (hG : OkG G) (h15 : G.e 15 = roEnt 1 c15) (h82 : G.e 82 = roEnt 1 c82) (h83 : G.e 83 = roEnt 1 c83) : Gd G 37 (roEnt 1 c37) := by
  refine gR (dp := fun _ => true) (fn := Tryz.f37) (n := 2) (fun _ => rfl) (by kernel_rfl) rfl (by kernel_rfl) hG (Nat.le_of_ble_eq_true rfl) (by kernel_rfl) (by decide) (fun h => by cases h) ?_
  rintro ⟨s, n, ⟨⟩⟩ hpre


  obtain ⟨hok, hnt⟩ := hpre
  dsimp only at hok hnt ⊢
  have hml : OkMl n.mail := hnt.2
  have had : OkAd n.addr := hnt.1
  by_cases hk : n.kind = 1
  · have e : NDo0 s n = SAdd s n.mail n.now := if_pos hk
    have d1 := decide_eq_true hk
    rw [e]
    simp -implicitDefEqProofs only [Tryz.f37, d1, go_sem, h15, c15, h82, c82, h83, c83, tmap, dmap, List.take_length, List.drop_zero, List.length_take, List.length_drop, List.length_map, List.length_append, List.length_cons, List.length_nil, List.map_append, List.map_nil, List.map_cons, List.nil_append, Nat.zero_add, List.mem_singleton, forall_eq, Bool.not_true, Bool.not_false, roSB, Nat.reduceAdd, Nat.reduceMul, Nat.reduceLeDiff, Nat.reduceEqDiff, reduceCtorEq, Nat.reduceSub, Int.reduceNeg, Nat.reduceMod, Nat.reduceBEq, Nat.reduceLT]
    repeat' (first | with_reducible apply And.intro | with_reducible intro _ | ((first | refine brB_split (fun hb => ?_) (fun hb => ?_) | refine aPickB_split (fun hb => ?_) (fun hb => ?_) | refine gB_split (fun hb => ?_) (fun hb => ?_) | refine adB_split (fun hb => ?_) (fun hb => ?_)) <;> simp -implicitDefEqProofs only [hb, go_sem, h15, c15, h82, c82, h83, c83, tmap, dmap, List.take_length, List.drop_zero, List.length_take, List.length_drop, List.length_map, List.length_append, List.length_cons, List.length_nil, List.map_append, List.map_nil, List.map_cons, List.nil_append, Nat.zero_add, List.mem_singleton, forall_eq, Bool.not_true, Bool.not_false, roSB, Nat.reduceAdd, Nat.reduceMul, Nat.reduceLeDiff, Nat.reduceEqDiff, reduceCtorEq, Nat.reduceSub, Int.reduceNeg, Nat.reduceMod, Nat.reduceBEq, Nat.reduceLT] <;> try simp only [qa, qb, qc, qd, qe, qf, qg, bOf_t, bOf_f] at hb))
    all_goals first | rfl | omega | with_reducible assumption | exact hml | trace_state
  · by_cases hk2 : n.kind = 2
    · have e : NDo0 s n = SDone s n.id n.addr := by unfold NDo0; rw [if_neg hk, if_pos hk2]
      have d1 := decide_eq_false hk
      have d2 := decide_eq_true hk2
      rw [e]
      simp -implicitDefEqProofs only [Tryz.f37, d1, d2, go_sem, h15, c15, h82, c82, h83, c83, tmap, dmap, List.take_length, List.drop_zero, List.length_take, List.length_drop, List.length_map, List.length_append, List.length_cons, List.length_nil, List.map_append, List.map_nil, List.map_cons, List.nil_append, Nat.zero_add, List.mem_singleton, forall_eq, Bool.not_true, Bool.not_false, roSB, Nat.reduceAdd, Nat.reduceMul, Nat.reduceLeDiff, Nat.reduceEqDiff, reduceCtorEq, Nat.reduceSub, Int.reduceNeg, Nat.reduceMod, Nat.reduceBEq, Nat.reduceLT]
      repeat' (first | with_reducible apply And.intro | with_reducible intro _ | ((first | refine brB_split (fun hb => ?_) (fun hb => ?_) | refine aPickB_split (fun hb => ?_) (fun hb => ?_) | refine gB_split (fun hb => ?_) (fun hb => ?_) | refine adB_split (fun hb => ?_) (fun hb => ?_)) <;> simp -implicitDefEqProofs only [hb, go_sem, h15, c15, h82, c82, h83, c83, tmap, dmap, List.take_length, List.drop_zero, List.length_take, List.length_drop, List.length_map, List.length_append, List.length_cons, List.length_nil, List.map_append, List.map_nil, List.map_cons, List.nil_append, Nat.zero_add, List.mem_singleton, forall_eq, Bool.not_true, Bool.not_false, roSB, Nat.reduceAdd, Nat.reduceMul, Nat.reduceLeDiff, Nat.reduceEqDiff, reduceCtorEq, Nat.reduceSub, Int.reduceNeg, Nat.reduceMod, Nat.reduceBEq, Nat.reduceLT] <;> try simp only [qa, qb, qc, qd, qe, qf, qg, bOf_t, bOf_f] at hb))
      all_goals first | rfl | omega | with_reducible assumption | trace_state
    · have e : NDo0 s n = SLater s n.id n.addr n.now := by unfold NDo0; rw [if_neg hk, if_neg hk2]
      have d1 := decide_eq_false hk
      have d2 := decide_eq_false hk2
      rw [e]
      simp -implicitDefEqProofs only [Tryz.f37, d1, d2, go_sem, h15, c15, h82, c82, h83, c83, tmap, dmap, List.take_length, List.drop_zero, List.length_take, List.length_drop, List.length_map, List.length_append, List.length_cons, List.length_nil, List.map_append, List.map_nil, List.map_cons, List.nil_append, Nat.zero_add, List.mem_singleton, forall_eq, Bool.not_true, Bool.not_false, roSB, Nat.reduceAdd, Nat.reduceMul, Nat.reduceLeDiff, Nat.reduceEqDiff, reduceCtorEq, Nat.reduceSub, Int.reduceNeg, Nat.reduceMod, Nat.reduceBEq, Nat.reduceLT]
      repeat' (first | with_reducible apply And.intro | with_reducible intro _ | ((first | refine brB_split (fun hb => ?_) (fun hb => ?_) | refine aPickB_split (fun hb => ?_) (fun hb => ?_) | refine gB_split (fun hb => ?_) (fun hb => ?_) | refine adB_split (fun hb => ?_) (fun hb => ?_)) <;> simp -implicitDefEqProofs only [hb, go_sem, h15, c15, h82, c82, h83, c83, tmap, dmap, List.take_length, List.drop_zero, List.length_take, List.length_drop, List.length_map, List.length_append, List.length_cons, List.length_nil, List.map_append, List.map_nil, List.map_cons, List.nil_append, Nat.zero_add, List.mem_singleton, forall_eq, Bool.not_true, Bool.not_false, roSB, Nat.reduceAdd, Nat.reduceMul, Nat.reduceLeDiff, Nat.reduceEqDiff, reduceCtorEq, Nat.reduceSub, Int.reduceNeg, Nat.reduceMod, Nat.reduceBEq, Nat.reduceLT] <;> try simp only [qa, qb, qc, qd, qe, qf, qg, bOf_t, bOf_f] at hb))
      all_goals first | rfl | omega | with_reducible assumption | trace_state

def c8 : Ct := ctR (lc ESp.ag (lc ENt.ag l0)) (fun p => OkSp p.1 ∧ OkNt p.2.1) (fun p => roSB (NDo p.1 p.2.1))
set_option maxHeartbeats 1600000 in
theorem good8 {G : Gt} (hG : OkG G) (h34 : G.e 34 = roEnt 0 c34) (h35 : G.e 35 = roEnt 0 c35) (h36 : G.e 36 = roEnt 0 c36) (h37 : G.e 37 = roEnt 1 c37) : Gd G 8 (roEnt 1 c8) := by
  refine gR (dp := fun _ => true) (fn := Tryz.f8) (n := 2) (fun _ => rfl) (by kernel_rfl) rfl (by kernel_rfl) hG (Nat.le_of_ble_eq_true rfl) (by kernel_rfl) (by decide) (fun h => by cases h) ?_
  rintro ⟨s, n, ⟨⟩⟩ hpre


  obtain ⟨hok, hnt⟩ := hpre
  dsimp only at hok hnt ⊢
  have hml : OkMl n.mail := hnt.2
  have had : OkAd n.addr := hnt.1
  by_cases h : SpOk s
  · have b1 := bOf_y h
    by_cases h2 : NtOk n
    · have b2 := bOf_y h2
      rw [NDo_y h h2]
      simp -implicitDefEqProofs only [Tryz.f8, b1, b2, go_sem, h34, c34, h35, c35, h36, c36, h37, c37, tmap, dmap, List.take_length, List.drop_zero, List.length_take, List.length_drop, List.length_map, List.length_append, List.length_cons, List.length_nil, List.map_append, List.map_nil, List.map_cons, List.nil_append, Nat.zero_add, List.mem_singleton, forall_eq, Bool.not_true, Bool.not_false, roSB, Nat.reduceAdd, Nat.reduceMul, Nat.reduceLeDiff, Nat.reduceEqDiff, reduceCtorEq, Nat.reduceSub, Int.reduceNeg, Nat.reduceMod, Nat.reduceBEq, Nat.reduceLT]
      repeat' (first | with_reducible apply And.intro | with_reducible intro _ | ((first | refine brB_split (fun hb => ?_) (fun hb => ?_) | refine aPickB_split (fun hb => ?_) (fun hb => ?_) | refine gB_split (fun hb => ?_) (fun hb => ?_) | refine adB_split (fun hb => ?_) (fun hb => ?_)) <;> simp -implicitDefEqProofs only [hb, go_sem, h34, c34, h35, c35, h36, c36, h37, c37, tmap, dmap, List.take_length, List.drop_zero, List.length_take, List.length_drop, List.length_map, List.length_append, List.length_cons, List.length_nil, List.map_append, List.map_nil, List.map_cons, List.nil_append, Nat.zero_add, List.mem_singleton, forall_eq, Bool.not_true, Bool.not_false, roSB, Nat.reduceAdd, Nat.reduceMul, Nat.reduceLeDiff, Nat.reduceEqDiff, reduceCtorEq, Nat.reduceSub, Int.reduceNeg, Nat.reduceMod, Nat.reduceBEq, Nat.reduceLT] <;> try simp only [qa, qb, qc, qd, qe, qf, qg, bOf_t, bOf_f] at hb))
      all_goals first | rfl | omega | with_reducible assumption | trace_state
    · have b2 := bOf_n h2
      rw [NDo_n h h2]
      simp -implicitDefEqProofs only [Tryz.f8, b1, b2, go_sem, h34, c34, h35, c35, h36, c36, h37, c37, tmap, dmap, List.take_length, List.drop_zero, List.length_take, List.length_drop, List.length_map, List.length_append, List.length_cons, List.length_nil, List.map_append, List.map_nil, List.map_cons, List.nil_append, Nat.zero_add, List.mem_singleton, forall_eq, Bool.not_true, Bool.not_false, roSB, Nat.reduceAdd, Nat.reduceMul, Nat.reduceLeDiff, Nat.reduceEqDiff, reduceCtorEq, Nat.reduceSub, Int.reduceNeg, Nat.reduceMod, Nat.reduceBEq, Nat.reduceLT]
      repeat' (first | with_reducible apply And.intro | with_reducible intro _ | ((first | refine brB_split (fun hb => ?_) (fun hb => ?_) | refine aPickB_split (fun hb => ?_) (fun hb => ?_) | refine gB_split (fun hb => ?_) (fun hb => ?_) | refine adB_split (fun hb => ?_) (fun hb => ?_)) <;> simp -implicitDefEqProofs only [hb, go_sem, h34, c34, h35, c35, h36, c36, h37, c37, tmap, dmap, List.take_length, List.drop_zero, List.length_take, List.length_drop, List.length_map, List.length_append, List.length_cons, List.length_nil, List.map_append, List.map_nil, List.map_cons, List.nil_append, Nat.zero_add, List.mem_singleton, forall_eq, Bool.not_true, Bool.not_false, roSB, Nat.reduceAdd, Nat.reduceMul, Nat.reduceLeDiff, Nat.reduceEqDiff, reduceCtorEq, Nat.reduceSub, Int.reduceNeg, Nat.reduceMod, Nat.reduceBEq, Nat.reduceLT] <;> try simp only [qa, qb, qc, qd, qe, qf, qg, bOf_t, bOf_f] at hb))
      all_goals first | rfl | omega | with_reducible assumption | trace_state
  · have b1 := bOf_n h
    rw [NDo_no h]
    simp -implicitDefEqProofs only [Tryz.f8, b1, go_sem, h34, c34, h35, c35, h36, c36, h37, c37, tmap, dmap, List.take_length, List.drop_zero, List.length_take, List.length_drop, List.length_map, List.length_append, List.length_cons, List.length_nil, List.map_append, List.map_nil, List.map_cons, List.nil_append, Nat.zero_add, List.mem_singleton, forall_eq, Bool.not_true, Bool.not_false, roSB, Nat.reduceAdd, Nat.reduceMul, Nat.reduceLeDiff, Nat.reduceEqDiff, reduceCtorEq, Nat.reduceSub, Int.reduceNeg, Nat.reduceMod, Nat.reduceBEq, Nat.reduceLT]
    repeat' (first | with_reducible apply And.intro | with_reducible intro _ | ((first | refine brB_split (fun hb => ?_) (fun hb => ?_) | refine aPickB_split (fun hb => ?_) (fun hb => ?_) | refine gB_split (fun hb => ?_) (fun hb => ?_) | refine adB_split (fun hb => ?_) (fun hb => ?_)) <;> simp -implicitDefEqProofs only [hb, go_sem, h34, c34, h35, c35, h36, c36, h37, c37, tmap, dmap, List.take_length, List.drop_zero, List.length_take, List.length_drop, List.length_map, List.length_append, List.length_cons, List.length_nil, List.map_append, List.map_nil, List.map_cons, List.nil_append, Nat.zero_add, List.mem_singleton, forall_eq, Bool.not_true, Bool.not_false, roSB, Nat.reduceAdd, Nat.reduceMul, Nat.reduceLeDiff, Nat.reduceEqDiff, reduceCtorEq, Nat.reduceSub, Int.reduceNeg, Nat.reduceMod, Nat.reduceBEq, Nat.reduceLT] <;> try simp only [qa, qb, qc, qd, qe, qf, qg, bOf_t, bOf_f] at hb))
    all_goals first | rfl | omega | with_reducible assumption | trace_state

def c7 : Ct := ctR (lc ESp.ag (lc ENt.ag l0)) (fun p => OkSp p.1 ∧ OkNt p.2.1) (fun p => owSB (NDo p.1 p.2.1))
set_option maxHeartbeats 1600000 in
theorem good7 {G : Gt} (hG : OkG G) (h10 : G.e 10 = roEnt 0 c10) (h12 : G.e 12 = roEnt 0 c12) (h31 : G.e 31 = roEnt 0 c31) (h18 : G.e 18 = roEnt 0 c18) (h32 : G.e 32 = roEnt 0 c32) (h33 : G.e 33 = roEnt 0 c33) : Gd G 7 (roEnt 0 c7) := by
  refine gR (dp := fun _ => true) (fn := Tryz.f7) (n := 2) (fun _ => rfl) (by kernel_rfl) rfl (by kernel_rfl) hG (Nat.le_of_ble_eq_true rfl) (by kernel_rfl) (by decide) (fun _ p => owSB_solid _) ?_
  rintro ⟨s, n, ⟨⟩⟩ hpre


  obtain ⟨hok, hnt⟩ := hpre
  dsimp only at hok hnt ⊢
  have hml : OkMl n.mail := hnt.2
  have had : OkAd n.addr := hnt.1
  by_cases h : SpOk s
  · have b1 := bOf_y h
    by_cases h2 : NtOk n
    · have b2 := bOf_y h2
      rw [NDo_y h h2]
      by_cases hk : n.kind = 1
      · have e : NDo0 s n = SAdd s n.mail n.now := if_pos hk
        have d1 := decide_eq_true hk
        rw [e]
        simp -implicitDefEqProofs only [Tryz.f7, d1, b1, b2, go_sem, h10, c10, h12, c12, h31, c31, h18, c18, h32, c32, h33, c33, tmap, dmap, List.take_length, List.drop_zero, List.length_take, List.length_drop, List.length_map, List.length_append, List.length_cons, List.length_nil, List.map_append, List.map_nil, List.map_cons, List.nil_append, Nat.zero_add, List.mem_singleton, forall_eq, Bool.not_true, Bool.not_false, owSB, Nat.reduceAdd, Nat.reduceMul, Nat.reduceLeDiff, Nat.reduceEqDiff, reduceCtorEq, Nat.reduceSub, Int.reduceNeg, Nat.reduceMod, Nat.reduceBEq, Nat.reduceLT]
        repeat' (first | with_reducible apply And.intro | with_reducible intro _ | ((first | refine brB_split (fun hb => ?_) (fun hb => ?_) | refine aPickB_split (fun hb => ?_) (fun hb => ?_) | refine gB_split (fun hb => ?_) (fun hb => ?_) | refine adB_split (fun hb => ?_) (fun hb => ?_)) <;> simp -implicitDefEqProofs only [hb, go_sem, h10, c10, h12, c12, h31, c31, h18, c18, h32, c32, h33, c33, tmap, dmap, List.take_length, List.drop_zero, List.length_take, List.length_drop, List.length_map, List.length_append, List.length_cons, List.length_nil, List.map_append, List.map_nil, List.map_cons, List.nil_append, Nat.zero_add, List.mem_singleton, forall_eq, Bool.not_true, Bool.not_false, owSB, Nat.reduceAdd, Nat.reduceMul, Nat.reduceLeDiff, Nat.reduceEqDiff, reduceCtorEq, Nat.reduceSub, Int.reduceNeg, Nat.reduceMod, Nat.reduceBEq, Nat.reduceLT] <;> try simp only [qa, qb, qc, qd, qe, qf, qg, bOf_t, bOf_f] at hb))
        all_goals first | rfl | omega | with_reducible assumption | exact hml | trace_state
      · by_cases hk2 : n.kind = 2
        · have e : NDo0 s n = SDone s n.id n.addr := by unfold NDo0; rw [if_neg hk, if_pos hk2]
          have d1 := decide_eq_false hk
          have d2 := decide_eq_true hk2
          rw [e]
          simp -implicitDefEqProofs only [Tryz.f7, d1, d2, b1, b2, go_sem, h10, c10, h12, c12, h31, c31, h18, c18, h32, c32, h33, c33, tmap, dmap, List.take_length, List.drop_zero, List.length_take, List.length_drop, List.length_map, List.length_append, List.length_cons, List.length_nil, List.map_append, List.map_nil, List.map_cons, List.nil_append, Nat.zero_add, List.mem_singleton, forall_eq, Bool.not_true, Bool.not_false, owSB, Nat.reduceAdd, Nat.reduceMul, Nat.reduceLeDiff, Nat.reduceEqDiff, reduceCtorEq, Nat.reduceSub, Int.reduceNeg, Nat.reduceMod, Nat.reduceBEq, Nat.reduceLT]
          repeat' (first | with_reducible apply And.intro | with_reducible intro _ | ((first | refine brB_split (fun hb => ?_) (fun hb => ?_) | refine aPickB_split (fun hb => ?_) (fun hb => ?_) | refine gB_split (fun hb => ?_) (fun hb => ?_) | refine adB_split (fun hb => ?_) (fun hb => ?_)) <;> simp -implicitDefEqProofs only [hb, go_sem, h10, c10, h12, c12, h31, c31, h18, c18, h32, c32, h33, c33, tmap, dmap, List.take_length, List.drop_zero, List.length_take, List.length_drop, List.length_map, List.length_append, List.length_cons, List.length_nil, List.map_append, List.map_nil, List.map_cons, List.nil_append, Nat.zero_add, List.mem_singleton, forall_eq, Bool.not_true, Bool.not_false, owSB, Nat.reduceAdd, Nat.reduceMul, Nat.reduceLeDiff, Nat.reduceEqDiff, reduceCtorEq, Nat.reduceSub, Int.reduceNeg, Nat.reduceMod, Nat.reduceBEq, Nat.reduceLT] <;> try simp only [qa, qb, qc, qd, qe, qf, qg, bOf_t, bOf_f] at hb))
          all_goals first | rfl | omega | with_reducible assumption | trace_state
        · have e : NDo0 s n = SLater s n.id n.addr n.now := by unfold NDo0; rw [if_neg hk, if_neg hk2]
          have d1 := decide_eq_false hk
          have d2 := decide_eq_false hk2
          rw [e]
          simp -implicitDefEqProofs only [Tryz.f7, d1, d2, b1, b2, go_sem, h10, c10, h12, c12, h31, c31, h18, c18, h32, c32, h33, c33, tmap, dmap, List.take_length, List.drop_zero, List.length_take, List.length_drop, List.length_map, List.length_append, List.length_cons, List.length_nil, List.map_append, List.map_nil, List.map_cons, List.nil_append, Nat.zero_add, List.mem_singleton, forall_eq, Bool.not_true, Bool.not_false, owSB, Nat.reduceAdd, Nat.reduceMul, Nat.reduceLeDiff, Nat.reduceEqDiff, reduceCtorEq, Nat.reduceSub, Int.reduceNeg, Nat.reduceMod, Nat.reduceBEq, Nat.reduceLT]
          repeat' (first | with_reducible apply And.intro | with_reducible intro _ | ((first | refine brB_split (fun hb => ?_) (fun hb => ?_) | refine aPickB_split (fun hb => ?_) (fun hb => ?_) | refine gB_split (fun hb => ?_) (fun hb => ?_) | refine adB_split (fun hb => ?_) (fun hb => ?_)) <;> simp -implicitDefEqProofs only [hb, go_sem, h10, c10, h12, c12, h31, c31, h18, c18, h32, c32, h33, c33, tmap, dmap, List.take_length, List.drop_zero, List.length_take, List.length_drop, List.length_map, List.length_append, List.length_cons, List.length_nil, List.map_append, List.map_nil, List.map_cons, List.nil_append, Nat.zero_add, List.mem_singleton, forall_eq, Bool.not_true, Bool.not_false, owSB, Nat.reduceAdd, Nat.reduceMul, Nat.reduceLeDiff, Nat.reduceEqDiff, reduceCtorEq, Nat.reduceSub, Int.reduceNeg, Nat.reduceMod, Nat.reduceBEq, Nat.reduceLT] <;> try simp only [qa, qb, qc, qd, qe, qf, qg, bOf_t, bOf_f] at hb))
          all_goals first | rfl | omega | with_reducible assumption | trace_state
    · have b2 := bOf_n h2
      rw [NDo_n h h2]
      simp -implicitDefEqProofs only [Tryz.f7, b1, b2, go_sem, h10, c10, h12, c12, h31, c31, h18, c18, h32, c32, h33, c33, tmap, dmap, List.take_length, List.drop_zero, List.length_take, List.length_drop, List.length_map, List.length_append, List.length_cons, List.length_nil, List.map_append, List.map_nil, List.map_cons, List.nil_append, Nat.zero_add, List.mem_singleton, forall_eq, Bool.not_true, Bool.not_false, owSB, Nat.reduceAdd, Nat.reduceMul, Nat.reduceLeDiff, Nat.reduceEqDiff, reduceCtorEq, Nat.reduceSub, Int.reduceNeg, Nat.reduceMod, Nat.reduceBEq, Nat.reduceLT]
      repeat' (first | with_reducible apply And.intro | with_reducible intro _ | ((first | refine brB_split (fun hb => ?_) (fun hb => ?_) | refine aPickB_split (fun hb => ?_) (fun hb => ?_) | refine gB_split (fun hb => ?_) (fun hb => ?_) | refine adB_split (fun hb => ?_) (fun hb => ?_)) <;> simp -implicitDefEqProofs only [hb, go_sem, h10, c10, h12, c12, h31, c31, h18, c18, h32, c32, h33, c33, tmap, dmap, List.take_length, List.drop_zero, List.length_take, List.length_drop, List.length_map, List.length_append, List.length_cons, List.length_nil, List.map_append, List.map_nil, List.map_cons, List.nil_append, Nat.zero_add, List.mem_singleton, forall_eq, Bool.not_true, Bool.not_false, owSB, Nat.reduceAdd, Nat.reduceMul, Nat.reduceLeDiff, Nat.reduceEqDiff, reduceCtorEq, Nat.reduceSub, Int.reduceNeg, Nat.reduceMod, Nat.reduceBEq, Nat.reduceLT] <;> try simp only [qa, qb, qc, qd, qe, qf, qg, bOf_t, bOf_f] at hb))
      all_goals first | rfl | omega | with_reducible assumption | trace_state
  · have b1 := bOf_n h
    rw [NDo_no h]
    simp -implicitDefEqProofs only [Tryz.f7, b1, go_sem, h10, c10, h12, c12, h31, c31, h18, c18, h32, c32, h33, c33, tmap, dmap, List.take_length, List.drop_zero, List.length_take, List.length_drop, List.length_map, List.length_append, List.length_cons, List.length_nil, List.map_append, List.map_nil, List.map_cons, List.nil_append, Nat.zero_add, List.mem_singleton, forall_eq, Bool.not_true, Bool.not_false, owSB, Nat.reduceAdd, Nat.reduceMul, Nat.reduceLeDiff, Nat.reduceEqDiff, reduceCtorEq, Nat.reduceSub, Int.reduceNeg, Nat.reduceMod, Nat.reduceBEq, Nat.reduceLT]
    repeat' (first | with_reducible apply And.intro | with_reducible intro _ | ((first | refine brB_split (fun hb => ?_) (fun hb => ?_) | refine aPickB_split (fun hb => ?_) (fun hb => ?_) | refine gB_split (fun hb => ?_) (fun hb => ?_) | refine adB_split (fun hb => ?_) (fun hb => ?_)) <;> simp -implicitDefEqProofs only [hb, go_sem, h10, c10, h12, c12, h31, c31, h18, c18, h32, c32, h33, c33, tmap, dmap, List.take_length, List.drop_zero, List.length_take, List.length_drop, List.length_map, List.length_append, List.length_cons, List.length_nil, List.map_append, List.map_nil, List.map_cons, List.nil_append, Nat.zero_add, List.mem_singleton, forall_eq, Bool.not_true, Bool.not_false, owSB, Nat.reduceAdd, Nat.reduceMul, Nat.reduceLeDiff, Nat.reduceEqDiff, reduceCtorEq, Nat.reduceSub, Int.reduceNeg, Nat.reduceMod, Nat.reduceBEq, Nat.reduceLT] <;> try simp only [qa, qb, qc, qd, qe, qf, qg, bOf_t, bOf_f] at hb))
    all_goals first | rfl | omega | with_reducible assumption | trace_state


theorem eS_bound {α : Type} {e : α → Int → Int} {B : Int} : ∀ (xs : List α) (k : Int), (∀ x ∈ xs, ∀ k, e x k ≤ k + B) → eS e k xs ≤ k + B * xs.length
  | [], k, _ => by simp [eS]
  | x :: r, k, h => by
    have h1 := h x (by simp) k
    have h2 := eS_bound r (e x k) fun y hy => h y (by simp [hy])
    simp only [eS, List.length_cons]
    have e1 : B * ((r.length + 1 : Nat) : Int) = B * r.length + B := by
      rw [Int.natCast_add, Int.mul_add]; simp
    omega
theorem mul_le {B c n : Int} (h0 : 0 ≤ B) (h : c ≤ n) : B * c ≤ B * n := Int.mul_le_mul_of_nonneg_left h h0
theorem fSp_bound {s : Sp} (h : OkSp s) : fSp s 1 ≤ 6000000000000 := by
  have h' : OkL OkIm s.items := h
  unfold fSp
  have h1 := eS_bound (e := eIm) (B := 5242883) s.items 1 fun x hx k => by
    have ho := h'.2 x hx
    obtain ⟨_, ⟨l1, _⟩, ⟨l2, _⟩⟩ := ho
    unfold eIm
    have b1 := eS_bound (e := eRc) (B := 4) x.to (k + 1 + 1 + 1) fun r _ k => by unfold eRc; omega
    have b2 := eS_bound (e := eStr) (B := 1) x.body (eS eRc (k + 1 + 1 + 1) x.to) fun r _ k => by unfold eStr; omega
    omega
  have h2 : (5242883 : Int) * s.items.length ≤ 5242883 * 1048576 := mul_le (by decide) h'.1
  omega
theorem OkL_sub {α : Type} {p : α → Prop} {xs ys : List α} (h : OkL p xs) (hl : ys.length ≤ xs.length) (hs : ∀ y ∈ ys, p y) : OkL p ys := ⟨by have := h.1; omega, hs⟩

theorem mem_cut {α : Type} {xs : List α} {i j : Nat} {y : α} (h : y ∈ xs.take i ++ xs.drop j) : y ∈ xs := by
  rcases List.mem_append.1 h with h | h
  · exact List.mem_of_mem_take h
  · exact List.mem_of_mem_drop h
theorem dnSp_ok {s : Sp} {i k : Nat} (h : OkSp s) (hi : i < s.items.length) : OkSp (dnSp s i k) := by
  have h' : OkL OkIm s.items := h
  show OkL OkIm (dnL s.items i k)
  have hx := h'.at hi
  have hx2 : OkIm (dnIm (s.items.getD i default) k) := ⟨hx.1, OkL_sub hx.2.1 (by simp [dnIm]; omega) (fun y hy => hx.2.1.2 y (mem_cut hy)), hx.2.2⟩
  unfold dnL
  split
  · exact OkL_sub h' (by simp; omega) fun y hy => h'.2 y (mem_cut hy)
  · refine OkL_sub h' (by simp; omega) fun y hy => ?_
    rcases List.mem_append.1 hy with hy | hy
    · exact h'.2 y (List.mem_of_mem_take hy)
    · rcases List.mem_cons.1 hy with e | hy
      · rw [e]; exact hx2
      · exact h'.2 y (List.mem_of_mem_drop hy)
theorem SDone_ok {s : Sp} {n : Int} {a : Ad} (h : OkSp s) : OkSp (SDone s n a).1 := by
  unfold SDone
  split
  · split
    · exact h
    · rename_i hi
      split
      · exact h
      · exact dnSp_ok h (by have := atIm_lt hi; omega)
  · exact ⟨by decide, fun _ h => by cases h⟩

theorem ltSp_ok {s : Sp} {i k : Nat} {w : Int} (h : OkSp s) (hi : i < s.items.length) (hk : k < (s.items.getD i default).to.length) : OkSp (ltSp s i k w) := by
  have h' : OkL OkIm s.items := h
  have hx := h'.at hi
  have hr := hx.2.1.at hk
  refine OkL_sub (ys := s.items.set i (ltIm (s.items.getD i default) k w)) h' (by simp) fun y hy => ?_
  rcases List.mem_or_eq_of_mem_set hy with hy | rfl
  · exact h'.2 y hy
  · exact ⟨hx.1, OkL_sub hx.2.1 (by simp [ltIm]) fun r hr2 => by
      rcases List.mem_or_eq_of_mem_set hr2 with hr2 | rfl
      · exact hx.2.1.2 r hr2
      · exact hr, hx.2.2⟩
theorem SLater_ok {s : Sp} {n : Int} {a : Ad} {w : Int} (h : OkSp s) : OkSp (SLater s n a w).1 := by
  unfold SLater
  split
  · split
    · exact h
    · rename_i hi
      split
      · exact h
      · split
        · exact h
        · rename_i hk
          have h1 := atIm_lt hi
          have h2 := atRc_lt hk
          unfold SLat
          split
          · exact h
          · exact ltSp_ok h (by omega) (by unfold theIm at h2; unfold theIm; omega)
  · exact ⟨by decide, fun _ h => by cases h⟩

theorem fMl_bound {m : Ml} (h : OkMl m) (k : Int) : fMl m k ≤ k + 4194304 := by
  obtain ⟨_, ⟨l1, _⟩, ⟨l2, _⟩⟩ := h
  unfold fMl
  have b1 := eS_bound (e := eAd) (B := 2) m.to k fun r _ k => by unfold eAd; omega
  have b2 := eS_bound (e := eStr) (B := 1) m.body (eS eAd k m.to) fun r _ k => by unfold eStr; omega
  omega

theorem SAdd_ok {s : Sp} {m : Ml} {w : Int} (h : OkSp s) (hm : OkMl m) : OkSp (SAdd s m w).1 := by
  unfold SAdd
  split
  · rename_i hs
    split
    · have h' : OkL OkIm s.items := h
      have h10 := hs.2.2.2
      refine ⟨by show ((s.items ++ [adIm s m w]).length : Int) ≤ 1048576; simp; omega, fun y hy => ?_⟩
      rcases List.mem_append.1 hy with hy | hy
      · exact h'.2 y hy
      · rw [List.mem_singleton.1 hy]
        refine ⟨hm.1, ⟨by show ((m.to.map (adRc w)).length : Int) ≤ 1048576; rw [List.length_map]; exact hm.2.1.1, fun r hr => ?_⟩, hm.2.2⟩
        obtain ⟨a, ha, rfl⟩ := List.mem_map.1 hr
        exact hm.2.1.2 a ha
    · exact h
  · exact ⟨by decide, fun _ h => by cases h⟩

theorem NDo_ok {s : Sp} {n : Nt} (h : OkSp s) (hn : OkNt n) : OkSp (NDo s n).1 := by
  unfold NDo NDo0
  split
  · split
    · split
      · exact SAdd_ok h hn.2
      · split
        · exact SDone_ok h
        · exact SLater_ok h
    · exact h
  · exact ⟨by decide, fun _ h => by cases h⟩
theorem fNt_bound {n : Nt} (h : OkNt n) (k : Int) : fNt n k ≤ k + 4194304 := by
  obtain ⟨_, _, ⟨l1, _⟩, ⟨l2, _⟩⟩ := h
  unfold fNt
  have b1 := eS_bound (e := eAd) (B := 2) n.mail.to k fun r _ k => by unfold eAd; omega
  have b2 := eS_bound (e := eStr) (B := 1) n.mail.body (eS eAd k n.mail.to) fun r _ k => by unfold eStr; omega
  omega
def c5 : Ct := ctR (lc ESp.ag (lc ENt.ag l0)) (fun p => True) (fun p => .t (.v (.bool true)))
set_option maxHeartbeats 4000000 in
theorem good5 {G : Gt} (hG : OkG G) (h13 : G.e 13 = roEnt 0 c13) (h16 : G.e 16 = roEnt 0 c16) (h24 : G.e 24 = roEnt 0 c24) (h25 : G.e 25 = roEnt 0 c25) (h19 : G.e 19 = roEnt 0 c19) (h21 : G.e 21 = muEnt c21) (h23 : G.e 23 = roEnt 0 c23) (h8 : G.e 8 = roEnt 1 c8) (h7 : G.e 7 = roEnt 0 c7) (h26 : G.e 26 = roEnt 0 c26) (h27 : G.e 27 = muEnt c27) : Gd G 5 (roEnt 0 c5) := by
  refine gR (dp := fun _ => true) (fn := Tryz.f5) (n := 2) (fun _ => rfl) (by kernel_rfl) rfl (by kernel_rfl) hG (Nat.le_of_ble_eq_true rfl) (by kernel_rfl) (by decide) (fun _ _ => .v _) ?_
  rintro ⟨s, n, ⟨⟩⟩ hpre


  by_cases h0s : szSp s 1048576 < 0
  · have d0s := decide_eq_true h0s
    simp -implicitDefEqProofs only [Tryz.f5, d0s, go_sem, h13, c13, h16, c16, h24, c24, h25, c25, h19, c19, h21, c21, h23, c23, h8, c8, h7, c7, h26, c26, h27, c27, roSB, owSB, nSp, nMl, nNt,  Bool.not_true, Bool.not_false, Nat.reduceAdd, Nat.reduceMul, Nat.reduceLeDiff, Nat.reduceEqDiff, reduceCtorEq, Nat.reduceSub, Int.reduceNeg, Nat.reduceMod, Nat.reduceBEq, Nat.reduceLT]
    repeat' (first | with_reducible apply And.intro | with_reducible intro _ | ((first | refine brB_split (fun hb => ?_) (fun hb => ?_) | refine aPickB_split (fun hb => ?_) (fun hb => ?_) | refine gB_split (fun hb => ?_) (fun hb => ?_) | refine adB_split (fun hb => ?_) (fun hb => ?_)) <;> simp -implicitDefEqProofs only [hb, go_sem, h13, c13, h16, c16, h24, c24, h25, c25, h19, c19, h21, c21, h23, c23, h8, c8, h7, c7, h26, c26, h27, c27, roSB, owSB, nSp, nMl, nNt,  Bool.not_true, Bool.not_false, Nat.reduceAdd, Nat.reduceMul, Nat.reduceLeDiff, Nat.reduceEqDiff, reduceCtorEq, Nat.reduceSub, Int.reduceNeg, Nat.reduceMod, Nat.reduceBEq, Nat.reduceLT] <;> try simp only [qa, qb, qc, qd, qe, qf, qg, bOf_t, bOf_f] at hb))
    all_goals first | rfl | omega | skip
  · have d0s := decide_eq_false h0s
    have ho0 : OkSp s := szSp_ok s (1048576) (by omega) (by omega) (by omega)
    have hz0 := szSp_le s (1048576)
    by_cases h1s : szNt n (szSp s 1048576) < 0
    · have d1s := decide_eq_true h1s
      simp -implicitDefEqProofs only [Tryz.f5, d0s, d1s, go_sem, h13, c13, h16, c16, h24, c24, h25, c25, h19, c19, h21, c21, h23, c23, h8, c8, h7, c7, h26, c26, h27, c27, roSB, owSB, nSp, nMl, nNt,  Bool.not_true, Bool.not_false, Nat.reduceAdd, Nat.reduceMul, Nat.reduceLeDiff, Nat.reduceEqDiff, reduceCtorEq, Nat.reduceSub, Int.reduceNeg, Nat.reduceMod, Nat.reduceBEq, Nat.reduceLT]
      repeat' (first | with_reducible apply And.intro | with_reducible intro _ | ((first | refine brB_split (fun hb => ?_) (fun hb => ?_) | refine aPickB_split (fun hb => ?_) (fun hb => ?_) | refine gB_split (fun hb => ?_) (fun hb => ?_) | refine adB_split (fun hb => ?_) (fun hb => ?_)) <;> simp -implicitDefEqProofs only [hb, go_sem, h13, c13, h16, c16, h24, c24, h25, c25, h19, c19, h21, c21, h23, c23, h8, c8, h7, c7, h26, c26, h27, c27, roSB, owSB, nSp, nMl, nNt,  Bool.not_true, Bool.not_false, Nat.reduceAdd, Nat.reduceMul, Nat.reduceLeDiff, Nat.reduceEqDiff, reduceCtorEq, Nat.reduceSub, Int.reduceNeg, Nat.reduceMod, Nat.reduceBEq, Nat.reduceLT] <;> try simp only [qa, qb, qc, qd, qe, qf, qg, bOf_t, bOf_f] at hb))
      all_goals first | rfl | omega | skip
    · have d1s := decide_eq_false h1s
      have ho1 : OkNt n := szNt_ok n (szSp s 1048576) (by omega) (by omega) (by omega)
      have hz1 := szNt_le n (szSp s 1048576)
      have hr1 : OkSp (NDo s n).1 := NDo_ok ho0 ho1
      have hb0 := fSp_bound ho0
      have hb1 := fSp_bound hr1
      obtain ⟨⟨r, b⟩, hr⟩ : ∃ x, x = NDo s n := ⟨_, rfl⟩
      rw [← hr] at hr1 hb1
      dsimp only at hr1 hb1
      have hr' := hr.symm
      have hn0 : 1 ≤ fSp s 1 := fSp_inc s 1
      have hn1 : 1 ≤ fSp r 1 := fSp_inc r 1
      have hm : hSp ⟨r.last, mkS mIm eIm 1 r.items⟩ 1 = fSp r 1 := hSp_n r 1 (by decide)
      have hi : fSp ⟨r.last, mkS mIm eIm 1 r.items⟩ 1 = fSp r 1 := by unfold fSp; exact eS_idem mIm_idem r.items 1
      have hq0 := fNt_bound ho1 (fSp s 1)
      have hq1 := fNt_inc n (fSp s 1)
      simp -implicitDefEqProofs only [Tryz.f5, d0s, d1s, decide_true, go_sem, hr', hm, hi, h13, c13, h16, c16, h24, c24, h25, c25, h19, c19, h21, c21, h23, c23, h8, c8, h7, c7, h26, c26, h27, c27, roSB, owSB, nSp, nMl, nNt,  Bool.not_true, Bool.not_false, Nat.reduceAdd, Nat.reduceMul, Nat.reduceLeDiff, Nat.reduceEqDiff, reduceCtorEq, Nat.reduceSub, Int.reduceNeg, Nat.reduceMod, Nat.reduceBEq, Nat.reduceLT]
      repeat' (first | with_reducible apply And.intro | with_reducible intro _ | ((first | refine brB_split (fun hb => ?_) (fun hb => ?_) | refine aPickB_split (fun hb => ?_) (fun hb => ?_) | refine gB_split (fun hb => ?_) (fun hb => ?_) | refine adB_split (fun hb => ?_) (fun hb => ?_)) <;> simp -implicitDefEqProofs only [hb, go_sem, hr', hm, hi, h13, c13, h16, c16, h24, c24, h25, c25, h19, c19, h21, c21, h23, c23, h8, c8, h7, c7, h26, c26, h27, c27, roSB, owSB, nSp, nMl, nNt,  Bool.not_true, Bool.not_false, Nat.reduceAdd, Nat.reduceMul, Nat.reduceLeDiff, Nat.reduceEqDiff, reduceCtorEq, Nat.reduceSub, Int.reduceNeg, Nat.reduceMod, Nat.reduceBEq, Nat.reduceLT] <;> try simp only [qa, qb, qc, qd, qe, qf, qg, bOf_t, bOf_f] at hb))
      all_goals first | rfl | omega | assumption | exact absurd rfl (by assumption) | (simp at *; done) | skip
      all_goals trace_state

end Go.V
namespace Go.V
open Go Go.Proofs Go.ChangeShapes Go.WideShapes Go.ChangeAt Go.RowKit
set_option maxRecDepth 100000
section
variable {H : Type} {enc : TypeId × Value → H} {W : World} {P : Program}

/-- Every block of it. -/
def pW (W : World) : Nat → Prop := fun b => b < W.heap.size
/-- Whatever is read at this type reads as such cells. -/
def Rd (P : Program) (W : World) (enc : TypeId × Value → H) (t : TypeId) (q : List T → Prop) : Prop :=
  ∀ (n : Nat) (cs : List Value) (x : DataW H × List MemPlace), DataW.trod enc P W 0 (fun _ => true) true n t cs = some x → ∃ ts, q ts ∧ RoL W (pW W) ts cs

theorem Rd.str {t : TypeId} (u : P.underlying t = some .string) : Rd P W enc t fun ts => ∃ s, ts = [.v (.string s)] := fun n cs x h => by
  obtain ⟨s, rfl, _, hs⟩ := DataW.trod_string u h
  exact ⟨_, ⟨s, rfl⟩, .cons _ _ _ _ (.v _ hs) .nil⟩
theorem Rd.int {t : TypeId} (u : P.underlying t = some (.int .i64)) : Rd P W enc t fun ts => ∃ k, ts = [.v (.int .i64 k)] := fun n cs x h => by
  obtain ⟨k, rfl, _, hs⟩ := DataW.trod_int u h
  exact ⟨_, ⟨k, rfl⟩, .cons _ _ _ _ (.v _ trivial) .nil⟩
/-- A field of a struct. -/
theorem fieldAt {fs : Array Field} {l : List (TypeId × Nat)} (hl : (fs.toList.map fun f => (f.type, f.offset)) = l) {i : Nat} {t : TypeId} {o : Nat} (hi : l[i]? = some (t, o)) : ∃ f, fs[i]? = some f ∧ f.type = t ∧ f.offset = o := by
  rw [← hl, List.getElem?_map] at hi
  cases hf : fs.toList[i]? with
  | none => rw [hf] at hi; cases hi
  | some f =>
    rw [hf] at hi
    simp only [Option.map_some, Option.some.injEq, Prod.mk.injEq] at hi
    exact ⟨f, by rw [← Array.getElem?_toList]; exact hf, hi.1, hi.2⟩
theorem Rd.field {t : TypeId} {fs : Array Field} (u : P.underlying t = some (.struct fs)) {n : Nat} {cs : List Value} {x : DataW H × List MemPlace} (h : DataW.trod enc P W 0 (fun _ => true) true n t cs = some x)
    {l : List (TypeId × Nat)} (hl : (fs.toList.map fun f => (f.type, f.offset)) = l) {i : Nat} {ft : TypeId} {o k : Nat} (hi : l[i]? = some (ft, o)) (hk : P.cellsOf ft = k) {q : List T → Prop} (hr : Rd P W enc ft q) :
    ∃ ts, q ts ∧ RoL W (pW W) ts ((cs.drop o).take k) := by
  obtain ⟨xs, m, rfl, _, _, hxs, hf⟩ := DataW.trod_struct u h
  obtain ⟨f, h1, h2, h3⟩ := fieldAt hl hi
  have h4 := hf i f h1
  rw [h2, h3, hk] at h4
  have hlt : i < xs.length := by
    rw [hxs]
    exact (Array.getElem?_eq_some_iff.1 h1).1
  rw [List.getElem?_eq_getElem hlt] at h4
  exact hr _ _ _ h4
theorem Rd.len {t : TypeId} {fs : Array Field} (u : P.underlying t = some (.struct fs)) {n : Nat} {cs : List Value} {x : DataW H × List MemPlace} (h : DataW.trod enc P W 0 (fun _ => true) true n t cs = some x) : cs.length = P.cellsOf t := by
  obtain ⟨xs, m, rfl, _, h3, _, _⟩ := DataW.trod_struct u h
  exact h3
theorem Rd.slice {α : Type} (E : Enc α) {t e : TypeId} (u : P.underlying t = some (.slice e)) (hn : P.cellsOf e = E.n) (h0 : 0 < E.n) (he : Rd P W enc e fun ts => ∃ a, ts = E.enc a) :
    Rd P W enc t fun ts => ∃ xs : List α, ts = [.sl E.n (xs.map E.enc)] := fun n cs x h => by
  rcases DataW.trod_slice u h with ⟨rfl, _⟩ | ⟨a, len, cap, elems, rest, m, rfl, rfl, _, _, hlc, hcm, hel, hes, _⟩
  · exact ⟨_, ⟨[], rfl⟩, .cons _ _ _ _ (.nil _) .nil⟩
  · rw [hn] at hes
    have key : ∀ k, k ≤ len → ∃ (xs : List α) (vs : List Value), xs.length = k ∧ vs.length = k * E.n ∧ RoL W (pW W) (xs.map E.enc).flatten vs ∧ (0 < k → a.block < W.heap.size) ∧ ∀ j v, vs[j]? = some v → W.cell? (a.add j) = some v := fun k => by
      induction k with
      | zero => exact fun _ => ⟨[], [], rfl, by simp, .nil, fun h => absurd h (Nat.lt_irrefl _), fun j v hj => by simp at hj⟩
      | succ k ih =>
        intro hk
        obtain ⟨xs, vs, h1, h2, h3, h4, h5⟩ := ih (by omega)
        have h6 := hes k (by omega)
        rw [List.getElem?_eq_getElem (by omega)] at h6
        obtain ⟨cs, h7, h8⟩ := Option.bind_eq_some_iff.1 h6
        obtain ⟨ts, ⟨y, rfl⟩, h9⟩ := he _ _ _ h8
        obtain ⟨q1, q2, q3⟩ := World.cells?_some h7
        have hb : a.block < W.heap.size := by
          have := World.cells?_block h7 h0
          rwa [block_add] at this
        refine ⟨xs ++ [y], vs ++ cs, by simp [h1], ?_, ?_, fun _ => hb, fun j v hj => ?_⟩
        · have : cs.length = E.n := by rw [← h9.len, E.len]
          rw [List.length_append, h2, this, Nat.succ_mul]
        · rw [List.map_append, List.flatten_append]
          exact h3.append (by simpa using h9)
        · by_cases hj2 : j < vs.length
          · rw [List.getElem?_append_left hj2] at hj
            exact h5 j v hj
          · rw [List.getElem?_append_right (by omega)] at hj
            have hjl : j - vs.length < E.n := by
              have := (List.getElem?_eq_some_iff.1 hj).1
              have h10 : cs.length = E.n := by rw [← h9.len, E.len]
              omega
            have := q3 (j - vs.length) hjl
            rw [add_add'] at this
            rw [show j = k * E.n + (j - vs.length) from by omega, this]
            exact hj
    obtain ⟨xs, vs, h1, h2, h3, h4, h5⟩ := key len (Nat.le_refl _)
    refine ⟨_, ⟨xs, rfl⟩, .cons _ _ _ _ (.sl E.n _ a len cap vs (by simp [h1]) hlc hcm (fun hne => ?_) (fun c hc => ?_) h5 h3) .nil⟩
    · refine h4 ?_
      rcases Nat.eq_zero_or_pos len with h | h
      · exact absurd (by rw [List.eq_nil_of_length_eq_zero (h1.trans h)]; rfl) hne
      · exact h
    · obtain ⟨y, _, rfl⟩ := List.mem_map.1 hc
      exact E.len y
/-- A list of cells, cut. -/
theorem RoL.cut {W : World} {pr : Nat → Prop} {ts ts' : List T} {cs : List Value} (o k : Nat) (h1 : RoL W pr ts ((cs.drop o).take k)) (h2 : RoL W pr ts' (cs.drop (o + k))) : RoL W pr (ts ++ ts') (cs.drop o) := by
  have e : cs.drop o = (cs.drop o).take k ++ cs.drop (o + k) := by rw [← List.drop_drop, List.take_append_drop]
  rw [e]
  exact h1.append h2
theorem RoL.stop {W : World} {pr : Nat → Prop} {cs : List Value} {n : Nat} (h : cs.length = n) : RoL W pr [] (cs.drop n) := by
  rw [List.drop_of_length_le (by omega)]
  exact .nil
end
end Go.V
namespace Go.Proofs.YtndaghjcdacjgaaGreatDoor
open Go Go.Proofs Go.ChangeShapes Go.WideShapes Go.ChangeAt Go.RowKit
set_option maxRecDepth 100000
theorem own : ownKnob Tryz.prog.godebug = none := by kernel_rfl
/-- The cells that hold such data. -/
def flatD : Nat → DataW Unit → List Value
  | 0, _ => []
  | _ + 1, .lit (.int k v) => [.int k v]
  | n + 1, .agg xs => xs.flatMap (flatD n)
  | _ + 1, _ => []
noncomputable def gOf (n : String) : Nat := (Tryz.prog.globalNamed n).getD 0
noncomputable def layAt (n : String) (d : DataW Unit) (h : Array Obj) : Array Obj := h.modify (gOf n) fun
  | .cells _ t frozen => .cells (flatD 5 d).toArray t frozen
  | o => o
noncomputable def laidWorld (os : Os) : World :=
  { World.holding Tryz.prog os ⟨#[], #[], []⟩ with heap := layAt "unicode/utf8.first" Rows.laid_unicode_utf8_first (layAt "unicode/utf8.acceptRanges" Rows.laid_unicode_utf8_acceptRanges (World.holding Tryz.prog os ⟨#[], #[], []⟩).heap) }
noncomputable def args0 : Array Value := #[.agg #[.int .i64 0, .slice none 0 0], .agg #[.int .i64 0, .int .i64 0, .string ⟨#[]⟩, .string ⟨#[]⟩, .int .i64 0, .string ⟨#[]⟩, .string ⟨#[]⟩, .slice none 0 0, .slice none 0 0]]
theorem laid_met (os : Os) : laidMet Tryz.prog Rows.fnExactNoteDoRow.laid ((laidWorld os).forCall (fun _ _ => 0) ⟨#[], args0, []⟩).memory :=
  laidMet_of_run' 8 (by kernel_rfl) (by kernel_rfl)
theorem reads (os : Os) {H : Type} (enc : TypeId × Value → H) : ∃ places, DataW.whole enc Tryz.prog ((laidWorld os).forCall (fun _ _ => 0) ⟨#[], args0, []⟩).memory Tryz.f5.params.toList Rows.fnExactNoteDoSpec.vars false args0.toList 8 = some ([.agg [.lit (.int .i64 0), .nil], .agg [.lit (.int .i64 0), .lit (.int .i64 0), .agg [.lit (.string []), .lit (.string [])], .lit (.int .i64 0), .agg [.agg [.lit (.string []), .lit (.string [])], .nil, .nil]]], [], places) :=
  ⟨[], by kernel_rfl⟩
theorem func5 : Tryz.prog.funcs[5]? = some Tryz.f5 := by kernel_rfl
/-- What every call gives. -/
def Every : Prop := ∀ (H : Type) (enc : TypeId × Value → H) (W : World) (base : Nat) (args : Array Value) (ds gs : List (DataW H)) (before : List MemPlace)
    (_ : ∀ (j : Nat) t v, Tryz.f5.params[j]? = some t → args[j]? = some v → Value.okWide Tryz.prog W .any base t v)
    (_ : DataW.Whole enc Tryz.prog Tryz.f5.params.toList Rows.fnExactNoteDoSpec.vars false W args.toList ds gs before) (_ : W.ShapedOpen Tryz.prog),
    Calls Tryz.prog 5 args W fun e W' => ∃ v, e = .returned v ∧ Rows.fnExactNoteDoSpec.post enc Tryz.prog Tryz.f5 false true false false W args v W'
theorem lifted (hE : Every) (os : Os) (started : os.Started) (H : Type) (enc : TypeId × Value → H) (F : Stop.Interp) :
    ReturnsInHanded {} Tryz.checked os 5 .any ((OpenSpec.ofChange Rows.fnExactNoteDoSpec).preRow enc Tryz.prog Tryz.f5 Rows.fnExactNoteDoRow.domain false Rows.fnExactNoteDoRow.laid) (((OpenSpec.ofChange Rows.fnExactNoteDoSpec).at F).post enc Tryz.prog Tryz.f5 false true false false) := by
  obtain ⟨places, hx⟩ := reads os enc
  refine returnsInHanded_of_row (C := Tryz.checked) (s := OpenSpec.ofChange Rows.fnExactNoteDoSpec) own started (by kernel_rfl) func5
    (witness_row_at (enc := enc) (C := Tryz.checked) false (laidWorld os) args0 rfl (by kernel_rfl) (by kernel_rfl) (by kernel_rfl)
      (OpenSpec.preRow_of_cond 8 hx (by kernel_rfl) (fun k hk => by cases hk) (by kernel_rfl) (laid_met os))) ?_
  intro W base args ds gs before hval hW _ _ _ _ hS _
  exact hE H enc W base args ds gs before hval hW hS
theorem said (hE : Every) : Rows.FnExactNoteDoSaid :=
  OpenClaim.holds_of_cond 5 Tryz.f5 rfl rfl rfl rfl rfl rfl rfl ⟨rfl, rfl, rfl, rfl, rfl⟩ rfl rfl rfl rfl rfl (by kernel_rfl) func5 (by kernel_rfl)
    (of_decide_eq_true (by kernel_rfl)) (by unfold Func.isWrapper; first | (rw [if_pos (by decide +kernel)]; kernel_rfl) | (rw [if_neg (by decide +kernel)]; exact ⟨rfl, rfl⟩))
    (fun os started H enc _ F => by rw [OpenClaim.pre_eq_preRow]; exact lifted hE os started H enc F)
theorem params5 : Tryz.f5.params = #[45, 60] := rfl
/-- No parameter wants a stand-in; the program's own looks are off. -/
theorem plain (f : FuncId) (fn : Func) (hf : Tryz.pinned.checked.prog.funcNamed "loop.example/satchel/laws.FnExactNoteDo" = some f) (hfn : Tryz.pinned.checked.prog.funcs[f]? = some fn) :
    false = Tryz.pinned.checked.prog.looks [] ∧ ∀ (j : Nat) t, fn.params[j]? = some t → Tryz.pinned.checked.prog.wantsStandIn t = false := by
  obtain rfl : f = 5 := Option.some.inj ((show Tryz.prog.funcNamed "loop.example/satchel/laws.FnExactNoteDo" = some 5 by kernel_rfl).symm.trans hf) |>.symm
  obtain rfl : fn = Tryz.f5 := (Option.some.inj (func5.symm.trans hfn)).symm
  refine ⟨by kernel_rfl, fun j t ht => ?_⟩
  rw [params5] at ht
  have hm : t ∈ [45, 60] := by simpa using Array.mem_of_getElem? ht
  have hall : ([45, 60].all fun u => !Tryz.prog.wantsStandIn u) = true := by kernel_rfl
  exact (show Tryz.prog.wantsStandIn t = false by simpa using List.all_eq_true.1 hall t hm)
theorem card_of (hE : Every) : Rows.FnExactNoteDoCardSaid :=
  Claim7.holds_tied_plain_at .later [] _ _ _ _ (said hE) (fun _ h => by cases h) (by kernel_rfl) (fun _ h => by cases h) fnExactNoteDo_row_tie rfl ⟨rfl, rfl⟩ (by kernel_rfl) rfl plain (by kernel_rfl)
end Go.Proofs.YtndaghjcdacjgaaGreatDoor
namespace Go.V
open Go Go.Proofs Go.ChangeShapes Go.WideShapes Go.ChangeAt Go.RowKit
set_option maxRecDepth 100000
set_option linter.unusedVariables false
set_option maxHeartbeats 4000000 in
theorem con5 (m : Int) (s : Sp) (n : Nt) : Con Tryz.prog m 5 ((lc ESp.ag (lc ENt.ag l0)).enc (s, n, ())) ((lc ESp.ag (lc ENt.ag l0)).enc (s, n, ())) (.t (.v (.bool true))) := by
  have g0 : GOk Tryz.prog (Gof m []) ∧ GDet (Gof m []) := GOk_nil
  have g1 := GOk_cons g0 (good47 g0)
  have g2 := GOk_cons g1 (good138 g1 rfl)
  have g3 := GOk_cons g2 (good121 g2 rfl)
  have g4 := GOk_cons g3 (good49 g3)
  have g5 := GOk_cons g4 (good92 g4 rfl rfl rfl)
  have g6 := GOk_cons g5 (good46 g5 rfl)
  have g7 := GOk_cons g6 (good13 g6 rfl)
  have g8 := GOk_cons g7 (good55 g7)
  have g9 := GOk_cons g8 (good139 g8 rfl)
  have g10 := GOk_cons g9 (good123 g9 rfl)
  have g11 := GOk_cons g10 (good57 g10)
  have g12 := GOk_cons g11 (good94 g11 rfl rfl rfl)
  have g13 := GOk_cons g12 (good54 g12 rfl)
  have g14 := GOk_cons g13 (good16 g13 rfl)
  have g15 := GOk_cons g14 (good48 g14 rfl)
  have g16 := GOk_cons g15 (good14 g15 rfl rfl rfl)
  have g17 := GOk_cons g16 (good24 g16 rfl rfl)
  have g18 := GOk_cons g17 (good56 g17 rfl)
  have g19 := GOk_cons g18 (good17 g18 rfl rfl rfl)
  have g20 := GOk_cons g19 (good25 g19 rfl rfl)
  have g21 := GOk_cons g20 (good61 g20)
  have g22 := GOk_cons g21 (good140 g21 rfl)
  have g23 := GOk_cons g22 (good124 g22 rfl)
  have g24 := GOk_cons g23 (good63 g23)
  have g25 := GOk_cons g24 (good95 g24 rfl rfl rfl)
  have g26 := GOk_cons g25 (good60 g25 rfl)
  have g27 := GOk_cons g26 (good19 g26 rfl)
  have g28 := GOk_cons g27 (good96 g27)
  have g29 := GOk_cons g28 (good97 g28 rfl)
  have g30 := GOk_cons g29 (good66 g29 rfl)
  have g31 := GOk_cons g30 (good64 g30 rfl rfl rfl)
  have g32 := GOk_cons g31 (good21 g31 rfl)
  have g33 := GOk_cons g32 (good98 g32 rfl)
  have g34 := GOk_cons g33 (good99 g33 rfl)
  have g35 := GOk_cons g34 (good67 g34 rfl rfl rfl)
  have g36 := GOk_cons g35 (good23 g35 rfl)
  have g37 := GOk_cons g36 (good51 g36)
  have g38 := GOk_cons g37 (good111 g37 rfl)
  have g39 := GOk_cons g38 (good128 g38)
  have g40 := GOk_cons g39 (good112 g39 rfl rfl)
  have g41 := GOk_cons g40 (good80 g40 rfl rfl)
  have g42 := GOk_cons g41 (good110 g41 rfl rfl)
  have g43 := GOk_cons g42 (good79 g42)
  have g44 := GOk_cons g43 (good122 g43)
  have g45 := GOk_cons g44 (good93 g44 rfl)
  have g46 := GOk_cons g45 (good78 g45 rfl rfl rfl rfl rfl)
  have g47 := GOk_cons g46 (good34 g46 rfl rfl)
  have g48 := GOk_cons g47 (good50 g47 rfl rfl rfl rfl)
  have g49 := GOk_cons g48 (good35 g48 rfl rfl rfl rfl)
  have g50 := GOk_cons g49 (good81 g49)
  have g51 := GOk_cons g50 (good36 g50 rfl)
  have g52 := GOk_cons g51 (good52 g51)
  have g53 := GOk_cons g52 (good53 g52)
  have g54 := GOk_cons g53 (good15 g53 rfl rfl rfl rfl rfl rfl)
  have g55 := GOk_cons g54 (good113 g54)
  have g56 := GOk_cons g55 (good114 g55)
  have g57 := GOk_cons g56 (good101 g56 rfl)
  have g58 := GOk_cons g57 (good82 g57 rfl rfl rfl rfl rfl)
  have g59 := GOk_cons g58 (good126 g58)
  have g60 := GOk_cons g59 (good102 g59 rfl rfl)
  have g61 := GOk_cons g60 (good83 g60 rfl rfl rfl rfl rfl rfl)
  have g62 := GOk_cons g61 (good37 g61 rfl rfl rfl)
  have g63 := GOk_cons g62 (good8 g62 rfl rfl rfl rfl)
  have g64 := GOk_cons g63 (good40 g63)
  have g65 := GOk_cons g64 (good132 g64)
  have g66 := GOk_cons g65 (good142 g65)
  have g67 := GOk_cons g66 (good133 g66 rfl)
  have g68 := GOk_cons g67 (good134 g67 rfl)
  have g69 := GOk_cons g68 (good118 g68 rfl rfl rfl)
  have g70 := GOk_cons g69 (good88 g69 rfl rfl)
  have g71 := GOk_consX g70 (good153 m)
  have g72 := GOk_cons g71 (good147 g71 rfl)
  have g73 := GOk_consX g72 (good161 m)
  have g74 := GOk_cons g73 (good159 g73 rfl)
  have g75 := GOk_consX g74 (good158 m)
  have g76 := GOk_cons g75 (good157 g75)
  have g77 := GOk_cons g76 (good162 g76)
  have g78 := GOk_cons g77 (good160 g77 rfl)
  have g79 := GOk_cons g78 (good154 g78 rfl rfl rfl rfl)
  have g80 := GOk_cons g79 (good148 g79 rfl)
  have g81 := GOk_cons g80 (good137 g80 rfl rfl)
  have g82 := GOk_cons g81 (good119 g81 rfl)
  have g83 := GOk_cons g82 (good89 g82 rfl rfl)
  have g84 := GOk_cons g83 (good41 g83 rfl rfl)
  have g85 := GOk_cons g84 (good44 g84 rfl)
  have g86 := GOk_cons g85 (good45 g85)
  have g87 := GOk_cons g86 (good85 g86 rfl rfl)
  have g88 := GOk_cons g87 (good86 g87)
  have g89 := GOk_cons g88 (good117 g88)
  have g90 := GOk_cons g89 (good116 g89 rfl)
  have g91 := GOk_cons g90 (good129 g90 rfl)
  have g92 := GOk_cons g91 (good115 g91 rfl)
  have g93 := GOk_cons g92 (good87 g92 rfl)
  have g94 := GOk_cons g93 (good39 g93 rfl rfl rfl rfl rfl rfl)
  have g95 := GOk_cons g94 (good10 g94 rfl rfl)
  have g96 := GOk_cons g95 (good42 g95 rfl)
  have g97 := GOk_cons g96 (good90 g96 rfl)
  have g98 := GOk_cons g97 (good120 g97 rfl)
  have g99 := GOk_cons g98 (good91 g98 rfl)
  have g100 := GOk_cons g99 (good43 g99 rfl rfl rfl rfl rfl)
  have g101 := GOk_cons g100 (good12 g100 rfl rfl rfl rfl rfl rfl)
  have g102 := GOk_cons g101 (good73 g101)
  have g103 := GOk_cons g102 (good59 g102)
  have g104 := GOk_cons g103 (good31 g103 rfl rfl)
  have g105 := GOk_cons g104 (good58 g104)
  have g106 := GOk_cons g105 (good18 g105 rfl rfl rfl rfl rfl rfl)
  have g107 := GOk_cons g106 (good107 g106)
  have g108 := GOk_cons g107 (good106 g107 rfl)
  have g109 := GOk_cons g108 (good109 g108)
  have g110 := GOk_cons g109 (good108 g109 rfl)
  have g111 := GOk_cons g110 (good74 g110 rfl rfl)
  have g112 := GOk_cons g111 (good75 g111)
  have g113 := GOk_cons g112 (good76 g112)
  have g114 := GOk_cons g113 (good32 g113 rfl rfl rfl rfl rfl)
  have g115 := GOk_cons g114 (good77 g114 rfl)
  have g116 := GOk_cons g115 (good33 g115 rfl rfl rfl rfl rfl)
  have g117 := GOk_cons g116 (good7 g116 rfl rfl rfl rfl rfl rfl)
  have g118 := GOk_cons g117 (good62 g117 rfl)
  have g119 := GOk_cons g118 (good20 g118 rfl rfl rfl)
  have g120 := GOk_cons g119 (good26 g119 rfl rfl)
  have g121 := GOk_cons g120 (good65 g120 rfl)
  have g122 := GOk_cons g121 (good22 g121 rfl rfl)
  have g123 := GOk_cons g122 (good27 g122 rfl)
  have hg := good5 g123 rfl rfl rfl rfl rfl rfl rfl rfl rfl rfl rfl
  obtain ⟨res, h1, _, h3, _⟩ := hg.ro ((lc ESp.ag (lc ENt.ag l0)).enc (s, n, ())) (fun r => r = .t (.v (.bool true))) (by
    show c5 _ _
    rw [c5, ctR_eq, (lc ESp.ag (lc ENt.ag l0)).ed]
    exact ⟨trivial, rfl⟩)
  rw [h1] at h3
  exact h3

section
variable {H : Type} {enc : TypeId × Value → H} {W : World}
noncomputable def fsOf (t : TypeId) : Array Field := match Tryz.prog.underlying t with | some (.struct fs) => fs | _ => #[]
theorem v3 : Tryz.prog.underlying 3 = some (.int .i64) := by kernel_rfl
theorem w3 : Tryz.prog.cellsOf 3 = 1 := by kernel_rfl
theorem rdInt : Rd Tryz.prog W enc 3 fun ts => ∃ a, ts = EInt.enc a := fun n cs x h => Rd.int v3 n cs x h
theorem v9 : Tryz.prog.underlying 9 = some .string := by kernel_rfl
theorem w9 : Tryz.prog.cellsOf 9 = 1 := by kernel_rfl
theorem rdStr : Rd Tryz.prog W enc 9 fun ts => ∃ a, ts = EStr.enc a := fun n cs x h => Rd.str v9 n cs x h
theorem v46 : Tryz.prog.underlying 46 = some (.struct (fsOf 46)) := by kernel_rfl
theorem l46 : ((fsOf 46).toList.map fun f => (f.type, f.offset)) = [(9, 0), (9, 1)] := by kernel_rfl
theorem w46 : Tryz.prog.cellsOf 46 = 2 := by kernel_rfl
theorem rdAd : Rd Tryz.prog W enc 46 fun ts => ∃ a, ts = EAd.enc a := fun n cs x h => by
  have hl := Rd.len v46 h
  rw [w46] at hl
  obtain ⟨_, ⟨a0, rfl⟩, h0⟩ := Rd.field v46 h l46 (i := 0) rfl w9 (Rd.str v9)
  obtain ⟨_, ⟨a1, rfl⟩, h1⟩ := Rd.field v46 h l46 (i := 1) rfl w9 (Rd.str v9)
  exact ⟨_, ⟨⟨a0, a1⟩, rfl⟩, (RoL.cut 0 1 h0 (RoL.cut 1 1 h1 (RoL.stop hl)))⟩
theorem v157 : Tryz.prog.underlying 157 = some (.struct (fsOf 157)) := by kernel_rfl
theorem l157 : ((fsOf 157).toList.map fun f => (f.type, f.offset)) = [(46, 0), (3, 2), (3, 3)] := by kernel_rfl
theorem w157 : Tryz.prog.cellsOf 157 = 4 := by kernel_rfl
theorem rdRc : Rd Tryz.prog W enc 157 fun ts => ∃ a, ts = ERc.enc a := fun n cs x h => by
  have hl := Rd.len v157 h
  rw [w157] at hl
  obtain ⟨_, ⟨a0, rfl⟩, h0⟩ := Rd.field v157 h l157 (i := 0) rfl w46 (rdAd)
  obtain ⟨_, ⟨a1, rfl⟩, h1⟩ := Rd.field v157 h l157 (i := 1) rfl w3 (Rd.int v3)
  obtain ⟨_, ⟨a2, rfl⟩, h2⟩ := Rd.field v157 h l157 (i := 2) rfl w3 (Rd.int v3)
  exact ⟨_, ⟨⟨a0, a1, a2⟩, rfl⟩, (RoL.cut 0 2 h0 (RoL.cut 2 1 h1 (RoL.cut 3 1 h2 (RoL.stop hl))))⟩
theorem v119 : Tryz.prog.underlying 119 = some (.slice 157) := by kernel_rfl
theorem w119 : Tryz.prog.cellsOf 119 = 1 := by kernel_rfl
theorem v29 : Tryz.prog.underlying 29 = some (.slice 9) := by kernel_rfl
theorem w29 : Tryz.prog.cellsOf 29 = 1 := by kernel_rfl
theorem v121 : Tryz.prog.underlying 121 = some (.struct (fsOf 121)) := by kernel_rfl
theorem l121 : ((fsOf 121).toList.map fun f => (f.type, f.offset)) = [(3, 0), (46, 1), (119, 3), (29, 4)] := by kernel_rfl
theorem w121 : Tryz.prog.cellsOf 121 = 5 := by kernel_rfl
theorem rdIm : Rd Tryz.prog W enc 121 fun ts => ∃ a, ts = EIm.enc a := fun n cs x h => by
  have hl := Rd.len v121 h
  rw [w121] at hl
  obtain ⟨_, ⟨a0, rfl⟩, h0⟩ := Rd.field v121 h l121 (i := 0) rfl w3 (Rd.int v3)
  obtain ⟨_, ⟨a1, rfl⟩, h1⟩ := Rd.field v121 h l121 (i := 1) rfl w46 (rdAd)
  obtain ⟨_, ⟨a2, rfl⟩, h2⟩ := Rd.field v121 h l121 (i := 2) rfl w119 (Rd.slice ERc v119 w157 (by decide) rdRc)
  obtain ⟨_, ⟨a3, rfl⟩, h3⟩ := Rd.field v121 h l121 (i := 3) rfl w29 (Rd.slice EStr v29 w9 (by decide) rdStr)
  exact ⟨_, ⟨⟨a0, a1, a2, a3⟩, rfl⟩, (RoL.cut 0 1 h0 (RoL.cut 1 2 h1 (RoL.cut 3 1 h2 (RoL.cut 4 1 h3 (RoL.stop hl)))))⟩
theorem v43 : Tryz.prog.underlying 43 = some (.slice 121) := by kernel_rfl
theorem w43 : Tryz.prog.cellsOf 43 = 1 := by kernel_rfl
theorem v45 : Tryz.prog.underlying 45 = some (.struct (fsOf 45)) := by kernel_rfl
theorem l45 : ((fsOf 45).toList.map fun f => (f.type, f.offset)) = [(3, 0), (43, 1)] := by kernel_rfl
theorem w45 : Tryz.prog.cellsOf 45 = 2 := by kernel_rfl
theorem rdSp : Rd Tryz.prog W enc 45 fun ts => ∃ a, ts = ESp.enc a := fun n cs x h => by
  have hl := Rd.len v45 h
  rw [w45] at hl
  obtain ⟨_, ⟨a0, rfl⟩, h0⟩ := Rd.field v45 h l45 (i := 0) rfl w3 (Rd.int v3)
  obtain ⟨_, ⟨a1, rfl⟩, h1⟩ := Rd.field v45 h l45 (i := 1) rfl w43 (Rd.slice EIm v43 w121 (by decide) rdIm)
  exact ⟨_, ⟨⟨a0, a1⟩, rfl⟩, (RoL.cut 0 1 h0 (RoL.cut 1 1 h1 (RoL.stop hl)))⟩
theorem v47 : Tryz.prog.underlying 47 = some (.slice 46) := by kernel_rfl
theorem w47 : Tryz.prog.cellsOf 47 = 1 := by kernel_rfl
theorem v49 : Tryz.prog.underlying 49 = some (.struct (fsOf 49)) := by kernel_rfl
theorem l49 : ((fsOf 49).toList.map fun f => (f.type, f.offset)) = [(46, 0), (47, 2), (29, 3)] := by kernel_rfl
theorem w49 : Tryz.prog.cellsOf 49 = 4 := by kernel_rfl
theorem rdMl : Rd Tryz.prog W enc 49 fun ts => ∃ a, ts = EMl.enc a := fun n cs x h => by
  have hl := Rd.len v49 h
  rw [w49] at hl
  obtain ⟨_, ⟨a0, rfl⟩, h0⟩ := Rd.field v49 h l49 (i := 0) rfl w46 (rdAd)
  obtain ⟨_, ⟨a1, rfl⟩, h1⟩ := Rd.field v49 h l49 (i := 1) rfl w47 (Rd.slice EAd v47 w46 (by decide) rdAd)
  obtain ⟨_, ⟨a2, rfl⟩, h2⟩ := Rd.field v49 h l49 (i := 2) rfl w29 (Rd.slice EStr v29 w9 (by decide) rdStr)
  exact ⟨_, ⟨⟨a0, a1, a2⟩, rfl⟩, (RoL.cut 0 2 h0 (RoL.cut 2 1 h1 (RoL.cut 3 1 h2 (RoL.stop hl))))⟩
theorem v60 : Tryz.prog.underlying 60 = some (.struct (fsOf 60)) := by kernel_rfl
theorem l60 : ((fsOf 60).toList.map fun f => (f.type, f.offset)) = [(3, 0), (3, 1), (46, 2), (3, 4), (49, 5)] := by kernel_rfl
theorem w60 : Tryz.prog.cellsOf 60 = 9 := by kernel_rfl
theorem rdNt : Rd Tryz.prog W enc 60 fun ts => ∃ a, ts = ENt.enc a := fun n cs x h => by
  have hl := Rd.len v60 h
  rw [w60] at hl
  obtain ⟨_, ⟨a0, rfl⟩, h0⟩ := Rd.field v60 h l60 (i := 0) rfl w3 (Rd.int v3)
  obtain ⟨_, ⟨a1, rfl⟩, h1⟩ := Rd.field v60 h l60 (i := 1) rfl w3 (Rd.int v3)
  obtain ⟨_, ⟨a2, rfl⟩, h2⟩ := Rd.field v60 h l60 (i := 2) rfl w46 (rdAd)
  obtain ⟨_, ⟨a3, rfl⟩, h3⟩ := Rd.field v60 h l60 (i := 3) rfl w3 (Rd.int v3)
  obtain ⟨_, ⟨a4, rfl⟩, h4⟩ := Rd.field v60 h l60 (i := 4) rfl w49 (rdMl)
  exact ⟨_, ⟨⟨a0, a1, a2, a3, a4⟩, rfl⟩, (RoL.cut 0 1 h0 (RoL.cut 1 1 h1 (RoL.cut 2 2 h2 (RoL.cut 4 1 h3 (RoL.cut 5 4 h4 (RoL.stop hl))))))⟩
/-- The package's number, whatever it is. -/
theorem glOk_of (h : W.ShapedOpen Tryz.prog) : ∃ m, GlOk m W (pW W) := by
  obtain ⟨cs, h1, h2, h3⟩ := h.1 2 #[.int .i64 0] 3 (Nat.lt_of_lt_of_le (Nat.lt_succ_self 2) (Nat.le_of_ble_eq_true (by kernel_rfl))) (by kernel_rfl)
  obtain ⟨ts, t1, _, t3⟩ := h3 (by kernel_rfl)
  have hts : ts = [3] := Option.some.inj (t1.symm.trans (by kernel_rfl))
  subst hts
  have hsz : cs.size = 1 := h2
  have h0 : cs[0]? = some cs[0] := Array.getElem?_eq_getElem (by omega)
  obtain ⟨u, hu, hok⟩ := t3 0 _ h0
  simp at hu
  subst hu
  unfold Cell.ok at hok
  rw [v3] at hok
  generalize cs[0] = v at h0 hok
  have hb : (2 : Nat) < W.heap.size := (Array.getElem?_eq_some_iff.1 h1).1
  cases v with
  | int k n =>
    have hk : k = .i64 := hok.1
    subst hk
    refine ⟨n, .rop _ _ [.int .i64 n] (fun _ => hb) (fun j u hj => ?_) (.cons _ _ _ _ (.v _ trivial) .nil)⟩
    cases j with
    | zero =>
      simp at hj
      subst hj
      simp [World.cell?, Addr.add, glb, h1, h0]
    | succ j => simp at hj
  | _ => exact hok.elim
end
theorem every : YtndaghjcdacjgaaGreatDoor.Every := by
  intro H enc W base args ds gs before hval0 hW hS
  have hval : ∀ (j : Nat) t v, Tryz.f5.params[j]? = some t → args[j]? = some v → Value.okWide Tryz.prog W .any base t v := hval0
  have hW' := hW
  obtain ⟨p, q, hA0, hV, rfl, hfz, hnd⟩ := hW
  have hA : DataW.TrodAll enc Tryz.prog W 0 (fun _ => true) true [45, 60] args.toList ds p := hA0
  rw [YtndaghjcdacjgaaGreatDoor.params5] at hval
  obtain ⟨u0, u1, d0, d1, p0, p1, rfl, rfl, rfl, h0, h1⟩ := trodAll_two hA
  obtain ⟨rfl, rfl⟩ := trodVars_none hV
  have hlt : ∀ x ∈ (p0 ++ p1) ++ [], x.block < W.heap.size := fun x hx => hW'.lt x hx
  have k0 := h0
  obtain ⟨n0, t0⟩ := h0
  obtain ⟨_, ⟨s, rfl⟩, r0⟩ := (rdSp) _ _ _ t0
  have k1 := h1
  obtain ⟨n1, t1⟩ := h1
  obtain ⟨_, ⟨n, rfl⟩, r1⟩ := (rdNt) _ _ _ t1
  obtain ⟨cs0, rfl, _, _⟩ : ∃ cs, u0 = .agg cs ∧ cs.size = Tryz.prog.cellsOf 45 ∧ _ := by
    have := hval 0 45 u0 rfl rfl
    unfold Value.okWide at this
    rw [v45] at this
    exact this
  have r0' : RoL W (pW W) (ESp.enc s) cs0.toList := r0
  have a0 : AHas ρ0 W (pW W) (.agg ((ESp.enc s).map .t)) (.agg cs0) [] := by
    have ha : AHas ρ0 W (pW W) (.agg ((ESp.enc s).map .t)) (.agg cs0.toList.toArray) [] := .agg _ _ _ r0'.t r0'.ones
    rwa [Array.toArray_toList] at ha
  obtain ⟨cs1, rfl, _, _⟩ : ∃ cs, u1 = .agg cs ∧ cs.size = Tryz.prog.cellsOf 60 ∧ _ := by
    have := hval 1 60 u1 rfl rfl
    unfold Value.okWide at this
    rw [v60] at this
    exact this
  have r1' : RoL W (pW W) (ENt.enc n) cs1.toList := r1
  have a1 : AHas ρ0 W (pW W) (.agg ((ENt.enc n).map .t)) (.agg cs1) [] := by
    have ha : AHas ρ0 W (pW W) (.agg ((ENt.enc n).map .t)) (.agg cs1.toList.toArray) [] := .agg _ _ _ r1'.t r1'.ones
    rwa [Array.toArray_toList] at ha
  obtain ⟨m, hgl⟩ := glOk_of hS
  have hargs : AHasL ρ0 W (pW W) ((lc ESp.ag (lc ENt.ag l0)).enc (s, n, ())) [.agg cs0, .agg cs1] [] := .cons _ _ _ _ [] [] a0 (.cons _ _ _ _ [] [] a1 .nil)
  have hcall := con5 m s n W (pW W) [.agg cs0, .agg cs1] [] hgl hargs .nil (fun b hb => by cases hb) (fun b hb => hb)
  refine Calls.mono hcall fun e W' hq => ?_
  obtain ⟨v, pr', G, F, he, hfr, _, _, _, _, hv, _, _⟩ := hq
  obtain ⟨rfl, _⟩ := hv.val
  have hb : Below W.heap.size W W' := ⟨hfr.os, hfr.tape, hfr.output, hfr.size, fun k hk => hfr.block k hk (by simp)⟩
  refine ⟨_, he, _, _, _, [], p0 ++ p1, [], hW', ?_, ?_, rfl, hb.frame _, fun h => by cases h⟩
  · exact trodAll_mk1 (shut_bool (show Tryz.prog.underlying 4 = some .bool by kernel_rfl) _)
  · have := trodAll_mk2 (Below.trod (by kernel_rfl) (by kernel_rfl) (of_decide_eq_true (by kernel_rfl)) k0 hb fun x hx => hlt x (by simp [hx])) (Below.trod (by kernel_rfl) (by kernel_rfl) (of_decide_eq_true (by kernel_rfl)) k1 hb fun x hx => hlt x (by simp [hx]))
    exact this
end Go.V
namespace Go.Proofs.YtndaghjcdacjgaaGreatDoor
theorem fnExactNoteDo_card : Rows.FnExactNoteDoCardSaid := card_of Go.V.every
end Go.Proofs.YtndaghjcdacjgaaGreatDoor
