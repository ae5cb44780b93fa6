/- The row. No condition. -/
import Derived.Test.YtahogphlohnpmaaGreatDoorKA
import Derived.Shelf.Abstract
import Derived.Shelf.RegionOpenPlain
import Derived.WalkKit
import Derived.Deep.LoopGhost
import Derived.Deep.RegionLaw
import Derived.Lib.Walk
import Derived.Sort.WalkB12
import Derived.Lib.SliceRun
import Derived.Lib.SlicesDelete
import Derived.Test.YtahogphlohnpmaaGreatDoorXB
namespace Go.V
open Go Go.Proofs
set_option maxRecDepth 100000
set_option linter.unusedSimpArgs false
set_option linter.unusedVariables false
attribute [local go_sem_proc] Nat.reduceAdd Nat.reduceMul Nat.reduceLeDiff Nat.reduceEqDiff reduceCtorEq Nat.reduceSub Int.reduceNeg Nat.reduceMod Nat.reduceBEq Nat.reduceLT
attribute [local go_sem] aPickB.eq_1 aPickB.eq_2 aPick.eq_1 aBox.eq_1 aBox.eq_2 aAlloc.eq_1 aAlloc.eq_2 aLoadB.eq_1 aLoadB.eq_2 aLoadB.eq_3 aLoadB.eq_4 aLoadB.eq_5 aLoadA.eq_1 aLoadA.eq_2 aLoadA.eq_3 aLoadA.eq_4 aLoadA.eq_5 aLoadP.eq_1 aLoadP.eq_2 aLoadP.eq_3 aLoad.eq_1 aLoad.eq_2 aFAx.eq_1 aFAx.eq_2 aFAx.eq_3 aFA.eq_1 aFA.eq_2 aFx.eq_1 aF.eq_1 aF.eq_2 fld.eq_1 elT.eq_1 aIdxH.eq_1 aIdxH.eq_2 aIdxH.eq_3 aIdxH.eq_4 aIdxH.eq_5 aIdxP.eq_1 aIdxP.eq_2 aIndexAddr.eq_1 aIndexAddr.eq_2 aIndexAddr.eq_3 isStr.eq_1 aIndex.eq_1 aSlStr.eq_1 aSlRo.eq_1 aSlZ.eq_1 aSlZ.eq_2 aSlice.eq_1 aSlice.eq_2 aSlice.eq_3 bnd.eq_1 bnd.eq_2 aBuildO.eq_1 aBuildO.eq_2 aBuild.eq_1 aNewArr.eq_1 aNewArr.eq_2 aBS.eq_1 aBS.eq_2 aBuildSlice.eq_1 aBuildSlice.eq_2 aMakeSlice.eq_1 appDeep.eq_1 aApp2.eq_1 aAppend.eq_1 aAppend.eq_2 aStoreB.eq_1 aStoreA.eq_1 obFlat.eq_1 aStore2.eq_1 aStore2.eq_2 aStoreP.eq_1 aStoreP.eq_2 aStore.eq_1 aStore.eq_2 isShl.eq_1 isShl.eq_2 isBool.eq_1 aBinI.eq_1 aBinI.eq_2 aBinB.eq_1 aBinB.eq_2 aEq.eq_1 aEq.eq_2 aEq.eq_3 aEq.eq_4 aEqG.eq_1 aEqG.eq_2 aBin.eq_1 aBin.eq_2 aBin.eq_3 aBin.eq_4 aUn.eq_1 aUn.eq_2 aLenO.eq_1 aLenS.eq_1 aLenS.eq_2 aLenS.eq_3 aLenT.eq_1 aLen.eq_1 aLen.eq_2 aLen.eq_3 bytesOb.eq_1 bytesOb.eq_2 bytesOf.eq_1 bytesOf.eq_2 aNums.eq_1 aNums.eq_2 isU8.eq_1 aCvI.eq_1 aCvS.eq_1 aCvB.eq_1 aCvB.eq_2 aCvT.eq_1 aConv.eq_1 aConv.eq_2 aConv.eq_3 aConv.eq_4 aExO.eq_1 aExO.eq_2 aExtract.eq_1 aNil.eq_1 aNil.eq_2 aNil.eq_3 aCallS.eq_1 aCallS.eq_2 aCallR.eq_1 aCallR.eq_2 aCallK.eq_1 aCallK.eq_2 aCallK.eq_3 aCall.eq_1 aCall.eq_2 takeO.eq_1 AS.takeV.eq_1 AS.takeV.eq_2 AS.takeV.eq_3 AS.takeV.eq_4 AS.takeV.eq_5 AS.takeV.eq_6 AS.takeV.eq_7 AV.oldM.eq_1 AV.oldM.eq_2 AV.oldM.eq_3 AV.oldM.eq_4 AV.oldM.eq_5 AV.oldM.eq_6 AV.oldM.eq_7 AV.oldM.eq_8 AV.oldM.eq_9 AV.oldM.eq_10 AV.oldM.eq_11 AV.oldML.eq_1 AV.oldML.eq_2 subL.eq_1 subL.eq_2 back.eq_1 back.eq_2 back.eq_3 back.eq_4 backL.eq_1 backI.eq_1 backI.eq_2 backI.eq_3 backI.eq_4 backIL.eq_1 aBuiltin.eq_1 aBuiltin.eq_2 aBuiltin.eq_3 aCallee.eq_1 aCallee.eq_2 aCallee.eq_3 abin.eq_1 abin.eq_2 abin.eq_3 abin.eq_4 abin.eq_5 abin.eq_6 abin.eq_7 abin.eq_8 abin.eq_9 abin.eq_10 abin.eq_11 abin.eq_12 abin.eq_13 abin.eq_14 abin.eq_15 abin.eq_17 abin.eq_18 abin.eq_19 abin.eq_20 abin.eq_21 abin.eq_22 abin.eq_23 AS.ev.eq_1 AS.ev.eq_2 AS.ev.eq_3 AS.ev.eq_4 AS.evs.eq_1 AS.evs.eq_2 AS.evp.eq_1 AS.evp.eq_2 AS.put.eq_1 AS.put.eq_2 AS.remL.eq_1 AS.remL.eq_2 AV.has.eq_1 AV.has.eq_2 AV.has.eq_3 AV.has.eq_4 AV.has.eq_5 AV.has.eq_6 AV.has.eq_7 AV.has.eq_8 AV.has.eq_9 AV.has.eq_10 AV.has.eq_11 AV.hasL.eq_1 AV.hasL.eq_2 Ob.drop.eq_1 Ob.drop.eq_2 Ob.drop.eq_3 Ob.drop.eq_4 AV.cells.eq_1 AV.cells.eq_2 AV.cells.eq_3 AV.cells.eq_4 AV.cells.eq_5 AS.snapT.eq_1 AS.snapT.eq_2 AS.snapT.eq_3 AS.snapT.eq_4 AS.snapT.eq_5 AS.snapT.eq_6 AS.snapT.eq_7 AS.snap.eq_1 AS.snap.eq_2 mapO.eq_1 mapO.eq_2 intern.eq_1 intern.eq_2 intern.eq_3 intern.eq_4 intern.eq_5 intern.eq_6 intern.eq_7 intern.eq_8 intern.eq_9 intern.eq_10 intern.eq_11 internL.eq_1 internL.eq_2 zipSl.eq_1 zipSl.eq_2 AV.ids.eq_1 AV.ids.eq_2 AV.ids.eq_3 AV.ids.eq_4 AV.ids.eq_5 AV.ids.eq_6 AV.ids.eq_7 AV.ids.eq_8 AV.ids.eq_9 AV.ids.eq_10 AV.ids.eq_11 AV.idsL.eq_1 AV.idsL.eq_2 AV.sub.eq_1 AV.sub.eq_2 AV.sub.eq_3 AV.sub.eq_4 AV.sub.eq_5 AV.sub.eq_6 AV.sub.eq_7 AV.sub.eq_8 AV.sub.eq_9 AV.sub.eq_10 AV.sub.eq_11 AV.subL.eq_1 AV.subL.eq_2 AS.frzL.eq_1 AS.frzL.eq_2 AS.absT.eq_1 AS.absT.eq_2 AS.absT.eq_4 AS.absL.eq_1 AS.absL.eq_2 AS.absOk.eq_1 AS.absOkL.eq_1 AS.absOkL.eq_2 hid.eq_1 hids.eq_1 hids.eq_2 AS.appBase.eq_1 AS.appBase.eq_2 AS.appSrc.eq_1 appFits.eq_1 appFits.eq_2 appFits.eq_3 avFill.eq_1 avFill.eq_2 avc.eq_1 avc.eq_2 avc1.eq_1 Kd.agg.eq_1 Kd.agg.eq_2 okR.eq_1 okR.eq_2 okR.eq_3 okR.eq_4 okR.eq_5 okR.eq_6 okR.eq_7 okR.eq_8 zt.eq_1 rvB.eq_1 rvP.eq_1 rvA.eq_1 rvA.eq_2 rv1.eq_1 outTO.eq_1 outT.eq_1 outT.eq_2 outT.eq_3 outTn.eq_1 outOO.eq_1 outO.eq_1 outO.eq_2 boxOf.eq_1 outP.eq_1 outP.eq_2 outP.eq_3 outP.eq_4 outP.eq_5 outP.eq_6 outP.eq_7 outP.eq_8 outPL.eq_1 outPL.eq_2 outI.eq_1 outI.eq_2 outI.eq_3 outI.eq_4 outI.eq_5 outIL.eq_1 outZ.eq_1 outZ.eq_2 outZ.eq_3 outZ.eq_4 outZ.eq_5 outZL.eq_1 finO.eq_1 finO.eq_2 fin.eq_1 fin.eq_2 fin.eq_3 cellAV.eq_1 cellAV.eq_2 numsOf.eq_1 numsOf.eq_2 aop.eq_1 aop.eq_2 aop.eq_3 aop.eq_4 aop.eq_5 aop.eq_6 aop.eq_7 aop.eq_8 aop.eq_9 aop.eq_10 aop.eq_11 aop.eq_12 aop.eq_13 aop.eq_14 aop.eq_15 aop.eq_16 aop.eq_17 aop.eq_18 aop.eq_19 aop.eq_20 aop.eq_21 aop.eq_22 aop.eq_23 aop.eq_24 aop.eq_25 aop.eq_26 tmpsOf.eq_1 tmpsOf.eq_2 tmpsOf.eq_3 tmpsOf.eq_4 tmpsOf.eq_5 AV.refs.eq_1 AV.refs.eq_2 AV.refs.eq_3 AV.refs.eq_4 AV.refs.eq_5 AV.refs.eq_6 AV.refs.eq_7 AV.refs.eq_8 AV.refs.eq_9 AV.refs.eq_10 AV.refs.eq_11 AV.refsL.eq_1 AV.refsL.eq_2 refsT.eq_1 refsT.eq_2 refsO.eq_1 refsO.eq_2 refsO.eq_3 refsO.eq_4 refsO.eq_5 refsO.eq_6 refsB.eq_1 refsB.eq_2 clos.eq_1 clos.eq_2 keepL.eq_1 keepL.eq_2 AV.hasM.eq_1 AV.hasM.eq_2 AV.hasM.eq_3 AV.hasM.eq_4 AV.hasM.eq_5 AV.hasM.eq_6 AV.hasM.eq_7 AV.hasM.eq_8 AV.hasM.eq_9 AV.hasM.eq_10 AV.hasM.eq_11 AV.hasML.eq_1 AV.hasML.eq_2 Ob.dropM.eq_1 Ob.dropM.eq_2 Ob.dropM.eq_3 Ob.dropM.eq_4 nsC.eq_1 nsC.eq_2 okGuard.eq_1 okGuard.eq_2 AS.purges.eq_1 AS.purges.eq_2 dropMB.eq_1 dropMB.eq_2 newB.eq_1 newB.eq_2 ptB.eq_1 ptB.eq_2 lookC.eq_1 lookC.eq_2 dropB.eq_1 dropB.eq_2 leS.eq_1 leS.eq_2 leT.eq_1 leT.eq_2 AS.mvs.eq_1 AS.mvs.eq_2 AS.mvA.eq_1 AS.mvA.eq_2 AS.mvB.eq_1 aSetO.eq_1 aSetO.eq_2 aSh.eq_1 aSh.eq_2 arK.eq_1 aIdxA.eq_1 aIdxA.eq_2 arT.eq_1 aSlHB.eq_1 aSlHB.eq_2 aSlHO.eq_1 aSlHZ.eq_1 aSlHZ.eq_2 isSlT.eq_1 isNilC.eq_1 aNilO.eq_1 aNilX.eq_1 aNilX.eq_2 aNilX.eq_3 aNilC.eq_1 aNilC.eq_2 aBinQ.eq_1 aBinQ.eq_2 aMin.eq_1 flT.eq_1 flT.eq_2 flT.eq_3 mpT.eq_1 aMkMap.eq_1 aMkMap.eq_2 strA.eq_1 keyMK.eq_1 keyMK.eq_2 keyMK.eq_3 mkB.eq_1 mkB.eq_2 mkB.eq_3 aMp2.eq_1 aMp1.eq_1 aMp0.eq_1 aMapU.eq_1 aLk2.eq_1 aLk2.eq_2 aLk1.eq_1 aLk0.eq_1 aLookup.eq_1 aLenMO.eq_1 aLenM.eq_1 glV.eq_1 glV.eq_2 evG.eq_1 evG.eq_2 evG.eq_3 evG.eq_4 lkHitO.eq_1 lkHitO.eq_2 lkHitO.eq_3 lkHitO.eq_4 lkHit.eq_1 lkHit.eq_2 lkF.eq_1 lkF.eq_2 lkFind.eq_1 lkFind.eq_2 lkV.eq_1 lkV.eq_2 lkV.eq_3 lkV.eq_4 lkV.eq_5 AS.lkO.eq_1 AS.lkO.eq_2 AS.lkOf.eq_1 rawT.eq_1 rawT.eq_2 rawT.eq_3 rawT.eq_4 rawT.eq_5 rawT.eq_6 rawOf.eq_1 rawOf.eq_2 rawOf.eq_3 rawOf.eq_4 rawOf.eq_5 rawOf.eq_6 rawOf.eq_7 rawOf.eq_8 rawOf.eq_9 rawOf.eq_10 rawOf.eq_11 aLkR.eq_1 aLkR.eq_2 aLk.eq_1 aLk.eq_2 KL.eq_1 lkDrop.eq_1 lkDrop.eq_2 lkParO.eq_1 lkParO.eq_2 lkParO.eq_3 lkParO.eq_4 lkPar.eq_1 lkPar.eq_2 lkI.eq_1 lkI.eq_2 lkIds.eq_1 lkIds.eq_2 adLd.eq_1 run_nil run_b run_l run_skip run_label run_seq run_cond brV_b brB_t brB_f run_block run_exit run_ret run_region runX_nil runX_c runX_c' runX_b runX_b' runX_l runX_l' exB_t exB_f run_o run_op run_opg gV_b gV_t gB_tt gB_ff gB_tf gB_ft rs_eq kv KI aLenN aBS1 aApp1 aStore1 szOk gv gd s0 idOf look_cons lookC frzU_t frzU_f orT orF drop_any drop_nil drop_t drop_h drop_pb drop_pa drop_agg drop_tup drop_fn dropB kill_eq set_eq rem_eq re_eq up_eq get_eq ob_eq Ob.drop apl fpl plainTy AS.frz splice cond_true cond_false List.map_cons List.map_nil List.drop_zero List.drop_succ_cons List.drop_nil List.take_zero List.take_succ_cons List.take_nil List.getElem?_cons_zero List.getElem?_cons_succ List.getElem?_nil List.length_cons List.length_nil Option.map_some Option.map_none Option.bind_some Option.bind_none List.cons_append List.nil_append List.append_nil Option.getD_some Option.getD_none List.all_cons List.all_nil Bool.and_true Bool.true_and Bool.or_false Bool.false_or Bool.or_true Bool.true_or List.flatten_cons List.flatten_nil List.replicate_succ List.replicate_zero and_true true_and avOf_t avOf_f agg_bool agg_int agg_str agg_slice agg_struct agg_func agg_ptr agg_map avc_bool avc_int avc_str avc_fn avc1_bool avc1_int avc1_str avc1_fn zt_bool zt_int zt_str cells_nil cells_t cells_h cells_pb cells_fn snap_t snap_nil snap_h snap_pb snap_fn rv1_one rv1_two outI_t outI_oh outI_on outI_any outI_nil outZ_th outZ_tt outZ_tn outZ_o outZ_any outZ_nil outIL_nil outZL_nil finN finR ne_eq not_false_eq_true not_true_eq_false List.nodup_nil List.not_mem_nil false_implies implies_true eq_self true_or or_true Option.some.injEq shl_add shl_sub shl_mul shl_quo shl_rem shl_and shl_or shl_xor shl_andNot shl_eql shl_neq shl_lss shl_leq shl_gtr shl_geq shl_shr shl_shl appDeep_none appDeep_sn appSrc_h appSrc_nil fits_ft fits_tn fits_tf isStr_slice obFlat_box Nat.le_refl nbeq_self List.length_map updZ_s updZ_n dropM_eq purge_eq newIds_cons newIds_nil purgeT_nil purgeT_cons memN_cons memN_nil bd_d bd_c bd_g bd_p bd_t bd_o preds_nil preds_cons hasIns insB List.any_cons List.any_nil adK_eq adr_nil adG_eq kdOp noLen creates Op.operands Call.operands nsOf adT adI adJ plainB rst List.append_eq nsD_f nsD_n nsD_t nOf_0 nOf_1 nOf_2 chO_0 chO_1 chO_2 keepK_0 keepK_1 keepK_2 eqRes AS.mv fits KM aCallM notNew kdCall arK_i64 arK_i32 arK_u8 arK_u64 arT_sl isNilC_t isNilC_f isNilC_g isNilC_i isNilC_b isNilC_s isNilC_a isNilC_n andBF andBT aCallK_2 ble_dec hid_t hid_nil hid_any hid_pb hid_fn absOk_t absOk_nil absOk_pb absOk_h absOkO_1 decide_true decide_false Array.toList_append chunk_0 chunk_1 chunk_2 chunk_3 back_t back_nil back_ht backL_nil backI_t backI_nil backI_ht backIL_nil AS.mvJ nbeq_dec runR_f runR_t loadB Option.isSome_some Option.isSome_none nodup1 adr_none adr_some adO_s adV_b adV_t adB_tt adB_ff adB_tf adB_ft adS_eq lenL.eq_1 lenO.eq_1 lenO.eq_2 lenV.eq_1 lenV.eq_2 lenV.eq_3 lenV.eq_4 optN optS absT_ft
attribute [local go_sem] ty3 ty4 ty5 ty9 ty21 ty22 ty23 ty25 ty27 ty28 ty29 ty31 ty33 ty43 ty45 ty46 ty48 ty54 ty57 ty59 ty60 ty62 ty73 ty75 ty91 ty96 ty98 ty101 ty104 ty120 ty125 ty129 ty146 ty166 ty207 ty220 ty237 lv27 lv91 lv104 lv120 zb4 leS leT fits AS.mvs encStr_eq aIdx_str EStr_dec decStrs decStrs0 EStr_enc EStr_n encInt_eq aIdx_int EInt_dec decInts decInts0 EInt_enc EInt_n AllV_Int len_Int lc_enc l0_enc asl_enc ag_enc aow_enc ABool_enc AInt_enc AStr_enc AU8_enc ABool_dec AInt_dec AStr_dec AU8_dec asl_dec ag_dec aow_dec bind_some pr2.eq_1 l0_nil lc_cons unT.eq_1 K0.eq_1 M0.eq_1 KI AllV_Str len_Str ctR_eq ctM_eq ro_kd ro_ro mu_kd mu_mu encAd_eq aIdx_Ad EAd_dec decAds decAds0 EAd_enc EAd_n len_Ad Ad_eta AllV_Ad encMl_eq aIdx_Ml EMl_dec decMls decMls0 EMl_enc EMl_n len_Ml Ml_eta mkMl.eq_1 owMl_eq AMl_enc AMl_dec encRc_eq aIdx_Rc ERc_dec decRcs decRcs0 ERc_enc ERc_n len_Rc Rc_eta AllV_Rc encIm_eq aIdx_Im EIm_dec decIms decIms0 EIm_enc EIm_n len_Im Im_eta mkIm.eq_1 owIm_eq AIm_enc AIm_dec encSp_eq aIdx_Sp ESp_dec decSps decSps0 ESp_enc ESp_n len_Sp Sp_eta mkSp.eq_1 owSp_eq ASp_enc ASp_dec encNt_eq aIdx_Nt ENt_dec decNts decNts0 ENt_enc ENt_n len_Nt Nt_eta mkNt.eq_1 owNt_eq ANt_enc ANt_dec
theorem findR_yn {s : Sp} {n : Int} {a : Ad} {ni nk : Nat} (h : atIm s n = ni) (ht : theIm s n = s.items.getD ni default) (hk : atRc (theIm s n) a = nk) : findR s n a = .tup [.t (.v (.int .i64 ni)), .t (.v (.int .i64 nk)), .t (.v (.bool true))] := by
  rw [findR_y (by omega), h, hk, decide_eq_true (by omega : (nk : Int) ≥ 0)]
theorem set_self {α : Type} [Inhabited α] {xs : List α} {i : Nat} (h : i < xs.length) : xs.set i (xs.getD i default) = xs := by
  rw [List.getD_eq_getElem?_getD, List.getElem?_eq_getElem h, Option.getD_some, List.set_getElem_self]
theorem same_Im {xs : List Im} {i : Nat} (h : i < xs.length) : (xs.map encIm).set i [.v (.int .i64 (xs.getD i default).id), .v (.string (xs.getD i default).frm.user), .v (.string (xs.getD i default).frm.domain), .sl 4 ((xs.getD i default).to.map encRc), .sl 1 ((xs.getD i default).body.map encStr)] = xs.map encIm := by
  rw [set_Im]
  exact congrArg (List.map encIm) (set_self h)
def c29 : Ct := ctR (lc ESp.ag (lc AInt (lc EAd.ag (lc AInt l0)))) (fun p => OkSp p.1) (fun p => owSB (SLater p.1 p.2.1 p.2.2.1 p.2.2.2.1))
section
attribute [local go_sem] c10 c26 c66 c40 c69 List.length_map List.length_set Int.toNat_natCast aCell_map aSet_map owSB AS.opn AS.cls AS.nilb AS.renb Bool.not_false Bool.not_true List.set_set List.set_cons_zero List.set_cons_succ List.set_nil List.mem_singleton forall_eq
set_option maxHeartbeats 3200000 in
theorem good29 {G : Gt} (hG : OkG G) (hh : G.e 10 = roEnt 0 c10 ∧ G.e 26 = roEnt 0 c26 ∧ G.e 66 = roEnt 0 c66 ∧ G.e 40 = roEnt 0 c40 ∧ G.e 69 = roEnt 0 c69) : Gd G 29 (roEnt 0 c29) := by
  refine gR (dp := fun n => !(Nat.beq n 100007 || Nat.beq n 100010 || Nat.beq n 100012)) (fn := Tryz.f29) (n := 4) (fun _ => rfl) (by kernel_rfl) rfl (by kernel_rfl) hG (Nat.le_of_ble_eq_true rfl) (by kernel_rfl) (by decide) (fun _ p => owSB_solid _) ?_
  rintro ⟨s, n, a, w, ⟨⟩⟩ hpre
  have hok' : OkL OkIm s.items := hpre
  have hmx := hok'.1
  dsimp only at hpre ⊢
  by_cases h : SpOk s
  · have b1 := bOf_y h
    by_cases hi : atIm s n < 0
    · rw [SLater_i h hi]
      simp -implicitDefEqProofs only [Tryz.f29, b1, findR_n hi, go_sem, hh]
      repeat' (first | with_reducible apply And.intro | with_reducible intro _ | ((first | apply brB_split | apply aPickB_split | apply gB_split | apply adB_split) <;> intro hb <;> simp -implicitDefEqProofs only [hb, go_sem, hh] <;> try simp only [qz] at hb))
      all_goals first | rfl | omega | assumption | decide | skip
      all_goals trace_state
    · by_cases hw : 0 ≤ w ∧ w ≤ 9999
      · have bw := bOf_y hw
        by_cases hk : atRc (theIm s n) a < 0
        · have hk' : ¬ atRc (theIm s n) a ≥ 0 := by omega
          rw [SLater_k h hi hw hk]
          simp -implicitDefEqProofs only [Tryz.f29, b1, bw, findR_y hi, hk', decide_false, go_sem, hh]
          repeat' (first | with_reducible apply And.intro | with_reducible intro _ | ((first | apply brB_split | apply aPickB_split | apply gB_split | apply adB_split) <;> intro hb <;> simp -implicitDefEqProofs only [hb, go_sem, hh] <;> try simp only [qz] at hb))
          all_goals first | rfl | omega | assumption | decide | skip
          all_goals trace_state
        · obtain ⟨hi0, hi1⟩ := atIm_lt hi
          obtain ⟨hk0, hk1⟩ := atRc_lt hk
          obtain ⟨ni, hni⟩ := Int.eq_ofNat_of_zero_le hi0
          obtain ⟨nk, hnk⟩ := Int.eq_ofNat_of_zero_le hk0
          have hth : theIm s n = s.items.getD ni default := by unfold theIm; rw [hni, Int.toNat_natCast]
          have hf := findR_yn hni hth hnk
          rw [SLater_y h hi hw hk, hni, hnk, Int.toNat_natCast, Int.toNat_natCast]
          rw [hni] at hi1
          rw [hnk, hth] at hk1
          have hx := hok'.at (i := ni) (by omega)
          have hmx2 : ((s.items.getD ni default).to.length : Int) ≤ 1048576 := hx.2.1.1
          have hi2 : ni < s.items.length := by omega
          have hk2 : nk < (s.items.getD ni default).to.length := by omega
          have hi3 : ni < (s.items.map encIm).length := by rw [List.length_map]; exact hi2
          have hk3 : nk < ((s.items.getD ni default).to.map encRc).length := by rw [List.length_map]; exact hk2
          have hr := (h.1 _ (getD_mem hi2)).1.1 _ (getD_mem hk2)
          obtain ⟨_, ⟨ht0, ht1⟩, _⟩ := hr
          obtain ⟨hp0, hp1⟩ := pau_le (t := ((s.items.getD ni default).to.getD nk default).tries + 1) (m := 3) (by omega)
          have h8 : (2 : Int) * 2 ^ 3 = 16 := by decide
          have hpau : (if 1 ≤ ((s.items.getD ni default).to.getD nk default).tries + 1 ∧ ((s.items.getD ni default).to.getD nk default).tries + 1 ≤ 4 then pau (((s.items.getD ni default).to.getD nk default).tries + 1) else -1) = pau (((s.items.getD ni default).to.getD nk default).tries + 1) := if_pos (by omega)
          have hw0 := hw.1
          have hw1 := hw.2
          simp -implicitDefEqProofs only [Tryz.f29, b1, bw, hf, go_sem, hh]
          repeat' (first | with_reducible apply And.intro | with_reducible intro _ | ((first | apply brB_split | apply aPickB_split | apply gB_split | apply adB_split) <;> intro hb <;> simp -implicitDefEqProofs only [hb, go_sem, hh] <;> try simp only [qz] at hb))
          all_goals first | rfl | omega | assumption | decide | skip
          refine run_open 1021 1901 2901 ni 3 rfl (map_get encIm hi2) rfl rfl fun x => run_go ?_
          by_cases hA : ((s.items.getD ni default).to.getD nk default).tries + 1 = 4
          · unfold SLat
            rw [if_pos (.inl (by omega))]
            have hpau4 : (if (1 : Int) ≤ 4 ∧ (4 : Int) ≤ 4 then pau 4 else -1) = pau 4 := if_pos (by decide)
            rw [hA] at hp0 hp1
            simp -implicitDefEqProofs only [hA, decide_true, hpau4, aCell_set hi3, go_sem, hh]
            repeat' (first | with_reducible apply And.intro | with_reducible intro _ | ((first | apply brB_split | apply aPickB_split | apply gB_split | apply adB_split) <;> intro hb <;> simp -implicitDefEqProofs only [hb, go_sem, hh] <;> try simp only [qz] at hb))
            all_goals first | rfl | omega | assumption | decide | skip
            refine run_close 1021 1901 2901 ni 3 rfl (set_get hi3 _) rfl rfl rfl rfl (run_go ?_)
            simp -implicitDefEqProofs only [go_sem, hh]
            repeat' (first | with_reducible apply And.intro | with_reducible intro _ | ((first | apply brB_split | apply aPickB_split | apply gB_split | apply adB_split) <;> intro hb <;> simp -implicitDefEqProofs only [hb, go_sem, hh] <;> try simp only [qz] at hb))
            all_goals first | rfl | omega | assumption | decide | skip
            exact same_Im hi2
          · by_cases hB : w + pau (((s.items.getD ni default).to.getD nk default).tries + 1) > 9999
            · unfold SLat
              rw [if_pos (.inr hB)]
              simp -implicitDefEqProofs only [hA, hB, decide_true, decide_false, hpau, aCell_set hi3, go_sem, hh]
              repeat' (first | with_reducible apply And.intro | with_reducible intro _ | ((first | apply brB_split | apply aPickB_split | apply gB_split | apply adB_split) <;> intro hb <;> simp -implicitDefEqProofs only [hb, go_sem, hh] <;> try simp only [qz] at hb))
              all_goals first | rfl | omega | assumption | decide | contradiction | skip
              refine run_close 1021 1901 2901 ni 3 rfl (set_get hi3 _) rfl rfl rfl rfl (run_go ?_)
              simp -implicitDefEqProofs only [go_sem, hh]
              repeat' (first | with_reducible apply And.intro | with_reducible intro _ | ((first | apply brB_split | apply aPickB_split | apply gB_split | apply adB_split) <;> intro hb <;> simp -implicitDefEqProofs only [hb, go_sem, hh] <;> try simp only [qz] at hb))
              all_goals first | rfl | omega | assumption | decide | skip
              exact same_Im hi2
            · unfold SLat
              rw [if_neg (fun q => q.elim (by omega) hB)]
              simp -implicitDefEqProofs only [hA, hB, decide_false, hpau, aCell_set hi3, aCell_set hk3, aSet_set hk3, go_sem, hh]
              repeat' (first | with_reducible apply And.intro | with_reducible intro _ | ((first | apply brB_split | apply aPickB_split | apply gB_split | apply adB_split) <;> intro hb <;> simp -implicitDefEqProofs only [hb, go_sem, hh] <;> try simp only [qz] at hb))
              all_goals first | rfl | omega | assumption | decide | contradiction | skip
              refine run_close 1021 1901 2901 ni 3 rfl (set_get hi3 _) rfl rfl rfl rfl (run_go ?_)
              simp -implicitDefEqProofs only [go_sem, hh]
              repeat' (first | with_reducible apply And.intro | with_reducible intro _ | ((first | apply brB_split | apply aPickB_split | apply gB_split | apply adB_split) <;> intro hb <;> simp -implicitDefEqProofs only [hb, go_sem, hh] <;> try simp only [qz] at hb))
              all_goals first | rfl | omega | assumption | decide | skip
              rw [set_Rc, set_Im]
              rfl
      · have bw := bOf_n hw
        rw [SLater_w h hi hw]
        by_cases hk : atRc (theIm s n) a ≥ 0
        all_goals
          simp -implicitDefEqProofs only [Tryz.f29, b1, bw, findR_y hi, hk, decide_true, decide_false, go_sem, hh]
          repeat' (first | with_reducible apply And.intro | with_reducible intro _ | ((first | apply brB_split | apply aPickB_split | apply gB_split | apply adB_split) <;> intro hb <;> simp -implicitDefEqProofs only [hb, go_sem, hh] <;> try simp only [qz] at hb))
          all_goals first | rfl | omega | assumption | decide | skip
          all_goals trace_state
  · have b1 := bOf_n h
    rw [SLater_no h]
    simp -implicitDefEqProofs only [Tryz.f29, b1, go_sem, hh]
    repeat' (first | with_reducible apply And.intro | with_reducible intro _ | ((first | apply brB_split | apply aPickB_split | apply gB_split | apply adB_split) <;> intro hb <;> simp -implicitDefEqProofs only [hb, go_sem, hh] <;> try simp only [qz] at hb))
    all_goals first | rfl | omega | assumption | decide | skip
    all_goals trace_state
end
end Go.V
namespace Go.V
open Go Go.Proofs Go.Shelf Go.RowKit Go.Lib Go.Sort
set_option maxRecDepth 1000000
set_option linter.unusedSimpArgs false
set_option linter.unusedVariables false
theorem run_appendAt {P : Program} (w : World) (t ty e : TypeId) (i : TypeInfo) (ht : P.underlying t = some (.slice e)) (hi : P.info? e = some i) (b sLen sCap : Nat) (cur : Array Value) (et : TypeId) (hb : w.heap[b]? = some (.cells cur et (0, 0)))
    (a : Addr) (m c : Nat) (news : List Value) (hl : news.length = m * i.size) (hnews : ∀ j u, news[j]? = some u → w.cell? (a.add j) = some u) (h1 : ∀ u ∈ news, u.oneCell' = true) (hroom : sLen + m ≤ sCap) (hsz : sLen * i.size + news.length ≤ cur.size) :
    (Builtin.append_ #[t, t] ty #[.slice (some ⟨b, 0, none⟩) sLen sCap, .slice (some a) m c]).run P w = .ok (.slice (some ⟨b, 0, none⟩) (sLen + m) sCap) (w.setRow b (Go.V.splice cur.toList (sLen * i.size) news).toArray) := by
  have hfc := run_firstCells_some (P := P) w i.size m a m c news hl hnews
  have hst := run_storeCells_at P b (sLen * i.size) et news 0 cur w hb (by simpa using hsz) h1
  simp only [Nat.add_zero, List.append_assoc] at hst
  simp [Builtin.append_, run_underlying ht, sizeOf, typeInfo, hi, Builtin.lenOf, hroom, hfc, Addr.add_lit, hst, Go.V.splice]
theorem step_appendAt {P : Program} {ops : Array Oper} {o : Oper} {a : Act} {w : World} {K : Act → World → Prop} {Q : Exit → Act → World → Prop} {E : Prop}
    (hg : o.guard = none) (s x : Operand) (t : TypeId) (hop : o.op = Op.call { callee := Callee.builtin Builtin.append, args := #[s, x], argTypes := #[t, t] })
    (r : Value) (W' : World) (hrun : (Builtin.append_ #[t, t] o.type #[a.eval s, a.eval x]).run P w = .ok r W')
    (hK : K (a.put o.dst r) W') :
    if Region.wanted o (yielded ops a.tmps) = true then Oper.wp P o a w K Q else E := by
  have hw : Region.wanted o (yielded ops a.tmps) = true := by simp [Region.wanted, hg]
  rw [if_pos hw]
  unfold Oper.wp
  simp [execOp, hop, resolve, invoke, builtin, hrun, Result.andThen]
  exact hK
theorem run_clearAt {P : Program} (w : World) (t e : TypeId) (z : Value) (size : Nat) (ht : P.underlying t = some (.slice e)) (hv : ∀ w, (zeroValue e).run P w = .ok z w) (hz : z.cells.size = size) (h1 : ∀ u ∈ z.cells.toList, u.oneCell' = true) (b o n c : Nat) (hn : 0 < n) (cur : Array Value) (et : TypeId)
    (hb : w.heap[b]? = some (.cells cur et (0, 0))) (hs : o + n * size ≤ cur.size) :
    ∃ cs : List Value, cs.length = n * size ∧ ∀ ty, (Builtin.clear_ #[t] ty #[.slice (some ⟨b, o, none⟩) n c]).run P w = .ok (.tuple #[]) (w.setRow b (Go.V.splice cur.toList o cs).toArray) := by
  have hlen : (Builtin.zeroCells z.cells n).toList.length = n * size := by
    simp [Builtin.zeroCells, hz]
  have hone : ∀ u ∈ (Builtin.zeroCells z.cells n).toList, u.oneCell' = true := by
    intro u hu
    simp only [Builtin.zeroCells, Array.toList_map, List.mem_map] at hu
    obtain ⟨k, hk, rfl⟩ := hu
    have hk2 : k < n * z.cells.size := by simpa using hk
    have hpos : 0 < z.cells.size := by
      rcases Nat.eq_zero_or_pos z.cells.size with h | h
      · rw [h] at hk2; omega
      · exact h
    have hlt : k % z.cells.size < z.cells.size := Nat.mod_lt _ hpos
    rw [getElem!_pos z.cells _ hlt]
    exact h1 _ (by simp)
  have hst := run_storeCells_at P b o et (Builtin.zeroCells z.cells n).toList 0 cur w hb (by simpa [hlen] using hs) hone
  simp only [Nat.add_zero, List.append_assoc] at hst
  obtain ⟨m, rfl⟩ : ∃ m, n = m + 1 := ⟨n - 1, by omega⟩
  refine ⟨_, hlen, fun ty => ?_⟩
  simp [Builtin.clear_, run_underlying ht, hv, hst, Go.V.splice]
def DelEnd (n b cap i j len : Nat) (cur : Array Value) (et : TypeId) (w : World) (e : Ending) (w' : World) : Prop :=
  e = .returned (.slice (some ⟨b, 0, none⟩) (len - (j - i)) cap) ∧ ∃ cur' : Array Value, w'.heap[b]? = some (.cells cur' et (0, 0)) ∧ cur'.size = cur.size ∧
    cur'.toList.take ((len - (j - i)) * n) = (cur.toList.take (len * n)).take (i * n) ++ (cur.toList.take (len * n)).drop (j * n) ∧
    w'.os = w.os ∧ w'.tape = w.tape ∧ w'.output = w.output ∧ w'.heap.size = w.heap.size ∧ ∀ c, c ≠ b → w'.heap[c]? = w.heap[c]?
def DelRaw (P : Program) (f : FuncId) (n : Nat) : Prop := ∀ (w : World) (b cap i j len : Nat) (cur : Array Value) (et : TypeId), w.heap[b]? = some (.cells cur et (0, 0)) → cur.size = cap * n → len ≤ cap → cap ≤ 9223372036854775807 → i < j → j ≤ len → (∀ u ∈ cur.toList.take (len * n), u.oneCell' = true) →
  Calls P f #[.slice (some ⟨b, 0, none⟩) len cap, .int .i64 i, .int .i64 j] w (DelEnd n b cap i j len cur et w)
theorem splice_len {α : Type} {l ys : List α} {o : Nat} (h : o + ys.length ≤ l.length) : (Go.V.splice l o ys).length = l.length := by
  simp [Go.V.splice]; omega
theorem take_splice {α : Type} {l ys : List α} {o k : Nat} (h : o ≤ l.length) (hk : k ≤ o) : (Go.V.splice l o ys).take k = l.take k := by
  unfold Go.V.splice
  rw [List.take_append_of_le_length (by simp; omega), List.take_take, Nat.min_eq_left hk]
theorem take_splice2 {α : Type} {l ys : List α} {o : Nat} (h : o ≤ l.length) : (Go.V.splice l o ys).take (o + ys.length) = l.take o ++ ys := by
  unfold Go.V.splice
  rw [← List.append_assoc, List.take_append_of_le_length (by simp; omega), List.take_of_length_le (by simp; omega)]
theorem delEnd_of {n b cap i j len : Nat} {cur : Array Value} {et : TypeId} {w : World} (hb : w.heap[b]? = some (.cells cur et (0, 0))) (hs : cur.size = cap * n) (hlc : len ≤ cap) (hij : i < j) (hj : j ≤ len) {news cs : List Value} (hnews : news = (cur.toList.drop (j * n)).take ((len - j) * n))
    (hcs : cs.length = (j - i) * n) {W1 W2 : World} (hW1 : W1 = w.drew.setRow b (Go.V.splice cur.toList (i * n) news).toArray) (hW2 : W2 = W1.setRow b (Go.V.splice (Go.V.splice cur.toList (i * n) news) ((i + (len - j)) * n) cs).toArray) :
    DelEnd n b cap i j len cur et w (.returned (.slice (some ⟨b, 0, none⟩) (i + (len - j)) cap)) W2 := by
  have e1 : len * n ≤ cap * n := Nat.mul_le_mul_right n hlc
  have e2 : j * n ≤ len * n := Nat.mul_le_mul_right n hj
  have e3 : i * n ≤ j * n := Nat.mul_le_mul_right n (by omega)
  have e4 : (len - j) * n = len * n - j * n := Nat.sub_mul _ _ _
  have e5 : (j - i) * n = j * n - i * n := Nat.sub_mul _ _ _
  have e6 : (i + (len - j)) * n = i * n + (len - j) * n := Nat.add_mul _ _ _
  have hcl : cur.toList.length = cap * n := by simp [hs]
  have hnl : news.length = (len - j) * n := by rw [hnews, List.length_take, List.length_drop, hcl]; omega
  have hl1 : (Go.V.splice cur.toList (i * n) news).length = cap * n := by rw [splice_len (by omega), hcl]
  have hl2 : (Go.V.splice (Go.V.splice cur.toList (i * n) news) ((i + (len - j)) * n) cs).length = cap * n := by rw [splice_len (by omega), hl1]
  have hb1 : W1.heap[b]? = some (.cells (Go.V.splice cur.toList (i * n) news).toArray et (0, 0)) := by rw [hW1]; exact setRow_heap w.drew b _ _ et _ hb
  refine ⟨by rw [show len - (j - i) = i + (len - j) by omega], (Go.V.splice (Go.V.splice cur.toList (i * n) news) ((i + (len - j)) * n) cs).toArray, by rw [hW2]; exact setRow_heap W1 b _ _ et _ hb1, by rw [List.size_toArray, hl2, hs], ?_, by rw [hW2, hW1]; rfl, by rw [hW2, hW1]; rfl, by rw [hW2, hW1]; rfl, by rw [hW2, hW1]; simp only [World.setRow, Array.size_modify]; rfl, fun c hc => ?_⟩
  · show (Go.V.splice (Go.V.splice cur.toList (i * n) news) ((i + (len - j)) * n) cs).take _ = _
    rw [show (len - (j - i)) * n = (i + (len - j)) * n by rw [show len - (j - i) = i + (len - j) by omega], take_splice (by omega) (Nat.le_refl _), e6, ← hnl, take_splice2 (by omega), List.take_take, Nat.min_eq_left (by omega), hnews, List.drop_take, e4]
  · rw [hW2, setRow_other W1 b c _ hc, hW1, setRow_other w.drew b c _ hc]
    rfl
theorem flat_lenN {α : Type} {n : Nat} : ∀ {es : List (List α)}, (∀ x ∈ es, x.length = n) → es.flatten.length = es.length * n
  | [], _ => by simp
  | e :: es, h => by
    rw [List.flatten_cons, List.length_append, h e (by simp), flat_lenN fun x hx => h x (by simp [hx]), List.length_cons, Nat.succ_mul]; omega
theorem con_del {P : Program} {m : Int} {f : FuncId} {n : Nat} (hraw : DelRaw P f n) (es : List (List T)) (i j : Nat) (hij : i < j) (hj : j ≤ es.length) :
    Con P m f [.o true n es, .t (.v (.int .i64 i)), .t (.v (.int .i64 j))] [.any, .t (.v (.int .i64 i)), .t (.v (.int .i64 j))] (.o true n (es.take i ++ es.drop j)) := by
  intro w pr vs F hgl hA hnd hF hpr
  cases hA with
  | cons _ v0 _ _ F0 _ h0 hA =>
  cases hA with
  | cons _ v1 _ _ F1 _ h1 hA =>
  cases hA with
  | cons _ v2 _ _ F2 _ h2 hA =>
  cases hA with
  | nil =>
  cases h1 with
  | t _ _ h1 =>
  cases h1 with
  | v _ g1 =>
  cases h2 with
  | t _ _ h2 =>
  cases h2 with
  | v _ g2 =>
  cases h0 with
  | o _ _ _ _ _ ha =>
  rcases ha with ⟨rfl, _, _⟩ | ⟨b, len, cap, cur, et, vs', G, rfl, hl, hc, hm, hn, hg, hs, hv, rfl, hr⟩
  · simp at hj; omega
  have hr : DpL w es.flatten vs' G := hr
  have hvl : vs'.length = len * n := by rw [← hr.len, flat_lenN hn, hl]
  have hone : ∀ u ∈ vs', u.oneCell' = true := fun u hu => by
    obtain ⟨k, hk, rfl⟩ := List.getElem_of_mem hu
    have hk2 : k < es.flatten.length := by rw [hr.len]; exact hk
    obtain ⟨v, _, _, _, q1, q2, _⟩ := hr.at (List.getElem?_eq_getElem hk2)
    rw [List.getElem?_eq_getElem hk, Option.some.injEq] at q1
    rw [q1]; exact q2.one
  have hcall := hraw w b cap i j len cur et hg hs hc hm hij (by omega) (by rw [hv]; exact hone)
  refine Calls.mono hcall fun e w' hq => ?_
  obtain ⟨he, cur', c1, c2, c3, o1, o2, o3, o4, o5⟩ := hq
  rw [hv] at c3
  have hes : es = es.take i ++ ((es.drop i).take (j - i) ++ es.drop j) := by
    have h2 : es.drop j = (es.drop i).drop (j - i) := by rw [List.drop_drop]; congr 1; omega
    rw [h2, List.take_append_drop, List.take_append_drop]
  have hvs : vs' = vs'.take (i * n) ++ ((vs'.drop (i * n)).take ((j - i) * n) ++ vs'.drop (j * n)) := by
    have h2 : vs'.drop (j * n) = (vs'.drop (i * n)).drop ((j - i) * n) := by
      rw [List.drop_drop]; congr 1
      rw [← Nat.add_mul]; congr 1; omega
    rw [h2, List.take_append_drop, List.take_append_drop]
  have e1 : i * n ≤ len * n := Nat.mul_le_mul_right n (by omega)
  have e2 : j * n ≤ len * n := Nat.mul_le_mul_right n (by omega)
  have e5 : (j - i) * n = j * n - i * n := Nat.sub_mul _ _ _
  have e7 : i * n ≤ j * n := Nat.mul_le_mul_right n (by omega)
  have l1 : (es.take i).flatten.length = i * n := by rw [flat_lenN fun x hx => hn x (List.mem_of_mem_take hx), List.length_take]; congr 1; omega
  have l2 : ((es.drop i).take (j - i)).flatten.length = (j - i) * n := by rw [flat_lenN fun x hx => hn x (List.mem_of_mem_drop (List.mem_of_mem_take hx)), List.length_take, List.length_drop]; congr 1; omega
  have hr2 : DpL w ((es.take i).flatten ++ (((es.drop i).take (j - i)).flatten ++ (es.drop j).flatten)) (vs'.take (i * n) ++ ((vs'.drop (i * n)).take ((j - i) * n) ++ vs'.drop (j * n))) G := by
    rw [← List.flatten_append, ← List.flatten_append, ← hes, ← hvs]; exact hr
  obtain ⟨G1, G', rfl, d1, hr3⟩ := DpL.split hr2 (by rw [l1, List.length_take]; omega)
  obtain ⟨G2, G3, rfl, d2, d3⟩ := DpL.split hr3 (by rw [l2, List.length_take, List.length_drop]; omega)
  simp only [List.append_nil] at hnd hF ⊢
  have hsub : ∀ c ∈ G1 ++ G3, c ∈ G1 ++ (G2 ++ G3) := fun c hc => by
    simp only [List.mem_append] at hc ⊢
    exact hc.elim .inl fun h => .inr (.inr h)
  have hbn : b ∉ G1 ++ (G2 ++ G3) := (List.nodup_cons.1 hnd).1
  have hne : ∀ c ∈ G1 ++ G3, c ≠ b := fun c hc e => hbn (e ▸ hsub c hc)
  have hnd2 : (b :: (G1 ++ G3)).Nodup := List.nodup_cons.2 ⟨fun h => hbn (hsub b h), List.Nodup.sublist (List.sublist_append_right G2 G3 |>.append_left G1) (List.nodup_cons.1 hnd).2⟩
  have hd : DpL w' (es.take i ++ es.drop j).flatten (vs'.take (i * n) ++ vs'.drop (j * n)) (G1 ++ G3) := by
    rw [List.flatten_append]
    exact (d1.append d3).keep fun c hc => o5 c (hne c hc)
  refine ⟨_, pr, [], b :: (G1 ++ G3), he, ⟨o1, o2, o3, by omega, fun k _ hk => o5 k fun e => hk (by rw [e]; simp)⟩, fun _ h => h, fun _ h => .inl h, fun c hc => by rw [o4]; exact hpr c hc, .cons _ _ _ _ [] [] (.any _) (.cons _ _ _ _ [] [] (.t _ _ (.v _ g1)) (.cons _ _ _ _ [] [] (.t _ _ (.v _ g2)) .nil)), .o _ _ _ _ _ (.inr ⟨b, len - (j - i), cap, cur', et, _, G1 ++ G3, rfl, ?_, by omega, hm, ?_, c1, by rw [c2, hs], c3, rfl, hd⟩), by simpa using hnd2, fun c hc => ?_⟩
  · simp; omega
  · intro x hx
    rcases List.mem_append.1 hx with hx | hx
    · exact hn x (List.mem_of_mem_take hx)
    · exact hn x (List.mem_of_mem_drop hx)
  · simp only [List.nil_append] at hc
    have hin : c ∈ b :: (G1 ++ (G2 ++ G3)) := by
      rcases List.mem_cons.1 hc with e | hc
      · rw [e]; simp
      · exact List.mem_cons_of_mem _ (hsub c hc)
    have := hF c (by simpa using hin)
    exact ⟨by rw [o4]; exact this.1, this.2, .inr (by simpa using hin)⟩
theorem func67 : Tryz.prog.funcs[67]? = some Tryz.f67 := by kernel_rfl
theorem nt67 : Tryz.f67.ntmps = 33 := rfl
noncomputable def inf67 : TypeInfo := (Tryz.prog.info? 104).get (by kernel_rfl)
theorem inf67_is : Tryz.prog.info? 104 = some inf67 := by kernel_rfl
theorem inf67_size : inf67.size = 4 := by kernel_rfl
theorem zv67 (w : World) : (zeroValue 104).run Tryz.prog w = .ok (.agg #[.string ⟨#[]⟩, .string ⟨#[]⟩, .int .i64 0, .int .i64 0]) w := by kernel_rfl
set_option maxHeartbeats 4000000 in
theorem del67 : DelRaw Tryz.prog 67 4 := by
  intro w b cap i j len cur et hb hs hlc hm hij hj hone
  have t0 : Tryz.prog.underlying 0 = some (TypeDesc.tuple #[]) := by kernel_rfl
  have a0 : ∀ w, (isAgg 0).run Tryz.prog w = .ok false w := run_isAgg_plain t0 rfl
  have t3 : Tryz.prog.underlying 3 = some (.int .i64) := by kernel_rfl
  have a3 : ∀ w, (isAgg 3).run Tryz.prog w = .ok false w := run_isAgg_plain t3 rfl
  have t4 : Tryz.prog.underlying 4 = some .bool := by kernel_rfl
  have a4 : ∀ w, (isAgg 4).run Tryz.prog w = .ok false w := run_isAgg_plain t4 rfl
  have tS : Tryz.prog.underlying 73 = some (.slice 104) := by kernel_rfl
  have aS : ∀ w, (isAgg 73).run Tryz.prog w = .ok false w := run_isAgg_plain tS rfl
  have zE : ∀ w, (Go.sizeOf 104).run Tryz.prog w = .ok 4 w := fun w => by kernel_rfl
  have mixed : Tryz.prog.follows .mixedOrders = true := by kernel_rfl
  have hic : i ≤ cap := by omega
  have hjc : j ≤ cap := by omega
  have hil : i ≤ len := by omega
  obtain ⟨news, hnews⟩ : ∃ news, news = (cur.toList.drop (j * 4)).take ((len - j) * 4) := ⟨_, rfl⟩
  have hcl : cur.toList.length = cap * 4 := by simp [hs]
  have hnl : news.length = (len - j) * 4 := by rw [hnews, List.length_take, List.length_drop, hcl]; omega
  obtain ⟨A, hA, hsrc⟩ : ∃ A : Addr, (if cap = j then some (⟨b, 0, none⟩ : Addr) else some ⟨b, j * 4, none⟩) = some A ∧ (∀ t u, news[t]? = some u → w.drew.cell? (A.add t) = some u) := by
    by_cases h : cap = j
    · refine ⟨⟨b, 0, none⟩, by simp [h], fun t u hu => ?_⟩
      have : t < news.length := (List.getElem?_eq_some_iff.1 hu).1
      omega
    · refine ⟨⟨b, j * 4, none⟩, by simp [h], fun t u hu => ?_⟩
      rw [hnews, List.getElem?_take] at hu
      split at hu
      · rw [List.getElem?_drop] at hu
        show w.cell? _ = _
        rw [Addr.add_lit]
        simp only [World.cell?, hb]
        simpa using hu
      · cases hu
  have hnone : ∀ u ∈ news, u.oneCell' = true := fun u hu => by
    rw [hnews] at hu
    refine hone u ?_
    rw [show (len - j) * 4 = len * 4 - j * 4 by omega, ← List.drop_take] at hu
    exact List.mem_of_mem_drop hu
  obtain ⟨W1, hW1⟩ : ∃ W1, W1 = w.drew.setRow b (Go.V.splice cur.toList (i * 4) news).toArray := ⟨_, rfl⟩
  have hap : Hid (∀ ty, (Builtin.append_ #[73, 73] ty #[.slice (some ⟨b, 0, none⟩) i cap, .slice (some A) (len - j) (cap - j)]).run Tryz.prog w.drew = .ok (.slice (some ⟨b, 0, none⟩) (i + (len - j)) cap) W1) := fun ty => by
    have := run_appendAt (P := Tryz.prog) w.drew 73 ty 104 inf67 tS inf67_is b i cap cur et hb A (len - j) (cap - j) news (by rw [inf67_size]; exact hnl) hsrc hnone (by omega) (by rw [inf67_size, hnl, hs]; omega)
    rw [inf67_size] at this
    rw [hW1]; exact this
  have hl1 : (Go.V.splice cur.toList (i * 4) news).length = cap * 4 := by rw [splice_len (by omega), hcl]
  have hb1 : W1.heap[b]? = some (.cells (Go.V.splice cur.toList (i * 4) news).toArray et (0, 0)) := by rw [hW1]; exact setRow_heap w.drew b _ _ et _ hb
  obtain ⟨cs, hcs, hcl0⟩ := run_clearAt (P := Tryz.prog) W1 73 104 (.agg #[.string ⟨#[]⟩, .string ⟨#[]⟩, .int .i64 0, .int .i64 0]) 4 tS zv67 rfl (by intro u hu; simp [Value.cells] at hu; rcases hu with rfl | rfl | rfl | rfl <;> rfl) b ((i + (len - j)) * 4) (len - (i + (len - j))) (cap - (i + (len - j))) (by omega) _ et hb1 (by rw [List.size_toArray, hl1]; omega)
  obtain ⟨W2, hW2⟩ : ∃ W2, W2 = W1.setRow b (Go.V.splice (Go.V.splice cur.toList (i * 4) news) ((i + (len - j)) * 4) cs).toArray := ⟨_, rfl⟩
  have hcl : ∀ ty, (Builtin.clear_ #[73] ty #[.slice (some ⟨b, (i + (len - j)) * 4, none⟩) (len - (i + (len - j))) (cap - (i + (len - j)))]).run Tryz.prog W1 = .ok (.tuple #[]) W2 := fun ty => by rw [hW2]; exact hcl0 ty
  have X : Hid (DelEnd 4 b cap i j len cur et w (.returned (.slice (some ⟨b, 0, none⟩) (i + (len - j)) cap)) W2) := delEnd_of hb hs hlc hij hj hnews (by rw [hcs]; congr 1; omega) hW1 hW2
  clear hW1 hW2 hb hb1 hl1 hcs hcl0 hone hnone hsrc hnl hnews
  go_enter func67, nt67
  go_wp2_with fail
  go_region_law_o (refine step_appendAt rfl (.tmp 22) (.tmp 25) 73 rfl (.slice (some ⟨b, 0, none⟩) (i + (len - j)) cap) W1 (by simp [Act.eval, Act.put]; exact hap.out 73) ?_)
  go_wp2
  go_ret
  exact X.out
def c67 : Mt := ctM (lc (ERc.aow true 4) (lc AInt (lc AInt l0))) (fun p => 0 ≤ p.2.1 ∧ p.2.1 < p.2.2.1 ∧ p.2.2.1 ≤ p.1.length) (fun p => ([.any, .t (.v (.int .i64 p.2.1)), .t (.v (.int .i64 p.2.2.1))], .o true 4 ((p.1.take p.2.1.toNat ++ p.1.drop p.2.2.1.toNat).map encRc)))
theorem good67 {G : Gt} (hG : OkG G) : Gd G 67 (muEnt c67) := Good.ofM (by kernel_rfl) fun ⟨xs, i, j, _⟩ h => by
  obtain ⟨h0, h1, h2⟩ := h
  dsimp only at h0 h1 h2 ⊢
  obtain ⟨a, rfl⟩ := Int.eq_ofNat_of_zero_le h0
  obtain ⟨c, rfl⟩ := Int.eq_ofNat_of_zero_le (show 0 ≤ j by omega)
  have := con_del (m := G.m) del67 (xs.map encRc) a c (by omega) (by rw [List.length_map]; omega)
  rw [← List.map_take, ← List.map_drop, ← List.map_append] at this
  exact this
theorem func68 : Tryz.prog.funcs[68]? = some Tryz.f68 := by kernel_rfl
theorem nt68 : Tryz.f68.ntmps = 33 := rfl
noncomputable def inf68 : TypeInfo := (Tryz.prog.info? 75).get (by kernel_rfl)
theorem inf68_is : Tryz.prog.info? 75 = some inf68 := by kernel_rfl
theorem inf68_size : inf68.size = 5 := by kernel_rfl
theorem zv68 (w : World) : (zeroValue 75).run Tryz.prog w = .ok (.agg #[.int .i64 0, .string ⟨#[]⟩, .string ⟨#[]⟩, .slice none 0 0, .slice none 0 0]) w := by kernel_rfl
set_option maxHeartbeats 4000000 in
theorem del68 : DelRaw Tryz.prog 68 5 := by
  intro w b cap i j len cur et hb hs hlc hm hij hj hone
  have t0 : Tryz.prog.underlying 0 = some (TypeDesc.tuple #[]) := by kernel_rfl
  have a0 : ∀ w, (isAgg 0).run Tryz.prog w = .ok false w := run_isAgg_plain t0 rfl
  have t3 : Tryz.prog.underlying 3 = some (.int .i64) := by kernel_rfl
  have a3 : ∀ w, (isAgg 3).run Tryz.prog w = .ok false w := run_isAgg_plain t3 rfl
  have t4 : Tryz.prog.underlying 4 = some .bool := by kernel_rfl
  have a4 : ∀ w, (isAgg 4).run Tryz.prog w = .ok false w := run_isAgg_plain t4 rfl
  have tS : Tryz.prog.underlying 23 = some (.slice 75) := by kernel_rfl
  have aS : ∀ w, (isAgg 23).run Tryz.prog w = .ok false w := run_isAgg_plain tS rfl
  have zE : ∀ w, (Go.sizeOf 75).run Tryz.prog w = .ok 5 w := fun w => by kernel_rfl
  have mixed : Tryz.prog.follows .mixedOrders = true := by kernel_rfl
  have hic : i ≤ cap := by omega
  have hjc : j ≤ cap := by omega
  have hil : i ≤ len := by omega
  obtain ⟨news, hnews⟩ : ∃ news, news = (cur.toList.drop (j * 5)).take ((len - j) * 5) := ⟨_, rfl⟩
  have hcl : cur.toList.length = cap * 5 := by simp [hs]
  have hnl : news.length = (len - j) * 5 := by rw [hnews, List.length_take, List.length_drop, hcl]; omega
  obtain ⟨A, hA, hsrc⟩ : ∃ A : Addr, (if cap = j then some (⟨b, 0, none⟩ : Addr) else some ⟨b, j * 5, none⟩) = some A ∧ (∀ t u, news[t]? = some u → w.drew.cell? (A.add t) = some u) := by
    by_cases h : cap = j
    · refine ⟨⟨b, 0, none⟩, by simp [h], fun t u hu => ?_⟩
      have : t < news.length := (List.getElem?_eq_some_iff.1 hu).1
      omega
    · refine ⟨⟨b, j * 5, none⟩, by simp [h], fun t u hu => ?_⟩
      rw [hnews, List.getElem?_take] at hu
      split at hu
      · rw [List.getElem?_drop] at hu
        show w.cell? _ = _
        rw [Addr.add_lit]
        simp only [World.cell?, hb]
        simpa using hu
      · cases hu
  have hnone : ∀ u ∈ news, u.oneCell' = true := fun u hu => by
    rw [hnews] at hu
    refine hone u ?_
    rw [show (len - j) * 5 = len * 5 - j * 5 by omega, ← List.drop_take] at hu
    exact List.mem_of_mem_drop hu
  obtain ⟨W1, hW1⟩ : ∃ W1, W1 = w.drew.setRow b (Go.V.splice cur.toList (i * 5) news).toArray := ⟨_, rfl⟩
  have hap : Hid (∀ ty, (Builtin.append_ #[23, 23] ty #[.slice (some ⟨b, 0, none⟩) i cap, .slice (some A) (len - j) (cap - j)]).run Tryz.prog w.drew = .ok (.slice (some ⟨b, 0, none⟩) (i + (len - j)) cap) W1) := fun ty => by
    have := run_appendAt (P := Tryz.prog) w.drew 23 ty 75 inf68 tS inf68_is b i cap cur et hb A (len - j) (cap - j) news (by rw [inf68_size]; exact hnl) hsrc hnone (by omega) (by rw [inf68_size, hnl, hs]; omega)
    rw [inf68_size] at this
    rw [hW1]; exact this
  have hl1 : (Go.V.splice cur.toList (i * 5) news).length = cap * 5 := by rw [splice_len (by omega), hcl]
  have hb1 : W1.heap[b]? = some (.cells (Go.V.splice cur.toList (i * 5) news).toArray et (0, 0)) := by rw [hW1]; exact setRow_heap w.drew b _ _ et _ hb
  obtain ⟨cs, hcs, hcl0⟩ := run_clearAt (P := Tryz.prog) W1 23 75 (.agg #[.int .i64 0, .string ⟨#[]⟩, .string ⟨#[]⟩, .slice none 0 0, .slice none 0 0]) 5 tS zv68 rfl (by intro u hu; simp [Value.cells] at hu; rcases hu with rfl | rfl | rfl | rfl | rfl <;> rfl) b ((i + (len - j)) * 5) (len - (i + (len - j))) (cap - (i + (len - j))) (by omega) _ et hb1 (by rw [List.size_toArray, hl1]; omega)
  obtain ⟨W2, hW2⟩ : ∃ W2, W2 = W1.setRow b (Go.V.splice (Go.V.splice cur.toList (i * 5) news) ((i + (len - j)) * 5) cs).toArray := ⟨_, rfl⟩
  have hcl : ∀ ty, (Builtin.clear_ #[23] ty #[.slice (some ⟨b, (i + (len - j)) * 5, none⟩) (len - (i + (len - j))) (cap - (i + (len - j)))]).run Tryz.prog W1 = .ok (.tuple #[]) W2 := fun ty => by rw [hW2]; exact hcl0 ty
  have X : Hid (DelEnd 5 b cap i j len cur et w (.returned (.slice (some ⟨b, 0, none⟩) (i + (len - j)) cap)) W2) := delEnd_of hb hs hlc hij hj hnews (by rw [hcs]; congr 1; omega) hW1 hW2
  clear hW1 hW2 hb hb1 hl1 hcs hcl0 hone hnone hsrc hnl hnews
  go_enter func68, nt68
  go_wp2_with fail
  go_region_law_o (refine step_appendAt rfl (.tmp 22) (.tmp 25) 23 rfl (.slice (some ⟨b, 0, none⟩) (i + (len - j)) cap) W1 (by simp [Act.eval, Act.put]; exact hap.out 23) ?_)
  go_wp2
  go_ret
  exact X.out
def c68 : Mt := ctM (lc (EIm.aow true 5) (lc AInt (lc AInt l0))) (fun p => 0 ≤ p.2.1 ∧ p.2.1 < p.2.2.1 ∧ p.2.2.1 ≤ p.1.length) (fun p => ([.any, .t (.v (.int .i64 p.2.1)), .t (.v (.int .i64 p.2.2.1))], .o true 5 ((p.1.take p.2.1.toNat ++ p.1.drop p.2.2.1.toNat).map encIm)))
theorem good68 {G : Gt} (hG : OkG G) : Gd G 68 (muEnt c68) := Good.ofM (by kernel_rfl) fun ⟨xs, i, j, _⟩ h => by
  obtain ⟨h0, h1, h2⟩ := h
  dsimp only at h0 h1 h2 ⊢
  obtain ⟨a, rfl⟩ := Int.eq_ofNat_of_zero_le h0
  obtain ⟨c, rfl⟩ := Int.eq_ofNat_of_zero_le (show 0 ≤ j by omega)
  have := con_del (m := G.m) del68 (xs.map encIm) a c (by omega) (by rw [List.length_map]; omega)
  rw [← List.map_take, ← List.map_drop, ← List.map_append] at this
  exact this
end Go.V
namespace Go.V
open Go Go.Proofs
set_option maxRecDepth 100000
set_option linter.unusedSimpArgs false
set_option linter.unusedVariables false
attribute [local go_sem_proc] Nat.reduceAdd Nat.reduceMul Nat.reduceLeDiff Nat.reduceEqDiff reduceCtorEq Nat.reduceSub Int.reduceNeg Nat.reduceMod Nat.reduceBEq Nat.reduceLT
attribute [local go_sem] aPickB.eq_1 aPickB.eq_2 aPick.eq_1 aBox.eq_1 aBox.eq_2 aAlloc.eq_1 aAlloc.eq_2 aLoadB.eq_1 aLoadB.eq_2 aLoadB.eq_3 aLoadB.eq_4 aLoadB.eq_5 aLoadA.eq_1 aLoadA.eq_2 aLoadA.eq_3 aLoadA.eq_4 aLoadA.eq_5 aLoadP.eq_1 aLoadP.eq_2 aLoadP.eq_3 aLoad.eq_1 aLoad.eq_2 aFAx.eq_1 aFAx.eq_2 aFAx.eq_3 aFA.eq_1 aFA.eq_2 aFx.eq_1 aF.eq_1 aF.eq_2 fld.eq_1 elT.eq_1 aIdxH.eq_1 aIdxH.eq_2 aIdxH.eq_3 aIdxH.eq_4 aIdxH.eq_5 aIdxP.eq_1 aIdxP.eq_2 aIndexAddr.eq_1 aIndexAddr.eq_2 aIndexAddr.eq_3 isStr.eq_1 aIndex.eq_1 aSlStr.eq_1 aSlRo.eq_1 aSlZ.eq_1 aSlZ.eq_2 aSlice.eq_1 aSlice.eq_2 aSlice.eq_3 bnd.eq_1 bnd.eq_2 aBuildO.eq_1 aBuildO.eq_2 aBuild.eq_1 aNewArr.eq_1 aNewArr.eq_2 aBS.eq_1 aBS.eq_2 aBuildSlice.eq_1 aBuildSlice.eq_2 aMakeSlice.eq_1 appDeep.eq_1 aApp2.eq_1 aAppend.eq_1 aAppend.eq_2 aStoreB.eq_1 aStoreA.eq_1 obFlat.eq_1 aStore2.eq_1 aStore2.eq_2 aStoreP.eq_1 aStoreP.eq_2 aStore.eq_1 aStore.eq_2 isShl.eq_1 isShl.eq_2 isBool.eq_1 aBinI.eq_1 aBinI.eq_2 aBinB.eq_1 aBinB.eq_2 aEq.eq_1 aEq.eq_2 aEq.eq_3 aEq.eq_4 aEqG.eq_1 aEqG.eq_2 aBin.eq_1 aBin.eq_2 aBin.eq_3 aBin.eq_4 aUn.eq_1 aUn.eq_2 aLenO.eq_1 aLenS.eq_1 aLenS.eq_2 aLenS.eq_3 aLenT.eq_1 aLen.eq_1 aLen.eq_2 aLen.eq_3 bytesOb.eq_1 bytesOb.eq_2 bytesOf.eq_1 bytesOf.eq_2 aNums.eq_1 aNums.eq_2 isU8.eq_1 aCvI.eq_1 aCvS.eq_1 aCvB.eq_1 aCvB.eq_2 aCvT.eq_1 aConv.eq_1 aConv.eq_2 aConv.eq_3 aConv.eq_4 aExO.eq_1 aExO.eq_2 aExtract.eq_1 aNil.eq_1 aNil.eq_2 aNil.eq_3 aCallS.eq_1 aCallS.eq_2 aCallR.eq_1 aCallR.eq_2 aCallK.eq_1 aCallK.eq_2 aCallK.eq_3 aCall.eq_1 aCall.eq_2 takeO.eq_1 AS.takeV.eq_1 AS.takeV.eq_2 AS.takeV.eq_3 AS.takeV.eq_4 AS.takeV.eq_5 AS.takeV.eq_6 AS.takeV.eq_7 AV.oldM.eq_1 AV.oldM.eq_2 AV.oldM.eq_3 AV.oldM.eq_4 AV.oldM.eq_5 AV.oldM.eq_6 AV.oldM.eq_7 AV.oldM.eq_8 AV.oldM.eq_9 AV.oldM.eq_10 AV.oldM.eq_11 AV.oldML.eq_1 AV.oldML.eq_2 subL.eq_1 subL.eq_2 back.eq_1 back.eq_2 back.eq_3 back.eq_4 backL.eq_1 backI.eq_1 backI.eq_2 backI.eq_3 backI.eq_4 backIL.eq_1 aBuiltin.eq_1 aBuiltin.eq_2 aBuiltin.eq_3 aCallee.eq_1 aCallee.eq_2 aCallee.eq_3 abin.eq_1 abin.eq_2 abin.eq_3 abin.eq_4 abin.eq_5 abin.eq_6 abin.eq_7 abin.eq_8 abin.eq_9 abin.eq_10 abin.eq_11 abin.eq_12 abin.eq_13 abin.eq_14 abin.eq_15 abin.eq_17 abin.eq_18 abin.eq_19 abin.eq_20 abin.eq_21 abin.eq_22 abin.eq_23 AS.ev.eq_1 AS.ev.eq_2 AS.ev.eq_3 AS.ev.eq_4 AS.evs.eq_1 AS.evs.eq_2 AS.evp.eq_1 AS.evp.eq_2 AS.put.eq_1 AS.put.eq_2 AS.remL.eq_1 AS.remL.eq_2 AV.has.eq_1 AV.has.eq_2 AV.has.eq_3 AV.has.eq_4 AV.has.eq_5 AV.has.eq_6 AV.has.eq_7 AV.has.eq_8 AV.has.eq_9 AV.has.eq_10 AV.has.eq_11 AV.hasL.eq_1 AV.hasL.eq_2 Ob.drop.eq_1 Ob.drop.eq_2 Ob.drop.eq_3 Ob.drop.eq_4 AV.cells.eq_1 AV.cells.eq_2 AV.cells.eq_3 AV.cells.eq_4 AV.cells.eq_5 AS.snapT.eq_1 AS.snapT.eq_2 AS.snapT.eq_3 AS.snapT.eq_4 AS.snapT.eq_5 AS.snapT.eq_6 AS.snapT.eq_7 AS.snap.eq_1 AS.snap.eq_2 mapO.eq_1 mapO.eq_2 intern.eq_1 intern.eq_2 intern.eq_3 intern.eq_4 intern.eq_5 intern.eq_6 intern.eq_7 intern.eq_8 intern.eq_9 intern.eq_10 intern.eq_11 internL.eq_1 internL.eq_2 zipSl.eq_1 zipSl.eq_2 AV.ids.eq_1 AV.ids.eq_2 AV.ids.eq_3 AV.ids.eq_4 AV.ids.eq_5 AV.ids.eq_6 AV.ids.eq_7 AV.ids.eq_8 AV.ids.eq_9 AV.ids.eq_10 AV.ids.eq_11 AV.idsL.eq_1 AV.idsL.eq_2 AV.sub.eq_1 AV.sub.eq_2 AV.sub.eq_3 AV.sub.eq_4 AV.sub.eq_5 AV.sub.eq_6 AV.sub.eq_7 AV.sub.eq_8 AV.sub.eq_9 AV.sub.eq_10 AV.sub.eq_11 AV.subL.eq_1 AV.subL.eq_2 AS.frzL.eq_1 AS.frzL.eq_2 AS.absT.eq_1 AS.absT.eq_2 AS.absT.eq_4 AS.absL.eq_1 AS.absL.eq_2 AS.absOk.eq_1 AS.absOkL.eq_1 AS.absOkL.eq_2 hid.eq_1 hids.eq_1 hids.eq_2 AS.appBase.eq_1 AS.appBase.eq_2 AS.appSrc.eq_1 appFits.eq_1 appFits.eq_2 appFits.eq_3 avFill.eq_1 avFill.eq_2 avc.eq_1 avc.eq_2 avc1.eq_1 Kd.agg.eq_1 Kd.agg.eq_2 okR.eq_1 okR.eq_2 okR.eq_3 okR.eq_4 okR.eq_5 okR.eq_6 okR.eq_7 okR.eq_8 zt.eq_1 rvB.eq_1 rvP.eq_1 rvA.eq_1 rvA.eq_2 rv1.eq_1 outTO.eq_1 outT.eq_1 outT.eq_2 outT.eq_3 outTn.eq_1 outOO.eq_1 outO.eq_1 outO.eq_2 boxOf.eq_1 outP.eq_1 outP.eq_2 outP.eq_3 outP.eq_4 outP.eq_5 outP.eq_6 outP.eq_7 outP.eq_8 outPL.eq_1 outPL.eq_2 outI.eq_1 outI.eq_2 outI.eq_3 outI.eq_4 outI.eq_5 outIL.eq_1 outZ.eq_1 outZ.eq_2 outZ.eq_3 outZ.eq_4 outZ.eq_5 outZL.eq_1 finO.eq_1 finO.eq_2 fin.eq_1 fin.eq_2 fin.eq_3 cellAV.eq_1 cellAV.eq_2 numsOf.eq_1 numsOf.eq_2 aop.eq_1 aop.eq_2 aop.eq_3 aop.eq_4 aop.eq_5 aop.eq_6 aop.eq_7 aop.eq_8 aop.eq_9 aop.eq_10 aop.eq_11 aop.eq_12 aop.eq_13 aop.eq_14 aop.eq_15 aop.eq_16 aop.eq_17 aop.eq_18 aop.eq_19 aop.eq_20 aop.eq_21 aop.eq_22 aop.eq_23 aop.eq_24 aop.eq_25 aop.eq_26 tmpsOf.eq_1 tmpsOf.eq_2 tmpsOf.eq_3 tmpsOf.eq_4 tmpsOf.eq_5 AV.refs.eq_1 AV.refs.eq_2 AV.refs.eq_3 AV.refs.eq_4 AV.refs.eq_5 AV.refs.eq_6 AV.refs.eq_7 AV.refs.eq_8 AV.refs.eq_9 AV.refs.eq_10 AV.refs.eq_11 AV.refsL.eq_1 AV.refsL.eq_2 refsT.eq_1 refsT.eq_2 refsO.eq_1 refsO.eq_2 refsO.eq_3 refsO.eq_4 refsO.eq_5 refsO.eq_6 refsB.eq_1 refsB.eq_2 clos.eq_1 clos.eq_2 keepL.eq_1 keepL.eq_2 AV.hasM.eq_1 AV.hasM.eq_2 AV.hasM.eq_3 AV.hasM.eq_4 AV.hasM.eq_5 AV.hasM.eq_6 AV.hasM.eq_7 AV.hasM.eq_8 AV.hasM.eq_9 AV.hasM.eq_10 AV.hasM.eq_11 AV.hasML.eq_1 AV.hasML.eq_2 Ob.dropM.eq_1 Ob.dropM.eq_2 Ob.dropM.eq_3 Ob.dropM.eq_4 nsC.eq_1 nsC.eq_2 okGuard.eq_1 okGuard.eq_2 AS.purges.eq_1 AS.purges.eq_2 dropMB.eq_1 dropMB.eq_2 newB.eq_1 newB.eq_2 ptB.eq_1 ptB.eq_2 lookC.eq_1 lookC.eq_2 dropB.eq_1 dropB.eq_2 leS.eq_1 leS.eq_2 leT.eq_1 leT.eq_2 AS.mvs.eq_1 AS.mvs.eq_2 AS.mvA.eq_1 AS.mvA.eq_2 AS.mvB.eq_1 aSetO.eq_1 aSetO.eq_2 aSh.eq_1 aSh.eq_2 arK.eq_1 aIdxA.eq_1 aIdxA.eq_2 arT.eq_1 aSlHB.eq_1 aSlHB.eq_2 aSlHO.eq_1 aSlHZ.eq_1 aSlHZ.eq_2 isSlT.eq_1 isNilC.eq_1 aNilO.eq_1 aNilX.eq_1 aNilX.eq_2 aNilX.eq_3 aNilC.eq_1 aNilC.eq_2 aBinQ.eq_1 aBinQ.eq_2 aMin.eq_1 flT.eq_1 flT.eq_2 flT.eq_3 mpT.eq_1 aMkMap.eq_1 aMkMap.eq_2 strA.eq_1 keyMK.eq_1 keyMK.eq_2 keyMK.eq_3 mkB.eq_1 mkB.eq_2 mkB.eq_3 aMp2.eq_1 aMp1.eq_1 aMp0.eq_1 aMapU.eq_1 aLk2.eq_1 aLk2.eq_2 aLk1.eq_1 aLk0.eq_1 aLookup.eq_1 aLenMO.eq_1 aLenM.eq_1 glV.eq_1 glV.eq_2 evG.eq_1 evG.eq_2 evG.eq_3 evG.eq_4 lkHitO.eq_1 lkHitO.eq_2 lkHitO.eq_3 lkHitO.eq_4 lkHit.eq_1 lkHit.eq_2 lkF.eq_1 lkF.eq_2 lkFind.eq_1 lkFind.eq_2 lkV.eq_1 lkV.eq_2 lkV.eq_3 lkV.eq_4 lkV.eq_5 AS.lkO.eq_1 AS.lkO.eq_2 AS.lkOf.eq_1 rawT.eq_1 rawT.eq_2 rawT.eq_3 rawT.eq_4 rawT.eq_5 rawT.eq_6 rawOf.eq_1 rawOf.eq_2 rawOf.eq_3 rawOf.eq_4 rawOf.eq_5 rawOf.eq_6 rawOf.eq_7 rawOf.eq_8 rawOf.eq_9 rawOf.eq_10 rawOf.eq_11 aLkR.eq_1 aLkR.eq_2 aLk.eq_1 aLk.eq_2 KL.eq_1 lkDrop.eq_1 lkDrop.eq_2 lkParO.eq_1 lkParO.eq_2 lkParO.eq_3 lkParO.eq_4 lkPar.eq_1 lkPar.eq_2 lkI.eq_1 lkI.eq_2 lkIds.eq_1 lkIds.eq_2 adLd.eq_1 run_nil run_b run_l run_skip run_label run_seq run_cond brV_b brB_t brB_f run_block run_exit run_ret run_region runX_nil runX_c runX_c' runX_b runX_b' runX_l runX_l' exB_t exB_f run_o run_op run_opg gV_b gV_t gB_tt gB_ff gB_tf gB_ft rs_eq kv KI aLenN aBS1 aApp1 aStore1 szOk gv gd s0 idOf look_cons lookC frzU_t frzU_f orT orF drop_any drop_nil drop_t drop_h drop_pb drop_pa drop_agg drop_tup drop_fn dropB kill_eq set_eq rem_eq re_eq up_eq get_eq ob_eq Ob.drop apl fpl plainTy AS.frz splice cond_true cond_false List.map_cons List.map_nil List.drop_zero List.drop_succ_cons List.drop_nil List.take_zero List.take_succ_cons List.take_nil List.getElem?_cons_zero List.getElem?_cons_succ List.getElem?_nil List.length_cons List.length_nil Option.map_some Option.map_none Option.bind_some Option.bind_none List.cons_append List.nil_append List.append_nil Option.getD_some Option.getD_none List.all_cons List.all_nil Bool.and_true Bool.true_and Bool.or_false Bool.false_or Bool.or_true Bool.true_or List.flatten_cons List.flatten_nil List.replicate_succ List.replicate_zero and_true true_and avOf_t avOf_f agg_bool agg_int agg_str agg_slice agg_struct agg_func agg_ptr agg_map avc_bool avc_int avc_str avc_fn avc1_bool avc1_int avc1_str avc1_fn zt_bool zt_int zt_str cells_nil cells_t cells_h cells_pb cells_fn snap_t snap_nil snap_h snap_pb snap_fn rv1_one rv1_two outI_t outI_oh outI_on outI_any outI_nil outZ_th outZ_tt outZ_tn outZ_o outZ_any outZ_nil outIL_nil outZL_nil finN finR ne_eq not_false_eq_true not_true_eq_false List.nodup_nil List.not_mem_nil false_implies implies_true eq_self true_or or_true Option.some.injEq shl_add shl_sub shl_mul shl_quo shl_rem shl_and shl_or shl_xor shl_andNot shl_eql shl_neq shl_lss shl_leq shl_gtr shl_geq shl_shr shl_shl appDeep_none appDeep_sn appSrc_h appSrc_nil fits_ft fits_tn fits_tf isStr_slice obFlat_box Nat.le_refl nbeq_self List.length_map updZ_s updZ_n dropM_eq purge_eq newIds_cons newIds_nil purgeT_nil purgeT_cons memN_cons memN_nil bd_d bd_c bd_g bd_p bd_t bd_o preds_nil preds_cons hasIns insB List.any_cons List.any_nil adK_eq adr_nil adG_eq kdOp noLen creates Op.operands Call.operands nsOf adT adI adJ plainB rst List.append_eq nsD_f nsD_n nsD_t nOf_0 nOf_1 nOf_2 chO_0 chO_1 chO_2 keepK_0 keepK_1 keepK_2 eqRes AS.mv fits KM aCallM notNew kdCall arK_i64 arK_i32 arK_u8 arK_u64 arT_sl isNilC_t isNilC_f isNilC_g isNilC_i isNilC_b isNilC_s isNilC_a isNilC_n andBF andBT aCallK_2 ble_dec hid_t hid_nil hid_any hid_pb hid_fn absOk_t absOk_nil absOk_pb absOk_h absOkO_1 decide_true decide_false Array.toList_append chunk_0 chunk_1 chunk_2 chunk_3 back_t back_nil back_ht backL_nil backI_t backI_nil backI_ht backIL_nil AS.mvJ nbeq_dec runR_f runR_t loadB Option.isSome_some Option.isSome_none nodup1 adr_none adr_some adO_s adV_b adV_t adB_tt adB_ff adB_tf adB_ft adS_eq lenL.eq_1 lenO.eq_1 lenO.eq_2 lenV.eq_1 lenV.eq_2 lenV.eq_3 lenV.eq_4 optN optS absT_ft
attribute [local go_sem] ty3 ty4 ty5 ty9 ty21 ty22 ty23 ty25 ty27 ty28 ty29 ty31 ty33 ty43 ty45 ty46 ty48 ty54 ty57 ty59 ty60 ty62 ty73 ty75 ty91 ty96 ty98 ty101 ty104 ty120 ty125 ty129 ty146 ty166 ty207 ty220 ty237 lv27 lv91 lv104 lv120 zb4 leS leT fits AS.mvs encStr_eq aIdx_str EStr_dec decStrs decStrs0 EStr_enc EStr_n encInt_eq aIdx_int EInt_dec decInts decInts0 EInt_enc EInt_n AllV_Int len_Int lc_enc l0_enc asl_enc ag_enc aow_enc ABool_enc AInt_enc AStr_enc AU8_enc ABool_dec AInt_dec AStr_dec AU8_dec asl_dec ag_dec aow_dec bind_some pr2.eq_1 l0_nil lc_cons unT.eq_1 K0.eq_1 M0.eq_1 KI AllV_Str len_Str ctR_eq ctM_eq ro_kd ro_ro mu_kd mu_mu encAd_eq aIdx_Ad EAd_dec decAds decAds0 EAd_enc EAd_n len_Ad Ad_eta AllV_Ad encMl_eq aIdx_Ml EMl_dec decMls decMls0 EMl_enc EMl_n len_Ml Ml_eta mkMl.eq_1 owMl_eq AMl_enc AMl_dec encRc_eq aIdx_Rc ERc_dec decRcs decRcs0 ERc_enc ERc_n len_Rc Rc_eta AllV_Rc encIm_eq aIdx_Im EIm_dec decIms decIms0 EIm_enc EIm_n len_Im Im_eta mkIm.eq_1 owIm_eq AIm_enc AIm_dec encSp_eq aIdx_Sp ESp_dec decSps decSps0 ESp_enc ESp_n len_Sp Sp_eta mkSp.eq_1 owSp_eq ASp_enc ASp_dec encNt_eq aIdx_Nt ENt_dec decNts decNts0 ENt_enc ENt_n len_Nt Nt_eta mkNt.eq_1 owNt_eq ANt_enc ANt_dec
theorem dn_pos {xs : List Im} {i k : Nat} (hi : i < xs.length) (h : ((xs.getD i default).to.take k ++ (xs.getD i default).to.drop (k + 1)).length = 0) {y : Im} : (xs.set i y).take i ++ (xs.set i y).drop (i + 1) = dnL xs i k := by
  unfold dnL
  rw [if_pos (show (dnIm (xs.getD i default) k).to = [] from List.eq_nil_of_length_eq_zero h), List.take_set_of_le (Nat.le_refl _), List.drop_set_of_lt (Nat.lt_succ_self _)]
theorem dn_neg {xs : List Im} {i k : Nat} (hi : i < xs.length) (h : ¬ ((xs.getD i default).to.take k ++ (xs.getD i default).to.drop (k + 1)).length = 0) : xs.set i ⟨(xs.getD i default).id, (xs.getD i default).frm, (xs.getD i default).to.take k ++ (xs.getD i default).to.drop (k + 1), (xs.getD i default).body⟩ = dnL xs i k := by
  unfold dnL
  rw [if_neg (fun e => h (by rw [show (xs.getD i default).to.take k ++ (xs.getD i default).to.drop (k + 1) = [] from e]; rfl)), List.set_eq_take_append_cons_drop, if_pos hi]
  rfl
theorem back_ha {dst id k : Nat} {s : AS} : back dst (.h id) .any k s = (s, k) := rfl
theorem backI_ha {id : Nat} : backI (.h id) .any = [] := rfl
def c28 : Ct := ctR (lc ESp.ag (lc AInt (lc EAd.ag l0))) (fun p => OkSp p.1) (fun p => owSB (SDone p.1 p.2.1 p.2.2.1))
section
attribute [local go_sem] c10 c26 c66 c67 c68 back_ha backI_ha List.length_map List.length_set Int.toNat_natCast aCell_map aSet_map owSB AS.opn AS.cls AS.nilb AS.renb Bool.not_false Bool.not_true List.set_set List.set_cons_zero List.set_cons_succ List.set_nil List.mem_singleton forall_eq
set_option maxHeartbeats 3200000 in
theorem good28 {G : Gt} (hG : OkG G) (hh : G.e 10 = roEnt 0 c10 ∧ G.e 26 = roEnt 0 c26 ∧ G.e 66 = roEnt 0 c66 ∧ G.e 67 = muEnt c67 ∧ G.e 68 = muEnt c68) : Gd G 28 (roEnt 0 c28) := by
  refine gR (dp := fun n => !(Nat.beq n 100007 || Nat.beq n 100008 || Nat.beq n 100009 || Nat.beq n 100010)) (fn := Tryz.f28) (n := 3) (fun _ => rfl) (by kernel_rfl) rfl (by kernel_rfl) hG (Nat.le_of_ble_eq_true rfl) (by kernel_rfl) (by decide) (fun _ p => owSB_solid _) ?_
  rintro ⟨s, n, a, ⟨⟩⟩ hpre
  have hok' : OkL OkIm s.items := hpre
  have hmx := hok'.1
  dsimp only at hpre ⊢
  by_cases h : SpOk s
  · have b1 := bOf_y h
    by_cases hi : atIm s n < 0
    · rw [SDone_i h hi]
      simp -implicitDefEqProofs only [Tryz.f28, b1, findR_n hi, go_sem, hh]
      repeat' (first | with_reducible apply And.intro | with_reducible intro _ | ((first | apply brB_split | apply aPickB_split | apply gB_split | apply adB_split) <;> intro hb <;> simp -implicitDefEqProofs only [hb, go_sem, hh] <;> try simp only [qz] at hb))
      all_goals first | rfl | omega | assumption | decide | skip
      all_goals trace_state
    · by_cases hk : atRc (theIm s n) a < 0
      · have hk' : ¬ atRc (theIm s n) a ≥ 0 := by omega
        rw [SDone_k h hi hk]
        simp -implicitDefEqProofs only [Tryz.f28, b1, findR_y hi, hk', decide_false, go_sem, hh]
        repeat' (first | with_reducible apply And.intro | with_reducible intro _ | ((first | apply brB_split | apply aPickB_split | apply gB_split | apply adB_split) <;> intro hb <;> simp -implicitDefEqProofs only [hb, go_sem, hh] <;> try simp only [qz] at hb))
        all_goals first | rfl | omega | assumption | decide | skip
        all_goals trace_state
      · obtain ⟨hi0, hi1⟩ := atIm_lt hi
        obtain ⟨hk0, hk1⟩ := atRc_lt hk
        obtain ⟨ni, hni⟩ := Int.eq_ofNat_of_zero_le hi0
        obtain ⟨nk, hnk⟩ := Int.eq_ofNat_of_zero_le hk0
        have hth : theIm s n = s.items.getD ni default := by unfold theIm; rw [hni, Int.toNat_natCast]
        have hf := findR_yn hni hth hnk
        rw [SDone_y h hi hk, hni, hnk, Int.toNat_natCast, Int.toNat_natCast]
        rw [hni] at hi1
        rw [hnk, hth] at hk1
        have hx := hok'.at (i := ni) (by omega)
        have hmx2 : ((s.items.getD ni default).to.length : Int) ≤ 1048576 := hx.2.1.1
        have hi2 : ni < s.items.length := by omega
        have hk2 : nk < (s.items.getD ni default).to.length := by omega
        have hi3 : ni < (s.items.map encIm).length := by rw [List.length_map]; exact hi2
        have e1 : ((ni : Int) + 1).toNat = ni + 1 := by omega
        have e2 : ((nk : Int) + 1).toNat = nk + 1 := by omega
        have hdl := dn_len hk2
        simp -implicitDefEqProofs only [Tryz.f28, b1, hf, go_sem, hh]
        repeat' (first | with_reducible apply And.intro | with_reducible intro _ | ((first | apply brB_split | apply aPickB_split | apply gB_split | apply adB_split) <;> intro hb <;> simp -implicitDefEqProofs only [hb, go_sem, hh] <;> try simp only [qz] at hb))
        all_goals first | rfl | omega | assumption | decide | skip
        refine run_open 1017 1901 2901 ni 3 rfl (map_get encIm hi2) rfl rfl fun x => run_go ?_
        simp -implicitDefEqProofs only [aCell_set hi3, aSet_set hi3, e1, e2, go_sem, hh]
        repeat' (first | with_reducible apply And.intro | with_reducible intro _ | ((first | apply brB_split | apply aPickB_split | apply gB_split | apply adB_split) <;> intro hb <;> simp -implicitDefEqProofs only [hb, go_sem, hh] <;> try simp only [qz] at hb))
        all_goals first | rfl | omega | assumption | decide | skip
        all_goals refine run_open 1017 1902 2902 ni 3 rfl (set_get hi3 _) rfl rfl fun y => run_go ?_
        all_goals by_cases hl : (((s.items.getD ni default).to.take nk ++ (s.items.getD ni default).to.drop (nk + 1)).length : Int) = 0
        all_goals simp -implicitDefEqProofs only [aCell_set hi3, aSet_set hi3, hl, decide_true, decide_false, e1, e2, go_sem, hh]
        all_goals repeat' (first | with_reducible apply And.intro | with_reducible intro _ | ((first | apply brB_split | apply aPickB_split | apply gB_split | apply adB_split) <;> intro hb <;> simp -implicitDefEqProofs only [hb, go_sem, hh] <;> try simp only [qz] at hb))
        all_goals first | rfl | omega | assumption | decide | contradiction | skip
        all_goals refine run_close 1017 1902 2902 ni 3 rfl (set_get hi3 _) rfl rfl rfl rfl (run_go ?_)
        all_goals simp -implicitDefEqProofs only [set_Im, e1, e2, go_sem, hh]
        all_goals repeat' (first | with_reducible apply And.intro | with_reducible intro _ | ((first | apply brB_split | apply aPickB_split | apply gB_split | apply adB_split) <;> intro hb <;> simp -implicitDefEqProofs only [hb, go_sem, hh] <;> try simp only [qz] at hb))
        all_goals first
          | rfl
          | omega
          | assumption
          | decide
          | contradiction
          | exact congrArg (List.map encIm) (dn_neg hi2 (fun e => hl (by exact congrArg Int.ofNat e)))
          | (refine run_go ?_
             simp -implicitDefEqProofs only [go_sem, hh]
             repeat' (first | with_reducible apply And.intro | with_reducible intro _ | ((first | apply brB_split | apply aPickB_split | apply gB_split | apply adB_split) <;> intro hb <;> simp -implicitDefEqProofs only [hb, go_sem, hh] <;> try simp only [qz] at hb))
             all_goals first
               | rfl
               | omega
               | assumption
               | decide
               | exact congrArg (List.map encIm) (dn_pos hi2 (Int.ofNat.inj hl))
               | trace_state)
          | trace_state
  · have b1 := bOf_n h
    rw [SDone_no h]
    simp -implicitDefEqProofs only [Tryz.f28, b1, go_sem, hh]
    repeat' (first | with_reducible apply And.intro | with_reducible intro _ | ((first | apply brB_split | apply aPickB_split | apply gB_split | apply adB_split) <;> intro hb <;> simp -implicitDefEqProofs only [hb, go_sem, hh] <;> try simp only [qz] at hb))
    all_goals first | rfl | omega | assumption | decide | skip
    all_goals trace_state
end
def adRc (w : Int) (a : Ad) : Rc := ⟨a, 0, w⟩
def adIm (s : Sp) (m : Ml) (w : Int) : Im := ⟨s.last + 1, m.frm, m.to.map (adRc w), m.body⟩
def adSp (s : Sp) (m : Ml) (w : Int) : Sp := ⟨s.last + 1, s.items ++ [adIm s m w]⟩
def Room (s : Sp) : Prop := (s.items.length : Int) < 10 ∧ s.last < 999
open Classical in
noncomputable def SAdd (s : Sp) (m : Ml) (w : Int) : Sp × Bool := if SpOk s then (if MlOk m ∧ (0 ≤ w ∧ w ≤ 9999) ∧ Room s then (adSp s m w, true) else (s, false)) else (⟨0, []⟩, false)
theorem SAdd_no {s : Sp} {m : Ml} {w : Int} (h : ¬ SpOk s) : SAdd s m w = (⟨0, []⟩, false) := by unfold SAdd; rw [if_neg h]
theorem SAdd_n {s : Sp} {m : Ml} {w : Int} (h : SpOk s) (h2 : ¬ (MlOk m ∧ (0 ≤ w ∧ w ≤ 9999) ∧ Room s)) : SAdd s m w = (s, false) := by unfold SAdd; rw [if_pos h, if_neg h2]
theorem SAdd_y {s : Sp} {m : Ml} {w : Int} (h : SpOk s) (h2 : MlOk m ∧ (0 ≤ w ∧ w ≤ 9999) ∧ Room s) : SAdd s m w = (adSp s m w, true) := by unfold SAdd; rw [if_pos h, if_pos h2]
theorem take_rc {xs : List Ad} {w : Int} {i : Nat} (h : i < xs.length) : ((xs.map (adRc w)).take (i + 1)).map encRc = ((xs.map (adRc w)).take i).map encRc ++ [[.v (.string (xs.getD i default).user), .v (.string (xs.getD i default).domain), .v (.int .i64 0), .v (.int .i64 w)]] := by
  have e : (xs.map (adRc w)).getD i default = adRc w (xs.getD i default) := by
    simp only [List.getD_eq_getElem?_getD, List.getElem?_map, List.getElem?_eq_getElem h, Option.map_some, Option.getD_some]
  rw [take_snoc_map encRc (by rw [List.length_map]; exact h), e]
  rfl
def c110 : Ct := ctR (lc ESp.ag l0) (fun p => True) (fun p => .t (.v (.bool (bOf (Room p.1)))))
section
attribute [local go_sem] List.length_map
theorem good110 {G : Gt} (hG : OkG G) : Gd G 110 (roEnt 0 c110) := by
  refine gR (dp := fun _ => true) (fn := Tryz.f110) (n := 1) (fun _ => rfl) (by kernel_rfl) rfl (by kernel_rfl) hG (Nat.le_of_ble_eq_true rfl) (by kernel_rfl) (by decide) (fun _ _ => .v _) ?_
  rintro ⟨s, ⟨⟩⟩ hpre
  simp -implicitDefEqProofs only [Tryz.f110, go_sem] at hpre ⊢
  repeat' (first | with_reducible apply And.intro | with_reducible intro _ | ((first | apply brB_split | apply aPickB_split | apply gB_split | apply adB_split) <;> intro hb <;> simp -implicitDefEqProofs only [hb, go_sem] <;> try simp only [qz] at hb))
  all_goals first
    | rfl
    | omega
    | (rw [← bOf_d, bOf_congr]; exact ⟨fun h => ⟨by assumption, h⟩, fun h => h.2⟩)
    | (rw [bOf_n]; rintro ⟨h1, h2⟩; contradiction)
    | (rw [bOf_y]; exact ⟨by assumption, by assumption⟩)
    | trace_state
end
def c65 : Ct := ctR (lc ESp.ag l0) (fun p => True) (fun p => .t (.v (.bool (bOf (Room p.1)))))
section
attribute [local go_sem] List.length_map
theorem good65 {G : Gt} (hG : OkG G) : Gd G 65 (roEnt 0 c65) := by
  refine gR (dp := fun _ => true) (fn := Tryz.f65) (n := 1) (fun _ => rfl) (by kernel_rfl) rfl (by kernel_rfl) hG (Nat.le_of_ble_eq_true rfl) (by kernel_rfl) (by decide) (fun _ _ => .v _) ?_
  rintro ⟨s, ⟨⟩⟩ hpre
  simp -implicitDefEqProofs only [Tryz.f65, go_sem] at hpre ⊢
  repeat' (first | with_reducible apply And.intro | with_reducible intro _ | ((first | apply brB_split | apply aPickB_split | apply gB_split | apply adB_split) <;> intro hb <;> simp -implicitDefEqProofs only [hb, go_sem] <;> try simp only [qz] at hb))
  all_goals first
    | rfl
    | omega
    | (rw [← bOf_d, bOf_congr]; exact ⟨fun h => ⟨by assumption, h⟩, fun h => h.2⟩)
    | (rw [bOf_n]; rintro ⟨h1, h2⟩; contradiction)
    | (rw [bOf_y]; exact ⟨by assumption, by assumption⟩)
    | trace_state
end
def c111 : Ct := ctR (lc ESp.ag (lc EMl.ag (lc AInt l0))) (fun p => OkSp p.1 ∧ OkMl p.2.1 ∧ SpOk p.1) (fun p => .agg ((encSp (adSp p.1 p.2.1 p.2.2.1)).map .t))
section
attribute [local go_sem] tmap dmap List.take_length List.drop_zero List.length_take List.length_drop List.length_map List.length_append List.length_cons List.length_nil List.map_append List.map_nil List.map_cons List.nil_append Nat.zero_add List.mem_singleton forall_eq Bool.not_true Bool.not_false AS.opn AS.cls AS.nilb AS.renb List.set_set List.set_cons_zero List.set_cons_succ List.set_nil
set_option maxHeartbeats 1600000 in
theorem good111 {G : Gt} (hG : OkG G) : Gd G 111 (roEnt 1 c111) := by
  refine gR (dp := fun n => Nat.ble 100000 n && !(Nat.beq n 100002 || Nat.beq n 100004 || Nat.beq n 100007)) (fn := Tryz.f111) (n := 3) (fun _ => rfl) (by kernel_rfl) rfl (by kernel_rfl) hG (Nat.le_of_ble_eq_true rfl) (by kernel_rfl) (by decide) (fun h => by cases h) ?_
  rintro ⟨s, m, w, ⟨⟩⟩ hpre
  simp -implicitDefEqProofs only [Tryz.f111, go_sem] at hpre ⊢
  obtain ⟨hok, hml, hsp⟩ := hpre
  have hok' : OkL OkIm s.items := hok
  obtain ⟨_, ⟨hl1, _⟩, ⟨hl2, _⟩⟩ := hml
  obtain ⟨_, _, ⟨hs0, hs1⟩, hs2⟩ := hsp
  repeat' (first | with_reducible apply And.intro | with_reducible intro _ | ((first | apply brB_split | apply aPickB_split | apply gB_split | apply adB_split) <;> intro hb <;> simp -implicitDefEqProofs only [hb, go_sem] <;> try simp only [qz] at hb))
  all_goals (try simp only [maxLen] at *)
  all_goals first | rfl | omega | assumption | decide | skip
  all_goals
    refine run_le (Le.nilb 1007 3 1901 true 4 rfl rfl rfl) (run_go ?_)
    simp -implicitDefEqProofs only [go_sem]
    refine run_loop [] (ι := {i : Nat // i ≤ m.to.length}) (fun p => ⟨[(2, .t (.v (.int .i64 w))), (3, .pb 1003 0), (4, .pb 1004 0), (6, .pb 1006 0), (7, .pb 1007 0), (8, .t (.v (.int .i64 p.1)))], [(1003, some (.box [.t (.v (.int .i64 s.last)), .t (.sl 5 (s.items.map encIm))])), (1004, some (.box ((encMl m).map .t))), (1006, some (.box [.t (.v (.int .i64 0)), .nil])), (1007, some (.box [.t (.v (.int .i64 (s.last + 1))), .t (.v (.string m.frm.user)), .t (.v (.string m.frm.domain)), .h 1901, .h 1017])), (1017, some (.arr true 1 (m.body.map encStr))), (1901, some (.arr true 4 (((m.to.map (adRc w)).take p.1).map encRc)))]⟩) (fun p => m.to.length - p.1) ⟨0, by simp⟩ rfl ?_ ?_
    · simp -implicitDefEqProofs only [go_sem]
      simp
    · rintro ⟨i, hi⟩
      have hlen : ((m.to.map (adRc w)).take i).length = i := by simp; omega
      by_cases hlt : (i : Int) < m.to.length
      · simp -implicitDefEqProofs only [hlt, decide_true, Int.toNat_natCast, go_sem]
        repeat' (first | with_reducible apply And.intro | with_reducible intro _ | ((first | apply brB_split | apply aPickB_split | apply gB_split | apply adB_split) <;> intro hb <;> simp -implicitDefEqProofs only [hb, go_sem] <;> try simp only [qz] at hb))
        all_goals (try simp only [maxLen] at *)
        all_goals first | rfl | omega | assumption | decide | skip
        refine run_le (Le.renb 1007 3 1036 1901 rfl rfl rfl rfl) (run_go ?_)
        simp -implicitDefEqProofs only [go_sem]
        repeat' (first | with_reducible apply And.intro | with_reducible intro _ | ((first | apply brB_split | apply aPickB_split | apply gB_split | apply adB_split) <;> intro hb <;> simp -implicitDefEqProofs only [hb, go_sem] <;> try simp only [qz] at hb))
        all_goals first | rfl | omega | decide | skip
        refine ⟨⟨i + 1, by omega⟩, by dsimp only; omega, ?_⟩
        simp -implicitDefEqProofs only [go_sem]
        simp only [take_rc (show i < m.to.length by omega)]
        repeat' (first | with_reducible apply And.intro | with_reducible intro _ | ((first | apply brB_split | apply aPickB_split | apply gB_split | apply adB_split) <;> intro hb <;> simp -implicitDefEqProofs only [hb, go_sem] <;> try simp only [qz] at hb))
        all_goals first | rfl | (simp; done) | trace_state
      · simp -implicitDefEqProofs only [hlt, decide_false, go_sem]
        repeat' (first | with_reducible apply And.intro | with_reducible intro _ | ((first | apply brB_split | apply aPickB_split | apply gB_split | apply adB_split) <;> intro hb <;> simp -implicitDefEqProofs only [hb, go_sem] <;> try simp only [qz] at hb))
        all_goals first | rfl | omega | skip
        rw [List.take_of_length_le (by rw [List.length_map]; omega)]
        refine run_le (Le.frzL [1901, 1017]) (run_go ?_)
        simp -implicitDefEqProofs only [go_sem]
        repeat' (first | with_reducible apply And.intro | with_reducible intro _ | ((first | apply brB_split | apply aPickB_split | apply gB_split | apply adB_split) <;> intro hb <;> simp -implicitDefEqProofs only [hb, go_sem] <;> try simp only [qz] at hb))
        all_goals (try simp only [maxLen, List.take_length, List.drop_zero] at *)
        all_goals first | rfl | omega | assumption | decide | skip
        all_goals
          refine congrArg (T.sl 5) ?_
          simp only [adSp, adIm, List.map_append, List.map_cons, List.map_nil]
          rfl
end
def c76 : Ct := ctR (lc ESp.ag (lc EMl.ag (lc AInt l0))) (fun p => OkSp p.1 ∧ OkMl p.2.1) (fun p => roSB (SAdd p.1 p.2.1 p.2.2.1))
section
attribute [local go_sem] c30 c32 c73 c71 c110 c111 tmap dmap List.take_length List.drop_zero List.length_take List.length_drop List.length_map List.length_append List.length_cons List.length_nil List.map_append List.map_nil List.map_cons List.nil_append Nat.zero_add List.mem_singleton forall_eq Bool.not_true Bool.not_false roSB adSp bOf_t bOf_f
set_option maxHeartbeats 1600000 in
theorem good76 {G : Gt} (hG : OkG G) (hh : G.e 30 = roEnt 0 c30 ∧ G.e 32 = roEnt 0 c32 ∧ G.e 73 = roEnt 0 c73 ∧ G.e 71 = roEnt 0 c71 ∧ G.e 110 = roEnt 0 c110 ∧ G.e 111 = roEnt 1 c111) : Gd G 76 (roEnt 1 c76) := by
  refine gR (dp := fun n => Nat.ble 100000 n && !(Nat.beq n 100006)) (fn := Tryz.f76) (n := 3) (fun _ => rfl) (by kernel_rfl) rfl (by kernel_rfl) hG (Nat.le_of_ble_eq_true rfl) (by kernel_rfl) (by decide) (fun h => by cases h) ?_
  rintro ⟨s, m, w, ⟨⟩⟩ hpre
  obtain ⟨hok, hml⟩ := hpre
  dsimp only at hok hml ⊢
  have hok' : OkL OkIm s.items := hok
  by_cases h : SpOk s
  · have b1 := bOf_y h
    by_cases h2 : MlOk m ∧ (0 ≤ w ∧ w ≤ 9999) ∧ Room s
    · rw [SAdd_y h h2]
      have b2 := bOf_y h2.1
      have b3 := bOf_y h2.2.1
      have b4 := bOf_y h2.2.2
      simp -implicitDefEqProofs only [Tryz.f76, b1, b2, b3, b4, go_sem, hh]
      repeat' (first | with_reducible apply And.intro | with_reducible intro _ | ((first | apply brB_split | apply aPickB_split | apply gB_split | apply adB_split) <;> intro hb <;> simp -implicitDefEqProofs only [hb, go_sem, hh] <;> try simp only [qz] at hb))
      all_goals first | rfl | omega | assumption | decide | skip
      all_goals
        refine run_le (Le.frzL [1014]) (run_go ?_)
        simp -implicitDefEqProofs only [go_sem, hh]
        repeat' (first | with_reducible apply And.intro | with_reducible intro _ | ((first | apply brB_split | apply aPickB_split | apply gB_split | apply adB_split) <;> intro hb <;> simp -implicitDefEqProofs only [hb, go_sem, hh] <;> try simp only [qz] at hb))
        all_goals first | rfl | omega | assumption | decide | exact h.1 | exact h.2.1 | exact h.2.2.1 | exact h.2.2.2 | skip
        all_goals trace_state
    · rw [SAdd_n h h2]
      by_cases hm : MlOk m
      · have b2 := bOf_y hm
        by_cases hw : 0 ≤ w ∧ w ≤ 9999
        · have b3 := bOf_y hw
          have b4 := bOf_n (fun q => h2 ⟨hm, hw, q⟩)
          simp -implicitDefEqProofs only [Tryz.f76, b1, b2, b3, b4, go_sem, hh]
          repeat' (first | with_reducible apply And.intro | with_reducible intro _ | ((first | apply brB_split | apply aPickB_split | apply gB_split | apply adB_split) <;> intro hb <;> simp -implicitDefEqProofs only [hb, go_sem, hh] <;> try simp only [qz] at hb))
          all_goals first | rfl | omega | assumption | decide | trace_state
        · have b3 := bOf_n hw
          simp -implicitDefEqProofs only [Tryz.f76, b1, b2, b3, go_sem, hh]
          repeat' (first | with_reducible apply And.intro | with_reducible intro _ | ((first | apply brB_split | apply aPickB_split | apply gB_split | apply adB_split) <;> intro hb <;> simp -implicitDefEqProofs only [hb, go_sem, hh] <;> try simp only [qz] at hb))
          all_goals first | rfl | omega | assumption | decide | trace_state
      · have b2 := bOf_n hm
        simp -implicitDefEqProofs only [Tryz.f76, b1, b2, go_sem, hh]
        repeat' (first | with_reducible apply And.intro | with_reducible intro _ | ((first | apply brB_split | apply aPickB_split | apply gB_split | apply adB_split) <;> intro hb <;> simp -implicitDefEqProofs only [hb, go_sem, hh] <;> try simp only [qz] at hb))
        all_goals first | rfl | omega | assumption | decide | trace_state
  · have b1 := bOf_n h
    rw [SAdd_no h]
    simp -implicitDefEqProofs only [Tryz.f76, b1, go_sem, hh]
    repeat' (first | with_reducible apply And.intro | with_reducible intro _ | ((first | apply brB_split | apply aPickB_split | apply gB_split | apply adB_split) <;> intro hb <;> simp -implicitDefEqProofs only [hb, go_sem, hh] <;> try simp only [qz] at hb))
    all_goals first | rfl | omega | assumption | decide | trace_state
end
def c27 : Ct := ctR (lc ESp.ag (lc EMl.ag (lc AInt l0))) (fun p => OkSp p.1 ∧ OkMl p.2.1) (fun p => owSB (SAdd p.1 p.2.1 p.2.2.1))
section
attribute [local go_sem] c10 c26 c39 c40 c65 c64 List.length_map List.length_append List.length_cons List.length_nil List.map_append List.map_cons List.map_nil owSB AS.opn AS.cls AS.nilb AS.renb Bool.not_false Bool.not_true List.set_set List.set_cons_zero List.set_cons_succ List.set_nil List.mem_singleton forall_eq
set_option maxHeartbeats 3200000 in
theorem good27 {G : Gt} (hG : OkG G) (hh : G.e 10 = roEnt 0 c10 ∧ G.e 26 = roEnt 0 c26 ∧ G.e 39 = roEnt 0 c39 ∧ G.e 40 = roEnt 0 c40 ∧ G.e 65 = roEnt 0 c65 ∧ G.e 64 = roEnt 0 c64) : Gd G 27 (roEnt 0 c27) := by
  refine gR (dp := fun n => !(Nat.beq n 100008 || Nat.beq n 100012)) (fn := Tryz.f27) (n := 3) (fun _ => rfl) (by kernel_rfl) rfl (by kernel_rfl) hG (Nat.le_of_ble_eq_true rfl) (by kernel_rfl) (by decide) (fun _ p => owSB_solid _) ?_
  rintro ⟨s, m, w, ⟨⟩⟩ hpre
  obtain ⟨hok, hml⟩ := hpre
  dsimp only at hok hml ⊢
  have hok' : OkL OkIm s.items := hok
  have hmx := hok'.1
  obtain ⟨⟨_, hfd⟩, ⟨hl1, hto⟩, ⟨hl2, hbd⟩⟩ := hml
  have z1 : m.frm.domain.size ≤ 2000000 := by have : m.frm.domain.size ≤ 1048576 := hfd; omega
  have z2 : ∀ s ∈ m.body, s.size ≤ 2000000 := fun s hs => by have : s.size ≤ 1048576 := hbd s hs; omega
  have z3 : ∀ a ∈ m.to, a.domain.size ≤ 2000000 := fun a ha => by have : a.domain.size ≤ 1048576 := (hto a ha).2; omega
  by_cases h : SpOk s
  · have b1 := bOf_y h
    by_cases h2 : MlOk m ∧ (0 ≤ w ∧ w ≤ 9999) ∧ Room s
    · rw [SAdd_y h h2]
      obtain ⟨_, _, ⟨hs0, hs1⟩, hs2⟩ := h
      have b2 := bOf_y h2.1
      have b3 := bOf_y h2.2.1
      have b4 := bOf_y h2.2.2
      simp -implicitDefEqProofs only [Tryz.f27, b1, b2, b3, b4, go_sem, hh]
      repeat' (first | with_reducible apply And.intro | with_reducible intro _ | ((first | apply brB_split | apply aPickB_split | apply gB_split | apply adB_split) <;> intro hb <;> simp -implicitDefEqProofs only [hb, go_sem, hh] <;> try simp only [qz] at hb))
      all_goals first | rfl | omega | assumption | decide | exact z2 _ (by assumption) | exact z3 _ (by assumption) | skip
      all_goals
        refine run_le (Le.nilb 1009 3 1901 true 4 rfl rfl rfl) (run_go ?_)
        simp -implicitDefEqProofs only [go_sem, hh]
        repeat' (first | with_reducible apply And.intro | with_reducible intro _ | ((first | apply brB_split | apply aPickB_split | apply gB_split | apply adB_split) <;> intro hb <;> simp -implicitDefEqProofs only [hb, go_sem, hh] <;> try simp only [qz] at hb))
        all_goals first | rfl | omega | skip
        refine run_loop [] (ι := {i : Nat // i ≤ m.to.length}) (fun p => ⟨[(2, .t (.v (.int .i64 w))), (6, .pb 1006 0), (7, .t (.v (.bool false))), (8, .pb 1008 0), (9, .pb 1009 0), (45, .t (.sl 2 (m.to.map encAd))), (46, .t (.v (.int .i64 m.to.length))), (47, .t (.v (.int .i64 p.1)))], [(1006, some (.box [.t (.v (.int .i64 0)), .nil])), (1008, some (.box [.t (.v (.int .i64 (s.last + 1))), .h 1017])), (1017, some (.arr true 5 (s.items.map encIm))), (1009, some (.box [.t (.v (.int .i64 (s.last + 1))), .t (.v (.string m.frm.user)), .t (.v (.string m.frm.domain)), .h 1901, .h 1042])), (1042, some (.arr true 1 (m.body.map encStr))), (1901, some (.arr true 4 (((m.to.map (adRc w)).take p.1).map encRc)))]⟩) (fun p => m.to.length - p.1) ⟨0, by simp⟩ rfl ?_ ?_
        · simp -implicitDefEqProofs only [go_sem, hh]
          simp
        · rintro ⟨i, hi⟩
          have hlen : ((m.to.map (adRc w)).take i).length = i := by simp; omega
          by_cases hlt : (i : Int) < m.to.length
          · simp -implicitDefEqProofs only [hlt, decide_true, Int.toNat_natCast, go_sem, hh]
            repeat' (first | with_reducible apply And.intro | with_reducible intro _ | ((first | apply brB_split | apply aPickB_split | apply gB_split | apply adB_split) <;> intro hb <;> simp -implicitDefEqProofs only [hb, go_sem, hh] <;> try simp only [qz] at hb))
            all_goals (try simp only [maxLen] at *)
            all_goals first | rfl | omega | assumption | decide | skip
            refine run_le (Le.renb 1009 3 1057 1901 rfl rfl rfl rfl) (run_go ?_)
            simp -implicitDefEqProofs only [go_sem, hh]
            repeat' (first | with_reducible apply And.intro | with_reducible intro _ | ((first | apply brB_split | apply aPickB_split | apply gB_split | apply adB_split) <;> intro hb <;> simp -implicitDefEqProofs only [hb, go_sem, hh] <;> try simp only [qz] at hb))
            all_goals first | rfl | omega | decide | skip
            refine ⟨⟨i + 1, by omega⟩, by dsimp only; omega, ?_⟩
            simp -implicitDefEqProofs only [go_sem, hh]
            simp only [take_rc (show i < m.to.length by omega)]
            repeat' (first | with_reducible apply And.intro | with_reducible intro _ | ((first | apply brB_split | apply aPickB_split | apply gB_split | apply adB_split) <;> intro hb <;> simp -implicitDefEqProofs only [hb, go_sem, hh] <;> try simp only [qz] at hb))
            all_goals first | rfl | (simp; done) | trace_state
          · simp -implicitDefEqProofs only [hlt, decide_false, go_sem, hh]
            repeat' (first | with_reducible apply And.intro | with_reducible intro _ | ((first | apply brB_split | apply aPickB_split | apply gB_split | apply adB_split) <;> intro hb <;> simp -implicitDefEqProofs only [hb, go_sem, hh] <;> try simp only [qz] at hb))
            all_goals (try simp only [maxLen] at *)
            all_goals first | rfl | omega | assumption | decide | skip
            rw [List.take_of_length_le (by rw [List.length_map]; omega)]
            simp only [adSp, adIm, List.map_append, List.map_cons, List.map_nil]
            rfl
    · rw [SAdd_n h h2]
      by_cases hm : MlOk m
      · have b2 := bOf_y hm
        by_cases hw : 0 ≤ w ∧ w ≤ 9999
        · have b3 := bOf_y hw
          have b4 := bOf_n (fun q => h2 ⟨hm, hw, q⟩)
          simp -implicitDefEqProofs only [Tryz.f27, b1, b2, b3, b4, go_sem, hh]
          repeat' (first | with_reducible apply And.intro | with_reducible intro _ | ((first | apply brB_split | apply aPickB_split | apply gB_split | apply adB_split) <;> intro hb <;> simp -implicitDefEqProofs only [hb, go_sem, hh] <;> try simp only [qz] at hb))
          all_goals first | rfl | omega | assumption | decide | exact z2 _ (by assumption) | exact z3 _ (by assumption) | trace_state
        · have b3 := bOf_n hw
          simp -implicitDefEqProofs only [Tryz.f27, b1, b2, b3, go_sem, hh]
          repeat' (first | with_reducible apply And.intro | with_reducible intro _ | ((first | apply brB_split | apply aPickB_split | apply gB_split | apply adB_split) <;> intro hb <;> simp -implicitDefEqProofs only [hb, go_sem, hh] <;> try simp only [qz] at hb))
          all_goals first | rfl | omega | assumption | decide | exact z2 _ (by assumption) | exact z3 _ (by assumption) | trace_state
      · have b2 := bOf_n hm
        simp -implicitDefEqProofs only [Tryz.f27, b1, b2, go_sem, hh]
        repeat' (first | with_reducible apply And.intro | with_reducible intro _ | ((first | apply brB_split | apply aPickB_split | apply gB_split | apply adB_split) <;> intro hb <;> simp -implicitDefEqProofs only [hb, go_sem, hh] <;> try simp only [qz] at hb))
        all_goals first | rfl | omega | assumption | decide | exact z2 _ (by assumption) | exact z3 _ (by assumption) | trace_state
  · have b1 := bOf_n h
    rw [SAdd_no h]
    simp -implicitDefEqProofs only [Tryz.f27, b1, go_sem, hh]
    repeat' (first | with_reducible apply And.intro | with_reducible intro _ | ((first | apply brB_split | apply aPickB_split | apply gB_split | apply adB_split) <;> intro hb <;> simp -implicitDefEqProofs only [hb, go_sem, hh] <;> try simp only [qz] at hb))
    all_goals first | rfl | omega | assumption | decide | trace_state
end
def Emp (m : Ml) : Prop := AdNull m.frm ∧ m.to.length = 0 ∧ m.body.length = 0
def NtOk (n : Nt) : Prop := (n.kind = 1 ∧ n.id = 0 ∧ AdNull n.addr ∧ MlOk n.mail ∧ (0 ≤ n.now ∧ n.now ≤ 9999)) ∨ (n.kind = 2 ∧ Emp n.mail ∧ (1 ≤ n.id ∧ n.id ≤ 999) ∧ AdOk n.addr ∧ n.now = 0) ∨ (n.kind = 3 ∧ Emp n.mail ∧ (1 ≤ n.id ∧ n.id ≤ 999) ∧ AdOk n.addr ∧ (0 ≤ n.now ∧ n.now ≤ 9999))
theorem NtOk_1 {n : Nt} (h : n.kind = 1) : NtOk n ↔ (n.id = 0 ∧ AdNull n.addr ∧ MlOk n.mail ∧ (0 ≤ n.now ∧ n.now ≤ 9999)) := by
  unfold NtOk
  exact ⟨fun q => by rcases q with q | q | q <;> first | exact q.2 | (have := q.1; omega), fun q => .inl ⟨h, q⟩⟩
theorem NtOk_2 {n : Nt} (h : n.kind = 2) : NtOk n ↔ (Emp n.mail ∧ (1 ≤ n.id ∧ n.id ≤ 999) ∧ AdOk n.addr ∧ n.now = 0) := by
  unfold NtOk
  exact ⟨fun q => by rcases q with q | q | q <;> first | (have := q.1; omega) | exact q.2, fun q => .inr (.inl ⟨h, q⟩)⟩
theorem NtOk_3 {n : Nt} (h : n.kind = 3) : NtOk n ↔ (Emp n.mail ∧ (1 ≤ n.id ∧ n.id ≤ 999) ∧ AdOk n.addr ∧ (0 ≤ n.now ∧ n.now ≤ 9999)) := by
  unfold NtOk
  exact ⟨fun q => by rcases q with q | q | q <;> first | (have := q.1; omega) | exact q.2, fun q => .inr (.inr ⟨h, q⟩)⟩
theorem NtOk_0 {n : Nt} (h1 : ¬ n.kind = 1) (h2 : ¬ n.kind = 2) (h3 : ¬ n.kind = 3) : ¬ NtOk n := by
  unfold NtOk
  rintro (q | q | q)
  · exact h1 q.1
  · exact h2 q.1
  · exact h3 q.1
theorem tvF {p : Prop} (h : ¬ p) : T.v (Value.bool false) = T.v (Value.bool (bOf p)) := by rw [bOf_n h]
theorem tvE {p q : Prop} (h : p ↔ q) : T.v (Value.bool (bOf p)) = T.v (Value.bool (bOf q)) := by rw [bOf_congr h]
theorem tvD {p q : Prop} [Decidable p] (h : p ↔ q) : T.v (Value.bool (decide p)) = T.v (Value.bool (bOf q)) := by rw [← bOf_d, bOf_congr h]
noncomputable def NDo0 (s : Sp) (n : Nt) : Sp × Bool := if n.kind = 1 then SAdd s n.mail n.now else if n.kind = 2 then SDone s n.id n.addr else SLater s n.id n.addr n.now
open Classical in
noncomputable def NDo (s : Sp) (n : Nt) : Sp × Bool := if SpOk s then (if NtOk n then NDo0 s n else (s, false)) else (⟨0, []⟩, false)
theorem NDo_no {s : Sp} {n : Nt} (h : ¬ SpOk s) : NDo s n = (⟨0, []⟩, false) := by unfold NDo; rw [if_neg h]
theorem NDo_n {s : Sp} {n : Nt} (h : SpOk s) (h2 : ¬ NtOk n) : NDo s n = (s, false) := by unfold NDo; rw [if_pos h, if_neg h2]
theorem NDo_y {s : Sp} {n : Nt} (h : SpOk s) (h2 : NtOk n) : NDo s n = NDo0 s n := by unfold NDo; rw [if_pos h, if_pos h2]
def c38 : Ct := ctR (lc EMl.ag l0) (fun p => True) (fun p => .t (.v (.bool (bOf (Emp p.1)))))
section
attribute [local go_sem] c41 bOf_t bOf_f List.length_map
theorem good38 {G : Gt} (hG : OkG G) (hh : G.e 41 = roEnt 0 c41) : Gd G 38 (roEnt 0 c38) := by
  refine gR (dp := fun _ => true) (fn := Tryz.f38) (n := 1) (fun _ => rfl) (by kernel_rfl) rfl (by kernel_rfl) hG (Nat.le_of_ble_eq_true rfl) (by kernel_rfl) (by decide) (fun _ _ => .v _) ?_
  rintro ⟨m, ⟨⟩⟩ hpre
  simp -implicitDefEqProofs only [Tryz.f38, go_sem, hh] at hpre ⊢
  repeat' (first | with_reducible apply And.intro | with_reducible intro _ | ((first | apply brB_split | apply aPickB_split | apply gB_split | apply adB_split) <;> intro hb <;> simp -implicitDefEqProofs only [hb, go_sem, hh] <;> try simp only [qz] at hb))
  all_goals first | rfl | omega | skip
  all_goals
    refine congrArg (fun b => T.v (Value.bool b)) ?_
    first
      | (rw [← bOf_d]; exact bOf_congr (by unfold Emp; simp_all))
      | exact (bOf_n (by unfold Emp; simp_all)).symm
      | exact (bOf_n (by unfold Emp; simp_all; try omega)).symm
      | (rw [← bOf_d]; exact bOf_congr (by unfold Emp; simp_all; try omega))
      | trace_state
end
def c31 : Ct := ctR (lc ENt.ag l0) (fun p => True) (fun p => .t (.v (.bool (bOf (NtOk p.1)))))
section
attribute [local go_sem] c72 c74 c73 c71 bOf_t bOf_f List.length_map
set_option maxHeartbeats 3200000 in
theorem good31 {G : Gt} (hG : OkG G) (hh : G.e 72 = roEnt 0 c72 ∧ G.e 74 = roEnt 0 c74 ∧ G.e 73 = roEnt 0 c73 ∧ G.e 71 = roEnt 0 c71) : Gd G 31 (roEnt 0 c31) := by
  refine gR (dp := fun _ => true) (fn := Tryz.f31) (n := 1) (fun _ => rfl) (by kernel_rfl) rfl (by kernel_rfl) hG (Nat.le_of_ble_eq_true rfl) (by kernel_rfl) (by decide) (fun _ _ => .v _) ?_
  rintro ⟨n, ⟨⟩⟩ hpre
  dsimp only at hpre ⊢
  have zb : True → True := id
  have zt : True → True := id
  by_cases hk : n.kind = 1
  · rw [bOf_congr (NtOk_1 hk)]
    simp -implicitDefEqProofs only [Tryz.f31, hk, decide_true, decide_false, Int.reduceEq, go_sem, hh]
    repeat' (first | with_reducible apply And.intro | with_reducible intro _ | ((first | apply brB_split | apply aPickB_split | apply gB_split | apply adB_split) <;> intro hb <;> simp -implicitDefEqProofs only [hb, go_sem, hh] <;> try simp only [qz] at hb))
    all_goals (try simp only [maxLen] at *)
    all_goals first | with_reducible rfl | omega | with_reducible assumption | exact zb _ (by assumption) | exact zt _ (by assumption) | skip
    all_goals first
      | (with_reducible refine tvF ?_
         intro h
         first
           | exact absurd h.1 (by with_reducible assumption)
           | exact absurd h.2.1 (by with_reducible assumption)
           | exact absurd h.2.2.1 (by with_reducible assumption)
           | exact absurd h.2.2.2 (by with_reducible assumption)
           | exact absurd h.1.1 (by with_reducible assumption)
           | (have h1 := h.1.2.1; have h2 := h.1.2.2; omega))
      | (first
           | with_reducible refine tvE ?_
           | with_reducible refine tvD ?_
         refine ⟨fun h => ?_, fun h => ?_⟩
         · (repeat' with_reducible apply And.intro) <;> first | with_reducible assumption | omega | exact ⟨by with_reducible assumption, by omega, by omega⟩
         · first | with_reducible exact h.1 | with_reducible exact h.2.1 | with_reducible exact h.2.2.1 | with_reducible exact h.2.2.2)
      | trace_state
  · by_cases hk2 : n.kind = 2
    · rw [bOf_congr (NtOk_2 hk2)]
      simp -implicitDefEqProofs only [Tryz.f31, hk, hk2, decide_true, decide_false, Int.reduceEq, go_sem, hh]
      repeat' (first | with_reducible apply And.intro | with_reducible intro _ | ((first | apply brB_split | apply aPickB_split | apply gB_split | apply adB_split) <;> intro hb <;> simp -implicitDefEqProofs only [hb, go_sem, hh] <;> try simp only [qz] at hb))
      all_goals (try simp only [maxLen] at *)
      all_goals first | with_reducible rfl | omega | with_reducible assumption | exact zb _ (by assumption) | exact zt _ (by assumption) | skip
      all_goals first
        | (with_reducible refine tvF ?_
           intro h
           first
             | exact absurd h.1 (by with_reducible assumption)
             | exact absurd h.2.1 (by with_reducible assumption)
             | exact absurd h.2.2.1 (by with_reducible assumption)
             | exact absurd h.2.2.2 (by with_reducible assumption)
             | exact absurd h.1.1 (by with_reducible assumption)
             | (have h1 := h.1.2.1; have h2 := h.1.2.2; omega))
        | (first
             | with_reducible refine tvE ?_
             | with_reducible refine tvD ?_
           refine ⟨fun h => ?_, fun h => ?_⟩
           · (repeat' with_reducible apply And.intro) <;> first | with_reducible assumption | omega | exact ⟨by with_reducible assumption, by omega, by omega⟩
           · first | with_reducible exact h.1 | with_reducible exact h.2.1 | with_reducible exact h.2.2.1 | with_reducible exact h.2.2.2)
        | trace_state
    · by_cases hk3 : n.kind = 3
      · rw [bOf_congr (NtOk_3 hk3)]
        simp -implicitDefEqProofs only [Tryz.f31, hk, hk2, hk3, decide_true, decide_false, Int.reduceEq, go_sem, hh]
        repeat' (first | with_reducible apply And.intro | with_reducible intro _ | ((first | apply brB_split | apply aPickB_split | apply gB_split | apply adB_split) <;> intro hb <;> simp -implicitDefEqProofs only [hb, go_sem, hh] <;> try simp only [qz] at hb))
        all_goals (try simp only [maxLen] at *)
        all_goals first | with_reducible rfl | omega | with_reducible assumption | exact zb _ (by assumption) | exact zt _ (by assumption) | skip
        all_goals first
          | (with_reducible refine tvF ?_
             intro h
             first
               | exact absurd h.1 (by with_reducible assumption)
               | exact absurd h.2.1 (by with_reducible assumption)
               | exact absurd h.2.2.1 (by with_reducible assumption)
               | exact absurd h.2.2.2 (by with_reducible assumption)
               | exact absurd h.1.1 (by with_reducible assumption)
               | (have h1 := h.1.2.1; have h2 := h.1.2.2; omega))
          | (first
               | with_reducible refine tvE ?_
               | with_reducible refine tvD ?_
             refine ⟨fun h => ?_, fun h => ?_⟩
             · (repeat' with_reducible apply And.intro) <;> first | with_reducible assumption | omega | exact ⟨by with_reducible assumption, by omega, by omega⟩
             · first | with_reducible exact h.1 | with_reducible exact h.2.1 | with_reducible exact h.2.2.1 | with_reducible exact h.2.2.2)
          | trace_state
      · rw [bOf_n (NtOk_0 hk hk2 hk3)]
        simp -implicitDefEqProofs only [Tryz.f31, hk, hk2, hk3, decide_true, decide_false, Int.reduceEq, go_sem, hh]
        repeat' (first | with_reducible apply And.intro | with_reducible intro _ | ((first | apply brB_split | apply aPickB_split | apply gB_split | apply adB_split) <;> intro hb <;> simp -implicitDefEqProofs only [hb, go_sem, hh] <;> try simp only [qz] at hb))
        all_goals (try simp only [maxLen] at *)
        all_goals first | with_reducible rfl | omega | with_reducible assumption | exact zb _ (by assumption) | exact zt _ (by assumption) | skip
        all_goals first
          | (with_reducible refine tvF ?_
             intro h
             first
               | exact absurd h.1 (by with_reducible assumption)
               | exact absurd h.2.1 (by with_reducible assumption)
               | exact absurd h.2.2.1 (by with_reducible assumption)
               | exact absurd h.2.2.2 (by with_reducible assumption)
               | exact absurd h.1.1 (by with_reducible assumption)
               | (have h1 := h.1.2.1; have h2 := h.1.2.2; omega))
          | (first
               | with_reducible refine tvE ?_
               | with_reducible refine tvD ?_
             refine ⟨fun h => ?_, fun h => ?_⟩
             · (repeat' with_reducible apply And.intro) <;> first | with_reducible assumption | omega | exact ⟨by with_reducible assumption, by omega, by omega⟩
             · first | with_reducible exact h.1 | with_reducible exact h.2.1 | with_reducible exact h.2.2.1 | with_reducible exact h.2.2.2)
          | trace_state
end
def c12 : Ct := ctR (lc ENt.ag l0) (fun p => OkNt p.1) (fun p => .t (.v (.bool (bOf (NtOk p.1)))))
section
attribute [local go_sem] c36 c37 c38 c39 c40 c41 bOf_t bOf_f List.length_map
set_option maxHeartbeats 3200000 in
theorem good12 {G : Gt} (hG : OkG G) (hh : G.e 36 = roEnt 0 c36 ∧ G.e 37 = roEnt 0 c37 ∧ G.e 38 = roEnt 0 c38 ∧ G.e 39 = roEnt 0 c39 ∧ G.e 40 = roEnt 0 c40 ∧ G.e 41 = roEnt 0 c41) : Gd G 12 (roEnt 0 c12) := by
  refine gR (dp := fun _ => true) (fn := Tryz.f12) (n := 1) (fun _ => rfl) (by kernel_rfl) rfl (by kernel_rfl) hG (Nat.le_of_ble_eq_true rfl) (by kernel_rfl) (by decide) (fun _ _ => .v _) ?_
  rintro ⟨n, ⟨⟩⟩ hpre
  dsimp only at hpre ⊢
  obtain ⟨⟨_, hd⟩, ⟨⟨_, hfd⟩, ⟨hl1, hto⟩, ⟨hl2, hbd⟩⟩⟩ := hpre
  have z0 : n.addr.domain.size ≤ 2000000 := by have : n.addr.domain.size ≤ 1048576 := hd; omega
  have z1 : n.mail.frm.domain.size ≤ 2000000 := by have : n.mail.frm.domain.size ≤ 1048576 := hfd; omega
  have zb : ∀ s ∈ n.mail.body, s.size ≤ 2000000 := fun s hs => by have : s.size ≤ 1048576 := hbd s hs; omega
  have zt : ∀ a ∈ n.mail.to, a.domain.size ≤ 2000000 := fun a ha => by have : a.domain.size ≤ 1048576 := (hto a ha).2; omega
  by_cases hk : n.kind = 1
  · rw [bOf_congr (NtOk_1 hk)]
    simp -implicitDefEqProofs only [Tryz.f12, hk, decide_true, decide_false, Int.reduceEq, go_sem, hh]
    repeat' (first | with_reducible apply And.intro | with_reducible intro _ | ((first | apply brB_split | apply aPickB_split | apply gB_split | apply adB_split) <;> intro hb <;> simp -implicitDefEqProofs only [hb, go_sem, hh] <;> try simp only [qz] at hb))
    all_goals (try simp only [maxLen] at *)
    all_goals first | with_reducible rfl | omega | with_reducible assumption | exact zb _ (by assumption) | exact zt _ (by assumption) | skip
    all_goals first
      | (with_reducible refine tvF ?_
         intro h
         first
           | exact absurd h.1 (by with_reducible assumption)
           | exact absurd h.2.1 (by with_reducible assumption)
           | exact absurd h.2.2.1 (by with_reducible assumption)
           | exact absurd h.2.2.2 (by with_reducible assumption)
           | exact absurd h.1.1 (by with_reducible assumption)
           | (have h1 := h.1.2.1; have h2 := h.1.2.2; omega))
      | (first
           | with_reducible refine tvE ?_
           | with_reducible refine tvD ?_
         refine ⟨fun h => ?_, fun h => ?_⟩
         · (repeat' with_reducible apply And.intro) <;> first | with_reducible assumption | omega | exact ⟨by with_reducible assumption, by omega, by omega⟩
         · first | with_reducible exact h.1 | with_reducible exact h.2.1 | with_reducible exact h.2.2.1 | with_reducible exact h.2.2.2)
      | trace_state
  · by_cases hk2 : n.kind = 2
    · rw [bOf_congr (NtOk_2 hk2)]
      simp -implicitDefEqProofs only [Tryz.f12, hk, hk2, decide_true, decide_false, Int.reduceEq, go_sem, hh]
      repeat' (first | with_reducible apply And.intro | with_reducible intro _ | ((first | apply brB_split | apply aPickB_split | apply gB_split | apply adB_split) <;> intro hb <;> simp -implicitDefEqProofs only [hb, go_sem, hh] <;> try simp only [qz] at hb))
      all_goals (try simp only [maxLen] at *)
      all_goals first | with_reducible rfl | omega | with_reducible assumption | exact zb _ (by assumption) | exact zt _ (by assumption) | skip
      all_goals first
        | (with_reducible refine tvF ?_
           intro h
           first
             | exact absurd h.1 (by with_reducible assumption)
             | exact absurd h.2.1 (by with_reducible assumption)
             | exact absurd h.2.2.1 (by with_reducible assumption)
             | exact absurd h.2.2.2 (by with_reducible assumption)
             | exact absurd h.1.1 (by with_reducible assumption)
             | (have h1 := h.1.2.1; have h2 := h.1.2.2; omega))
        | (first
             | with_reducible refine tvE ?_
             | with_reducible refine tvD ?_
           refine ⟨fun h => ?_, fun h => ?_⟩
           · (repeat' with_reducible apply And.intro) <;> first | with_reducible assumption | omega | exact ⟨by with_reducible assumption, by omega, by omega⟩
           · first | with_reducible exact h.1 | with_reducible exact h.2.1 | with_reducible exact h.2.2.1 | with_reducible exact h.2.2.2)
        | trace_state
    · by_cases hk3 : n.kind = 3
      · rw [bOf_congr (NtOk_3 hk3)]
        simp -implicitDefEqProofs only [Tryz.f12, hk, hk2, hk3, decide_true, decide_false, Int.reduceEq, go_sem, hh]
        repeat' (first | with_reducible apply And.intro | with_reducible intro _ | ((first | apply brB_split | apply aPickB_split | apply gB_split | apply adB_split) <;> intro hb <;> simp -implicitDefEqProofs only [hb, go_sem, hh] <;> try simp only [qz] at hb))
        all_goals (try simp only [maxLen] at *)
        all_goals first | with_reducible rfl | omega | with_reducible assumption | exact zb _ (by assumption) | exact zt _ (by assumption) | skip
        all_goals first
          | (with_reducible refine tvF ?_
             intro h
             first
               | exact absurd h.1 (by with_reducible assumption)
               | exact absurd h.2.1 (by with_reducible assumption)
               | exact absurd h.2.2.1 (by with_reducible assumption)
               | exact absurd h.2.2.2 (by with_reducible assumption)
               | exact absurd h.1.1 (by with_reducible assumption)
               | (have h1 := h.1.2.1; have h2 := h.1.2.2; omega))
          | (first
               | with_reducible refine tvE ?_
               | with_reducible refine tvD ?_
             refine ⟨fun h => ?_, fun h => ?_⟩
             · (repeat' with_reducible apply And.intro) <;> first | with_reducible assumption | omega | exact ⟨by with_reducible assumption, by omega, by omega⟩
             · first | with_reducible exact h.1 | with_reducible exact h.2.1 | with_reducible exact h.2.2.1 | with_reducible exact h.2.2.2)
          | trace_state
      · rw [bOf_n (NtOk_0 hk hk2 hk3)]
        simp -implicitDefEqProofs only [Tryz.f12, hk, hk2, hk3, decide_true, decide_false, Int.reduceEq, go_sem, hh]
        repeat' (first | with_reducible apply And.intro | with_reducible intro _ | ((first | apply brB_split | apply aPickB_split | apply gB_split | apply adB_split) <;> intro hb <;> simp -implicitDefEqProofs only [hb, go_sem, hh] <;> try simp only [qz] at hb))
        all_goals (try simp only [maxLen] at *)
        all_goals first | with_reducible rfl | omega | with_reducible assumption | exact zb _ (by assumption) | exact zt _ (by assumption) | skip
        all_goals first
          | (with_reducible refine tvF ?_
             intro h
             first
               | exact absurd h.1 (by with_reducible assumption)
               | exact absurd h.2.1 (by with_reducible assumption)
               | exact absurd h.2.2.1 (by with_reducible assumption)
               | exact absurd h.2.2.2 (by with_reducible assumption)
               | exact absurd h.1.1 (by with_reducible assumption)
               | (have h1 := h.1.2.1; have h2 := h.1.2.2; omega))
          | (first
               | with_reducible refine tvE ?_
               | with_reducible refine tvD ?_
             refine ⟨fun h => ?_, fun h => ?_⟩
             · (repeat' with_reducible apply And.intro) <;> first | with_reducible assumption | omega | exact ⟨by with_reducible assumption, by omega, by omega⟩
             · first | with_reducible exact h.1 | with_reducible exact h.2.1 | with_reducible exact h.2.2.1 | with_reducible exact h.2.2.2)
          | trace_state
end
def c33 : Ct := ctR (lc ESp.ag (lc ENt.ag l0)) (fun p => OkSp p.1 ∧ OkNt p.2.1) (fun p => roSB (NDo0 p.1 p.2.1))
section
attribute [local go_sem] c76 c77 c78 tmap dmap List.take_length List.drop_zero List.length_take List.length_drop List.length_map List.length_append List.length_cons List.length_nil List.map_append List.map_nil List.map_cons List.nil_append Nat.zero_add List.mem_singleton forall_eq Bool.not_true Bool.not_false roSB
set_option maxHeartbeats 1600000 in
theorem good33 {G : Gt} (hG : OkG G) (hh : G.e 76 = roEnt 1 c76 ∧ G.e 77 = roEnt 1 c77 ∧ G.e 78 = roEnt 1 c78) : Gd G 33 (roEnt 1 c33) := by
  refine gR (dp := fun _ => true) (fn := Tryz.f33) (n := 2) (fun _ => rfl) (by kernel_rfl) rfl (by kernel_rfl) hG (Nat.le_of_ble_eq_true rfl) (by kernel_rfl) (by decide) (fun h => by cases h) ?_
  rintro ⟨s, n, ⟨⟩⟩ hpre
  obtain ⟨hok, hnt⟩ := hpre
  dsimp only at hok hnt ⊢
  have hml : OkMl n.mail := hnt.2
  have had : OkAd n.addr := hnt.1
  by_cases hk : n.kind = 1
  · have e : NDo0 s n = SAdd s n.mail n.now := if_pos hk
    have d1 := decide_eq_true hk
    rw [e]
    simp -implicitDefEqProofs only [Tryz.f33, d1, go_sem, hh]
    repeat' (first | with_reducible apply And.intro | with_reducible intro _ | ((first | apply brB_split | apply aPickB_split | apply gB_split | apply adB_split) <;> intro hb <;> simp -implicitDefEqProofs only [hb, go_sem, hh] <;> try simp only [qz] at hb))
    all_goals first | rfl | omega | with_reducible assumption | exact hml | trace_state
  · by_cases hk2 : n.kind = 2
    · have e : NDo0 s n = SDone s n.id n.addr := by unfold NDo0; rw [if_neg hk, if_pos hk2]
      have d1 := decide_eq_false hk
      have d2 := decide_eq_true hk2
      rw [e]
      simp -implicitDefEqProofs only [Tryz.f33, d1, d2, go_sem, hh]
      repeat' (first | with_reducible apply And.intro | with_reducible intro _ | ((first | apply brB_split | apply aPickB_split | apply gB_split | apply adB_split) <;> intro hb <;> simp -implicitDefEqProofs only [hb, go_sem, hh] <;> try simp only [qz] at hb))
      all_goals first | rfl | omega | with_reducible assumption | trace_state
    · have e : NDo0 s n = SLater s n.id n.addr n.now := by unfold NDo0; rw [if_neg hk, if_neg hk2]
      have d1 := decide_eq_false hk
      have d2 := decide_eq_false hk2
      rw [e]
      simp -implicitDefEqProofs only [Tryz.f33, d1, d2, go_sem, hh]
      repeat' (first | with_reducible apply And.intro | with_reducible intro _ | ((first | apply brB_split | apply aPickB_split | apply gB_split | apply adB_split) <;> intro hb <;> simp -implicitDefEqProofs only [hb, go_sem, hh] <;> try simp only [qz] at hb))
      all_goals first | rfl | omega | with_reducible assumption | trace_state
end
def c8 : Ct := ctR (lc ESp.ag (lc ENt.ag l0)) (fun p => OkSp p.1 ∧ OkNt p.2.1) (fun p => roSB (NDo p.1 p.2.1))
section
attribute [local go_sem] c30 c31 c32 c33 tmap dmap List.take_length List.drop_zero List.length_take List.length_drop List.length_map List.length_append List.length_cons List.length_nil List.map_append List.map_nil List.map_cons List.nil_append Nat.zero_add List.mem_singleton forall_eq Bool.not_true Bool.not_false roSB
set_option maxHeartbeats 1600000 in
theorem good8 {G : Gt} (hG : OkG G) (hh : G.e 30 = roEnt 0 c30 ∧ G.e 31 = roEnt 0 c31 ∧ G.e 32 = roEnt 0 c32 ∧ G.e 33 = roEnt 1 c33) : Gd G 8 (roEnt 1 c8) := by
  refine gR (dp := fun _ => true) (fn := Tryz.f8) (n := 2) (fun _ => rfl) (by kernel_rfl) rfl (by kernel_rfl) hG (Nat.le_of_ble_eq_true rfl) (by kernel_rfl) (by decide) (fun h => by cases h) ?_
  rintro ⟨s, n, ⟨⟩⟩ hpre
  obtain ⟨hok, hnt⟩ := hpre
  dsimp only at hok hnt ⊢
  have hml : OkMl n.mail := hnt.2
  have had : OkAd n.addr := hnt.1
  by_cases h : SpOk s
  · have b1 := bOf_y h
    by_cases h2 : NtOk n
    · have b2 := bOf_y h2
      rw [NDo_y h h2]
      simp -implicitDefEqProofs only [Tryz.f8, b1, b2, go_sem, hh]
      repeat' (first | with_reducible apply And.intro | with_reducible intro _ | ((first | apply brB_split | apply aPickB_split | apply gB_split | apply adB_split) <;> intro hb <;> simp -implicitDefEqProofs only [hb, go_sem, hh] <;> try simp only [qz] at hb))
      all_goals first | rfl | omega | with_reducible assumption | trace_state
    · have b2 := bOf_n h2
      rw [NDo_n h h2]
      simp -implicitDefEqProofs only [Tryz.f8, b1, b2, go_sem, hh]
      repeat' (first | with_reducible apply And.intro | with_reducible intro _ | ((first | apply brB_split | apply aPickB_split | apply gB_split | apply adB_split) <;> intro hb <;> simp -implicitDefEqProofs only [hb, go_sem, hh] <;> try simp only [qz] at hb))
      all_goals first | rfl | omega | with_reducible assumption | trace_state
  · have b1 := bOf_n h
    rw [NDo_no h]
    simp -implicitDefEqProofs only [Tryz.f8, b1, go_sem, hh]
    repeat' (first | with_reducible apply And.intro | with_reducible intro _ | ((first | apply brB_split | apply aPickB_split | apply gB_split | apply adB_split) <;> intro hb <;> simp -implicitDefEqProofs only [hb, go_sem, hh] <;> try simp only [qz] at hb))
    all_goals first | rfl | omega | with_reducible assumption | trace_state
end
def c7 : Ct := ctR (lc ESp.ag (lc ENt.ag l0)) (fun p => OkSp p.1 ∧ OkNt p.2.1) (fun p => owSB (NDo p.1 p.2.1))
section
attribute [local go_sem] c10 c12 c26 c27 c28 c29 tmap dmap List.take_length List.drop_zero List.length_take List.length_drop List.length_map List.length_append List.length_cons List.length_nil List.map_append List.map_nil List.map_cons List.nil_append Nat.zero_add List.mem_singleton forall_eq Bool.not_true Bool.not_false owSB
set_option maxHeartbeats 1600000 in
theorem good7 {G : Gt} (hG : OkG G) (hh : G.e 10 = roEnt 0 c10 ∧ G.e 12 = roEnt 0 c12 ∧ G.e 26 = roEnt 0 c26 ∧ G.e 27 = roEnt 0 c27 ∧ G.e 28 = roEnt 0 c28 ∧ G.e 29 = roEnt 0 c29) : Gd G 7 (roEnt 0 c7) := by
  refine gR (dp := fun _ => true) (fn := Tryz.f7) (n := 2) (fun _ => rfl) (by kernel_rfl) rfl (by kernel_rfl) hG (Nat.le_of_ble_eq_true rfl) (by kernel_rfl) (by decide) (fun _ p => owSB_solid _) ?_
  rintro ⟨s, n, ⟨⟩⟩ hpre
  obtain ⟨hok, hnt⟩ := hpre
  dsimp only at hok hnt ⊢
  have hml : OkMl n.mail := hnt.2
  have had : OkAd n.addr := hnt.1
  by_cases h : SpOk s
  · have b1 := bOf_y h
    by_cases h2 : NtOk n
    · have b2 := bOf_y h2
      rw [NDo_y h h2]
      by_cases hk : n.kind = 1
      · have e : NDo0 s n = SAdd s n.mail n.now := if_pos hk
        have d1 := decide_eq_true hk
        rw [e]
        simp -implicitDefEqProofs only [Tryz.f7, d1, b1, b2, go_sem, hh]
        repeat' (first | with_reducible apply And.intro | with_reducible intro _ | ((first | apply brB_split | apply aPickB_split | apply gB_split | apply adB_split) <;> intro hb <;> simp -implicitDefEqProofs only [hb, go_sem, hh] <;> try simp only [qz] at hb))
        all_goals first | rfl | omega | with_reducible assumption | exact hml | trace_state
      · by_cases hk2 : n.kind = 2
        · have e : NDo0 s n = SDone s n.id n.addr := by unfold NDo0; rw [if_neg hk, if_pos hk2]
          have d1 := decide_eq_false hk
          have d2 := decide_eq_true hk2
          rw [e]
          simp -implicitDefEqProofs only [Tryz.f7, d1, d2, b1, b2, go_sem, hh]
          repeat' (first | with_reducible apply And.intro | with_reducible intro _ | ((first | apply brB_split | apply aPickB_split | apply gB_split | apply adB_split) <;> intro hb <;> simp -implicitDefEqProofs only [hb, go_sem, hh] <;> try simp only [qz] at hb))
          all_goals first | rfl | omega | with_reducible assumption | trace_state
        · have e : NDo0 s n = SLater s n.id n.addr n.now := by unfold NDo0; rw [if_neg hk, if_neg hk2]
          have d1 := decide_eq_false hk
          have d2 := decide_eq_false hk2
          rw [e]
          simp -implicitDefEqProofs only [Tryz.f7, d1, d2, b1, b2, go_sem, hh]
          repeat' (first | with_reducible apply And.intro | with_reducible intro _ | ((first | apply brB_split | apply aPickB_split | apply gB_split | apply adB_split) <;> intro hb <;> simp -implicitDefEqProofs only [hb, go_sem, hh] <;> try simp only [qz] at hb))
          all_goals first | rfl | omega | with_reducible assumption | trace_state
    · have b2 := bOf_n h2
      rw [NDo_n h h2]
      simp -implicitDefEqProofs only [Tryz.f7, b1, b2, go_sem, hh]
      repeat' (first | with_reducible apply And.intro | with_reducible intro _ | ((first | apply brB_split | apply aPickB_split | apply gB_split | apply adB_split) <;> intro hb <;> simp -implicitDefEqProofs only [hb, go_sem, hh] <;> try simp only [qz] at hb))
      all_goals first | rfl | omega | with_reducible assumption | trace_state
  · have b1 := bOf_n h
    rw [NDo_no h]
    simp -implicitDefEqProofs only [Tryz.f7, b1, go_sem, hh]
    repeat' (first | with_reducible apply And.intro | with_reducible intro _ | ((first | apply brB_split | apply aPickB_split | apply gB_split | apply adB_split) <;> intro hb <;> simp -implicitDefEqProofs only [hb, go_sem, hh] <;> try simp only [qz] at hb))
    all_goals first | rfl | omega | with_reducible assumption | trace_state
end
def sumL {α : Type} (f : α → Int) : List α → Int
  | [] => 0
  | x :: r => f x + sumL f r
theorem sum_step {α : Type} [Inhabited α] {f : α → Int} {xs : List α} {i : Nat} (h : i < xs.length) : sumL f (xs.drop i) = f (xs.getD i default) + sumL f (xs.drop (i + 1)) := by
  rw [getD_drop h]; rfl
theorem sum_end {α : Type} {f : α → Int} {xs : List α} {i : Nat} (h : xs.length ≤ i) : sumL f (xs.drop i) = 0 := by
  rw [List.drop_eq_nil_of_le h]; rfl
theorem sum_le {α : Type} {f : α → Int} {B : Int} : ∀ {xs : List α}, (∀ x ∈ xs, 0 ≤ f x ∧ f x ≤ B) → 0 ≤ sumL f xs ∧ sumL f xs ≤ B * xs.length
  | [], _ => by simp [sumL]
  | x :: r, h => by
    have h1 := h x (by simp)
    have h2 := sum_le (xs := r) fun y hy => h y (by simp [hy])
    have e1 : B * ((r.length + 1 : Nat) : Int) = B * r.length + B := by rw [Int.natCast_add, Int.mul_add]; simp
    simp only [sumL, List.length_cons]
    omega
theorem sum_drop {α : Type} {f : α → Int} {xs : List α} (h : ∀ x ∈ xs, 0 ≤ f x) (i : Nat) : 0 ≤ sumL f (xs.drop i) := by
  have h2 : ∀ {ys : List α}, (∀ x ∈ ys, 0 ≤ f x) → 0 ≤ sumL f ys := fun {ys} => by
    induction ys with
    | nil => intro _; exact Int.le_refl _
    | cons y r ih =>
      intro h
      have h1 := h y (by simp)
      have h3 := ih fun z hz => h z (by simp [hz])
      show 0 ≤ f y + sumL f r
      omega
  exact h2 fun x hx => h x (List.mem_of_mem_drop hx)
def rcN (x : Im) : Int := x.to.length
open Classical in
noncomputable def SMany (s : Sp) : Int := if SpOk s then sumL rcN s.items else -1
theorem SMany_y {s : Sp} (h : SpOk s) : SMany s = sumL rcN s.items := if_pos h
theorem SMany_n {s : Sp} (h : ¬ SpOk s) : SMany s = -1 := if_neg h
theorem many_le {s : Sp} (h : SpOk s) : 0 ≤ sumL rcN s.items ∧ sumL rcN s.items ≤ 40 := by
  have h1 := sum_le (f := rcN) (B := 4) (xs := s.items) fun x hx => by
    have := (h.1 x hx).1.2.2.2.2.1
    unfold rcN; omega
  have h2 := h.2.2.2
  omega
def c11 : Ct := ctR (lc ESp.ag l0) (fun p => OkSp p.1) (fun p => .t (.v (.int .i64 (SMany p.1))))
section
attribute [local go_sem] c10 bOf_t bOf_f List.length_map
theorem good11 {G : Gt} (hG : OkG G) (hh : G.e 10 = roEnt 0 c10) : Gd G 11 (roEnt 0 c11) := by
  refine gR (dp := fun _ => true) (fn := Tryz.f11) (n := 1) (fun _ => rfl) (by kernel_rfl) rfl (by kernel_rfl) hG (Nat.le_of_ble_eq_true rfl) (by kernel_rfl) (by decide) (fun _ _ => .v _) ?_
  rintro ⟨s, ⟨⟩⟩ hpre
  simp -implicitDefEqProofs only [Tryz.f11, go_sem, hh] at hpre ⊢
  by_cases h : SpOk s
  · have b1 := bOf_y h
    have hm := many_le h
    rw [SMany_y h]
    simp -implicitDefEqProofs only [b1, go_sem, hh]
    repeat' (first | with_reducible apply And.intro | with_reducible intro _ | ((first | apply brB_split | apply aPickB_split | apply gB_split | apply adB_split) <;> intro hb <;> simp -implicitDefEqProofs only [hb, go_sem, hh] <;> try simp only [qz] at hb))
    all_goals first | rfl | omega | assumption | contradiction | skip
    all_goals
      refine run_loop [] (ι := {p : Nat × Int // p.1 ≤ s.items.length ∧ 0 ≤ p.2 ∧ p.2 + sumL rcN (s.items.drop p.1) = sumL rcN s.items}) (fun p => ⟨[(1, .pb 1001 0), (3, .t (.v (.int .i64 p.1.2))), (10, .t (.sl 5 (s.items.map encIm))), (11, .t (.v (.int .i64 s.items.length))), (12, .t (.v (.int .i64 p.1.1)))], [(1001, some (.box ((encSp s).map .t)))]⟩) (fun p => s.items.length - p.1.1) ⟨(0, 0), by simp, by simp, by simp⟩ rfl ?_ ?_
      · simp -implicitDefEqProofs only [go_sem, hh]
        simp
      · rintro ⟨⟨i, v⟩, hi, h0, hv⟩
        dsimp only at hi h0 hv ⊢
        by_cases hlt : (i : Int) < s.items.length
        · have hst := sum_step (f := rcN) (xs := s.items) (i := i) (by omega)
          have hrest := sum_drop (f := rcN) (xs := s.items) (fun x _ => by unfold rcN; omega) (i + 1)
          have hr : rcN (s.items.getD i default) = (s.items.getD i default).to.length := rfl
          simp -implicitDefEqProofs only [hlt, decide_true, Int.toNat_natCast, go_sem, hh]
          repeat' (first | with_reducible apply And.intro | with_reducible intro _ | ((first | apply brB_split | apply aPickB_split | apply gB_split | apply adB_split) <;> intro hb <;> simp -implicitDefEqProofs only [hb, go_sem, hh] <;> try simp only [qz] at hb))
          all_goals (try simp only [maxLen, Int.toNat_natCast] at *)
          all_goals first | rfl | omega | skip
          refine ⟨⟨(i + 1, v + (s.items.getD i default).to.length), by dsimp only; omega, by dsimp only; omega, by dsimp only; omega⟩, by dsimp only; omega, ?_⟩
          simp -implicitDefEqProofs only [go_sem, hh]
          simp
        · have hst := sum_end (f := rcN) (xs := s.items) (i := i) (by omega)
          simp -implicitDefEqProofs only [hlt, decide_false, go_sem, hh]
          repeat' (first | with_reducible apply And.intro | with_reducible intro _ | ((first | apply brB_split | apply aPickB_split | apply gB_split | apply adB_split) <;> intro hb <;> simp -implicitDefEqProofs only [hb, go_sem, hh] <;> try simp only [qz] at hb))
          all_goals first | rfl | omega | (rw [← hv, hst, Int.add_zero]; done) | skip
  · have b1 := bOf_n h
    rw [SMany_n h]
    simp -implicitDefEqProofs only [b1, go_sem, hh]
    repeat' (first | with_reducible apply And.intro | with_reducible intro _ | ((first | apply brB_split | apply aPickB_split | apply gB_split | apply adB_split) <;> intro hb <;> simp -implicitDefEqProofs only [hb, go_sem, hh] <;> try simp only [qz] at hb))
    all_goals first | rfl | omega | assumption | contradiction | skip
end
end Go.V
namespace Go.V
open Go Go.Proofs
set_option maxRecDepth 100000
set_option linter.unusedSimpArgs false
set_option linter.unusedVariables false
attribute [local go_sem] aPickB.eq_1 aPickB.eq_2 aPick.eq_1 aBox.eq_1 aBox.eq_2 aAlloc.eq_1 aAlloc.eq_2 aLoadB.eq_1 aLoadB.eq_2 aLoadB.eq_3 aLoadB.eq_4 aLoadB.eq_5 aLoadA.eq_1 aLoadA.eq_2 aLoadA.eq_3 aLoadA.eq_4 aLoadA.eq_5 aLoadP.eq_1 aLoadP.eq_2 aLoadP.eq_3 aLoad.eq_1 aLoad.eq_2 aFAx.eq_1 aFAx.eq_2 aFAx.eq_3 aFA.eq_1 aFA.eq_2 aFx.eq_1 aF.eq_1 aF.eq_2 fld.eq_1 elT.eq_1 aIdxH.eq_1 aIdxH.eq_2 aIdxH.eq_3 aIdxH.eq_4 aIdxH.eq_5 aIdxP.eq_1 aIdxP.eq_2 aIndexAddr.eq_1 aIndexAddr.eq_2 aIndexAddr.eq_3 isStr.eq_1 aIndex.eq_1 aSlStr.eq_1 aSlRo.eq_1 aSlZ.eq_1 aSlZ.eq_2 aSlice.eq_1 aSlice.eq_2 aSlice.eq_3 bnd.eq_1 bnd.eq_2 aBuildO.eq_1 aBuildO.eq_2 aBuild.eq_1 aNewArr.eq_1 aNewArr.eq_2 aBS.eq_1 aBS.eq_2 aBuildSlice.eq_1 aBuildSlice.eq_2 aMakeSlice.eq_1 appDeep.eq_1 aApp2.eq_1 aAppend.eq_1 aAppend.eq_2 aStoreB.eq_1 aStoreA.eq_1 obFlat.eq_1 aStore2.eq_1 aStore2.eq_2 aStoreP.eq_1 aStoreP.eq_2 aStore.eq_1 aStore.eq_2 isShl.eq_1 isShl.eq_2 isBool.eq_1 aBinI.eq_1 aBinI.eq_2 aBinB.eq_1 aBinB.eq_2 aEq.eq_1 aEq.eq_2 aEq.eq_3 aEq.eq_4 aEqG.eq_1 aEqG.eq_2 aBin.eq_1 aBin.eq_2 aBin.eq_3 aBin.eq_4 aUn.eq_1 aUn.eq_2 aLenO.eq_1 aLenS.eq_1 aLenS.eq_2 aLenS.eq_3 aLenT.eq_1 aLen.eq_1 aLen.eq_2 aLen.eq_3 bytesOb.eq_1 bytesOb.eq_2 bytesOf.eq_1 bytesOf.eq_2 aNums.eq_1 aNums.eq_2 isU8.eq_1 aCvI.eq_1 aCvS.eq_1 aCvB.eq_1 aCvB.eq_2 aCvT.eq_1 aConv.eq_1 aConv.eq_2 aConv.eq_3 aConv.eq_4 aExO.eq_1 aExO.eq_2 aExtract.eq_1 aNil.eq_1 aNil.eq_2 aNil.eq_3 aCallS.eq_1 aCallS.eq_2 aCallR.eq_1 aCallR.eq_2 aCallK.eq_1 aCallK.eq_2 aCallK.eq_3 aCall.eq_1 aCall.eq_2 takeO.eq_1 AS.takeV.eq_1 AS.takeV.eq_2 AS.takeV.eq_3 AS.takeV.eq_4 AS.takeV.eq_5 AS.takeV.eq_6 AS.takeV.eq_7 AV.oldM.eq_1 AV.oldM.eq_2 AV.oldM.eq_3 AV.oldM.eq_4 AV.oldM.eq_5 AV.oldM.eq_6 AV.oldM.eq_7 AV.oldM.eq_8 AV.oldM.eq_9 AV.oldM.eq_10 AV.oldM.eq_11 AV.oldML.eq_1 AV.oldML.eq_2 subL.eq_1 subL.eq_2 back.eq_1 back.eq_2 back.eq_3 back.eq_4 backL.eq_1 backI.eq_1 backI.eq_2 backI.eq_3 backI.eq_4 backIL.eq_1 aBuiltin.eq_1 aBuiltin.eq_2 aBuiltin.eq_3 aCallee.eq_1 aCallee.eq_2 aCallee.eq_3 abin.eq_1 abin.eq_2 abin.eq_3 abin.eq_4 abin.eq_5 abin.eq_6 abin.eq_7 abin.eq_8 abin.eq_9 abin.eq_10 abin.eq_11 abin.eq_12 abin.eq_13 abin.eq_14 abin.eq_15 abin.eq_17 abin.eq_18 abin.eq_19 abin.eq_20 abin.eq_21 abin.eq_22 abin.eq_23 AS.ev.eq_1 AS.ev.eq_2 AS.ev.eq_3 AS.ev.eq_4 AS.evs.eq_1 AS.evs.eq_2 AS.evp.eq_1 AS.evp.eq_2 AS.put.eq_1 AS.put.eq_2 AS.remL.eq_1 AS.remL.eq_2 AV.has.eq_1 AV.has.eq_2 AV.has.eq_3 AV.has.eq_4 AV.has.eq_5 AV.has.eq_6 AV.has.eq_7 AV.has.eq_8 AV.has.eq_9 AV.has.eq_10 AV.has.eq_11 AV.hasL.eq_1 AV.hasL.eq_2 Ob.drop.eq_1 Ob.drop.eq_2 Ob.drop.eq_3 Ob.drop.eq_4 AV.cells.eq_1 AV.cells.eq_2 AV.cells.eq_3 AV.cells.eq_4 AV.cells.eq_5 AS.snapT.eq_1 AS.snapT.eq_2 AS.snapT.eq_3 AS.snapT.eq_4 AS.snapT.eq_5 AS.snapT.eq_6 AS.snapT.eq_7 AS.snap.eq_1 AS.snap.eq_2 mapO.eq_1 mapO.eq_2 intern.eq_1 intern.eq_2 intern.eq_3 intern.eq_4 intern.eq_5 intern.eq_6 intern.eq_7 intern.eq_8 intern.eq_9 intern.eq_10 intern.eq_11 internL.eq_1 internL.eq_2 zipSl.eq_1 zipSl.eq_2 AV.ids.eq_1 AV.ids.eq_2 AV.ids.eq_3 AV.ids.eq_4 AV.ids.eq_5 AV.ids.eq_6 AV.ids.eq_7 AV.ids.eq_8 AV.ids.eq_9 AV.ids.eq_10 AV.ids.eq_11 AV.idsL.eq_1 AV.idsL.eq_2 AV.sub.eq_1 AV.sub.eq_2 AV.sub.eq_3 AV.sub.eq_4 AV.sub.eq_5 AV.sub.eq_6 AV.sub.eq_7 AV.sub.eq_8 AV.sub.eq_9 AV.sub.eq_10 AV.sub.eq_11 AV.subL.eq_1 AV.subL.eq_2 AS.frzL.eq_1 AS.frzL.eq_2 AS.absT.eq_1 AS.absT.eq_2 AS.absT.eq_4 AS.absL.eq_1 AS.absL.eq_2 AS.absOk.eq_1 AS.absOkL.eq_1 AS.absOkL.eq_2 hid.eq_1 hids.eq_1 hids.eq_2 AS.appBase.eq_1 AS.appBase.eq_2 AS.appSrc.eq_1 appFits.eq_1 appFits.eq_2 appFits.eq_3 avFill.eq_1 avFill.eq_2 avc.eq_1 avc.eq_2 avc1.eq_1 Kd.agg.eq_1 Kd.agg.eq_2 okR.eq_1 okR.eq_2 okR.eq_3 okR.eq_4 okR.eq_5 okR.eq_6 okR.eq_7 okR.eq_8 zt.eq_1 rvB.eq_1 rvP.eq_1 rvA.eq_1 rvA.eq_2 rv1.eq_1 outTO.eq_1 outT.eq_1 outT.eq_2 outT.eq_3 outTn.eq_1 outOO.eq_1 outO.eq_1 outO.eq_2 boxOf.eq_1 outP.eq_1 outP.eq_2 outP.eq_3 outP.eq_4 outP.eq_5 outP.eq_6 outP.eq_7 outP.eq_8 outPL.eq_1 outPL.eq_2 outI.eq_1 outI.eq_2 outI.eq_3 outI.eq_4 outI.eq_5 outIL.eq_1 outZ.eq_1 outZ.eq_2 outZ.eq_3 outZ.eq_4 outZ.eq_5 outZL.eq_1 finO.eq_1 finO.eq_2 fin.eq_1 fin.eq_2 fin.eq_3 cellAV.eq_1 cellAV.eq_2 numsOf.eq_1 numsOf.eq_2 aop.eq_1 aop.eq_2 aop.eq_3 aop.eq_4 aop.eq_5 aop.eq_6 aop.eq_7 aop.eq_8 aop.eq_9 aop.eq_10 aop.eq_11 aop.eq_12 aop.eq_13 aop.eq_14 aop.eq_15 aop.eq_16 aop.eq_17 aop.eq_18 aop.eq_19 aop.eq_20 aop.eq_21 aop.eq_22 aop.eq_23 aop.eq_24 aop.eq_25 aop.eq_26 tmpsOf.eq_1 tmpsOf.eq_2 tmpsOf.eq_3 tmpsOf.eq_4 tmpsOf.eq_5 AV.refs.eq_1 AV.refs.eq_2 AV.refs.eq_3 AV.refs.eq_4 AV.refs.eq_5 AV.refs.eq_6 AV.refs.eq_7 AV.refs.eq_8 AV.refs.eq_9 AV.refs.eq_10 AV.refs.eq_11 AV.refsL.eq_1 AV.refsL.eq_2 refsT.eq_1 refsT.eq_2 refsO.eq_1 refsO.eq_2 refsO.eq_3 refsO.eq_4 refsO.eq_5 refsO.eq_6 refsB.eq_1 refsB.eq_2 clos.eq_1 clos.eq_2 keepL.eq_1 keepL.eq_2 AV.hasM.eq_1 AV.hasM.eq_2 AV.hasM.eq_3 AV.hasM.eq_4 AV.hasM.eq_5 AV.hasM.eq_6 AV.hasM.eq_7 AV.hasM.eq_8 AV.hasM.eq_9 AV.hasM.eq_10 AV.hasM.eq_11 AV.hasML.eq_1 AV.hasML.eq_2 Ob.dropM.eq_1 Ob.dropM.eq_2 Ob.dropM.eq_3 Ob.dropM.eq_4 nsC.eq_1 nsC.eq_2 okGuard.eq_1 okGuard.eq_2 AS.purges.eq_1 AS.purges.eq_2 dropMB.eq_1 dropMB.eq_2 newB.eq_1 newB.eq_2 ptB.eq_1 ptB.eq_2 lookC.eq_1 lookC.eq_2 dropB.eq_1 dropB.eq_2 leS.eq_1 leS.eq_2 leT.eq_1 leT.eq_2 AS.mvs.eq_1 AS.mvs.eq_2 AS.mvA.eq_1 AS.mvA.eq_2 AS.mvB.eq_1 aSetO.eq_1 aSetO.eq_2 aSh.eq_1 aSh.eq_2 arK.eq_1 aIdxA.eq_1 aIdxA.eq_2 arT.eq_1 aSlHB.eq_1 aSlHB.eq_2 aSlHO.eq_1 aSlHZ.eq_1 aSlHZ.eq_2 isSlT.eq_1 isNilC.eq_1 aNilO.eq_1 aNilX.eq_1 aNilX.eq_2 aNilX.eq_3 aNilC.eq_1 aNilC.eq_2 aBinQ.eq_1 aBinQ.eq_2 aMin.eq_1 flT.eq_1 flT.eq_2 flT.eq_3 mpT.eq_1 aMkMap.eq_1 aMkMap.eq_2 strA.eq_1 keyMK.eq_1 keyMK.eq_2 keyMK.eq_3 mkB.eq_1 mkB.eq_2 mkB.eq_3 aMp2.eq_1 aMp1.eq_1 aMp0.eq_1 aMapU.eq_1 aLk2.eq_1 aLk2.eq_2 aLk1.eq_1 aLk0.eq_1 aLookup.eq_1 aLenMO.eq_1 aLenM.eq_1 glV.eq_1 glV.eq_2 evG.eq_1 evG.eq_2 evG.eq_3 evG.eq_4 lkHitO.eq_1 lkHitO.eq_2 lkHitO.eq_3 lkHitO.eq_4 lkHit.eq_1 lkHit.eq_2 lkF.eq_1 lkF.eq_2 lkFind.eq_1 lkFind.eq_2 lkV.eq_1 lkV.eq_2 lkV.eq_3 lkV.eq_4 lkV.eq_5 AS.lkO.eq_1 AS.lkO.eq_2 AS.lkOf.eq_1 rawT.eq_1 rawT.eq_2 rawT.eq_3 rawT.eq_4 rawT.eq_5 rawT.eq_6 rawOf.eq_1 rawOf.eq_2 rawOf.eq_3 rawOf.eq_4 rawOf.eq_5 rawOf.eq_6 rawOf.eq_7 rawOf.eq_8 rawOf.eq_9 rawOf.eq_10 rawOf.eq_11 aLkR.eq_1 aLkR.eq_2 aLk.eq_1 aLk.eq_2 KL.eq_1 lkDrop.eq_1 lkDrop.eq_2 lkParO.eq_1 lkParO.eq_2 lkParO.eq_3 lkParO.eq_4 lkPar.eq_1 lkPar.eq_2 lkI.eq_1 lkI.eq_2 lkIds.eq_1 lkIds.eq_2 adLd.eq_1 run_nil run_b run_l run_skip run_label run_seq run_cond brV_b brB_t brB_f run_block run_exit run_ret run_region runX_nil runX_c runX_c' runX_b runX_b' runX_l runX_l' exB_t exB_f run_o run_op run_opg gV_b gV_t gB_tt gB_ff gB_tf gB_ft rs_eq kv KI aLenN aBS1 aApp1 aStore1 szOk gv gd s0 idOf look_cons lookC frzU_t frzU_f orT orF drop_any drop_nil drop_t drop_h drop_pb drop_pa drop_agg drop_tup drop_fn dropB kill_eq set_eq rem_eq re_eq up_eq get_eq ob_eq Ob.drop apl fpl plainTy AS.frz splice cond_true cond_false List.map_cons List.map_nil List.drop_zero List.drop_succ_cons List.drop_nil List.take_zero List.take_succ_cons List.take_nil List.getElem?_cons_zero List.getElem?_cons_succ List.getElem?_nil List.length_cons List.length_nil Option.map_some Option.map_none Option.bind_some Option.bind_none List.cons_append List.nil_append List.append_nil Option.getD_some Option.getD_none List.all_cons List.all_nil Bool.and_true Bool.true_and Bool.or_false Bool.false_or Bool.or_true Bool.true_or List.flatten_cons List.flatten_nil List.replicate_succ List.replicate_zero and_true true_and avOf_t avOf_f agg_bool agg_int agg_str agg_slice agg_struct agg_func agg_ptr agg_map avc_bool avc_int avc_str avc_fn avc1_bool avc1_int avc1_str avc1_fn zt_bool zt_int zt_str cells_nil cells_t cells_h cells_pb cells_fn snap_t snap_nil snap_h snap_pb snap_fn rv1_one rv1_two outI_t outI_oh outI_on outI_any outI_nil outZ_th outZ_tt outZ_tn outZ_o outZ_any outZ_nil outIL_nil outZL_nil finN finR ne_eq not_false_eq_true not_true_eq_false List.nodup_nil List.not_mem_nil false_implies implies_true eq_self true_or or_true Option.some.injEq shl_add shl_sub shl_mul shl_quo shl_rem shl_and shl_or shl_xor shl_andNot shl_eql shl_neq shl_lss shl_leq shl_gtr shl_geq shl_shr shl_shl appDeep_none appDeep_sn appSrc_h appSrc_nil fits_ft fits_tn fits_tf isStr_slice obFlat_box Nat.le_refl nbeq_self List.length_map updZ_s updZ_n dropM_eq purge_eq newIds_cons newIds_nil purgeT_nil purgeT_cons memN_cons memN_nil bd_d bd_c bd_g bd_p bd_t bd_o preds_nil preds_cons hasIns insB List.any_cons List.any_nil adK_eq adr_nil adG_eq kdOp noLen creates Op.operands Call.operands nsOf adT adI adJ plainB rst List.append_eq nsD_f nsD_n nsD_t nOf_0 nOf_1 nOf_2 chO_0 chO_1 chO_2 keepK_0 keepK_1 keepK_2 eqRes AS.mv fits KM aCallM notNew kdCall arK_i64 arK_i32 arK_u8 arK_u64 arT_sl isNilC_t isNilC_f isNilC_g isNilC_i isNilC_b isNilC_s isNilC_a isNilC_n andBF andBT aCallK_2 ble_dec hid_t hid_nil hid_any hid_pb hid_fn absOk_t absOk_nil absOk_pb absOk_h absOkO_1 decide_true decide_false Array.toList_append chunk_0 chunk_1 chunk_2 chunk_3 back_t back_nil back_ht backL_nil backI_t backI_nil backI_ht backIL_nil AS.mvJ nbeq_dec runR_f runR_t loadB Option.isSome_some Option.isSome_none nodup1 adr_none adr_some adO_s adV_b adV_t adB_tt adB_ff adB_tf adB_ft adS_eq lenL.eq_1 lenO.eq_1 lenO.eq_2 lenV.eq_1 lenV.eq_2 lenV.eq_3 lenV.eq_4 optN optS absT_ft
attribute [local go_sem] ty3 ty4 ty5 ty9 ty21 ty22 ty23 ty25 ty27 ty28 ty29 ty31 ty33 ty43 ty45 ty46 ty48 ty54 ty57 ty59 ty60 ty62 ty73 ty75 ty91 ty96 ty98 ty101 ty104 ty120 ty125 ty129 ty146 ty166 ty207 ty220 ty237 lv27 lv91 lv104 lv120 zb4 leS leT fits AS.mvs encStr_eq aIdx_str EStr_dec decStrs decStrs0 EStr_enc EStr_n encInt_eq aIdx_int EInt_dec decInts decInts0 EInt_enc EInt_n AllV_Int len_Int lc_enc l0_enc asl_enc ag_enc aow_enc ABool_enc AInt_enc AStr_enc AU8_enc ABool_dec AInt_dec AStr_dec AU8_dec asl_dec ag_dec aow_dec bind_some pr2.eq_1 l0_nil lc_cons unT.eq_1 K0.eq_1 M0.eq_1 KI AllV_Str len_Str ctR_eq ctM_eq ro_kd ro_ro mu_kd mu_mu encAd_eq aIdx_Ad EAd_dec decAds decAds0 EAd_enc EAd_n len_Ad Ad_eta AllV_Ad encMl_eq aIdx_Ml EMl_dec decMls decMls0 EMl_enc EMl_n len_Ml Ml_eta mkMl.eq_1 owMl_eq AMl_enc AMl_dec encRc_eq aIdx_Rc ERc_dec decRcs decRcs0 ERc_enc ERc_n len_Rc Rc_eta AllV_Rc encIm_eq aIdx_Im EIm_dec decIms decIms0 EIm_enc EIm_n len_Im Im_eta mkIm.eq_1 owIm_eq AIm_enc AIm_dec encSp_eq aIdx_Sp ESp_dec decSps decSps0 ESp_enc ESp_n len_Sp Sp_eta mkSp.eq_1 owSp_eq ASp_enc ASp_dec encNt_eq aIdx_Nt ENt_dec decNts decNts0 ENt_enc ENt_n len_Nt Nt_eta mkNt.eq_1 owNt_eq ANt_enc ANt_dec
theorem spA_byte {c x : UInt8} : ∀ {l : List UInt8}, x ∈ l → x = c ∨ ∃ w ∈ spA c l, x ∈ w
  | y :: r, h => by
    rw [spA]
    by_cases e : y = c
    · rw [if_pos e]
      rcases List.mem_cons.1 h with h | h
      · exact .inl (h.trans e)
      · rcases spA_byte h with q | ⟨w, hw, q⟩
        · exact .inl q
        · exact .inr ⟨w, by simp [hw], q⟩
    · rw [if_neg e]
      cases hs : spA c r with
      | nil => have := spA_len c r; rw [hs] at this; simp at this
      | cons a t =>
        rcases List.mem_cons.1 h with h | h
        · exact .inr ⟨y :: a, by simp, by simp [h]⟩
        · rcases spA_byte h with q | ⟨w, hw, q⟩
          · exact .inl q
          · rw [hs] at hw
            rcases List.mem_cons.1 hw with e2 | hw
            · exact .inr ⟨y :: a, by simp, by rw [e2] at q; simp [q]⟩
            · exact .inr ⟨w, by simp [hw], q⟩
theorem spA_size {c : UInt8} {B : Nat} : ∀ {l : List UInt8}, (∀ w ∈ spA c l, w.length ≤ B) → l.length + 1 ≤ (B + 1) * (spA c l).length
  | [], _ => by simp [spA]
  | y :: r, h => by
    rw [spA] at h ⊢
    by_cases e : y = c
    · rw [if_pos e] at h ⊢
      have := spA_size (c := c) (l := r) fun w hw => h w (by simp [hw])
      rw [List.length_cons, List.length_cons, Nat.mul_succ]
      omega
    · rw [if_neg e] at h ⊢
      cases hs : spA c r with
      | nil => have := spA_len c r; rw [hs] at this; simp at this
      | cons a t =>
        rw [hs] at h
        have h1 := h (y :: a) (by simp)
        have h3 : (∀ w ∈ spA c r, w.length ≤ B) ∨ True := .inr trivial
        have key : ∀ (l : List UInt8), l.length + 1 = ((spA c l).map fun w => w.length + 1).sum := fun l => by
          induction l with
          | nil => rfl
          | cons z q ih =>
            rw [spA]
            by_cases ez : z = c
            · rw [if_pos ez, List.map_cons, List.sum_cons, ← ih, List.length_cons, List.length_nil]; omega
            · rw [if_neg ez]
              cases hq : spA c q with
              | nil => have := spA_len c q; rw [hq] at this; simp at this
              | cons a' t' => rw [hq] at ih; simp only [List.map_cons, List.sum_cons, List.length_cons] at ih ⊢; omega
        have h2 := key r
        rw [hs] at h2
        have h4 : ∀ t : List (List UInt8), (∀ w ∈ t, w.length ≤ B) → (t.map fun w => w.length + 1).sum ≤ (B + 1) * t.length := fun t => by
          induction t with
          | nil => intro _; simp
          | cons w t ih =>
            intro hw
            have q1 := ih fun x hx => hw x (by simp [hx])
            have q2 := hw w (by simp)
            rw [List.map_cons, List.sum_cons, List.length_cons, Nat.mul_succ]; omega
        have h5 := h4 t fun w hw => h w (by simp [hw])
        simp only [List.map_cons, List.sum_cons, List.length_cons] at h1 h2 ⊢
        rw [Nat.mul_succ]
        omega
def LinL (l : List UInt8) : Prop := ∀ b ∈ l, 32 ≤ (b.toNat : Int) ∧ (b.toNat : Int) ≤ 126
instance (l : List UInt8) : Decidable (LinL l) := by unfold LinL; infer_instance
theorem byte_mem {s : ByteArray} {b : UInt8} (h : b ∈ bl s) : ∃ j, j < s.size ∧ byteAt s j = b.toNat := by
  obtain ⟨j, hj, e⟩ := List.getElem_of_mem h
  exact ⟨j, hj, by rw [byteAt_bl]; simp [hj, e]⟩
theorem mem_byte {s : ByteArray} {j : Nat} (h : j < s.size) : ∃ b ∈ bl s, byteAt s j = b.toNat := by
  have h' : j < (bl s).length := h
  exact ⟨(bl s)[j], List.getElem_mem h', by rw [byteAt_bl]; simp [h']⟩
theorem Lin_iff (s : ByteArray) : Lin s ↔ LinL (bl s) ∧ s.size ≤ 40 :=
  ⟨fun h => ⟨fun b hb => by
    obtain ⟨j, hj, e⟩ := byte_mem hb
    rw [← e]; exact h.1 j hj, h.2⟩, fun h => ⟨fun j hj => by
    obtain ⟨b, hb, e⟩ := mem_byte hj
    rw [e]; exact h.1 b hb, h.2⟩⟩
theorem LinL_app {a b : List UInt8} : LinL (a ++ b) ↔ LinL a ∧ LinL b :=
  ⟨fun h => ⟨fun x hx => h x (by simp [hx]), fun x hx => h x (by simp [hx])⟩, fun h x hx => (List.mem_append.1 hx).elim (h.1 x) (h.2 x)⟩
theorem Lbl_lin {s : ByteArray} (h : Lbl s) : LinL (bl s) ∧ s.size ≤ 8 := ⟨fun b hb => by
  obtain ⟨j, hj, e⟩ := byte_mem hb
  have := h.1 j hj
  rw [← e]; unfold isLc at this; omega, h.2.2⟩
theorem Dom_lin {s : ByteArray} (h : Dom s) : LinL (bl s) ∧ s.size ≤ 26 := by
  obtain ⟨h1, h2⟩ := (Dom_spl s).1 h
  have h3 : ∀ w ∈ spA 46 (bl s), Lbl (mB w) := fun w hw => h1 _ (List.mem_map_of_mem hw)
  refine ⟨fun b hb => ?_, ?_⟩
  · rcases spA_byte (c := 46) hb with e | ⟨w, hw, q⟩
    · rw [e]; decide
    · exact (Lbl_lin (h3 w hw)).1 b q
  · have h4 := spA_size (c := 46) (B := 8) (l := bl s) fun w hw => (h3 w hw).2.2
    have h5 : (spA 46 (bl s)).length ≤ 3 := by
      have : (spl s 46).length = (spA 46 (bl s)).length := List.length_map ..
      omega
    have h6 : (bl s).length = s.size := rfl
    have h7 : 9 * (spA 46 (bl s)).length ≤ 9 * 3 := Nat.mul_le_mul_left 9 h5
    omega
def hopS : ByteArray := ⟨#[72, 111, 112, 58, 32]⟩
def hopLine (n : ByteArray) : ByteArray := hopS ++ n
theorem hop_lin {n : ByteArray} (h : Dom n) : Lin (hopLine n) := by
  obtain ⟨h1, h2⟩ := Dom_lin h
  rw [Lin_iff]
  have e : bl (hopLine n) = [72, 111, 112, 58, 32] ++ bl n := bl_app _ _
  refine ⟨?_, ?_⟩
  · rw [e, LinL_app]
    exact ⟨by decide, h1⟩
  · have : (hopLine n).size = 5 + n.size := by rw [← bl_len, e, List.length_append, bl_len]; rfl
    omega
noncomputable def putA (a : Ad) : ByteArray := bif bOf (AdNull a) then ⟨#[60, 62]⟩ else ⟨#[60]⟩ ++ a.user ++ ⟨#[64]⟩ ++ a.domain ++ ⟨#[62]⟩
theorem putA_y {a : Ad} (h : AdNull a) : putA a = ⟨#[60, 62]⟩ := by unfold putA; rw [bOf_y h]; rfl
theorem putA_n {a : Ad} (h : ¬ AdNull a) : putA a = ⟨#[60]⟩ ++ a.user ++ ⟨#[64]⟩ ++ a.domain ++ ⟨#[62]⟩ := by unfold putA; rw [bOf_n h]; rfl
theorem putA_bl {a : Ad} (h : ¬ AdNull a) : bl (putA a) = [60] ++ bl a.user ++ [64] ++ bl a.domain ++ [62] := by
  rw [putA_n h]
  simp only [bl_app]
  rfl
theorem AdOk_nn {a : Ad} (h : AdOk a) : ¬ AdNull a := fun q => by
  have := h.1.2.1
  rw [q.1] at this
  exact absurd this (by decide)
theorem putA_lin {a : Ad} (h : AdOk a ∨ AdNull a) : Lin (putA a) := by
  by_cases hn : AdNull a
  · rw [putA_y hn, Lin_iff]
    exact ⟨by decide, by decide⟩
  · have ha := h.resolve_right hn
    obtain ⟨u1, u2⟩ := Lbl_lin ha.1
    obtain ⟨d1, d2⟩ := Dom_lin ha.2
    rw [Lin_iff, putA_bl hn]
    refine ⟨by simp only [LinL_app]; exact ⟨⟨⟨⟨by decide, u1⟩, by decide⟩, d1⟩, by decide⟩, ?_⟩
    have : (putA a).size = 3 + a.user.size + a.domain.size := by
      rw [← bl_len, putA_bl hn]
      simp only [List.length_append, List.length_cons, List.length_nil, bl_len]; omega
    omega
theorem asc_pair {xs : List Im} : Asc xs ↔ (xs.map Im.id).Pairwise (· < ·) := by
  rw [List.pairwise_iff_getElem]
  constructor
  · intro h i j hi hj hij
    rw [List.length_map] at hi hj
    simp only [List.getElem_map]
    induction j with
    | zero => omega
    | succ j ih =>
      have h1 := h (j + 1) (by omega) hj
      simp only [Nat.add_sub_cancel, List.getD_eq_getElem?_getD, List.getElem?_eq_getElem hj, List.getElem?_eq_getElem (show j < xs.length by omega), Option.getD_some] at h1
      by_cases e : i = j
      · subst e; exact h1
      · have := ih (by omega) (by omega)
        omega
  · intro h j h0 hj
    have := h (j - 1) j (by rw [List.length_map]; omega) (by rw [List.length_map]; exact hj) (by omega)
    simp only [List.getElem_map] at this
    simp only [List.getD_eq_getElem?_getD, List.getElem?_eq_getElem hj, List.getElem?_eq_getElem (show j - 1 < xs.length by omega), Option.getD_some]
    exact this
theorem cut_sub {α : Type} (xs : List α) (i : Nat) : List.Sublist (xs.take i ++ xs.drop (i + 1)) xs := by
  have h : List.Sublist (xs.take i ++ xs.drop (i + 1)) (xs.take i ++ xs.drop i) := List.Sublist.append (List.Sublist.refl _) (by
    rw [← List.drop_drop]; exact List.drop_sublist 1 _)
  rwa [List.take_append_drop] at h
theorem cut_eq {α : Type} [Inhabited α] {xs : List α} {i : Nat} (h : i < xs.length) : xs = xs.take i ++ xs.getD i default :: xs.drop (i + 1) := by
  rw [← getD_drop h, List.take_append_drop]
theorem dnIm_ok {x : Im} {k : Nat} (h : ImOk x) (hk : k < x.to.length) (h2 : ¬ (dnIm x k).to = []) : ImOk (dnIm x k) := by
  have hs := cut_sub x.to k
  refine ⟨fun r hr => h.1 r (hs.subset hr), (hs.map Rc.addr).nodup h.2.1, h.2.2.1, h.2.2.2.1, ⟨?_, Nat.le_trans hs.length_le h.2.2.2.2.1.2⟩, h.2.2.2.2.2⟩
  exact Nat.pos_of_ne_zero fun e => h2 (List.eq_nil_of_length_eq_zero e)
theorem dnSp_SpOk {s : Sp} {i k : Nat} (h : SpOk s) (hi : i < s.items.length) (hk : k < (s.items.getD i default).to.length) : SpOk (dnSp s i k) := by
  have hx := h.1 _ (getD_mem hi)
  have hs := cut_sub s.items i
  have ha := asc_pair.1 h.2.1
  have hq := cut_eq hi
  show (∀ x ∈ dnL s.items i k, ImOk x ∧ x.id ≤ s.last) ∧ Asc (dnL s.items i k) ∧ (0 ≤ s.last ∧ s.last ≤ 999) ∧ (dnL s.items i k).length ≤ 10
  unfold dnL
  split
  · exact ⟨fun x hx => h.1 x (hs.subset hx), asc_pair.2 (ha.sublist (hs.map Im.id)), h.2.2.1, Nat.le_trans hs.length_le h.2.2.2⟩
  · rename_i hne
    refine ⟨fun x hm => ?_, asc_pair.2 ?_, h.2.2.1, ?_⟩
    · rcases List.mem_append.1 hm with hm | hm
      · exact h.1 x (List.mem_of_mem_take hm)
      · rcases List.mem_cons.1 hm with e | hm
        · rw [e]; exact ⟨dnIm_ok hx.1 hk hne, hx.2⟩
        · exact h.1 x (List.mem_of_mem_drop hm)
    · have e : (s.items.take i ++ dnIm (s.items.getD i default) k :: s.items.drop (i + 1)).map Im.id = s.items.map Im.id := by
        conv => rhs; rw [hq]
        simp only [List.map_append, List.map_cons]
        rfl
      rw [e]; exact ha
    · have e : (s.items.take i ++ dnIm (s.items.getD i default) k :: s.items.drop (i + 1)).length = s.items.length := by
        conv => rhs; rw [hq]
        simp only [List.length_append, List.length_cons]
      rw [e]; exact h.2.2.2
theorem gd_rc (l : List Rc) (k : Nat) (h : k < l.length) : l.getD k default = l[k] := by simp [h]
theorem ltSp_SpOk {s : Sp} {i k : Nat} {w : Int} (h : SpOk s) (hi : i < s.items.length) (hk : k < (s.items.getD i default).to.length) (hn : ¬ ltNo ((s.items.getD i default).to.getD k default) w) (hw : 0 ≤ w) : SpOk (ltSp s i k w) := by
  have hx := h.1 _ (getD_mem hi)
  have hr := hx.1.1 _ (getD_mem hk)
  have hn1 : ((s.items.getD i default).to.getD k default).tries + 1 < 4 := by unfold ltNo at hn; omega
  have hn2 : w + pau (((s.items.getD i default).to.getD k default).tries + 1) ≤ 9999 := by unfold ltNo at hn; omega
  have hp := (pau_le (t := ((s.items.getD i default).to.getD k default).tries + 1) (m := 3) (by omega)).1
  have hrc : RcOk (ltRc ((s.items.getD i default).to.getD k default) w) := ⟨hr.1, ⟨by have := hr.2.1.1; show 0 ≤ _ + 1; omega, by show _ + 1 ≤ 3; omega⟩, ⟨by show 0 ≤ w + _; omega, hn2⟩⟩
  have hadr : ((s.items.getD i default).to.set k (ltRc ((s.items.getD i default).to.getD k default) w)).map Rc.addr = (s.items.getD i default).to.map Rc.addr := by
    rw [List.map_set]
    have : (ltRc ((s.items.getD i default).to.getD k default) w).addr = ((s.items.getD i default).to.map Rc.addr)[k]'(by rw [List.length_map]; exact hk) := by
      rw [List.getElem_map]
      show ((s.items.getD i default).to.getD k default).addr = _
      rw [gd_rc _ _ hk]
    rw [this, List.set_getElem_self]
  have hx2 : ImOk (ltIm (s.items.getD i default) k w) := by
    refine ⟨fun r hm => ?_, ?_, hx.1.2.2.1, hx.1.2.2.2.1, ?_, hx.1.2.2.2.2.2⟩
    · rcases List.mem_or_eq_of_mem_set hm with hm | rfl
      · exact hx.1.1 r hm
      · exact hrc
    · show (((s.items.getD i default).to.set k _).map Rc.addr).Nodup
      rw [hadr]; exact hx.1.2.1
    · show 1 ≤ ((s.items.getD i default).to.set k _).length ∧ ((s.items.getD i default).to.set k _).length ≤ 4
      rw [List.length_set]; exact hx.1.2.2.2.2.1
  refine ⟨fun x hm => ?_, asc_pair.2 ?_, h.2.2.1, by show (s.items.set i _).length ≤ 10; rw [List.length_set]; exact h.2.2.2⟩
  · rcases List.mem_or_eq_of_mem_set hm with hm | rfl
    · exact h.1 x hm
    · exact ⟨hx2, hx.2⟩
  · have e : (s.items.set i (ltIm (s.items.getD i default) k w)).map Im.id = s.items.map Im.id := by
      rw [List.map_set]
      have : (ltIm (s.items.getD i default) k w).id = (s.items.map Im.id)[i]'(by rw [List.length_map]; exact hi) := by
        simp [ltIm, hi]
      rw [this, List.set_getElem_self]
    show ((s.items.set i _).map Im.id).Pairwise (· < ·)
    rw [e]; exact asc_pair.1 h.2.1
theorem adSp_SpOk {s : Sp} {m : Ml} {w : Int} (h : SpOk s) (hm : MlOk m) (hw : 0 ≤ w ∧ w ≤ 9999) (hr : Room s) : SpOk (adSp s m w) := by
  have hx : ImOk (adIm s m w) := by
    refine ⟨fun r hr => ?_, ?_, ?_, hm.2.2.1, ?_, hm.2.2.2.2⟩
    · obtain ⟨a, ha, rfl⟩ := List.mem_map.1 hr
      exact ⟨hm.1 a ha, by show 0 ≤ (0 : Int) ∧ (0 : Int) ≤ 3; decide, hw⟩
    · show ((m.to.map (adRc w)).map Rc.addr).Nodup
      have e : (m.to.map (adRc w)).map Rc.addr = m.to := by
        rw [List.map_map]; exact List.map_id'' (fun _ => rfl) _
      rw [e]; exact hm.2.1
    · have := h.2.2.1.1
      show 0 < s.last + 1; omega
    · show 1 ≤ (m.to.map (adRc w)).length ∧ (m.to.map (adRc w)).length ≤ 4
      rw [List.length_map]; exact hm.2.2.2.1
  have h1 := hr.1; have h2 := hr.2
  refine ⟨fun x hm => ?_, asc_pair.2 ?_, ?_, ?_⟩
  · rcases List.mem_append.1 hm with hm | hm
    · have := h.1 x hm
      exact ⟨this.1, by have := this.2; show x.id ≤ s.last + 1; omega⟩
    · rw [List.mem_singleton.1 hm]
      exact ⟨hx, Int.le_refl _⟩
  · show ((s.items ++ [adIm s m w]).map Im.id).Pairwise (· < ·)
    rw [List.map_append, List.pairwise_append]
    refine ⟨asc_pair.1 h.2.1, by simp, fun a ha b hb => ?_⟩
    obtain ⟨x, hx, rfl⟩ := List.mem_map.1 ha
    rw [List.map_cons, List.map_nil, List.mem_singleton] at hb
    rw [hb]
    have := (h.1 x hx).2
    show x.id < s.last + 1; omega
  · have := h.2.2.1.1
    show 0 ≤ s.last + 1 ∧ s.last + 1 ≤ 999; omega
  · show (s.items ++ [adIm s m w]).length ≤ 10
    rw [List.length_append]; simp; omega
end Go.V
namespace Go.V
open Go Go.Proofs
set_option maxRecDepth 100000
set_option linter.unusedSimpArgs false
set_option linter.unusedVariables false
attribute [local go_sem_proc] Nat.reduceAdd Nat.reduceMul Nat.reduceLeDiff Nat.reduceEqDiff reduceCtorEq Nat.reduceSub Int.reduceNeg Nat.reduceMod Nat.reduceBEq Nat.reduceLT
attribute [local go_sem] aPickB.eq_1 aPickB.eq_2 aPick.eq_1 aBox.eq_1 aBox.eq_2 aAlloc.eq_1 aAlloc.eq_2 aLoadB.eq_1 aLoadB.eq_2 aLoadB.eq_3 aLoadB.eq_4 aLoadB.eq_5 aLoadA.eq_1 aLoadA.eq_2 aLoadA.eq_3 aLoadA.eq_4 aLoadA.eq_5 aLoadP.eq_1 aLoadP.eq_2 aLoadP.eq_3 aLoad.eq_1 aLoad.eq_2 aFAx.eq_1 aFAx.eq_2 aFAx.eq_3 aFA.eq_1 aFA.eq_2 aFx.eq_1 aF.eq_1 aF.eq_2 fld.eq_1 elT.eq_1 aIdxH.eq_1 aIdxH.eq_2 aIdxH.eq_3 aIdxH.eq_4 aIdxH.eq_5 aIdxP.eq_1 aIdxP.eq_2 aIndexAddr.eq_1 aIndexAddr.eq_2 aIndexAddr.eq_3 isStr.eq_1 aIndex.eq_1 aSlStr.eq_1 aSlRo.eq_1 aSlZ.eq_1 aSlZ.eq_2 aSlice.eq_1 aSlice.eq_2 aSlice.eq_3 bnd.eq_1 bnd.eq_2 aBuildO.eq_1 aBuildO.eq_2 aBuild.eq_1 aNewArr.eq_1 aNewArr.eq_2 aBS.eq_1 aBS.eq_2 aBuildSlice.eq_1 aBuildSlice.eq_2 aMakeSlice.eq_1 appDeep.eq_1 aApp2.eq_1 aAppend.eq_1 aAppend.eq_2 aStoreB.eq_1 aStoreA.eq_1 obFlat.eq_1 aStore2.eq_1 aStore2.eq_2 aStoreP.eq_1 aStoreP.eq_2 aStore.eq_1 aStore.eq_2 isShl.eq_1 isShl.eq_2 isBool.eq_1 aBinI.eq_1 aBinI.eq_2 aBinB.eq_1 aBinB.eq_2 aEq.eq_1 aEq.eq_2 aEq.eq_3 aEq.eq_4 aEqG.eq_1 aEqG.eq_2 aBin.eq_1 aBin.eq_2 aBin.eq_3 aBin.eq_4 aUn.eq_1 aUn.eq_2 aLenO.eq_1 aLenS.eq_1 aLenS.eq_2 aLenS.eq_3 aLenT.eq_1 aLen.eq_1 aLen.eq_2 aLen.eq_3 bytesOb.eq_1 bytesOb.eq_2 bytesOf.eq_1 bytesOf.eq_2 aNums.eq_1 aNums.eq_2 isU8.eq_1 aCvI.eq_1 aCvS.eq_1 aCvB.eq_1 aCvB.eq_2 aCvT.eq_1 aConv.eq_1 aConv.eq_2 aConv.eq_3 aConv.eq_4 aExO.eq_1 aExO.eq_2 aExtract.eq_1 aNil.eq_1 aNil.eq_2 aNil.eq_3 aCallS.eq_1 aCallS.eq_2 aCallR.eq_1 aCallR.eq_2 aCallK.eq_1 aCallK.eq_2 aCallK.eq_3 aCall.eq_1 aCall.eq_2 takeO.eq_1 AS.takeV.eq_1 AS.takeV.eq_2 AS.takeV.eq_3 AS.takeV.eq_4 AS.takeV.eq_5 AS.takeV.eq_6 AS.takeV.eq_7 AV.oldM.eq_1 AV.oldM.eq_2 AV.oldM.eq_3 AV.oldM.eq_4 AV.oldM.eq_5 AV.oldM.eq_6 AV.oldM.eq_7 AV.oldM.eq_8 AV.oldM.eq_9 AV.oldM.eq_10 AV.oldM.eq_11 AV.oldML.eq_1 AV.oldML.eq_2 subL.eq_1 subL.eq_2 back.eq_1 back.eq_2 back.eq_3 back.eq_4 backL.eq_1 backI.eq_1 backI.eq_2 backI.eq_3 backI.eq_4 backIL.eq_1 aBuiltin.eq_1 aBuiltin.eq_2 aBuiltin.eq_3 aCallee.eq_1 aCallee.eq_2 aCallee.eq_3 abin.eq_1 abin.eq_2 abin.eq_3 abin.eq_4 abin.eq_5 abin.eq_6 abin.eq_7 abin.eq_8 abin.eq_9 abin.eq_10 abin.eq_11 abin.eq_12 abin.eq_13 abin.eq_14 abin.eq_15 abin.eq_17 abin.eq_18 abin.eq_19 abin.eq_20 abin.eq_21 abin.eq_22 abin.eq_23 AS.ev.eq_1 AS.ev.eq_2 AS.ev.eq_3 AS.ev.eq_4 AS.evs.eq_1 AS.evs.eq_2 AS.evp.eq_1 AS.evp.eq_2 AS.put.eq_1 AS.put.eq_2 AS.remL.eq_1 AS.remL.eq_2 AV.has.eq_1 AV.has.eq_2 AV.has.eq_3 AV.has.eq_4 AV.has.eq_5 AV.has.eq_6 AV.has.eq_7 AV.has.eq_8 AV.has.eq_9 AV.has.eq_10 AV.has.eq_11 AV.hasL.eq_1 AV.hasL.eq_2 Ob.drop.eq_1 Ob.drop.eq_2 Ob.drop.eq_3 Ob.drop.eq_4 AV.cells.eq_1 AV.cells.eq_2 AV.cells.eq_3 AV.cells.eq_4 AV.cells.eq_5 AS.snapT.eq_1 AS.snapT.eq_2 AS.snapT.eq_3 AS.snapT.eq_4 AS.snapT.eq_5 AS.snapT.eq_6 AS.snapT.eq_7 AS.snap.eq_1 AS.snap.eq_2 mapO.eq_1 mapO.eq_2 intern.eq_1 intern.eq_2 intern.eq_3 intern.eq_4 intern.eq_5 intern.eq_6 intern.eq_7 intern.eq_8 intern.eq_9 intern.eq_10 intern.eq_11 internL.eq_1 internL.eq_2 zipSl.eq_1 zipSl.eq_2 AV.ids.eq_1 AV.ids.eq_2 AV.ids.eq_3 AV.ids.eq_4 AV.ids.eq_5 AV.ids.eq_6 AV.ids.eq_7 AV.ids.eq_8 AV.ids.eq_9 AV.ids.eq_10 AV.ids.eq_11 AV.idsL.eq_1 AV.idsL.eq_2 AV.sub.eq_1 AV.sub.eq_2 AV.sub.eq_3 AV.sub.eq_4 AV.sub.eq_5 AV.sub.eq_6 AV.sub.eq_7 AV.sub.eq_8 AV.sub.eq_9 AV.sub.eq_10 AV.sub.eq_11 AV.subL.eq_1 AV.subL.eq_2 AS.frzL.eq_1 AS.frzL.eq_2 AS.absT.eq_1 AS.absT.eq_2 AS.absT.eq_4 AS.absL.eq_1 AS.absL.eq_2 AS.absOk.eq_1 AS.absOkL.eq_1 AS.absOkL.eq_2 hid.eq_1 hids.eq_1 hids.eq_2 AS.appBase.eq_1 AS.appBase.eq_2 AS.appSrc.eq_1 appFits.eq_1 appFits.eq_2 appFits.eq_3 avFill.eq_1 avFill.eq_2 avc.eq_1 avc.eq_2 avc1.eq_1 Kd.agg.eq_1 Kd.agg.eq_2 okR.eq_1 okR.eq_2 okR.eq_3 okR.eq_4 okR.eq_5 okR.eq_6 okR.eq_7 okR.eq_8 zt.eq_1 rvB.eq_1 rvP.eq_1 rvA.eq_1 rvA.eq_2 rv1.eq_1 outTO.eq_1 outT.eq_1 outT.eq_2 outT.eq_3 outTn.eq_1 outOO.eq_1 outO.eq_1 outO.eq_2 boxOf.eq_1 outP.eq_1 outP.eq_2 outP.eq_3 outP.eq_4 outP.eq_5 outP.eq_6 outP.eq_7 outP.eq_8 outPL.eq_1 outPL.eq_2 outI.eq_1 outI.eq_2 outI.eq_3 outI.eq_4 outI.eq_5 outIL.eq_1 outZ.eq_1 outZ.eq_2 outZ.eq_3 outZ.eq_4 outZ.eq_5 outZL.eq_1 finO.eq_1 finO.eq_2 fin.eq_1 fin.eq_2 fin.eq_3 cellAV.eq_1 cellAV.eq_2 numsOf.eq_1 numsOf.eq_2 aop.eq_1 aop.eq_2 aop.eq_3 aop.eq_4 aop.eq_5 aop.eq_6 aop.eq_7 aop.eq_8 aop.eq_9 aop.eq_10 aop.eq_11 aop.eq_12 aop.eq_13 aop.eq_14 aop.eq_15 aop.eq_16 aop.eq_17 aop.eq_18 aop.eq_19 aop.eq_20 aop.eq_21 aop.eq_22 aop.eq_23 aop.eq_24 aop.eq_25 aop.eq_26 tmpsOf.eq_1 tmpsOf.eq_2 tmpsOf.eq_3 tmpsOf.eq_4 tmpsOf.eq_5 AV.refs.eq_1 AV.refs.eq_2 AV.refs.eq_3 AV.refs.eq_4 AV.refs.eq_5 AV.refs.eq_6 AV.refs.eq_7 AV.refs.eq_8 AV.refs.eq_9 AV.refs.eq_10 AV.refs.eq_11 AV.refsL.eq_1 AV.refsL.eq_2 refsT.eq_1 refsT.eq_2 refsO.eq_1 refsO.eq_2 refsO.eq_3 refsO.eq_4 refsO.eq_5 refsO.eq_6 refsB.eq_1 refsB.eq_2 clos.eq_1 clos.eq_2 keepL.eq_1 keepL.eq_2 AV.hasM.eq_1 AV.hasM.eq_2 AV.hasM.eq_3 AV.hasM.eq_4 AV.hasM.eq_5 AV.hasM.eq_6 AV.hasM.eq_7 AV.hasM.eq_8 AV.hasM.eq_9 AV.hasM.eq_10 AV.hasM.eq_11 AV.hasML.eq_1 AV.hasML.eq_2 Ob.dropM.eq_1 Ob.dropM.eq_2 Ob.dropM.eq_3 Ob.dropM.eq_4 nsC.eq_1 nsC.eq_2 okGuard.eq_1 okGuard.eq_2 AS.purges.eq_1 AS.purges.eq_2 dropMB.eq_1 dropMB.eq_2 newB.eq_1 newB.eq_2 ptB.eq_1 ptB.eq_2 lookC.eq_1 lookC.eq_2 dropB.eq_1 dropB.eq_2 leS.eq_1 leS.eq_2 leT.eq_1 leT.eq_2 AS.mvs.eq_1 AS.mvs.eq_2 AS.mvA.eq_1 AS.mvA.eq_2 AS.mvB.eq_1 aSetO.eq_1 aSetO.eq_2 aSh.eq_1 aSh.eq_2 arK.eq_1 aIdxA.eq_1 aIdxA.eq_2 arT.eq_1 aSlHB.eq_1 aSlHB.eq_2 aSlHO.eq_1 aSlHZ.eq_1 aSlHZ.eq_2 isSlT.eq_1 isNilC.eq_1 aNilO.eq_1 aNilX.eq_1 aNilX.eq_2 aNilX.eq_3 aNilC.eq_1 aNilC.eq_2 aBinQ.eq_1 aBinQ.eq_2 aMin.eq_1 flT.eq_1 flT.eq_2 flT.eq_3 mpT.eq_1 aMkMap.eq_1 aMkMap.eq_2 strA.eq_1 keyMK.eq_1 keyMK.eq_2 keyMK.eq_3 mkB.eq_1 mkB.eq_2 mkB.eq_3 aMp2.eq_1 aMp1.eq_1 aMp0.eq_1 aMapU.eq_1 aLk2.eq_1 aLk2.eq_2 aLk1.eq_1 aLk0.eq_1 aLookup.eq_1 aLenMO.eq_1 aLenM.eq_1 glV.eq_1 glV.eq_2 evG.eq_1 evG.eq_2 evG.eq_3 evG.eq_4 lkHitO.eq_1 lkHitO.eq_2 lkHitO.eq_3 lkHitO.eq_4 lkHit.eq_1 lkHit.eq_2 lkF.eq_1 lkF.eq_2 lkFind.eq_1 lkFind.eq_2 lkV.eq_1 lkV.eq_2 lkV.eq_3 lkV.eq_4 lkV.eq_5 AS.lkO.eq_1 AS.lkO.eq_2 AS.lkOf.eq_1 rawT.eq_1 rawT.eq_2 rawT.eq_3 rawT.eq_4 rawT.eq_5 rawT.eq_6 rawOf.eq_1 rawOf.eq_2 rawOf.eq_3 rawOf.eq_4 rawOf.eq_5 rawOf.eq_6 rawOf.eq_7 rawOf.eq_8 rawOf.eq_9 rawOf.eq_10 rawOf.eq_11 aLkR.eq_1 aLkR.eq_2 aLk.eq_1 aLk.eq_2 KL.eq_1 lkDrop.eq_1 lkDrop.eq_2 lkParO.eq_1 lkParO.eq_2 lkParO.eq_3 lkParO.eq_4 lkPar.eq_1 lkPar.eq_2 lkI.eq_1 lkI.eq_2 lkIds.eq_1 lkIds.eq_2 adLd.eq_1 run_nil run_b run_l run_skip run_label run_seq run_cond brV_b brB_t brB_f run_block run_exit run_ret run_region runX_nil runX_c runX_c' runX_b runX_b' runX_l runX_l' exB_t exB_f run_o run_op run_opg gV_b gV_t gB_tt gB_ff gB_tf gB_ft rs_eq kv KI aLenN aBS1 aApp1 aStore1 szOk gv gd s0 idOf look_cons lookC frzU_t frzU_f orT orF drop_any drop_nil drop_t drop_h drop_pb drop_pa drop_agg drop_tup drop_fn dropB kill_eq set_eq rem_eq re_eq up_eq get_eq ob_eq Ob.drop apl fpl plainTy AS.frz splice cond_true cond_false List.map_cons List.map_nil List.drop_zero List.drop_succ_cons List.drop_nil List.take_zero List.take_succ_cons List.take_nil List.getElem?_cons_zero List.getElem?_cons_succ List.getElem?_nil List.length_cons List.length_nil Option.map_some Option.map_none Option.bind_some Option.bind_none List.cons_append List.nil_append List.append_nil Option.getD_some Option.getD_none List.all_cons List.all_nil Bool.and_true Bool.true_and Bool.or_false Bool.false_or Bool.or_true Bool.true_or List.flatten_cons List.flatten_nil List.replicate_succ List.replicate_zero and_true true_and avOf_t avOf_f agg_bool agg_int agg_str agg_slice agg_struct agg_func agg_ptr agg_map avc_bool avc_int avc_str avc_fn avc1_bool avc1_int avc1_str avc1_fn zt_bool zt_int zt_str cells_nil cells_t cells_h cells_pb cells_fn snap_t snap_nil snap_h snap_pb snap_fn rv1_one rv1_two outI_t outI_oh outI_on outI_any outI_nil outZ_th outZ_tt outZ_tn outZ_o outZ_any outZ_nil outIL_nil outZL_nil finN finR ne_eq not_false_eq_true not_true_eq_false List.nodup_nil List.not_mem_nil false_implies implies_true eq_self true_or or_true Option.some.injEq shl_add shl_sub shl_mul shl_quo shl_rem shl_and shl_or shl_xor shl_andNot shl_eql shl_neq shl_lss shl_leq shl_gtr shl_geq shl_shr shl_shl appDeep_none appDeep_sn appSrc_h appSrc_nil fits_ft fits_tn fits_tf isStr_slice obFlat_box Nat.le_refl nbeq_self List.length_map updZ_s updZ_n dropM_eq purge_eq newIds_cons newIds_nil purgeT_nil purgeT_cons memN_cons memN_nil bd_d bd_c bd_g bd_p bd_t bd_o preds_nil preds_cons hasIns insB List.any_cons List.any_nil adK_eq adr_nil adG_eq kdOp noLen creates Op.operands Call.operands nsOf adT adI adJ plainB rst List.append_eq nsD_f nsD_n nsD_t nOf_0 nOf_1 nOf_2 chO_0 chO_1 chO_2 keepK_0 keepK_1 keepK_2 eqRes AS.mv fits KM aCallM notNew kdCall arK_i64 arK_i32 arK_u8 arK_u64 arT_sl isNilC_t isNilC_f isNilC_g isNilC_i isNilC_b isNilC_s isNilC_a isNilC_n andBF andBT aCallK_2 ble_dec hid_t hid_nil hid_any hid_pb hid_fn absOk_t absOk_nil absOk_pb absOk_h absOkO_1 decide_true decide_false Array.toList_append chunk_0 chunk_1 chunk_2 chunk_3 back_t back_nil back_ht backL_nil backI_t backI_nil backI_ht backIL_nil AS.mvJ nbeq_dec runR_f runR_t loadB Option.isSome_some Option.isSome_none nodup1 adr_none adr_some adO_s adV_b adV_t adB_tt adB_ff adB_tf adB_ft adS_eq lenL.eq_1 lenO.eq_1 lenO.eq_2 lenV.eq_1 lenV.eq_2 lenV.eq_3 lenV.eq_4 optN optS absT_ft
attribute [local go_sem] ty3 ty4 ty5 ty9 ty21 ty22 ty23 ty25 ty27 ty28 ty29 ty31 ty33 ty43 ty45 ty46 ty48 ty54 ty57 ty59 ty60 ty62 ty73 ty75 ty91 ty96 ty98 ty101 ty104 ty120 ty125 ty129 ty146 ty166 ty207 ty220 ty237 lv27 lv91 lv104 lv120 zb4 leS leT fits AS.mvs encStr_eq aIdx_str EStr_dec decStrs decStrs0 EStr_enc EStr_n encInt_eq aIdx_int EInt_dec decInts decInts0 EInt_enc EInt_n AllV_Int len_Int lc_enc l0_enc asl_enc ag_enc aow_enc ABool_enc AInt_enc AStr_enc AU8_enc ABool_dec AInt_dec AStr_dec AU8_dec asl_dec ag_dec aow_dec bind_some pr2.eq_1 l0_nil lc_cons unT.eq_1 K0.eq_1 M0.eq_1 KI AllV_Str len_Str ctR_eq ctM_eq ro_kd ro_ro mu_kd mu_mu encAd_eq aIdx_Ad EAd_dec decAds decAds0 EAd_enc EAd_n len_Ad Ad_eta AllV_Ad encMl_eq aIdx_Ml EMl_dec decMls decMls0 EMl_enc EMl_n len_Ml Ml_eta mkMl.eq_1 owMl_eq AMl_enc AMl_dec encRc_eq aIdx_Rc ERc_dec decRcs decRcs0 ERc_enc ERc_n len_Rc Rc_eta AllV_Rc encIm_eq aIdx_Im EIm_dec decIms decIms0 EIm_enc EIm_n len_Im Im_eta mkIm.eq_1 owIm_eq AIm_enc AIm_dec encSp_eq aIdx_Sp ESp_dec decSps decSps0 ESp_enc ESp_n len_Sp Sp_eta mkSp.eq_1 owSp_eq ASp_enc ASp_dec encNt_eq aIdx_Nt ENt_dec decNts decNts0 ENt_enc ENt_n len_Nt Nt_eta mkNt.eq_1 owNt_eq ANt_enc ANt_dec
def encBy (b : UInt8) : List T := [.v (.int .u8 b.toNat)]
def decBy : List T → Option UInt8
  | [.v (.int .u8 x)] => if 0 ≤ x ∧ x < 256 then some (UInt8.ofNat x.toNat) else none
  | _ => none
def EBy : Enc UInt8 where
  enc := encBy
  dec := decBy
  n := 1
  ed := fun b => by
    have := b.toNat_lt
    show (if 0 ≤ ((b.toNat : Nat) : Int) ∧ ((b.toNat : Nat) : Int) < 256 then some (UInt8.ofNat ((b.toNat : Nat) : Int).toNat) else none) = some b
    rw [if_pos (by omega), Int.toNat_natCast, UInt8.ofNat_toNat]
  de := fun c a h => by
    unfold decBy at h
    split at h
    · rename_i x
      split at h
      · rename_i q
        cases h
        show [T.v (.int .u8 x)] = [T.v (.int .u8 (((UInt8.ofNat x.toNat).toNat : Nat) : Int))]
        have : (UInt8.ofNat x.toNat).toNat = x.toNat := by simp; omega
        rw [this]
        congr 3
        omega
      · cases h
    · cases h
  len := fun _ => rfl
theorem encBy_eq (b : UInt8) : encBy b = [.v (.int .u8 b.toNat)] := rfl
theorem aIdx_By (xs : List UInt8) (n : Int) (s : AS) (K : Kt) : aIdx 1 (xs.map encBy) n s K = (0 ≤ n ∧ n < xs.length ∧ K (.t (.rop (encBy (xs.getD n.toNat default)))) s) := aIdx_map encBy xs 1 n s K fun _ => rfl
theorem EBy_enc : EBy.enc = encBy := rfl
theorem EBy_n : EBy.n = 1 := rfl
theorem decBys (xs : List UInt8) : EBy.decL (xs.map encBy) = some xs := EBy.decL_map xs
theorem len_By (xs : List UInt8) : (∀ c ∈ xs.map encBy, c.length = 1) = True := eq_true fun c hc => by
  obtain ⟨a, _, rfl⟩ := List.mem_map.1 hc; rfl
structure Rd where
  b : List UInt8
  p : Int
def obRdD : AV → Option Rd
  | .ob [.t (.sl 1 es), .t (.v (.int .i64 p))] => (EBy.decL es).map fun b => ⟨b, p⟩
  | _ => none
def ARd : AD Rd where
  enc r := .ob [.t (.sl 1 (r.b.map encBy)), .t (.v (.int .i64 r.p))]
  dec := obRdD
  ed := fun r => by
    show (EBy.decL (r.b.map encBy)).map _ = some r
    rw [decBys]; rfl
  de := fun x r h => by
    unfold obRdD at h
    split at h
    · rename_i es p
      cases hd : EBy.decL es with
      | none => rw [hd] at h; cases h
      | some b =>
        rw [hd] at h; cases h
        rw [show es = b.map encBy from EBy.decL_inv hd]
    · cases h
theorem ARd_enc (r : Rd) : ARd.enc r = .ob [.t (.sl 1 (r.b.map encBy)), .t (.v (.int .i64 r.p))] := rfl
theorem ARd_dec {es : List (List T)} {p : Int} : ARd.dec (.ob [.t (.sl 1 es), .t (.v (.int .i64 p))]) = (EBy.decL es).map fun b => ⟨b, p⟩ := rfl
theorem omap_some {α β : Type} {f : α → β} {a : α} : (some a).map f = some (f a) := rfl
theorem wrap_id {n : Int} (h : 0 ≤ n) (h1 : n < 9223372036854775808) : IntKind.wrap .i64 n = n := by
  have e : IntKind.wrap .i64 n = if ((true && decide (n % 18446744073709551616 ≥ 9223372036854775808)) = true) then n % 18446744073709551616 - 18446744073709551616 else n % 18446744073709551616 := rfl
  rw [e, if_neg (by simp; omega)]
  omega
theorem xor_nn {x y : Int} (h : 0 ≤ x) (h1 : x < 9223372036854775808) (k : 0 ≤ y) (k1 : y < 9223372036854775808) : 0 ≤ bits .xor .i64 x y := by
  have e : bits .xor .i64 x y = IntKind.wrap .i64 (((BitVec.ofInt 64 x ^^^ BitVec.ofInt 64 y).toNat : Nat) : Int) := rfl
  rw [e, BitVec.toNat_xor, BitVec.toNat_ofInt, BitVec.toNat_ofInt]
  have q : ((x % ((2 ^ 64 : Nat) : Int)).toNat ^^^ (y % ((2 ^ 64 : Nat) : Int)).toNat) < 2 ^ 63 := Nat.xor_lt_two_pow (by omega) (by omega)
  have q2 := Int.ofNat_lt.2 q
  rw [wrap_id (Int.natCast_nonneg _) q2]
  exact Int.natCast_nonneg _
def byN (b : List UInt8) (k : Int) : Int := (((b.getD k.toNat default).toNat : Nat) : Int)
theorem byN_b (b : List UInt8) (k : Int) : 0 ≤ byN b k ∧ byN b k ≤ 255 := by
  have := (b.getD k.toNat default).toNat_lt
  unfold byN; omega
theorem byN_f (b : List UInt8) (k : Int) : (((b.getD k.toNat default).toNat : Nat) : Int) = byN b k := rfl
def mixN (b : List UInt8) (k : Int) : Int := byN b (k % b.length) * 131 + byN b ((k * 7 + 3) % b.length) * 1117 + k * 29 + k / b.length * 53
theorem mixN_f (b : List UInt8) (k : Int) : byN b (k % b.length) * 131 + byN b ((k * 7 + 3) % b.length) * 1117 + k * 29 + k / b.length * 53 = mixN b k := rfl
def pkN (r : Rd) (n : Int) : Int := if n < 1 ∨ (r.b.length : Int) = 0 then 0 else if r.p < r.b.length then byN r.b r.p % n else bits .xor .i64 (mixN r.b r.p) (mixN r.b r.p / 64) % n
theorem div_b {k l : Int} (h : 0 ≤ k) (hl : 0 < l) : 0 ≤ k / l ∧ k / l ≤ k := ⟨Int.ediv_nonneg h (by omega), Int.ediv_le_self _ h⟩
theorem mixN_b {b : List UInt8} {k : Int} (h : 0 ≤ k) (h1 : k ≤ 1000000000) (h2 : ¬ (b.length : Int) = 0) : 0 ≤ mixN b k ∧ mixN b k ≤ 1000000000000 := by
  have q1 := byN_b b (k % b.length)
  have q2 := byN_b b ((k * 7 + 3) % b.length)
  have q3 := div_b (l := b.length) h (by omega)
  unfold mixN
  omega
theorem pkN_b {r : Rd} {n : Int} (h : 0 ≤ r.p) (h1 : r.p ≤ 1000000000) : 0 ≤ pkN r n ∧ (1 ≤ n → pkN r n < n) := by
  unfold pkN
  split
  · omega
  · rename_i q
    split
    · exact ⟨Int.emod_nonneg _ (by omega), fun _ => Int.emod_lt_of_pos _ (by omega)⟩
    · exact ⟨Int.emod_nonneg _ (by omega), fun _ => Int.emod_lt_of_pos _ (by omega)⟩
theorem pkN_0 {r : Rd} {n : Int} (h : n < 1 ∨ (r.b.length : Int) = 0) : pkN r n = 0 := if_pos h
theorem pkN_1 {r : Rd} {n : Int} (h0 : ¬ n < 1) (h : ¬ (r.b.length : Int) = 0) (h1 : r.p < r.b.length) : byN r.b r.p % n = pkN r n := by
  unfold pkN; rw [if_neg (by omega), if_pos h1]
theorem pkN_2 {r : Rd} {n : Int} (h0 : ¬ n < 1) (h : ¬ (r.b.length : Int) = 0) (h1 : ¬ r.p < r.b.length) : bits .xor .i64 (mixN r.b r.p) (mixN r.b r.p / 64) % n = pkN r n := by
  unfold pkN; rw [if_neg (by omega), if_neg h1]
def Rd.nx (r : Rd) (k : Int) : Rd := ⟨r.b, r.p + k⟩
theorem nx_p (r : Rd) (k : Int) : (r.nx k).p = r.p + k := rfl
theorem nx_b (r : Rd) (k : Int) : (r.nx k).b = r.b := rfl
theorem nx_eq (r : Rd) (k : Int) : (⟨r.b, r.p + k⟩ : Rd) = r.nx k := rfl
theorem ivk {x y : Int} (h : x = y) : T.v (.int .i64 x) = T.v (.int .i64 y) := by rw [h]
def c43 : Mt := ctM (lc ARd (lc AInt l0)) (fun p => 0 ≤ p.1.p ∧ p.1.p ≤ 1000000000) (fun p => ([ARd.enc (p.1.nx 1), AInt.enc p.2.1], .t (.v (.int .i64 (pkN p.1 p.2.1)))))
section
attribute [local go_sem] nx_p nx_b ARd_enc ARd_dec decBys omap_some encBy_eq aIdx_By EBy_enc EBy_n len_By List.length_map Int.add_sub_cancel byN_f mixN_f outP_ob outI_ob outZ_ob takeV_pb takeV_pb8 boxOf_b takeB_s outPb_s outIb_s outZb_s rv1_nil AS.opn AS.cls AS.nilb AS.renb AS.up Bool.not_false Bool.not_true List.set_set List.set_cons_zero List.set_cons_succ List.set_nil List.mem_singleton forall_eq
set_option maxHeartbeats 1600000 in
theorem good43 {G : Gt} (hG : OkG G) : Gd G 43 (muEnt c43) := by
  refine gM (dp := fun _ => true) (fn := Tryz.f43) (n := 2) (fun _ => rfl) (by kernel_rfl) rfl (by kernel_rfl) hG (Nat.le_of_ble_eq_true rfl) (by kernel_rfl) ?_
  rintro ⟨r, n, ⟨⟩⟩ hpre
  simp -implicitDefEqProofs only [Tryz.f43, go_sem] at hpre ⊢
  obtain ⟨h1, h2⟩ := hpre
  try dsimp only at h1 h2
  have g1 := byN_b r.b r.p
  have g2 := byN_b r.b (r.p % r.b.length)
  have g3 := byN_b r.b ((r.p * 7 + 3) % r.b.length)
  by_cases h0 : (r.b.length : Int) = 0
  · repeat' (first | with_reducible apply And.intro | with_reducible intro _ | ((first | apply brB_split | apply aPickB_split | apply gB_split | apply adB_split) <;> intro hb <;> simp -implicitDefEqProofs only [hb, go_sem] <;> try simp only [qz] at hb))
    all_goals (try simp only [maxLen, Int.toNat_natCast] at *)
    all_goals first | rfl | omega | (rw [pkN_0 (by omega)]; done) | contradiction
  · have g4 := div_b (l := r.b.length) h1 (by omega)
    have g5 := mixN_b h1 h2 h0
    have g6 := Int.emod_nonneg r.p h0
    have g7 := Int.emod_lt_of_pos r.p (b := r.b.length) (by omega)
    have g8 := Int.emod_nonneg (r.p * 7 + 3) h0
    have g9 := Int.emod_lt_of_pos (r.p * 7 + 3) (b := r.b.length) (by omega)
    have gx := div_b (l := 64) g5.1 (by decide)
    have gy := xor_nn (x := mixN r.b r.p) (y := mixN r.b r.p / 64) g5.1 (by omega) gx.1 (by omega)
    repeat' (first | with_reducible apply And.intro | with_reducible intro _ | ((first | apply brB_split | apply aPickB_split | apply gB_split | apply adB_split) <;> intro hb <;> simp -implicitDefEqProofs only [hb, go_sem] <;> try simp only [qz] at hb))
    all_goals (try simp only [maxLen, Int.toNat_natCast] at *)
    all_goals first | rfl | omega | (rw [pkN_0 (by omega)]; done) | with_reducible exact ivk (pkN_1 (by assumption) (by assumption) (by assumption)) | with_reducible exact ivk (pkN_2 (by assumption) (by assumption) (by assumption)) | contradiction
end
theorem ck_4 {x0 x1 x2 x3 : T} : chunk 1 4 [x0, x1, x2, x3] = [[x0], [x1], [x2], [x3]] := rfl
theorem ck_5 {x0 x1 x2 x3 x4 : T} : chunk 1 5 [x0, x1, x2, x3, x4] = [[x0], [x1], [x2], [x3], [x4]] := rfl
theorem ck_6 {x0 x1 x2 x3 x4 x5 : T} : chunk 1 6 [x0, x1, x2, x3, x4, x5] = [[x0], [x1], [x2], [x3], [x4], [x5]] := rfl
theorem ck_7 {x0 x1 x2 x3 x4 x5 x6 : T} : chunk 1 7 [x0, x1, x2, x3, x4, x5, x6] = [[x0], [x1], [x2], [x3], [x4], [x5], [x6]] := rfl
theorem ck_11 {x0 x1 x2 x3 x4 x5 x6 x7 x8 x9 x10 : T} : chunk 1 11 [x0, x1, x2, x3, x4, x5, x6, x7, x8, x9, x10] = [[x0], [x1], [x2], [x3], [x4], [x5], [x6], [x7], [x8], [x9], [x10]] := rfl
theorem ck_12 {x0 x1 x2 x3 x4 x5 x6 x7 x8 x9 x10 x11 : T} : chunk 1 12 [x0, x1, x2, x3, x4, x5, x6, x7, x8, x9, x10, x11] = [[x0], [x1], [x2], [x3], [x4], [x5], [x6], [x7], [x8], [x9], [x10], [x11]] := rfl
theorem nx_nx (r : Rd) (a b : Int) : (r.nx a).nx b = r.nx (a + b) := by unfold Rd.nx; simp only [Int.add_assoc]
theorem Rd_eta (r : Rd) : (⟨r.b, r.p⟩ : Rd) = r := rfl
theorem pp_add (r : Rd) (a b : Int) : r.p + a + b = r.p + (a + b) := Int.add_assoc _ _ _
theorem decS_c {a : ByteArray} {t : List (List T)} : EStr.decL ([.v (.string a)] :: t) = (EStr.decL t).map (a :: ·) := by
  show mapO EStr.dec _ = (mapO EStr.dec t).map _
  simp only [mapO, EStr_dec]
  cases mapO EStr.dec t <;> rfl
theorem decI_c {a : Int} {t : List (List T)} : EInt.decL ([.v (.int .i64 a)] :: t) = (EInt.decL t).map (a :: ·) := by
  show mapO EInt.dec _ = (mapO EInt.dec t).map _
  simp only [mapO, EInt_dec]
  cases mapO EInt.dec t <;> rfl
def ofS (r : Rd) (l : List ByteArray) : ByteArray := l.getD (pkN r l.length).toNat default
def ofI (r : Rd) (l : List Int) : Int := l.getD (pkN r l.length).toNat default
theorem ofS_mem {r : Rd} {l : List ByteArray} (h : 0 ≤ r.p) (h1 : r.p ≤ 1000000000) (hl : 1 ≤ l.length) : ofS r l ∈ l := by
  have := pkN_b (n := l.length) h h1
  exact getD_mem (by omega)
theorem ofI_mem {r : Rd} {l : List Int} (h : 0 ≤ r.p) (h1 : r.p ≤ 1000000000) (hl : 1 ≤ l.length) : ofI r l ∈ l := by
  have := pkN_b (n := l.length) h h1
  exact getD_mem (by omega)
def c88 : Mt := ctM (lc ARd (lc (EStr.aow true 1) l0)) (fun p => 0 ≤ p.1.p ∧ p.1.p ≤ 1000000000 ∧ 1 ≤ p.2.1.length ∧ p.2.1.length ≤ 1000) (fun p => ([ARd.enc (p.1.nx 1), (EStr.aow true 1).enc p.2.1], .t (.v (.string (ofS p.1 p.2.1)))))
section
attribute [local go_sem] c43 nx_p nx_b ARd_enc ARd_dec decBys omap_some nx_nx nx_eq Rd_eta pp_add outP_ob outI_ob outZ_ob takeV_pb takeV_pb8 boxOf_b takeB_s outPb_s outIb_s outZb_s rv1_nil List.length_map List.length_append List.length_cons List.length_nil List.map_append List.map_nil Nat.zero_add List.nil_append AS.opn AS.cls AS.nilb AS.renb AS.up Bool.not_false Bool.not_true List.set_set List.set_cons_zero List.set_cons_succ List.set_nil List.mem_singleton forall_eq aCell_map
set_option maxHeartbeats 800000 in
theorem good88 {G : Gt} (hG : OkG G) (hh : G.e 43 = muEnt c43) : Gd G 88 (muEnt c88) := by
  refine gM (dp := fun _ => true) (fn := Tryz.f88) (n := 2) (fun _ => rfl) (by kernel_rfl) rfl (by kernel_rfl) hG (Nat.le_of_ble_eq_true rfl) (by kernel_rfl) ?_
  rintro ⟨r, l, ⟨⟩⟩ hpre
  simp -implicitDefEqProofs only [Tryz.f88, go_sem, hh, Int.reduceAdd] at hpre ⊢
  obtain ⟨h1, h2, h3, h4⟩ := hpre
  try dsimp only at h1 h2 h3 h4
  have hb := pkN_b (n := l.length) h1 h2
  repeat' (first | with_reducible apply And.intro | with_reducible intro _ | ((first | apply brB_split | apply aPickB_split | apply gB_split | apply adB_split) <;> intro hb <;> simp -implicitDefEqProofs only [hb, go_sem, hh, Int.reduceAdd] <;> try simp only [qz] at hb))
  all_goals (try simp only [maxLen, Int.toNat_natCast] at *)
  all_goals first | rfl | omega | decide | assumption | trace_state
end
def c60 : Mt := ctM (lc ARd (lc (EInt.aow true 1) l0)) (fun p => 0 ≤ p.1.p ∧ p.1.p ≤ 1000000000 ∧ 1 ≤ p.2.1.length ∧ p.2.1.length ≤ 1000) (fun p => ([ARd.enc (p.1.nx 1), (EInt.aow true 1).enc p.2.1], .t (.v (.int .i64 (ofI p.1 p.2.1)))))
section
attribute [local go_sem] c43 nx_p nx_b ARd_enc ARd_dec decBys omap_some nx_nx nx_eq Rd_eta pp_add outP_ob outI_ob outZ_ob takeV_pb takeV_pb8 boxOf_b takeB_s outPb_s outIb_s outZb_s rv1_nil List.length_map List.length_append List.length_cons List.length_nil List.map_append List.map_nil Nat.zero_add List.nil_append AS.opn AS.cls AS.nilb AS.renb AS.up Bool.not_false Bool.not_true List.set_set List.set_cons_zero List.set_cons_succ List.set_nil List.mem_singleton forall_eq aCell_map
set_option maxHeartbeats 800000 in
theorem good60 {G : Gt} (hG : OkG G) (hh : G.e 43 = muEnt c43) : Gd G 60 (muEnt c60) := by
  refine gM (dp := fun _ => true) (fn := Tryz.f60) (n := 2) (fun _ => rfl) (by kernel_rfl) rfl (by kernel_rfl) hG (Nat.le_of_ble_eq_true rfl) (by kernel_rfl) ?_
  rintro ⟨r, l, ⟨⟩⟩ hpre
  simp -implicitDefEqProofs only [Tryz.f60, go_sem, hh, Int.reduceAdd] at hpre ⊢
  obtain ⟨h1, h2, h3, h4⟩ := hpre
  try dsimp only at h1 h2 h3 h4
  have hb := pkN_b (n := l.length) h1 h2
  repeat' (first | with_reducible apply And.intro | with_reducible intro _ | ((first | apply brB_split | apply aPickB_split | apply gB_split | apply adB_split) <;> intro hb <;> simp -implicitDefEqProofs only [hb, go_sem, hh, Int.reduceAdd] <;> try simp only [qz] at hb))
  all_goals (try simp only [maxLen, Int.toNat_natCast] at *)
  all_goals first | rfl | omega | decide | assumption | trace_state
end
def domL : List ByteArray := [⟨#[111, 110, 101, 46, 111, 114, 103]⟩, ⟨#[116, 119, 111, 46, 111, 114, 103]⟩, ⟨#[104, 117, 98, 46, 110, 101, 116]⟩, ⟨#[120, 46, 99, 111, 109]⟩, ⟨#[102, 97, 114, 46, 99, 111, 109]⟩, ⟨#[111, 116, 104, 101, 114, 46, 99, 111, 109]⟩, ⟨#[97, 46, 111, 110, 101, 46, 111, 114, 103]⟩]
def usrL : List ByteArray := [⟨#[97]⟩, ⟨#[98]⟩, ⟨#[97, 110, 110]⟩, ⟨#[98, 111, 98, 55]⟩]
def linL : List ByteArray := [⟨#[104, 101, 108, 108, 111]⟩, ⟨#[]⟩, ⟨#[46]⟩, ⟨#[46, 46]⟩, ⟨#[46, 100, 111, 116]⟩, ⟨#[97, 32, 108, 111, 110, 103, 101, 114, 32, 108, 105, 110, 101, 32, 111, 102, 32, 116, 101, 120, 116]⟩, ⟨#[72, 111, 112, 58, 32, 111, 110, 101, 46, 111, 114, 103]⟩, ⟨#[72, 111, 112, 58, 32]⟩, ⟨#[73, 100, 58, 32, 55]⟩, ⟨#[110, 111, 116, 32, 100, 101, 108, 105, 118, 101, 114, 101, 100, 58]⟩, ⟨#[60, 97, 64, 111, 110, 101, 46, 111, 114, 103, 62]⟩, ⟨#[108, 105, 110, 101, 32, 116, 104, 97, 116, 32, 105, 115, 32, 101, 120, 97, 99, 116, 108, 121, 32, 102, 111, 114, 116, 121, 32, 98, 121, 116, 101, 115, 32, 108, 111, 110, 103, 46, 46, 33]⟩]
def domS (r : Rd) : ByteArray := ofS r domL
def linS (r : Rd) : ByteArray := ofS r linL
def adD (r : Rd) : Ad := ⟨ofS r usrL, domS (r.nx 1)⟩
def anyAd (r : Rd) : Ad × Rd :=
  if pkN (r.nx 2) 10 = 0 then (⟨ofS (r.nx 3) [⟨#[]⟩, ⟨#[65]⟩, ⟨#[116, 111, 111, 108, 111, 110, 103, 110, 97, 109, 101]⟩, ⟨#[97, 64, 98]⟩], (adD r).domain⟩, r.nx 4)
  else if pkN (r.nx 2) 10 = 1 then (⟨(adD r).user, ofS (r.nx 3) [⟨#[]⟩, ⟨#[97, 46, 46, 98]⟩, ⟨#[46, 97]⟩, ⟨#[97, 46, 98, 46, 99, 46, 100]⟩, ⟨#[85, 112, 46, 111, 114, 103]⟩]⟩, r.nx 4)
  else if pkN (r.nx 2) 10 = 2 then (⟨⟨#[]⟩, ⟨#[]⟩⟩, r.nx 3)
  else (adD r, r.nx 3)
def c153 : Mt := ctM (lc ARd l0) (fun p => 0 ≤ p.1.p ∧ p.1.p ≤ 999999990) (fun p => ([ARd.enc (p.1.nx 1)], .t (.v (.string (domS p.1)))))
section
attribute [local go_sem] c88 nx_p nx_b ARd_enc ARd_dec decBys omap_some nx_nx nx_eq Rd_eta pp_add outP_ob outI_ob outZ_ob takeV_pb takeV_pb8 boxOf_b takeB_s outPb_s outIb_s outZb_s rv1_nil List.length_map List.length_append List.length_cons List.length_nil List.map_append List.map_nil Nat.zero_add List.nil_append AS.opn AS.cls AS.nilb AS.renb AS.up Bool.not_false Bool.not_true List.set_set List.set_cons_zero List.set_cons_succ List.set_nil List.mem_singleton forall_eq decS_c ck_4 ck_5 ck_6 ck_7 ck_11 ck_12
set_option maxHeartbeats 800000 in
theorem good153 {G : Gt} (hG : OkG G) (hh : G.e 88 = muEnt c88) : Gd G 153 (muEnt c153) := by
  refine gM (dp := fun _ => true) (fn := Tryz.f153) (n := 1) (fun _ => rfl) (by kernel_rfl) rfl (by kernel_rfl) hG (Nat.le_of_ble_eq_true rfl) (by kernel_rfl) ?_
  rintro ⟨r, ⟨⟩⟩ hpre
  simp -implicitDefEqProofs only [Tryz.f153, go_sem, hh, Int.reduceAdd] at hpre ⊢
  obtain ⟨h1, h2⟩ := hpre
  try dsimp only at h1 h2
  repeat' (first | with_reducible apply And.intro | with_reducible intro _ | ((first | apply brB_split | apply aPickB_split | apply gB_split | apply adB_split) <;> intro hb <;> simp -implicitDefEqProofs only [hb, go_sem, hh, Int.reduceAdd] <;> try simp only [qz] at hb))
  all_goals (try simp only [maxLen, Int.toNat_natCast] at *)
  all_goals first | rfl | omega | decide | assumption | trace_state
end
def c175 : Mt := ctM (lc ARd l0) (fun p => 0 ≤ p.1.p ∧ p.1.p ≤ 999999990) (fun p => ([ARd.enc (p.1.nx 1)], .t (.v (.string (linS p.1)))))
section
attribute [local go_sem] c88 nx_p nx_b ARd_enc ARd_dec decBys omap_some nx_nx nx_eq Rd_eta pp_add outP_ob outI_ob outZ_ob takeV_pb takeV_pb8 boxOf_b takeB_s outPb_s outIb_s outZb_s rv1_nil List.length_map List.length_append List.length_cons List.length_nil List.map_append List.map_nil Nat.zero_add List.nil_append AS.opn AS.cls AS.nilb AS.renb AS.up Bool.not_false Bool.not_true List.set_set List.set_cons_zero List.set_cons_succ List.set_nil List.mem_singleton forall_eq decS_c ck_4 ck_5 ck_6 ck_7 ck_11 ck_12
set_option maxHeartbeats 800000 in
theorem good175 {G : Gt} (hG : OkG G) (hh : G.e 88 = muEnt c88) : Gd G 175 (muEnt c175) := by
  refine gM (dp := fun _ => true) (fn := Tryz.f175) (n := 1) (fun _ => rfl) (by kernel_rfl) rfl (by kernel_rfl) hG (Nat.le_of_ble_eq_true rfl) (by kernel_rfl) ?_
  rintro ⟨r, ⟨⟩⟩ hpre
  simp -implicitDefEqProofs only [Tryz.f175, go_sem, hh, Int.reduceAdd] at hpre ⊢
  obtain ⟨h1, h2⟩ := hpre
  try dsimp only at h1 h2
  repeat' (first | with_reducible apply And.intro | with_reducible intro _ | ((first | apply brB_split | apply aPickB_split | apply gB_split | apply adB_split) <;> intro hb <;> simp -implicitDefEqProofs only [hb, go_sem, hh, Int.reduceAdd] <;> try simp only [qz] at hb))
  all_goals (try simp only [maxLen, Int.toNat_natCast] at *)
  all_goals first | rfl | omega | decide | assumption | trace_state
end
def c116 : Mt := ctM (lc ARd l0) (fun p => 0 ≤ p.1.p ∧ p.1.p ≤ 999999980) (fun p => ([ARd.enc (p.1.nx 2)], .agg [.t (.v (.string (adD p.1).user)), .t (.v (.string (adD p.1).domain))]))
section
attribute [local go_sem] c88 c153 nx_p nx_b ARd_enc ARd_dec decBys omap_some nx_nx nx_eq Rd_eta pp_add outP_ob outI_ob outZ_ob takeV_pb takeV_pb8 boxOf_b takeB_s outPb_s outIb_s outZb_s rv1_nil List.length_map List.length_append List.length_cons List.length_nil List.map_append List.map_nil Nat.zero_add List.nil_append AS.opn AS.cls AS.nilb AS.renb AS.up Bool.not_false Bool.not_true List.set_set List.set_cons_zero List.set_cons_succ List.set_nil List.mem_singleton forall_eq decS_c ck_4 ck_5 ck_6 ck_7 ck_11 ck_12
set_option maxHeartbeats 800000 in
theorem good116 {G : Gt} (hG : OkG G) (hh : G.e 88 = muEnt c88 ∧ G.e 153 = muEnt c153) : Gd G 116 (muEnt c116) := by
  refine gM (dp := fun _ => true) (fn := Tryz.f116) (n := 1) (fun _ => rfl) (by kernel_rfl) rfl (by kernel_rfl) hG (Nat.le_of_ble_eq_true rfl) (by kernel_rfl) ?_
  rintro ⟨r, ⟨⟩⟩ hpre
  simp -implicitDefEqProofs only [Tryz.f116, go_sem, hh, Int.reduceAdd] at hpre ⊢
  obtain ⟨h1, h2⟩ := hpre
  try dsimp only at h1 h2
  repeat' (first | with_reducible apply And.intro | with_reducible intro _ | ((first | apply brB_split | apply aPickB_split | apply gB_split | apply adB_split) <;> intro hb <;> simp -implicitDefEqProofs only [hb, go_sem, hh, Int.reduceAdd] <;> try simp only [qz] at hb))
  all_goals (try simp only [maxLen, Int.toNat_natCast] at *)
  all_goals first | rfl | omega | decide | assumption | trace_state
end
theorem anyAd_0 {r : Rd} (h : pkN (r.nx 2) 10 = 0) : anyAd r = (⟨ofS (r.nx 3) [⟨#[]⟩, ⟨#[65]⟩, ⟨#[116, 111, 111, 108, 111, 110, 103, 110, 97, 109, 101]⟩, ⟨#[97, 64, 98]⟩], (adD r).domain⟩, r.nx 4) := if_pos h
theorem anyAd_1 {r : Rd} (h0 : ¬ pkN (r.nx 2) 10 = 0) (h : pkN (r.nx 2) 10 = 1) : anyAd r = (⟨(adD r).user, ofS (r.nx 3) [⟨#[]⟩, ⟨#[97, 46, 46, 98]⟩, ⟨#[46, 97]⟩, ⟨#[97, 46, 98, 46, 99, 46, 100]⟩, ⟨#[85, 112, 46, 111, 114, 103]⟩]⟩, r.nx 4) := by unfold anyAd; rw [if_neg h0, if_pos h]
theorem anyAd_2 {r : Rd} (h0 : ¬ pkN (r.nx 2) 10 = 0) (h1 : ¬ pkN (r.nx 2) 10 = 1) (h : pkN (r.nx 2) 10 = 2) : anyAd r = (⟨⟨#[]⟩, ⟨#[]⟩⟩, r.nx 3) := by unfold anyAd; rw [if_neg h0, if_neg h1, if_pos h]
theorem anyAd_3 {r : Rd} (h0 : ¬ pkN (r.nx 2) 10 = 0) (h1 : ¬ pkN (r.nx 2) 10 = 1) (h : ¬ pkN (r.nx 2) 10 = 2) : anyAd r = (adD r, r.nx 3) := by unfold anyAd; rw [if_neg h0, if_neg h1, if_neg h]
def c62 : Mt := ctM (lc ARd l0) (fun p => 0 ≤ p.1.p ∧ p.1.p ≤ 999999950) (fun p => ([ARd.enc (anyAd p.1).2], .agg [.t (.v (.string (anyAd p.1).1.user)), .t (.v (.string (anyAd p.1).1.domain))]))
section
attribute [local go_sem] c116 c43 c88 nx_p nx_b ARd_enc ARd_dec decBys omap_some nx_nx nx_eq Rd_eta pp_add outP_ob outI_ob outZ_ob takeV_pb takeV_pb8 boxOf_b takeB_s outPb_s outIb_s outZb_s rv1_nil List.length_map List.length_append List.length_cons List.length_nil List.map_append List.map_nil Nat.zero_add List.nil_append AS.opn AS.cls AS.nilb AS.renb AS.up Bool.not_false Bool.not_true List.set_set List.set_cons_zero List.set_cons_succ List.set_nil List.mem_singleton forall_eq decS_c ck_4 ck_5 ck_6 ck_7 ck_11 ck_12
set_option maxHeartbeats 1600000 in
theorem good62 {G : Gt} (hG : OkG G) (hh : G.e 116 = muEnt c116 ∧ G.e 43 = muEnt c43 ∧ G.e 88 = muEnt c88) : Gd G 62 (muEnt c62) := by
  refine gM (dp := fun _ => true) (fn := Tryz.f62) (n := 1) (fun _ => rfl) (by kernel_rfl) rfl (by kernel_rfl) hG (Nat.le_of_ble_eq_true rfl) (by kernel_rfl) ?_
  rintro ⟨r, ⟨⟩⟩ hpre
  obtain ⟨h1, h2⟩ := hpre
  try dsimp only at h1 h2 ⊢
  by_cases q0 : pkN (r.nx 2) 10 = 0
  · rw [anyAd_0 q0]
    simp -implicitDefEqProofs only [Tryz.f62, q0, eq_self, decide_true, decide_false, go_sem, hh, Int.reduceAdd]
    repeat' (first | with_reducible apply And.intro | with_reducible intro _ | ((first | apply brB_split | apply aPickB_split | apply gB_split | apply adB_split) <;> intro hb <;> simp -implicitDefEqProofs only [hb, go_sem, hh, Int.reduceAdd] <;> try simp only [qz] at hb))
    all_goals (try simp only [maxLen, Int.toNat_natCast] at *)
    all_goals first | rfl | omega | decide | assumption | trace_state
  · by_cases q1 : pkN (r.nx 2) 10 = 1
    · rw [anyAd_1 q0 q1]
      simp -implicitDefEqProofs only [Tryz.f62, q1, Int.reduceEq, eq_self, decide_true, decide_false, go_sem, hh, Int.reduceAdd]
      repeat' (first | with_reducible apply And.intro | with_reducible intro _ | ((first | apply brB_split | apply aPickB_split | apply gB_split | apply adB_split) <;> intro hb <;> simp -implicitDefEqProofs only [hb, go_sem, hh, Int.reduceAdd] <;> try simp only [qz] at hb))
      all_goals (try simp only [maxLen, Int.toNat_natCast] at *)
      all_goals first | rfl | omega | decide | assumption | trace_state
    · by_cases q2 : pkN (r.nx 2) 10 = 2
      · rw [anyAd_2 q0 q1 q2]
        simp -implicitDefEqProofs only [Tryz.f62, q2, Int.reduceEq, eq_self, decide_true, decide_false, go_sem, hh, Int.reduceAdd]
        repeat' (first | with_reducible apply And.intro | with_reducible intro _ | ((first | apply brB_split | apply aPickB_split | apply gB_split | apply adB_split) <;> intro hb <;> simp -implicitDefEqProofs only [hb, go_sem, hh, Int.reduceAdd] <;> try simp only [qz] at hb))
        all_goals (try simp only [maxLen, Int.toNat_natCast] at *)
        all_goals first | rfl | omega | decide | assumption | trace_state
      · rw [anyAd_3 q0 q1 q2]
        simp -implicitDefEqProofs only [Tryz.f62, q0, q1, q2, eq_self, decide_true, decide_false, go_sem, hh, Int.reduceAdd]
        repeat' (first | with_reducible apply And.intro | with_reducible intro _ | ((first | apply brB_split | apply aPickB_split | apply gB_split | apply adB_split) <;> intro hb <;> simp -implicitDefEqProofs only [hb, go_sem, hh, Int.reduceAdd] <;> try simp only [qz] at hb))
        all_goals (try simp only [maxLen, Int.toNat_natCast] at *)
        all_goals first | rfl | omega | decide | assumption | trace_state
end
def bodN (r : Rd) (n : Nat) : List ByteArray := (List.range n).map fun (j : Nat) => linS (r.nx (j : Int))
theorem bodN_s (r : Rd) (n : Nat) : bodN r (n + 1) = bodN r n ++ [linS (r.nx n)] := by
  unfold bodN; rw [List.range_succ, List.map_append]; rfl
theorem bodN_len (r : Rd) (n : Nat) : (bodN r n).length = n := by unfold bodN; simp
def bodD (r : Rd) (m : Int) : List ByteArray := bodN (r.nx 1) (pkN r (m + 1)).toNat
def bodR (r : Rd) (m : Int) : Rd := r.nx (1 + pkN r (m + 1))
def c151 : Mt := ctM (lc ARd (lc AInt l0)) (fun p => 0 ≤ p.1.p ∧ p.1.p ≤ 999999000 ∧ 0 ≤ p.2.1 ∧ p.2.1 ≤ 100) (fun p => ([ARd.enc (bodR p.1 p.2.1), AInt.enc p.2.1], .o true 1 ((bodD p.1 p.2.1).map encStr)))
section
attribute [local go_sem] c43 c175 nx_p nx_b ARd_enc ARd_dec decBys omap_some nx_nx nx_eq Rd_eta pp_add outP_ob outI_ob outZ_ob takeV_pb takeV_pb8 boxOf_b takeB_s outPb_s outIb_s outZb_s rv1_nil List.length_map List.length_append List.length_cons List.length_nil List.map_append List.map_nil Nat.zero_add List.nil_append AS.opn AS.cls AS.nilb AS.renb AS.up Bool.not_false Bool.not_true List.set_set List.set_cons_zero List.set_cons_succ List.set_nil List.mem_singleton forall_eq
set_option maxHeartbeats 1600000 in
theorem good151 {G : Gt} (hG : OkG G) (hh : G.e 43 = muEnt c43 ∧ G.e 175 = muEnt c175) : Gd G 151 (muEnt c151) := by
  refine gM (dp := fun _ => true) (fn := Tryz.f151) (n := 2) (fun _ => rfl) (by kernel_rfl) rfl (by kernel_rfl) hG (Nat.le_of_ble_eq_true rfl) (by kernel_rfl) ?_
  rintro ⟨r, m, ⟨⟩⟩ hpre
  simp -implicitDefEqProofs only [Tryz.f151, go_sem, hh, Int.reduceAdd] at hpre ⊢
  obtain ⟨h1, h2, h3, h4⟩ := hpre
  try dsimp only at h1 h2 h3 h4
  have hb := pkN_b (n := m + 1) h1 (by omega)
  obtain ⟨n, hn⟩ : ∃ n : Nat, n = (pkN r (m + 1)).toNat := ⟨_, rfl⟩
  have hn2 : pkN r (m + 1) = n := by omega
  have e1 : bodR r m = r.nx (1 + n) := by unfold bodR; rw [hn2]
  have e2 : bodD r m = bodN (r.nx 1) n := by unfold bodD; rw [← hn]
  rw [e1, e2]
  simp -implicitDefEqProofs only [hn2, go_sem, hh, Int.reduceAdd]
  repeat' (first | with_reducible apply And.intro | with_reducible intro _ | ((first | apply brB_split | apply aPickB_split | apply gB_split | apply adB_split) <;> intro hb <;> simp -implicitDefEqProofs only [hb, go_sem, hh, Int.reduceAdd] <;> try simp only [qz] at hb))
  all_goals (try simp only [maxLen, Int.toNat_natCast] at *)
  all_goals first | rfl | omega | decide | assumption | skip
  refine run_loop [(5, 1905, true, 1)] (ι := {i : Nat // i ≤ n}) (fun p => ⟨[(0, .pb 1900 0), (5, .h 1905), (6, .t (.v (.int .i64 (n - p.1))))], [(1900, some (.box [.t (.sl 1 (r.b.map encBy)), .t (.v (.int .i64 (r.p + (1 + p.1))))])), (1905, some (.arr true 1 ((bodN (r.nx 1) p.1).map encStr)))]⟩) (fun p => n - p.1) ⟨0, by simp⟩ rfl ?_ ?_
  · simp -implicitDefEqProofs only [go_sem, hh, Int.reduceAdd]
    simp [bodN]
  · rintro ⟨i, hi⟩
    have hlen := bodN_len (r.nx 1) i
    by_cases hlt : (n : Int) - i > 0
    · simp -implicitDefEqProofs only [hlt, decide_true, Int.toNat_natCast, go_sem, hh, Int.reduceAdd]
      repeat' (first | with_reducible apply And.intro | with_reducible intro _ | ((first | apply brB_split | apply aPickB_split | apply gB_split | apply adB_split) <;> intro hb <;> simp -implicitDefEqProofs only [hb, go_sem, hh, Int.reduceAdd] <;> try simp only [qz] at hb))
      all_goals (try simp only [maxLen, Int.toNat_natCast] at *)
      all_goals first | rfl | omega | decide | assumption | skip
      refine ⟨⟨i + 1, by omega⟩, by dsimp only; omega, ?_⟩
      simp -implicitDefEqProofs only [bodN_s, go_sem, hh, Int.reduceAdd]
      simp
      omega
    · have hz : i = n := by omega
      subst hz
      simp -implicitDefEqProofs only [hlt, decide_false, go_sem, hh, Int.reduceAdd]
      repeat' (first | with_reducible apply And.intro | with_reducible intro _ | ((first | apply brB_split | apply aPickB_split | apply gB_split | apply adB_split) <;> intro hb <;> simp -implicitDefEqProofs only [hb, go_sem, hh, Int.reduceAdd] <;> try simp only [qz] at hb))
      all_goals (try simp only [maxLen, Int.toNat_natCast] at *)
      all_goals first | rfl | omega | decide | assumption | trace_state
end
def nulA : Ad := ⟨⟨#[]⟩, ⟨#[]⟩⟩
def toN (r : Rd) : Nat → List Ad
  | 0 => []
  | k + 1 => if adD (r.nx (2 * (k : Int))) ∈ toN r k then toN r k else toN r k ++ [adD (r.nx (2 * (k : Int)))]
theorem toN_y {r : Rd} {k : Nat} (h : adD (r.nx (2 * (k : Int))) ∈ toN r k) : toN r (k + 1) = toN r k := if_pos h
theorem toN_n {r : Rd} {k : Nat} (h : ¬ adD (r.nx (2 * (k : Int))) ∈ toN r k) : toN r (k + 1) = toN r k ++ [adD (r.nx (2 * (k : Int)))] := if_neg h
theorem toN_len (r : Rd) : ∀ k, (toN r k).length ≤ k
  | 0 => Nat.le_refl _
  | k + 1 => by
    have := toN_len r k
    unfold toN; split
    · omega
    · rw [List.length_append]; simp; omega
theorem toN_nodup (r : Rd) : ∀ k, (toN r k).Nodup
  | 0 => List.nodup_nil
  | k + 1 => by
    unfold toN; split
    · exact toN_nodup r k
    · rename_i h
      rw [List.nodup_append]
      exact ⟨toN_nodup r k, by simp, fun a ha b hb e => h (by rw [List.mem_singleton.1 hb] at e; rw [← e]; exact ha)⟩
theorem toN_mem {r : Rd} {a : Ad} : ∀ {k : Nat}, a ∈ toN r k → ∃ j, j < k ∧ a = adD (r.nx (2 * (j : Int)))
  | k + 1, h => by
    unfold toN at h; split at h
    · obtain ⟨j, hj, e⟩ := toN_mem h
      exact ⟨j, by omega, e⟩
    · rcases List.mem_append.1 h with h | h
      · obtain ⟨j, hj, e⟩ := toN_mem h
        exact ⟨j, by omega, e⟩
      · exact ⟨k, by omega, List.mem_singleton.1 h⟩
theorem toN_ne (r : Rd) (k : Nat) : 1 ≤ (toN r (k + 1)).length := by
  unfold toN; split
  · rename_i h
    have := List.length_pos_of_mem h
    omega
  · simp
def mlM (r : Rd) : Int := ofI (r.nx 2) [1, 4, 9]
def mlR1 (r : Rd) : Rd := bodR (r.nx 3) (mlM r)
def mlC (r : Rd) : Int := 1 + pkN ((mlR1 r).nx 1) 4
def mlFrm (r : Rd) : Ad := if pkN (mlR1 r) 5 = 0 then nulA else adD r
def mlD (r : Rd) : Ml := ⟨mlFrm r, toN ((mlR1 r).nx 2) (mlC r).toNat, bodD (r.nx 3) (mlM r)⟩
def mlR (r : Rd) : Rd := (mlR1 r).nx (2 + 2 * mlC r)
theorem mlM_b {r : Rd} (h : 0 ≤ r.p) (h1 : r.p ≤ 999999900) : 1 ≤ mlM r ∧ mlM r ≤ 9 := by
  have := ofI_mem (r := r.nx 2) (l := [1, 4, 9]) (by rw [nx_p]; omega) (by rw [nx_p]; omega) (by decide)
  unfold mlM
  simp only [List.mem_cons, List.not_mem_nil, or_false] at this
  omega
theorem bodR_p {r : Rd} {m : Int} (h : 0 ≤ r.p) (h1 : r.p ≤ 999999950) (h2 : 0 ≤ m) : (bodR r m).b = r.b ∧ r.p + 1 ≤ (bodR r m).p ∧ (bodR r m).p ≤ r.p + 1 + m := by
  have := pkN_b (r := r) (n := m + 1) h (by omega)
  unfold bodR
  rw [nx_p, nx_b]
  exact ⟨rfl, by omega, by omega⟩
theorem mlR1_p {r : Rd} (h : 0 ≤ r.p) (h1 : r.p ≤ 999999900) : (mlR1 r).b = r.b ∧ r.p + 4 ≤ (mlR1 r).p ∧ (mlR1 r).p ≤ r.p + 13 := by
  have h2 := mlM_b h h1
  have h3 := bodR_p (r := r.nx 3) (m := mlM r) (by rw [nx_p]; omega) (by rw [nx_p]; omega) (by omega)
  rw [nx_p, nx_b] at h3
  unfold mlR1
  exact ⟨h3.1, by omega, by omega⟩
theorem mlC_b {r : Rd} (h : 0 ≤ r.p) (h1 : r.p ≤ 999999900) : 1 ≤ mlC r ∧ mlC r ≤ 4 := by
  have h2 := mlR1_p h h1
  have h3 := pkN_b (r := (mlR1 r).nx 1) (n := 4) (by rw [nx_p]; omega) (by rw [nx_p]; omega)
  unfold mlC
  omega
theorem mlR_p {r : Rd} (h : 0 ≤ r.p) (h1 : r.p ≤ 999999900) : (mlR r).b = r.b ∧ r.p + 4 ≤ (mlR r).p ∧ (mlR r).p ≤ r.p + 23 := by
  have h2 := mlR1_p h h1
  have h3 := mlC_b h h1
  unfold mlR
  rw [nx_p, nx_b]
  exact ⟨h2.1, by omega, by omega⟩
theorem adX {a b : Ad} : ((decide (a.user = b.user) && decide (a.domain = b.domain)) = true) = (a = b) := by
  rw [Ad_ext]; simp
theorem adY {a b : Ad} : ((decide (a.user = b.user) && decide (a.domain = b.domain)) = false) = ¬ a = b := by
  rw [Ad_ext]; simp
theorem mlM_f {r : Rd} : ofI (r.nx 2) [1, 4, 9] = mlM r := rfl
theorem mlR1_f {r : Rd} : bodR (r.nx 3) (mlM r) = mlR1 r := rfl
theorem mlC_f {r : Rd} : 1 + pkN ((mlR1 r).nx 1) 4 = mlC r := rfl
def c112 : Mt := ctM (lc ARd l0) (fun p => 0 ≤ p.1.p ∧ p.1.p ≤ 999998000) (fun p => ([ARd.enc (mlR p.1)], owMl (mlD p.1)))
section
attribute [local go_sem] c116 c60 c151 c43 nx_p nx_b ARd_enc ARd_dec decBys omap_some nx_nx nx_eq Rd_eta pp_add outP_ob outI_ob outZ_ob takeV_pb takeV_pb8 boxOf_b takeB_s outPb_s outIb_s outZb_s rv1_nil List.length_map List.length_append List.length_cons List.length_nil List.map_append List.map_nil Nat.zero_add List.nil_append AS.opn AS.cls AS.nilb AS.renb AS.up Bool.not_false Bool.not_true List.set_set List.set_cons_zero List.set_cons_succ List.set_nil List.mem_singleton forall_eq decI_c mlM_f mlR1_f mlC_f aCell_map ck_4 ck_5 ck_6 ck_7 ck_11 ck_12
set_option maxHeartbeats 3200000 in
theorem good112 {G : Gt} (hG : OkG G) (hh : G.e 116 = muEnt c116 ∧ G.e 60 = muEnt c60 ∧ G.e 151 = muEnt c151 ∧ G.e 43 = muEnt c43) : Gd G 112 (muEnt c112) := by
  refine gM (dp := fun n => !(Nat.beq n 100004 || Nat.beq n 100006)) (fn := Tryz.f112) (n := 1) (fun _ => rfl) (by kernel_rfl) rfl (by kernel_rfl) hG (Nat.le_of_ble_eq_true rfl) (by kernel_rfl) ?_
  rintro ⟨r, ⟨⟩⟩ hpre
  obtain ⟨h1, h2⟩ := hpre
  try dsimp only at h1 h2 ⊢
  have f1 := mlM_b h1 (by omega)
  have f2 := mlR1_p h1 (by omega)
  have f3 := mlC_b h1 (by omega)
  by_cases q : pkN (mlR1 r) 5 = 0
  · have hf : mlFrm r = nulA := if_pos q
    simp -implicitDefEqProofs only [Tryz.f112, q, eq_self, decide_true, go_sem, hh, Int.reduceAdd]
    repeat' (first | with_reducible apply And.intro | with_reducible intro _ | ((first | apply brB_split | apply aPickB_split | apply gB_split | apply adB_split) <;> intro hb <;> simp -implicitDefEqProofs only [hb, go_sem, hh, Int.reduceAdd] <;> try simp only [qz] at hb))
    all_goals (try simp only [maxLen, Int.toNat_natCast] at *)
    all_goals first | rfl | omega | decide | assumption | skip
    refine run_le (Le.nilb 1003 2 1907 true 2 rfl rfl rfl) (run_go ?_)
    simp -implicitDefEqProofs only [go_sem, hh, Int.reduceAdd]
    repeat' (first | with_reducible apply And.intro | with_reducible intro _ | ((first | apply brB_split | apply aPickB_split | apply gB_split | apply adB_split) <;> intro hb <;> simp -implicitDefEqProofs only [hb, go_sem, hh, Int.reduceAdd] <;> try simp only [qz] at hb))
    all_goals (try simp only [maxLen, Int.toNat_natCast] at *)
    all_goals first | rfl | omega | decide | assumption | skip
    refine run_loop [] (ι := {i : Nat // (i : Int) ≤ mlC r}) (fun ⟨i, _⟩ => ⟨[(0, .pb 1900 0), (2, .pb 1002 0), (3, .pb 1003 0), (4, .t (.v (.int .i64 (mlC r - i))))], [(1900, some (.box [.t (.sl 1 ((mlR1 r).b.map encBy)), .t (.v (.int .i64 ((mlR1 r).p + (2 + 2 * i))))])), (1002, some (.box [.t (.v (.string ⟨#[]⟩)), .t (.v (.string ⟨#[]⟩)), .nil, .nil])), (1003, some (.box [.t (.v (.string ⟨#[]⟩)), .t (.v (.string ⟨#[]⟩)), .h 1907, .h 1014])), (1014, some (.arr true 1 ((bodD (r.nx 3) (mlM r)).map encStr))), (1907, some (.arr true 2 ((toN ((mlR1 r).nx 2) i).map encAd)))]⟩) (fun p => (mlC r).toNat - p.1) ⟨0, by omega⟩ rfl ?_ ?_
    · simp -implicitDefEqProofs only [go_sem, hh, Int.reduceAdd]
      simp [toN]
    · rintro ⟨i, hi⟩
      dsimp only
      have hlen := toN_len ((mlR1 r).nx 2) i
      by_cases hlt : mlC r - (i : Int) > 0
      · simp -implicitDefEqProofs only [hlt, decide_true, Int.toNat_natCast, go_sem, hh, Int.reduceAdd]
        repeat' (first | with_reducible apply And.intro | with_reducible intro _ | ((first | apply brB_split | apply aPickB_split | apply gB_split | apply adB_split) <;> intro hb <;> simp -implicitDefEqProofs only [hb, go_sem, hh, Int.reduceAdd] <;> try simp only [qz] at hb))
        all_goals (try simp only [maxLen, Int.toNat_natCast] at *)
        all_goals first | rfl | omega | decide | assumption | skip
        refine run_loop [] (ι := {p : Nat × Bool // p.1 ≤ (toN ((mlR1 r).nx 2) i).length ∧ (p.2 = true ↔ ∃ j, j < p.1 ∧ (toN ((mlR1 r).nx 2) i).getD j default = (adD ((mlR1 r).nx (2 + 2 * (i : Int)))))}) (fun ⟨⟨k, b⟩, _⟩ => ⟨[(0, .pb 1900 0), (2, .pb 1002 0), (3, .pb 1003 0), (4, .t (.v (.int .i64 (mlC r - i)))), (5, .pb 1005 0), (6, .t (.v (.bool b))), (7, .t (.v (.int .i64 k)))], [(1900, some (.box [.t (.sl 1 ((mlR1 r).b.map encBy)), .t (.v (.int .i64 ((mlR1 r).p + (4 + 2 * i))))])), (1002, some (.box [.t (.v (.string ⟨#[]⟩)), .t (.v (.string ⟨#[]⟩)), .nil, .nil])), (1003, some (.box [.t (.v (.string ⟨#[]⟩)), .t (.v (.string ⟨#[]⟩)), .h 1907, .h 1014])), (1005, some (.box ((encAd (adD ((mlR1 r).nx (2 + 2 * (i : Int))))).map .t))), (1014, some (.arr true 1 ((bodD (r.nx 3) (mlM r)).map encStr))), (1907, some (.arr true 2 ((toN ((mlR1 r).nx 2) i).map encAd)))]⟩) (fun p => (toN ((mlR1 r).nx 2) i).length - p.1.1) ⟨(0, false), by simp, by simp⟩ rfl ?_ ?_
        · simp -implicitDefEqProofs only [go_sem, hh, Int.reduceAdd]
          simp
          try omega
        · rintro ⟨⟨k, b⟩, hk, hb2⟩
          dsimp only at hk hb2 ⊢
          by_cases hlt2 : (k : Int) < (toN ((mlR1 r).nx 2) i).length
          · cases b
            · have hn : ¬ ∃ j, j < k ∧ (toN ((mlR1 r).nx 2) i).getD j default = (adD ((mlR1 r).nx (2 + 2 * (i : Int)))) := fun z => by have := hb2.2 z; cases this
              simp -implicitDefEqProofs only [hlt2, decide_true, Int.toNat_natCast, go_sem, hh, Int.reduceAdd]
              repeat' (first | with_reducible apply And.intro | with_reducible intro _ | ((first | apply brB_split | apply aPickB_split | apply gB_split | apply adB_split) <;> intro hb <;> simp -implicitDefEqProofs only [hb, go_sem, hh, Int.reduceAdd] <;> try simp only [qz] at hb))
              all_goals (try simp only [maxLen, Int.toNat_natCast, adX, adY] at *)
              all_goals first | rfl | omega | decide | assumption | skip
              refine ⟨⟨(k + 1, decide ((toN ((mlR1 r).nx 2) i).getD k default = (adD ((mlR1 r).nx (2 + 2 * (i : Int)))))), by dsimp only; omega, by dsimp only; rw [decide_eq_true_eq]; exact ⟨fun z => ⟨k, by omega, z⟩, fun ⟨j, hj, z⟩ => by by_cases e : j = k; (rw [← e]; exact z); (exact absurd ⟨j, by omega, z⟩ hn)⟩⟩, by dsimp only; omega, ?_⟩
              simp -implicitDefEqProofs only [go_sem, hh, Int.reduceAdd]
              simp [Ad_ext]
            · have hn : ∃ j, j < k ∧ (toN ((mlR1 r).nx 2) i).getD j default = (adD ((mlR1 r).nx (2 + 2 * (i : Int)))) := hb2.1 rfl
              simp -implicitDefEqProofs only [hlt2, decide_true, Int.toNat_natCast, go_sem, hh, Int.reduceAdd]
              repeat' (first | with_reducible apply And.intro | with_reducible intro _ | ((first | apply brB_split | apply aPickB_split | apply gB_split | apply adB_split) <;> intro hb <;> simp -implicitDefEqProofs only [hb, go_sem, hh, Int.reduceAdd] <;> try simp only [qz] at hb))
              all_goals (try simp only [maxLen, Int.toNat_natCast] at *)
              all_goals first | rfl | omega | decide | assumption | skip
              refine ⟨⟨(k + 1, true), by dsimp only; omega, by dsimp only; exact ⟨fun _ => hn.elim fun j z => ⟨j, by omega, z.2⟩, fun _ => rfl⟩⟩, by dsimp only; omega, ?_⟩
              simp -implicitDefEqProofs only [go_sem, hh, Int.reduceAdd]
              simp
          · have hE : b = true ↔ (adD ((mlR1 r).nx (2 + 2 * (i : Int)))) ∈ toN ((mlR1 r).nx 2) i := hb2.trans ⟨fun ⟨j, hj, z⟩ => z ▸ getD_mem (by omega), fun z => Classical.byContradiction fun f => by
              have := mem_getD (P := fun x : Ad => ¬ x = (adD ((mlR1 r).nx (2 + 2 * (i : Int))))) (xs := toN ((mlR1 r).nx 2) i) (fun j hj e => f ⟨j, by omega, e⟩) _ z
              exact this rfl⟩
            cases b
            · have hm : ¬ adD (((mlR1 r).nx 2).nx (2 * (i : Int))) ∈ toN ((mlR1 r).nx 2) i := fun z => by rw [nx_nx] at z; have := hE.2 z; cases this
              have hs := toN_n hm
              simp -implicitDefEqProofs only [hlt2, decide_false, go_sem, hh, Int.reduceAdd]
              repeat' (first | with_reducible apply And.intro | with_reducible intro _ | ((first | apply brB_split | apply aPickB_split | apply gB_split | apply adB_split) <;> intro hb <;> simp -implicitDefEqProofs only [hb, go_sem, hh, Int.reduceAdd] <;> try simp only [qz] at hb))
              all_goals (try simp only [maxLen, Int.toNat_natCast] at *)
              all_goals first | rfl | omega | decide | assumption | skip
              refine run_le (Le.renb 1003 2 1053 1907 rfl rfl rfl rfl) (run_go ?_)
              simp -implicitDefEqProofs only [go_sem, hh, Int.reduceAdd]
              repeat' (first | with_reducible apply And.intro | with_reducible intro _ | ((first | apply brB_split | apply aPickB_split | apply gB_split | apply adB_split) <;> intro hb <;> simp -implicitDefEqProofs only [hb, go_sem, hh, Int.reduceAdd] <;> try simp only [qz] at hb))
              all_goals (try simp only [maxLen, Int.toNat_natCast] at *)
              all_goals first | rfl | omega | decide | assumption | skip
              refine ⟨⟨i + 1, by omega⟩, by dsimp only; omega, ?_⟩
              simp -implicitDefEqProofs only [hs, go_sem, hh, Int.reduceAdd]
              simp [encAd_eq, nx_nx]
              try omega
            · have hm : adD (((mlR1 r).nx 2).nx (2 * (i : Int))) ∈ toN ((mlR1 r).nx 2) i := by rw [nx_nx]; exact hE.1 rfl
              have hs := toN_y hm
              simp -implicitDefEqProofs only [hlt2, decide_false, go_sem, hh, Int.reduceAdd]
              repeat' (first | with_reducible apply And.intro | with_reducible intro _ | ((first | apply brB_split | apply aPickB_split | apply gB_split | apply adB_split) <;> intro hb <;> simp -implicitDefEqProofs only [hb, go_sem, hh, Int.reduceAdd] <;> try simp only [qz] at hb))
              all_goals (try simp only [maxLen, Int.toNat_natCast] at *)
              all_goals first | rfl | omega | decide | assumption | skip
              refine run_go ?_
              simp -implicitDefEqProofs only [go_sem, hh, Int.reduceAdd]
              repeat' (first | with_reducible apply And.intro | with_reducible intro _ | ((first | apply brB_split | apply aPickB_split | apply gB_split | apply adB_split) <;> intro hb <;> simp -implicitDefEqProofs only [hb, go_sem, hh, Int.reduceAdd] <;> try simp only [qz] at hb))
              all_goals (try simp only [maxLen, Int.toNat_natCast] at *)
              all_goals first | rfl | omega | decide | assumption | skip
              refine ⟨⟨i + 1, by omega⟩, by dsimp only; omega, ?_⟩
              simp -implicitDefEqProofs only [hs, go_sem, hh, Int.reduceAdd]
              simp
              try omega
      · have hz : (i : Int) = mlC r := by omega
        have hz2 : (mlC r).toNat = i := by omega
        have e1 : mlR r = (mlR1 r).nx (2 + 2 * (i : Int)) := by unfold mlR; rw [hz]
        have e2 : mlD r = ⟨nulA, toN ((mlR1 r).nx 2) i, bodD (r.nx 3) (mlM r)⟩ := by unfold mlD; rw [hf, hz2]
        rw [e1, e2]
        simp -implicitDefEqProofs only [hlt, decide_false, go_sem, hh, Int.reduceAdd]
        repeat' (first | with_reducible apply And.intro | with_reducible intro _ | ((first | apply brB_split | apply aPickB_split | apply gB_split | apply adB_split) <;> intro hb <;> simp -implicitDefEqProofs only [hb, go_sem, hh, Int.reduceAdd] <;> try simp only [qz] at hb))
        all_goals (try simp only [maxLen, Int.toNat_natCast] at *)
        all_goals first | rfl | omega | decide | assumption | trace_state
  · have hf : mlFrm r = adD r := if_neg q
    simp -implicitDefEqProofs only [Tryz.f112, q, decide_false, go_sem, hh, Int.reduceAdd]
    repeat' (first | with_reducible apply And.intro | with_reducible intro _ | ((first | apply brB_split | apply aPickB_split | apply gB_split | apply adB_split) <;> intro hb <;> simp -implicitDefEqProofs only [hb, go_sem, hh, Int.reduceAdd] <;> try simp only [qz] at hb))
    all_goals (try simp only [maxLen, Int.toNat_natCast] at *)
    all_goals first | rfl | omega | decide | assumption | skip
    refine run_le (Le.nilb 1003 2 1907 true 2 rfl rfl rfl) (run_go ?_)
    simp -implicitDefEqProofs only [go_sem, hh, Int.reduceAdd]
    repeat' (first | with_reducible apply And.intro | with_reducible intro _ | ((first | apply brB_split | apply aPickB_split | apply gB_split | apply adB_split) <;> intro hb <;> simp -implicitDefEqProofs only [hb, go_sem, hh, Int.reduceAdd] <;> try simp only [qz] at hb))
    all_goals (try simp only [maxLen, Int.toNat_natCast] at *)
    all_goals first | rfl | omega | decide | assumption | skip
    refine run_loop [] (ι := {i : Nat // (i : Int) ≤ mlC r}) (fun ⟨i, _⟩ => ⟨[(0, .pb 1900 0), (2, .pb 1002 0), (3, .pb 1003 0), (4, .t (.v (.int .i64 (mlC r - i))))], [(1900, some (.box [.t (.sl 1 ((mlR1 r).b.map encBy)), .t (.v (.int .i64 ((mlR1 r).p + (2 + 2 * i))))])), (1002, some (.box [.t (.v (.string ⟨#[]⟩)), .t (.v (.string ⟨#[]⟩)), .nil, .nil])), (1003, some (.box [.t (.v (.string (adD r).user)), .t (.v (.string (adD r).domain)), .h 1907, .h 1014])), (1014, some (.arr true 1 ((bodD (r.nx 3) (mlM r)).map encStr))), (1907, some (.arr true 2 ((toN ((mlR1 r).nx 2) i).map encAd)))]⟩) (fun p => (mlC r).toNat - p.1) ⟨0, by omega⟩ rfl ?_ ?_
    · simp -implicitDefEqProofs only [go_sem, hh, Int.reduceAdd]
      simp [toN]
    · rintro ⟨i, hi⟩
      dsimp only
      have hlen := toN_len ((mlR1 r).nx 2) i
      by_cases hlt : mlC r - (i : Int) > 0
      · simp -implicitDefEqProofs only [hlt, decide_true, Int.toNat_natCast, go_sem, hh, Int.reduceAdd]
        repeat' (first | with_reducible apply And.intro | with_reducible intro _ | ((first | apply brB_split | apply aPickB_split | apply gB_split | apply adB_split) <;> intro hb <;> simp -implicitDefEqProofs only [hb, go_sem, hh, Int.reduceAdd] <;> try simp only [qz] at hb))
        all_goals (try simp only [maxLen, Int.toNat_natCast] at *)
        all_goals first | rfl | omega | decide | assumption | skip
        refine run_loop [] (ι := {p : Nat × Bool // p.1 ≤ (toN ((mlR1 r).nx 2) i).length ∧ (p.2 = true ↔ ∃ j, j < p.1 ∧ (toN ((mlR1 r).nx 2) i).getD j default = (adD ((mlR1 r).nx (2 + 2 * (i : Int)))))}) (fun ⟨⟨k, b⟩, _⟩ => ⟨[(0, .pb 1900 0), (2, .pb 1002 0), (3, .pb 1003 0), (4, .t (.v (.int .i64 (mlC r - i)))), (5, .pb 1005 0), (6, .t (.v (.bool b))), (7, .t (.v (.int .i64 k)))], [(1900, some (.box [.t (.sl 1 ((mlR1 r).b.map encBy)), .t (.v (.int .i64 ((mlR1 r).p + (4 + 2 * i))))])), (1002, some (.box [.t (.v (.string ⟨#[]⟩)), .t (.v (.string ⟨#[]⟩)), .nil, .nil])), (1003, some (.box [.t (.v (.string (adD r).user)), .t (.v (.string (adD r).domain)), .h 1907, .h 1014])), (1005, some (.box ((encAd (adD ((mlR1 r).nx (2 + 2 * (i : Int))))).map .t))), (1014, some (.arr true 1 ((bodD (r.nx 3) (mlM r)).map encStr))), (1907, some (.arr true 2 ((toN ((mlR1 r).nx 2) i).map encAd)))]⟩) (fun p => (toN ((mlR1 r).nx 2) i).length - p.1.1) ⟨(0, false), by simp, by simp⟩ rfl ?_ ?_
        · simp -implicitDefEqProofs only [go_sem, hh, Int.reduceAdd]
          simp
          try omega
        · rintro ⟨⟨k, b⟩, hk, hb2⟩
          dsimp only at hk hb2 ⊢
          by_cases hlt2 : (k : Int) < (toN ((mlR1 r).nx 2) i).length
          · cases b
            · have hn : ¬ ∃ j, j < k ∧ (toN ((mlR1 r).nx 2) i).getD j default = (adD ((mlR1 r).nx (2 + 2 * (i : Int)))) := fun z => by have := hb2.2 z; cases this
              simp -implicitDefEqProofs only [hlt2, decide_true, Int.toNat_natCast, go_sem, hh, Int.reduceAdd]
              repeat' (first | with_reducible apply And.intro | with_reducible intro _ | ((first | apply brB_split | apply aPickB_split | apply gB_split | apply adB_split) <;> intro hb <;> simp -implicitDefEqProofs only [hb, go_sem, hh, Int.reduceAdd] <;> try simp only [qz] at hb))
              all_goals (try simp only [maxLen, Int.toNat_natCast, adX, adY] at *)
              all_goals first | rfl | omega | decide | assumption | skip
              refine ⟨⟨(k + 1, decide ((toN ((mlR1 r).nx 2) i).getD k default = (adD ((mlR1 r).nx (2 + 2 * (i : Int)))))), by dsimp only; omega, by dsimp only; rw [decide_eq_true_eq]; exact ⟨fun z => ⟨k, by omega, z⟩, fun ⟨j, hj, z⟩ => by by_cases e : j = k; (rw [← e]; exact z); (exact absurd ⟨j, by omega, z⟩ hn)⟩⟩, by dsimp only; omega, ?_⟩
              simp -implicitDefEqProofs only [go_sem, hh, Int.reduceAdd]
              simp [Ad_ext]
            · have hn : ∃ j, j < k ∧ (toN ((mlR1 r).nx 2) i).getD j default = (adD ((mlR1 r).nx (2 + 2 * (i : Int)))) := hb2.1 rfl
              simp -implicitDefEqProofs only [hlt2, decide_true, Int.toNat_natCast, go_sem, hh, Int.reduceAdd]
              repeat' (first | with_reducible apply And.intro | with_reducible intro _ | ((first | apply brB_split | apply aPickB_split | apply gB_split | apply adB_split) <;> intro hb <;> simp -implicitDefEqProofs only [hb, go_sem, hh, Int.reduceAdd] <;> try simp only [qz] at hb))
              all_goals (try simp only [maxLen, Int.toNat_natCast] at *)
              all_goals first | rfl | omega | decide | assumption | skip
              refine ⟨⟨(k + 1, true), by dsimp only; omega, by dsimp only; exact ⟨fun _ => hn.elim fun j z => ⟨j, by omega, z.2⟩, fun _ => rfl⟩⟩, by dsimp only; omega, ?_⟩
              simp -implicitDefEqProofs only [go_sem, hh, Int.reduceAdd]
              simp
          · have hE : b = true ↔ (adD ((mlR1 r).nx (2 + 2 * (i : Int)))) ∈ toN ((mlR1 r).nx 2) i := hb2.trans ⟨fun ⟨j, hj, z⟩ => z ▸ getD_mem (by omega), fun z => Classical.byContradiction fun f => by
              have := mem_getD (P := fun x : Ad => ¬ x = (adD ((mlR1 r).nx (2 + 2 * (i : Int))))) (xs := toN ((mlR1 r).nx 2) i) (fun j hj e => f ⟨j, by omega, e⟩) _ z
              exact this rfl⟩
            cases b
            · have hm : ¬ adD (((mlR1 r).nx 2).nx (2 * (i : Int))) ∈ toN ((mlR1 r).nx 2) i := fun z => by rw [nx_nx] at z; have := hE.2 z; cases this
              have hs := toN_n hm
              simp -implicitDefEqProofs only [hlt2, decide_false, go_sem, hh, Int.reduceAdd]
              repeat' (first | with_reducible apply And.intro | with_reducible intro _ | ((first | apply brB_split | apply aPickB_split | apply gB_split | apply adB_split) <;> intro hb <;> simp -implicitDefEqProofs only [hb, go_sem, hh, Int.reduceAdd] <;> try simp only [qz] at hb))
              all_goals (try simp only [maxLen, Int.toNat_natCast] at *)
              all_goals first | rfl | omega | decide | assumption | skip
              refine run_le (Le.renb 1003 2 1053 1907 rfl rfl rfl rfl) (run_go ?_)
              simp -implicitDefEqProofs only [go_sem, hh, Int.reduceAdd]
              repeat' (first | with_reducible apply And.intro | with_reducible intro _ | ((first | apply brB_split | apply aPickB_split | apply gB_split | apply adB_split) <;> intro hb <;> simp -implicitDefEqProofs only [hb, go_sem, hh, Int.reduceAdd] <;> try simp only [qz] at hb))
              all_goals (try simp only [maxLen, Int.toNat_natCast] at *)
              all_goals first | rfl | omega | decide | assumption | skip
              refine ⟨⟨i + 1, by omega⟩, by dsimp only; omega, ?_⟩
              simp -implicitDefEqProofs only [hs, go_sem, hh, Int.reduceAdd]
              simp [encAd_eq, nx_nx]
              try omega
            · have hm : adD (((mlR1 r).nx 2).nx (2 * (i : Int))) ∈ toN ((mlR1 r).nx 2) i := by rw [nx_nx]; exact hE.1 rfl
              have hs := toN_y hm
              simp -implicitDefEqProofs only [hlt2, decide_false, go_sem, hh, Int.reduceAdd]
              repeat' (first | with_reducible apply And.intro | with_reducible intro _ | ((first | apply brB_split | apply aPickB_split | apply gB_split | apply adB_split) <;> intro hb <;> simp -implicitDefEqProofs only [hb, go_sem, hh, Int.reduceAdd] <;> try simp only [qz] at hb))
              all_goals (try simp only [maxLen, Int.toNat_natCast] at *)
              all_goals first | rfl | omega | decide | assumption | skip
              refine run_go ?_
              simp -implicitDefEqProofs only [go_sem, hh, Int.reduceAdd]
              repeat' (first | with_reducible apply And.intro | with_reducible intro _ | ((first | apply brB_split | apply aPickB_split | apply gB_split | apply adB_split) <;> intro hb <;> simp -implicitDefEqProofs only [hb, go_sem, hh, Int.reduceAdd] <;> try simp only [qz] at hb))
              all_goals (try simp only [maxLen, Int.toNat_natCast] at *)
              all_goals first | rfl | omega | decide | assumption | skip
              refine ⟨⟨i + 1, by omega⟩, by dsimp only; omega, ?_⟩
              simp -implicitDefEqProofs only [hs, go_sem, hh, Int.reduceAdd]
              simp
              try omega
      · have hz : (i : Int) = mlC r := by omega
        have hz2 : (mlC r).toNat = i := by omega
        have e1 : mlR r = (mlR1 r).nx (2 + 2 * (i : Int)) := by unfold mlR; rw [hz]
        have e2 : mlD r = ⟨adD r, toN ((mlR1 r).nx 2) i, bodD (r.nx 3) (mlM r)⟩ := by unfold mlD; rw [hf, hz2]
        rw [e1, e2]
        simp -implicitDefEqProofs only [hlt, decide_false, go_sem, hh, Int.reduceAdd]
        repeat' (first | with_reducible apply And.intro | with_reducible intro _ | ((first | apply brB_split | apply aPickB_split | apply gB_split | apply adB_split) <;> intro hb <;> simp -implicitDefEqProofs only [hb, go_sem, hh, Int.reduceAdd] <;> try simp only [qz] at hb))
        all_goals (try simp only [maxLen, Int.toNat_natCast] at *)
        all_goals first | rfl | omega | decide | assumption | trace_state
end
end Go.V
namespace Go.V
open Go Go.Proofs
set_option maxRecDepth 100000
set_option linter.unusedSimpArgs false
set_option linter.unusedVariables false
attribute [local go_sem] aPickB.eq_1 aPickB.eq_2 aPick.eq_1 aBox.eq_1 aBox.eq_2 aAlloc.eq_1 aAlloc.eq_2 aLoadB.eq_1 aLoadB.eq_2 aLoadB.eq_3 aLoadB.eq_4 aLoadB.eq_5 aLoadA.eq_1 aLoadA.eq_2 aLoadA.eq_3 aLoadA.eq_4 aLoadA.eq_5 aLoadP.eq_1 aLoadP.eq_2 aLoadP.eq_3 aLoad.eq_1 aLoad.eq_2 aFAx.eq_1 aFAx.eq_2 aFAx.eq_3 aFA.eq_1 aFA.eq_2 aFx.eq_1 aF.eq_1 aF.eq_2 fld.eq_1 elT.eq_1 aIdxH.eq_1 aIdxH.eq_2 aIdxH.eq_3 aIdxH.eq_4 aIdxH.eq_5 aIdxP.eq_1 aIdxP.eq_2 aIndexAddr.eq_1 aIndexAddr.eq_2 aIndexAddr.eq_3 isStr.eq_1 aIndex.eq_1 aSlStr.eq_1 aSlRo.eq_1 aSlZ.eq_1 aSlZ.eq_2 aSlice.eq_1 aSlice.eq_2 aSlice.eq_3 bnd.eq_1 bnd.eq_2 aBuildO.eq_1 aBuildO.eq_2 aBuild.eq_1 aNewArr.eq_1 aNewArr.eq_2 aBS.eq_1 aBS.eq_2 aBuildSlice.eq_1 aBuildSlice.eq_2 aMakeSlice.eq_1 appDeep.eq_1 aApp2.eq_1 aAppend.eq_1 aAppend.eq_2 aStoreB.eq_1 aStoreA.eq_1 obFlat.eq_1 aStore2.eq_1 aStore2.eq_2 aStoreP.eq_1 aStoreP.eq_2 aStore.eq_1 aStore.eq_2 isShl.eq_1 isShl.eq_2 isBool.eq_1 aBinI.eq_1 aBinI.eq_2 aBinB.eq_1 aBinB.eq_2 aEq.eq_1 aEq.eq_2 aEq.eq_3 aEq.eq_4 aEqG.eq_1 aEqG.eq_2 aBin.eq_1 aBin.eq_2 aBin.eq_3 aBin.eq_4 aUn.eq_1 aUn.eq_2 aLenO.eq_1 aLenS.eq_1 aLenS.eq_2 aLenS.eq_3 aLenT.eq_1 aLen.eq_1 aLen.eq_2 aLen.eq_3 bytesOb.eq_1 bytesOb.eq_2 bytesOf.eq_1 bytesOf.eq_2 aNums.eq_1 aNums.eq_2 isU8.eq_1 aCvI.eq_1 aCvS.eq_1 aCvB.eq_1 aCvB.eq_2 aCvT.eq_1 aConv.eq_1 aConv.eq_2 aConv.eq_3 aConv.eq_4 aExO.eq_1 aExO.eq_2 aExtract.eq_1 aNil.eq_1 aNil.eq_2 aNil.eq_3 aCallS.eq_1 aCallS.eq_2 aCallR.eq_1 aCallR.eq_2 aCallK.eq_1 aCallK.eq_2 aCallK.eq_3 aCall.eq_1 aCall.eq_2 takeO.eq_1 AS.takeV.eq_1 AS.takeV.eq_2 AS.takeV.eq_3 AS.takeV.eq_4 AS.takeV.eq_5 AS.takeV.eq_6 AS.takeV.eq_7 AV.oldM.eq_1 AV.oldM.eq_2 AV.oldM.eq_3 AV.oldM.eq_4 AV.oldM.eq_5 AV.oldM.eq_6 AV.oldM.eq_7 AV.oldM.eq_8 AV.oldM.eq_9 AV.oldM.eq_10 AV.oldM.eq_11 AV.oldML.eq_1 AV.oldML.eq_2 subL.eq_1 subL.eq_2 back.eq_1 back.eq_2 back.eq_3 back.eq_4 backL.eq_1 backI.eq_1 backI.eq_2 backI.eq_3 backI.eq_4 backIL.eq_1 aBuiltin.eq_1 aBuiltin.eq_2 aBuiltin.eq_3 aCallee.eq_1 aCallee.eq_2 aCallee.eq_3 abin.eq_1 abin.eq_2 abin.eq_3 abin.eq_4 abin.eq_5 abin.eq_6 abin.eq_7 abin.eq_8 abin.eq_9 abin.eq_10 abin.eq_11 abin.eq_12 abin.eq_13 abin.eq_14 abin.eq_15 abin.eq_17 abin.eq_18 abin.eq_19 abin.eq_20 abin.eq_21 abin.eq_22 abin.eq_23 AS.ev.eq_1 AS.ev.eq_2 AS.ev.eq_3 AS.ev.eq_4 AS.evs.eq_1 AS.evs.eq_2 AS.evp.eq_1 AS.evp.eq_2 AS.put.eq_1 AS.put.eq_2 AS.remL.eq_1 AS.remL.eq_2 AV.has.eq_1 AV.has.eq_2 AV.has.eq_3 AV.has.eq_4 AV.has.eq_5 AV.has.eq_6 AV.has.eq_7 AV.has.eq_8 AV.has.eq_9 AV.has.eq_10 AV.has.eq_11 AV.hasL.eq_1 AV.hasL.eq_2 Ob.drop.eq_1 Ob.drop.eq_2 Ob.drop.eq_3 Ob.drop.eq_4 AV.cells.eq_1 AV.cells.eq_2 AV.cells.eq_3 AV.cells.eq_4 AV.cells.eq_5 AS.snapT.eq_1 AS.snapT.eq_2 AS.snapT.eq_3 AS.snapT.eq_4 AS.snapT.eq_5 AS.snapT.eq_6 AS.snapT.eq_7 AS.snap.eq_1 AS.snap.eq_2 mapO.eq_1 mapO.eq_2 intern.eq_1 intern.eq_2 intern.eq_3 intern.eq_4 intern.eq_5 intern.eq_6 intern.eq_7 intern.eq_8 intern.eq_9 intern.eq_10 intern.eq_11 internL.eq_1 internL.eq_2 zipSl.eq_1 zipSl.eq_2 AV.ids.eq_1 AV.ids.eq_2 AV.ids.eq_3 AV.ids.eq_4 AV.ids.eq_5 AV.ids.eq_6 AV.ids.eq_7 AV.ids.eq_8 AV.ids.eq_9 AV.ids.eq_10 AV.ids.eq_11 AV.idsL.eq_1 AV.idsL.eq_2 AV.sub.eq_1 AV.sub.eq_2 AV.sub.eq_3 AV.sub.eq_4 AV.sub.eq_5 AV.sub.eq_6 AV.sub.eq_7 AV.sub.eq_8 AV.sub.eq_9 AV.sub.eq_10 AV.sub.eq_11 AV.subL.eq_1 AV.subL.eq_2 AS.frzL.eq_1 AS.frzL.eq_2 AS.absT.eq_1 AS.absT.eq_2 AS.absT.eq_4 AS.absL.eq_1 AS.absL.eq_2 AS.absOk.eq_1 AS.absOkL.eq_1 AS.absOkL.eq_2 hid.eq_1 hids.eq_1 hids.eq_2 AS.appBase.eq_1 AS.appBase.eq_2 AS.appSrc.eq_1 appFits.eq_1 appFits.eq_2 appFits.eq_3 avFill.eq_1 avFill.eq_2 avc.eq_1 avc.eq_2 avc1.eq_1 Kd.agg.eq_1 Kd.agg.eq_2 okR.eq_1 okR.eq_2 okR.eq_3 okR.eq_4 okR.eq_5 okR.eq_6 okR.eq_7 okR.eq_8 zt.eq_1 rvB.eq_1 rvP.eq_1 rvA.eq_1 rvA.eq_2 rv1.eq_1 outTO.eq_1 outT.eq_1 outT.eq_2 outT.eq_3 outTn.eq_1 outOO.eq_1 outO.eq_1 outO.eq_2 boxOf.eq_1 outP.eq_1 outP.eq_2 outP.eq_3 outP.eq_4 outP.eq_5 outP.eq_6 outP.eq_7 outP.eq_8 outPL.eq_1 outPL.eq_2 outI.eq_1 outI.eq_2 outI.eq_3 outI.eq_4 outI.eq_5 outIL.eq_1 outZ.eq_1 outZ.eq_2 outZ.eq_3 outZ.eq_4 outZ.eq_5 outZL.eq_1 finO.eq_1 finO.eq_2 fin.eq_1 fin.eq_2 fin.eq_3 cellAV.eq_1 cellAV.eq_2 numsOf.eq_1 numsOf.eq_2 aop.eq_1 aop.eq_2 aop.eq_3 aop.eq_4 aop.eq_5 aop.eq_6 aop.eq_7 aop.eq_8 aop.eq_9 aop.eq_10 aop.eq_11 aop.eq_12 aop.eq_13 aop.eq_14 aop.eq_15 aop.eq_16 aop.eq_17 aop.eq_18 aop.eq_19 aop.eq_20 aop.eq_21 aop.eq_22 aop.eq_23 aop.eq_24 aop.eq_25 aop.eq_26 tmpsOf.eq_1 tmpsOf.eq_2 tmpsOf.eq_3 tmpsOf.eq_4 tmpsOf.eq_5 AV.refs.eq_1 AV.refs.eq_2 AV.refs.eq_3 AV.refs.eq_4 AV.refs.eq_5 AV.refs.eq_6 AV.refs.eq_7 AV.refs.eq_8 AV.refs.eq_9 AV.refs.eq_10 AV.refs.eq_11 AV.refsL.eq_1 AV.refsL.eq_2 refsT.eq_1 refsT.eq_2 refsO.eq_1 refsO.eq_2 refsO.eq_3 refsO.eq_4 refsO.eq_5 refsO.eq_6 refsB.eq_1 refsB.eq_2 clos.eq_1 clos.eq_2 keepL.eq_1 keepL.eq_2 AV.hasM.eq_1 AV.hasM.eq_2 AV.hasM.eq_3 AV.hasM.eq_4 AV.hasM.eq_5 AV.hasM.eq_6 AV.hasM.eq_7 AV.hasM.eq_8 AV.hasM.eq_9 AV.hasM.eq_10 AV.hasM.eq_11 AV.hasML.eq_1 AV.hasML.eq_2 Ob.dropM.eq_1 Ob.dropM.eq_2 Ob.dropM.eq_3 Ob.dropM.eq_4 nsC.eq_1 nsC.eq_2 okGuard.eq_1 okGuard.eq_2 AS.purges.eq_1 AS.purges.eq_2 dropMB.eq_1 dropMB.eq_2 newB.eq_1 newB.eq_2 ptB.eq_1 ptB.eq_2 lookC.eq_1 lookC.eq_2 dropB.eq_1 dropB.eq_2 leS.eq_1 leS.eq_2 leT.eq_1 leT.eq_2 AS.mvs.eq_1 AS.mvs.eq_2 AS.mvA.eq_1 AS.mvA.eq_2 AS.mvB.eq_1 aSetO.eq_1 aSetO.eq_2 aSh.eq_1 aSh.eq_2 arK.eq_1 aIdxA.eq_1 aIdxA.eq_2 arT.eq_1 aSlHB.eq_1 aSlHB.eq_2 aSlHO.eq_1 aSlHZ.eq_1 aSlHZ.eq_2 isSlT.eq_1 isNilC.eq_1 aNilO.eq_1 aNilX.eq_1 aNilX.eq_2 aNilX.eq_3 aNilC.eq_1 aNilC.eq_2 aBinQ.eq_1 aBinQ.eq_2 aMin.eq_1 flT.eq_1 flT.eq_2 flT.eq_3 mpT.eq_1 aMkMap.eq_1 aMkMap.eq_2 strA.eq_1 keyMK.eq_1 keyMK.eq_2 keyMK.eq_3 mkB.eq_1 mkB.eq_2 mkB.eq_3 aMp2.eq_1 aMp1.eq_1 aMp0.eq_1 aMapU.eq_1 aLk2.eq_1 aLk2.eq_2 aLk1.eq_1 aLk0.eq_1 aLookup.eq_1 aLenMO.eq_1 aLenM.eq_1 glV.eq_1 glV.eq_2 evG.eq_1 evG.eq_2 evG.eq_3 evG.eq_4 lkHitO.eq_1 lkHitO.eq_2 lkHitO.eq_3 lkHitO.eq_4 lkHit.eq_1 lkHit.eq_2 lkF.eq_1 lkF.eq_2 lkFind.eq_1 lkFind.eq_2 lkV.eq_1 lkV.eq_2 lkV.eq_3 lkV.eq_4 lkV.eq_5 AS.lkO.eq_1 AS.lkO.eq_2 AS.lkOf.eq_1 rawT.eq_1 rawT.eq_2 rawT.eq_3 rawT.eq_4 rawT.eq_5 rawT.eq_6 rawOf.eq_1 rawOf.eq_2 rawOf.eq_3 rawOf.eq_4 rawOf.eq_5 rawOf.eq_6 rawOf.eq_7 rawOf.eq_8 rawOf.eq_9 rawOf.eq_10 rawOf.eq_11 aLkR.eq_1 aLkR.eq_2 aLk.eq_1 aLk.eq_2 KL.eq_1 lkDrop.eq_1 lkDrop.eq_2 lkParO.eq_1 lkParO.eq_2 lkParO.eq_3 lkParO.eq_4 lkPar.eq_1 lkPar.eq_2 lkI.eq_1 lkI.eq_2 lkIds.eq_1 lkIds.eq_2 adLd.eq_1 run_nil run_b run_l run_skip run_label run_seq run_cond brV_b brB_t brB_f run_block run_exit run_ret run_region runX_nil runX_c runX_c' runX_b runX_b' runX_l runX_l' exB_t exB_f run_o run_op run_opg gV_b gV_t gB_tt gB_ff gB_tf gB_ft rs_eq kv KI aLenN aBS1 aApp1 aStore1 szOk gv gd s0 idOf look_cons lookC frzU_t frzU_f orT orF drop_any drop_nil drop_t drop_h drop_pb drop_pa drop_agg drop_tup drop_fn dropB kill_eq set_eq rem_eq re_eq up_eq get_eq ob_eq Ob.drop apl fpl plainTy AS.frz splice cond_true cond_false List.map_cons List.map_nil List.drop_zero List.drop_succ_cons List.drop_nil List.take_zero List.take_succ_cons List.take_nil List.getElem?_cons_zero List.getElem?_cons_succ List.getElem?_nil List.length_cons List.length_nil Option.map_some Option.map_none Option.bind_some Option.bind_none List.cons_append List.nil_append List.append_nil Option.getD_some Option.getD_none List.all_cons List.all_nil Bool.and_true Bool.true_and Bool.or_false Bool.false_or Bool.or_true Bool.true_or List.flatten_cons List.flatten_nil List.replicate_succ List.replicate_zero and_true true_and avOf_t avOf_f agg_bool agg_int agg_str agg_slice agg_struct agg_func agg_ptr agg_map avc_bool avc_int avc_str avc_fn avc1_bool avc1_int avc1_str avc1_fn zt_bool zt_int zt_str cells_nil cells_t cells_h cells_pb cells_fn snap_t snap_nil snap_h snap_pb snap_fn rv1_one rv1_two outI_t outI_oh outI_on outI_any outI_nil outZ_th outZ_tt outZ_tn outZ_o outZ_any outZ_nil outIL_nil outZL_nil finN finR ne_eq not_false_eq_true not_true_eq_false List.nodup_nil List.not_mem_nil false_implies implies_true eq_self true_or or_true Option.some.injEq shl_add shl_sub shl_mul shl_quo shl_rem shl_and shl_or shl_xor shl_andNot shl_eql shl_neq shl_lss shl_leq shl_gtr shl_geq shl_shr shl_shl appDeep_none appDeep_sn appSrc_h appSrc_nil fits_ft fits_tn fits_tf isStr_slice obFlat_box Nat.le_refl nbeq_self List.length_map updZ_s updZ_n dropM_eq purge_eq newIds_cons newIds_nil purgeT_nil purgeT_cons memN_cons memN_nil bd_d bd_c bd_g bd_p bd_t bd_o preds_nil preds_cons hasIns insB List.any_cons List.any_nil adK_eq adr_nil adG_eq kdOp noLen creates Op.operands Call.operands nsOf adT adI adJ plainB rst List.append_eq nsD_f nsD_n nsD_t nOf_0 nOf_1 nOf_2 chO_0 chO_1 chO_2 keepK_0 keepK_1 keepK_2 eqRes AS.mv fits KM aCallM notNew kdCall arK_i64 arK_i32 arK_u8 arK_u64 arT_sl isNilC_t isNilC_f isNilC_g isNilC_i isNilC_b isNilC_s isNilC_a isNilC_n andBF andBT aCallK_2 ble_dec hid_t hid_nil hid_any hid_pb hid_fn absOk_t absOk_nil absOk_pb absOk_h absOkO_1 decide_true decide_false Array.toList_append chunk_0 chunk_1 chunk_2 chunk_3 back_t back_nil back_ht backL_nil backI_t backI_nil backI_ht backIL_nil AS.mvJ nbeq_dec runR_f runR_t loadB Option.isSome_some Option.isSome_none nodup1 adr_none adr_some adO_s adV_b adV_t adB_tt adB_ff adB_tf adB_ft adS_eq lenL.eq_1 lenO.eq_1 lenO.eq_2 lenV.eq_1 lenV.eq_2 lenV.eq_3 lenV.eq_4 optN optS absT_ft
attribute [local go_sem] ty3 ty4 ty5 ty9 ty21 ty22 ty23 ty25 ty27 ty28 ty29 ty31 ty33 ty43 ty45 ty46 ty48 ty54 ty57 ty59 ty60 ty62 ty73 ty75 ty91 ty96 ty98 ty101 ty104 ty120 ty125 ty129 ty146 ty166 ty207 ty220 ty237 lv27 lv91 lv104 lv120 zb4 leS leT fits AS.mvs encStr_eq aIdx_str EStr_dec decStrs decStrs0 EStr_enc EStr_n encInt_eq aIdx_int EInt_dec decInts decInts0 EInt_enc EInt_n AllV_Int len_Int lc_enc l0_enc asl_enc ag_enc aow_enc ABool_enc AInt_enc AStr_enc AU8_enc ABool_dec AInt_dec AStr_dec AU8_dec asl_dec ag_dec aow_dec bind_some pr2.eq_1 l0_nil lc_cons unT.eq_1 K0.eq_1 M0.eq_1 KI AllV_Str len_Str ctR_eq ctM_eq ro_kd ro_ro mu_kd mu_mu encAd_eq aIdx_Ad EAd_dec decAds decAds0 EAd_enc EAd_n len_Ad Ad_eta AllV_Ad encMl_eq aIdx_Ml EMl_dec decMls decMls0 EMl_enc EMl_n len_Ml Ml_eta mkMl.eq_1 owMl_eq AMl_enc AMl_dec encRc_eq aIdx_Rc ERc_dec decRcs decRcs0 ERc_enc ERc_n len_Rc Rc_eta AllV_Rc encIm_eq aIdx_Im EIm_dec decIms decIms0 EIm_enc EIm_n len_Im Im_eta mkIm.eq_1 owIm_eq AIm_enc AIm_dec encSp_eq aIdx_Sp ESp_dec decSps decSps0 ESp_enc ESp_n len_Sp Sp_eta mkSp.eq_1 owSp_eq ASp_enc ASp_dec encNt_eq aIdx_Nt ENt_dec decNts decNts0 ENt_enc ENt_n len_Nt Nt_eta mkNt.eq_1 owNt_eq ANt_enc ANt_dec
instance (n : Int) : Decidable (isLc n) := by unfold isLc; infer_instance
theorem Lbl_iff (s : ByteArray) : Lbl s ↔ (∀ b ∈ bl s, isLc (b.toNat : Int)) ∧ 1 ≤ s.size ∧ s.size ≤ 8 :=
  ⟨fun h => ⟨fun b hb => by
    obtain ⟨j, hj, e⟩ := byte_mem hb
    rw [← e]; exact h.1 j hj, h.2⟩, fun h => ⟨fun j hj => by
    obtain ⟨b, hb, e⟩ := mem_byte hj
    rw [e]; exact h.1 b hb, h.2⟩⟩
instance (s : ByteArray) : Decidable (Lbl s) := decidable_of_iff _ (Lbl_iff s).symm
instance (s : ByteArray) : Decidable (Dom s) := by unfold Dom; infer_instance
instance (s : ByteArray) : Decidable (Lin s) := decidable_of_iff _ (Lin_iff s).symm
theorem domL_ok : ∀ s ∈ domL, Dom s := by decide +kernel
theorem usrL_ok : ∀ s ∈ usrL, Lbl s := by decide +kernel
theorem linL_ok : ∀ s ∈ linL, Lin s := by decide +kernel
theorem adD_ok {r : Rd} (h : 0 ≤ r.p) (h1 : r.p ≤ 999999990) : AdOk (adD r) :=
  ⟨usrL_ok _ (ofS_mem h (by omega) (by decide)), domL_ok _ (ofS_mem (r := r.nx 1) (by rw [nx_p]; omega) (by rw [nx_p]; omega) (by decide))⟩
theorem linS_ok {r : Rd} (h : 0 ≤ r.p) (h1 : r.p ≤ 999999990) : Lin (linS r) := linL_ok _ (ofS_mem h (by omega) (by decide))
theorem bodD_ok {r : Rd} {m : Int} (h : 0 ≤ r.p) (h1 : r.p ≤ 999999900) (h2 : 0 ≤ m) (h3 : m ≤ 12) : BdOk (bodD r m) := by
  have hb := pkN_b (r := r) (n := m + 1) h (by omega)
  unfold bodD
  refine ⟨fun s hs => ?_, by rw [bodN_len]; omega⟩
  unfold bodN at hs
  obtain ⟨j, hj, rfl⟩ := List.mem_map.1 hs
  rw [List.mem_range] at hj
  exact linS_ok (by rw [nx_p, nx_p]; omega) (by rw [nx_p, nx_p]; omega)
theorem mlD_ok {r : Rd} (h : 0 ≤ r.p) (h1 : r.p ≤ 999999800) : MlOk (mlD r) := by
  have h2 := mlM_b h (by omega)
  have h3 := mlR1_p h (by omega)
  have h4 := mlC_b h (by omega)
  obtain ⟨k, hk⟩ : ∃ k, (mlC r).toNat = k + 1 := ⟨(mlC r).toNat - 1, by omega⟩
  refine ⟨fun a ha => ?_, toN_nodup _ _, ?_, ⟨?_, ?_⟩, bodD_ok (by rw [nx_p]; omega) (by rw [nx_p]; omega) (by omega) (by omega)⟩
  · obtain ⟨j, hj, rfl⟩ := toN_mem ha
    exact adD_ok (by rw [nx_p, nx_p]; omega) (by rw [nx_p, nx_p]; omega)
  · show AdOk (mlFrm r) ∨ AdNull (mlFrm r)
    unfold mlFrm; split
    · exact .inr ⟨rfl, rfl⟩
    · exact .inl (adD_ok h (by omega))
  · show 1 ≤ (toN _ (mlC r).toNat).length
    rw [hk]; exact toN_ne _ _
  · have := toN_len ((mlR1 r).nx 2) (mlC r).toNat
    show (toN _ (mlC r).toNat).length ≤ 4
    omega
theorem AdOk_sz {a : Ad} (h : AdOk a ∨ AdNull a) : OkAd a := by
  rcases h with h | h
  · have h1 := (Lbl_lin h.1).2
    have h2 := (Dom_lin h.2).2
    exact ⟨by show a.user.size ≤ 1048576; omega, by show a.domain.size ≤ 1048576; omega⟩
  · obtain ⟨u, d⟩ := a
    obtain ⟨h1, h2⟩ := h
    dsimp only at h1 h2
    subst h1; subst h2
    exact ⟨by show 0 ≤ 1048576; decide, by show 0 ≤ 1048576; decide⟩
theorem BdOk_sz {b : List ByteArray} (h : BdOk b) : OkL OkStr b := ⟨by have := h.2; omega, fun s hs => by
  have := (h.1 s hs).2
  show s.size ≤ 1048576; omega⟩
theorem MlOk_sz {m : Ml} (h : MlOk m) : OkMl m := ⟨AdOk_sz h.2.2.1, ⟨by have := h.2.2.2.1.2; omega, fun a ha => AdOk_sz (.inl (h.1 a ha))⟩, BdOk_sz h.2.2.2.2⟩
theorem ImOk_sz {x : Im} (h : ImOk x) : OkIm x := ⟨AdOk_sz h.2.2.2.1, ⟨by have := h.2.2.2.2.1.2; omega, fun r hr => AdOk_sz (.inl (h.1 r hr).1)⟩, BdOk_sz h.2.2.2.2.2⟩
theorem SpOk_sz {s : Sp} (h : SpOk s) : OkSp s := ⟨by have := h.2.2.2; omega, fun x hx => ImOk_sz (h.1 x hx).1⟩
structure Ds where
  s : Sp
  w : Int
  r : Rd
def dsW (z : Ds) : Int := z.w + pkN z.r 5
def dsAdd (z : Ds) : Prop := (z.s.items.length : Int) = 0 ∨ pkN (z.r.nx 1) 2 = 0
def dsR (z : Ds) : Rd := if (z.s.items.length : Int) = 0 then z.r.nx 1 else z.r.nx 2
def dsI (z : Ds) : Int := pkN (z.r.nx 2) z.s.items.length
def dsK (z : Ds) : Int := pkN (z.r.nx 3) (z.s.items.getD (dsI z).toNat default).to.length
open Classical in
noncomputable def dsStep (z : Ds) : Ds :=
  if dsAdd z then (if Room z.s then ⟨adSp z.s (mlD (dsR z)) (dsW z), dsW z, mlR (dsR z)⟩ else ⟨z.s, dsW z, dsR z⟩)
  else if pkN (z.r.nx 4) 2 = 0 then ⟨dnSp z.s (dsI z).toNat (dsK z).toNat, dsW z, z.r.nx 5⟩
  else ⟨(SLat z.s (dsI z).toNat (dsK z).toNat (dsW z)).1, dsW z, z.r.nx 5⟩
noncomputable def dsN (z : Ds) : Nat → Ds
  | 0 => z
  | n + 1 => dsStep (dsN z n)
theorem dsStep_a {z : Ds} (h : dsAdd z) (h2 : Room z.s) : dsStep z = ⟨adSp z.s (mlD (dsR z)) (dsW z), dsW z, mlR (dsR z)⟩ := by unfold dsStep; rw [if_pos h, if_pos h2]
theorem dsStep_b {z : Ds} (h : dsAdd z) (h2 : ¬ Room z.s) : dsStep z = ⟨z.s, dsW z, dsR z⟩ := by unfold dsStep; rw [if_pos h, if_neg h2]
theorem dsStep_c {z : Ds} (h : ¬ dsAdd z) (h2 : pkN (z.r.nx 4) 2 = 0) : dsStep z = ⟨dnSp z.s (dsI z).toNat (dsK z).toNat, dsW z, z.r.nx 5⟩ := by unfold dsStep; rw [if_neg h, if_pos h2]
theorem dsStep_d {z : Ds} (h : ¬ dsAdd z) (h2 : ¬ pkN (z.r.nx 4) 2 = 0) : dsStep z = ⟨(SLat z.s (dsI z).toNat (dsK z).toNat (dsW z)).1, dsW z, z.r.nx 5⟩ := by unfold dsStep; rw [if_neg h, if_neg h2]
structure DsOk (r : Rd) (i : Nat) (z : Ds) : Prop where
  sp : SpOk z.s
  w0 : 0 ≤ z.w
  w1 : z.w ≤ 4 * i
  p0 : r.p ≤ z.r.p
  p1 : z.r.p ≤ r.p + 1 + 30 * i
  b : z.r.b = r.b
theorem SLat_ok {s : Sp} {i k : Nat} {w : Int} (h : SpOk s) (hi : i < s.items.length) (hk : k < (s.items.getD i default).to.length) (hw : 0 ≤ w) : SpOk (SLat s i k w).1 := by
  unfold SLat; split
  · exact h
  · exact ltSp_SpOk h hi hk (by assumption) hw
theorem ds_at {r : Rd} {i : Nat} {z : Ds} (h : DsOk r i z) (h0 : 0 ≤ r.p) (h1 : r.p ≤ 999990000) (hi : i ≤ 9) (ha : ¬ dsAdd z) : (0 ≤ dsI z ∧ dsI z < z.s.items.length) ∧ 0 ≤ dsK z ∧ dsK z < (z.s.items.getD (dsI z).toNat default).to.length := by
  have a1 := h.p0; have a2 := h.p1
  have hb := pkN_b (r := z.r.nx 2) (n := z.s.items.length) (by rw [nx_p]; omega) (by rw [nx_p]; omega)
  have hc := pkN_b (r := z.r.nx 3) (n := (z.s.items.getD (dsI z).toNat default).to.length) (by rw [nx_p]; omega) (by rw [nx_p]; omega)
  have hl : ¬ (z.s.items.length : Int) = 0 := fun e => ha (.inl e)
  have q1 : 0 ≤ dsI z ∧ dsI z < z.s.items.length := by unfold dsI; omega
  have hx := (h.sp.1 _ (getD_mem (xs := z.s.items) (j := (dsI z).toNat) (by omega))).1.2.2.2.2.1.1
  exact ⟨q1, by unfold dsK; omega, by unfold dsK; omega⟩
theorem dsR_p {r : Rd} {i : Nat} {z : Ds} (h : DsOk r i z) : (dsR z).b = r.b ∧ z.r.p + 1 ≤ (dsR z).p ∧ (dsR z).p ≤ z.r.p + 2 := by
  unfold dsR; split
  · exact ⟨h.b, by rw [nx_p]; omega, by rw [nx_p]; omega⟩
  · exact ⟨h.b, by rw [nx_p]; omega, by rw [nx_p]; omega⟩
theorem dsW_b {r : Rd} {i : Nat} {z : Ds} (h : DsOk r i z) (h0 : 0 ≤ r.p) (h1 : r.p ≤ 999990000) (hi : i ≤ 9) : z.w ≤ dsW z ∧ dsW z ≤ z.w + 4 := by
  have a1 := h.p0; have a2 := h.p1
  have hb := pkN_b (r := z.r) (n := 5) (by omega) (by omega)
  unfold dsW; omega
theorem ds_next {r : Rd} {i : Nat} {z : Ds} (h : DsOk r i z) (h0 : 0 ≤ r.p) (h1 : r.p ≤ 999990000) (hi : i ≤ 9) : DsOk r (i + 1) (dsStep z) := by
  have a1 := h.p0; have a2 := h.p1; have a3 := h.w0; have a4 := h.w1
  have hw := dsW_b h h0 h1 hi
  have hR := dsR_p h
  by_cases ha : dsAdd z
  · by_cases hr : Room z.s
    · rw [dsStep_a ha hr]
      have hm := mlR_p (r := dsR z) (by omega) (by omega)
      exact ⟨adSp_SpOk h.sp (mlD_ok (by omega) (by omega)) ⟨by omega, by omega⟩ hr, by show 0 ≤ dsW z; omega, by show dsW z ≤ _; omega, by show r.p ≤ (mlR _).p; omega, by show (mlR _).p ≤ _; omega, by show (mlR _).b = _; rw [hm.1, hR.1]⟩
    · rw [dsStep_b ha hr]
      exact ⟨h.sp, by show 0 ≤ dsW z; omega, by show dsW z ≤ _; omega, by show r.p ≤ (dsR z).p; omega, by show (dsR z).p ≤ _; omega, hR.1⟩
  · obtain ⟨⟨i0, i1⟩, k0, k1⟩ := ds_at h h0 h1 hi ha
    by_cases hd : pkN (z.r.nx 4) 2 = 0
    · rw [dsStep_c ha hd]
      exact ⟨dnSp_SpOk h.sp (by omega) (by omega), by show 0 ≤ dsW z; omega, by show dsW z ≤ _; omega, by show r.p ≤ z.r.p + 5; omega, by show z.r.p + 5 ≤ _; omega, h.b⟩
    · rw [dsStep_d ha hd]
      exact ⟨SLat_ok h.sp (by omega) (by omega) (by omega), by show 0 ≤ dsW z; omega, by show dsW z ≤ _; omega, by show r.p ≤ z.r.p + 5; omega, by show z.r.p + 5 ≤ _; omega, h.b⟩
def ds0 (r : Rd) : Ds := ⟨⟨0, []⟩, 0, r.nx 1⟩
theorem SpOk_0 : SpOk ⟨0, []⟩ := ⟨fun x hx => (by cases hx), fun j _ hj => absurd hj (Nat.not_lt_zero _), ⟨by decide, by decide⟩, Nat.zero_le _⟩
theorem dsN_ok {r : Rd} (h0 : 0 ≤ r.p) (h1 : r.p ≤ 999990000) : ∀ i : Nat, i ≤ 9 → DsOk r i (dsN (ds0 r) i)
  | 0, _ => ⟨SpOk_0, Int.le_refl 0, Int.le_refl 0, by show r.p ≤ r.p + 1; omega, by show r.p + 1 ≤ _; omega, rfl⟩
  | i + 1, h => ds_next (dsN_ok h0 h1 i (by omega)) h0 h1 (by omega)
noncomputable def spD (r : Rd) : Sp := (dsN (ds0 r) (pkN r 9).toNat).s
noncomputable def spR (r : Rd) : Rd := (dsN (ds0 r) (pkN r 9).toNat).r
theorem spD_ok {r : Rd} (h0 : 0 ≤ r.p) (h1 : r.p ≤ 999990000) : SpOk (spD r) ∧ (spR r).b = r.b ∧ r.p ≤ (spR r).p ∧ (spR r).p ≤ r.p + 300 := by
  have hb := pkN_b (r := r) (n := 9) h0 (by omega)
  have h := dsN_ok h0 h1 (pkN r 9).toNat (by omega)
  exact ⟨h.sp, h.b, h.p0, by have := h.p1; unfold spR; omega⟩
end Go.V
namespace Go.V
open Go Go.Proofs
set_option maxRecDepth 100000
set_option linter.unusedSimpArgs false
set_option linter.unusedVariables false
attribute [local go_sem_proc] Nat.reduceAdd Nat.reduceMul Nat.reduceLeDiff Nat.reduceEqDiff reduceCtorEq Nat.reduceSub Int.reduceNeg Nat.reduceMod Nat.reduceBEq Nat.reduceLT
attribute [local go_sem] aPickB.eq_1 aPickB.eq_2 aPick.eq_1 aBox.eq_1 aBox.eq_2 aAlloc.eq_1 aAlloc.eq_2 aLoadB.eq_1 aLoadB.eq_2 aLoadB.eq_3 aLoadB.eq_4 aLoadB.eq_5 aLoadA.eq_1 aLoadA.eq_2 aLoadA.eq_3 aLoadA.eq_4 aLoadA.eq_5 aLoadP.eq_1 aLoadP.eq_2 aLoadP.eq_3 aLoad.eq_1 aLoad.eq_2 aFAx.eq_1 aFAx.eq_2 aFAx.eq_3 aFA.eq_1 aFA.eq_2 aFx.eq_1 aF.eq_1 aF.eq_2 fld.eq_1 elT.eq_1 aIdxH.eq_1 aIdxH.eq_2 aIdxH.eq_3 aIdxH.eq_4 aIdxH.eq_5 aIdxP.eq_1 aIdxP.eq_2 aIndexAddr.eq_1 aIndexAddr.eq_2 aIndexAddr.eq_3 isStr.eq_1 aIndex.eq_1 aSlStr.eq_1 aSlRo.eq_1 aSlZ.eq_1 aSlZ.eq_2 aSlice.eq_1 aSlice.eq_2 aSlice.eq_3 bnd.eq_1 bnd.eq_2 aBuildO.eq_1 aBuildO.eq_2 aBuild.eq_1 aNewArr.eq_1 aNewArr.eq_2 aBS.eq_1 aBS.eq_2 aBuildSlice.eq_1 aBuildSlice.eq_2 aMakeSlice.eq_1 appDeep.eq_1 aApp2.eq_1 aAppend.eq_1 aAppend.eq_2 aStoreB.eq_1 aStoreA.eq_1 obFlat.eq_1 aStore2.eq_1 aStore2.eq_2 aStoreP.eq_1 aStoreP.eq_2 aStore.eq_1 aStore.eq_2 isShl.eq_1 isShl.eq_2 isBool.eq_1 aBinI.eq_1 aBinI.eq_2 aBinB.eq_1 aBinB.eq_2 aEq.eq_1 aEq.eq_2 aEq.eq_3 aEq.eq_4 aEqG.eq_1 aEqG.eq_2 aBin.eq_1 aBin.eq_2 aBin.eq_3 aBin.eq_4 aUn.eq_1 aUn.eq_2 aLenO.eq_1 aLenS.eq_1 aLenS.eq_2 aLenS.eq_3 aLenT.eq_1 aLen.eq_1 aLen.eq_2 aLen.eq_3 bytesOb.eq_1 bytesOb.eq_2 bytesOf.eq_1 bytesOf.eq_2 aNums.eq_1 aNums.eq_2 isU8.eq_1 aCvI.eq_1 aCvS.eq_1 aCvB.eq_1 aCvB.eq_2 aCvT.eq_1 aConv.eq_1 aConv.eq_2 aConv.eq_3 aConv.eq_4 aExO.eq_1 aExO.eq_2 aExtract.eq_1 aNil.eq_1 aNil.eq_2 aNil.eq_3 aCallS.eq_1 aCallS.eq_2 aCallR.eq_1 aCallR.eq_2 aCallK.eq_1 aCallK.eq_2 aCallK.eq_3 aCall.eq_1 aCall.eq_2 takeO.eq_1 AS.takeV.eq_1 AS.takeV.eq_2 AS.takeV.eq_3 AS.takeV.eq_4 AS.takeV.eq_5 AS.takeV.eq_6 AS.takeV.eq_7 AV.oldM.eq_1 AV.oldM.eq_2 AV.oldM.eq_3 AV.oldM.eq_4 AV.oldM.eq_5 AV.oldM.eq_6 AV.oldM.eq_7 AV.oldM.eq_8 AV.oldM.eq_9 AV.oldM.eq_10 AV.oldM.eq_11 AV.oldML.eq_1 AV.oldML.eq_2 subL.eq_1 subL.eq_2 back.eq_1 back.eq_2 back.eq_3 back.eq_4 backL.eq_1 backI.eq_1 backI.eq_2 backI.eq_3 backI.eq_4 backIL.eq_1 aBuiltin.eq_1 aBuiltin.eq_2 aBuiltin.eq_3 aCallee.eq_1 aCallee.eq_2 aCallee.eq_3 abin.eq_1 abin.eq_2 abin.eq_3 abin.eq_4 abin.eq_5 abin.eq_6 abin.eq_7 abin.eq_8 abin.eq_9 abin.eq_10 abin.eq_11 abin.eq_12 abin.eq_13 abin.eq_14 abin.eq_15 abin.eq_17 abin.eq_18 abin.eq_19 abin.eq_20 abin.eq_21 abin.eq_22 abin.eq_23 AS.ev.eq_1 AS.ev.eq_2 AS.ev.eq_3 AS.ev.eq_4 AS.evs.eq_1 AS.evs.eq_2 AS.evp.eq_1 AS.evp.eq_2 AS.put.eq_1 AS.put.eq_2 AS.remL.eq_1 AS.remL.eq_2 AV.has.eq_1 AV.has.eq_2 AV.has.eq_3 AV.has.eq_4 AV.has.eq_5 AV.has.eq_6 AV.has.eq_7 AV.has.eq_8 AV.has.eq_9 AV.has.eq_10 AV.has.eq_11 AV.hasL.eq_1 AV.hasL.eq_2 Ob.drop.eq_1 Ob.drop.eq_2 Ob.drop.eq_3 Ob.drop.eq_4 AV.cells.eq_1 AV.cells.eq_2 AV.cells.eq_3 AV.cells.eq_4 AV.cells.eq_5 AS.snapT.eq_1 AS.snapT.eq_2 AS.snapT.eq_3 AS.snapT.eq_4 AS.snapT.eq_5 AS.snapT.eq_6 AS.snapT.eq_7 AS.snap.eq_1 AS.snap.eq_2 mapO.eq_1 mapO.eq_2 intern.eq_1 intern.eq_2 intern.eq_3 intern.eq_4 intern.eq_5 intern.eq_6 intern.eq_7 intern.eq_8 intern.eq_9 intern.eq_10 intern.eq_11 internL.eq_1 internL.eq_2 zipSl.eq_1 zipSl.eq_2 AV.ids.eq_1 AV.ids.eq_2 AV.ids.eq_3 AV.ids.eq_4 AV.ids.eq_5 AV.ids.eq_6 AV.ids.eq_7 AV.ids.eq_8 AV.ids.eq_9 AV.ids.eq_10 AV.ids.eq_11 AV.idsL.eq_1 AV.idsL.eq_2 AV.sub.eq_1 AV.sub.eq_2 AV.sub.eq_3 AV.sub.eq_4 AV.sub.eq_5 AV.sub.eq_6 AV.sub.eq_7 AV.sub.eq_8 AV.sub.eq_9 AV.sub.eq_10 AV.sub.eq_11 AV.subL.eq_1 AV.subL.eq_2 AS.frzL.eq_1 AS.frzL.eq_2 AS.absT.eq_1 AS.absT.eq_2 AS.absT.eq_4 AS.absL.eq_1 AS.absL.eq_2 AS.absOk.eq_1 AS.absOkL.eq_1 AS.absOkL.eq_2 hid.eq_1 hids.eq_1 hids.eq_2 AS.appBase.eq_1 AS.appBase.eq_2 AS.appSrc.eq_1 appFits.eq_1 appFits.eq_2 appFits.eq_3 avFill.eq_1 avFill.eq_2 avc.eq_1 avc.eq_2 avc1.eq_1 Kd.agg.eq_1 Kd.agg.eq_2 okR.eq_1 okR.eq_2 okR.eq_3 okR.eq_4 okR.eq_5 okR.eq_6 okR.eq_7 okR.eq_8 zt.eq_1 rvB.eq_1 rvP.eq_1 rvA.eq_1 rvA.eq_2 rv1.eq_1 outTO.eq_1 outT.eq_1 outT.eq_2 outT.eq_3 outTn.eq_1 outOO.eq_1 outO.eq_1 outO.eq_2 boxOf.eq_1 outP.eq_1 outP.eq_2 outP.eq_3 outP.eq_4 outP.eq_5 outP.eq_6 outP.eq_7 outP.eq_8 outPL.eq_1 outPL.eq_2 outI.eq_1 outI.eq_2 outI.eq_3 outI.eq_4 outI.eq_5 outIL.eq_1 outZ.eq_1 outZ.eq_2 outZ.eq_3 outZ.eq_4 outZ.eq_5 outZL.eq_1 finO.eq_1 finO.eq_2 fin.eq_1 fin.eq_2 fin.eq_3 cellAV.eq_1 cellAV.eq_2 numsOf.eq_1 numsOf.eq_2 aop.eq_1 aop.eq_2 aop.eq_3 aop.eq_4 aop.eq_5 aop.eq_6 aop.eq_7 aop.eq_8 aop.eq_9 aop.eq_10 aop.eq_11 aop.eq_12 aop.eq_13 aop.eq_14 aop.eq_15 aop.eq_16 aop.eq_17 aop.eq_18 aop.eq_19 aop.eq_20 aop.eq_21 aop.eq_22 aop.eq_23 aop.eq_24 aop.eq_25 aop.eq_26 tmpsOf.eq_1 tmpsOf.eq_2 tmpsOf.eq_3 tmpsOf.eq_4 tmpsOf.eq_5 AV.refs.eq_1 AV.refs.eq_2 AV.refs.eq_3 AV.refs.eq_4 AV.refs.eq_5 AV.refs.eq_6 AV.refs.eq_7 AV.refs.eq_8 AV.refs.eq_9 AV.refs.eq_10 AV.refs.eq_11 AV.refsL.eq_1 AV.refsL.eq_2 refsT.eq_1 refsT.eq_2 refsO.eq_1 refsO.eq_2 refsO.eq_3 refsO.eq_4 refsO.eq_5 refsO.eq_6 refsB.eq_1 refsB.eq_2 clos.eq_1 clos.eq_2 keepL.eq_1 keepL.eq_2 AV.hasM.eq_1 AV.hasM.eq_2 AV.hasM.eq_3 AV.hasM.eq_4 AV.hasM.eq_5 AV.hasM.eq_6 AV.hasM.eq_7 AV.hasM.eq_8 AV.hasM.eq_9 AV.hasM.eq_10 AV.hasM.eq_11 AV.hasML.eq_1 AV.hasML.eq_2 Ob.dropM.eq_1 Ob.dropM.eq_2 Ob.dropM.eq_3 Ob.dropM.eq_4 nsC.eq_1 nsC.eq_2 okGuard.eq_1 okGuard.eq_2 AS.purges.eq_1 AS.purges.eq_2 dropMB.eq_1 dropMB.eq_2 newB.eq_1 newB.eq_2 ptB.eq_1 ptB.eq_2 lookC.eq_1 lookC.eq_2 dropB.eq_1 dropB.eq_2 leS.eq_1 leS.eq_2 leT.eq_1 leT.eq_2 AS.mvs.eq_1 AS.mvs.eq_2 AS.mvA.eq_1 AS.mvA.eq_2 AS.mvB.eq_1 aSetO.eq_1 aSetO.eq_2 aSh.eq_1 aSh.eq_2 arK.eq_1 aIdxA.eq_1 aIdxA.eq_2 arT.eq_1 aSlHB.eq_1 aSlHB.eq_2 aSlHO.eq_1 aSlHZ.eq_1 aSlHZ.eq_2 isSlT.eq_1 isNilC.eq_1 aNilO.eq_1 aNilX.eq_1 aNilX.eq_2 aNilX.eq_3 aNilC.eq_1 aNilC.eq_2 aBinQ.eq_1 aBinQ.eq_2 aMin.eq_1 flT.eq_1 flT.eq_2 flT.eq_3 mpT.eq_1 aMkMap.eq_1 aMkMap.eq_2 strA.eq_1 keyMK.eq_1 keyMK.eq_2 keyMK.eq_3 mkB.eq_1 mkB.eq_2 mkB.eq_3 aMp2.eq_1 aMp1.eq_1 aMp0.eq_1 aMapU.eq_1 aLk2.eq_1 aLk2.eq_2 aLk1.eq_1 aLk0.eq_1 aLookup.eq_1 aLenMO.eq_1 aLenM.eq_1 glV.eq_1 glV.eq_2 evG.eq_1 evG.eq_2 evG.eq_3 evG.eq_4 lkHitO.eq_1 lkHitO.eq_2 lkHitO.eq_3 lkHitO.eq_4 lkHit.eq_1 lkHit.eq_2 lkF.eq_1 lkF.eq_2 lkFind.eq_1 lkFind.eq_2 lkV.eq_1 lkV.eq_2 lkV.eq_3 lkV.eq_4 lkV.eq_5 AS.lkO.eq_1 AS.lkO.eq_2 AS.lkOf.eq_1 rawT.eq_1 rawT.eq_2 rawT.eq_3 rawT.eq_4 rawT.eq_5 rawT.eq_6 rawOf.eq_1 rawOf.eq_2 rawOf.eq_3 rawOf.eq_4 rawOf.eq_5 rawOf.eq_6 rawOf.eq_7 rawOf.eq_8 rawOf.eq_9 rawOf.eq_10 rawOf.eq_11 aLkR.eq_1 aLkR.eq_2 aLk.eq_1 aLk.eq_2 KL.eq_1 lkDrop.eq_1 lkDrop.eq_2 lkParO.eq_1 lkParO.eq_2 lkParO.eq_3 lkParO.eq_4 lkPar.eq_1 lkPar.eq_2 lkI.eq_1 lkI.eq_2 lkIds.eq_1 lkIds.eq_2 adLd.eq_1 run_nil run_b run_l run_skip run_label run_seq run_cond brV_b brB_t brB_f run_block run_exit run_ret run_region runX_nil runX_c runX_c' runX_b runX_b' runX_l runX_l' exB_t exB_f run_o run_op run_opg gV_b gV_t gB_tt gB_ff gB_tf gB_ft rs_eq kv KI aLenN aBS1 aApp1 aStore1 szOk gv gd s0 idOf look_cons lookC frzU_t frzU_f orT orF drop_any drop_nil drop_t drop_h drop_pb drop_pa drop_agg drop_tup drop_fn dropB kill_eq set_eq rem_eq re_eq up_eq get_eq ob_eq Ob.drop apl fpl plainTy AS.frz splice cond_true cond_false List.map_cons List.map_nil List.drop_zero List.drop_succ_cons List.drop_nil List.take_zero List.take_succ_cons List.take_nil List.getElem?_cons_zero List.getElem?_cons_succ List.getElem?_nil List.length_cons List.length_nil Option.map_some Option.map_none Option.bind_some Option.bind_none List.cons_append List.nil_append List.append_nil Option.getD_some Option.getD_none List.all_cons List.all_nil Bool.and_true Bool.true_and Bool.or_false Bool.false_or Bool.or_true Bool.true_or List.flatten_cons List.flatten_nil List.replicate_succ List.replicate_zero and_true true_and avOf_t avOf_f agg_bool agg_int agg_str agg_slice agg_struct agg_func agg_ptr agg_map avc_bool avc_int avc_str avc_fn avc1_bool avc1_int avc1_str avc1_fn zt_bool zt_int zt_str cells_nil cells_t cells_h cells_pb cells_fn snap_t snap_nil snap_h snap_pb snap_fn rv1_one rv1_two outI_t outI_oh outI_on outI_any outI_nil outZ_th outZ_tt outZ_tn outZ_o outZ_any outZ_nil outIL_nil outZL_nil finN finR ne_eq not_false_eq_true not_true_eq_false List.nodup_nil List.not_mem_nil false_implies implies_true eq_self true_or or_true Option.some.injEq shl_add shl_sub shl_mul shl_quo shl_rem shl_and shl_or shl_xor shl_andNot shl_eql shl_neq shl_lss shl_leq shl_gtr shl_geq shl_shr shl_shl appDeep_none appDeep_sn appSrc_h appSrc_nil fits_ft fits_tn fits_tf isStr_slice obFlat_box Nat.le_refl nbeq_self List.length_map updZ_s updZ_n dropM_eq purge_eq newIds_cons newIds_nil purgeT_nil purgeT_cons memN_cons memN_nil bd_d bd_c bd_g bd_p bd_t bd_o preds_nil preds_cons hasIns insB List.any_cons List.any_nil adK_eq adr_nil adG_eq kdOp noLen creates Op.operands Call.operands nsOf adT adI adJ plainB rst List.append_eq nsD_f nsD_n nsD_t nOf_0 nOf_1 nOf_2 chO_0 chO_1 chO_2 keepK_0 keepK_1 keepK_2 eqRes AS.mv fits KM aCallM notNew kdCall arK_i64 arK_i32 arK_u8 arK_u64 arT_sl isNilC_t isNilC_f isNilC_g isNilC_i isNilC_b isNilC_s isNilC_a isNilC_n andBF andBT aCallK_2 ble_dec hid_t hid_nil hid_any hid_pb hid_fn absOk_t absOk_nil absOk_pb absOk_h absOkO_1 decide_true decide_false Array.toList_append chunk_0 chunk_1 chunk_2 chunk_3 back_t back_nil back_ht backL_nil backI_t backI_nil backI_ht backIL_nil AS.mvJ nbeq_dec runR_f runR_t loadB Option.isSome_some Option.isSome_none nodup1 adr_none adr_some adO_s adV_b adV_t adB_tt adB_ff adB_tf adB_ft adS_eq lenL.eq_1 lenO.eq_1 lenO.eq_2 lenV.eq_1 lenV.eq_2 lenV.eq_3 lenV.eq_4 optN optS absT_ft
attribute [local go_sem] ty3 ty4 ty5 ty9 ty21 ty22 ty23 ty25 ty27 ty28 ty29 ty31 ty33 ty43 ty45 ty46 ty48 ty54 ty57 ty59 ty60 ty62 ty73 ty75 ty91 ty96 ty98 ty101 ty104 ty120 ty125 ty129 ty146 ty166 ty207 ty220 ty237 lv27 lv91 lv104 lv120 zb4 leS leT fits AS.mvs encStr_eq aIdx_str EStr_dec decStrs decStrs0 EStr_enc EStr_n encInt_eq aIdx_int EInt_dec decInts decInts0 EInt_enc EInt_n AllV_Int len_Int lc_enc l0_enc asl_enc ag_enc aow_enc ABool_enc AInt_enc AStr_enc AU8_enc ABool_dec AInt_dec AStr_dec AU8_dec asl_dec ag_dec aow_dec bind_some pr2.eq_1 l0_nil lc_cons unT.eq_1 K0.eq_1 M0.eq_1 KI AllV_Str len_Str ctR_eq ctM_eq ro_kd ro_ro mu_kd mu_mu encAd_eq aIdx_Ad EAd_dec decAds decAds0 EAd_enc EAd_n len_Ad Ad_eta AllV_Ad encMl_eq aIdx_Ml EMl_dec decMls decMls0 EMl_enc EMl_n len_Ml Ml_eta mkMl.eq_1 owMl_eq AMl_enc AMl_dec encRc_eq aIdx_Rc ERc_dec decRcs decRcs0 ERc_enc ERc_n len_Rc Rc_eta AllV_Rc encIm_eq aIdx_Im EIm_dec decIms decIms0 EIm_enc EIm_n len_Im Im_eta mkIm.eq_1 owIm_eq AIm_enc AIm_dec encSp_eq aIdx_Sp ESp_dec decSps decSps0 ESp_enc ESp_n len_Sp Sp_eta mkSp.eq_1 owSp_eq ASp_enc ASp_dec encNt_eq aIdx_Nt ENt_dec decNts decNts0 ENt_enc ENt_n len_Nt Nt_eta mkNt.eq_1 owNt_eq ANt_enc ANt_dec
theorem dsW_f {z : Ds} : z.w + pkN z.r 5 = dsW z := rfl
theorem dsI_f {z : Ds} : pkN (z.r.nx 2) (z.s.items.length : Int) = dsI z := rfl
theorem dsK_f {z : Ds} : pkN (z.r.nx 3) ((z.s.items.getD (dsI z).toNat default).to.length : Int) = dsK z := rfl
def c59 : Mt := ctM (lc ARd l0) (fun p => 0 ≤ p.1.p ∧ p.1.p ≤ 999980000) (fun p => ([ARd.enc (spR p.1)], owSp (spD p.1)))
section
attribute [local go_sem] c43 c110 c112 c111 c113 c114 c32 nx_p nx_b ARd_enc ARd_dec decBys omap_some nx_nx nx_eq Rd_eta pp_add outP_ob outI_ob outZ_ob takeV_pb takeV_pb8 boxOf_b takeB_s outPb_s outIb_s outZb_s rv1_nil List.length_map List.length_append List.length_cons List.length_nil List.map_append List.map_nil Nat.zero_add List.nil_append AS.opn AS.cls AS.nilb AS.renb AS.up Bool.not_false Bool.not_true List.set_set List.set_cons_zero List.set_cons_succ List.set_nil List.mem_singleton forall_eq dsW_f dsI_f dsK_f roSB bOf_t bOf_f tmap dmap List.take_length List.drop_zero List.length_take List.length_drop List.map_cons
set_option maxHeartbeats 6400000 in
theorem good59 {G : Gt} (hG : OkG G) (hh : G.e 43 = muEnt c43 ∧ G.e 110 = roEnt 0 c110 ∧ G.e 112 = muEnt c112 ∧ G.e 111 = roEnt 1 c111 ∧ G.e 113 = roEnt 1 c113 ∧ G.e 114 = roEnt 1 c114 ∧ G.e 32 = roEnt 0 c32) : Gd G 59 (muEnt c59) := by
  refine gM (dp := fun n => !(Nat.beq n 100003)) (fn := Tryz.f59) (n := 1) (fun _ => rfl) (by kernel_rfl) rfl (by kernel_rfl) hG (Nat.le_of_ble_eq_true rfl) (by kernel_rfl) ?_
  rintro ⟨r, ⟨⟩⟩ hpre
  obtain ⟨h1, h2⟩ := hpre
  try dsimp only at h1 h2 ⊢
  have hb := pkN_b (r := r) (n := 9) h1 (by omega)
  obtain ⟨n, hn⟩ : ∃ n : Nat, n = (pkN r 9).toNat := ⟨_, rfl⟩
  have hn2 : pkN r 9 = n := by omega
  have e1 : spR r = (dsN (ds0 r) n).r := by unfold spR; rw [← hn]
  have e2 : spD r = (dsN (ds0 r) n).s := by unfold spD; rw [← hn]
  rw [e1, e2]
  simp -implicitDefEqProofs only [Tryz.f59, hn2, go_sem, hh, Int.reduceAdd]
  repeat' (first | with_reducible apply And.intro | with_reducible intro _ | ((first | apply brB_split | apply aPickB_split | apply gB_split | apply adB_split) <;> intro hb <;> simp -implicitDefEqProofs only [hb, go_sem, hh, Int.reduceAdd] <;> try simp only [qz] at hb))
  all_goals (try simp only [maxLen, Int.toNat_natCast] at *)
  all_goals first | rfl | omega | decide | assumption | skip
  refine run_le (Le.nilb 1003 1 1907 true 5 rfl rfl rfl) (run_le (Le.frzL [1907]) (run_go ?_))
  simp -implicitDefEqProofs only [hn2, go_sem, hh, Int.reduceAdd]
  repeat' (first | with_reducible apply And.intro | with_reducible intro _ | ((first | apply brB_split | apply aPickB_split | apply gB_split | apply adB_split) <;> intro hb <;> simp -implicitDefEqProofs only [hb, go_sem, hh, Int.reduceAdd] <;> try simp only [qz] at hb))
  all_goals (try simp only [maxLen, Int.toNat_natCast] at *)
  all_goals first | rfl | omega | decide | assumption | skip
  refine run_loop [] (ι := {i : Nat // i ≤ n}) (fun ⟨i, _⟩ => ⟨[(0, .pb 1900 0), (2, .pb 1002 0), (3, .pb 1003 0), (4, .t (.v (.int .i64 (dsN (ds0 r) i).w))), (5, .t (.v (.int .i64 (n - i))))], [(1900, some (.box [.t (.sl 1 ((dsN (ds0 r) i).r.b.map encBy)), .t (.v (.int .i64 (dsN (ds0 r) i).r.p))])), (1002, some (.box [.t (.v (.int .i64 0)), .nil])), (1003, some (.box ((encSp (dsN (ds0 r) i).s).map .t)))]⟩) (fun p => n - p.1) ⟨0, by omega⟩ rfl ?_ ?_
  · simp -implicitDefEqProofs only [go_sem, hh, Int.reduceAdd]
    simp [dsN, ds0, nx_b, nx_p]
    try rfl
  · rintro ⟨i, hi⟩
    dsimp only
    by_cases hlt : (n : Int) - i > 0
    · obtain ⟨z, hz⟩ : ∃ z, z = dsN (ds0 r) i := ⟨_, rfl⟩
      have hok : DsOk r i z := by rw [hz]; exact dsN_ok h1 (by omega) i (by omega)
      have a1 := hok.p0; have a2 := hok.p1; have a3 := hok.w0; have a4 := hok.w1
      have hw := dsW_b hok h1 (by omega) (by omega)
      have hR := dsR_p hok
      have zs := SpOk_sz hok.sp
      have zo := hok.sp
      rw [← hz]
      by_cases L : (z.s.items.length : Int) = 0
      · have ha : dsAdd z := .inl L
        have eR : dsR z = z.r.nx 1 := if_pos L
        by_cases hr : Room z.s
        · have b1 := bOf_y hr
          have zm := MlOk_sz (mlD_ok (r := z.r.nx 1) (by rw [nx_p]; omega) (by rw [nx_p]; omega))
          have hs : dsN (ds0 r) (i + 1) = _ := (show dsN (ds0 r) (i + 1) = dsStep z by rw [hz]; rfl).trans (eR ▸ dsStep_a ha hr)
          simp -implicitDefEqProofs only [hlt, L, b1, eq_self, decide_true, decide_false, Int.toNat_natCast, go_sem, hh, Int.reduceAdd]
          repeat' (first | with_reducible apply And.intro | with_reducible intro _ | ((first | apply brB_split | apply aPickB_split | apply gB_split | apply adB_split) <;> intro hb <;> simp -implicitDefEqProofs only [hb, go_sem, hh, Int.reduceAdd] <;> try simp only [qz] at hb))
          all_goals (try simp only [maxLen, Int.toNat_natCast] at *)
          all_goals first | rfl | omega | decide | assumption | skip
          refine ⟨⟨i + 1, by omega⟩, by dsimp only; omega, ?_⟩
          simp -implicitDefEqProofs only [hs, go_sem, hh, Int.reduceAdd]
          simp
          try omega
        · have b1 := bOf_n hr
          have hs : dsN (ds0 r) (i + 1) = _ := (show dsN (ds0 r) (i + 1) = dsStep z by rw [hz]; rfl).trans (eR ▸ dsStep_b ha hr)
          simp -implicitDefEqProofs only [hlt, L, b1, eq_self, decide_true, decide_false, Int.toNat_natCast, go_sem, hh, Int.reduceAdd]
          repeat' (first | with_reducible apply And.intro | with_reducible intro _ | ((first | apply brB_split | apply aPickB_split | apply gB_split | apply adB_split) <;> intro hb <;> simp -implicitDefEqProofs only [hb, go_sem, hh, Int.reduceAdd] <;> try simp only [qz] at hb))
          all_goals (try simp only [maxLen, Int.toNat_natCast] at *)
          all_goals first | rfl | omega | decide | assumption | skip
          refine ⟨⟨i + 1, by omega⟩, by dsimp only; omega, ?_⟩
          simp -implicitDefEqProofs only [hs, go_sem, hh, Int.reduceAdd]
          simp
          try omega
      · by_cases Q : pkN (z.r.nx 1) 2 = 0
        · have ha : dsAdd z := .inr Q
          have eR : dsR z = z.r.nx 2 := if_neg L
          by_cases hr : Room z.s
          · have b1 := bOf_y hr
            have zm := MlOk_sz (mlD_ok (r := z.r.nx 2) (by rw [nx_p]; omega) (by rw [nx_p]; omega))
            have hs : dsN (ds0 r) (i + 1) = _ := (show dsN (ds0 r) (i + 1) = dsStep z by rw [hz]; rfl).trans (eR ▸ dsStep_a ha hr)
            simp -implicitDefEqProofs only [hlt, L, Q, b1, eq_self, decide_true, decide_false, Int.toNat_natCast, go_sem, hh, Int.reduceAdd]
            repeat' (first | with_reducible apply And.intro | with_reducible intro _ | ((first | apply brB_split | apply aPickB_split | apply gB_split | apply adB_split) <;> intro hb <;> simp -implicitDefEqProofs only [hb, go_sem, hh, Int.reduceAdd] <;> try simp only [qz] at hb))
            all_goals (try simp only [maxLen, Int.toNat_natCast] at *)
            all_goals first | rfl | omega | decide | assumption | skip
            refine ⟨⟨i + 1, by omega⟩, by dsimp only; omega, ?_⟩
            simp -implicitDefEqProofs only [hs, go_sem, hh, Int.reduceAdd]
            simp
            try omega
          · have b1 := bOf_n hr
            have hs : dsN (ds0 r) (i + 1) = _ := (show dsN (ds0 r) (i + 1) = dsStep z by rw [hz]; rfl).trans (eR ▸ dsStep_b ha hr)
            simp -implicitDefEqProofs only [hlt, L, Q, b1, eq_self, decide_true, decide_false, Int.toNat_natCast, go_sem, hh, Int.reduceAdd]
            repeat' (first | with_reducible apply And.intro | with_reducible intro _ | ((first | apply brB_split | apply aPickB_split | apply gB_split | apply adB_split) <;> intro hb <;> simp -implicitDefEqProofs only [hb, go_sem, hh, Int.reduceAdd] <;> try simp only [qz] at hb))
            all_goals (try simp only [maxLen, Int.toNat_natCast] at *)
            all_goals first | rfl | omega | decide | assumption | skip
            refine ⟨⟨i + 1, by omega⟩, by dsimp only; omega, ?_⟩
            simp -implicitDefEqProofs only [hs, go_sem, hh, Int.reduceAdd]
            simp
            try omega
        · have ha : ¬ dsAdd z := fun f => f.elim L Q
          obtain ⟨⟨i0, i1⟩, k0, k1⟩ := ds_at hok h1 (by omega) (by omega) ha
          by_cases D : pkN (z.r.nx 4) 2 = 0
          · skip
            have hs : dsN (ds0 r) (i + 1) = _ := (show dsN (ds0 r) (i + 1) = dsStep z by rw [hz]; rfl).trans (dsStep_c ha D)
            simp -implicitDefEqProofs only [hlt, L, Q, D, eq_self, decide_true, decide_false, Int.toNat_natCast, go_sem, hh, Int.reduceAdd]
            repeat' (first | with_reducible apply And.intro | with_reducible intro _ | ((first | apply brB_split | apply aPickB_split | apply gB_split | apply adB_split) <;> intro hb <;> simp -implicitDefEqProofs only [hb, go_sem, hh, Int.reduceAdd] <;> try simp only [qz] at hb))
            all_goals (try simp only [maxLen, Int.toNat_natCast] at *)
            all_goals first | rfl | omega | decide | assumption | skip
            refine ⟨⟨i + 1, by omega⟩, by dsimp only; omega, ?_⟩
            simp -implicitDefEqProofs only [hs, go_sem, hh, Int.reduceAdd]
            simp
            try omega
          · skip
            have hs : dsN (ds0 r) (i + 1) = _ := (show dsN (ds0 r) (i + 1) = dsStep z by rw [hz]; rfl).trans (dsStep_d ha D)
            simp -implicitDefEqProofs only [hlt, L, Q, D, eq_self, decide_true, decide_false, Int.toNat_natCast, go_sem, hh, Int.reduceAdd]
            repeat' (first | with_reducible apply And.intro | with_reducible intro _ | ((first | apply brB_split | apply aPickB_split | apply gB_split | apply adB_split) <;> intro hb <;> simp -implicitDefEqProofs only [hb, go_sem, hh, Int.reduceAdd] <;> try simp only [qz] at hb))
            all_goals (try simp only [maxLen, Int.toNat_natCast] at *)
            all_goals first | rfl | omega | decide | assumption | skip
            refine ⟨⟨i + 1, by omega⟩, by dsimp only; omega, ?_⟩
            simp -implicitDefEqProofs only [hs, go_sem, hh, Int.reduceAdd]
            simp
            try omega
    · have hz : i = n := by omega
      subst hz
      have hok := dsN_ok h1 (show r.p ≤ 999990000 by omega) i (by omega)
      have zs := SpOk_sz hok.sp
      simp -implicitDefEqProofs only [hlt, decide_false, go_sem, hh, Int.reduceAdd]
      repeat' (first | with_reducible apply And.intro | with_reducible intro _ | ((first | apply brB_split | apply aPickB_split | apply gB_split | apply adB_split) <;> intro hb <;> simp -implicitDefEqProofs only [hb, go_sem, hh, Int.reduceAdd] <;> try simp only [qz] at hb))
      all_goals (try simp only [maxLen, Int.toNat_natCast] at *)
      all_goals first | rfl | omega | decide | assumption | trace_state
end
def setId (s : Sp) (k : Nat) (n : Int) : Sp := ⟨s.last, s.items.set k ⟨n, (s.items.getD k default).frm, (s.items.getD k default).to, (s.items.getD k default).body⟩⟩
def setTo (s : Sp) (k : Nat) (l : List Rc) : Sp := ⟨s.last, s.items.set k ⟨(s.items.getD k default).id, (s.items.getD k default).frm, l, (s.items.getD k default).body⟩⟩
def tries0 (l : List Rc) (n : Int) : List Rc := l.set 0 ⟨(l.getD 0 default).addr, n, (l.getD 0 default).next⟩
noncomputable def asK (r : Rd) : Int := pkN (spR r) (spD r).items.length
noncomputable def asC (r : Rd) : Int := pkN ((spR r).nx 1) 14
noncomputable def asp (r : Rd) : Sp × Rd :=
  if ((spD r).items.length : Int) > 0 then
    (if asC r = 0 then (setId (spD r) (asK r).toNat (ofI ((spR r).nx 2) [0, 1, 99]), (spR r).nx 3)
     else if asC r = 1 then (setTo (spD r) (asK r).toNat [], (spR r).nx 2)
     else if asC r = 2 then (setTo (spD r) (asK r).toNat (tries0 ((spD r).items.getD (asK r).toNat default).to (ofI ((spR r).nx 2) [-1, 4])), (spR r).nx 3)
     else if asC r = 3 then (⟨ofI ((spR r).nx 2) [-1, 0, 1000, 999], (spD r).items⟩, (spR r).nx 3)
     else (spD r, (spR r).nx 2))
  else (spD r, spR r)
theorem asp_n {r : Rd} (h : ¬ ((spD r).items.length : Int) > 0) : asp r = (spD r, spR r) := if_neg h
theorem asp_0 {r : Rd} (h : ((spD r).items.length : Int) > 0) (c : asC r = 0) : asp r = (setId (spD r) (asK r).toNat (ofI ((spR r).nx 2) [0, 1, 99]), (spR r).nx 3) := by unfold asp; rw [if_pos h, if_pos c]
theorem asp_1 {r : Rd} (h : ((spD r).items.length : Int) > 0) (c : asC r = 1) : asp r = (setTo (spD r) (asK r).toNat [], (spR r).nx 2) := by unfold asp; rw [if_pos h, if_neg (by omega), if_pos c]
theorem asp_2 {r : Rd} (h : ((spD r).items.length : Int) > 0) (c : asC r = 2) : asp r = (setTo (spD r) (asK r).toNat (tries0 ((spD r).items.getD (asK r).toNat default).to (ofI ((spR r).nx 2) [-1, 4])), (spR r).nx 3) := by unfold asp; rw [if_pos h, if_neg (by omega), if_neg (by omega), if_pos c]
theorem asp_3 {r : Rd} (h : ((spD r).items.length : Int) > 0) (c : asC r = 3) : asp r = (⟨ofI ((spR r).nx 2) [-1, 0, 1000, 999], (spD r).items⟩, (spR r).nx 3) := by unfold asp; rw [if_pos h, if_neg (by omega), if_neg (by omega), if_neg (by omega), if_pos c]
theorem asp_4 {r : Rd} (h : ((spD r).items.length : Int) > 0) (c : ¬ asC r = 0 ∧ ¬ asC r = 1 ∧ ¬ asC r = 2 ∧ ¬ asC r = 3) : asp r = (spD r, (spR r).nx 2) := by unfold asp; rw [if_pos h, if_neg c.1, if_neg c.2.1, if_neg c.2.2.1, if_neg c.2.2.2]
theorem setId_e {s : Sp} {k : Nat} {n : Int} : (s.items.map encIm).set k [.v (.int .i64 n), .v (.string (s.items.getD k default).frm.user), .v (.string (s.items.getD k default).frm.domain), .sl 4 ((s.items.getD k default).to.map encRc), .sl 1 ((s.items.getD k default).body.map encStr)] = (setId s k n).items.map encIm := by
  show _ = (s.items.set k _).map encIm
  rw [List.map_set]; rfl
theorem setTo_e {s : Sp} {k : Nat} {l : List Rc} : (s.items.map encIm).set k [.v (.int .i64 (s.items.getD k default).id), .v (.string (s.items.getD k default).frm.user), .v (.string (s.items.getD k default).frm.domain), .sl 4 (l.map encRc), .sl 1 ((s.items.getD k default).body.map encStr)] = (setTo s k l).items.map encIm := by
  show _ = (s.items.set k _).map encIm
  rw [List.map_set]; rfl
theorem tries0_e {l : List Rc} {n : Int} : (l.map encRc).set 0 [.v (.string (l.getD 0 default).addr.user), .v (.string (l.getD 0 default).addr.domain), .v (.int .i64 n), .v (.int .i64 (l.getD 0 default).next)] = (tries0 l n).map encRc := by
  unfold tries0
  rw [List.map_set]; rfl
theorem t0n : (0 : Int).toNat = 0 := rfl
theorem asK_f {r : Rd} : pkN (spR r) ((spD r).items.length : Int) = asK r := rfl
theorem asC_f {r : Rd} : pkN ((spR r).nx 1) 14 = asC r := rfl
theorem OkSp_set {s : Sp} (h : OkSp s) {k : Nat} {x : Im} (hx : OkIm x) : OkSp ⟨s.last, s.items.set k x⟩ := ⟨by show ((s.items.set k x).length : Int) ≤ 1048576; rw [List.length_set]; exact h.1, fun y hy => by
  rcases List.mem_or_eq_of_mem_set hy with hy | rfl
  · exact h.2 y hy
  · exact hx⟩
theorem asp_ok {r : Rd} (h0 : 0 ≤ r.p) (h1 : r.p ≤ 999980000) : OkSp (asp r).1 ∧ (asp r).2.b = r.b ∧ r.p ≤ (asp r).2.p ∧ (asp r).2.p ≤ r.p + 303 := by
  obtain ⟨a1, a2, a3, a4⟩ := spD_ok h0 (show r.p ≤ 999990000 by omega)
  have zs := SpOk_sz a1
  by_cases h : ((spD r).items.length : Int) > 0
  · have hb := pkN_b (r := spR r) (n := (spD r).items.length) (by omega) (by omega)
    have hx : OkIm ((spD r).items.getD (asK r).toNat default) := zs.2 _ (getD_mem (by unfold asK; omega))
    by_cases c0 : asC r = 0
    · rw [asp_0 h c0]; exact ⟨OkSp_set zs ⟨hx.1, hx.2.1, hx.2.2⟩, a2, by rw [nx_p]; omega, by rw [nx_p]; omega⟩
    · by_cases c1 : asC r = 1
      · rw [asp_1 h c1]; exact ⟨OkSp_set zs ⟨hx.1, ⟨by show ((0 : Nat) : Int) ≤ 1048576; decide, fun _ q => by cases q⟩, hx.2.2⟩, a2, by rw [nx_p]; omega, by rw [nx_p]; omega⟩
      · by_cases c2 : asC r = 2
        · rw [asp_2 h c2]
          refine ⟨OkSp_set zs ⟨hx.1, ⟨?_, fun y hy => ?_⟩, hx.2.2⟩, a2, by rw [nx_p]; omega, by rw [nx_p]; omega⟩
          · show ((tries0 _ _).length : Int) ≤ _
            unfold tries0; rw [List.length_set]; exact hx.2.1.1
          · have hy : y ∈ tries0 _ _ := hy
            unfold tries0 at hy
            have hl : 0 < ((spD r).items.getD (asK r).toNat default).to.length := (a1.1 _ (getD_mem (xs := (spD r).items) (j := (asK r).toNat) (by unfold asK; omega))).1.2.2.2.2.1.1
            rcases List.mem_or_eq_of_mem_set hy with hy | rfl
            · exact hx.2.1.2 y hy
            · have := hx.2.1.2 _ (getD_mem hl)
              exact this
        · by_cases c3 : asC r = 3
          · rw [asp_3 h c3]; exact ⟨zs, a2, by rw [nx_p]; omega, by rw [nx_p]; omega⟩
          · rw [asp_4 h ⟨c0, c1, c2, c3⟩]; exact ⟨zs, a2, by rw [nx_p]; omega, by rw [nx_p]; omega⟩
  · rw [asp_n h]; exact ⟨zs, a2, a3, by show (spR r).p ≤ _; omega⟩
def ofR1 (r : Rd) (s : Sp) : Rd := if (s.items.length : Int) = 0 then r else r.nx 1
def ofX (r : Rd) (s : Sp) : Im := s.items.getD (pkN (r.nx 1) s.items.length).toNat default
def ofD (r : Rd) (s : Sp) : (Int × Ad) × Rd :=
  if (s.items.length : Int) = 0 ∨ pkN r 6 = 0 then ((pkN (ofR1 r s) 4, adD ((ofR1 r s).nx 1)), (ofR1 r s).nx 3)
  else if ((ofX r s).to.length : Int) = 0 then (((ofX r s).id, adD (r.nx 2)), r.nx 4)
  else (((ofX r s).id, ((ofX r s).to.getD (pkN (r.nx 2) (ofX r s).to.length).toNat default).addr), r.nx 3)
theorem ofD_0 {r : Rd} {s : Sp} (h : (s.items.length : Int) = 0) : ofD r s = ((pkN r 4, adD (r.nx 1)), r.nx 3) := by
  have e : ofR1 r s = r := if_pos h
  unfold ofD; rw [if_pos (.inl h), e]
theorem ofD_1 {r : Rd} {s : Sp} (h : ¬ (s.items.length : Int) = 0) (h2 : pkN r 6 = 0) : ofD r s = ((pkN (r.nx 1) 4, adD (r.nx 2)), r.nx 4) := by
  have e : ofR1 r s = r.nx 1 := if_neg h
  unfold ofD; rw [if_pos (.inr h2), e, nx_nx, nx_nx]; rfl
theorem ofD_2 {r : Rd} {s : Sp} (h : ¬ (s.items.length : Int) = 0) (h2 : ¬ pkN r 6 = 0) (h3 : ((ofX r s).to.length : Int) = 0) : ofD r s = (((ofX r s).id, adD (r.nx 2)), r.nx 4) := by
  unfold ofD; rw [if_neg (fun q => q.elim h h2), if_pos h3]
theorem ofD_3 {r : Rd} {s : Sp} (h : ¬ (s.items.length : Int) = 0) (h2 : ¬ pkN r 6 = 0) (h3 : ¬ ((ofX r s).to.length : Int) = 0) : ofD r s = (((ofX r s).id, ((ofX r s).to.getD (pkN (r.nx 2) (ofX r s).to.length).toNat default).addr), r.nx 3) := by
  unfold ofD; rw [if_neg (fun q => q.elim h h2), if_neg h3]
theorem ofX_f {r : Rd} {s : Sp} : s.items.getD (pkN (r.nx 1) (s.items.length : Int)).toNat default = ofX r s := rfl
theorem ofD_b {r : Rd} {s : Sp} (h0 : 0 ≤ r.p) (h1 : r.p ≤ 999990000) (hs : OkSp s) : (ofD r s).2.b = r.b ∧ r.p ≤ (ofD r s).2.p ∧ (ofD r s).2.p ≤ r.p + 4 ∧ OkAd (ofD r s).1.2 := by
  by_cases h : (s.items.length : Int) = 0
  · rw [ofD_0 h]; exact ⟨rfl, by rw [nx_p]; omega, by rw [nx_p]; omega, AdOk_sz (.inl (adD_ok (by rw [nx_p]; omega) (by rw [nx_p]; omega)))⟩
  · have hb := pkN_b (r := r.nx 1) (n := s.items.length) (by rw [nx_p]; omega) (by rw [nx_p]; omega)
    have hx : OkIm (ofX r s) := hs.2 _ (getD_mem (by omega))
    by_cases h2 : pkN r 6 = 0
    · rw [ofD_1 h h2]; exact ⟨rfl, by rw [nx_p]; omega, by rw [nx_p]; omega, AdOk_sz (.inl (adD_ok (by rw [nx_p]; omega) (by rw [nx_p]; omega)))⟩
    · by_cases h3 : ((ofX r s).to.length : Int) = 0
      · rw [ofD_2 h h2 h3]; exact ⟨rfl, by rw [nx_p]; omega, by rw [nx_p]; omega, AdOk_sz (.inl (adD_ok (by rw [nx_p]; omega) (by rw [nx_p]; omega)))⟩
      · have hc := pkN_b (r := r.nx 2) (n := (ofX r s).to.length) (by rw [nx_p]; omega) (by rw [nx_p]; omega)
        rw [ofD_3 h h2 h3]; exact ⟨rfl, by rw [nx_p]; omega, by rw [nx_p]; omega, hx.2.1.2 _ (getD_mem (by omega))⟩
def c24 : Mt := ctM (lc ARd l0) (fun p => 0 ≤ p.1.p ∧ p.1.p ≤ 999980000) (fun p => ([ARd.enc (asp p.1).2], owSp (asp p.1).1))
section
attribute [local go_sem] c59 c43 c60 nx_p nx_b ARd_enc ARd_dec decBys omap_some nx_nx nx_eq Rd_eta pp_add outP_ob outI_ob outZ_ob takeV_pb takeV_pb8 boxOf_b takeB_s outPb_s outIb_s outZb_s rv1_nil List.length_map List.length_append List.length_cons List.length_nil List.map_append List.map_nil Nat.zero_add List.nil_append AS.opn AS.cls AS.nilb AS.renb AS.up Bool.not_false Bool.not_true List.set_set List.set_cons_zero List.set_cons_succ List.set_nil List.mem_singleton forall_eq asK_f asC_f decI_c aCell_map aSet_map ck_4 ck_5 ck_6 ck_7 ck_11 ck_12
set_option maxHeartbeats 6400000 in
theorem good24 {G : Gt} (hG : OkG G) (hh : G.e 59 = muEnt c59 ∧ G.e 43 = muEnt c43 ∧ G.e 60 = muEnt c60) : Gd G 24 (muEnt c24) := by
  refine gM (dp := fun n => !(Nat.beq n 100010 || Nat.beq n 100013)) (fn := Tryz.f24) (n := 1) (fun _ => rfl) (by kernel_rfl) rfl (by kernel_rfl) hG (Nat.le_of_ble_eq_true rfl) (by kernel_rfl) ?_
  rintro ⟨r, ⟨⟩⟩ hpre
  obtain ⟨h1, h2⟩ := hpre
  try dsimp only at h1 h2 ⊢
  obtain ⟨a1, a2, a3, a4⟩ := spD_ok h1 (show r.p ≤ 999990000 by omega)
  have zs := SpOk_sz a1
  by_cases h : ((spD r).items.length : Int) > 0
  · have hb := pkN_b (r := spR r) (n := (spD r).items.length) (by omega) (by omega)
    have hk : 0 ≤ asK r ∧ asK r < (spD r).items.length := by unfold asK; omega
    by_cases c0 : asC r = 0
    · skip
      rw [asp_0 h c0]
      simp -implicitDefEqProofs only [Tryz.f24, h, c0, eq_self, decide_true, decide_false, Int.reduceEq, go_sem, hh, Int.reduceAdd]
      repeat' (first | with_reducible apply And.intro | with_reducible intro _ | ((first | apply brB_split | apply aPickB_split | apply gB_split | apply adB_split) <;> intro hb <;> simp -implicitDefEqProofs only [hb, go_sem, hh, Int.reduceAdd] <;> try simp only [qz] at hb))
      all_goals (try simp only [maxLen, Int.toNat_natCast] at *)
      all_goals first | rfl | omega | decide | assumption | exact setId_e | exact setTo_e | exact setTo_e (l := []) | skip
      all_goals first | (refine run_go ?_) | skip
      simp -implicitDefEqProofs only [go_sem, hh, Int.reduceAdd]
      repeat' (first | with_reducible apply And.intro | with_reducible intro _ | ((first | apply brB_split | apply aPickB_split | apply gB_split | apply adB_split) <;> intro hb <;> simp -implicitDefEqProofs only [hb, go_sem, hh, Int.reduceAdd] <;> try simp only [qz] at hb))
      all_goals (try simp only [maxLen, Int.toNat_natCast] at *)
      all_goals first | rfl | omega | decide | assumption | exact setId_e | exact setTo_e | exact setTo_e (l := []) | skip
      trace_state
    · by_cases c1 : asC r = 1
      · skip
        rw [asp_1 h c1]
        simp -implicitDefEqProofs only [Tryz.f24, h, c1, eq_self, decide_true, decide_false, Int.reduceEq, go_sem, hh, Int.reduceAdd]
        repeat' (first | with_reducible apply And.intro | with_reducible intro _ | ((first | apply brB_split | apply aPickB_split | apply gB_split | apply adB_split) <;> intro hb <;> simp -implicitDefEqProofs only [hb, go_sem, hh, Int.reduceAdd] <;> try simp only [qz] at hb))
        all_goals (try simp only [maxLen, Int.toNat_natCast] at *)
        all_goals first | rfl | omega | decide | assumption | exact setId_e | exact setTo_e | exact setTo_e (l := []) | skip
        refine run_le (Le.setn 1006 (asK r).toNat (e' := [.v (.int .i64 ((spD r).items.getD (asK r).toNat default).id), .v (.string ((spD r).items.getD (asK r).toNat default).frm.user), .v (.string ((spD r).items.getD (asK r).toNat default).frm.domain), .sl 4 [], .sl 1 (((spD r).items.getD (asK r).toNat default).body.map encStr)]) rfl (.cons (.same _) (.cons (.same _) (.cons (.same _) (.cons (.nil _) (.cons (.same _) .nil)))))) (run_go ?_)
        simp -implicitDefEqProofs only [go_sem, hh, Int.reduceAdd]
        repeat' (first | with_reducible apply And.intro | with_reducible intro _ | ((first | apply brB_split | apply aPickB_split | apply gB_split | apply adB_split) <;> intro hb <;> simp -implicitDefEqProofs only [hb, go_sem, hh, Int.reduceAdd] <;> try simp only [qz] at hb))
        all_goals (try simp only [maxLen, Int.toNat_natCast] at *)
        all_goals first | rfl | omega | decide | assumption | exact setId_e | exact setTo_e | exact setTo_e (l := []) | skip
        trace_state
      · by_cases c2 : asC r = 2
        · skip
          rw [asp_2 h c2]
          simp -implicitDefEqProofs only [Tryz.f24, h, c2, eq_self, decide_true, decide_false, Int.reduceEq, go_sem, hh, Int.reduceAdd]
          repeat' (first | with_reducible apply And.intro | with_reducible intro _ | ((first | apply brB_split | apply aPickB_split | apply gB_split | apply adB_split) <;> intro hb <;> simp -implicitDefEqProofs only [hb, go_sem, hh, Int.reduceAdd] <;> try simp only [qz] at hb))
          all_goals (try simp only [maxLen, Int.toNat_natCast] at *)
          all_goals first | rfl | omega | decide | assumption | exact setId_e | exact setTo_e | exact setTo_e (l := []) | skip
          have hkl : (asK r).toNat < ((spD r).items.map encIm).length := by rw [List.length_map]; omega
          have hto : 0 < ((spD r).items.getD (asK r).toNat default).to.length := (a1.1 _ (getD_mem (xs := (spD r).items) (j := (asK r).toNat) (by omega))).1.2.2.2.2.1.1
          refine run_open 1006 1910 2910 (asK r).toNat 3 rfl (map_get encIm (by omega)) rfl rfl fun x => run_go ?_
          simp -implicitDefEqProofs only [aCell_set hkl, aSet_set hkl, List.length_set, t0n, go_sem, hh, Int.reduceAdd]
          repeat' (first | with_reducible apply And.intro | with_reducible intro _ | ((first | apply brB_split | apply aPickB_split | apply gB_split | apply adB_split) <;> intro hb <;> simp -implicitDefEqProofs only [hb, go_sem, hh, Int.reduceAdd] <;> try simp only [qz] at hb))
          all_goals (try simp only [maxLen, Int.toNat_natCast] at *)
          all_goals first | rfl | omega | decide | assumption | exact setId_e | exact setTo_e | exact setTo_e (l := []) | (show pairsB _ = true; rfl) | skip
          refine run_close 1006 1910 2910 (asK r).toNat 3 rfl (set_get hkl _) rfl rfl rfl rfl (run_go ?_)
          simp -implicitDefEqProofs only [tries0_e, go_sem, hh, Int.reduceAdd]
          repeat' (first | with_reducible apply And.intro | with_reducible intro _ | ((first | apply brB_split | apply aPickB_split | apply gB_split | apply adB_split) <;> intro hb <;> simp -implicitDefEqProofs only [hb, go_sem, hh, Int.reduceAdd] <;> try simp only [qz] at hb))
          all_goals (try simp only [maxLen, Int.toNat_natCast] at *)
          all_goals first | rfl | omega | decide | assumption | exact setId_e | exact setTo_e | exact setTo_e (l := []) | skip
          trace_state
        · by_cases c3 : asC r = 3
          · skip
            rw [asp_3 h c3]
            simp -implicitDefEqProofs only [Tryz.f24, h, c3, eq_self, decide_true, decide_false, Int.reduceEq, go_sem, hh, Int.reduceAdd]
            repeat' (first | with_reducible apply And.intro | with_reducible intro _ | ((first | apply brB_split | apply aPickB_split | apply gB_split | apply adB_split) <;> intro hb <;> simp -implicitDefEqProofs only [hb, go_sem, hh, Int.reduceAdd] <;> try simp only [qz] at hb))
            all_goals (try simp only [maxLen, Int.toNat_natCast] at *)
            all_goals first | rfl | omega | decide | assumption | exact setId_e | exact setTo_e | exact setTo_e (l := []) | skip
            all_goals first | (refine run_go ?_) | skip
            simp -implicitDefEqProofs only [go_sem, hh, Int.reduceAdd]
            repeat' (first | with_reducible apply And.intro | with_reducible intro _ | ((first | apply brB_split | apply aPickB_split | apply gB_split | apply adB_split) <;> intro hb <;> simp -implicitDefEqProofs only [hb, go_sem, hh, Int.reduceAdd] <;> try simp only [qz] at hb))
            all_goals (try simp only [maxLen, Int.toNat_natCast] at *)
            all_goals first | rfl | omega | decide | assumption | exact setId_e | exact setTo_e | exact setTo_e (l := []) | skip
            trace_state
          · skip
            rw [asp_4 h ⟨c0, c1, c2, c3⟩]
            simp -implicitDefEqProofs only [Tryz.f24, h, c0, c1, c2, c3, eq_self, decide_true, decide_false, Int.reduceEq, go_sem, hh, Int.reduceAdd]
            repeat' (first | with_reducible apply And.intro | with_reducible intro _ | ((first | apply brB_split | apply aPickB_split | apply gB_split | apply adB_split) <;> intro hb <;> simp -implicitDefEqProofs only [hb, go_sem, hh, Int.reduceAdd] <;> try simp only [qz] at hb))
            all_goals (try simp only [maxLen, Int.toNat_natCast] at *)
            all_goals first | rfl | omega | decide | assumption | exact setId_e | exact setTo_e | exact setTo_e (l := []) | skip
            all_goals first | (refine run_go ?_) | skip
            simp -implicitDefEqProofs only [go_sem, hh, Int.reduceAdd]
            repeat' (first | with_reducible apply And.intro | with_reducible intro _ | ((first | apply brB_split | apply aPickB_split | apply gB_split | apply adB_split) <;> intro hb <;> simp -implicitDefEqProofs only [hb, go_sem, hh, Int.reduceAdd] <;> try simp only [qz] at hb))
            all_goals (try simp only [maxLen, Int.toNat_natCast] at *)
            all_goals first | rfl | omega | decide | assumption | exact setId_e | exact setTo_e | exact setTo_e (l := []) | skip
            trace_state
  · skip
    rw [asp_n h]
    simp -implicitDefEqProofs only [Tryz.f24, h, eq_self, decide_true, decide_false, Int.reduceEq, go_sem, hh, Int.reduceAdd]
    repeat' (first | with_reducible apply And.intro | with_reducible intro _ | ((first | apply brB_split | apply aPickB_split | apply gB_split | apply adB_split) <;> intro hb <;> simp -implicitDefEqProofs only [hb, go_sem, hh, Int.reduceAdd] <;> try simp only [qz] at hb))
    all_goals (try simp only [maxLen, Int.toNat_natCast] at *)
    all_goals first | rfl | omega | decide | assumption | exact setId_e | exact setTo_e | exact setTo_e (l := []) | skip
    all_goals first | (refine run_go ?_) | skip
    simp -implicitDefEqProofs only [go_sem, hh, Int.reduceAdd]
    repeat' (first | with_reducible apply And.intro | with_reducible intro _ | ((first | apply brB_split | apply aPickB_split | apply gB_split | apply adB_split) <;> intro hb <;> simp -implicitDefEqProofs only [hb, go_sem, hh, Int.reduceAdd] <;> try simp only [qz] at hb))
    all_goals (try simp only [maxLen, Int.toNat_natCast] at *)
    all_goals first | rfl | omega | decide | assumption | exact setId_e | exact setTo_e | exact setTo_e (l := []) | skip
    trace_state
end
end Go.V
