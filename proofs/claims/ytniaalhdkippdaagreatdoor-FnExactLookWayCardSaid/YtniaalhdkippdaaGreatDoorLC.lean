/- The row. No condition. -/
import Derived.Test.YtniaalhdkippdaaGreatDoorLB
import Derived.Test.YtniaalhdkippdaaGreatDoorLA
import Derived.ProofKit
import Derived.Carry
import Derived.WalkKit
import Derived.Test.YtniaalhdkippdaaGreatDoorCards
import Derived.Test.YtniaalhdkippdaaGreatDoorTie
import Derived.OpenShut
import Derived.Deep.DeepHandedRow
namespace Go.V
open Go Go.Proofs
set_option maxRecDepth 100000
set_option linter.unusedSimpArgs false
set_option linter.unusedVariables false
attribute [local go_sem] aPickB.eq_1 aPickB.eq_2 aPick.eq_1 aBox.eq_1 aBox.eq_2 aAlloc.eq_1 aAlloc.eq_2 aLoadB.eq_1 aLoadB.eq_2 aLoadB.eq_3 aLoadB.eq_4 aLoadB.eq_5 aLoadA.eq_1 aLoadA.eq_2 aLoadA.eq_3 aLoadA.eq_4 aLoadA.eq_5 aLoadP.eq_1 aLoadP.eq_2 aLoadP.eq_3 aLoad.eq_1 aLoad.eq_2 aFAx.eq_1 aFAx.eq_2 aFAx.eq_3 aFA.eq_1 aFA.eq_2 aFx.eq_1 aF.eq_1 aF.eq_2 fld.eq_1 elT.eq_1 aIdxH.eq_1 aIdxH.eq_2 aIdxH.eq_3 aIdxH.eq_4 aIdxH.eq_5 aIdxP.eq_1 aIdxP.eq_2 aIndexAddr.eq_1 aIndexAddr.eq_2 aIndexAddr.eq_3 isStr.eq_1 aIndex.eq_1 aSlStr.eq_1 aSlRo.eq_1 aSlZ.eq_1 aSlZ.eq_2 aSlice.eq_1 aSlice.eq_2 aSlice.eq_3 bnd.eq_1 bnd.eq_2 aBuildO.eq_1 aBuildO.eq_2 aBuild.eq_1 aNewArr.eq_1 aNewArr.eq_2 aBS.eq_1 aBS.eq_2 aBuildSlice.eq_1 aBuildSlice.eq_2 aMakeSlice.eq_1 appDeep.eq_1 aApp2.eq_1 aAppend.eq_1 aAppend.eq_2 aStoreB.eq_1 aStoreA.eq_1 obFlat.eq_1 aStore2.eq_1 aStore2.eq_2 aStoreP.eq_1 aStoreP.eq_2 aStore.eq_1 aStore.eq_2 isShl.eq_1 isShl.eq_2 isBool.eq_1 aBinI.eq_1 aBinI.eq_2 aBinB.eq_1 aBinB.eq_2 aEq.eq_1 aEq.eq_2 aEq.eq_3 aEq.eq_4 aEqG.eq_1 aEqG.eq_2 aBin.eq_1 aBin.eq_2 aBin.eq_3 aBin.eq_4 aUn.eq_1 aUn.eq_2 aLenO.eq_1 aLenS.eq_1 aLenS.eq_2 aLenS.eq_3 aLenT.eq_1 aLen.eq_1 aLen.eq_2 aLen.eq_3 bytesOb.eq_1 bytesOb.eq_2 bytesOf.eq_1 bytesOf.eq_2 aNums.eq_1 aNums.eq_2 isU8.eq_1 aCvI.eq_1 aCvS.eq_1 aCvB.eq_1 aCvB.eq_2 aCvT.eq_1 aConv.eq_1 aConv.eq_2 aConv.eq_3 aConv.eq_4 aExO.eq_1 aExO.eq_2 aExtract.eq_1 aNil.eq_1 aNil.eq_2 aNil.eq_3 aCallS.eq_1 aCallS.eq_2 aCallR.eq_1 aCallR.eq_2 aCallK.eq_1 aCallK.eq_2 aCallK.eq_3 aCall.eq_1 aCall.eq_2 takeO.eq_1 AS.takeV.eq_1 AS.takeV.eq_2 AS.takeV.eq_3 AS.takeV.eq_4 AS.takeV.eq_5 AS.takeV.eq_6 AS.takeV.eq_7 AV.oldM.eq_1 AV.oldM.eq_2 AV.oldM.eq_3 AV.oldM.eq_4 AV.oldM.eq_5 AV.oldM.eq_6 AV.oldM.eq_7 AV.oldM.eq_8 AV.oldM.eq_9 AV.oldM.eq_10 AV.oldM.eq_11 AV.oldML.eq_1 AV.oldML.eq_2 subL.eq_1 subL.eq_2 back.eq_1 back.eq_2 back.eq_3 back.eq_4 backL.eq_1 backI.eq_1 backI.eq_2 backI.eq_3 backI.eq_4 backIL.eq_1 aBuiltin.eq_1 aBuiltin.eq_2 aBuiltin.eq_3 aCallee.eq_1 aCallee.eq_2 aCallee.eq_3 abin.eq_1 abin.eq_2 abin.eq_3 abin.eq_4 abin.eq_5 abin.eq_6 abin.eq_7 abin.eq_8 abin.eq_9 abin.eq_10 abin.eq_11 abin.eq_12 abin.eq_13 abin.eq_14 abin.eq_15 abin.eq_17 abin.eq_18 abin.eq_19 abin.eq_20 abin.eq_21 abin.eq_22 abin.eq_23 AS.ev.eq_1 AS.ev.eq_2 AS.ev.eq_3 AS.ev.eq_4 AS.evs.eq_1 AS.evs.eq_2 AS.evp.eq_1 AS.evp.eq_2 AS.put.eq_1 AS.put.eq_2 AS.remL.eq_1 AS.remL.eq_2 AV.has.eq_1 AV.has.eq_2 AV.has.eq_3 AV.has.eq_4 AV.has.eq_5 AV.has.eq_6 AV.has.eq_7 AV.has.eq_8 AV.has.eq_9 AV.has.eq_10 AV.has.eq_11 AV.hasL.eq_1 AV.hasL.eq_2 Ob.drop.eq_1 Ob.drop.eq_2 Ob.drop.eq_3 Ob.drop.eq_4 AV.cells.eq_1 AV.cells.eq_2 AV.cells.eq_3 AV.cells.eq_4 AV.cells.eq_5 AS.snapT.eq_1 AS.snapT.eq_2 AS.snapT.eq_3 AS.snapT.eq_4 AS.snapT.eq_5 AS.snapT.eq_6 AS.snapT.eq_7 AS.snap.eq_1 AS.snap.eq_2 mapO.eq_1 mapO.eq_2 intern.eq_1 intern.eq_2 intern.eq_3 intern.eq_4 intern.eq_5 intern.eq_6 intern.eq_7 intern.eq_8 intern.eq_9 intern.eq_10 intern.eq_11 internL.eq_1 internL.eq_2 zipSl.eq_1 zipSl.eq_2 AV.ids.eq_1 AV.ids.eq_2 AV.ids.eq_3 AV.ids.eq_4 AV.ids.eq_5 AV.ids.eq_6 AV.ids.eq_7 AV.ids.eq_8 AV.ids.eq_9 AV.ids.eq_10 AV.ids.eq_11 AV.idsL.eq_1 AV.idsL.eq_2 AV.sub.eq_1 AV.sub.eq_2 AV.sub.eq_3 AV.sub.eq_4 AV.sub.eq_5 AV.sub.eq_6 AV.sub.eq_7 AV.sub.eq_8 AV.sub.eq_9 AV.sub.eq_10 AV.sub.eq_11 AV.subL.eq_1 AV.subL.eq_2 AS.frzL.eq_1 AS.frzL.eq_2 AS.absT.eq_1 AS.absT.eq_2 AS.absT.eq_4 AS.absL.eq_1 AS.absL.eq_2 AS.absOk.eq_1 AS.absOkL.eq_1 AS.absOkL.eq_2 hid.eq_1 hids.eq_1 hids.eq_2 AS.appBase.eq_1 AS.appBase.eq_2 AS.appSrc.eq_1 appFits.eq_1 appFits.eq_2 appFits.eq_3 avFill.eq_1 avFill.eq_2 avc.eq_1 avc.eq_2 avc1.eq_1 Kd.agg.eq_1 Kd.agg.eq_2 okR.eq_1 okR.eq_2 okR.eq_3 okR.eq_4 okR.eq_5 okR.eq_6 okR.eq_7 okR.eq_8 zt.eq_1 rvB.eq_1 rvP.eq_1 rvA.eq_1 rvA.eq_2 rv1.eq_1 outTO.eq_1 outT.eq_1 outT.eq_2 outT.eq_3 outTn.eq_1 outOO.eq_1 outO.eq_1 outO.eq_2 boxOf.eq_1 outP.eq_1 outP.eq_2 outP.eq_3 outP.eq_4 outP.eq_5 outP.eq_6 outP.eq_7 outP.eq_8 outPL.eq_1 outPL.eq_2 outI.eq_1 outI.eq_2 outI.eq_3 outI.eq_4 outI.eq_5 outIL.eq_1 outZ.eq_1 outZ.eq_2 outZ.eq_3 outZ.eq_4 outZ.eq_5 outZL.eq_1 finO.eq_1 finO.eq_2 fin.eq_1 fin.eq_2 fin.eq_3 cellAV.eq_1 cellAV.eq_2 numsOf.eq_1 numsOf.eq_2 aop.eq_1 aop.eq_2 aop.eq_3 aop.eq_4 aop.eq_5 aop.eq_6 aop.eq_7 aop.eq_8 aop.eq_9 aop.eq_10 aop.eq_11 aop.eq_12 aop.eq_13 aop.eq_14 aop.eq_15 aop.eq_16 aop.eq_17 aop.eq_18 aop.eq_19 aop.eq_20 aop.eq_21 aop.eq_22 aop.eq_23 aop.eq_24 aop.eq_25 aop.eq_26 tmpsOf.eq_1 tmpsOf.eq_2 tmpsOf.eq_3 tmpsOf.eq_4 tmpsOf.eq_5 AV.refs.eq_1 AV.refs.eq_2 AV.refs.eq_3 AV.refs.eq_4 AV.refs.eq_5 AV.refs.eq_6 AV.refs.eq_7 AV.refs.eq_8 AV.refs.eq_9 AV.refs.eq_10 AV.refs.eq_11 AV.refsL.eq_1 AV.refsL.eq_2 refsT.eq_1 refsT.eq_2 refsO.eq_1 refsO.eq_2 refsO.eq_3 refsO.eq_4 refsO.eq_5 refsO.eq_6 refsB.eq_1 refsB.eq_2 clos.eq_1 clos.eq_2 keepL.eq_1 keepL.eq_2 AV.hasM.eq_1 AV.hasM.eq_2 AV.hasM.eq_3 AV.hasM.eq_4 AV.hasM.eq_5 AV.hasM.eq_6 AV.hasM.eq_7 AV.hasM.eq_8 AV.hasM.eq_9 AV.hasM.eq_10 AV.hasM.eq_11 AV.hasML.eq_1 AV.hasML.eq_2 Ob.dropM.eq_1 Ob.dropM.eq_2 Ob.dropM.eq_3 Ob.dropM.eq_4 nsC.eq_1 nsC.eq_2 okGuard.eq_1 okGuard.eq_2 AS.purges.eq_1 AS.purges.eq_2 dropMB.eq_1 dropMB.eq_2 newB.eq_1 newB.eq_2 ptB.eq_1 ptB.eq_2 lookC.eq_1 lookC.eq_2 dropB.eq_1 dropB.eq_2 leS.eq_1 leS.eq_2 leT.eq_1 leT.eq_2 AS.mvs.eq_1 AS.mvs.eq_2 AS.mvA.eq_1 AS.mvA.eq_2 AS.mvB.eq_1 aSetO.eq_1 aSetO.eq_2 aSh.eq_1 aSh.eq_2 arK.eq_1 aIdxA.eq_1 aIdxA.eq_2 arT.eq_1 aSlHB.eq_1 aSlHB.eq_2 aSlHO.eq_1 aSlHZ.eq_1 aSlHZ.eq_2 isSlT.eq_1 isNilC.eq_1 aNilO.eq_1 aNilX.eq_1 aNilX.eq_2 aNilX.eq_3 aNilC.eq_1 aNilC.eq_2 aBinQ.eq_1 aBinQ.eq_2 aMin.eq_1 flT.eq_1 flT.eq_2 flT.eq_3 mpT.eq_1 aMkMap.eq_1 aMkMap.eq_2 strA.eq_1 keyMK.eq_1 keyMK.eq_2 keyMK.eq_3 mkB.eq_1 mkB.eq_2 mkB.eq_3 aMp2.eq_1 aMp1.eq_1 aMp0.eq_1 aMapU.eq_1 aLk2.eq_1 aLk2.eq_2 aLk1.eq_1 aLk0.eq_1 aLookup.eq_1 aLenMO.eq_1 aLenM.eq_1 glV.eq_1 glV.eq_2 evG.eq_1 evG.eq_2 evG.eq_3 evG.eq_4 lkHitO.eq_1 lkHitO.eq_2 lkHitO.eq_3 lkHitO.eq_4 lkHit.eq_1 lkHit.eq_2 lkF.eq_1 lkF.eq_2 lkFind.eq_1 lkFind.eq_2 lkV.eq_1 lkV.eq_2 lkV.eq_3 lkV.eq_4 lkV.eq_5 AS.lkO.eq_1 AS.lkO.eq_2 AS.lkOf.eq_1 rawT.eq_1 rawT.eq_2 rawT.eq_3 rawT.eq_4 rawT.eq_5 rawT.eq_6 rawOf.eq_1 rawOf.eq_2 rawOf.eq_3 rawOf.eq_4 rawOf.eq_5 rawOf.eq_6 rawOf.eq_7 rawOf.eq_8 rawOf.eq_9 rawOf.eq_10 rawOf.eq_11 aLkR.eq_1 aLkR.eq_2 aLk.eq_1 aLk.eq_2 KL.eq_1 lkDrop.eq_1 lkDrop.eq_2 lkParO.eq_1 lkParO.eq_2 lkParO.eq_3 lkParO.eq_4 lkPar.eq_1 lkPar.eq_2 lkI.eq_1 lkI.eq_2 lkIds.eq_1 lkIds.eq_2 adLd.eq_1 run_nil run_b run_l run_skip run_label run_seq run_cond brV_b brB_t brB_f run_block run_exit run_ret run_region runX_nil runX_c runX_c' runX_b runX_b' runX_l runX_l' exB_t exB_f run_o run_op run_opg gV_b gV_t gB_tt gB_ff gB_tf gB_ft rs_eq kv KI aLenN aBS1 aApp1 aStore1 szOk gv gd s0 idOf look_cons lookC frzU_t frzU_f orT orF drop_any drop_nil drop_t drop_h drop_pb drop_pa drop_agg drop_tup drop_fn dropB kill_eq set_eq rem_eq re_eq up_eq get_eq ob_eq Ob.drop apl fpl plainTy AS.frz splice cond_true cond_false List.map_cons List.map_nil List.drop_zero List.drop_succ_cons List.drop_nil List.take_zero List.take_succ_cons List.take_nil List.getElem?_cons_zero List.getElem?_cons_succ List.getElem?_nil List.length_cons List.length_nil Option.map_some Option.map_none Option.bind_some Option.bind_none List.cons_append List.nil_append List.append_nil Option.getD_some Option.getD_none List.all_cons List.all_nil Bool.and_true Bool.true_and Bool.or_false Bool.false_or Bool.or_true Bool.true_or List.flatten_cons List.flatten_nil List.replicate_succ List.replicate_zero and_true true_and avOf_t avOf_f agg_bool agg_int agg_str agg_slice agg_struct agg_func agg_ptr agg_map avc_bool avc_int avc_str avc_fn avc1_bool avc1_int avc1_str avc1_fn zt_bool zt_int zt_str cells_nil cells_t cells_h cells_pb cells_fn snap_t snap_nil snap_h snap_pb snap_fn rv1_one rv1_two outI_t outI_oh outI_on outI_any outI_nil outZ_th outZ_tt outZ_tn outZ_o outZ_any outZ_nil outIL_nil outZL_nil finN finR ne_eq not_false_eq_true not_true_eq_false List.nodup_nil List.not_mem_nil false_implies implies_true eq_self true_or or_true Option.some.injEq shl_add shl_sub shl_mul shl_quo shl_rem shl_and shl_or shl_xor shl_andNot shl_eql shl_neq shl_lss shl_leq shl_gtr shl_geq shl_shr shl_shl appDeep_none appDeep_sn appSrc_h appSrc_nil fits_ft fits_tn fits_tf isStr_slice obFlat_box Nat.le_refl nbeq_self List.length_map updZ_s updZ_n dropM_eq purge_eq newIds_cons newIds_nil purgeT_nil purgeT_cons memN_cons memN_nil bd_d bd_c bd_g bd_p bd_t bd_o preds_nil preds_cons hasIns insB List.any_cons List.any_nil adK_eq adr_nil adG_eq kdOp noLen creates Op.operands Call.operands nsOf adT adI adJ plainB rst List.append_eq nsD_f nsD_n nsD_t nOf_0 nOf_1 nOf_2 chO_0 chO_1 chO_2 keepK_0 keepK_1 keepK_2 eqRes AS.mv fits KM aCallM notNew kdCall arK_i64 arK_i32 arK_u8 arK_u64 arT_sl isNilC_t isNilC_f isNilC_g isNilC_i isNilC_b isNilC_s isNilC_a isNilC_n andBF andBT aCallK_2 ble_dec hid_t hid_nil hid_any hid_pb hid_fn absOk_t absOk_nil absOk_pb absOk_h absOkO_1 decide_true decide_false Array.toList_append chunk_0 chunk_1 chunk_2 chunk_3 back_t back_nil back_ht backL_nil backI_t backI_nil backI_ht backIL_nil AS.mvJ nbeq_dec runR_f runR_t loadB Option.isSome_some Option.isSome_none nodup1 adr_none adr_some adO_s adV_b adV_t adB_tt adB_ff adB_tf adB_ft adS_eq lenL.eq_1 lenO.eq_1 lenO.eq_2 lenV.eq_1 lenV.eq_2 lenV.eq_3 lenV.eq_4 optN optS absT_ft
attribute [local go_sem] ty3 ty4 ty5 ty9 ty21 ty22 ty24 ty26 ty33 ty34 ty36 ty41 ty43 ty44 ty46 ty47 ty48 ty50 ty53 ty54 ty56 ty59 ty61 ty62 ty64 ty65 ty67 ty102 ty104 ty108 ty121 ty129 ty132 ty138 ty139 ty141 ty144 ty146 ty148 ty155 ty165 ty167 ty177 ty179 ty204 ty209 ty220 ty222 ty225 ty231 lv53 lv108 lv121 lv129 zb4 leS leT fits AS.mvs encStr_eq aIdx_str EStr_dec decStrs decStrs0 EStr_enc EStr_n encInt_eq aIdx_int EInt_dec decInts decInts0 EInt_enc EInt_n AllV_Int len_Int lc_enc l0_enc asl_enc ag_enc aow_enc ABool_enc AInt_enc AStr_enc AU8_enc ABool_dec AInt_dec AStr_dec AU8_dec asl_dec ag_dec aow_dec bind_some pr2.eq_1 l0_nil lc_cons unT.eq_1 K0.eq_1 M0.eq_1 KI AllV_Str len_Str ctR_eq ctM_eq ro_kd ro_ro mu_kd mu_mu encAd_eq aIdx_Ad EAd_dec decAds decAds0 EAd_enc EAd_n len_Ad Ad_eta AllV_Ad encMl_eq aIdx_Ml EMl_dec decMls decMls0 EMl_enc EMl_n len_Ml Ml_eta mkMl.eq_1 owMl_eq AMl_enc AMl_dec encRc_eq aIdx_Rc ERc_dec decRcs decRcs0 ERc_enc ERc_n len_Rc Rc_eta AllV_Rc encIm_eq aIdx_Im EIm_dec decIms decIms0 EIm_enc EIm_n len_Im Im_eta mkIm.eq_1 owIm_eq AIm_enc AIm_dec encSp_eq aIdx_Sp ESp_dec decSps decSps0 ESp_enc ESp_n len_Sp Sp_eta mkSp.eq_1 owSp_eq ASp_enc ASp_dec encWy_eq aIdx_Wy EWy_dec decWys decWys0 EWy_enc EWy_n len_Wy Wy_eta AllV_Wy encCf_eq aIdx_Cf ECf_dec decCfs decCfs0 ECf_enc ECf_n len_Cf Cf_eta mkCf.eq_1 owCf_eq ACf_enc ACf_dec encGm_eq aIdx_Gm EGm_dec decGms decGms0 EGm_enc EGm_n len_Gm Gm_eta mkGm.eq_1 owGm_eq AGm_enc AGm_dec encBx_eq aIdx_Bx EBx_dec decBxs decBxs0 EBx_enc EBx_n len_Bx Bx_eta mkBx.eq_1 owBx_eq ABx_enc ABx_dec encLs_eq aIdx_Ls ELs_dec decLss decLss0 ELs_enc ELs_n len_Ls Ls_eta AllV_Ls encHs_eq aIdx_Hs EHs_dec decHss decHss0 EHs_enc EHs_n len_Hs Hs_eta mkHs.eq_1 owHs_eq AHs_enc AHs_dec encWd_eq aIdx_Wd EWd_dec decWds decWds0 EWd_enc EWd_n len_Wd Wd_eta mkWd.eq_1 owWd_eq AWd_enc AWd_dec

theorem ixP_sat {α : Type} [Inhabited α] {p : α → Prop} : ∀ (xs : List α) (k : Nat), 0 ≤ ixP p k xs → p (xs.getD ((ixP p k xs).toNat - k) default)
  | [], k, h => absurd h (by rw [ixP]; omega)
  | x :: t, k, h => by
    rw [ixP] at h ⊢
    by_cases hx : p x
    · rw [bOf_y hx, cond_true, Int.toNat_natCast, Nat.sub_self]
      exact hx
    · rw [bOf_n hx, cond_false] at h ⊢
      have h1 := ixP_sat t (k + 1) h
      have h2 : (ixP p (k + 1) t).toNat - k = ((ixP p (k + 1) t).toNat - (k + 1)) + 1 := by
        rcases ixP_range p t (k + 1) with q | q <;> omega
      rw [h2]
      exact h1
theorem ixP_map {α β : Type} (p : β → Prop) (f : α → β) : ∀ (xs : List α) (k : Nat), ixP p k (xs.map f) = ixP (fun x => p (f x)) k xs
  | [], _ => rfl
  | x :: t, k => by simp only [List.map_cons, ixP, ixP_map p f t (k + 1)]
theorem ixP_none {α : Type} {p : α → Prop} {xs : List α} (h : ∀ x ∈ xs, ¬ p x) (k : Nat) : ixP p k xs < 0 := by
  refine Classical.byContradiction fun q => ?_
  obtain ⟨x, hx, hp⟩ := (ixP_iff (p := p) xs k).1 (by omega)
  exact h x hx hp
noncomputable def nmAt (cs : List Cf) (nm : ByteArray) : Int := ixP (fun c : Cf => c.name = nm) 0 cs
noncomputable def walkW (cs : List Cf) (d : ByteArray) : Nat → ByteArray → List ByteArray
  | 0, _ => []
  | k + 1, nm => if nmAt cs nm < 0 then [] else nm :: walkW cs d k (wayOf (cs.getD (nmAt cs nm).toNat default) d)
open Classical in
noncomputable def LWay (cs : List Cf) (nm d : ByteArray) : List ByteArray := if WdOk (WNew cs) ∧ Dom d then walkW cs d 4 nm else []
section
variable {cs : List Cf} {nm d : ByteArray}
theorem LWay_y (h : WdOk (WNew cs) ∧ Dom d) : LWay cs nm d = walkW cs d 4 nm := if_pos h
theorem LWay_n (h : ¬ (WdOk (WNew cs) ∧ Dom d)) : LWay cs nm d = [] := if_neg h
theorem walk_s {k : Nat} (h : ¬ nmAt cs nm < 0) : walkW cs d (k + 1) nm = nm :: walkW cs d k (wayOf (cs.getD (nmAt cs nm).toNat default) d) := if_neg h
theorem walk_e {k : Nat} (h : nmAt cs nm < 0) : walkW cs d k nm = [] := by
  cases k with
  | zero => rfl
  | succ k => exact if_pos h
theorem walk_len : ∀ (k : Nat) (nm : ByteArray), (walkW cs d k nm).length ≤ k
  | 0, _ => Nat.le_refl _
  | k + 1, nm => by
    by_cases h : nmAt cs nm < 0
    · rw [walk_e h]; simp
    · rw [walk_s h, List.length_cons]
      have := walk_len k (wayOf (cs.getD (nmAt cs nm).toNat default) d)
      omega
theorem WNew_ok (h : WdOk (WNew cs)) : WNew cs = newWd cs ∧ ∀ c ∈ cs, CfOk c := by
  by_cases q : (∀ c ∈ cs, CfOk c) ∧ WdOk (newWd cs)
  · exact ⟨WNew_y q, q.1⟩
  · rw [WNew_n q] at h
    have := h.2.2.2.1.1
    exact absurd this (by show ¬ 1 ≤ ((0 : Nat) : Int); decide)
theorem WNew_bad (h : ¬ WdOk (WNew cs)) : WNew cs = ⟨[], 0, 0, []⟩ := by
  by_cases q : (∀ c ∈ cs, CfOk c) ∧ WdOk (newWd cs)
  · rw [WNew_y q] at h; exact absurd q.2 h
  · exact WNew_n q
theorem new_host : ixP (fun h : Hs => h.conf.name = nm) 0 (newWd cs).hosts = nmAt cs nm := ixP_map _ _ _ _
theorem nm_empty (h : ∀ c ∈ cs, CfOk c) : nmAt cs ⟨#[]⟩ = -1 := by
  rcases ixP_range (fun c : Cf => c.name = ⟨#[]⟩) cs 0 with q | q
  · exact q
  · exfalso
    obtain ⟨c, hc, e⟩ := (ixP_iff (p := fun c : Cf => c.name = ⟨#[]⟩) cs 0).1 (by omega)
    have := (h c hc).2.2.1
    rw [e] at this
    exact no_dom this
theorem nm_at (h : ¬ nmAt cs nm < 0) : 0 ≤ nmAt cs nm ∧ nmAt cs nm < cs.length ∧ (cs.getD (nmAt cs nm).toNat default).name = nm := by
  rcases ixP_range (fun c : Cf => c.name = nm) cs 0 with q | q
  · have : nmAt cs nm = -1 := q
    omega
  · have h1 := ixP_sat (p := fun c : Cf => c.name = nm) cs 0 (by omega)
    have h2 : nmAt cs nm < (0 : Nat) + cs.length := q.2
    exact ⟨by omega, by omega, h1⟩
theorem WNew_hosts : (WdOk (WNew cs) → 0 < (WNew cs).hosts.length) := fun h => by have := h.2.2.2.1.1; omega
end
theorem snoc_s {xs : List ByteArray} {a : ByteArray} : (xs ++ [a]).map encStr = xs.map encStr ++ [[.v (.string a)]] := by
  rw [List.map_append]; rfl
def c31 : Ct := ctR (lc EWd.ag (lc AStr l0)) (fun p => True) (fun p => .t (.v (.int .i64 (ixP (fun h : Hs => h.conf.name = p.2.1) 0 p.1.hosts))))
section
attribute [local go_sem] List.length_map
theorem good31 {G : Gt} (hG : OkG G) : Gd G 31 (roEnt 0 c31) := by
  refine gR (dp := fun _ => true) (fn := Tryz.f31) (n := 2) (fun _ => rfl) (by kernel_rfl) rfl (by kernel_rfl) hG (Nat.le_of_ble_eq_true rfl) (by kernel_rfl) (by decide) (fun _ _ => .v _) ?_
  rintro ⟨w, a, ⟨⟩⟩ hpre
  simp -implicitDefEqProofs only [Tryz.f31, go_sem, Nat.reduceAdd, Nat.reduceMul, Nat.reduceLeDiff, Nat.reduceEqDiff, reduceCtorEq, Nat.reduceSub, Int.reduceNeg, Nat.reduceMod, Nat.reduceBEq, Nat.reduceLT] at hpre ⊢

  refine run_loop [] (ι := {i : Nat // i ≤ w.hosts.length ∧ ixP (fun h : Hs => h.conf.name = a) 0 w.hosts = ixP (fun h : Hs => h.conf.name = a) i (w.hosts.drop i)}) (fun p => ⟨[(1, .t (.v (.string a))), (2, .pb 1002 0), (5, .t (.v (.int .i64 p.1)))], [(1002, some (.box ((encWd w).map .t)))]⟩) (fun p => w.hosts.length - p.1) ⟨0, by simp, rfl⟩ rfl ?_ ?_
  · simp -implicitDefEqProofs only [go_sem, Nat.reduceAdd, Nat.reduceMul, Nat.reduceLeDiff, Nat.reduceEqDiff, reduceCtorEq, Nat.reduceSub, Int.reduceNeg, Nat.reduceMod, Nat.reduceBEq, Nat.reduceLT]
    simp
  · rintro ⟨i, hi, hix⟩
    by_cases hlt : (i : Int) < w.hosts.length
    · simp -implicitDefEqProofs only [hlt, decide_true, Int.toNat_natCast, go_sem, Nat.reduceAdd, Nat.reduceMul, Nat.reduceLeDiff, Nat.reduceEqDiff, reduceCtorEq, Nat.reduceSub, Int.reduceNeg, Nat.reduceMod, Nat.reduceBEq, Nat.reduceLT]
      repeat' (first | with_reducible apply And.intro | with_reducible intro _ | ((first | apply brB_split | apply aPickB_split | apply gB_split | apply adB_split) <;> intro hb <;> simp -implicitDefEqProofs only [hb, go_sem, Nat.reduceAdd, Nat.reduceMul, Nat.reduceLeDiff, Nat.reduceEqDiff, reduceCtorEq, Nat.reduceSub, Int.reduceNeg, Nat.reduceMod, Nat.reduceBEq, Nat.reduceLT] <;> try simp only [qz] at hb))
      all_goals (try simp only [maxLen, Int.toNat_natCast] at *)
      all_goals first | rfl | omega | skip
      · rw [hix, ixP_yes (p := fun h : Hs => h.conf.name = a) (by omega) hb]
      · refine ⟨⟨i + 1, by omega, by rw [hix, ixP_no (p := fun h : Hs => h.conf.name = a) (by omega) hb]⟩, by dsimp only; omega, ?_⟩
        simp -implicitDefEqProofs only [go_sem, Nat.reduceAdd, Nat.reduceMul, Nat.reduceLeDiff, Nat.reduceEqDiff, reduceCtorEq, Nat.reduceSub, Int.reduceNeg, Nat.reduceMod, Nat.reduceBEq, Nat.reduceLT]
        simp
    · simp -implicitDefEqProofs only [hlt, decide_false, go_sem, Nat.reduceAdd, Nat.reduceMul, Nat.reduceLeDiff, Nat.reduceEqDiff, reduceCtorEq, Nat.reduceSub, Int.reduceNeg, Nat.reduceMod, Nat.reduceBEq, Nat.reduceLT]
      repeat' (first | with_reducible apply And.intro | with_reducible intro _ | ((first | apply brB_split | apply aPickB_split | apply gB_split | apply adB_split) <;> intro hb <;> simp -implicitDefEqProofs only [hb, go_sem, Nat.reduceAdd, Nat.reduceMul, Nat.reduceLeDiff, Nat.reduceEqDiff, reduceCtorEq, Nat.reduceSub, Int.reduceNeg, Nat.reduceMod, Nat.reduceBEq, Nat.reduceLT] <;> try simp only [qz] at hb))
      all_goals first | rfl | omega | skip
      rw [hix, ixP_end (by omega)]
end
def c32 : Ct := ctR (lc ECf.ag (lc AStr l0)) (fun p => CfOk p.1 ∧ Dom p.2.1) (fun p => .t (.v (.string (wayOf p.1 p.2.1))))
section
attribute [local go_sem] c42 c30 c79 c80 bOf_t bOf_f
theorem good32 {G : Gt} (hG : OkG G) (hh : G.e 42 = roEnt 0 c42 ∧ G.e 30 = roEnt 0 c30 ∧ G.e 79 = roEnt 0 c79 ∧ G.e 80 = roEnt 0 c80) : Gd G 32 (roEnt 0 c32) := by
  refine gR (dp := fun _ => true) (fn := Tryz.f32) (n := 2) (fun _ => rfl) (by kernel_rfl) rfl (by kernel_rfl) hG (Nat.le_of_ble_eq_true rfl) (by kernel_rfl) (by decide) (fun _ _ => .v _) ?_
  rintro ⟨c, d, ⟨⟩⟩ hpre
  simp -implicitDefEqProofs only [Tryz.f32, go_sem, hh, Nat.reduceAdd, Nat.reduceMul, Nat.reduceLeDiff, Nat.reduceEqDiff, reduceCtorEq, Nat.reduceSub, Int.reduceNeg, Nat.reduceMod, Nat.reduceBEq, Nat.reduceLT] at hpre ⊢

  obtain ⟨h1, h2⟩ := hpre
  repeat' (first | with_reducible apply And.intro | with_reducible intro _ | ((first | apply brB_split | apply aPickB_split | apply gB_split | apply adB_split) <;> intro hb <;> simp -implicitDefEqProofs only [hb, go_sem, hh, Nat.reduceAdd, Nat.reduceMul, Nat.reduceLeDiff, Nat.reduceEqDiff, reduceCtorEq, Nat.reduceSub, Int.reduceNeg, Nat.reduceMod, Nat.reduceBEq, Nat.reduceLT] <;> try simp only [qz] at hb))
  all_goals first | rfl | omega | contradiction | (rw [wayOf_y (by assumption)]; done) | (rw [wayOf_n (by assumption)]; done) | trace_state
end
def c7 : Ct := ctR (lc ECf.asl (lc AStr (lc AStr l0))) (fun p => OkL OkCf p.1) (fun p => .o true 1 ((LWay p.1 p.2.1 p.2.2.1).map encStr))
section
attribute [local go_sem] c15 c30 c31 c32 bOf_t bOf_f List.length_map List.length_append List.length_cons List.length_nil List.map_nil Nat.zero_add AS.opn AS.cls AS.nilb AS.renb AS.up Bool.not_false Bool.not_true List.set_set List.set_cons_zero List.set_cons_succ List.set_nil List.mem_singleton forall_eq
set_option maxHeartbeats 3200000 in
theorem good7 {G : Gt} (hG : OkG G) (hh : G.e 15 = roEnt 0 c15 ∧ G.e 30 = roEnt 0 c30 ∧ G.e 31 = roEnt 0 c31 ∧ G.e 32 = roEnt 0 c32) : Gd G 7 (roEnt 0 c7) := by
  refine gR (dp := fun _ => true) (fn := Tryz.f7) (n := 3) (fun _ => rfl) (by kernel_rfl) rfl (by kernel_rfl) hG (Nat.le_of_ble_eq_true rfl) (by kernel_rfl) (by decide) (fun _ _ => .deep _ _) ?_
  rintro ⟨cs, nm, d, ⟨⟩⟩ hpre


  have hok : OkL OkCf cs := hpre
  dsimp only
  by_cases q : WdOk (WNew cs) ∧ Dom d
  · obtain ⟨q1, q2⟩ := q
    obtain ⟨e1, hcs⟩ := WNew_ok q1
    have hlen : ((newWd cs).hosts.length : Int) > 0 := by have := WNew_hosts q1; rw [e1] at this; omega
    have b2 := bOf_y q2
    rw [LWay_y ⟨q1, q2⟩]
    simp -implicitDefEqProofs only [Tryz.f7, e1, hlen, b2, new_host, decide_true, go_sem, hh, Nat.reduceAdd, Nat.reduceMul, Nat.reduceLeDiff, Nat.reduceEqDiff, reduceCtorEq, Nat.reduceSub, Int.reduceNeg, Nat.reduceMod, Nat.reduceBEq, Nat.reduceLT]
    repeat' (first | with_reducible apply And.intro | with_reducible intro _ | ((first | apply brB_split | apply aPickB_split | apply gB_split | apply adB_split) <;> intro hb <;> simp -implicitDefEqProofs only [hb, go_sem, hh, Nat.reduceAdd, Nat.reduceMul, Nat.reduceLeDiff, Nat.reduceEqDiff, reduceCtorEq, Nat.reduceSub, Int.reduceNeg, Nat.reduceMod, Nat.reduceBEq, Nat.reduceLT] <;> try simp only [qz] at hb))
    all_goals first | rfl | omega | contradiction | assumption | skip
    refine run_loop [(7, 1907, true, 1)] (ι := {p : List ByteArray × ByteArray // p.1.length ≤ 4 ∧ walkW cs d 4 nm = p.1 ++ walkW cs d (4 - p.1.length) p.2}) (fun p => ⟨[(0, .t (.sl 3 (cs.map encCf))), (2, .t (.v (.string d))), (7, .h 1907), (8, .pb 1008 0), (9, .t (.v (.int .i64 (nmAt cs p.1.2))))], [(1008, some (.box [.h 1013, .t (.v (.int .i64 (newWd cs).now)), .t (.v (.int .i64 (newWd cs).marks)), .h 2013])), (1013, some (.arr true 7 ((newWd cs).hosts.map encHs))), (2013, some (.arr true 3 ((newWd cs).given.map encLs))), (1907, some (.arr true 1 (p.1.1.map encStr)))]⟩) (fun p => 4 - p.1.1.length) ⟨([], nm), by simp, by simp⟩ rfl ?_ ?_
    · simp -implicitDefEqProofs only [go_sem, hh, Nat.reduceAdd, Nat.reduceMul, Nat.reduceLeDiff, Nat.reduceEqDiff, reduceCtorEq, Nat.reduceSub, Int.reduceNeg, Nat.reduceMod, Nat.reduceBEq, Nat.reduceLT]
      try simp
    · rintro ⟨⟨L, n⟩, hL, hw⟩
      dsimp only at hL hw ⊢
      by_cases hn : nmAt cs n < 0
      · have hn2 : ¬ nmAt cs n ≥ 0 := by omega
        rw [walk_e hn, List.append_nil] at hw
        simp -implicitDefEqProofs only [hn2, hw, decide_false, go_sem, hh, Nat.reduceAdd, Nat.reduceMul, Nat.reduceLeDiff, Nat.reduceEqDiff, reduceCtorEq, Nat.reduceSub, Int.reduceNeg, Nat.reduceMod, Nat.reduceBEq, Nat.reduceLT]
        repeat' (first | with_reducible apply And.intro | with_reducible intro _ | ((first | apply brB_split | apply aPickB_split | apply gB_split | apply adB_split) <;> intro hb <;> simp -implicitDefEqProofs only [hb, go_sem, hh, Nat.reduceAdd, Nat.reduceMul, Nat.reduceLeDiff, Nat.reduceEqDiff, reduceCtorEq, Nat.reduceSub, Int.reduceNeg, Nat.reduceMod, Nat.reduceBEq, Nat.reduceLT] <;> try simp only [qz] at hb))
        all_goals first | rfl | omega | contradiction | trace_state
      · have hn2 : nmAt cs n ≥ 0 := by omega
        obtain ⟨n0, n1, n2⟩ := nm_at hn
        by_cases hl : (L.length : Int) < 4
        · have hc := getD_mem (xs := cs) (j := (nmAt cs n).toNat) (by omega)
          have hst : walkW cs d (4 - L.length) n = n :: walkW cs d (4 - (L ++ [n]).length) (wayOf (cs.getD (nmAt cs n).toNat default) d) := by
            rw [show 4 - L.length = (4 - (L ++ [n]).length) + 1 by simp; omega]
            exact walk_s hn
          have hcc := hcs _ hc
          simp -implicitDefEqProofs only [hn2, hl, decide_true, go_sem, hh, Nat.reduceAdd, Nat.reduceMul, Nat.reduceLeDiff, Nat.reduceEqDiff, reduceCtorEq, Nat.reduceSub, Int.reduceNeg, Nat.reduceMod, Nat.reduceBEq, Nat.reduceLT]
          repeat' (first | with_reducible apply And.intro | with_reducible intro _ | ((first | apply brB_split | apply aPickB_split | apply gB_split | apply adB_split) <;> intro hb <;> simp -implicitDefEqProofs only [hb, go_sem, hh, Nat.reduceAdd, Nat.reduceMul, Nat.reduceLeDiff, Nat.reduceEqDiff, reduceCtorEq, Nat.reduceSub, Int.reduceNeg, Nat.reduceMod, Nat.reduceBEq, Nat.reduceLT] <;> try simp only [qz] at hb))
          all_goals (try simp only [maxLen] at *)
          all_goals first | rfl | omega | contradiction | assumption | decide | skip
          · refine ⟨⟨(L ++ [n], wayOf (cs.getD (nmAt cs n).toNat default) d), by simp; omega, by dsimp only; rw [hw, hst]; simp⟩, by simp; omega, ?_⟩
            simp -implicitDefEqProofs only [go_sem, hh, Nat.reduceAdd, Nat.reduceMul, Nat.reduceLeDiff, Nat.reduceEqDiff, reduceCtorEq, Nat.reduceSub, Int.reduceNeg, Nat.reduceMod, Nat.reduceBEq, Nat.reduceLT]
            simp only [n2, snoc_s, new_host]
            repeat' (first | with_reducible apply And.intro | with_reducible intro _ | ((first | apply brB_split | apply aPickB_split | apply gB_split | apply adB_split) <;> intro hb <;> simp -implicitDefEqProofs only [hb, go_sem, hh, Nat.reduceAdd, Nat.reduceMul, Nat.reduceLeDiff, Nat.reduceEqDiff, reduceCtorEq, Nat.reduceSub, Int.reduceNeg, Nat.reduceMod, Nat.reduceBEq, Nat.reduceLT] <;> try simp only [qz] at hb))
            all_goals first | rfl | (simp; done) | trace_state
          · have hem : wayOf (cs.getD (nmAt cs n).toNat default) d = ⟨#[]⟩ := by simpa using hb
            refine ⟨⟨(L ++ [n], wayOf (cs.getD (nmAt cs n).toNat default) d), by simp; omega, by dsimp only; rw [hw, hst]; simp⟩, by simp; omega, ?_⟩
            simp -implicitDefEqProofs only [go_sem, hh, Nat.reduceAdd, Nat.reduceMul, Nat.reduceLeDiff, Nat.reduceEqDiff, reduceCtorEq, Nat.reduceSub, Int.reduceNeg, Nat.reduceMod, Nat.reduceBEq, Nat.reduceLT]
            simp only [n2, snoc_s, hem, nm_empty hcs]
            repeat' (first | with_reducible apply And.intro | with_reducible intro _ | ((first | apply brB_split | apply aPickB_split | apply gB_split | apply adB_split) <;> intro hb <;> simp -implicitDefEqProofs only [hb, go_sem, hh, Nat.reduceAdd, Nat.reduceMul, Nat.reduceLeDiff, Nat.reduceEqDiff, reduceCtorEq, Nat.reduceSub, Int.reduceNeg, Nat.reduceMod, Nat.reduceBEq, Nat.reduceLT] <;> try simp only [qz] at hb))
            all_goals first | rfl | (simp; done) | trace_state
        · have h4 : 4 - L.length = 0 := by omega
          rw [h4] at hw
          have hw2 : walkW cs d 4 nm = L := by rw [hw]; exact List.append_nil _
          simp -implicitDefEqProofs only [hn2, hl, hw2, decide_false, decide_true, go_sem, hh, Nat.reduceAdd, Nat.reduceMul, Nat.reduceLeDiff, Nat.reduceEqDiff, reduceCtorEq, Nat.reduceSub, Int.reduceNeg, Nat.reduceMod, Nat.reduceBEq, Nat.reduceLT]
          repeat' (first | with_reducible apply And.intro | with_reducible intro _ | ((first | apply brB_split | apply aPickB_split | apply gB_split | apply adB_split) <;> intro hb <;> simp -implicitDefEqProofs only [hb, go_sem, hh, Nat.reduceAdd, Nat.reduceMul, Nat.reduceLeDiff, Nat.reduceEqDiff, reduceCtorEq, Nat.reduceSub, Int.reduceNeg, Nat.reduceMod, Nat.reduceBEq, Nat.reduceLT] <;> try simp only [qz] at hb))
          all_goals first | rfl | omega | contradiction | trace_state
  · rw [LWay_n q]
    have hlen : (WNew cs).hosts.length = 0 ∨ WdOk (WNew cs) := by
      by_cases z : WdOk (WNew cs)
      · exact .inr z
      · left; rw [WNew_bad z]; rfl
    simp -implicitDefEqProofs only [Tryz.f7, go_sem, hh, Nat.reduceAdd, Nat.reduceMul, Nat.reduceLeDiff, Nat.reduceEqDiff, reduceCtorEq, Nat.reduceSub, Int.reduceNeg, Nat.reduceMod, Nat.reduceBEq, Nat.reduceLT]
    repeat' (first | with_reducible apply And.intro | with_reducible intro _ | ((first | apply brB_split | apply aPickB_split | apply gB_split | apply adB_split) <;> intro hb <;> simp -implicitDefEqProofs only [hb, go_sem, hh, Nat.reduceAdd, Nat.reduceMul, Nat.reduceLeDiff, Nat.reduceEqDiff, reduceCtorEq, Nat.reduceSub, Int.reduceNeg, Nat.reduceMod, Nat.reduceBEq, Nat.reduceLT] <;> try simp only [qz] at hb))
    all_goals (try simp only [bOf_t, bOf_f] at *)
    all_goals first | rfl | omega | contradiction | assumption | exact absurd ⟨hlen.resolve_left (by omega), by assumption⟩ q | skip
    all_goals
      refine run_loop [(7, 1907, true, 1)] (ι := Unit) (fun _ => ⟨[(7, .h 1907), (9, .t (.v (.int .i64 (-1))))], [(1907, some (.arr true 1 []))]⟩) (fun _ => 0) () rfl ?_ ?_
      · simp -implicitDefEqProofs only [go_sem, hh, Nat.reduceAdd, Nat.reduceMul, Nat.reduceLeDiff, Nat.reduceEqDiff, reduceCtorEq, Nat.reduceSub, Int.reduceNeg, Nat.reduceMod, Nat.reduceBEq, Nat.reduceLT]
        try simp
      · rintro ⟨⟩
        simp -implicitDefEqProofs only [show ¬ (-1 : Int) ≥ 0 by decide, decide_false, go_sem, hh, Nat.reduceAdd, Nat.reduceMul, Nat.reduceLeDiff, Nat.reduceEqDiff, reduceCtorEq, Nat.reduceSub, Int.reduceNeg, Nat.reduceMod, Nat.reduceBEq, Nat.reduceLT]
        repeat' (first | with_reducible apply And.intro | with_reducible intro _ | ((first | apply brB_split | apply aPickB_split | apply gB_split | apply adB_split) <;> intro hb <;> simp -implicitDefEqProofs only [hb, go_sem, hh, Nat.reduceAdd, Nat.reduceMul, Nat.reduceLeDiff, Nat.reduceEqDiff, reduceCtorEq, Nat.reduceSub, Int.reduceNeg, Nat.reduceMod, Nat.reduceBEq, Nat.reduceLT] <;> try simp only [qz] at hb))
        all_goals first | rfl | omega | contradiction | trace_state
end

theorem FCf_name {n : ByteArray} : FCf.sem (.name n) = fun c : Cf => c.name = n := rfl
theorem newWd_ok {cs : List Cf} (h : OkL OkCf cs) : OkWd (newWd cs) := ⟨⟨by show ((cs.map newHs).length : Int) ≤ _; rw [List.length_map]; exact h.1, fun x hx => by
    obtain ⟨c, hc, rfl⟩ := List.mem_map.1 hx
    exact newHs_ok (h.2 c hc)⟩, ⟨by show ((0 : Nat) : Int) ≤ _; decide, fun _ q => by cases q⟩⟩
theorem WNew_OkWd {cs : List Cf} (h : OkL OkCf cs) : OkWd (WNew cs) := by
  unfold WNew
  split
  · exact newWd_ok h
  · exact ⟨⟨by show ((0 : Nat) : Int) ≤ _; decide, fun _ q => by cases q⟩, ⟨by show ((0 : Nat) : Int) ≤ _; decide, fun _ q => by cases q⟩⟩
def c9 : Ct := ctR (lc ECf.asl (lc AStr (lc AStr l0))) (fun p => OkL OkCf p.1 ∧ p.2.2.1.size ≤ 2000000) (fun p => .o true 1 ((LWay p.1 p.2.1 p.2.2.1).map encStr))
section
attribute [local go_sem] c16 c34 c35 c36 c38 ap_enc ap_dec AFn0_dec AFn0_enc Bool.not_true Bool.not_false ty222 lv53 AFCf_d0 AFCf_e0 FCf_name bOf_t bOf_f List.length_map List.length_append List.length_cons List.length_nil List.map_nil Nat.zero_add AS.opn AS.cls AS.nilb AS.renb AS.up List.set_set List.set_cons_zero List.set_cons_succ List.set_nil List.mem_singleton forall_eq
set_option maxHeartbeats 3200000 in
theorem good9 {G : Gt} (hG : OkG G) (hh : G.e 16 = roEnt 0 c16 ∧ G.e 34 = roEnt 0 c34 ∧ G.e 35 = roEnt 0 c35 ∧ G.e 36 = roEnt 0 c36 ∧ G.e 38 = roEnt 0 c38) : Gd G 9 (roEnt 0 c9) := by
  refine gR (dp := fun _ => true) (fn := Tryz.f9) (n := 3) (fun _ => rfl) (by kernel_rfl) rfl (by kernel_rfl) hG (Nat.le_of_ble_eq_true rfl) (by kernel_rfl) (by decide) (fun _ _ => .deep _ _) ?_
  rintro ⟨cs, nm, d, ⟨⟩⟩ hpre


  obtain ⟨hok, hd⟩ := hpre
  dsimp only at hok hd ⊢
  have hokw := WNew_OkWd hok
  by_cases q : WdOk (WNew cs) ∧ Dom d
  · obtain ⟨q1, q2⟩ := q
    obtain ⟨e1, hcs⟩ := WNew_ok q1
    have b1 := bOf_y q1
    have b2 := bOf_y q2
    rw [LWay_y ⟨q1, q2⟩]
    simp -implicitDefEqProofs only [Tryz.f9, b1, b2, go_sem, hh, Nat.reduceAdd, Nat.reduceMul, Nat.reduceLeDiff, Nat.reduceEqDiff, reduceCtorEq, Nat.reduceSub, Int.reduceNeg, Nat.reduceMod, Nat.reduceBEq, Nat.reduceLT]
    repeat' (first | with_reducible apply And.intro | with_reducible intro _ | ((first | apply brB_split | apply aPickB_split | apply gB_split | apply adB_split) <;> intro hb <;> simp -implicitDefEqProofs only [hb, go_sem, hh, Nat.reduceAdd, Nat.reduceMul, Nat.reduceLeDiff, Nat.reduceEqDiff, reduceCtorEq, Nat.reduceSub, Int.reduceNeg, Nat.reduceMod, Nat.reduceBEq, Nat.reduceLT] <;> try simp only [qz] at hb))
    all_goals first | rfl | omega | contradiction | assumption | skip
    refine run_loop [(7, 1907, true, 1)] (ι := {p : List ByteArray × ByteArray // p.1.length ≤ 4 ∧ walkW cs d 4 nm = p.1 ++ walkW cs d (4 - p.1.length) p.2}) (fun p => ⟨[(0, .t (.sl 3 (cs.map encCf))), (2, .t (.v (.string d))), (4, .pb 1004 0), (7, .h 1907)], [(1004, some (.box [.t (.v (.string p.1.2))])), (1907, some (.arr true 1 (p.1.1.map encStr)))]⟩) (fun p => 4 - p.1.1.length) ⟨([], nm), by simp, by simp⟩ rfl ?_ ?_
    · simp -implicitDefEqProofs only [go_sem, hh, Nat.reduceAdd, Nat.reduceMul, Nat.reduceLeDiff, Nat.reduceEqDiff, reduceCtorEq, Nat.reduceSub, Int.reduceNeg, Nat.reduceMod, Nat.reduceBEq, Nat.reduceLT]
      try simp
    · rintro ⟨⟨L, n⟩, hL, hw⟩
      dsimp only at hL hw ⊢
      by_cases hl : (L.length : Int) < 4
      · by_cases hn : nmAt cs n < 0
        · have hn' : ixP (fun c : Cf => c.name = n) 0 cs < 0 := hn
          rw [walk_e hn, List.append_nil] at hw
          simp -implicitDefEqProofs only [hl, hn', hw, decide_true, go_sem, hh, Nat.reduceAdd, Nat.reduceMul, Nat.reduceLeDiff, Nat.reduceEqDiff, reduceCtorEq, Nat.reduceSub, Int.reduceNeg, Nat.reduceMod, Nat.reduceBEq, Nat.reduceLT]
          repeat' (first | with_reducible apply And.intro | with_reducible intro _ | ((first | apply brB_split | apply aPickB_split | apply gB_split | apply adB_split) <;> intro hb <;> simp -implicitDefEqProofs only [hb, go_sem, hh, Nat.reduceAdd, Nat.reduceMul, Nat.reduceLeDiff, Nat.reduceEqDiff, reduceCtorEq, Nat.reduceSub, Int.reduceNeg, Nat.reduceMod, Nat.reduceBEq, Nat.reduceLT] <;> try simp only [qz] at hb))
          all_goals first | rfl | omega | contradiction | exact trivial | trace_state
        · have hn' : ¬ ixP (fun c : Cf => c.name = n) 0 cs < 0 := hn
          obtain ⟨n0, n1, n2⟩ := nm_at hn
          have n0' : 0 ≤ ixP (fun c : Cf => c.name = n) 0 cs := n0
          have n1' : ixP (fun c : Cf => c.name = n) 0 cs < cs.length := n1
          have hc := getD_mem (xs := cs) (j := (nmAt cs n).toNat) (by omega)
          have hcc := hcs _ hc
          have hco := hok.2 _ hc
          have hst : walkW cs d (4 - L.length) n = n :: walkW cs d (4 - (L ++ [n]).length) (wayOf (cs.getD (nmAt cs n).toNat default) d) := by
            rw [show 4 - L.length = (4 - (L ++ [n]).length) + 1 by simp; omega]
            exact walk_s hn
          simp -implicitDefEqProofs only [hl, hn', decide_true, decide_false, go_sem, hh, Nat.reduceAdd, Nat.reduceMul, Nat.reduceLeDiff, Nat.reduceEqDiff, reduceCtorEq, Nat.reduceSub, Int.reduceNeg, Nat.reduceMod, Nat.reduceBEq, Nat.reduceLT]
          repeat' (first | with_reducible apply And.intro | with_reducible intro _ | ((first | apply brB_split | apply aPickB_split | apply gB_split | apply adB_split) <;> intro hb <;> simp -implicitDefEqProofs only [hb, go_sem, hh, Nat.reduceAdd, Nat.reduceMul, Nat.reduceLeDiff, Nat.reduceEqDiff, reduceCtorEq, Nat.reduceSub, Int.reduceNeg, Nat.reduceMod, Nat.reduceBEq, Nat.reduceLT] <;> try simp only [qz] at hb))
          all_goals (try simp only [maxLen] at *)
          all_goals first | rfl | omega | contradiction | assumption | decide | exact trivial | skip
          refine ⟨⟨(L ++ [n], wayOf (cs.getD (nmAt cs n).toNat default) d), by simp; omega, by dsimp only; rw [hw, hst]; simp⟩, by simp; omega, ?_⟩
          simp -implicitDefEqProofs only [go_sem, hh, Nat.reduceAdd, Nat.reduceMul, Nat.reduceLeDiff, Nat.reduceEqDiff, reduceCtorEq, Nat.reduceSub, Int.reduceNeg, Nat.reduceMod, Nat.reduceBEq, Nat.reduceLT]
          simp only [snoc_s]
          repeat' (first | with_reducible apply And.intro | with_reducible intro _ | ((first | apply brB_split | apply aPickB_split | apply gB_split | apply adB_split) <;> intro hb <;> simp -implicitDefEqProofs only [hb, go_sem, hh, Nat.reduceAdd, Nat.reduceMul, Nat.reduceLeDiff, Nat.reduceEqDiff, reduceCtorEq, Nat.reduceSub, Int.reduceNeg, Nat.reduceMod, Nat.reduceBEq, Nat.reduceLT] <;> try simp only [qz] at hb))
          all_goals first | rfl | (simp; done) | trace_state
      · have h4 : 4 - L.length = 0 := by omega
        rw [h4] at hw
        have hw2 : walkW cs d 4 nm = L := by rw [hw]; exact List.append_nil _
        simp -implicitDefEqProofs only [hl, hw2, decide_false, go_sem, hh, Nat.reduceAdd, Nat.reduceMul, Nat.reduceLeDiff, Nat.reduceEqDiff, reduceCtorEq, Nat.reduceSub, Int.reduceNeg, Nat.reduceMod, Nat.reduceBEq, Nat.reduceLT]
        repeat' (first | with_reducible apply And.intro | with_reducible intro _ | ((first | apply brB_split | apply aPickB_split | apply gB_split | apply adB_split) <;> intro hb <;> simp -implicitDefEqProofs only [hb, go_sem, hh, Nat.reduceAdd, Nat.reduceMul, Nat.reduceLeDiff, Nat.reduceEqDiff, reduceCtorEq, Nat.reduceSub, Int.reduceNeg, Nat.reduceMod, Nat.reduceBEq, Nat.reduceLT] <;> try simp only [qz] at hb))
        all_goals first | rfl | omega | contradiction | trace_state
  · rw [LWay_n q]
    simp -implicitDefEqProofs only [Tryz.f9, go_sem, hh, Nat.reduceAdd, Nat.reduceMul, Nat.reduceLeDiff, Nat.reduceEqDiff, reduceCtorEq, Nat.reduceSub, Int.reduceNeg, Nat.reduceMod, Nat.reduceBEq, Nat.reduceLT]
    repeat' (first | with_reducible apply And.intro | with_reducible intro _ | ((first | apply brB_split | apply aPickB_split | apply gB_split | apply adB_split) <;> intro hb <;> simp -implicitDefEqProofs only [hb, go_sem, hh, Nat.reduceAdd, Nat.reduceMul, Nat.reduceLeDiff, Nat.reduceEqDiff, reduceCtorEq, Nat.reduceSub, Int.reduceNeg, Nat.reduceMod, Nat.reduceBEq, Nat.reduceLT] <;> try simp only [qz] at hb))
    all_goals (try simp only [bOf_t, bOf_f] at *)
    all_goals first | rfl | omega | contradiction | assumption | exact absurd ⟨by assumption, by assumption⟩ q | trace_state
end

/-- What is counted is no more than what is spent, but for so many. -/
def fewB {α : Type} (f : α → Int → Int) (e : α → Int → Int) (c : Int) : Prop := ∀ a l k, 0 ≤ f a l → e a k ≤ k + c + 100 * (l - f a l)
theorem bStr : fewB szStr eStr 1 := fun a l k h => by unfold szStr eStr; omega
theorem bInt_list (xs : List Int) (k : Int) : eS eInt k xs = k + xs.length := by
  induction xs generalizing k with
  | nil => simp [eS]
  | cons x r ih => simp only [eS, ih, eInt, List.length_cons]; omega
theorem bF {α : Type} {f e : α → Int → Int} {c : Int} (hb : fewB f e c) : ∀ (xs : List α) (l k : Int), 0 ≤ szF f l xs → eS e k xs ≤ k + c * xs.length + 100 * (l - szF f l xs)
  | [], l, k, _ => by simp [eS, szF]
  | x :: r, l, k, h => by
    rw [szF] at h ⊢
    by_cases h1 : f x l < 0
    · rw [if_pos h1] at h; omega
    · rw [if_neg h1] at h ⊢
      have q1 := hb x l k (by omega)
      have q2 := bF hb r (f x l) (e x k) h
      have e1 : c * ((r.length + 1 : Nat) : Int) = c * r.length + c := by rw [Int.natCast_add, Int.mul_add]; simp
      simp only [eS, List.length_cons]
      omega
theorem bL {α : Type} {f e : α → Int → Int} {c : Int} (hb : fewB f e c) (hc : c ≤ 100) (xs : List α) (l k : Int) (h : 0 ≤ szL f xs l) : eS e k xs ≤ k + 100 * (l - szL f xs l) := by
  unfold szL at h ⊢
  by_cases h1 : l - xs.length < 0
  · rw [if_pos h1] at h; omega
  · rw [if_neg h1] at h ⊢
    have q := bF hb xs (l - xs.length) k h
    have q2 : c * (xs.length : Int) ≤ 100 * xs.length := Int.mul_le_mul_of_nonneg_right hc (by omega)
    omega
def uWy (a : Wy) (k : Int) : Int := ((k + 1) + 1)
theorem uWy_b : fewB szWy uWy 2 := fun a l k h => by
  by_cases z0 : (l - a.ends.size) < 0
  · unfold szWy at h; rw [if_pos z0] at h; omega
  · skip
    by_cases z1 : ((l - a.ends.size) - a.to.size) < 0
    · unfold szWy at h; rw [if_neg z0, if_pos z1] at h; omega
    · skip
      have hs : szWy a l = ((l - a.ends.size) - a.to.size) := by unfold szWy; rw [if_neg z0, if_neg z1]
      rw [hs]
      unfold uWy
      omega
def uCf (a : Cf) (k : Int) : Int := (eS uWy (eS eStr (k + 1) a.own) a.ways)
theorem uCf_b : fewB szCf uCf 1 := fun a l k h => by
  by_cases z0 : (l - a.name.size) < 0
  · unfold szCf at h; rw [if_pos z0] at h; omega
  · skip
    by_cases z1 : (szL szStr a.own (l - a.name.size)) < 0
    · unfold szCf at h; rw [if_neg z0, if_pos z1] at h; omega
    · skip
      by_cases z2 : (szL szWy a.ways (szL szStr a.own (l - a.name.size))) < 0
      · unfold szCf at h; rw [if_neg z0, if_neg z1, if_pos z2] at h; omega
      · skip
        have hs : szCf a l = (szL szWy a.ways (szL szStr a.own (l - a.name.size))) := by unfold szCf; rw [if_neg z0, if_neg z1, if_neg z2]
        rw [hs]
        have b0 := bL bStr (by decide) a.own (l - a.name.size) (k + 1) (by omega)
        have b1 := bL uWy_b (by decide) a.ways (szL szStr a.own (l - a.name.size)) (eS eStr (k + 1) a.own) (by omega)
        unfold uCf
        omega
theorem bL_len : ∀ (xs : List ByteArray) (k : Int), eS eStr k xs = k + xs.length
  | [], k => by simp [eS]
  | x :: r, k => by simp only [eS, bL_len r, eStr, List.length_cons]; omega
def c3 : Ct := ctR (lc ECf.asl (lc AStr (lc AStr l0))) (fun p => True) (fun p => .t (.v (.bool true)))
section
attribute [local go_sem] c6 c8 c11 c12 c10 c13 c14 c7 c9 Bool.not_true Bool.not_false
set_option maxHeartbeats 4000000 in
theorem good3 {G : Gt} (hG : OkG G) (hh : G.e 6 = roEnt 0 c6 ∧ G.e 8 = roEnt 0 c8 ∧ G.e 11 = roEnt 0 c11 ∧ G.e 12 = muEnt c12 ∧ G.e 10 = roEnt 0 c10 ∧ G.e 13 = muEnt c13 ∧ G.e 14 = roEnt 0 c14 ∧ G.e 7 = roEnt 0 c7 ∧ G.e 9 = roEnt 0 c9) : Gd G 3 (roEnt 0 c3) := by
  refine gR (dp := fun _ => true) (fn := Tryz.f3) (n := 3) (fun _ => rfl) (by kernel_rfl) rfl (by kernel_rfl) hG (Nat.le_of_ble_eq_true rfl) (by kernel_rfl) (by decide) (fun _ _ => .v _) ?_
  rintro ⟨cs, nm, d, ⟨⟩⟩ hpre


  by_cases hnmt : ((nm.size : Nat) : Int) > 1048576
  · simp -implicitDefEqProofs only [Tryz.f3, decide_eq_true hnmt, go_sem, hh, Nat.reduceAdd, Nat.reduceMul, Nat.reduceLeDiff, Nat.reduceEqDiff, reduceCtorEq, Nat.reduceSub, Int.reduceNeg, Nat.reduceMod, Nat.reduceBEq, Nat.reduceLT]
    repeat' (first | with_reducible apply And.intro | with_reducible intro _ | ((first | apply brB_split | apply aPickB_split | apply gB_split | apply adB_split) <;> intro hb <;> simp -implicitDefEqProofs only [hb, go_sem, hh, Nat.reduceAdd, Nat.reduceMul, Nat.reduceLeDiff, Nat.reduceEqDiff, reduceCtorEq, Nat.reduceSub, Int.reduceNeg, Nat.reduceMod, Nat.reduceBEq, Nat.reduceLT] <;> try simp only [qz] at hb))
    all_goals first | rfl | omega | skip
  · have dnmt := decide_eq_false hnmt
    by_cases hdt : ((d.size : Nat) : Int) > 1048576
    · simp -implicitDefEqProofs only [Tryz.f3, dnmt, decide_eq_true hdt, go_sem, hh, Nat.reduceAdd, Nat.reduceMul, Nat.reduceLeDiff, Nat.reduceEqDiff, reduceCtorEq, Nat.reduceSub, Int.reduceNeg, Nat.reduceMod, Nat.reduceBEq, Nat.reduceLT]
      repeat' (first | with_reducible apply And.intro | with_reducible intro _ | ((first | apply brB_split | apply aPickB_split | apply gB_split | apply adB_split) <;> intro hb <;> simp -implicitDefEqProofs only [hb, go_sem, hh, Nat.reduceAdd, Nat.reduceMul, Nat.reduceLeDiff, Nat.reduceEqDiff, reduceCtorEq, Nat.reduceSub, Int.reduceNeg, Nat.reduceMod, Nat.reduceBEq, Nat.reduceLT] <;> try simp only [qz] at hb))
      all_goals first | rfl | omega | skip
    · have ddt := decide_eq_false hdt
      by_cases h0s : szL szCf cs 1048576 < 0
      · simp -implicitDefEqProofs only [Tryz.f3, dnmt, ddt, decide_eq_true h0s, go_sem, hh, Nat.reduceAdd, Nat.reduceMul, Nat.reduceLeDiff, Nat.reduceEqDiff, reduceCtorEq, Nat.reduceSub, Int.reduceNeg, Nat.reduceMod, Nat.reduceBEq, Nat.reduceLT]
        repeat' (first | with_reducible apply And.intro | with_reducible intro _ | ((first | apply brB_split | apply aPickB_split | apply gB_split | apply adB_split) <;> intro hb <;> simp -implicitDefEqProofs only [hb, go_sem, hh, Nat.reduceAdd, Nat.reduceMul, Nat.reduceLeDiff, Nat.reduceEqDiff, reduceCtorEq, Nat.reduceSub, Int.reduceNeg, Nat.reduceMod, Nat.reduceBEq, Nat.reduceLT] <;> try simp only [qz] at hb))
        all_goals first | rfl | omega | skip
      · have d0s := decide_eq_false h0s
        have ho0 := szL_ok szCf_ok szCf_le cs 1048576 (by omega) (by omega) (by omega)
        have hz0 := szL_le szCf_le cs 1048576
        have hk0 := bL uCf_b (by decide) cs 1048576 1 (by omega)
        have hk0' : eS eCf 1 cs = eS uCf 1 cs := rfl
        have hn0 := eS_le eCf_inc cs 1
        obtain ⟨r0, hr⟩ : ∃ x, x = LWay cs nm d := ⟨_, rfl⟩
        have hq : eS eStr 1 (LWay cs nm d) ≤ 100 := by
          have h1 : (LWay cs nm d).length ≤ 4 := by
            unfold LWay
            split
            · exact walk_len 4 nm
            · exact Nat.zero_le _
          have h2 := bL_len (LWay cs nm d) 1
          omega
        rw [← hr] at hq
        have hr' := hr.symm
        have hmr0 : hS mStr eStr (mkS mStr eStr 1 r0) 1 = eS eStr 1 r0 := hS_mk mStr_idem r0 1
        have hir0 : eS eStr 1 (mkS mStr eStr 1 r0) = eS eStr 1 r0 := eS_idem mStr_idem r0 1
        have hpr0 := eS_le eStr_inc r0 1
        simp -implicitDefEqProofs only [Tryz.f3, dnmt, ddt, d0s, go_sem, hr', hmr0, hir0, hh, Nat.reduceAdd, Nat.reduceMul, Nat.reduceLeDiff, Nat.reduceEqDiff, reduceCtorEq, Nat.reduceSub, Int.reduceNeg, Nat.reduceMod, Nat.reduceBEq, Nat.reduceLT]
        repeat' (first | with_reducible apply And.intro | with_reducible intro _ | ((first | apply brB_split | apply aPickB_split | apply gB_split | apply adB_split) <;> intro hb <;> simp -implicitDefEqProofs only [hb, go_sem, hr', hmr0, hir0, hh, Nat.reduceAdd, Nat.reduceMul, Nat.reduceLeDiff, Nat.reduceEqDiff, reduceCtorEq, Nat.reduceSub, Int.reduceNeg, Nat.reduceMod, Nat.reduceBEq, Nat.reduceLT] <;> try simp only [qz] at hb))
        all_goals first | rfl | omega | with_reducible assumption | exact absurd rfl (by assumption) | (simp at *; done) | trace_state
end
end Go.V
namespace Go.V
open Go Go.Proofs Go.ChangeShapes Go.WideShapes Go.ChangeAt Go.RowKit
set_option maxRecDepth 100000
section
variable {H : Type} {enc : TypeId × Value → H} {W : World} {P : Program}

/-- Every block of it. -/
def pW (W : World) : Nat → Prop := fun b => b < W.heap.size
/-- Whatever is read at this type reads as such cells. -/
def Rd (P : Program) (W : World) (enc : TypeId × Value → H) (t : TypeId) (q : List T → Prop) : Prop :=
  ∀ (n : Nat) (cs : List Value) (x : DataW H × List MemPlace), DataW.trod enc P W 0 (fun _ => true) true n t cs = some x → ∃ ts, q ts ∧ RoL W (pW W) ts cs

theorem Rd.str {t : TypeId} (u : P.underlying t = some .string) : Rd P W enc t fun ts => ∃ s, ts = [.v (.string s)] := fun n cs x h => by
  obtain ⟨s, rfl, _, hs⟩ := DataW.trod_string u h
  exact ⟨_, ⟨s, rfl⟩, .cons _ _ _ _ (.v _ hs) .nil⟩
theorem Rd.int {t : TypeId} (u : P.underlying t = some (.int .i64)) : Rd P W enc t fun ts => ∃ k, ts = [.v (.int .i64 k)] := fun n cs x h => by
  obtain ⟨k, rfl, _, hs⟩ := DataW.trod_int u h
  exact ⟨_, ⟨k, rfl⟩, .cons _ _ _ _ (.v _ trivial) .nil⟩
/-- A field of a struct. -/
theorem fieldAt {fs : Array Field} {l : List (TypeId × Nat)} (hl : (fs.toList.map fun f => (f.type, f.offset)) = l) {i : Nat} {t : TypeId} {o : Nat} (hi : l[i]? = some (t, o)) : ∃ f, fs[i]? = some f ∧ f.type = t ∧ f.offset = o := by
  rw [← hl, List.getElem?_map] at hi
  cases hf : fs.toList[i]? with
  | none => rw [hf] at hi; cases hi
  | some f =>
    rw [hf] at hi
    simp only [Option.map_some, Option.some.injEq, Prod.mk.injEq] at hi
    exact ⟨f, by rw [← Array.getElem?_toList]; exact hf, hi.1, hi.2⟩
theorem Rd.field {t : TypeId} {fs : Array Field} (u : P.underlying t = some (.struct fs)) {n : Nat} {cs : List Value} {x : DataW H × List MemPlace} (h : DataW.trod enc P W 0 (fun _ => true) true n t cs = some x)
    {l : List (TypeId × Nat)} (hl : (fs.toList.map fun f => (f.type, f.offset)) = l) {i : Nat} {ft : TypeId} {o k : Nat} (hi : l[i]? = some (ft, o)) (hk : P.cellsOf ft = k) {q : List T → Prop} (hr : Rd P W enc ft q) :
    ∃ ts, q ts ∧ RoL W (pW W) ts ((cs.drop o).take k) := by
  obtain ⟨xs, m, rfl, _, _, hxs, hf⟩ := DataW.trod_struct u h
  obtain ⟨f, h1, h2, h3⟩ := fieldAt hl hi
  have h4 := hf i f h1
  rw [h2, h3, hk] at h4
  have hlt : i < xs.length := by
    rw [hxs]
    exact (Array.getElem?_eq_some_iff.1 h1).1
  rw [List.getElem?_eq_getElem hlt] at h4
  exact hr _ _ _ h4
theorem Rd.len {t : TypeId} {fs : Array Field} (u : P.underlying t = some (.struct fs)) {n : Nat} {cs : List Value} {x : DataW H × List MemPlace} (h : DataW.trod enc P W 0 (fun _ => true) true n t cs = some x) : cs.length = P.cellsOf t := by
  obtain ⟨xs, m, rfl, _, h3, _, _⟩ := DataW.trod_struct u h
  exact h3
theorem Rd.slice {α : Type} (E : Enc α) {t e : TypeId} (u : P.underlying t = some (.slice e)) (hn : P.cellsOf e = E.n) (h0 : 0 < E.n) (he : Rd P W enc e fun ts => ∃ a, ts = E.enc a) :
    Rd P W enc t fun ts => ∃ xs : List α, ts = [.sl E.n (xs.map E.enc)] := fun n cs x h => by
  rcases DataW.trod_slice u h with ⟨rfl, _⟩ | ⟨a, len, cap, elems, rest, m, rfl, rfl, _, _, hlc, hcm, hel, hes, _⟩
  · exact ⟨_, ⟨[], rfl⟩, .cons _ _ _ _ (.nil _) .nil⟩
  · rw [hn] at hes
    have key : ∀ k, k ≤ len → ∃ (xs : List α) (vs : List Value), xs.length = k ∧ vs.length = k * E.n ∧ RoL W (pW W) (xs.map E.enc).flatten vs ∧ (0 < k → a.block < W.heap.size) ∧ ∀ j v, vs[j]? = some v → W.cell? (a.add j) = some v := fun k => by
      induction k with
      | zero => exact fun _ => ⟨[], [], rfl, by simp, .nil, fun h => absurd h (Nat.lt_irrefl _), fun j v hj => by simp at hj⟩
      | succ k ih =>
        intro hk
        obtain ⟨xs, vs, h1, h2, h3, h4, h5⟩ := ih (by omega)
        have h6 := hes k (by omega)
        rw [List.getElem?_eq_getElem (by omega)] at h6
        obtain ⟨cs, h7, h8⟩ := Option.bind_eq_some_iff.1 h6
        obtain ⟨ts, ⟨y, rfl⟩, h9⟩ := he _ _ _ h8
        obtain ⟨q1, q2, q3⟩ := World.cells?_some h7
        have hb : a.block < W.heap.size := by
          have := World.cells?_block h7 h0
          rwa [block_add] at this
        refine ⟨xs ++ [y], vs ++ cs, by simp [h1], ?_, ?_, fun _ => hb, fun j v hj => ?_⟩
        · have : cs.length = E.n := by rw [← h9.len, E.len]
          rw [List.length_append, h2, this, Nat.succ_mul]
        · rw [List.map_append, List.flatten_append]
          exact h3.append (by simpa using h9)
        · by_cases hj2 : j < vs.length
          · rw [List.getElem?_append_left hj2] at hj
            exact h5 j v hj
          · rw [List.getElem?_append_right (by omega)] at hj
            have hjl : j - vs.length < E.n := by
              have := (List.getElem?_eq_some_iff.1 hj).1
              have h10 : cs.length = E.n := by rw [← h9.len, E.len]
              omega
            have := q3 (j - vs.length) hjl
            rw [add_add'] at this
            rw [show j = k * E.n + (j - vs.length) from by omega, this]
            exact hj
    obtain ⟨xs, vs, h1, h2, h3, h4, h5⟩ := key len (Nat.le_refl _)
    refine ⟨_, ⟨xs, rfl⟩, .cons _ _ _ _ (.sl E.n _ a len cap vs (by simp [h1]) hlc hcm (fun hne => ?_) (fun c hc => ?_) h5 h3) .nil⟩
    · refine h4 ?_
      rcases Nat.eq_zero_or_pos len with h | h
      · exact absurd (by rw [List.eq_nil_of_length_eq_zero (h1.trans h)]; rfl) hne
      · exact h
    · obtain ⟨y, _, rfl⟩ := List.mem_map.1 hc
      exact E.len y
/-- A list of cells, cut. -/
theorem RoL.cut {W : World} {pr : Nat → Prop} {ts ts' : List T} {cs : List Value} (o k : Nat) (h1 : RoL W pr ts ((cs.drop o).take k)) (h2 : RoL W pr ts' (cs.drop (o + k))) : RoL W pr (ts ++ ts') (cs.drop o) := by
  have e : cs.drop o = (cs.drop o).take k ++ cs.drop (o + k) := by rw [← List.drop_drop, List.take_append_drop]
  rw [e]
  exact h1.append h2
theorem RoL.stop {W : World} {pr : Nat → Prop} {cs : List Value} {n : Nat} (h : cs.length = n) : RoL W pr [] (cs.drop n) := by
  rw [List.drop_of_length_le (by omega)]
  exact .nil
end
end Go.V
namespace Go.Proofs.YtniaalhdkippdaaGreatDoor
open Go Go.Proofs Go.ChangeShapes Go.WideShapes Go.ChangeAt Go.RowKit
set_option maxRecDepth 100000
theorem own : ownKnob Tryz.prog.godebug = none := by kernel_rfl
/-- The cells that hold such data. -/
def flatD : Nat → DataW Unit → List Value
  | 0, _ => []
  | _ + 1, .lit (.int k v) => [.int k v]
  | n + 1, .agg xs => xs.flatMap (flatD n)
  | _ + 1, _ => []
noncomputable def gOf (n : String) : Nat := (Tryz.prog.globalNamed n).getD 0
noncomputable def layAt (n : String) (d : DataW Unit) (h : Array Obj) : Array Obj := h.modify (gOf n) fun
  | .cells _ t frozen => .cells (flatD 5 d).toArray t frozen
  | o => o
noncomputable def laidWorld (os : Os) : World :=
  { World.holding Tryz.prog os ⟨#[], #[], []⟩ with heap := layAt "unicode/utf8.first" Rows.laid_unicode_utf8_first (layAt "unicode/utf8.acceptRanges" Rows.laid_unicode_utf8_acceptRanges (World.holding Tryz.prog os ⟨#[], #[], []⟩).heap) }
noncomputable def args0 : Array Value := #[.slice none 0 0, .string ⟨#[]⟩, .string ⟨#[]⟩]
theorem laid_met (os : Os) : laidMet Tryz.prog Rows.fnExactLookWayRow.laid ((laidWorld os).forCall (fun _ _ => 0) ⟨#[], args0, []⟩).memory :=
  laidMet_of_run' 8 (by kernel_rfl) (by kernel_rfl)
theorem reads (os : Os) {H : Type} (enc : TypeId × Value → H) : ∃ places, DataW.whole enc Tryz.prog ((laidWorld os).forCall (fun _ _ => 0) ⟨#[], args0, []⟩).memory Tryz.f3.params.toList Rows.fnExactLookWaySpec.vars false args0.toList 8 = some ([.nil, .lit (.string []), .lit (.string [])], [], places) :=
  ⟨[], by kernel_rfl⟩
theorem func3 : Tryz.prog.funcs[3]? = some Tryz.f3 := by kernel_rfl
/-- What every call gives. -/
def Every : Prop := ∀ (H : Type) (enc : TypeId × Value → H) (W : World) (base : Nat) (args : Array Value) (ds gs : List (DataW H)) (before : List MemPlace)
    (_ : ∀ (j : Nat) t v, Tryz.f3.params[j]? = some t → args[j]? = some v → Value.okWide Tryz.prog W .any base t v)
    (_ : DataW.Whole enc Tryz.prog Tryz.f3.params.toList Rows.fnExactLookWaySpec.vars false W args.toList ds gs before) (_ : W.ShapedOpen Tryz.prog),
    Calls Tryz.prog 3 args W fun e W' => ∃ v, e = .returned v ∧ Rows.fnExactLookWaySpec.post enc Tryz.prog Tryz.f3 false true false false W args v W'
theorem lifted (hE : Every) (os : Os) (started : os.Started) (H : Type) (enc : TypeId × Value → H) (F : Stop.Interp) :
    ReturnsInHanded {} Tryz.checked os 3 .any ((OpenSpec.ofChange Rows.fnExactLookWaySpec).preRow enc Tryz.prog Tryz.f3 Rows.fnExactLookWayRow.domain false Rows.fnExactLookWayRow.laid) (((OpenSpec.ofChange Rows.fnExactLookWaySpec).at F).post enc Tryz.prog Tryz.f3 false true false false) := by
  obtain ⟨places, hx⟩ := reads os enc
  refine returnsInHanded_of_row (C := Tryz.checked) (s := OpenSpec.ofChange Rows.fnExactLookWaySpec) own started (by kernel_rfl) func3
    (witness_row_at (enc := enc) (C := Tryz.checked) false (laidWorld os) args0 rfl (by kernel_rfl) (by kernel_rfl) (by kernel_rfl)
      (OpenSpec.preRow_of_cond 8 hx (by kernel_rfl) (fun k hk => by cases hk) (by kernel_rfl) (laid_met os))) ?_
  intro W base args ds gs before hval hW _ _ _ _ hS _
  exact hE H enc W base args ds gs before hval hW hS
theorem said (hE : Every) : Rows.FnExactLookWaySaid :=
  OpenClaim.holds_of_cond 3 Tryz.f3 rfl rfl rfl rfl rfl rfl rfl ⟨rfl, rfl, rfl, rfl, rfl⟩ rfl rfl rfl rfl rfl (by kernel_rfl) func3 (by kernel_rfl)
    (of_decide_eq_true (by kernel_rfl)) (by unfold Func.isWrapper; first | (rw [if_pos (by decide +kernel)]; kernel_rfl) | (rw [if_neg (by decide +kernel)]; exact ⟨rfl, rfl⟩))
    (fun os started H enc _ F => by rw [OpenClaim.pre_eq_preRow]; exact lifted hE os started H enc F)
theorem params3 : Tryz.f3.params = #[22, 9, 9] := rfl
/-- No parameter wants a stand-in; the program's own looks are off. -/
theorem plain (f : FuncId) (fn : Func) (hf : Tryz.pinned.checked.prog.funcNamed "loop.example/satchel/laws.FnExactLookWay" = some f) (hfn : Tryz.pinned.checked.prog.funcs[f]? = some fn) :
    false = Tryz.pinned.checked.prog.looks [] ∧ ∀ (j : Nat) t, fn.params[j]? = some t → Tryz.pinned.checked.prog.wantsStandIn t = false := by
  obtain rfl : f = 3 := Option.some.inj ((show Tryz.prog.funcNamed "loop.example/satchel/laws.FnExactLookWay" = some 3 by kernel_rfl).symm.trans hf) |>.symm
  obtain rfl : fn = Tryz.f3 := (Option.some.inj (func3.symm.trans hfn)).symm
  refine ⟨by kernel_rfl, fun j t ht => ?_⟩
  rw [params3] at ht
  have hm : t ∈ [22, 9, 9] := by simpa using Array.mem_of_getElem? ht
  have hall : ([22, 9, 9].all fun u => !Tryz.prog.wantsStandIn u) = true := by kernel_rfl
  exact (show Tryz.prog.wantsStandIn t = false by simpa using List.all_eq_true.1 hall t hm)
theorem card_of (hE : Every) : Rows.FnExactLookWayCardSaid :=
  Claim7.holds_tied_plain_at .later [] _ _ _ _ (said hE) (fun _ h => by cases h) (by kernel_rfl) (fun _ h => by cases h) fnExactLookWay_row_tie rfl ⟨rfl, rfl⟩ (by kernel_rfl) rfl plain (by kernel_rfl)
end Go.Proofs.YtniaalhdkippdaaGreatDoor
namespace Go.V
open Go Go.Proofs Go.ChangeShapes Go.WideShapes Go.ChangeAt Go.RowKit
set_option maxRecDepth 100000
set_option linter.unusedVariables false
set_option maxHeartbeats 4000000 in
theorem con3 (m : Int) (cs : List Cf) (nm : ByteArray) (d : ByteArray) : Con Tryz.prog m 3 ((lc ECf.asl (lc AStr (lc AStr l0))).enc (cs, nm, d, ())) ((lc ECf.asl (lc AStr (lc AStr l0))).enc (cs, nm, d, ())) (.t (.v (.bool true))) := by
  have g0 : GOk Tryz.prog (Gof m []) ∧ GDet (Gof m []) := GOk_nil
  have g1 := GOk_cons g0 (good75 g0)
  have g2 := GOk_cons g1 (good123 g1)
  have g3 := GOk_cons g2 (good76 g2 rfl)
  have g4 := GOk_cons g3 (good29 g3 ⟨rfl, rfl⟩)
  have g5 := GOk_cons g4 (good6 g4 rfl)
  have g6 := GOk_cons g5 (good81 g5)
  have g7 := GOk_cons g6 (good125 g6)
  have g8 := GOk_cons g7 (good82 g7 rfl)
  have g9 := GOk_cons g8 (good33 g8 ⟨rfl, rfl⟩)
  have g10 := GOk_cons g9 (good8 g9 rfl)
  have g11 := GOk_cons g10 (good10 g10)
  have g12 := GOk_cons g11 (good130 g11)
  have g13 := GOk_cons g12 (good91 g12 rfl)
  have g14 := GOk_cons g13 (good39 g13 ⟨rfl, rfl⟩)
  have g15 := GOk_cons g14 (good11 g14 rfl)
  have g16 := GOk_cons g15 (good40 g15)
  have g17 := GOk_cons g16 (good13 g16 rfl)
  have g18 := GOk_cons g17 (good41 g17 rfl)
  have g19 := GOk_cons g18 (good12 g18 ⟨rfl, rfl, rfl⟩)
  have g20 := GOk_cons g19 (good14 g19 rfl)
  have g21 := GOk_cons g20 (good77 g20)
  have g22 := GOk_cons g21 (good95 g21)
  have g23 := GOk_cons g22 (good78 g22 rfl)
  have g24 := GOk_cons g23 (good30 g23 ⟨rfl, rfl⟩)
  have g25 := GOk_cons g24 (good42 g24 rfl)
  have g26 := GOk_cons g25 (good43 g25)
  have g27 := GOk_cons g26 (good94 g26)
  have g28 := GOk_cons g27 (good142 g27 rfl)
  have g29 := GOk_cons g28 (good92 g28 ⟨rfl, rfl⟩)
  have g30 := GOk_cons g29 (good143 g29)
  have g31 := GOk_cons g30 (good106 g30 ⟨rfl, rfl, rfl⟩)
  have g32 := GOk_cons g31 (good107 g31)
  have g33 := GOk_cons g32 (good79 g32)
  have g34 := GOk_cons g33 (good174 g33 ⟨rfl, rfl⟩)
  have g35 := GOk_cons g34 (good144 g34 ⟨rfl, rfl, rfl, rfl, rfl⟩)
  have g36 := GOk_cons g35 (good108 g35 ⟨rfl, rfl⟩)
  have g37 := GOk_cons g36 (good56 g36 ⟨rfl, rfl, rfl, rfl, rfl⟩)
  have g38 := GOk_cons g37 (good93 g37)
  have g39 := GOk_cons g38 (good44 g38 ⟨rfl, rfl, rfl, rfl, rfl⟩)
  have g40 := GOk_cons g39 (good15 g39 ⟨rfl, rfl, rfl⟩)
  have g41 := GOk_cons g40 (good31 g40)
  have g42 := GOk_cons g41 (good124 g41)
  have g43 := GOk_cons g42 (good80 g42 rfl)
  have g44 := GOk_cons g43 (good32 g43 ⟨rfl, rfl, rfl, rfl⟩)
  have g45 := GOk_cons g44 (good7 g44 ⟨rfl, rfl, rfl, rfl⟩)
  have g46 := GOk_consX g45 (good184 m)
  have g47 := GOk_cons g46 (good160 g46 rfl)
  have g48 := GOk_consX g47 (good200 m)
  have g49 := GOk_cons g48 (good194 g48 rfl)
  have g50 := GOk_consX g49 (good195 m)
  have g51 := GOk_cons g50 (good196 g50)
  have g52 := GOk_cons g51 (good201 g51)
  have g53 := GOk_cons g52 (good197 g52 rfl)
  have g54 := GOk_cons g53 (good185 g53 ⟨rfl, rfl, rfl, rfl⟩)
  have g55 := GOk_cons g54 (good161 g54 rfl)
  have g56 := GOk_cons g55 (good127 g55 ⟨rfl, rfl⟩)
  have g57 := GOk_cons g56 (good88 g56 rfl)
  have g58 := GOk_cons g57 (good85 g57)
  have g59 := GOk_cons g58 (good164 g58)
  have g60 := GOk_cons g59 (good186 g59)
  have g61 := GOk_cons g60 (good165 g60 rfl)
  have g62 := GOk_cons g61 (good166 g61 rfl)
  have g63 := GOk_cons g62 (good128 g62 ⟨rfl, rfl, rfl⟩)
  have g64 := GOk_cons g63 (good89 g63 ⟨rfl, rfl⟩)
  have g65 := GOk_cons g64 (good35 g64 ⟨rfl, rfl⟩)
  have g66 := GOk_cons g65 (good151 g65)
  have g67 := GOk_cons g66 (good150 g66 rfl)
  have g68 := GOk_cons g67 (good131 g67 rfl)
  have g69 := GOk_cons g68 (good170 g68 ⟨rfl, rfl⟩)
  have g70 := GOk_cons g69 (good133 g69 rfl)
  have g71 := GOk_cons g70 (good132 g70 rfl)
  have g72 := GOk_cons g71 (good171 g71 rfl)
  have g73 := GOk_cons g72 (good134 g72 rfl)
  have g74 := GOk_cons g73 (good96 g73 ⟨rfl, rfl, rfl⟩)
  have g75 := GOk_cons g74 (good64 g74)
  have g76 := GOk_cons g75 (good135 g75)
  have g77 := GOk_cons g76 (good97 g76 ⟨rfl, rfl⟩)
  have g78 := GOk_cons g77 (good45 g77 ⟨rfl, rfl⟩)
  have g79 := GOk_cons g78 (good84 g78 ⟨rfl, rfl⟩)
  have g80 := GOk_cons g79 (good87 g79 rfl)
  have g81 := GOk_cons g80 (good149 g80)
  have g82 := GOk_cons g81 (good115 g81 ⟨rfl, rfl⟩)
  have g83 := GOk_cons g82 (good177 g82)
  have g84 := GOk_cons g83 (good116 g83 rfl)
  have g85 := GOk_cons g84 (good148 g84 ⟨rfl, rfl, rfl, rfl, rfl, rfl⟩)
  have g86 := GOk_cons g85 (good113 g85 ⟨rfl, rfl⟩)
  have g87 := GOk_cons g86 (good155 g86)
  have g88 := GOk_cons g87 (good119 g87 rfl)
  have g89 := GOk_cons g88 (good65 g88 rfl)
  have g90 := GOk_cons g89 (good114 g89 ⟨rfl, rfl⟩)
  have g91 := GOk_cons g90 (good152 g90 rfl)
  have g92 := GOk_cons g91 (good117 g91 rfl)
  have g93 := GOk_consX g92 (good191 m)
  have g94 := GOk_cons g93 (good178 g93 rfl)
  have g95 := GOk_cons g94 (good154 g94 rfl)
  have g96 := GOk_cons g95 (good153 g95)
  have g97 := GOk_cons g96 (good118 g96 ⟨rfl, rfl⟩)
  have g98 := GOk_cons g97 (good63 g97 ⟨rfl, rfl, rfl, rfl, rfl, rfl⟩)
  have g99 := GOk_cons g98 (good181 g98)
  have g100 := GOk_cons g99 (good158 g99 rfl)
  have g101 := GOk_cons g100 (good126 g100 rfl)
  have g102 := GOk_cons g101 (good83 g101 ⟨rfl, rfl⟩)
  have g103 := GOk_cons g102 (good86 g102)
  have g104 := GOk_cons g103 (good34 g103 ⟨rfl, rfl, rfl, rfl, rfl, rfl⟩)
  have g105 := GOk_cons g104 (good16 g104 ⟨rfl, rfl⟩)
  have g106 := GOk_cons g105 (good37 g105)
  have g107 := GOk_cons g106 (good36 g106 rfl)
  have g108 := GOk_cons g107 (good169 g107)
  have g109 := GOk_cons g108 (good129 g108 rfl)
  have g110 := GOk_cons g109 (good90 g109 ⟨rfl, rfl⟩)
  have g111 := GOk_cons g110 (good38 g110 ⟨rfl, rfl⟩)
  have g112 := GOk_cons g111 (good9 g111 ⟨rfl, rfl, rfl, rfl, rfl⟩)
  have hg := good3 g112 ⟨rfl, rfl, rfl, rfl, rfl, rfl, rfl, rfl, rfl⟩
  obtain ⟨res, h1, _, h3, _⟩ := hg.ro ((lc ECf.asl (lc AStr (lc AStr l0))).enc (cs, nm, d, ())) (fun r => r = .t (.v (.bool true))) (by
    show c3 _ _
    rw [c3, ctR_eq, (lc ECf.asl (lc AStr (lc AStr l0))).ed]
    exact ⟨trivial, rfl⟩)
  rw [h1] at h3
  exact h3

section
variable {H : Type} {enc : TypeId × Value → H} {W : World}
noncomputable def fsOf (t : TypeId) : Array Field := match Tryz.prog.underlying t with | some (.struct fs) => fs | _ => #[]
theorem v3 : Tryz.prog.underlying 3 = some (.int .i64) := by kernel_rfl
theorem w3 : Tryz.prog.cellsOf 3 = 1 := by kernel_rfl
theorem rdInt : Rd Tryz.prog W enc 3 fun ts => ∃ a, ts = EInt.enc a := fun n cs x h => Rd.int v3 n cs x h
theorem v9 : Tryz.prog.underlying 9 = some .string := by kernel_rfl
theorem w9 : Tryz.prog.cellsOf 9 = 1 := by kernel_rfl
theorem rdStr : Rd Tryz.prog W enc 9 fun ts => ∃ a, ts = EStr.enc a := fun n cs x h => Rd.str v9 n cs x h
theorem v24 : Tryz.prog.underlying 24 = some (.slice 9) := by kernel_rfl
theorem w24 : Tryz.prog.cellsOf 24 = 1 := by kernel_rfl
theorem v165 : Tryz.prog.underlying 165 = some (.struct (fsOf 165)) := by kernel_rfl
theorem l165 : ((fsOf 165).toList.map fun f => (f.type, f.offset)) = [(9, 0), (9, 1)] := by kernel_rfl
theorem w165 : Tryz.prog.cellsOf 165 = 2 := by kernel_rfl
theorem rdWy : Rd Tryz.prog W enc 165 fun ts => ∃ a, ts = EWy.enc a := fun n cs x h => by
  have hl := Rd.len v165 h
  rw [w165] at hl
  obtain ⟨_, ⟨a0, rfl⟩, h0⟩ := Rd.field v165 h l165 (i := 0) rfl w9 (Rd.str v9)
  obtain ⟨_, ⟨a1, rfl⟩, h1⟩ := Rd.field v165 h l165 (i := 1) rfl w9 (Rd.str v9)
  exact ⟨_, ⟨⟨a0, a1⟩, rfl⟩, (RoL.cut 0 1 h0 (RoL.cut 1 1 h1 (RoL.stop hl)))⟩
theorem v41 : Tryz.prog.underlying 41 = some (.slice 165) := by kernel_rfl
theorem w41 : Tryz.prog.cellsOf 41 = 1 := by kernel_rfl
theorem v43 : Tryz.prog.underlying 43 = some (.struct (fsOf 43)) := by kernel_rfl
theorem l43 : ((fsOf 43).toList.map fun f => (f.type, f.offset)) = [(9, 0), (24, 1), (41, 2)] := by kernel_rfl
theorem w43 : Tryz.prog.cellsOf 43 = 3 := by kernel_rfl
theorem rdCf : Rd Tryz.prog W enc 43 fun ts => ∃ a, ts = ECf.enc a := fun n cs x h => by
  have hl := Rd.len v43 h
  rw [w43] at hl
  obtain ⟨_, ⟨a0, rfl⟩, h0⟩ := Rd.field v43 h l43 (i := 0) rfl w9 (Rd.str v9)
  obtain ⟨_, ⟨a1, rfl⟩, h1⟩ := Rd.field v43 h l43 (i := 1) rfl w24 (Rd.slice EStr v24 w9 (by decide) rdStr)
  obtain ⟨_, ⟨a2, rfl⟩, h2⟩ := Rd.field v43 h l43 (i := 2) rfl w41 (Rd.slice EWy v41 w165 (by decide) rdWy)
  exact ⟨_, ⟨⟨a0, a1, a2⟩, rfl⟩, (RoL.cut 0 1 h0 (RoL.cut 1 1 h1 (RoL.cut 2 1 h2 (RoL.stop hl))))⟩
theorem v22 : Tryz.prog.underlying 22 = some (.slice 43) := by kernel_rfl
theorem w22 : Tryz.prog.cellsOf 22 = 1 := by kernel_rfl
/-- The package's number, whatever it is. -/
theorem glOk_of (h : W.ShapedOpen Tryz.prog) : ∃ m, GlOk m W (pW W) := by
  obtain ⟨cs, h1, h2, h3⟩ := h.1 0 #[.int .i64 0] 3 (Nat.lt_of_lt_of_le (Nat.lt_succ_self 0) (Nat.le_of_ble_eq_true (by kernel_rfl))) (by kernel_rfl)
  obtain ⟨ts, t1, _, t3⟩ := h3 (by kernel_rfl)
  have hts : ts = [3] := Option.some.inj (t1.symm.trans (by kernel_rfl))
  subst hts
  have hsz : cs.size = 1 := h2
  have h0 : cs[0]? = some cs[0] := Array.getElem?_eq_getElem (by omega)
  obtain ⟨u, hu, hok⟩ := t3 0 _ h0
  simp at hu
  subst hu
  unfold Cell.ok at hok
  rw [v3] at hok
  generalize cs[0] = v at h0 hok
  have hb : (0 : Nat) < W.heap.size := (Array.getElem?_eq_some_iff.1 h1).1
  cases v with
  | int k n =>
    have hk : k = .i64 := hok.1
    subst hk
    refine ⟨n, .rop _ _ [.int .i64 n] (fun _ => hb) (fun j u hj => ?_) (.cons _ _ _ _ (.v _ trivial) .nil)⟩
    cases j with
    | zero =>
      simp at hj
      subst hj
      simp [World.cell?, Addr.add, glb, h1, h0]
    | succ j => simp at hj
  | _ => exact hok.elim
end
theorem every : YtniaalhdkippdaaGreatDoor.Every := by
  intro H enc W base args ds gs before hval0 hW hS
  have hval : ∀ (j : Nat) t v, Tryz.f3.params[j]? = some t → args[j]? = some v → Value.okWide Tryz.prog W .any base t v := hval0
  have hW' := hW
  obtain ⟨p, q, hA0, hV, rfl, hfz, hnd⟩ := hW
  have hA : DataW.TrodAll enc Tryz.prog W 0 (fun _ => true) true [22, 9, 9] args.toList ds p := hA0
  rw [YtniaalhdkippdaaGreatDoor.params3] at hval
  obtain ⟨u0, u1, u2, d0, d1, d2, p0, p1, p2, rfl, rfl, rfl, h0, h1, h2⟩ := trodAll_three hA
  obtain ⟨rfl, rfl⟩ := trodVars_none hV
  have hlt : ∀ x ∈ (p0 ++ p1 ++ p2) ++ [], x.block < W.heap.size := fun x hx => hW'.lt x hx
  have k0 := h0
  obtain ⟨n0, t0⟩ := h0
  obtain ⟨_, ⟨cs, rfl⟩, r0⟩ := (Rd.slice ECf v22 w43 (by decide) rdCf) _ _ _ t0
  have k1 := h1
  obtain ⟨n1, t1⟩ := h1
  obtain ⟨_, ⟨nm, rfl⟩, r1⟩ := (Rd.str v9) _ _ _ t1
  have k2 := h2
  obtain ⟨n2, t2⟩ := h2
  obtain ⟨_, ⟨d, rfl⟩, r2⟩ := (Rd.str v9) _ _ _ t2
  have e0 : u0.cells.toList = [u0] := by
    have := hval 0 22 u0 rfl rfl
    unfold Value.okWide at this
    rw [v22] at this
    cases u0 with
    | agg cs => simp only [Cell.okWide, v22, Cell.ok] at this
    | _ => rfl
  rw [e0] at r0
  have r0' : Ro W (pW W) (.sl 3 (cs.map ECf.enc)) u0 := by
    cases r0 with | cons _ _ _ _ h _ => exact h
  have a0 : AHas ρ0 W (pW W) (.t (.sl 3 (cs.map ECf.enc))) u0 [] := .t _ _ r0'
  have e1 : u1.cells.toList = [u1] := by
    have := hval 1 9 u1 rfl rfl
    unfold Value.okWide at this
    rw [v9] at this
    cases u1 with
    | agg cs => simp only [Cell.okWide, v9, Cell.ok] at this
    | _ => rfl
  rw [e1] at r1
  have r1' : Ro W (pW W) (.v (.string nm)) u1 := by
    cases r1 with | cons _ _ _ _ h _ => exact h
  have a1 : AHas ρ0 W (pW W) (.t (.v (.string nm))) u1 [] := .t _ _ r1'
  have e2 : u2.cells.toList = [u2] := by
    have := hval 2 9 u2 rfl rfl
    unfold Value.okWide at this
    rw [v9] at this
    cases u2 with
    | agg cs => simp only [Cell.okWide, v9, Cell.ok] at this
    | _ => rfl
  rw [e2] at r2
  have r2' : Ro W (pW W) (.v (.string d)) u2 := by
    cases r2 with | cons _ _ _ _ h _ => exact h
  have a2 : AHas ρ0 W (pW W) (.t (.v (.string d))) u2 [] := .t _ _ r2'
  obtain ⟨m, hgl⟩ := glOk_of hS
  have hargs : AHasL ρ0 W (pW W) ((lc ECf.asl (lc AStr (lc AStr l0))).enc (cs, nm, d, ())) [u0, u1, u2] [] := .cons _ _ _ _ [] [] a0 (.cons _ _ _ _ [] [] a1 (.cons _ _ _ _ [] [] a2 .nil))
  have hcall := con3 m cs nm d W (pW W) [u0, u1, u2] [] hgl hargs .nil (fun b hb => by cases hb) (fun b hb => hb)
  refine Calls.mono hcall fun e W' hq => ?_
  obtain ⟨v, pr', G, F, he, hfr, _, _, _, _, hv, _, _⟩ := hq
  obtain ⟨rfl, _⟩ := hv.val
  have hb : Below W.heap.size W W' := ⟨hfr.os, hfr.tape, hfr.output, hfr.size, fun k hk => hfr.block k hk (by simp)⟩
  refine ⟨_, he, _, _, _, [], p0 ++ p1 ++ p2, [], hW', ?_, ?_, rfl, hb.frame _, fun h => by cases h⟩
  · exact trodAll_mk1 (shut_bool (show Tryz.prog.underlying 4 = some .bool by kernel_rfl) _)
  · have := trodAll_mk3 (Below.trod (by kernel_rfl) (by kernel_rfl) (of_decide_eq_true (by kernel_rfl)) k0 hb fun x hx => hlt x (by simp [hx])) (Below.trod (by kernel_rfl) (by kernel_rfl) (of_decide_eq_true (by kernel_rfl)) k1 hb fun x hx => hlt x (by simp [hx])) (Below.trod (by kernel_rfl) (by kernel_rfl) (of_decide_eq_true (by kernel_rfl)) k2 hb fun x hx => hlt x (by simp [hx]))
    simp only [List.append_assoc]
    exact this
end Go.V
namespace Go.Proofs.YtniaalhdkippdaaGreatDoor
theorem fnExactLookWay_card : Rows.FnExactLookWayCardSaid := card_of Go.V.every
end Go.Proofs.YtniaalhdkippdaaGreatDoor
