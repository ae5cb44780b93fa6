/- The row. No condition. -/
import Derived.Test.YtbhhplmkhagobaaGreatDoorKCB
import Derived.Test.YtbhhplmkhagobaaGreatDoorXCB
import Derived.Test.YtbhhplmkhagobaaGreatDoorKCA
import Derived.ProofKit
import Derived.Carry
import Derived.WalkKit
import Derived.Test.YtbhhplmkhagobaaGreatDoorCards
import Derived.Test.YtbhhplmkhagobaaGreatDoorTie
import Derived.OpenShut
import Derived.Deep.DeepHandedRow
namespace Go.V
open Go Go.Proofs
set_option maxRecDepth 100000
set_option linter.unusedSimpArgs false
set_option linter.unusedVariables false
attribute [local go_sem_proc] Nat.reduceAdd Nat.reduceMul Nat.reduceLeDiff Nat.reduceEqDiff reduceCtorEq Nat.reduceSub Int.reduceNeg Nat.reduceMod Nat.reduceBEq Nat.reduceLT
attribute [local go_sem] aPickB.eq_1 aPickB.eq_2 aPick.eq_1 aBox.eq_1 aBox.eq_2 aAlloc.eq_1 aAlloc.eq_2 aLoadB.eq_1 aLoadB.eq_2 aLoadB.eq_3 aLoadB.eq_4 aLoadB.eq_5 aLoadA.eq_1 aLoadA.eq_2 aLoadA.eq_3 aLoadA.eq_4 aLoadA.eq_5 aLoadP.eq_1 aLoadP.eq_2 aLoadP.eq_3 aLoad.eq_1 aLoad.eq_2 aFAx.eq_1 aFAx.eq_2 aFAx.eq_3 aFA.eq_1 aFA.eq_2 aFx.eq_1 aF.eq_1 aF.eq_2 fld.eq_1 elT.eq_1 aIdxH.eq_1 aIdxH.eq_2 aIdxH.eq_3 aIdxH.eq_4 aIdxH.eq_5 aIdxP.eq_1 aIdxP.eq_2 aIndexAddr.eq_1 aIndexAddr.eq_2 aIndexAddr.eq_3 isStr.eq_1 aIndex.eq_1 aSlStr.eq_1 aSlRo.eq_1 aSlZ.eq_1 aSlZ.eq_2 aSlice.eq_1 aSlice.eq_2 aSlice.eq_3 bnd.eq_1 bnd.eq_2 aBuildO.eq_1 aBuildO.eq_2 aBuild.eq_1 aNewArr.eq_1 aNewArr.eq_2 aBS.eq_1 aBS.eq_2 aBuildSlice.eq_1 aBuildSlice.eq_2 aMakeSlice.eq_1 appDeep.eq_1 aApp2.eq_1 aAppend.eq_1 aAppend.eq_2 aStoreB.eq_1 aStoreA.eq_1 obFlat.eq_1 aStore2.eq_1 aStore2.eq_2 aStoreP.eq_1 aStoreP.eq_2 aStore.eq_1 aStore.eq_2 isShl.eq_1 isShl.eq_2 isBool.eq_1 aBinI.eq_1 aBinI.eq_2 aBinB.eq_1 aBinB.eq_2 aEq.eq_1 aEq.eq_2 aEq.eq_3 aEq.eq_4 aEqG.eq_1 aEqG.eq_2 aBin.eq_1 aBin.eq_2 aBin.eq_3 aBin.eq_4 aUn.eq_1 aUn.eq_2 aLenO.eq_1 aLenS.eq_1 aLenS.eq_2 aLenS.eq_3 aLenT.eq_1 aLen.eq_1 aLen.eq_2 aLen.eq_3 bytesOb.eq_1 bytesOb.eq_2 bytesOf.eq_1 bytesOf.eq_2 aNums.eq_1 aNums.eq_2 isU8.eq_1 aCvI.eq_1 aCvS.eq_1 aCvB.eq_1 aCvB.eq_2 aCvT.eq_1 aConv.eq_1 aConv.eq_2 aConv.eq_3 aConv.eq_4 aExO.eq_1 aExO.eq_2 aExtract.eq_1 aNil.eq_1 aNil.eq_2 aNil.eq_3 aCallS.eq_1 aCallS.eq_2 aCallR.eq_1 aCallR.eq_2 aCallK.eq_1 aCallK.eq_2 aCallK.eq_3 aCall.eq_1 aCall.eq_2 takeO.eq_1 AS.takeV.eq_1 AS.takeV.eq_2 AS.takeV.eq_3 AS.takeV.eq_4 AS.takeV.eq_5 AS.takeV.eq_6 AS.takeV.eq_7 AV.oldM.eq_1 AV.oldM.eq_2 AV.oldM.eq_3 AV.oldM.eq_4 AV.oldM.eq_5 AV.oldM.eq_6 AV.oldM.eq_7 AV.oldM.eq_8 AV.oldM.eq_9 AV.oldM.eq_10 AV.oldM.eq_11 AV.oldML.eq_1 AV.oldML.eq_2 subL.eq_1 subL.eq_2 back.eq_1 back.eq_2 back.eq_3 back.eq_4 backL.eq_1 backI.eq_1 backI.eq_2 backI.eq_3 backI.eq_4 backIL.eq_1 aBuiltin.eq_1 aBuiltin.eq_2 aBuiltin.eq_3 aCallee.eq_1 aCallee.eq_2 aCallee.eq_3 abin.eq_1 abin.eq_2 abin.eq_3 abin.eq_4 abin.eq_5 abin.eq_6 abin.eq_7 abin.eq_8 abin.eq_9 abin.eq_10 abin.eq_11 abin.eq_12 abin.eq_13 abin.eq_14 abin.eq_15 abin.eq_17 abin.eq_18 abin.eq_19 abin.eq_20 abin.eq_21 abin.eq_22 abin.eq_23 AS.ev.eq_1 AS.ev.eq_2 AS.ev.eq_3 AS.ev.eq_4 AS.evs.eq_1 AS.evs.eq_2 AS.evp.eq_1 AS.evp.eq_2 AS.put.eq_1 AS.put.eq_2 AS.remL.eq_1 AS.remL.eq_2 AV.has.eq_1 AV.has.eq_2 AV.has.eq_3 AV.has.eq_4 AV.has.eq_5 AV.has.eq_6 AV.has.eq_7 AV.has.eq_8 AV.has.eq_9 AV.has.eq_10 AV.has.eq_11 AV.hasL.eq_1 AV.hasL.eq_2 Ob.drop.eq_1 Ob.drop.eq_2 Ob.drop.eq_3 Ob.drop.eq_4 AV.cells.eq_1 AV.cells.eq_2 AV.cells.eq_3 AV.cells.eq_4 AV.cells.eq_5 AS.snapT.eq_1 AS.snapT.eq_2 AS.snapT.eq_3 AS.snapT.eq_4 AS.snapT.eq_5 AS.snapT.eq_6 AS.snapT.eq_7 AS.snap.eq_1 AS.snap.eq_2 mapO.eq_1 mapO.eq_2 intern.eq_1 intern.eq_2 intern.eq_3 intern.eq_4 intern.eq_5 intern.eq_6 intern.eq_7 intern.eq_8 intern.eq_9 intern.eq_10 intern.eq_11 internL.eq_1 internL.eq_2 zipSl.eq_1 zipSl.eq_2 AV.ids.eq_1 AV.ids.eq_2 AV.ids.eq_3 AV.ids.eq_4 AV.ids.eq_5 AV.ids.eq_6 AV.ids.eq_7 AV.ids.eq_8 AV.ids.eq_9 AV.ids.eq_10 AV.ids.eq_11 AV.idsL.eq_1 AV.idsL.eq_2 AV.sub.eq_1 AV.sub.eq_2 AV.sub.eq_3 AV.sub.eq_4 AV.sub.eq_5 AV.sub.eq_6 AV.sub.eq_7 AV.sub.eq_8 AV.sub.eq_9 AV.sub.eq_10 AV.sub.eq_11 AV.subL.eq_1 AV.subL.eq_2 AS.frzL.eq_1 AS.frzL.eq_2 AS.absT.eq_1 AS.absT.eq_2 AS.absT.eq_4 AS.absL.eq_1 AS.absL.eq_2 AS.absOk.eq_1 AS.absOkL.eq_1 AS.absOkL.eq_2 hid.eq_1 hids.eq_1 hids.eq_2 AS.appBase.eq_1 AS.appBase.eq_2 AS.appSrc.eq_1 appFits.eq_1 appFits.eq_2 appFits.eq_3 avFill.eq_1 avFill.eq_2 avc.eq_1 avc.eq_2 avc1.eq_1 Kd.agg.eq_1 Kd.agg.eq_2 okR.eq_1 okR.eq_2 okR.eq_3 okR.eq_4 okR.eq_5 okR.eq_6 okR.eq_7 okR.eq_8 zt.eq_1 rvB.eq_1 rvP.eq_1 rvA.eq_1 rvA.eq_2 rv1.eq_1 outTO.eq_1 outT.eq_1 outT.eq_2 outT.eq_3 outTn.eq_1 outOO.eq_1 outO.eq_1 outO.eq_2 boxOf.eq_1 outP.eq_1 outP.eq_2 outP.eq_3 outP.eq_4 outP.eq_5 outP.eq_6 outP.eq_7 outP.eq_8 outPL.eq_1 outPL.eq_2 outI.eq_1 outI.eq_2 outI.eq_3 outI.eq_4 outI.eq_5 outIL.eq_1 outZ.eq_1 outZ.eq_2 outZ.eq_3 outZ.eq_4 outZ.eq_5 outZL.eq_1 finO.eq_1 finO.eq_2 fin.eq_1 fin.eq_2 fin.eq_3 cellAV.eq_1 cellAV.eq_2 numsOf.eq_1 numsOf.eq_2 aop.eq_1 aop.eq_2 aop.eq_3 aop.eq_4 aop.eq_5 aop.eq_6 aop.eq_7 aop.eq_8 aop.eq_9 aop.eq_10 aop.eq_11 aop.eq_12 aop.eq_13 aop.eq_14 aop.eq_15 aop.eq_16 aop.eq_17 aop.eq_18 aop.eq_19 aop.eq_20 aop.eq_21 aop.eq_22 aop.eq_23 aop.eq_24 aop.eq_25 aop.eq_26 tmpsOf.eq_1 tmpsOf.eq_2 tmpsOf.eq_3 tmpsOf.eq_4 tmpsOf.eq_5 AV.refs.eq_1 AV.refs.eq_2 AV.refs.eq_3 AV.refs.eq_4 AV.refs.eq_5 AV.refs.eq_6 AV.refs.eq_7 AV.refs.eq_8 AV.refs.eq_9 AV.refs.eq_10 AV.refs.eq_11 AV.refsL.eq_1 AV.refsL.eq_2 refsT.eq_1 refsT.eq_2 refsO.eq_1 refsO.eq_2 refsO.eq_3 refsO.eq_4 refsO.eq_5 refsO.eq_6 refsB.eq_1 refsB.eq_2 clos.eq_1 clos.eq_2 keepL.eq_1 keepL.eq_2 AV.hasM.eq_1 AV.hasM.eq_2 AV.hasM.eq_3 AV.hasM.eq_4 AV.hasM.eq_5 AV.hasM.eq_6 AV.hasM.eq_7 AV.hasM.eq_8 AV.hasM.eq_9 AV.hasM.eq_10 AV.hasM.eq_11 AV.hasML.eq_1 AV.hasML.eq_2 Ob.dropM.eq_1 Ob.dropM.eq_2 Ob.dropM.eq_3 Ob.dropM.eq_4 nsC.eq_1 nsC.eq_2 okGuard.eq_1 okGuard.eq_2 AS.purges.eq_1 AS.purges.eq_2 dropMB.eq_1 dropMB.eq_2 newB.eq_1 newB.eq_2 ptB.eq_1 ptB.eq_2 lookC.eq_1 lookC.eq_2 dropB.eq_1 dropB.eq_2 leS.eq_1 leS.eq_2 leT.eq_1 leT.eq_2 AS.mvs.eq_1 AS.mvs.eq_2 AS.mvA.eq_1 AS.mvA.eq_2 AS.mvB.eq_1 aSetO.eq_1 aSetO.eq_2 aSh.eq_1 aSh.eq_2 arK.eq_1 aIdxA.eq_1 aIdxA.eq_2 arT.eq_1 aSlHB.eq_1 aSlHB.eq_2 aSlHO.eq_1 aSlHZ.eq_1 aSlHZ.eq_2 isSlT.eq_1 isNilC.eq_1 aNilO.eq_1 aNilX.eq_1 aNilX.eq_2 aNilX.eq_3 aNilC.eq_1 aNilC.eq_2 aBinQ.eq_1 aBinQ.eq_2 aMin.eq_1 flT.eq_1 flT.eq_2 flT.eq_3 mpT.eq_1 aMkMap.eq_1 aMkMap.eq_2 strA.eq_1 keyMK.eq_1 keyMK.eq_2 keyMK.eq_3 mkB.eq_1 mkB.eq_2 mkB.eq_3 aMp2.eq_1 aMp1.eq_1 aMp0.eq_1 aMapU.eq_1 aLk2.eq_1 aLk2.eq_2 aLk1.eq_1 aLk0.eq_1 aLookup.eq_1 aLenMO.eq_1 aLenM.eq_1 glV.eq_1 glV.eq_2 evG.eq_1 evG.eq_2 evG.eq_3 evG.eq_4 lkHitO.eq_1 lkHitO.eq_2 lkHitO.eq_3 lkHitO.eq_4 lkHit.eq_1 lkHit.eq_2 lkF.eq_1 lkF.eq_2 lkFind.eq_1 lkFind.eq_2 lkV.eq_1 lkV.eq_2 lkV.eq_3 lkV.eq_4 lkV.eq_5 AS.lkO.eq_1 AS.lkO.eq_2 AS.lkOf.eq_1 rawT.eq_1 rawT.eq_2 rawT.eq_3 rawT.eq_4 rawT.eq_5 rawT.eq_6 rawOf.eq_1 rawOf.eq_2 rawOf.eq_3 rawOf.eq_4 rawOf.eq_5 rawOf.eq_6 rawOf.eq_7 rawOf.eq_8 rawOf.eq_9 rawOf.eq_10 rawOf.eq_11 aLkR.eq_1 aLkR.eq_2 aLk.eq_1 aLk.eq_2 KL.eq_1 lkDrop.eq_1 lkDrop.eq_2 lkParO.eq_1 lkParO.eq_2 lkParO.eq_3 lkParO.eq_4 lkPar.eq_1 lkPar.eq_2 lkI.eq_1 lkI.eq_2 lkIds.eq_1 lkIds.eq_2 adLd.eq_1 run_nil run_b run_l run_skip run_label run_seq run_cond brV_b brB_t brB_f run_block run_exit run_ret run_region runX_nil runX_c runX_c' runX_b runX_b' runX_l runX_l' exB_t exB_f run_o run_op run_opg gV_b gV_t gB_tt gB_ff gB_tf gB_ft rs_eq kv KI aLenN aBS1 aApp1 aStore1 szOk gv gd s0 idOf look_cons lookC frzU_t frzU_f orT orF drop_any drop_nil drop_t drop_h drop_pb drop_pa drop_agg drop_tup drop_fn dropB kill_eq set_eq rem_eq re_eq up_eq get_eq ob_eq Ob.drop apl fpl plainTy AS.frz splice cond_true cond_false List.map_cons List.map_nil List.drop_zero List.drop_succ_cons List.drop_nil List.take_zero List.take_succ_cons List.take_nil List.getElem?_cons_zero List.getElem?_cons_succ List.getElem?_nil List.length_cons List.length_nil Option.map_some Option.map_none Option.bind_some Option.bind_none List.cons_append List.nil_append List.append_nil Option.getD_some Option.getD_none List.all_cons List.all_nil Bool.and_true Bool.true_and Bool.or_false Bool.false_or Bool.or_true Bool.true_or List.flatten_cons List.flatten_nil List.replicate_succ List.replicate_zero and_true true_and avOf_t avOf_f agg_bool agg_int agg_str agg_slice agg_struct agg_func agg_ptr agg_map avc_bool avc_int avc_str avc_fn avc1_bool avc1_int avc1_str avc1_fn zt_bool zt_int zt_str cells_nil cells_t cells_h cells_pb cells_fn snap_t snap_nil snap_h snap_pb snap_fn rv1_one rv1_two outI_t outI_oh outI_on outI_any outI_nil outZ_th outZ_tt outZ_tn outZ_o outZ_any outZ_nil outIL_nil outZL_nil finN finR ne_eq not_false_eq_true not_true_eq_false List.nodup_nil List.not_mem_nil false_implies implies_true eq_self true_or or_true Option.some.injEq shl_add shl_sub shl_mul shl_quo shl_rem shl_and shl_or shl_xor shl_andNot shl_eql shl_neq shl_lss shl_leq shl_gtr shl_geq shl_shr shl_shl appDeep_none appDeep_sn appSrc_h appSrc_nil fits_ft fits_tn fits_tf isStr_slice obFlat_box Nat.le_refl nbeq_self List.length_map updZ_s updZ_n dropM_eq purge_eq newIds_cons newIds_nil purgeT_nil purgeT_cons memN_cons memN_nil bd_d bd_c bd_g bd_p bd_t bd_o preds_nil preds_cons hasIns insB List.any_cons List.any_nil adK_eq adr_nil adG_eq kdOp noLen creates Op.operands Call.operands nsOf adT adI adJ plainB rst List.append_eq nsD_f nsD_n nsD_t nOf_0 nOf_1 nOf_2 chO_0 chO_1 chO_2 keepK_0 keepK_1 keepK_2 eqRes AS.mv fits KM aCallM notNew kdCall arK_i64 arK_i32 arK_u8 arK_u64 arT_sl isNilC_t isNilC_f isNilC_g isNilC_i isNilC_b isNilC_s isNilC_a isNilC_n andBF andBT aCallK_2 ble_dec hid_t hid_nil hid_any hid_pb hid_fn absOk_t absOk_nil absOk_pb absOk_h absOkO_1 decide_true decide_false Array.toList_append chunk_0 chunk_1 chunk_2 chunk_3 back_t back_nil back_ht backL_nil backI_t backI_nil backI_ht backIL_nil AS.mvJ nbeq_dec runR_f runR_t loadB Option.isSome_some Option.isSome_none nodup1 adr_none adr_some adO_s adV_b adV_t adB_tt adB_ff adB_tf adB_ft adS_eq lenL.eq_1 lenO.eq_1 lenO.eq_2 lenV.eq_1 lenV.eq_2 lenV.eq_3 lenV.eq_4 optN optS absT_ft
attribute [local go_sem] ty3 ty4 ty5 ty9 ty21 ty22 ty23 ty25 ty27 ty30 ty32 ty33 ty35 ty37 ty49 ty50 ty52 ty53 ty55 ty56 ty58 ty60 ty62 ty75 ty84 ty86 ty87 ty89 ty90 ty92 ty95 ty110 ty111 ty113 ty121 ty138 ty146 ty155 ty157 ty184 ty186 ty188 ty194 ty197 ty211 ty214 ty223 ty230 ty236 lv37 lv75 lv121 lv146 zb4 leS leT fits AS.mvs encStr_eq aIdx_str EStr_dec decStrs decStrs0 EStr_enc EStr_n encInt_eq aIdx_int EInt_dec decInts decInts0 EInt_enc EInt_n AllV_Int len_Int lc_enc l0_enc asl_enc ag_enc aow_enc ABool_enc AInt_enc AStr_enc AU8_enc ABool_dec AInt_dec AStr_dec AU8_dec asl_dec ag_dec aow_dec bind_some pr2.eq_1 l0_nil lc_cons unT.eq_1 K0.eq_1 M0.eq_1 KI AllV_Str len_Str ctR_eq ctM_eq ro_kd ro_ro mu_kd mu_mu encAd_eq aIdx_Ad EAd_dec decAds decAds0 EAd_enc EAd_n len_Ad Ad_eta AllV_Ad encRc_eq aIdx_Rc ERc_dec decRcs decRcs0 ERc_enc ERc_n len_Rc Rc_eta AllV_Rc encIm_eq aIdx_Im EIm_dec decIms decIms0 EIm_enc EIm_n len_Im Im_eta mkIm.eq_1 owIm_eq AIm_enc AIm_dec encSp_eq aIdx_Sp ESp_dec decSps decSps0 ESp_enc ESp_n len_Sp Sp_eta mkSp.eq_1 owSp_eq ASp_enc ASp_dec encWy_eq aIdx_Wy EWy_dec decWys decWys0 EWy_enc EWy_n len_Wy Wy_eta AllV_Wy encCf_eq aIdx_Cf ECf_dec decCfs decCfs0 ECf_enc ECf_n len_Cf Cf_eta mkCf.eq_1 owCf_eq ACf_enc ACf_dec encGm_eq aIdx_Gm EGm_dec decGms decGms0 EGm_enc EGm_n len_Gm Gm_eta mkGm.eq_1 owGm_eq AGm_enc AGm_dec encBx_eq aIdx_Bx EBx_dec decBxs decBxs0 EBx_enc EBx_n len_Bx Bx_eta mkBx.eq_1 owBx_eq ABx_enc ABx_dec encLs_eq aIdx_Ls ELs_dec decLss decLss0 ELs_enc ELs_n len_Ls Ls_eta AllV_Ls encHs_eq aIdx_Hs EHs_dec decHss decHss0 EHs_enc EHs_n len_Hs Hs_eta mkHs.eq_1 owHs_eq AHs_enc AHs_dec encWd_eq aIdx_Wd EWd_dec decWds decWds0 EWd_enc EWd_n len_Wd Wd_eta mkWd.eq_1 owWd_eq AWd_enc AWd_dec
def catL {α β : Type} (f : α → List β) : List α → List β
  | [] => []
  | x :: r => f x ++ catL f r
section
variable {α β : Type} {f : α → List β}
theorem catL_app (f : α → List β) : ∀ xs ys : List α, catL f (xs ++ ys) = catL f xs ++ catL f ys
  | [], _ => rfl
  | x :: r, ys => by show f x ++ catL f (r ++ ys) = _; rw [catL_app f r ys, ← List.append_assoc]; rfl
theorem catL_step [Inhabited α] (f : α → List β) {xs : List α} {i : Nat} (h : i < xs.length) : catL f (xs.take (i + 1)) = catL f (xs.take i) ++ f (xs.getD i default) := by
  rw [List.take_succ_eq_append_getElem h, catL_app]
  show _ ++ (f xs[i] ++ []) = _
  rw [List.append_nil]
  simp [h]
theorem catL_all (f : α → List β) {xs : List α} {i : Nat} (h : xs.length ≤ i) : catL f (xs.take i) = catL f xs := by rw [List.take_of_length_le h]
theorem catL_len {B : Nat} : ∀ {xs : List α}, (∀ x ∈ xs, (f x).length ≤ B) → (catL f xs).length ≤ B * xs.length
  | [], _ => Nat.zero_le _
  | x :: r, h => by
    have h1 := h x (by simp)
    have h2 := catL_len (xs := r) fun y hy => h y (by simp [hy])
    show (f x ++ catL f r).length ≤ _
    rw [List.length_append, List.length_cons, Nat.mul_succ]; omega
theorem catL_mem {y : β} : ∀ {xs : List α}, y ∈ catL f xs → ∃ x ∈ xs, y ∈ f x
  | x :: r, h => by
    rcases List.mem_append.1 h with h | h
    · exact ⟨x, by simp, h⟩
    · obtain ⟨z, hz, q⟩ := catL_mem (xs := r) h
      exact ⟨z, by simp [hz], q⟩
end
def bxFor (a : Ad) (b : Bx) : List Gm := if b.addr = a then b.mails else []
theorem bxFor_y {a : Ad} {b : Bx} (h : b.addr = a) : bxFor a b = b.mails := if_pos h
theorem bxFor_n {a : Ad} {b : Bx} (h : ¬ b.addr = a) : bxFor a b = [] := if_neg h
def bxsFor (a : Ad) (h : Hs) : List Gm := catL (bxFor a) h.boxes
open Classical in
noncomputable def LBox (w : Wd) (a : Ad) : List Gm := if WdOk w then catL (bxsFor a) w.hosts else []
theorem LBox_y {w : Wd} {a : Ad} (h : WdOk w) : LBox w a = catL (bxsFor a) w.hosts := if_pos h
theorem LBox_n {w : Wd} {a : Ad} (h : ¬ WdOk w) : LBox w a = [] := if_neg h
theorem catL_sum {α β : Type} {f : α → List β} {N : α → Int} (h : ∀ x, ((f x).length : Int) ≤ N x) : ∀ xs : List α, ((catL f xs).length : Int) ≤ sumL N xs
  | [] => Int.le_refl _
  | x :: r => by
    have h1 := h x
    have h2 := catL_sum h r
    show ((f x ++ catL f r).length : Int) ≤ N x + sumL N r
    rw [List.length_append]; omega
theorem sum_app {α : Type} (N : α → Int) : ∀ xs ys : List α, sumL N (xs ++ ys) = sumL N xs + sumL N ys
  | [], ys => by show _ = 0 + _; rw [Int.zero_add]; rfl
  | x :: r, ys => by show N x + sumL N (r ++ ys) = N x + sumL N r + sumL N ys; rw [sum_app N r ys]; omega
theorem sum_nn {α : Type} {N : α → Int} (h : ∀ x, 0 ≤ N x) (xs : List α) : 0 ≤ sumL N xs := by
  have := sum_drop (f := N) (xs := xs) (fun x _ => h x) 0
  exact this
theorem sum_at {α : Type} [Inhabited α] {N : α → Int} (h : ∀ x, 0 ≤ N x) {xs : List α} {i : Nat} (hi : i < xs.length) : sumL N (xs.take i) + N (xs.getD i default) ≤ sumL N xs := by
  have h1 := sum_app N (xs.take i) (xs.drop i)
  rw [List.take_append_drop] at h1
  have h2 := sum_step (f := N) hi
  have h3 := sum_nn h (xs.drop (i + 1))
  omega
theorem mlN_nn (b : Bx) : 0 ≤ mlN b := by unfold mlN; omega
theorem bxN_nn (h : Hs) : 0 ≤ bxN h := sum_nn mlN_nn _
theorem bxFor_len (a : Ad) (b : Bx) : ((bxFor a b).length : Int) ≤ mlN b := by
  unfold bxFor mlN; split
  · omega
  · show ((0 : Nat) : Int) ≤ _; omega
theorem bxsFor_len (a : Ad) (h : Hs) : ((bxsFor a h).length : Int) ≤ bxN h := catL_sum (bxFor_len a) _
def wdN (w : Wd) : Int := sumL bxN w.hosts
theorem out_len {w : Wd} {a : Ad} {i k n : Nat} (hi : i < w.hosts.length) (hk : k < (w.hosts.getD i default).boxes.length) (hn : n ≤ ((w.hosts.getD i default).boxes.getD k default).mails.length) :
    ((catL (bxsFor a) (w.hosts.take i)).length : Int) + (catL (bxFor a) ((w.hosts.getD i default).boxes.take k)).length + n ≤ wdN w := by
  have h1 := catL_sum (bxsFor_len a) (w.hosts.take i)
  have h2 := catL_sum (bxFor_len a) ((w.hosts.getD i default).boxes.take k)
  have h3 := sum_at bxN_nn hi
  have h4 := sum_at mlN_nn hk
  have h5 : bxN (w.hosts.getD i default) = sumL mlN (w.hosts.getD i default).boxes := rfl
  have h6 : mlN ((w.hosts.getD i default).boxes.getD k default) = ((w.hosts.getD i default).boxes.getD k default).mails.length := rfl
  unfold wdN
  omega
def wtP {α : Type} (f : α → Int → Int) (N : α → Int) : Prop := ∀ x l, 0 ≤ f x l → f x l + N x ≤ l
theorem szF_wt {α : Type} {f : α → Int → Int} {N : α → Int} (hf : wtP f N) : ∀ (xs : List α) (l : Int), 0 ≤ szF f l xs → szF f l xs + sumL N xs ≤ l
  | [], l, _ => by show l + 0 ≤ l; omega
  | x :: r, l, h => by
    unfold szF at h ⊢
    split at h
    · omega
    · rename_i q
      rw [if_neg q]
      have h1 := szF_wt hf r _ h
      have h2 := hf x l (by omega)
      show _ + (N x + sumL N r) ≤ l
      omega
theorem szL_wt {α : Type} {f : α → Int → Int} {N : α → Int} (hf : wtP f N) (xs : List α) (l : Int) (h : 0 ≤ szL f xs l) : szL f xs l + xs.length + sumL N xs ≤ l := by
  unfold szL at h ⊢
  split at h
  · omega
  · rename_i q
    have := szF_wt hf xs _ h
    omega
theorem szBx_wt : wtP szBx mlN := fun b l h => by
  have h1 := szAd_le b.addr l
  have h2 := szL_le szGm_le b.mails (szAd b.addr l)
  have h3 : wtP szGm (fun _ => 0) := fun x l h => by have := szGm_le x l; show _ + (0 : Int) ≤ _; omega
  have h4 := szL_wt h3 b.mails (szAd b.addr l)
  have h5 : sumL (fun _ : Gm => 0) b.mails = 0 := by
    induction b.mails with
    | nil => rfl
    | cons x r ih => show 0 + sumL _ r = 0; rw [ih]; rfl
  unfold szBx at h ⊢
  unfold mlN
  repeat' split at h
  all_goals omega
theorem szHs_wt : wtP szHs bxN := fun b l h => by
  have h1 := szCf_le b.conf l
  have h2 := szSp_le b.spool (szCf b.conf l)
  have h3 := szL_le szBx_le b.boxes (szSp b.spool (szCf b.conf l))
  have h4 := szL_wt szBx_wt b.boxes (szSp b.spool (szCf b.conf l))
  have h5 := szL_le szLs_le b.lost (szL szBx b.boxes (szSp b.spool (szCf b.conf l)))
  unfold szHs at h ⊢
  repeat' split at h
  all_goals (have e : bxN b = sumL mlN b.boxes := rfl)
  all_goals omega
theorem szWd_wt {w : Wd} {l : Int} (h : 0 ≤ szWd w l) : wdN w ≤ l := by
  have h1 := szL_le szHs_le w.hosts l
  have h2 := szL_wt szHs_wt w.hosts l
  have h3 := szL_le szLs_le w.given (szL szHs w.hosts l)
  unfold szWd at h
  unfold wdN
  repeat' split at h
  all_goals first | omega | skip
theorem outS (a b c : List Gm) (x : Gm) : (a ++ b ++ c).map encGm ++ [encGm x] = (a ++ b ++ (c ++ [x])).map encGm := by simp
def c27 : Ct := ctR (lc EWd.ag l0) (fun p => OkWd p.1) (fun p => owWd p.1)
section
attribute [local go_sem] c59 c60 List.length_map List.length_append List.length_cons List.length_nil List.map_append List.map_nil Nat.zero_add List.nil_append AS.opn AS.cls AS.nilb AS.renb AS.up Bool.not_false Bool.not_true List.set_set List.set_cons_zero List.set_cons_succ List.set_nil List.mem_singleton forall_eq
set_option maxHeartbeats 3200000 in
theorem good27 {G : Gt} (hG : OkG G) (hh : G.e 59 = roEnt 0 c59 ∧ G.e 60 = roEnt 0 c60) : Gd G 27 (roEnt 0 c27) := by
  refine gR (dp := fun _ => true) (fn := Tryz.f27) (n := 1) (fun _ => rfl) (by kernel_rfl) rfl (by kernel_rfl) hG (Nat.le_of_ble_eq_true rfl) (by kernel_rfl) (by decide) (fun _ p => owWd_solid _) ?_
  rintro ⟨w, ⟨⟩⟩ hpre
  simp -implicitDefEqProofs only [Tryz.f27, go_sem, hh] at hpre ⊢
  obtain ⟨⟨lh, zh⟩, ⟨lg, zg⟩⟩ := hpre
  repeat' (first | with_reducible apply And.intro | with_reducible intro _ | ((first | apply brB_split | apply aPickB_split | apply gB_split | apply adB_split) <;> intro hb <;> simp -implicitDefEqProofs only [hb, go_sem, hh] <;> try simp only [qz] at hb))
  all_goals first | rfl | omega | decide | skip
  refine run_loop [(3, 1903, true, 7)] (ι := {i : Nat // i ≤ w.hosts.length}) (fun p => ⟨[(1, .pb 1001 0), (2, .pb 1002 0), (3, .h 1903), (7, .t (.sl 7 (w.hosts.map encHs))), (8, .t (.v (.int .i64 w.hosts.length))), (9, .t (.v (.int .i64 p.1)))], [(1001, some (.box ((encWd w).map .t))), (1002, some (.box [.nil, .t (.v (.int .i64 0)), .t (.v (.int .i64 0)), .nil])), (1903, some (.arr true 7 ((w.hosts.take p.1).map encHs)))]⟩) (fun p => w.hosts.length - p.1) ⟨0, by simp⟩ rfl ?_ ?_
  · simp -implicitDefEqProofs only [go_sem, hh]
    simp
  · rintro ⟨i, hi⟩
    have hlen : (w.hosts.take i).length = i := by simp; omega
    by_cases hlt : (i : Int) < w.hosts.length
    · have zo := zh _ (getD_mem (xs := w.hosts) (j := i) (by omega))
      simp -implicitDefEqProofs only [hlt, decide_true, Int.toNat_natCast, go_sem, hh]
      repeat' (first | with_reducible apply And.intro | with_reducible intro _ | ((first | apply brB_split | apply aPickB_split | apply gB_split | apply adB_split) <;> intro hb <;> simp -implicitDefEqProofs only [hb, go_sem, hh] <;> try simp only [qz] at hb))
      all_goals (try simp only [maxLen] at *)
      all_goals first | rfl | omega | assumption | decide | skip
      refine ⟨⟨i + 1, by omega⟩, by dsimp only; omega, ?_⟩
      simp -implicitDefEqProofs only [go_sem, hh]
      simp only [take_snoc_map encHs (show i < w.hosts.length by omega)]
      repeat' (first | with_reducible apply And.intro | with_reducible intro _ | ((first | apply brB_split | apply aPickB_split | apply gB_split | apply adB_split) <;> intro hb <;> simp -implicitDefEqProofs only [hb, go_sem, hh] <;> try simp only [qz] at hb))
      all_goals first | rfl | (simp; done) | trace_state
    · have htk : w.hosts.take i = w.hosts := List.take_of_length_le (by omega)
      simp -implicitDefEqProofs only [hlt, htk, decide_false, go_sem, hh]
      repeat' (first | with_reducible apply And.intro | with_reducible intro _ | ((first | apply brB_split | apply aPickB_split | apply gB_split | apply adB_split) <;> intro hb <;> simp -implicitDefEqProofs only [hb, go_sem, hh] <;> try simp only [qz] at hb))
      all_goals (try simp only [maxLen] at *)
      all_goals first | rfl | omega | assumption | decide
end
def c8 : Ct := ctR (lc EWd.ag (lc EAd.ag l0)) (fun p => OkWd p.1 ∧ wdN p.1 ≤ 1048576) (fun p => .o true 3 ((LBox p.1 p.2.1).map encGm))
section
attribute [local go_sem] c23 List.length_map List.length_append List.length_cons List.length_nil List.map_append List.map_nil Nat.zero_add List.nil_append AS.opn AS.cls AS.nilb AS.renb AS.up Bool.not_false Bool.not_true List.set_set List.set_cons_zero List.set_cons_succ List.set_nil List.mem_singleton forall_eq bOf_t bOf_f
set_option maxHeartbeats 6400000 in
theorem good8 {G : Gt} (hG : OkG G) (hh : G.e 23 = roEnt 0 c23) : Gd G 8 (roEnt 0 c8) := by
  refine gR (dp := fun _ => true) (fn := Tryz.f8) (n := 2) (fun _ => rfl) (by kernel_rfl) rfl (by kernel_rfl) hG (Nat.le_of_ble_eq_true rfl) (by kernel_rfl) (by decide) (fun _ p => .deep _ _) ?_
  rintro ⟨w, a, ⟨⟩⟩ hpre
  simp -implicitDefEqProofs only [Tryz.f8, go_sem, hh] at hpre ⊢
  obtain ⟨zw, zn⟩ := hpre
  by_cases h : WdOk w
  · have b1 := bOf_y h
    rw [LBox_y h]
    simp -implicitDefEqProofs only [b1, go_sem, hh]
    repeat' (first | with_reducible apply And.intro | with_reducible intro _ | ((first | apply brB_split | apply aPickB_split | apply gB_split | apply adB_split) <;> intro hb <;> simp -implicitDefEqProofs only [hb, go_sem, hh] <;> try simp only [qz] at hb))
    all_goals first | rfl | omega | assumption | contradiction | skip
    refine run_loop [(5, 1905, true, 3)] (ι := {i : Nat // i ≤ w.hosts.length}) (fun ⟨i, _⟩ => ⟨[(2, .pb 1002 0), (3, .pb 1003 0), (5, .h 1905), (6, .t (.v (.int .i64 i)))], [(1002, some (.box ((encWd w).map .t))), (1003, some (.box ((encAd a).map .t))), (1905, some (.arr true 3 ((catL (bxsFor a) (w.hosts.take i)).map encGm)))]⟩) (fun p => w.hosts.length - p.1) ⟨0, by simp⟩ rfl ?_ ?_
    · simp -implicitDefEqProofs only [go_sem, hh]
      simp
      try rfl
    · rintro ⟨i, hi⟩
      dsimp only
      by_cases hlt : (i : Int) < w.hosts.length
      · have zo := zw.1.2 _ (getD_mem (xs := w.hosts) (j := i) (by omega))
        obtain ⟨_, _, ⟨lb, zb⟩, _⟩ := zo
        simp -implicitDefEqProofs only [hlt, decide_true, Int.toNat_natCast, go_sem, hh]
        repeat' (first | with_reducible apply And.intro | with_reducible intro _ | ((first | apply brB_split | apply aPickB_split | apply gB_split | apply adB_split) <;> intro hb <;> simp -implicitDefEqProofs only [hb, go_sem, hh] <;> try simp only [qz] at hb))
        all_goals (try simp only [maxLen] at *)
        all_goals first | rfl | omega | assumption | decide | skip
        refine run_loop [(5, 1905, true, 3)] (ι := {k : Nat // k ≤ (w.hosts.getD i default).boxes.length}) (fun ⟨k, _⟩ => ⟨[(2, .pb 1002 0), (3, .pb 1003 0), (5, .h 1905), (6, .t (.v (.int .i64 i))), (7, .t (.v (.int .i64 k)))], [(1002, some (.box ((encWd w).map .t))), (1003, some (.box ((encAd a).map .t))), (1905, some (.arr true 3 ((catL (bxsFor a) (w.hosts.take i) ++ catL (bxFor a) ((w.hosts.getD i default).boxes.take k)).map encGm)))]⟩) (fun p => (w.hosts.getD i default).boxes.length - p.1) ⟨0, by simp⟩ rfl ?_ ?_
        · simp -implicitDefEqProofs only [go_sem, hh]
          simp
          try rfl
        · rintro ⟨k, hk⟩
          dsimp only
          by_cases hlt2 : (k : Int) < (w.hosts.getD i default).boxes.length
          · obtain ⟨_, ⟨lm, zm⟩⟩ := zb _ (getD_mem (xs := (w.hosts.getD i default).boxes) (j := k) (by omega))
            simp -implicitDefEqProofs only [hlt2, decide_true, Int.toNat_natCast, go_sem, hh]
            repeat' (first | with_reducible apply And.intro | with_reducible intro _ | ((first | apply brB_split | apply aPickB_split | apply gB_split | apply adB_split) <;> intro hb <;> simp -implicitDefEqProofs only [hb, go_sem, hh] <;> try simp only [qz] at hb))
            all_goals (try simp only [maxLen] at *)
            all_goals first | rfl | omega | assumption | decide | skip
            refine run_loop [(5, 1905, true, 3)] (ι := {n : Nat // n ≤ ((w.hosts.getD i default).boxes.getD k default).mails.length ∧ (0 < n → ((w.hosts.getD i default).boxes.getD k default).addr = a)}) (fun ⟨n, _⟩ => ⟨[(2, .pb 1002 0), (3, .pb 1003 0), (5, .h 1905), (6, .t (.v (.int .i64 i))), (7, .t (.v (.int .i64 k))), (8, .pb 1008 0), (9, .t (.v (.int .i64 n)))], [(1002, some (.box ((encWd w).map .t))), (1003, some (.box ((encAd a).map .t))), (1008, some (.box ((encBx ((w.hosts.getD i default).boxes.getD k default)).map .t))), (1905, some (.arr true 3 ((catL (bxsFor a) (w.hosts.take i) ++ catL (bxFor a) ((w.hosts.getD i default).boxes.take k) ++ ((w.hosts.getD i default).boxes.getD k default).mails.take n).map encGm)))]⟩) (fun p => ((w.hosts.getD i default).boxes.getD k default).mails.length - p.1) ⟨0, by simp, by simp⟩ rfl ?_ ?_
            · simp -implicitDefEqProofs only [go_sem, hh]
              simp
              try rfl
            · rintro ⟨n, hn, hn2⟩
              dsimp only
              by_cases hlt3 : (n : Int) < ((w.hosts.getD i default).boxes.getD k default).mails.length
              · obtain ⟨_, ⟨lg, zg⟩⟩ := zm _ (getD_mem (xs := ((w.hosts.getD i default).boxes.getD k default).mails) (j := n) (by omega))
                have q1 := out_len (a := a) (w := w) (i := i) (k := k) (n := n) (by omega) (by omega) (by omega)
                simp -implicitDefEqProofs only [hlt3, decide_true, Int.toNat_natCast, go_sem, hh]
                repeat' (first | with_reducible apply And.intro | with_reducible intro _ | ((first | apply brB_split | apply aPickB_split | apply gB_split | apply adB_split) <;> intro hb <;> simp -implicitDefEqProofs only [hb, go_sem, hh] <;> try simp only [qz] at hb))
                all_goals (try simp only [maxLen, adE, adF, adE', adF', Int.toNat_natCast, List.length_append, List.length_take, List.length_map] at *)
                all_goals first
                  | rfl
                  | omega
                  | assumption
                  | decide
                  | (refine ⟨⟨n + 1, by omega, fun _ => by with_reducible assumption⟩, by dsimp only; omega, ?_⟩
                     simp -implicitDefEqProofs only [go_sem, hh]
                     simp only [take_snoc_map encGm (show n < ((w.hosts.getD i default).boxes.getD k default).mails.length by omega)]
                     repeat' (first | with_reducible apply And.intro | with_reducible intro _ | ((first | apply brB_split | apply aPickB_split | apply gB_split | apply adB_split) <;> intro hb <;> simp -implicitDefEqProofs only [hb, go_sem, hh] <;> try simp only [qz] at hb))
                     all_goals first | rfl | (simp [encGm_eq]; done) | trace_state)
                  | (refine ⟨⟨k + 1, by omega⟩, by dsimp only; omega, ?_⟩
                     have hz : n = 0 := by
                       by_cases e : n = 0
                       · exact e
                       · exact absurd (hn2 (by omega)) (by with_reducible assumption)
                     subst hz
                     have e1 := catL_step (bxFor a) (show k < (w.hosts.getD i default).boxes.length by omega)
                     rw [bxFor_n (by with_reducible assumption), List.append_nil] at e1
                     simp -implicitDefEqProofs only [e1, List.take_zero, List.append_nil, go_sem, hh]
                     simp
                     done)
                  | trace_state
              · have e1 := catL_step (bxFor a) (show k < (w.hosts.getD i default).boxes.length by omega)
                have e2 : ((w.hosts.getD i default).boxes.getD k default).mails.take n = bxFor a ((w.hosts.getD i default).boxes.getD k default) := by
                  by_cases e : n = 0
                  · have h0 : ((w.hosts.getD i default).boxes.getD k default).mails.length = 0 := by omega
                    rw [e, List.take_zero]
                    unfold bxFor; split
                    · exact (List.eq_nil_of_length_eq_zero h0).symm
                    · rfl
                  · rw [bxFor_y (hn2 (by omega)), List.take_of_length_le (by omega)]
                simp -implicitDefEqProofs only [hlt3, decide_false, go_sem, hh]
                repeat' (first | with_reducible apply And.intro | with_reducible intro _ | ((first | apply brB_split | apply aPickB_split | apply gB_split | apply adB_split) <;> intro hb <;> simp -implicitDefEqProofs only [hb, go_sem, hh] <;> try simp only [qz] at hb))
                all_goals first | rfl | omega | skip
                refine ⟨⟨k + 1, by omega⟩, by dsimp only; omega, ?_⟩
                simp -implicitDefEqProofs only [e1, e2, go_sem, hh]
                simp
          · have e1 := catL_step (bxsFor a) (show i < w.hosts.length by omega)
            have e2 : catL (bxFor a) ((w.hosts.getD i default).boxes.take k) = bxsFor a (w.hosts.getD i default) := catL_all _ (by omega)
            simp -implicitDefEqProofs only [hlt2, decide_false, Int.toNat_natCast, go_sem, hh]
            repeat' (first | with_reducible apply And.intro | with_reducible intro _ | ((first | apply brB_split | apply aPickB_split | apply gB_split | apply adB_split) <;> intro hb <;> simp -implicitDefEqProofs only [hb, go_sem, hh] <;> try simp only [qz] at hb))
            all_goals (try simp only [maxLen] at *)
            all_goals first | rfl | omega | assumption | decide | skip
            refine ⟨⟨i + 1, by omega⟩, by dsimp only; omega, ?_⟩
            simp -implicitDefEqProofs only [e1, e2, go_sem, hh]
            simp
      · have e1 : catL (bxsFor a) (w.hosts.take i) = catL (bxsFor a) w.hosts := catL_all _ (by omega)
        rw [e1]
        simp -implicitDefEqProofs only [hlt, decide_false, go_sem, hh]
        repeat' (first | with_reducible apply And.intro | with_reducible intro _ | ((first | apply brB_split | apply aPickB_split | apply gB_split | apply adB_split) <;> intro hb <;> simp -implicitDefEqProofs only [hb, go_sem, hh] <;> try simp only [qz] at hb))
        all_goals (try simp only [maxLen] at *)
        all_goals first | rfl | omega | assumption | decide | trace_state
  · have b1 := bOf_n h
    rw [LBox_n h]
    simp -implicitDefEqProofs only [b1, go_sem, hh]
    repeat' (first | with_reducible apply And.intro | with_reducible intro _ | ((first | apply brB_split | apply aPickB_split | apply gB_split | apply adB_split) <;> intro hb <;> simp -implicitDefEqProofs only [hb, go_sem, hh] <;> try simp only [qz] at hb))
    all_goals first | rfl | omega | assumption | contradiction | trace_state
end
def Left {α : Type} [Inhabited α] (enc : α → List T) (xs : List α) (i : Nat) (es : List (List T)) : Prop := es.length = xs.length ∧ ∀ j, i ≤ j → j < xs.length → es[j]? = some (enc (xs.getD j default))
theorem Left.start {α : Type} [Inhabited α] (enc : α → List T) (xs : List α) : Left enc xs 0 (xs.map enc) := ⟨by simp, fun j _ hj => map_get enc hj⟩
theorem Left.next {α : Type} [Inhabited α] {enc : α → List T} {xs : List α} {i : Nat} {es : List (List T)} (h : Left enc xs i es) (e : List T) : Left enc xs (i + 1) (es.set i e) := ⟨by rw [List.length_set]; exact h.1, fun j hj hl => by
  rw [List.getElem?_set_ne (by omega)]
  exact h.2 j (by omega) hl⟩
def c11 : Ct := ctR (lc EWd.ag (lc EAd.ag l0)) (fun p => OkWd p.1 ∧ wdN p.1 ≤ 1048576) (fun p => .o true 3 ((LBox p.1 p.2.1).map encGm))
section
attribute [local go_sem] c26 c27 List.length_map List.length_append List.length_cons List.length_nil List.map_append List.map_nil Nat.zero_add List.nil_append AS.opn AS.cls AS.nilb AS.renb AS.up Bool.not_false Bool.not_true List.set_set List.set_cons_zero List.set_cons_succ List.set_nil List.mem_singleton forall_eq AS.rawh cell_sl bOf_t bOf_f owWd_eq
set_option maxHeartbeats 6400000 in
theorem good11 {G : Gt} (hG : OkG G) (hh : G.e 26 = roEnt 0 c26 ∧ G.e 27 = roEnt 0 c27) : Gd G 11 (roEnt 0 c11) := by
  refine gR (dp := fun n => !(Nat.beq n 100006 || Nat.beq n 100007 || Nat.beq n 100009 || Nat.beq n 100011)) (fn := Tryz.f11) (n := 2) (fun _ => rfl) (by kernel_rfl) rfl (by kernel_rfl) hG (Nat.le_of_ble_eq_true rfl) (by kernel_rfl) (by decide) (fun _ p => .deep _ _) ?_
  rintro ⟨w, a, ⟨⟩⟩ hpre
  simp -implicitDefEqProofs only [Tryz.f11, go_sem, hh] at hpre ⊢
  obtain ⟨zw, zn⟩ := hpre
  by_cases h : WdOk w
  · have b1 := bOf_y h
    rw [LBox_y h]
    simp -implicitDefEqProofs only [b1, go_sem, hh]
    repeat' (first | with_reducible apply And.intro | with_reducible intro _ | ((first | apply brB_split | apply aPickB_split | apply gB_split | apply adB_split) <;> intro hb <;> simp -implicitDefEqProofs only [hb, go_sem, hh] <;> try simp only [qz] at hb))
    all_goals first | rfl | omega | assumption | contradiction | skip
    refine run_loop [(5, 1905, true, 3)] (ι := {p : Nat × List (List T) // p.1 ≤ w.hosts.length ∧ Left encHs w.hosts p.1 p.2}) (fun ⟨⟨i, es⟩, _⟩ => ⟨[(3, .pb 1003 0), (5, .h 1905), (15, .h 1014), (16, .t (.v (.int .i64 w.hosts.length))), (17, .t (.v (.int .i64 i)))], [(1003, some (.box ((encAd a).map .t))), (1905, some (.arr true 3 ((catL (bxsFor a) (w.hosts.take i)).map encGm))), (1014, some (.arr true 7 es))]⟩) (fun p => w.hosts.length - p.1.1) ⟨(0, w.hosts.map encHs), by simp, Left.start _ _⟩ rfl ?_ ?_
    · simp -implicitDefEqProofs only [go_sem, hh]
      simp
      try rfl
    · rintro ⟨⟨i, es⟩, hi, hl⟩
      dsimp only at hi hl ⊢
      by_cases hlt : (i : Int) < w.hosts.length
      · have zo := zw.1.2 _ (getD_mem (xs := w.hosts) (j := i) (by omega))
        obtain ⟨_, _, ⟨lb, zb⟩, _⟩ := zo
        have hes := hl.2 i (Nat.le_refl _) (by omega)
        have hle := hl.1
        have hlt' : i < es.length := by omega
        simp -implicitDefEqProofs only [hlt, decide_true, Int.toNat_natCast, go_sem, hh]
        repeat' (first | with_reducible apply And.intro | with_reducible intro _ | ((first | apply brB_split | apply aPickB_split | apply gB_split | apply adB_split) <;> intro hb <;> simp -implicitDefEqProofs only [hb, go_sem, hh] <;> try simp only [qz] at hb))
        all_goals (try simp only [maxLen] at *)
        all_goals first | rfl | omega | assumption | decide | skip
        refine run_open 1014 1906 2906 i 5 rfl hes rfl rfl fun x => run_go ?_
        simp -implicitDefEqProofs only [aCell_set hlt', hle, List.length_set, Int.toNat_natCast, go_sem, hh]
        repeat' (first | with_reducible apply And.intro | with_reducible intro _ | ((first | apply brB_split | apply aPickB_split | apply gB_split | apply adB_split) <;> intro hb <;> simp -implicitDefEqProofs only [hb, go_sem, hh] <;> try simp only [qz] at hb))
        all_goals (try simp only [maxLen] at *)
        all_goals first | rfl | omega | assumption | decide | skip
        refine run_le (Le.rawh 1007 5 1906 2906 rfl rfl rfl) (run_go ?_)
        simp -implicitDefEqProofs only [go_sem, hh]
        repeat' (first | with_reducible apply And.intro | with_reducible intro _ | ((first | apply brB_split | apply aPickB_split | apply gB_split | apply adB_split) <;> intro hb <;> simp -implicitDefEqProofs only [hb, go_sem, hh] <;> try simp only [qz] at hb))
        all_goals (try simp only [maxLen] at *)
        all_goals first | rfl | omega | assumption | decide | skip
        refine run_loop [(5, 1905, true, 3)] (ι := {p : Nat × List (List T) // p.1 ≤ (w.hosts.getD i default).boxes.length ∧ Left encBx (w.hosts.getD i default).boxes p.1 p.2}) (fun ⟨⟨k, bs⟩, _⟩ => ⟨[(3, .pb 1003 0), (5, .h 1905), (15, .h 1014), (16, .t (.v (.int .i64 w.hosts.length))), (17, .t (.v (.int .i64 i))), (22, .h 1906), (23, .t (.v (.int .i64 (w.hosts.getD i default).boxes.length))), (24, .t (.v (.int .i64 k)))], [(1003, some (.box ((encAd a).map .t))), (1905, some (.arr true 3 ((catL (bxsFor a) (w.hosts.take i) ++ catL (bxFor a) ((w.hosts.getD i default).boxes.take k)).map encGm))), (1906, some (.arr true 3 bs)), (1014, some (.arr true 7 (es.set i [.v (.string (w.hosts.getD i default).conf.name), .sl 1 ((w.hosts.getD i default).conf.own.map encStr), .sl 2 ((w.hosts.getD i default).conf.ways.map encWy), .v (.int .i64 (w.hosts.getD i default).spool.last), .sl 5 ((w.hosts.getD i default).spool.items.map encIm), .raw x, .sl 3 ((w.hosts.getD i default).lost.map encLs)])))]⟩) (fun p => (w.hosts.getD i default).boxes.length - p.1.1) ⟨(0, (w.hosts.getD i default).boxes.map encBx), by simp, Left.start _ _⟩ rfl ?_ ?_
        · simp -implicitDefEqProofs only [go_sem, hh]
          simp
          try rfl
        · rintro ⟨⟨k, bs⟩, hk, hm⟩
          dsimp only at hk hm ⊢
          by_cases hlt2 : (k : Int) < (w.hosts.getD i default).boxes.length
          · obtain ⟨_, ⟨lm, zm⟩⟩ := zb _ (getD_mem (xs := (w.hosts.getD i default).boxes) (j := k) (by omega))
            have hbs := hm.2 k (Nat.le_refl _) (by omega)
            have hbl := hm.1
            have hlt2' : k < bs.length := by omega
            have q1 := out_len (a := a) (w := w) (i := i) (k := k) (n := ((w.hosts.getD i default).boxes.getD k default).mails.length) (by omega) (by omega) (by omega)
            have e1 := catL_step (bxFor a) (show k < (w.hosts.getD i default).boxes.length by omega)
            simp -implicitDefEqProofs only [hlt2, decide_true, Int.toNat_natCast, go_sem, hh]
            repeat' (first | with_reducible apply And.intro | with_reducible intro _ | ((first | apply brB_split | apply aPickB_split | apply gB_split | apply adB_split) <;> intro hb <;> simp -implicitDefEqProofs only [hb, go_sem, hh] <;> try simp only [qz] at hb))
            all_goals (try simp only [maxLen] at *)
            all_goals first | rfl | omega | assumption | decide | skip
            refine run_open 1906 1908 2908 k 2 rfl hbs rfl rfl fun y => run_go ?_
            simp -implicitDefEqProofs only [aCell_set hlt2', hbl, List.length_set, Int.toNat_natCast, go_sem, hh]
            repeat' (first | with_reducible apply And.intro | with_reducible intro _ | ((first | apply brB_split | apply aPickB_split | apply gB_split | apply adB_split) <;> intro hb <;> simp -implicitDefEqProofs only [hb, go_sem, hh] <;> try simp only [qz] at hb))
            all_goals (try simp only [maxLen, adE, adF, adE', adF'] at *)
            all_goals first | rfl | omega | assumption | decide | skip
            · refine run_le (Le.rawh 1009 2 1908 2908 rfl rfl rfl) (run_go ?_)
              simp -implicitDefEqProofs only [go_sem, hh]
              repeat' (first | with_reducible apply And.intro | with_reducible intro _ | ((first | apply brB_split | apply aPickB_split | apply gB_split | apply adB_split) <;> intro hb <;> simp -implicitDefEqProofs only [hb, go_sem, hh] <;> try simp only [qz] at hb))
              all_goals (try simp only [maxLen] at *)
              all_goals first | rfl | omega | assumption | decide | skip
              refine ⟨⟨(k + 1, bs.set k [.v (.string ((w.hosts.getD i default).boxes.getD k default).addr.user), .v (.string ((w.hosts.getD i default).boxes.getD k default).addr.domain), .raw y]), by dsimp only; omega, hm.next _⟩, by dsimp only; omega, ?_⟩
              simp -implicitDefEqProofs only [e1, bxFor_y hb, List.append_assoc, go_sem, hh]
              simp
            · refine ⟨⟨(k + 1, bs.set k [.v (.string ((w.hosts.getD i default).boxes.getD k default).addr.user), .v (.string ((w.hosts.getD i default).boxes.getD k default).addr.domain), .raw y]), by dsimp only; omega, hm.next _⟩, by dsimp only; omega, ?_⟩
              simp -implicitDefEqProofs only [e1, bxFor_n hb, List.append_nil, go_sem, hh]
              simp
          · have e1 := catL_step (bxsFor a) (show i < w.hosts.length by omega)
            have e2 : catL (bxFor a) ((w.hosts.getD i default).boxes.take k) = bxsFor a (w.hosts.getD i default) := catL_all _ (by omega)
            simp -implicitDefEqProofs only [hlt2, decide_false, go_sem, hh]
            repeat' (first | with_reducible apply And.intro | with_reducible intro _ | ((first | apply brB_split | apply aPickB_split | apply gB_split | apply adB_split) <;> intro hb <;> simp -implicitDefEqProofs only [hb, go_sem, hh] <;> try simp only [qz] at hb))
            all_goals (try simp only [maxLen] at *)
            all_goals first | rfl | omega | assumption | decide | skip
            refine ⟨⟨(i + 1, es.set i [.v (.string (w.hosts.getD i default).conf.name), .sl 1 ((w.hosts.getD i default).conf.own.map encStr), .sl 2 ((w.hosts.getD i default).conf.ways.map encWy), .v (.int .i64 (w.hosts.getD i default).spool.last), .sl 5 ((w.hosts.getD i default).spool.items.map encIm), .raw x, .sl 3 ((w.hosts.getD i default).lost.map encLs)]), by dsimp only; omega, hl.next _⟩, by dsimp only; omega, ?_⟩
            simp -implicitDefEqProofs only [e1, e2, go_sem, hh]
            simp
      · have e1 : catL (bxsFor a) (w.hosts.take i) = catL (bxsFor a) w.hosts := catL_all _ (by omega)
        rw [e1]
        simp -implicitDefEqProofs only [hlt, decide_false, go_sem, hh]
        repeat' (first | with_reducible apply And.intro | with_reducible intro _ | ((first | apply brB_split | apply aPickB_split | apply gB_split | apply adB_split) <;> intro hb <;> simp -implicitDefEqProofs only [hb, go_sem, hh] <;> try simp only [qz] at hb))
        all_goals (try simp only [maxLen] at *)
        all_goals first | rfl | omega | assumption | decide | trace_state
  · have b1 := bOf_n h
    rw [LBox_n h]
    simp -implicitDefEqProofs only [b1, go_sem, hh]
    repeat' (first | with_reducible apply And.intro | with_reducible intro _ | ((first | apply brB_split | apply aPickB_split | apply gB_split | apply adB_split) <;> intro hb <;> simp -implicitDefEqProofs only [hb, go_sem, hh] <;> try simp only [qz] at hb))
    all_goals first | rfl | omega | assumption | contradiction | trace_state
end
def Genu (g : Ls) (m : Gm) : Prop := mkOf m.body = g.mark ∧ (¬ AdNull m.frm ∨ ¬ Rep m.body)
open Classical in
noncomputable def genN (g : Ls) (m : Gm) : Int := if Genu g m then 1 else 0
theorem genN_y {g : Ls} {m : Gm} (h : Genu g m) : genN g m = 1 := if_pos h
theorem genN_n {g : Ls} {m : Gm} (h : ¬ Genu g m) : genN g m = 0 := if_neg h
theorem genN_b (g : Ls) (m : Gm) : 0 ≤ genN g m ∧ genN g m ≤ 1 := by unfold genN; split <;> omega
noncomputable def haveN (w : Wd) (g : Ls) : Int := sumL (genN g) (LBox w g.addr)
open Classical in
noncomputable def twiceN (w : Wd) (g : Ls) : Int := if 1 < haveN w g then 1 else 0
theorem twiceN_y {w : Wd} {g : Ls} (h : 1 < haveN w g) : twiceN w g = 1 := if_pos h
theorem twiceN_n {w : Wd} {g : Ls} (h : ¬ 1 < haveN w g) : twiceN w g = 0 := if_neg h
theorem twiceN_b (w : Wd) (g : Ls) : 0 ≤ twiceN w g ∧ twiceN w g ≤ 1 := by unfold twiceN; split <;> omega
open Classical in
noncomputable def LTwice (w : Wd) : Int := if WdOk w then sumL (twiceN w) w.given else -1
theorem LTwice_y {w : Wd} (h : WdOk w) : LTwice w = sumL (twiceN w) w.given := if_pos h
theorem LTwice_n {w : Wd} (h : ¬ WdOk w) : LTwice w = -1 := if_neg h
theorem twice_le (w : Wd) : 0 ≤ sumL (twiceN w) w.given ∧ sumL (twiceN w) w.given ≤ 1 * w.given.length := sum_le fun g _ => twiceN_b w g
theorem LBox_ok {w : Wd} (z : OkWd w) (a : Ad) : ∀ m ∈ LBox w a, OkGm m := fun m hm => by
  unfold LBox at hm
  split at hm
  · obtain ⟨h, hh, q⟩ := catL_mem hm
    obtain ⟨b, hb, q⟩ := catL_mem q
    unfold bxFor at q
    split at q
    · exact ((z.1.2 h hh).2.2.1.2 b hb).2.2 m q
    · cases q
  · cases hm
theorem LBox_len {w : Wd} (a : Ad) (h : wdN w ≤ 1048576) : ((LBox w a).length : Int) ≤ 1048576 := by
  unfold LBox
  split
  · have := catL_sum (bxsFor_len a) w.hosts
    unfold wdN at h
    omega
  · show ((0 : Nat) : Int) ≤ _; omega
theorem genu_y {g : Ls} {m : Gm} (h : mkOf m.body = g.mark) (h2 : ¬ AdNull m.frm ∨ ¬ Rep m.body) : Genu g m := ⟨h, h2⟩
theorem genu_n {g : Ls} {m : Gm} (h : ¬ mkOf m.body = g.mark ∨ ¬ (¬ AdNull m.frm ∨ ¬ Rep m.body)) : ¬ Genu g m := fun q => h.elim (fun f => f q.1) fun f => f q.2
theorem genu_n2 {g : Ls} {m : Gm} (h : AdNull m.frm) (h2 : Rep m.body) : ¬ Genu g m := fun q => q.2.elim (fun f => f h) fun f => f h2
def c19 : Ct := ctR (lc EWd.ag l0) (fun p => OkWd p.1 ∧ wdN p.1 ≤ 1048576) (fun p => .t (.v (.int .i64 (LTwice p.1))))
section
attribute [local go_sem] c23 c8 c40 c41 c42 bOf_t bOf_f List.length_map LpF look_no
set_option maxHeartbeats 6400000 in
theorem good19 {G : Gt} (hG : OkG G) (hh : G.e 23 = roEnt 0 c23 ∧ G.e 8 = roEnt 0 c8 ∧ G.e 40 = roEnt 0 c40 ∧ G.e 41 = roEnt 0 c41 ∧ G.e 42 = roEnt 0 c42) : Gd G 19 (roEnt 0 c19) := by
  refine gR (dp := fun _ => true) (fn := Tryz.f19) (n := 1) (fun _ => rfl) (by kernel_rfl) rfl (by kernel_rfl) hG (Nat.le_of_ble_eq_true rfl) (by kernel_rfl) (by decide) (fun _ _ => .v _) ?_
  rintro ⟨w, ⟨⟩⟩ hpre
  simp -implicitDefEqProofs only [Tryz.f19, go_sem, hh] at hpre ⊢
  obtain ⟨zw, zn⟩ := hpre
  have hk := twice_le w
  have hg := zw.2.1
  by_cases h : WdOk w
  · have b1 := bOf_y h
    rw [LTwice_y h]
    simp -implicitDefEqProofs only [b1, go_sem, hh]
    repeat' (first | with_reducible apply And.intro | with_reducible intro _ | ((first | apply brB_split | apply aPickB_split | apply gB_split | apply adB_split) <;> intro hb <;> simp -implicitDefEqProofs only [hb, go_sem, hh] <;> try simp only [qz] at hb))
    all_goals first | rfl | omega | assumption | contradiction | skip
    refine run_loop [] (ι := {p : Nat × Int // p.1 ≤ w.given.length ∧ 0 ≤ p.2 ∧ p.2 + sumL (twiceN w) (w.given.drop p.1) = sumL (twiceN w) w.given}) (fun p => ⟨[(1, .pb 1001 0), (3, .t (.v (.int .i64 p.1.2))), (4, .t (.v (.int .i64 p.1.1)))], [(1001, some (.box ((encWd w).map .t)))]⟩) (fun p => w.given.length - p.1.1) ⟨(0, 0), by simp, by simp, by simp⟩ rfl ?_ ?_
    · simp -implicitDefEqProofs only [go_sem, hh]
      simp
    · rintro ⟨⟨i, v⟩, hi, h0, hv⟩
      dsimp only at hi h0 hv ⊢
      by_cases hlt : (i : Int) < w.given.length
      · skip
        have hst := sum_step (f := twiceN w) (xs := w.given) (i := i) (by omega)
        have hrest := sum_drop (f := twiceN w) (xs := w.given) (fun x _ => (twiceN_b w x).1) (i + 1)
        simp -implicitDefEqProofs only [hlt, decide_true, Int.toNat_natCast, go_sem, hh]
        repeat' (first | with_reducible apply And.intro | with_reducible intro _ | ((first | apply brB_split | apply aPickB_split | apply gB_split | apply adB_split) <;> intro hb <;> simp -implicitDefEqProofs only [hb, go_sem, hh] <;> try simp only [qz] at hb))
        all_goals (try simp only [maxLen, Int.toNat_natCast] at *)
        all_goals first | rfl | omega | with_reducible assumption | decide | skip
        refine run_loopF [1025] [] (ι := {p : Nat × Int // p.1 ≤ (LBox w (w.given.getD i default).addr).length ∧ 0 ≤ p.2 ∧ p.2 + sumL (genN (w.given.getD i default)) ((LBox w (w.given.getD i default).addr).drop p.1) = haveN w (w.given.getD i default)}) (fun p => ⟨[(1, .pb 1001 0), (3, .t (.v (.int .i64 v))), (4, .t (.v (.int .i64 i))), (5, .t (.v (.int .i64 p.1.2))), (6, .t (.sl 3 ((LBox w (w.given.getD i default).addr).map encGm))), (7, .t (.v (.int .i64 p.1.1)))], [(1001, some (.box ((encWd w).map .t)))]⟩) (fun p => (LBox w (w.given.getD i default).addr).length - p.1.1) ⟨(0, 0), by simp, by simp, by simp [haveN]⟩ rfl ?_ ?_
        · simp -implicitDefEqProofs only [go_sem, hh]
          simp
        · rintro ⟨⟨k, v2⟩, hk', h1, hv2⟩
          dsimp only at hk' h1 hv2 ⊢
          by_cases hlt2 : (k : Int) < (LBox w (w.given.getD i default).addr).length
          · skip
            obtain ⟨_, ⟨lg, zg⟩⟩ := LBox_ok zw (w.given.getD i default).addr _ (getD_mem (xs := (LBox w (w.given.getD i default).addr)) (j := k) (by omega))
            have y1 : ∀ s ∈ ((LBox w (w.given.getD i default).addr).getD k default).body, s.size ≤ 2000000 := fun s hs => by have : s.size ≤ 1048576 := zg s hs; omega
            have y2 : ((LBox w (w.given.getD i default).addr).getD k default).body.length ≤ 2000000 := by omega
            have hst2 := sum_step (f := genN (w.given.getD i default)) (xs := (LBox w (w.given.getD i default).addr)) (i := k) (by omega)
            have hrest2 := sum_drop (f := genN (w.given.getD i default)) (xs := (LBox w (w.given.getD i default).addr)) (fun x _ => (genN_b _ x).1) (k + 1)
            have hb2 := sum_le (f := genN (w.given.getD i default)) (B := 1) (xs := (LBox w (w.given.getD i default).addr)) fun m _ => genN_b _ m
            have hb3 : haveN w (w.given.getD i default) = sumL (genN (w.given.getD i default)) (LBox w (w.given.getD i default).addr) := rfl
            have hb4 := LBox_len (w.given.getD i default).addr zn
            simp -implicitDefEqProofs only [hlt2, decide_true, Int.toNat_natCast, go_sem, hh]
            repeat' (first | with_reducible apply And.intro | with_reducible intro _ | ((first | apply brB_split | apply aPickB_split | apply gB_split | apply adB_split) <;> intro hb <;> simp -implicitDefEqProofs only [hb, go_sem, hh] <;> try simp only [qz] at hb))
            all_goals (try simp only [maxLen, Int.toNat_natCast, bOf_t, bOf_f] at *)
            all_goals (try rw [genN_y (genu_y (by with_reducible assumption) (by first | with_reducible assumption | exact .inl (by with_reducible assumption) | exact .inr (by with_reducible assumption)))] at hst2)
            all_goals (try rw [genN_n (by first | exact genu_n2 (by with_reducible assumption) (by with_reducible assumption) | exact genu_n (.inl (by with_reducible assumption)) | exact genu_n (.inr (by with_reducible assumption)))] at hst2)
            all_goals first
              | rfl
              | omega
              | decide
              | with_reducible assumption
              | exact y1 _ (by assumption)
              | contradiction
              | (refine ⟨⟨(k + 1, v2 + 1), by dsimp only; omega, by dsimp only; omega, by dsimp only; omega⟩, by dsimp only; omega, ?_⟩
                 simp -implicitDefEqProofs only [go_sem, hh]
                 simp
                 done)
              | (refine ⟨⟨(k + 1, v2), by dsimp only; omega, by dsimp only; omega, by dsimp only; omega⟩, by dsimp only; omega, ?_⟩
                 simp -implicitDefEqProofs only [go_sem, hh]
                 simp
                 done)
          · have hst2 := sum_end (f := genN (w.given.getD i default)) (xs := (LBox w (w.given.getD i default).addr)) (i := k) (by omega)
            simp -implicitDefEqProofs only [hlt2, decide_false, go_sem, hh]
            repeat' (first | with_reducible apply And.intro | with_reducible intro _ | ((first | apply brB_split | apply aPickB_split | apply gB_split | apply adB_split) <;> intro hb <;> simp -implicitDefEqProofs only [hb, go_sem, hh] <;> try simp only [qz] at hb))
            all_goals (try simp only [maxLen, Int.toNat_natCast] at *)
            all_goals (try rw [twiceN_y (by omega)] at hst)
            all_goals (try rw [twiceN_n (by omega)] at hst)
            all_goals first
              | rfl
              | omega
              | (refine ⟨⟨(i + 1, v + 1), by dsimp only; omega, by dsimp only; omega, by dsimp only; omega⟩, by dsimp only; omega, ?_⟩
                 simp -implicitDefEqProofs only [go_sem, hh]
                 simp
                 done)
              | (refine ⟨⟨(i + 1, v), by dsimp only; omega, by dsimp only; omega, by dsimp only; omega⟩, by dsimp only; omega, ?_⟩
                 simp -implicitDefEqProofs only [go_sem, hh]
                 simp
                 done)
      · have hst := sum_end (f := twiceN w) (xs := w.given) (i := i) (by omega)
        simp -implicitDefEqProofs only [hlt, decide_false, go_sem, hh]
        repeat' (first | with_reducible apply And.intro | with_reducible intro _ | ((first | apply brB_split | apply aPickB_split | apply gB_split | apply adB_split) <;> intro hb <;> simp -implicitDefEqProofs only [hb, go_sem, hh] <;> try simp only [qz] at hb))
        all_goals first | rfl | omega | (rw [← hv, hst, Int.add_zero]; done)
  · have b1 := bOf_n h
    rw [LTwice_n h]
    simp -implicitDefEqProofs only [b1, go_sem, hh]
    repeat' (first | with_reducible apply And.intro | with_reducible intro _ | ((first | apply brB_split | apply aPickB_split | apply gB_split | apply adB_split) <;> intro hb <;> simp -implicitDefEqProofs only [hb, go_sem, hh] <;> try simp only [qz] at hb))
    all_goals first | rfl | omega | assumption | contradiction
end
def c20 : Ct := ctR (lc EWd.ag l0) (fun p => OkWd p.1 ∧ wdN p.1 ≤ 1048576) (fun p => .t (.v (.int .i64 (LTwice p.1))))
section
attribute [local go_sem] c26 c11 c43 c44 bOf_t bOf_f List.length_map LpF look_no
set_option maxHeartbeats 6400000 in
theorem good20 {G : Gt} (hG : OkG G) (hh : G.e 26 = roEnt 0 c26 ∧ G.e 11 = roEnt 0 c11 ∧ G.e 43 = roEnt 0 c43 ∧ G.e 44 = roEnt 0 c44) : Gd G 20 (roEnt 0 c20) := by
  refine gR (dp := fun _ => true) (fn := Tryz.f20) (n := 1) (fun _ => rfl) (by kernel_rfl) rfl (by kernel_rfl) hG (Nat.le_of_ble_eq_true rfl) (by kernel_rfl) (by decide) (fun _ _ => .v _) ?_
  rintro ⟨w, ⟨⟩⟩ hpre
  simp -implicitDefEqProofs only [Tryz.f20, go_sem, hh] at hpre ⊢
  obtain ⟨zw, zn⟩ := hpre
  have hk := twice_le w
  have hg := zw.2.1
  by_cases h : WdOk w
  · have b1 := bOf_y h
    rw [LTwice_y h]
    simp -implicitDefEqProofs only [b1, go_sem, hh]
    repeat' (first | with_reducible apply And.intro | with_reducible intro _ | ((first | apply brB_split | apply aPickB_split | apply gB_split | apply adB_split) <;> intro hb <;> simp -implicitDefEqProofs only [hb, go_sem, hh] <;> try simp only [qz] at hb))
    all_goals first | rfl | omega | assumption | contradiction | skip
    refine run_loop [] (ι := {p : Nat × Int // p.1 ≤ w.given.length ∧ 0 ≤ p.2 ∧ p.2 + sumL (twiceN w) (w.given.drop p.1) = sumL (twiceN w) w.given}) (fun p => ⟨[(1, .pb 1001 0), (3, .t (.v (.int .i64 p.1.2))), (13, .t (.sl 3 (w.given.map encLs))), (14, .t (.v (.int .i64 w.given.length))), (15, .t (.v (.int .i64 p.1.1)))], [(1001, some (.box ((encWd w).map .t)))]⟩) (fun p => w.given.length - p.1.1) ⟨(0, 0), by simp, by simp, by simp⟩ rfl ?_ ?_
    · simp -implicitDefEqProofs only [go_sem, hh]
      simp
    · rintro ⟨⟨i, v⟩, hi, h0, hv⟩
      dsimp only at hi h0 hv ⊢
      by_cases hlt : (i : Int) < w.given.length
      · skip
        have hst := sum_step (f := twiceN w) (xs := w.given) (i := i) (by omega)
        have hrest := sum_drop (f := twiceN w) (xs := w.given) (fun x _ => (twiceN_b w x).1) (i + 1)
        simp -implicitDefEqProofs only [hlt, decide_true, Int.toNat_natCast, go_sem, hh]
        repeat' (first | with_reducible apply And.intro | with_reducible intro _ | ((first | apply brB_split | apply aPickB_split | apply gB_split | apply adB_split) <;> intro hb <;> simp -implicitDefEqProofs only [hb, go_sem, hh] <;> try simp only [qz] at hb))
        all_goals (try simp only [maxLen, Int.toNat_natCast] at *)
        all_goals first | rfl | omega | with_reducible assumption | decide | skip
        refine run_loopF [1022] [] (ι := {p : Nat × Int // p.1 ≤ (LBox w (w.given.getD i default).addr).length ∧ 0 ≤ p.2 ∧ p.2 + sumL (genN (w.given.getD i default)) ((LBox w (w.given.getD i default).addr).drop p.1) = haveN w (w.given.getD i default)}) (fun p => ⟨[(1, .pb 1001 0), (3, .t (.v (.int .i64 v))), (5, .pb 1005 0), (13, .t (.sl 3 (w.given.map encLs))), (14, .t (.v (.int .i64 w.given.length))), (15, .t (.v (.int .i64 i))), (6, .t (.v (.int .i64 p.1.2))), (22, .t (.sl 3 ((LBox w (w.given.getD i default).addr).map encGm))), (23, .t (.v (.int .i64 (LBox w (w.given.getD i default).addr).length))), (24, .t (.v (.int .i64 p.1.1)))], [(1001, some (.box ((encWd w).map .t))), (1005, some (.box ((encLs (w.given.getD i default)).map .t)))]⟩) (fun p => (LBox w (w.given.getD i default).addr).length - p.1.1) ⟨(0, 0), by simp, by simp, by simp [haveN]⟩ rfl ?_ ?_
        · simp -implicitDefEqProofs only [go_sem, hh]
          simp
        · rintro ⟨⟨k, v2⟩, hk', h1, hv2⟩
          dsimp only at hk' h1 hv2 ⊢
          by_cases hlt2 : (k : Int) < (LBox w (w.given.getD i default).addr).length
          · skip
            obtain ⟨_, ⟨lg, zg⟩⟩ := LBox_ok zw (w.given.getD i default).addr _ (getD_mem (xs := (LBox w (w.given.getD i default).addr)) (j := k) (by omega))
            have y1 : ∀ s ∈ ((LBox w (w.given.getD i default).addr).getD k default).body, s.size ≤ 2000000 := fun s hs => by have : s.size ≤ 1048576 := zg s hs; omega
            have y2 : ((LBox w (w.given.getD i default).addr).getD k default).body.length ≤ 2000000 := by omega
            have hst2 := sum_step (f := genN (w.given.getD i default)) (xs := (LBox w (w.given.getD i default).addr)) (i := k) (by omega)
            have hrest2 := sum_drop (f := genN (w.given.getD i default)) (xs := (LBox w (w.given.getD i default).addr)) (fun x _ => (genN_b _ x).1) (k + 1)
            have hb2 := sum_le (f := genN (w.given.getD i default)) (B := 1) (xs := (LBox w (w.given.getD i default).addr)) fun m _ => genN_b _ m
            have hb3 : haveN w (w.given.getD i default) = sumL (genN (w.given.getD i default)) (LBox w (w.given.getD i default).addr) := rfl
            have hb4 := LBox_len (w.given.getD i default).addr zn
            simp -implicitDefEqProofs only [hlt2, decide_true, Int.toNat_natCast, go_sem, hh]
            repeat' (first | with_reducible apply And.intro | with_reducible intro _ | ((first | apply brB_split | apply aPickB_split | apply gB_split | apply adB_split) <;> intro hb <;> simp -implicitDefEqProofs only [hb, go_sem, hh] <;> try simp only [qz] at hb))
            all_goals (try simp only [maxLen, Int.toNat_natCast, bOf_t, bOf_f] at *)
            all_goals (try rw [genN_y (genu_y (by with_reducible assumption) (by first | with_reducible assumption | exact .inl (by with_reducible assumption) | exact .inr (by with_reducible assumption)))] at hst2)
            all_goals (try rw [genN_n (by first | exact genu_n2 (by with_reducible assumption) (by with_reducible assumption) | exact genu_n (.inl (by with_reducible assumption)) | exact genu_n (.inr (by with_reducible assumption)))] at hst2)
            all_goals first
              | rfl
              | omega
              | decide
              | with_reducible assumption
              | exact y1 _ (by assumption)
              | contradiction
              | (refine ⟨⟨(k + 1, v2 + 1), by dsimp only; omega, by dsimp only; omega, by dsimp only; omega⟩, by dsimp only; omega, ?_⟩
                 simp -implicitDefEqProofs only [go_sem, hh]
                 simp
                 done)
              | (refine ⟨⟨(k + 1, v2), by dsimp only; omega, by dsimp only; omega, by dsimp only; omega⟩, by dsimp only; omega, ?_⟩
                 simp -implicitDefEqProofs only [go_sem, hh]
                 simp
                 done)
          · have hst2 := sum_end (f := genN (w.given.getD i default)) (xs := (LBox w (w.given.getD i default).addr)) (i := k) (by omega)
            simp -implicitDefEqProofs only [hlt2, decide_false, go_sem, hh]
            repeat' (first | with_reducible apply And.intro | with_reducible intro _ | ((first | apply brB_split | apply aPickB_split | apply gB_split | apply adB_split) <;> intro hb <;> simp -implicitDefEqProofs only [hb, go_sem, hh] <;> try simp only [qz] at hb))
            all_goals (try simp only [maxLen, Int.toNat_natCast] at *)
            all_goals (try rw [twiceN_y (by omega)] at hst)
            all_goals (try rw [twiceN_n (by omega)] at hst)
            all_goals first
              | rfl
              | omega
              | (refine ⟨⟨(i + 1, v + 1), by dsimp only; omega, by dsimp only; omega, by dsimp only; omega⟩, by dsimp only; omega, ?_⟩
                 simp -implicitDefEqProofs only [go_sem, hh]
                 simp
                 done)
              | (refine ⟨⟨(i + 1, v), by dsimp only; omega, by dsimp only; omega, by dsimp only; omega⟩, by dsimp only; omega, ?_⟩
                 simp -implicitDefEqProofs only [go_sem, hh]
                 simp
                 done)
      · have hst := sum_end (f := twiceN w) (xs := w.given) (i := i) (by omega)
        simp -implicitDefEqProofs only [hlt, decide_false, go_sem, hh]
        repeat' (first | with_reducible apply And.intro | with_reducible intro _ | ((first | apply brB_split | apply aPickB_split | apply gB_split | apply adB_split) <;> intro hb <;> simp -implicitDefEqProofs only [hb, go_sem, hh] <;> try simp only [qz] at hb))
        all_goals first | rfl | omega | (rw [← hv, hst, Int.add_zero]; done)
  · have b1 := bOf_n h
    rw [LTwice_n h]
    simp -implicitDefEqProofs only [b1, go_sem, hh]
    repeat' (first | with_reducible apply And.intro | with_reducible intro _ | ((first | apply brB_split | apply aPickB_split | apply gB_split | apply adB_split) <;> intro hb <;> simp -implicitDefEqProofs only [hb, go_sem, hh] <;> try simp only [qz] at hb))
    all_goals first | rfl | omega | assumption | contradiction
end
def c5 : Ct := ctR (lc EWd.ag l0) (fun p => True) (fun p => .t (.v (.bool true)))
section
attribute [local go_sem] c6 c9 c13 c19 c20 Bool.not_true Bool.not_false
set_option maxHeartbeats 1600000 in
theorem good5 {G : Gt} (hG : OkG G) (hh : G.e 6 = roEnt 0 c6 ∧ G.e 9 = roEnt 0 c9 ∧ G.e 13 = roEnt 0 c13 ∧ G.e 19 = roEnt 0 c19 ∧ G.e 20 = roEnt 0 c20) : Gd G 5 (roEnt 0 c5) := by
  refine gR (dp := fun _ => true) (fn := Tryz.f5) (n := 1) (fun _ => rfl) (by kernel_rfl) rfl (by kernel_rfl) hG (Nat.le_of_ble_eq_true rfl) (by kernel_rfl) (by decide) (fun _ _ => .v _) ?_
  rintro ⟨w, ⟨⟩⟩ hpre
  by_cases h0s : szWd w 1048576 < 0
  · have d0s := decide_eq_true h0s
    simp -implicitDefEqProofs only [Tryz.f5, d0s, go_sem, hh]
    repeat' (first | with_reducible apply And.intro | with_reducible intro _ | ((first | apply brB_split | apply aPickB_split | apply gB_split | apply adB_split) <;> intro hb <;> simp -implicitDefEqProofs only [hb, go_sem, hh] <;> try simp only [qz] at hb))
    all_goals first | rfl | omega | skip
  · have d0s := decide_eq_false h0s
    have ho0 : OkWd w := szWd_ok w (1048576) (by omega) (by omega) (by omega)
    have hz0 := szWd_le w (1048576)
    have hwd : wdN w ≤ 1048576 := szWd_wt (by omega)
    simp -implicitDefEqProofs only [Tryz.f5, d0s, go_sem, hh]
    repeat' (first | with_reducible apply And.intro | with_reducible intro _ | ((first | apply brB_split | apply aPickB_split | apply gB_split | apply adB_split) <;> intro hb <;> simp -implicitDefEqProofs only [hb, go_sem, hh] <;> try simp only [qz] at hb))
    all_goals first | rfl | omega | with_reducible assumption | exact absurd rfl (by assumption) | (simp at *; done) | trace_state
end
end Go.V
namespace Go.V
open Go Go.Proofs Go.ChangeShapes Go.WideShapes Go.ChangeAt Go.RowKit
set_option maxRecDepth 100000
section
variable {H : Type} {enc : TypeId × Value → H} {W : World} {P : Program}
def pW (W : World) : Nat → Prop := fun b => b < W.heap.size
def Rd (P : Program) (W : World) (enc : TypeId × Value → H) (t : TypeId) (q : List T → Prop) : Prop :=
  ∀ (n : Nat) (cs : List Value) (x : DataW H × List MemPlace), DataW.trod enc P W 0 (fun _ => true) true n t cs = some x → ∃ ts, q ts ∧ RoL W (pW W) ts cs
theorem Rd.str {t : TypeId} (u : P.underlying t = some .string) : Rd P W enc t fun ts => ∃ s, ts = [.v (.string s)] := fun n cs x h => by
  obtain ⟨s, rfl, _, hs⟩ := DataW.trod_string u h
  exact ⟨_, ⟨s, rfl⟩, .cons _ _ _ _ (.v _ hs) .nil⟩
theorem Rd.int {t : TypeId} (u : P.underlying t = some (.int .i64)) : Rd P W enc t fun ts => ∃ k, ts = [.v (.int .i64 k)] := fun n cs x h => by
  obtain ⟨k, rfl, _, hs⟩ := DataW.trod_int u h
  exact ⟨_, ⟨k, rfl⟩, .cons _ _ _ _ (.v _ trivial) .nil⟩
theorem fieldAt {fs : Array Field} {l : List (TypeId × Nat)} (hl : (fs.toList.map fun f => (f.type, f.offset)) = l) {i : Nat} {t : TypeId} {o : Nat} (hi : l[i]? = some (t, o)) : ∃ f, fs[i]? = some f ∧ f.type = t ∧ f.offset = o := by
  rw [← hl, List.getElem?_map] at hi
  cases hf : fs.toList[i]? with
  | none => rw [hf] at hi; cases hi
  | some f =>
    rw [hf] at hi
    simp only [Option.map_some, Option.some.injEq, Prod.mk.injEq] at hi
    exact ⟨f, by rw [← Array.getElem?_toList]; exact hf, hi.1, hi.2⟩
theorem Rd.field {t : TypeId} {fs : Array Field} (u : P.underlying t = some (.struct fs)) {n : Nat} {cs : List Value} {x : DataW H × List MemPlace} (h : DataW.trod enc P W 0 (fun _ => true) true n t cs = some x)
    {l : List (TypeId × Nat)} (hl : (fs.toList.map fun f => (f.type, f.offset)) = l) {i : Nat} {ft : TypeId} {o k : Nat} (hi : l[i]? = some (ft, o)) (hk : P.cellsOf ft = k) {q : List T → Prop} (hr : Rd P W enc ft q) :
    ∃ ts, q ts ∧ RoL W (pW W) ts ((cs.drop o).take k) := by
  obtain ⟨xs, m, rfl, _, _, hxs, hf⟩ := DataW.trod_struct u h
  obtain ⟨f, h1, h2, h3⟩ := fieldAt hl hi
  have h4 := hf i f h1
  rw [h2, h3, hk] at h4
  have hlt : i < xs.length := by
    rw [hxs]
    exact (Array.getElem?_eq_some_iff.1 h1).1
  rw [List.getElem?_eq_getElem hlt] at h4
  exact hr _ _ _ h4
theorem Rd.len {t : TypeId} {fs : Array Field} (u : P.underlying t = some (.struct fs)) {n : Nat} {cs : List Value} {x : DataW H × List MemPlace} (h : DataW.trod enc P W 0 (fun _ => true) true n t cs = some x) : cs.length = P.cellsOf t := by
  obtain ⟨xs, m, rfl, _, h3, _, _⟩ := DataW.trod_struct u h
  exact h3
theorem Rd.slice {α : Type} (E : Enc α) {t e : TypeId} (u : P.underlying t = some (.slice e)) (hn : P.cellsOf e = E.n) (h0 : 0 < E.n) (he : Rd P W enc e fun ts => ∃ a, ts = E.enc a) :
    Rd P W enc t fun ts => ∃ xs : List α, ts = [.sl E.n (xs.map E.enc)] := fun n cs x h => by
  rcases DataW.trod_slice u h with ⟨rfl, _⟩ | ⟨a, len, cap, elems, rest, m, rfl, rfl, _, _, hlc, hcm, hel, hes, _⟩
  · exact ⟨_, ⟨[], rfl⟩, .cons _ _ _ _ (.nil _) .nil⟩
  · rw [hn] at hes
    have key : ∀ k, k ≤ len → ∃ (xs : List α) (vs : List Value), xs.length = k ∧ vs.length = k * E.n ∧ RoL W (pW W) (xs.map E.enc).flatten vs ∧ (0 < k → a.block < W.heap.size) ∧ ∀ j v, vs[j]? = some v → W.cell? (a.add j) = some v := fun k => by
      induction k with
      | zero => exact fun _ => ⟨[], [], rfl, by simp, .nil, fun h => absurd h (Nat.lt_irrefl _), fun j v hj => by simp at hj⟩
      | succ k ih =>
        intro hk
        obtain ⟨xs, vs, h1, h2, h3, h4, h5⟩ := ih (by omega)
        have h6 := hes k (by omega)
        rw [List.getElem?_eq_getElem (by omega)] at h6
        obtain ⟨cs, h7, h8⟩ := Option.bind_eq_some_iff.1 h6
        obtain ⟨ts, ⟨y, rfl⟩, h9⟩ := he _ _ _ h8
        obtain ⟨q1, q2, q3⟩ := World.cells?_some h7
        have hb : a.block < W.heap.size := by
          have := World.cells?_block h7 h0
          rwa [block_add] at this
        refine ⟨xs ++ [y], vs ++ cs, by simp [h1], ?_, ?_, fun _ => hb, fun j v hj => ?_⟩
        · have : cs.length = E.n := by rw [← h9.len, E.len]
          rw [List.length_append, h2, this, Nat.succ_mul]
        · rw [List.map_append, List.flatten_append]
          exact h3.append (by simpa using h9)
        · by_cases hj2 : j < vs.length
          · rw [List.getElem?_append_left hj2] at hj
            exact h5 j v hj
          · rw [List.getElem?_append_right (by omega)] at hj
            have hjl : j - vs.length < E.n := by
              have := (List.getElem?_eq_some_iff.1 hj).1
              have h10 : cs.length = E.n := by rw [← h9.len, E.len]
              omega
            have := q3 (j - vs.length) hjl
            rw [add_add'] at this
            rw [show j = k * E.n + (j - vs.length) from by omega, this]
            exact hj
    obtain ⟨xs, vs, h1, h2, h3, h4, h5⟩ := key len (Nat.le_refl _)
    refine ⟨_, ⟨xs, rfl⟩, .cons _ _ _ _ (.sl E.n _ a len cap vs (by simp [h1]) hlc hcm (fun hne => ?_) (fun c hc => ?_) h5 h3) .nil⟩
    · refine h4 ?_
      rcases Nat.eq_zero_or_pos len with h | h
      · exact absurd (by rw [List.eq_nil_of_length_eq_zero (h1.trans h)]; rfl) hne
      · exact h
    · obtain ⟨y, _, rfl⟩ := List.mem_map.1 hc
      exact E.len y
theorem RoL.cut {W : World} {pr : Nat → Prop} {ts ts' : List T} {cs : List Value} (o k : Nat) (h1 : RoL W pr ts ((cs.drop o).take k)) (h2 : RoL W pr ts' (cs.drop (o + k))) : RoL W pr (ts ++ ts') (cs.drop o) := by
  have e : cs.drop o = (cs.drop o).take k ++ cs.drop (o + k) := by rw [← List.drop_drop, List.take_append_drop]
  rw [e]
  exact h1.append h2
theorem RoL.stop {W : World} {pr : Nat → Prop} {cs : List Value} {n : Nat} (h : cs.length = n) : RoL W pr [] (cs.drop n) := by
  rw [List.drop_of_length_le (by omega)]
  exact .nil
end
end Go.V
namespace Go.Proofs.YtbhhplmkhagobaaGreatDoor
open Go Go.Proofs Go.ChangeShapes Go.WideShapes Go.ChangeAt Go.RowKit
set_option maxRecDepth 100000
theorem own : ownKnob Tryz.prog.godebug = none := by kernel_rfl
def flatD : Nat → DataW Unit → List Value
  | 0, _ => []
  | _ + 1, .lit (.int k v) => [.int k v]
  | n + 1, .agg xs => xs.flatMap (flatD n)
  | _ + 1, _ => []
noncomputable def gOf (n : String) : Nat := (Tryz.prog.globalNamed n).getD 0
noncomputable def layAt (n : String) (d : DataW Unit) (h : Array Obj) : Array Obj := h.modify (gOf n) fun
  | .cells _ t frozen => .cells (flatD 5 d).toArray t frozen
  | o => o
noncomputable def laidWorld (os : Os) : World :=
  { World.holding Tryz.prog os ⟨#[], #[], []⟩ with heap := layAt "unicode/utf8.first" Rows.laid_unicode_utf8_first (layAt "unicode/utf8.acceptRanges" Rows.laid_unicode_utf8_acceptRanges (World.holding Tryz.prog os ⟨#[], #[], []⟩).heap) }
noncomputable def args0 : Array Value := #[.agg #[.slice none 0 0, .int .i64 0, .int .i64 0, .slice none 0 0]]
theorem laid_met (os : Os) : laidMet Tryz.prog Rows.fnExactLookTwiceRow.laid ((laidWorld os).forCall (fun _ _ => 0) ⟨#[], args0, []⟩).memory :=
  laidMet_of_run' 8 (by kernel_rfl) (by kernel_rfl)
theorem reads (os : Os) {H : Type} (enc : TypeId × Value → H) : ∃ places, DataW.whole enc Tryz.prog ((laidWorld os).forCall (fun _ _ => 0) ⟨#[], args0, []⟩).memory Tryz.f5.params.toList Rows.fnExactLookTwiceSpec.vars false args0.toList 8 = some ([.agg [.nil, .lit (.int .i64 0), .lit (.int .i64 0), .nil]], [], places) :=
  ⟨[], by kernel_rfl⟩
theorem func5 : Tryz.prog.funcs[5]? = some Tryz.f5 := by kernel_rfl
def Every : Prop := ∀ (H : Type) (enc : TypeId × Value → H) (W : World) (base : Nat) (args : Array Value) (ds gs : List (DataW H)) (before : List MemPlace)
    (_ : ∀ (j : Nat) t v, Tryz.f5.params[j]? = some t → args[j]? = some v → Value.okWide Tryz.prog W .any base t v)
    (_ : DataW.Whole enc Tryz.prog Tryz.f5.params.toList Rows.fnExactLookTwiceSpec.vars false W args.toList ds gs before) (_ : W.ShapedOpen Tryz.prog),
    Calls Tryz.prog 5 args W fun e W' => ∃ v, e = .returned v ∧ Rows.fnExactLookTwiceSpec.post enc Tryz.prog Tryz.f5 false true false false W args v W'
theorem lifted (hE : Every) (os : Os) (started : os.Started) (H : Type) (enc : TypeId × Value → H) (F : Stop.Interp) :
    ReturnsInHanded {} Tryz.checked os 5 .any ((OpenSpec.ofChange Rows.fnExactLookTwiceSpec).preRow enc Tryz.prog Tryz.f5 Rows.fnExactLookTwiceRow.domain false Rows.fnExactLookTwiceRow.laid) (((OpenSpec.ofChange Rows.fnExactLookTwiceSpec).at F).post enc Tryz.prog Tryz.f5 false true false false) := by
  obtain ⟨places, hx⟩ := reads os enc
  refine returnsInHanded_of_row (C := Tryz.checked) (s := OpenSpec.ofChange Rows.fnExactLookTwiceSpec) own started (by kernel_rfl) func5
    (witness_row_at (enc := enc) (C := Tryz.checked) false (laidWorld os) args0 rfl (by kernel_rfl) (by kernel_rfl) (by kernel_rfl)
      (OpenSpec.preRow_of_cond 8 hx (by kernel_rfl) (fun k hk => by cases hk) (by kernel_rfl) (laid_met os))) ?_
  intro W base args ds gs before hval hW _ _ _ _ hS _
  exact hE H enc W base args ds gs before hval hW hS
theorem said (hE : Every) : Rows.FnExactLookTwiceSaid :=
  OpenClaim.holds_of_cond 5 Tryz.f5 rfl rfl rfl rfl rfl rfl rfl ⟨rfl, rfl, rfl, rfl, rfl⟩ rfl rfl rfl rfl rfl (by kernel_rfl) func5 (by kernel_rfl)
    (of_decide_eq_true (by kernel_rfl)) (by unfold Func.isWrapper; first | (rw [if_pos (by decide +kernel)]; kernel_rfl) | (rw [if_neg (by decide +kernel)]; exact ⟨rfl, rfl⟩))
    (fun os started H enc _ F => by rw [OpenClaim.pre_eq_preRow]; exact lifted hE os started H enc F)
theorem params5 : Tryz.f5.params = #[25] := rfl
theorem plain (f : FuncId) (fn : Func) (hf : Tryz.pinned.checked.prog.funcNamed "loop.example/satchel/laws.FnExactLookTwice" = some f) (hfn : Tryz.pinned.checked.prog.funcs[f]? = some fn) :
    false = Tryz.pinned.checked.prog.looks [] ∧ ∀ (j : Nat) t, fn.params[j]? = some t → Tryz.pinned.checked.prog.wantsStandIn t = false := by
  obtain rfl : f = 5 := Option.some.inj ((show Tryz.prog.funcNamed "loop.example/satchel/laws.FnExactLookTwice" = some 5 by kernel_rfl).symm.trans hf) |>.symm
  obtain rfl : fn = Tryz.f5 := (Option.some.inj (func5.symm.trans hfn)).symm
  refine ⟨by kernel_rfl, fun j t ht => ?_⟩
  rw [params5] at ht
  have hm : t ∈ [25] := by simpa using Array.mem_of_getElem? ht
  have hall : ([25].all fun u => !Tryz.prog.wantsStandIn u) = true := by kernel_rfl
  exact (show Tryz.prog.wantsStandIn t = false by simpa using List.all_eq_true.1 hall t hm)
theorem card_of (hE : Every) : Rows.FnExactLookTwiceCardSaid :=
  Claim7.holds_tied_plain_at .later [] _ _ _ _ (said hE) (fun _ h => by cases h) (by kernel_rfl) (fun _ h => by cases h) fnExactLookTwice_row_tie rfl ⟨rfl, rfl⟩ (by kernel_rfl) rfl plain (by kernel_rfl)
end Go.Proofs.YtbhhplmkhagobaaGreatDoor
namespace Go.V
open Go Go.Proofs Go.ChangeShapes Go.WideShapes Go.ChangeAt Go.RowKit
set_option maxRecDepth 100000
set_option linter.unusedVariables false
set_option maxHeartbeats 4000000 in
theorem con5 (m : Int) (w : Wd) : Con Tryz.prog m 5 ((lc EWd.ag l0).enc (w, ())) ((lc EWd.ag l0).enc (w, ())) (.t (.v (.bool true))) := by
  have g0 : GOk Tryz.prog (Gof m []) ∧ GDet (Gof m []) := GOk_nil
  have g1 := GOk_cons g0 (good7 g0)
  have g2 := GOk_cons g1 (good117 g1)
  have g3 := GOk_cons g2 (good177 g2 ⟨rfl, rfl⟩)
  have g4 := GOk_cons g3 (good154 g3 rfl)
  have g5 := GOk_cons g4 (good120 g4 ⟨rfl, rfl⟩)
  have g6 := GOk_cons g5 (good82 g5 rfl)
  have g7 := GOk_cons g6 (good152 g6)
  have g8 := GOk_cons g7 (good118 g7 rfl)
  have g9 := GOk_cons g8 (good80 g8 ⟨rfl, rfl⟩)
  have g10 := GOk_cons g9 (good46 g9 rfl)
  have g11 := GOk_cons g10 (good22 g10 rfl)
  have g12 := GOk_cons g11 (good191 g11 rfl)
  have g13 := GOk_cons g12 (good176 g12 rfl)
  have g14 := GOk_cons g13 (good153 g13 ⟨rfl, rfl, rfl⟩)
  have g15 := GOk_cons g14 (good119 g14 rfl)
  have g16 := GOk_cons g15 (good81 g15 rfl)
  have g17 := GOk_cons g16 (good45 g16 ⟨rfl, rfl, rfl, rfl⟩)
  have g18 := GOk_cons g17 (good21 g17 rfl)
  have g19 := GOk_cons g18 (good6 g18 ⟨rfl, rfl⟩)
  have g20 := GOk_cons g19 (good10 g19)
  have g21 := GOk_cons g20 (good124 g20)
  have g22 := GOk_cons g21 (good179 g21 ⟨rfl, rfl⟩)
  have g23 := GOk_cons g22 (good158 g22 rfl)
  have g24 := GOk_cons g23 (good127 g23 ⟨rfl, rfl⟩)
  have g25 := GOk_cons g24 (good92 g24 rfl)
  have g26 := GOk_cons g25 (good156 g25)
  have g27 := GOk_cons g26 (good125 g26 rfl)
  have g28 := GOk_cons g27 (good90 g27 ⟨rfl, rfl⟩)
  have g29 := GOk_cons g28 (good52 g28 rfl)
  have g30 := GOk_cons g29 (good25 g29 rfl)
  have g31 := GOk_cons g30 (good192 g30 rfl)
  have g32 := GOk_cons g31 (good178 g31 rfl)
  have g33 := GOk_cons g32 (good157 g32 ⟨rfl, rfl, rfl⟩)
  have g34 := GOk_cons g33 (good126 g33 rfl)
  have g35 := GOk_cons g34 (good91 g34 rfl)
  have g36 := GOk_cons g35 (good51 g35 ⟨rfl, rfl, rfl, rfl⟩)
  have g37 := GOk_cons g36 (good24 g36 rfl)
  have g38 := GOk_cons g37 (good9 g37 ⟨rfl, rfl⟩)
  have g39 := GOk_cons g38 (good61 g38)
  have g40 := GOk_cons g39 (good62 g39)
  have g41 := GOk_cons g40 (good28 g40 ⟨rfl, rfl⟩)
  have g42 := GOk_cons g41 (good12 g41 rfl)
  have g43 := GOk_cons g42 (good145 g42 ⟨rfl, rfl⟩)
  have g44 := GOk_cons g43 (good108 g43 rfl)
  have g45 := GOk_cons g44 (good171 g44)
  have g46 := GOk_cons g45 (good143 g45 rfl)
  have g47 := GOk_cons g46 (good106 g46 ⟨rfl, rfl⟩)
  have g48 := GOk_cons g47 (good64 g47 rfl)
  have g49 := GOk_cons g48 (good30 g48 rfl)
  have g50 := GOk_cons g49 (good198 g49 rfl)
  have g51 := GOk_cons g50 (good188 g50 rfl)
  have g52 := GOk_cons g51 (good172 g51 ⟨rfl, rfl, rfl⟩)
  have g53 := GOk_cons g52 (good144 g52 rfl)
  have g54 := GOk_cons g53 (good107 g53 rfl)
  have g55 := GOk_cons g54 (good63 g54 ⟨rfl, rfl, rfl, rfl⟩)
  have g56 := GOk_cons g55 (good29 g55 rfl)
  have g57 := GOk_cons g56 (good13 g56 ⟨rfl, rfl⟩)
  have g58 := GOk_cons g57 (good49 g57)
  have g59 := GOk_cons g58 (good121 g58 rfl)
  have g60 := GOk_cons g59 (good50 g59)
  have g61 := GOk_cons g60 (good88 g60 rfl)
  have g62 := GOk_cons g61 (good123 g61)
  have g63 := GOk_cons g62 (good89 g62 ⟨rfl, rfl⟩)
  have g64 := GOk_cons g63 (good48 g63 ⟨rfl, rfl⟩)
  have g65 := GOk_cons g64 (good41 g64)
  have g66 := GOk_cons g65 (good83 g65 ⟨rfl, rfl, rfl⟩)
  have g67 := GOk_cons g66 (good84 g66)
  have g68 := GOk_cons g67 (good85 g67)
  have g69 := GOk_cons g68 (good86 g68 rfl)
  have g70 := GOk_cons g69 (good155 g69 ⟨rfl, rfl⟩)
  have g71 := GOk_cons g70 (good122 g70 ⟨rfl, rfl, rfl, rfl, rfl⟩)
  have g72 := GOk_cons g71 (good87 g71 ⟨rfl, rfl⟩)
  have g73 := GOk_cons g72 (good47 g72 ⟨rfl, rfl, rfl, rfl, rfl⟩)
  have g74 := GOk_cons g73 (good40 g73)
  have g75 := GOk_cons g74 (good23 g74 ⟨rfl, rfl, rfl, rfl, rfl⟩)
  have g76 := GOk_cons g75 (good8 g75 rfl)
  have g77 := GOk_cons g76 (good110 g76 rfl)
  have g78 := GOk_cons g77 (good111 g77 ⟨rfl, rfl⟩)
  have g79 := GOk_cons g78 (good69 g78 ⟨rfl, rfl, rfl⟩)
  have g80 := GOk_cons g79 (good42 g79 rfl)
  have g81 := GOk_cons g80 (good19 g80 ⟨rfl, rfl, rfl, rfl, rfl⟩)
  have g82 := GOk_consX g81 (good197 m)
  have g83 := GOk_cons g82 (good186 g82 rfl)
  have g84 := GOk_consX g83 (good205 m)
  have g85 := GOk_cons g84 (good199 g84 rfl)
  have g86 := GOk_consX g85 (good200 m)
  have g87 := GOk_cons g86 (good201 g86)
  have g88 := GOk_cons g87 (good206 g87)
  have g89 := GOk_cons g88 (good202 g88 rfl)
  have g90 := GOk_cons g89 (good189 g89 ⟨rfl, rfl, rfl, rfl⟩)
  have g91 := GOk_cons g90 (good187 g90 rfl)
  have g92 := GOk_cons g91 (good170 g91 ⟨rfl, rfl⟩)
  have g93 := GOk_cons g92 (good140 g92 rfl)
  have g94 := GOk_cons g93 (good56 g93)
  have g95 := GOk_cons g94 (good165 g94)
  have g96 := GOk_cons g95 (good181 g95)
  have g97 := GOk_cons g96 (good166 g96 rfl)
  have g98 := GOk_cons g97 (good167 g97 rfl)
  have g99 := GOk_cons g98 (good139 g98 ⟨rfl, rfl, rfl⟩)
  have g100 := GOk_cons g99 (good101 g99 ⟨rfl, rfl⟩)
  have g101 := GOk_cons g100 (good102 g100 ⟨rfl, rfl⟩)
  have g102 := GOk_cons g101 (good134 g101)
  have g103 := GOk_cons g102 (good133 g102 rfl)
  have g104 := GOk_cons g103 (good128 g103 rfl)
  have g105 := GOk_cons g104 (good116 g104)
  have g106 := GOk_cons g105 (good173 g105 rfl)
  have g107 := GOk_cons g106 (good148 g106 rfl)
  have g108 := GOk_cons g107 (good147 g107 ⟨rfl, rfl⟩)
  have g109 := GOk_cons g108 (good146 g108 ⟨rfl, rfl, rfl⟩)
  have g110 := GOk_cons g109 (good130 g109 rfl)
  have g111 := GOk_cons g110 (good129 g110 rfl)
  have g112 := GOk_cons g111 (good159 g111 rfl)
  have g113 := GOk_cons g112 (good131 g112 rfl)
  have g114 := GOk_cons g113 (good93 g113 ⟨rfl, rfl, rfl⟩)
  have g115 := GOk_cons g114 (good55 g114 ⟨rfl, rfl⟩)
  have g116 := GOk_cons g115 (good58 g115 rfl)
  have g117 := GOk_cons g116 (good79 g116)
  have g118 := GOk_cons g117 (good96 g117 ⟨rfl, rfl⟩)
  have g119 := GOk_cons g118 (good160 g118)
  have g120 := GOk_cons g119 (good97 g119 rfl)
  have g121 := GOk_cons g120 (good132 g120 ⟨rfl, rfl, rfl, rfl, rfl, rfl⟩)
  have g122 := GOk_cons g121 (good94 g121 ⟨rfl, rfl⟩)
  have g123 := GOk_cons g122 (good161 g122)
  have g124 := GOk_cons g123 (good135 g123 rfl)
  have g125 := GOk_cons g124 (good98 g124 rfl)
  have g126 := GOk_cons g125 (good95 g125 ⟨rfl, rfl⟩)
  have g127 := GOk_cons g126 (good136 g126 rfl)
  have g128 := GOk_cons g127 (good99 g127 rfl)
  have g129 := GOk_consX g128 (good180 m)
  have g130 := GOk_cons g129 (good162 g129 rfl)
  have g131 := GOk_cons g130 (good138 g130 rfl)
  have g132 := GOk_cons g131 (good137 g131)
  have g133 := GOk_cons g132 (good100 g132 ⟨rfl, rfl⟩)
  have g134 := GOk_cons g133 (good53 g133 ⟨rfl, rfl, rfl, rfl, rfl, rfl⟩)
  have g135 := GOk_cons g134 (good78 g134 rfl)
  have g136 := GOk_cons g135 (good43 g135 rfl)
  have g137 := GOk_cons g136 (good54 g136 ⟨rfl, rfl⟩)
  have g138 := GOk_cons g137 (good57 g137)
  have g139 := GOk_cons g138 (good26 g138 ⟨rfl, rfl, rfl, rfl, rfl, rfl⟩)
  have g140 := GOk_cons g139 (good103 g139)
  have g141 := GOk_cons g140 (good141 g140)
  have g142 := GOk_cons g141 (good104 g141 ⟨rfl, rfl⟩)
  have g143 := GOk_cons g142 (good142 g142)
  have g144 := GOk_cons g143 (good105 g143 ⟨rfl, rfl⟩)
  have g145 := GOk_cons g144 (good60 g144)
  have g146 := GOk_cons g145 (good59 g145 ⟨rfl, rfl, rfl, rfl⟩)
  have g147 := GOk_cons g146 (good27 g146 ⟨rfl, rfl⟩)
  have g148 := GOk_cons g147 (good11 g147 ⟨rfl, rfl⟩)
  have g149 := GOk_cons g148 (good112 g148 rfl)
  have g150 := GOk_cons g149 (good190 g149)
  have g151 := GOk_cons g150 (good175 g150 rfl)
  have g152 := GOk_cons g151 (good150 g151 rfl)
  have g153 := GOk_cons g152 (good174 g152 rfl)
  have g154 := GOk_cons g153 (good149 g153 rfl)
  have g155 := GOk_cons g154 (good151 g154 rfl)
  have g156 := GOk_cons g155 (good113 g155 ⟨rfl, rfl, rfl, rfl, rfl⟩)
  have g157 := GOk_cons g156 (good73 g156 ⟨rfl, rfl, rfl⟩)
  have g158 := GOk_cons g157 (good44 g157 ⟨rfl, rfl⟩)
  have g159 := GOk_cons g158 (good20 g158 ⟨rfl, rfl, rfl, rfl⟩)
  have hg := good5 g159 ⟨rfl, rfl, rfl, rfl, rfl⟩
  obtain ⟨res, h1, _, h3, _⟩ := hg.ro ((lc EWd.ag l0).enc (w, ())) (fun r => r = .t (.v (.bool true))) (by
    show c5 _ _
    rw [c5, ctR_eq, (lc EWd.ag l0).ed]
    exact ⟨trivial, rfl⟩)
  rw [h1] at h3
  exact h3
section
variable {H : Type} {enc : TypeId × Value → H} {W : World}
noncomputable def fsOf (t : TypeId) : Array Field := match Tryz.prog.underlying t with | some (.struct fs) => fs | _ => #[]
theorem v9 : Tryz.prog.underlying 9 = some .string := by kernel_rfl
theorem w9 : Tryz.prog.cellsOf 9 = 1 := by kernel_rfl
theorem rdStr : Rd Tryz.prog W enc 9 fun ts => ∃ a, ts = EStr.enc a := fun n cs x h => Rd.str v9 n cs x h
theorem v49 : Tryz.prog.underlying 49 = some (.slice 9) := by kernel_rfl
theorem w49 : Tryz.prog.cellsOf 49 = 1 := by kernel_rfl
theorem v184 : Tryz.prog.underlying 184 = some (.struct (fsOf 184)) := by kernel_rfl
theorem l184 : ((fsOf 184).toList.map fun f => (f.type, f.offset)) = [(9, 0), (9, 1)] := by kernel_rfl
theorem w184 : Tryz.prog.cellsOf 184 = 2 := by kernel_rfl
theorem rdWy : Rd Tryz.prog W enc 184 fun ts => ∃ a, ts = EWy.enc a := fun n cs x h => by
  have hl := Rd.len v184 h
  rw [w184] at hl
  obtain ⟨_, ⟨a0, rfl⟩, h0⟩ := Rd.field v184 h l184 (i := 0) rfl w9 (Rd.str v9)
  obtain ⟨_, ⟨a1, rfl⟩, h1⟩ := Rd.field v184 h l184 (i := 1) rfl w9 (Rd.str v9)
  exact ⟨_, ⟨⟨a0, a1⟩, rfl⟩, (RoL.cut 0 1 h0 (RoL.cut 1 1 h1 (RoL.stop hl)))⟩
theorem v84 : Tryz.prog.underlying 84 = some (.slice 184) := by kernel_rfl
theorem w84 : Tryz.prog.cellsOf 84 = 1 := by kernel_rfl
theorem v86 : Tryz.prog.underlying 86 = some (.struct (fsOf 86)) := by kernel_rfl
theorem l86 : ((fsOf 86).toList.map fun f => (f.type, f.offset)) = [(9, 0), (49, 1), (84, 2)] := by kernel_rfl
theorem w86 : Tryz.prog.cellsOf 86 = 3 := by kernel_rfl
theorem rdCf : Rd Tryz.prog W enc 86 fun ts => ∃ a, ts = ECf.enc a := fun n cs x h => by
  have hl := Rd.len v86 h
  rw [w86] at hl
  obtain ⟨_, ⟨a0, rfl⟩, h0⟩ := Rd.field v86 h l86 (i := 0) rfl w9 (Rd.str v9)
  obtain ⟨_, ⟨a1, rfl⟩, h1⟩ := Rd.field v86 h l86 (i := 1) rfl w49 (Rd.slice EStr v49 w9 (by decide) rdStr)
  obtain ⟨_, ⟨a2, rfl⟩, h2⟩ := Rd.field v86 h l86 (i := 2) rfl w84 (Rd.slice EWy v84 w184 (by decide) rdWy)
  exact ⟨_, ⟨⟨a0, a1, a2⟩, rfl⟩, (RoL.cut 0 1 h0 (RoL.cut 1 1 h1 (RoL.cut 2 1 h2 (RoL.stop hl))))⟩
theorem v3 : Tryz.prog.underlying 3 = some (.int .i64) := by kernel_rfl
theorem w3 : Tryz.prog.cellsOf 3 = 1 := by kernel_rfl
theorem rdInt : Rd Tryz.prog W enc 3 fun ts => ∃ a, ts = EInt.enc a := fun n cs x h => Rd.int v3 n cs x h
theorem v27 : Tryz.prog.underlying 27 = some (.struct (fsOf 27)) := by kernel_rfl
theorem l27 : ((fsOf 27).toList.map fun f => (f.type, f.offset)) = [(9, 0), (9, 1)] := by kernel_rfl
theorem w27 : Tryz.prog.cellsOf 27 = 2 := by kernel_rfl
theorem rdAd : Rd Tryz.prog W enc 27 fun ts => ∃ a, ts = EAd.enc a := fun n cs x h => by
  have hl := Rd.len v27 h
  rw [w27] at hl
  obtain ⟨_, ⟨a0, rfl⟩, h0⟩ := Rd.field v27 h l27 (i := 0) rfl w9 (Rd.str v9)
  obtain ⟨_, ⟨a1, rfl⟩, h1⟩ := Rd.field v27 h l27 (i := 1) rfl w9 (Rd.str v9)
  exact ⟨_, ⟨⟨a0, a1⟩, rfl⟩, (RoL.cut 0 1 h0 (RoL.cut 1 1 h1 (RoL.stop hl)))⟩
theorem v223 : Tryz.prog.underlying 223 = some (.struct (fsOf 223)) := by kernel_rfl
theorem l223 : ((fsOf 223).toList.map fun f => (f.type, f.offset)) = [(27, 0), (3, 2), (3, 3)] := by kernel_rfl
theorem w223 : Tryz.prog.cellsOf 223 = 4 := by kernel_rfl
theorem rdRc : Rd Tryz.prog W enc 223 fun ts => ∃ a, ts = ERc.enc a := fun n cs x h => by
  have hl := Rd.len v223 h
  rw [w223] at hl
  obtain ⟨_, ⟨a0, rfl⟩, h0⟩ := Rd.field v223 h l223 (i := 0) rfl w27 (rdAd)
  obtain ⟨_, ⟨a1, rfl⟩, h1⟩ := Rd.field v223 h l223 (i := 1) rfl w3 (Rd.int v3)
  obtain ⟨_, ⟨a2, rfl⟩, h2⟩ := Rd.field v223 h l223 (i := 2) rfl w3 (Rd.int v3)
  exact ⟨_, ⟨⟨a0, a1, a2⟩, rfl⟩, (RoL.cut 0 2 h0 (RoL.cut 2 1 h1 (RoL.cut 3 1 h2 (RoL.stop hl))))⟩
theorem v186 : Tryz.prog.underlying 186 = some (.slice 223) := by kernel_rfl
theorem w186 : Tryz.prog.cellsOf 186 = 1 := by kernel_rfl
theorem v188 : Tryz.prog.underlying 188 = some (.struct (fsOf 188)) := by kernel_rfl
theorem l188 : ((fsOf 188).toList.map fun f => (f.type, f.offset)) = [(3, 0), (27, 1), (186, 3), (49, 4)] := by kernel_rfl
theorem w188 : Tryz.prog.cellsOf 188 = 5 := by kernel_rfl
theorem rdIm : Rd Tryz.prog W enc 188 fun ts => ∃ a, ts = EIm.enc a := fun n cs x h => by
  have hl := Rd.len v188 h
  rw [w188] at hl
  obtain ⟨_, ⟨a0, rfl⟩, h0⟩ := Rd.field v188 h l188 (i := 0) rfl w3 (Rd.int v3)
  obtain ⟨_, ⟨a1, rfl⟩, h1⟩ := Rd.field v188 h l188 (i := 1) rfl w27 (rdAd)
  obtain ⟨_, ⟨a2, rfl⟩, h2⟩ := Rd.field v188 h l188 (i := 2) rfl w186 (Rd.slice ERc v186 w223 (by decide) rdRc)
  obtain ⟨_, ⟨a3, rfl⟩, h3⟩ := Rd.field v188 h l188 (i := 3) rfl w49 (Rd.slice EStr v49 w9 (by decide) rdStr)
  exact ⟨_, ⟨⟨a0, a1, a2, a3⟩, rfl⟩, (RoL.cut 0 1 h0 (RoL.cut 1 2 h1 (RoL.cut 3 1 h2 (RoL.cut 4 1 h3 (RoL.stop hl)))))⟩
theorem v87 : Tryz.prog.underlying 87 = some (.slice 188) := by kernel_rfl
theorem w87 : Tryz.prog.cellsOf 87 = 1 := by kernel_rfl
theorem v89 : Tryz.prog.underlying 89 = some (.struct (fsOf 89)) := by kernel_rfl
theorem l89 : ((fsOf 89).toList.map fun f => (f.type, f.offset)) = [(3, 0), (87, 1)] := by kernel_rfl
theorem w89 : Tryz.prog.cellsOf 89 = 2 := by kernel_rfl
theorem rdSp : Rd Tryz.prog W enc 89 fun ts => ∃ a, ts = ESp.enc a := fun n cs x h => by
  have hl := Rd.len v89 h
  rw [w89] at hl
  obtain ⟨_, ⟨a0, rfl⟩, h0⟩ := Rd.field v89 h l89 (i := 0) rfl w3 (Rd.int v3)
  obtain ⟨_, ⟨a1, rfl⟩, h1⟩ := Rd.field v89 h l89 (i := 1) rfl w87 (Rd.slice EIm v87 w188 (by decide) rdIm)
  exact ⟨_, ⟨⟨a0, a1⟩, rfl⟩, (RoL.cut 0 1 h0 (RoL.cut 1 1 h1 (RoL.stop hl)))⟩
theorem v211 : Tryz.prog.underlying 211 = some (.struct (fsOf 211)) := by kernel_rfl
theorem l211 : ((fsOf 211).toList.map fun f => (f.type, f.offset)) = [(27, 0), (49, 2)] := by kernel_rfl
theorem w211 : Tryz.prog.cellsOf 211 = 3 := by kernel_rfl
theorem rdGm : Rd Tryz.prog W enc 211 fun ts => ∃ a, ts = EGm.enc a := fun n cs x h => by
  have hl := Rd.len v211 h
  rw [w211] at hl
  obtain ⟨_, ⟨a0, rfl⟩, h0⟩ := Rd.field v211 h l211 (i := 0) rfl w27 (rdAd)
  obtain ⟨_, ⟨a1, rfl⟩, h1⟩ := Rd.field v211 h l211 (i := 1) rfl w49 (Rd.slice EStr v49 w9 (by decide) rdStr)
  exact ⟨_, ⟨⟨a0, a1⟩, rfl⟩, (RoL.cut 0 2 h0 (RoL.cut 2 1 h1 (RoL.stop hl)))⟩
theorem v155 : Tryz.prog.underlying 155 = some (.slice 211) := by kernel_rfl
theorem w155 : Tryz.prog.cellsOf 155 = 1 := by kernel_rfl
theorem v157 : Tryz.prog.underlying 157 = some (.struct (fsOf 157)) := by kernel_rfl
theorem l157 : ((fsOf 157).toList.map fun f => (f.type, f.offset)) = [(27, 0), (155, 2)] := by kernel_rfl
theorem w157 : Tryz.prog.cellsOf 157 = 3 := by kernel_rfl
theorem rdBx : Rd Tryz.prog W enc 157 fun ts => ∃ a, ts = EBx.enc a := fun n cs x h => by
  have hl := Rd.len v157 h
  rw [w157] at hl
  obtain ⟨_, ⟨a0, rfl⟩, h0⟩ := Rd.field v157 h l157 (i := 0) rfl w27 (rdAd)
  obtain ⟨_, ⟨a1, rfl⟩, h1⟩ := Rd.field v157 h l157 (i := 1) rfl w155 (Rd.slice EGm v155 w211 (by decide) rdGm)
  exact ⟨_, ⟨⟨a0, a1⟩, rfl⟩, (RoL.cut 0 2 h0 (RoL.cut 2 1 h1 (RoL.stop hl)))⟩
theorem v90 : Tryz.prog.underlying 90 = some (.slice 157) := by kernel_rfl
theorem w90 : Tryz.prog.cellsOf 90 = 1 := by kernel_rfl
theorem v95 : Tryz.prog.underlying 95 = some (.struct (fsOf 95)) := by kernel_rfl
theorem l95 : ((fsOf 95).toList.map fun f => (f.type, f.offset)) = [(9, 0), (27, 1)] := by kernel_rfl
theorem w95 : Tryz.prog.cellsOf 95 = 3 := by kernel_rfl
theorem rdLs : Rd Tryz.prog W enc 95 fun ts => ∃ a, ts = ELs.enc a := fun n cs x h => by
  have hl := Rd.len v95 h
  rw [w95] at hl
  obtain ⟨_, ⟨a0, rfl⟩, h0⟩ := Rd.field v95 h l95 (i := 0) rfl w9 (Rd.str v9)
  obtain ⟨_, ⟨a1, rfl⟩, h1⟩ := Rd.field v95 h l95 (i := 1) rfl w27 (rdAd)
  exact ⟨_, ⟨⟨a0, a1⟩, rfl⟩, (RoL.cut 0 1 h0 (RoL.cut 1 2 h1 (RoL.stop hl)))⟩
theorem v23 : Tryz.prog.underlying 23 = some (.slice 95) := by kernel_rfl
theorem w23 : Tryz.prog.cellsOf 23 = 1 := by kernel_rfl
theorem v92 : Tryz.prog.underlying 92 = some (.struct (fsOf 92)) := by kernel_rfl
theorem l92 : ((fsOf 92).toList.map fun f => (f.type, f.offset)) = [(86, 0), (89, 3), (90, 5), (23, 6)] := by kernel_rfl
theorem w92 : Tryz.prog.cellsOf 92 = 7 := by kernel_rfl
theorem rdHs : Rd Tryz.prog W enc 92 fun ts => ∃ a, ts = EHs.enc a := fun n cs x h => by
  have hl := Rd.len v92 h
  rw [w92] at hl
  obtain ⟨_, ⟨a0, rfl⟩, h0⟩ := Rd.field v92 h l92 (i := 0) rfl w86 (rdCf)
  obtain ⟨_, ⟨a1, rfl⟩, h1⟩ := Rd.field v92 h l92 (i := 1) rfl w89 (rdSp)
  obtain ⟨_, ⟨a2, rfl⟩, h2⟩ := Rd.field v92 h l92 (i := 2) rfl w90 (Rd.slice EBx v90 w157 (by decide) rdBx)
  obtain ⟨_, ⟨a3, rfl⟩, h3⟩ := Rd.field v92 h l92 (i := 3) rfl w23 (Rd.slice ELs v23 w95 (by decide) rdLs)
  exact ⟨_, ⟨⟨a0, a1, a2, a3⟩, rfl⟩, (RoL.cut 0 3 h0 (RoL.cut 3 2 h1 (RoL.cut 5 1 h2 (RoL.cut 6 1 h3 (RoL.stop hl)))))⟩
theorem v22 : Tryz.prog.underlying 22 = some (.slice 92) := by kernel_rfl
theorem w22 : Tryz.prog.cellsOf 22 = 1 := by kernel_rfl
theorem v25 : Tryz.prog.underlying 25 = some (.struct (fsOf 25)) := by kernel_rfl
theorem l25 : ((fsOf 25).toList.map fun f => (f.type, f.offset)) = [(22, 0), (3, 1), (3, 2), (23, 3)] := by kernel_rfl
theorem w25 : Tryz.prog.cellsOf 25 = 4 := by kernel_rfl
theorem rdWd : Rd Tryz.prog W enc 25 fun ts => ∃ a, ts = EWd.enc a := fun n cs x h => by
  have hl := Rd.len v25 h
  rw [w25] at hl
  obtain ⟨_, ⟨a0, rfl⟩, h0⟩ := Rd.field v25 h l25 (i := 0) rfl w22 (Rd.slice EHs v22 w92 (by decide) rdHs)
  obtain ⟨_, ⟨a1, rfl⟩, h1⟩ := Rd.field v25 h l25 (i := 1) rfl w3 (Rd.int v3)
  obtain ⟨_, ⟨a2, rfl⟩, h2⟩ := Rd.field v25 h l25 (i := 2) rfl w3 (Rd.int v3)
  obtain ⟨_, ⟨a3, rfl⟩, h3⟩ := Rd.field v25 h l25 (i := 3) rfl w23 (Rd.slice ELs v23 w95 (by decide) rdLs)
  exact ⟨_, ⟨⟨a0, a1, a2, a3⟩, rfl⟩, (RoL.cut 0 1 h0 (RoL.cut 1 1 h1 (RoL.cut 2 1 h2 (RoL.cut 3 1 h3 (RoL.stop hl)))))⟩
theorem glOk_of (h : W.ShapedOpen Tryz.prog) : ∃ m, GlOk m W (pW W) := by
  obtain ⟨cs, h1, h2, h3⟩ := h.1 0 #[.int .i64 0] 3 (Nat.lt_of_lt_of_le (Nat.lt_succ_self 0) (Nat.le_of_ble_eq_true (by kernel_rfl))) (by kernel_rfl)
  obtain ⟨ts, t1, _, t3⟩ := h3 (by kernel_rfl)
  have hts : ts = [3] := Option.some.inj (t1.symm.trans (by kernel_rfl))
  subst hts
  have hsz : cs.size = 1 := h2
  have h0 : cs[0]? = some cs[0] := Array.getElem?_eq_getElem (by omega)
  obtain ⟨u, hu, hok⟩ := t3 0 _ h0
  simp at hu
  subst hu
  unfold Cell.ok at hok
  rw [v3] at hok
  generalize cs[0] = v at h0 hok
  have hb : (0 : Nat) < W.heap.size := (Array.getElem?_eq_some_iff.1 h1).1
  cases v with
  | int k n =>
    have hk : k = .i64 := hok.1
    subst hk
    refine ⟨n, .rop _ _ [.int .i64 n] (fun _ => hb) (fun j u hj => ?_) (.cons _ _ _ _ (.v _ trivial) .nil)⟩
    cases j with
    | zero =>
      simp at hj
      subst hj
      simp [World.cell?, Addr.add, glb, h1, h0]
    | succ j => simp at hj
  | _ => exact hok.elim
end
theorem every : YtbhhplmkhagobaaGreatDoor.Every := by
  intro H enc W base args ds gs before hval0 hW hS
  have hval : ∀ (j : Nat) t v, Tryz.f5.params[j]? = some t → args[j]? = some v → Value.okWide Tryz.prog W .any base t v := hval0
  have hW' := hW
  obtain ⟨p, q, hA0, hV, rfl, hfz, hnd⟩ := hW
  have hA : DataW.TrodAll enc Tryz.prog W 0 (fun _ => true) true [25] args.toList ds p := hA0
  rw [YtbhhplmkhagobaaGreatDoor.params5] at hval
  obtain ⟨u0, d0, rfl, rfl, h0⟩ := trodAll_one hA
  obtain ⟨rfl, rfl⟩ := trodVars_none hV
  have hlt : ∀ x ∈ (p) ++ [], x.block < W.heap.size := fun x hx => hW'.lt x hx
  have k0 := h0
  obtain ⟨n0, t0⟩ := h0
  obtain ⟨_, ⟨w, rfl⟩, r0⟩ := (rdWd) _ _ _ t0
  obtain ⟨cs0, rfl, _, _⟩ : ∃ cs, u0 = .agg cs ∧ cs.size = Tryz.prog.cellsOf 25 ∧ _ := by
    have := hval 0 25 u0 rfl rfl
    unfold Value.okWide at this
    rw [v25] at this
    exact this
  have r0' : RoL W (pW W) (EWd.enc w) cs0.toList := r0
  have a0 : AHas ρ0 W (pW W) (.agg ((EWd.enc w).map .t)) (.agg cs0) [] := by
    have ha : AHas ρ0 W (pW W) (.agg ((EWd.enc w).map .t)) (.agg cs0.toList.toArray) [] := .agg _ _ _ r0'.t r0'.ones
    rwa [Array.toArray_toList] at ha
  obtain ⟨m, hgl⟩ := glOk_of hS
  have hargs : AHasL ρ0 W (pW W) ((lc EWd.ag l0).enc (w, ())) [.agg cs0] [] := .cons _ _ _ _ [] [] a0 .nil
  have hcall := con5 m w W (pW W) [.agg cs0] [] hgl hargs .nil (fun b hb => by cases hb) (fun b hb => hb)
  refine Calls.mono hcall fun e W' hq => ?_
  obtain ⟨v, pr', G, F, he, hfr, _, _, _, _, hv, _, _⟩ := hq
  obtain ⟨rfl, _⟩ := hv.val
  have hb : Below W.heap.size W W' := ⟨hfr.os, hfr.tape, hfr.output, hfr.size, fun k hk => hfr.block k hk (by simp)⟩
  refine ⟨_, he, _, _, _, [], p, [], hW', ?_, ?_, rfl, hb.frame _, fun h => by cases h⟩
  · exact trodAll_mk1 (shut_bool (show Tryz.prog.underlying 4 = some .bool by kernel_rfl) _)
  · have := trodAll_mk1 (Below.trod (by kernel_rfl) (by kernel_rfl) (of_decide_eq_true (by kernel_rfl)) k0 hb fun x hx => hlt x (by simp [hx]))
    exact this
end Go.V
namespace Go.Proofs.YtbhhplmkhagobaaGreatDoor
theorem fnExactLookTwice_card : Rows.FnExactLookTwiceCardSaid := card_of Go.V.every
end Go.Proofs.YtbhhplmkhagobaaGreatDoor
